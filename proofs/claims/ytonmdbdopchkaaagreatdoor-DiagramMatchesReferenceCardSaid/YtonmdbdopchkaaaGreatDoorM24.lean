/- Texts W37 W50 W51. -/
import Derived.Test.YtonmdbdopchkaaaGreatDoorM20
import Derived.Test.YtonmdbdopchkaaaGreatDoorM0
set_option linter.all false
namespace Go.Proofs.YtonmdbdopchkaaaGreatDoor
open Go.RowKit
set_option maxHeartbeats 8000000
set_option maxRecDepth 100000
theorem zSw(w:World)(n:Nat):Below w.heap.size w (w.drewN n):=⟨rfl,rfl,rfl,Nat.le_refl _,λ_ _=>rfl⟩
theorem zL.form{Z:zD}{w:World}{v:Value}{xs:List Int}(h:zL Z w v xs):∃A cap,v= .slice A xs.length cap∧xs.length≤17592186044416:=by
 obtain⟨⟨A,cap,rfl,_,_,h3,_⟩,_⟩:=h;exact⟨A,cap,rfl,by omega⟩
theorem zKb(Z Z':zD)(v v':Value)(xs ys:List Int)(w:World)(hx:zL Z w v xs)(hy:zL Z' w v' ys):
  Calls Tryz.prog 63 #[v,v'] w λe w'=>e= .returned (.bool (decide (xs=ys)))∧Below w.heap.size w w':=by
 have hx':=hx;have hy':=hy;obtain⟨⟨A,cap,rfl,h1,h2,h3,-⟩,-⟩:=hx';obtain⟨⟨A',cap',rfl,h1',h2',h3',-⟩,-⟩:=hy';by_cases hl:xs.length=ys.length
 ·by_cases hne:xs=[]
  ·subst hne;have hy0:ys=[]:=List.eq_nil_of_length_eq_zero hl.symm;subst hy0;refine(Tryz.slices_Equal_int_empty A A' cap 0 cap' w (by omega)).mono ?_;rintro e w' ⟨rfl,rfl⟩;exact⟨by simp,Below.refl _ _⟩
  ·(have hyn:ys≠[]:=by intro e;subst e;simp at hl;exact hne hl);obtain⟨b,off,c,e1,-,-,-,hc⟩:=hx.open_ hne;obtain⟨b',off',c',e1',-,-,-,hc'⟩:=hy.open_ hyn;injection e1 with q1 q2 q3;injection e1' with q1' q2' q3';subst q1 q1';refine(Tryz.slices_Equal_int b off xs.length cap b' off' ys.length cap' xs ys w (Nat.le_refl _) (Nat.le_refl _) (by omega) (by omega) hc hc').mono ?_;rintro e w' ⟨rfl,q,rfl⟩;refine⟨?_,zSw w q⟩;rw[List.take_length,List.take_length];congr 2;by_cases e:xs=ys<;>simp[e]
 ·refine(Tryz.slices_Equal_int_lens A A' xs.length cap ys.length cap' w hl).mono ?_;rintro e w' ⟨rfl,rfl⟩;refine⟨?_,Below.refl _ _⟩;rw[decide_eq_false (λe=>hl (by rw[e]))]
theorem zRh(Z Z':zD)(a b:zB)(ca cb:List Value)(w:World)(ha:zd Z w ca a)(hb:zd Z' w cb b):
  Calls Tryz.prog 62 #[.agg ca.toArray,.agg cb.toArray] w λe w'=>e= .returned (.bool (decide (a=b)))∧Below w.heap.size w w':=by
 obtain⟨ac,ak,rfl,-,hac,hak⟩:=ha;obtain⟨bc,bk,rfl,-,hbc,hbk⟩:=hb;have HC:=hid (λW(hW:Below w.heap.size w W)=>zKb Z Z' ac bc a.cuts b.cuts W (hac.keep (.of_below hW)) (hbc.keep (.of_below hW)));have HK:=hid (λW(hW:Below w.heap.size w W)=>zKb Z Z' ak bk a.kids b.kids W (hak.keep (.of_below hW)) (hbk.keep (.of_below hW)));have hb2:=(zE w (.cells #[.bool a.leaf,.int .i64 a.fact,ac,ak] 51)).alloc (by simp) (.cells #[.bool b.leaf,.int .i64 b.fact,bc,bk] 51);have zh:=hid hb2;have HBA:=hid ((Blk.new w 51 #[.bool a.leaf,.int .i64 a.fact,ac,ak]).alloc (.cells #[.bool b.leaf,.int .i64 b.fact,bc,bk] 51));have HBB:=hid (Blk.new' (w.alloc (.cells #[.bool a.leaf,.int .i64 a.fact,ac,ak] 51)) 51 #[.bool b.leaf,.int .i64 b.fact,bc,bk] (n:=w.heap.size+1) (by simp))
 have HE:=hid (show decide (a=b)=(decide (a.fact=b.fact)&&decide (a.leaf=b.leaf)&&decide (a.cuts=b.cuts)&&decide (a.kids=b.kids)) from by
  rw[Bool.eq_iff_iff];simp only[decide_eq_true_eq,Bool.and_eq_true];constructor
  ·rintro rfl;simp
  ·rintro⟨⟨⟨h1,h2⟩,h3⟩,h4⟩
   exact zB.ext' h2 h1 h3 h4)
 clear hac hak hbc hbk hb2;go_enter Tryz.func62,Tryz.ntmps62
 by_cases hf:a.fact=b.fact
 ·have e1:(a.fact==b.fact)=true:=by simp[hf]
  rw[decide_eq_true hf]at HE;clear hf;by_cases hl:a.leaf=b.leaf
  ·(have e2:(a.leaf==b.leaf)=true:=by simp[hl]);rw[decide_eq_true hl]at HE;clear hl;(go_wp2_with fail);refine(HC.out _ zh.out).mono ?_;rintro e w1 ⟨rfl,hb1⟩;have hba:=HBA.out.below hb1 HBA.out.lt;have hbb:=HBB.out.below hb1 HBB.out.lt;have a3:=hba.at3;have b3:=hbb.at3;have a3l:=hba.lt;have b3l:=hbb.lt;have hw1:=zh.out.trans (hb1.mono zh.out.size);have HW1:=hid hw1;clear hba hbb hb1 hw1 HBA HBB zh;by_cases hc:a.cuts=b.cuts
   ·rw[decide_eq_true hc]at HE⊢;clear hc;(go_wp2_with fail);refine(HK.out _ HW1.out).mono ?_;rintro e w2 ⟨rfl,hb2⟩;have hw2:=HW1.out.trans (hb2.mono HW1.out.size);go_wp2;go_ret;rw[HE.out];exact⟨by simp,hw2⟩
   ·rw[decide_eq_false hc]at HE⊢;clear hc;go_wp2;go_ret;rw[HE.out];exact⟨by simp,HW1.out⟩
  ·(have e2:(a.leaf==b.leaf)=false:=by simp[hl]);rw[decide_eq_false hl]at HE;clear hl;go_wp2;go_ret;rw[HE.out];exact⟨by simp,zh.out⟩
 ·have e1:(a.fact==b.fact)=false:=by simp[hf]
  rw[decide_eq_false hf]at HE;clear hf;go_wp2;go_ret;rw[HE.out];exact⟨by simp,zh.out⟩
theorem Tryz.egSame1:∀args w,(callFunc 62 args).run Tryz.prog w= .ok (.enter 62 args) w:=enters_of Tryz.func62 (by kernel_rfl) rfl
theorem zDa{α:Type}{l m:List α}{k:Nat}(h1:k<l.length)(h2:k<m.length)(h:l.take k=m.take k)(e:l[k]=m[k]):l.take (k+1)=m.take (k+1):=by
 rw[List.take_succ_eq_append_getElem h1,List.take_succ_eq_append_getElem h2,h,e]
theorem zNP(Z Z':zD)(v v':Value)(a b:List zB)(w:World)(ha:zO Z w v a)(hb:zO Z' w v' b):
  Calls Tryz.prog 61 #[v,v',.func (.func 62) #[] #[]] w λe w'=>e= .returned (.bool (decide (a=b)))∧Below w.heap.size w w':=by
 have eg:=Tryz.egSame1;obtain⟨A,cap,rfl,hcap,hlen,hat⟩:=ha.open_;obtain⟨A',cap',rfl,hcap',hlen',hat'⟩:=hb.open_;have HA:=hid hat;have HA':=hid hat';clear hat hat' ha hb;go_enter Tryz.func61,Tryz.ntmps61
 by_cases hl:a.length=b.length
 ·have e1:((a.length:Int)!=(b.length:Int))=false:=by simp[hl]
  have HL:=hid hl;clear hl;go_wp2;go_loopw[17] (λi wr=>∃k:Nat,k≤a.length∧i= .int .i64 k∧Below w.heap.size w wr∧Hid (a.take k=b.take k)) (λi _=>a.length-(intOf i).toNat);case atStart=>exact⟨0,Nat.zero_le _,rfl,Below.refl _ _,by simp[Hid]⟩
  case round=>
   obtain⟨k,hk,rfl,hbel,htk⟩:=hrel;by_cases hlt:k<a.length
   ·(have hlt':k<b.length:=by rw[<-HL.out];exact hlt);obtain⟨bb,off,vc,vk,rfl,hz,hbb,c0,c1,c2,c3,hf,hc,hkk⟩:=HA.out k hlt;obtain⟨bb',off',vc',vk',rfl,hz',hbb',c0',c1',c2',c3',hf',hc',hkk'⟩:=HA'.out k hlt';obtain⟨VC,ccap,rfl,-⟩:=hc.form;obtain⟨VK,kcap,rfl,-⟩:=hkk.form;obtain⟨VC',ccap',rfl,-⟩:=hc'.form;obtain⟨VK',kcap',rfl,-⟩:=hkk'.form;have hx:∀{p:Nat}{o:Nat}{u:Value},p<w.heap.size->w.cell? ⟨p,o,none⟩=some u->wr.cell? ⟨p,o,none⟩=some u:=λ{p o u} hp h=>brd hbel h hp;replace c0:=hx hbb c0;replace c1:=hx hbb c1;replace c2:=hx hbb c2;replace c3:=hx hbb c3;replace c0':=hx hbb' c0';replace c1':=hx hbb' c1';replace c2':=hx hbb' c2';replace c3':=hx hbb' c3';have hbr:=lt_of_cell c0;have hbr':=lt_of_cell c0';(have hbr1:bb'<wr.heap.size+1:=by simp at hbr';omega);have HS:=hid (λW(hW:Below w.heap.size w W)=>zRh Z Z' a[k] b[k] [.bool a[k].leaf,.int .i64 a[k].fact,.slice VC a[k].cuts.length ccap,.slice VK a[k].kids.length kcap] [.bool b[k].leaf,.int .i64 b[k].fact,.slice VC' b[k].cuts.length ccap',.slice VK' b[k].kids.length kcap'] W (zd.keep ⟨_,_,rfl,hf,hc,hkk⟩ (.of_below hW)) (zd.keep ⟨_,_,rfl,hf',hc',hkk'⟩ (.of_below hW)));have HNX:=hid (λe=>zDa hlt hlt' htk.out e);have HNE:=hid (show a[k]≠b[k]->a≠b from λh e=>h (by subst e;rfl));(have hk1:((k:Nat):Int)<(a.length:Int):=by omega);(have hk2:((k:Nat):Int)<(b.length:Int):=by omega);(have hk0:(0:Int)≤((k:Nat):Int):=by omega);have HBW:=hid ((hbel.alloc hbel.size (.cells #[.bool a[k].leaf,.int .i64 a[k].fact,.slice VC a[k].cuts.length ccap,.slice VK a[k].kids.length kcap] 51)).alloc (by have:=hbel.size;simp;omega) (.cells #[.bool b[k].leaf,.int .i64 b[k].fact,.slice VC' b[k].cuts.length ccap',.slice VK' b[k].kids.length kcap'] 51));clear hx hbel hf hf' hc hc' hkk hkk';obtain⟨⟨x,hxe⟩,⟨y,hye⟩⟩:(∃x,x=a[k])∧(∃y,y=b[k]):=⟨⟨_,rfl⟩,⟨_,rfl⟩⟩;rw[<-hxe]at HS HNX HNE HBW c0 c1 c2 c3;rw[<-hye]at HS HNX HNE HBW c0' c1' c2' c3';clear hxe hye;by_cases hxy:x=y
    ·have zG0:=hid (HNX.out hxy);have HS2:=HS.out;rw[decide_eq_true hxy]at HS2;have HS3:=hid HS2;clear HS HS2 hxy HNX;(go_wp2_with fail);refine(HS3.out _ HBW.out).mono ?_;rintro e w1 ⟨rfl,hb1⟩;have hbw:=HBW.out.trans (hb1.mono HBW.out.size);go_wp2;go_roundw;(case rel=>exact⟨k+1,by omega,by go_num,hbw,zG0⟩);case measure=>simp[intOf];omega
    ·have zOd:=hid (HNE.out hxy);have HS2:=HS.out;rw[decide_eq_false hxy]at HS2;have HS3:=hid HS2;clear HS HS2 hxy HNX;(go_wp2_with fail);refine(HS3.out _ HBW.out).mono ?_;rintro e w1 ⟨rfl,hb1⟩;have hbw:=HBW.out.trans (hb1.mono HBW.out.size);go_wp2;go_ret;rw[decide_eq_false zOd.out];exact⟨rfl,hbw⟩
   ·(obtain rfl:k=a.length:=by omega);have HEQ:=hid (show a=b from by have h:=htk.out;rw[List.take_length]at h;rw[h,HL.out,List.take_length]);clear htk;go_wp2;go_ret;rw[decide_eq_true HEQ.out];exact⟨rfl,hbel⟩
 ·have e1:((a.length:Int)!=(b.length:Int))=true:=by simp;omega
  have HN:=hid (show a≠b from λe=>hl (by rw[e]));clear hl;go_wp2;go_ret;rw[decide_eq_false HN.out];exact⟨rfl,Below.refl _ _⟩
theorem zMJ(Z Z':zD)(v v':Value)(a b:List zB)(w:World)(ha:zO Z w v a)(hb:zO Z' w v' b):
  Calls Tryz.prog 19 #[.agg #[v],.agg #[v']] w λe w'=>e= .returned (.bool (decide (a=b)))∧Below w.heap.size w w':=by
 have hb2:=(zE w (.cells #[v] 30)).alloc (by simp) (.cells #[v'] 30);have HC:=hid (zNP Z Z' v v' a b _ (ha.keep (.of_below hb2)) (hb.keep (.of_below hb2)));have zh:=hid hb2;obtain⟨A,cap,rfl,-⟩:=ha;obtain⟨A',cap',rfl,-⟩:=hb;clear hb2;go_enter Tryz.func19,Tryz.ntmps19
 go_wp2_with fail
 refine HC.out.mono ?_;rintro e w1 ⟨rfl,hb1⟩;have hbw:=zh.out.trans (hb1.mono zh.out.size);go_wp2;go_ret;exact⟨rfl,hbw⟩
theorem zJ4(Z Z':zD)(v v':Value)(xs ys:List Int)(w:World)(hx:zL Z w v xs)(hy:zL Z' w v' ys):
  Calls Tryz.prog 14 #[v,v'] w λe w'=>e= .returned (.bool (decide (xs=ys)))∧Below w.heap.size w w':=by
 have HX:=hid hx;have HY:=hid hy;obtain⟨A,cap,rfl,hlx⟩:=hx.form;obtain⟨A',cap',rfl,hly⟩:=hy.form;clear hx hy;go_enter Tryz.func14,Tryz.ntmps14
 by_cases hl:xs.length=ys.length
 ·have e1:((xs.length:Int)!=(ys.length:Int))=false:=by simp[hl]
  have HL:=hid hl;clear hl;go_wp2;go_loopw[5] (λi wr=>∃k:Nat,k≤xs.length∧i= .int .i64 k∧Below w.heap.size w wr∧Hid (xs.take k=ys.take k)) (λi _=>xs.length-(intOf i).toNat);case atStart=>exact⟨0,Nat.zero_le _,rfl,Below.refl _ _,by simp[Hid]⟩
  case round=>
   obtain⟨k,hk,rfl,hbel,htk⟩:=hrel;by_cases hlt:k<xs.length
   ·(have hlt':k<ys.length:=by rw[<-HL.out];exact hlt);obtain⟨b,off,rfl,-,hb,hc⟩:=HX.out.at_ hlt;obtain⟨b',off',rfl,-,hb',hc'⟩:=HY.out.at_ hlt';replace hc:=brd hbel hc hb;replace hc':=brd hbel hc' hb';have hbr:=lt_of_cell hc;have hbr':=lt_of_cell hc';have HNX:=hid (λe=>zDa hlt hlt' htk.out e);have HNE:=hid (show xs[k]≠ys[k]->xs≠ys from λh e=>h (by subst e;rfl));(have hk1:((k:Nat):Int)<(xs.length:Int):=by omega);(have hk2:((k:Nat):Int)<(ys.length:Int):=by omega);(have hk0:(0:Int)≤((k:Nat):Int):=by omega);have HB:=hid hbel;clear hbel hb hb' htk;generalize xs[k]=x at*;generalize ys[k]=y at*;by_cases hxy:x=y
    ·(have e2:(x !=y)=false:=by simp[hxy]);have zG0:=hid (HNX.out hxy);clear hxy HNX HNE;go_wp2;go_quiet(fail);go_wp2;go_roundw;(case rel=>exact⟨k+1,by omega,by go_num,below_drewN' HB.out _,zG0⟩);case measure=>simp[intOf];omega
    ·(have e2:(x !=y)=true:=by simp[hxy]);have zOd:=hid (HNE.out hxy);clear hxy HNX HNE;go_wp2;go_quiet(fail);go_wp2;go_ret;rw[decide_eq_false zOd.out];exact⟨rfl,below_drewN' HB.out _⟩
   ·(obtain rfl:k=xs.length:=by omega);have HEQ:=hid (show xs=ys from by have h:=htk.out;rw[List.take_length]at h;rw[h,HL.out,List.take_length]);clear htk;go_wp2;go_ret;rw[decide_eq_true HEQ.out];exact⟨rfl,hbel⟩
 ·have e1:((xs.length:Int)!=(ys.length:Int))=true:=by simp;omega
  have HN:=hid (show xs≠ys from λe=>hl (by rw[e]));clear hl;go_wp2;go_ret;rw[decide_eq_false HN.out];exact⟨rfl,Below.refl _ _⟩
def zKD(g:List zB)(n:Int):Bool:=decide ((g.length:Int)≤n)&&g.all λx=>decide ((x.kids.length:Int)≤n)&&decide ((x.cuts.length:Int)≤n)
theorem zKc(Z:zD)(v:Value)(g:List zB)(n:Int)(w:World)(hg:zO Z w v g):
  Calls Tryz.prog 6 #[.agg #[v],.int .i64 n] w λe w'=>e= .returned (.bool (zKD g n))∧Below w.heap.size w w':=by
 obtain⟨A,cap,rfl,hcap,hlen,hat⟩:=hg.open_;have HAT:=hid hat;have HU:=hid (show zKD g n=(decide ((g.length:Int)≤n)&&g.all λx=>decide ((x.kids.length:Int)≤n)&&decide ((x.cuts.length:Int)≤n)) from rfl);have hb0:=zE w (.cells #[.slice A g.length cap] 30);have hg0:=(Blk.new w 30 #[.slice A g.length cap]).cell 0;have HB0:=hid (And.intro hb0 hg0);clear hat hg hb0 hg0;go_enter Tryz.func6,Tryz.ntmps6
 go_wp2;go_loopw[5] (λi wr=>∃k:Nat,k≤g.length∧i= .int .i64 k∧wr.cell? ⟨w.heap.size,0,none⟩=some (.slice A g.length cap)∧Below w.heap.size w wr∧Hid (∀j,j<k->(((g.getD j zBO).kids.length :Int)≤n∧((g.getD j zBO).cuts.length :Int)≤n))) (λi _=>g.length-(intOf i).toNat);case atStart=>exact⟨0,Nat.zero_le _,rfl,HB0.out.2,HB0.out.1,λj hj=>absurd hj (Nat.not_lt_zero _)⟩
 case round=>
  obtain⟨k,hk,rfl,hg0,hbel,hall⟩:=hrel;have hg0l:=lt_of_cell hg0;have HB:=hid hbel;by_cases hln:(g.length:Int)≤n
  ·(have e0:decide ((g.length:Int)≤n)=true:=by simpa using hln);rw[e0,Bool.true_and]at HU;by_cases hlt:k<g.length
   ·obtain⟨b,off,vc,vk,rfl,-,hb,-,-,c2,c3,-,hc,hkk⟩:=HAT.out k hlt;obtain⟨VC,ccap,rfl,hlc⟩:=hc.form;obtain⟨VK,kcap,rfl,hlk⟩:=hkk.form;replace c2:=brd hbel c2 hb;replace c3:=brd hbel c3 hb;have hbr:=lt_of_cell c2;(have hk1:((k:Nat):Int)<(g.length:Int):=by omega);(have hk0:(0:Int)≤((k:Nat):Int):=by omega);have hgd:g.getD k zBO=g[k]:=by simp[List.getD_eq_getElem?_getD,hlt]
    have zDl:=hid (show ¬((g[k].kids.length :Int)≤n∧(g[k].cuts.length :Int)≤n)->(g.all λx=>decide ((x.kids.length:Int)≤n)&&decide ((x.cuts.length:Int)≤n))=false from λh=>by
     rw[List.all_eq_false]
     exact⟨g[k],List.getElem_mem hlt,by simpa using h⟩)
    have HNX:=hid (show((g[k].kids.length :Int)≤n∧(g[k].cuts.length :Int)≤n)->∀j,j<k+1->(((g.getD j zBO).kids.length :Int)≤n∧((g.getD j zBO).cuts.length :Int)≤n) from λh j hj=>by
     by_cases e:j=k
     ·subst e;rw[hgd];exact h
     ·exact hall.out j (by omega))
    clear hbel hb hc hkk hgd hall hln;generalize g[k]=nd at*;by_cases h1:n<(nd.kids.length:Int)
    ·(have e1:decide (n<(nd.kids.length:Int))=true:=by simpa using h1);have HR:=hid (HU.out.trans (zDl.out (λh=>by omega)));clear h1 zDl HNX;go_wp2;go_ret;rw[HR.out];exact⟨rfl,HB.out⟩
    ·(have e1:decide (n<(nd.kids.length:Int))=false:=by simpa using h1);by_cases h2:n<(nd.cuts.length:Int)
     ·(have e2:decide (n<(nd.cuts.length:Int))=true:=by simpa using h2);have HR:=hid (HU.out.trans (zDl.out (λh=>by omega)));clear h1 h2 zDl HNX;go_wp2;go_ret;rw[HR.out];exact⟨rfl,HB.out⟩
     ·(have e2:decide (n<(nd.cuts.length:Int))=false:=by simpa using h2);have HR:=hid (HNX.out (by omega));clear h1 h2 zDl HNX;go_wp2;go_roundw;(case rel=>exact⟨k+1,by omega,by go_num,hg0,HB.out,HR⟩);case measure=>simp[intOf];omega
   ·obtain rfl:k=g.length:=by omega
    have HR:=hid (show zKD g n=true from by
     rw[HU.out,List.all_eq_true];intro x hx;obtain⟨j,hj,rfl⟩:=List.getElem_of_mem hx;have:=hall.out j hj;(have e:g.getD j zBO=g[j]:=by simp[List.getD_eq_getElem?_getD,hj]);rw[e]at this
     simpa using this)
    clear hall hbel hln;go_wp2;go_ret;rw[HR.out];exact⟨rfl,HB.out⟩
  ·(have e0:decide ((g.length:Int)≤n)=false:=by simpa using hln);rw[e0,Bool.false_and]at HU;clear hall hbel hln;by_cases hlt:k<g.length
   ·(have hk1:((k:Nat):Int)<(g.length:Int):=by omega);go_wp2;go_ret;rw[HU.out];exact⟨rfl,HB.out⟩
   ·(obtain rfl:k=g.length:=by omega);go_wp2;go_ret;rw[HU.out];exact⟨rfl,HB.out⟩
theorem zGM(Z Z':zD)(a b:zB)(ca cb:List Value)(w:World)(ha:zd Z w ca a)(hb:zd Z' w cb b):
  Calls Tryz.prog 53 #[.agg ca.toArray,.agg cb.toArray] w λe w'=>e= .returned (.bool (decide (a=b)))∧Below w.heap.size w w':=by
 obtain⟨ac,ak,rfl,-,hac,hak⟩:=ha;obtain⟨bc,bk,rfl,-,hbc,hbk⟩:=hb;have HAC:=hid hac;have HAK:=hid hak;have HBC:=hid hbc;have HBK:=hid hbk;obtain⟨AC,acap,rfl,hal⟩:=hac.form;obtain⟨AK,kcap,rfl,hkl⟩:=hak.form;obtain⟨BC,bcap,rfl,hbl⟩:=hbc.form;obtain⟨BK,qcap,rfl,hql⟩:=hbk.form
 have HE:=hid (show decide (a=b)=(decide (a.fact=b.fact)&&decide (a.leaf=b.leaf)&&decide (a.cuts=b.cuts)&&decide (a.kids=b.kids)) from by
  rw[Bool.eq_iff_iff];simp only[decide_eq_true_eq,Bool.and_eq_true];constructor
  ·rintro rfl;simp
  ·rintro⟨⟨⟨h1,h2⟩,h3⟩,h4⟩
   exact zB.ext' h2 h1 h3 h4)
 obtain⟨al,af,cs,ks⟩:=a;obtain⟨bl,bf,ds,qs⟩:=b;simp only at*;have hba:=(Blk.new w 51 #[.bool al,.int .i64 af,.slice AC cs.length acap,.slice AK ks.length kcap]).alloc (.cells #[.bool bl,.int .i64 bf,.slice BC ds.length bcap,.slice BK qs.length qcap] 51);have hbb:=Blk.new' (w.alloc (.cells #[.bool al,.int .i64 af,.slice AC cs.length acap,.slice AK ks.length kcap] 51)) 51 #[.bool bl,.int .i64 bf,.slice BC ds.length bcap,.slice BK qs.length qcap] (n:=w.heap.size+1) (by simp);have hw0:=(zE w (.cells #[.bool al,.int .i64 af,.slice AC cs.length acap,.slice AK ks.length kcap] 51)).alloc (by simp) (.cells #[.bool bl,.int .i64 bf,.slice BC ds.length bcap,.slice BK qs.length qcap] 51);have zZ:=hid (And.intro hba (And.intro hbb hw0));clear hac hak hbc hbk hba hbb hw0;go_enter Tryz.func53,Tryz.ntmps53
 by_cases h1:af=bf
 ·have e1:(af !=bf)=false:=by simp[h1]
  rw[decide_eq_true h1]at HE;by_cases h2:al=bl
  ·subst h2;(have e2:(al !=al)=false:=by simp);rw[decide_eq_true (rfl:al=al)]at HE;by_cases h3:cs.length=ds.length
   ·(have e3:((cs.length:Int)!=(ds.length:Int))=false:=by simp[h3]);have HL3:=hid h3;by_cases h4:ks.length=qs.length
    ·(have e4:((ks.length:Int)!=(qs.length:Int))=false:=by simp[h4]);have HL4:=hid h4;clear h1 h3 h4;go_wp2;have hw0:=zZ.out;generalize ((w.alloc (.cells #[.bool al,.int .i64 af,.slice AC cs.length acap,.slice AK ks.length kcap] 51)).alloc (.cells #[.bool al,.int .i64 bf,.slice BC ds.length bcap,.slice BK qs.length qcap] 51))=W0 at*;clear hw0;go_loopw[5] (λi wr=>∃k:Nat,k≤cs.length∧i= .int .i64 k∧Below W0.heap.size W0 wr∧Hid (cs.take k=ds.take k)) (λi _=>cs.length-(intOf i).toNat);case atStart=>exact⟨0,Nat.zero_le _,rfl,Below.refl _ _,by simp[Hid]⟩
     case round=>
      obtain⟨k,hk,rfl,hbel,htk⟩:=hrel;have hww:=zZ.out.2.2.trans (hbel.mono zZ.out.2.2.size);have hxa:=zZ.out.1.below hbel zZ.out.1.lt;have hxb:=zZ.out.2.1.below hbel zZ.out.2.1.lt;have a2:=hxa.at2;have a3:=hxa.at3;have b2:=hxb.at2;have b3:=hxb.at3;have al0:=hxa.lt;have bl0:=hxb.lt;have HB:=hid (And.intro hbel hww);by_cases hlt:k<cs.length
      ·(have hlt':k<ds.length:=by rw[<-HL3.out];exact hlt);obtain⟨gb,goff,rfl,-,hgb,hc⟩:=HAC.out.at_ hlt;obtain⟨gb',goff',rfl,-,hgb',hc'⟩:=HBC.out.at_ hlt';replace hc:=brd hww hc hgb;replace hc':=brd hww hc' hgb';have hbr:=lt_of_cell hc;have hbr':=lt_of_cell hc';have HNX:=hid (λe=>zDa hlt hlt' htk.out e);have HNE:=hid (show cs[k]≠ds[k]->cs≠ds from λh e=>h (by subst e;rfl));(have hk1:((k:Nat):Int)<(cs.length:Int):=by omega);(have hk2:((k:Nat):Int)<(ds.length:Int):=by omega);(have hk0:(0:Int)≤((k:Nat):Int):=by omega);clear hbel hww hxa hxb hgb hgb' htk a3 b3;generalize cs[k]=x at*;generalize ds[k]=y at*;by_cases hxy:x=y
       ·(have e5:(x !=y)=false:=by simp[hxy]);have zG0:=hid (HNX.out hxy);clear hxy HNX HNE;go_wp2;go_quiet(fail);go_wp2;go_roundw;(case rel=>exact⟨k+1,by omega,by go_num,below_drewN' HB.out.1 _,zG0⟩);case measure=>simp[intOf];omega
       ·(have e5:(x !=y)=true:=by simp[hxy]);rw[decide_eq_false (HNE.out hxy)]at HE;clear hxy HNX HNE;go_wp2;go_quiet(fail);go_wp2;go_ret;rw[HE.out];exact⟨rfl,below_drewN' HB.out.2 _⟩
      ·(obtain rfl:k=cs.length:=by omega);(have heq:cs=ds:=by have h:=htk.out;rw[List.take_length]at h;rw[h,HL3.out,List.take_length]);rw[decide_eq_true heq]at HE;have HX1:=hid (And.intro hxa hxb);clear htk heq hbel hxa hxb b2;go_wp2;clear a2 a3 b3 al0 bl0;go_loopw[6] (λi wr'=>∃k:Nat,k≤ks.length∧i= .int .i64 k∧Below wr.heap.size wr wr'∧Hid (ks.take k=qs.take k)) (λi _=>ks.length-(intOf i).toNat);case atStart=>exact⟨0,Nat.zero_le _,rfl,Below.refl _ _,by simp[Hid]⟩
       case round=>
        obtain⟨k,hk,rfl,hbel,htk⟩:=hrel;(rename World=>W2);have hww:=HB.out.2.trans (hbel.mono HB.out.2.size);have hxa:=HX1.out.1.below hbel HX1.out.1.lt;have hxb:=HX1.out.2.below hbel HX1.out.2.lt;have a3:=hxa.at3;have b3:=hxb.at3;have al0:=hxa.lt;have bl0:=hxb.lt;have zh:=hid (And.intro hbel hww);by_cases hlt:k<ks.length
        ·(have hlt':k<qs.length:=by rw[<-HL4.out];exact hlt);obtain⟨gb,goff,rfl,-,hgb,hc⟩:=HAK.out.at_ hlt;obtain⟨gb',goff',rfl,-,hgb',hc'⟩:=HBK.out.at_ hlt';replace hc:=brd hww hc hgb;replace hc':=brd hww hc' hgb';have hbr:=lt_of_cell hc;have hbr':=lt_of_cell hc';have HNX:=hid (λe=>zDa hlt hlt' htk.out e);have HNE:=hid (show ks[k]≠qs[k]->ks≠qs from λh e=>h (by subst e;rfl));(have hk1:((k:Nat):Int)<(ks.length:Int):=by omega);(have hk2:((k:Nat):Int)<(qs.length:Int):=by omega);(have hk0:(0:Int)≤((k:Nat):Int):=by omega);clear hbel hww hxa hxb hgb hgb' htk;generalize ks[k]=x at*;generalize qs[k]=y at*;by_cases hxy:x=y
         ·(have e5:(x !=y)=false:=by simp[hxy]);have zG0:=hid (HNX.out hxy);clear hxy HNX HNE;go_wp2;go_quiet(fail);go_wp2;go_roundw;(case rel=>exact⟨k+1,by omega,by go_num,below_drewN' zh.out.1 _,zG0⟩);case measure=>simp[intOf];omega
         ·(have e5:(x !=y)=true:=by simp[hxy]);rw[decide_eq_false (HNE.out hxy)]at HE;clear hxy HNX HNE;go_wp2;go_quiet(fail);go_wp2;go_ret;rw[HE.out];exact⟨rfl,below_drewN' zh.out.2 _⟩
        ·(obtain rfl:k=ks.length:=by omega);(have heq:ks=qs:=by have h:=htk.out;rw[List.take_length]at h;rw[h,HL4.out,List.take_length]);rw[decide_eq_true heq]at HE;clear htk heq hbel hxa hxb;go_wp2;go_ret;rw[HE.out];exact⟨rfl,zh.out.2⟩
    ·(have e4:((ks.length:Int)!=(qs.length:Int))=true:=by simp;omega);rw[decide_eq_false (show ¬ks=qs from λe=>h4 (by rw[e]))]at HE;simp only[Bool.and_false]at HE;clear h1 h3 h4;go_wp2;go_ret;rw[HE.out];exact⟨rfl,zZ.out.2.2⟩
   ·(have e3:((cs.length:Int)!=(ds.length:Int))=true:=by simp;omega);rw[decide_eq_false (show ¬cs=ds from λe=>h3 (by rw[e]))]at HE;simp only[Bool.and_false,Bool.false_and]at HE;clear h1 h3;go_wp2;go_ret;rw[HE.out];exact⟨rfl,zZ.out.2.2⟩
  ·rw[decide_eq_false h2]at HE;simp only[Bool.and_false,Bool.false_and]at HE;(obtain rfl:bl= !al:=by cases al<;>cases bl<;>simp_all);(have e2:(al != !al)=true:=by cases al<;>rfl);clear h1 h2;go_wp2;go_ret;rw[HE.out];exact⟨rfl,zZ.out.2.2⟩
 ·have e1:(af !=bf)=true:=by simp[h1]
  rw[decide_eq_false h1]at HE;simp only[Bool.false_and]at HE;clear h1;go_wp2;go_ret;rw[HE.out];exact⟨rfl,zZ.out.2.2⟩
end Go.Proofs.YtonmdbdopchkaaaGreatDoor
