/- Texts W52 W53 W54. -/
import Derived.Test.YtonmdbdopchkaaaGreatDoorM24
import Derived.Test.YtonmdbdopchkaaaGreatDoorM14
set_option linter.all false
namespace Go.Proofs.YtonmdbdopchkaaaGreatDoor
open Go.RowKit
set_option maxHeartbeats 8000000
set_option maxRecDepth 100000
theorem zEJ(Z Z':zD)(v v':Value)(a b:List zB)(w:World)(ha:zO Z w v a)(hb:zO Z' w v' b):
  Calls Tryz.prog 13 #[.agg #[v],.agg #[v']] w λe w'=>e= .returned (.bool (decide (a=b)))∧Below w.heap.size w w':=by
 obtain⟨A,cap,rfl,hcap,hlen,hat⟩:=ha.open_;obtain⟨A',cap',rfl,hcap',hlen',hat'⟩:=hb.open_;have HA:=hid hat;have HA':=hid hat';have hga:=(Blk.new w 30 #[.slice A a.length cap]).alloc (.cells #[.slice A' b.length cap'] 30);have hgb:=Blk.new' (w.alloc (.cells #[.slice A a.length cap] 30)) 30 #[.slice A' b.length cap'] (n:=w.heap.size+1) (by simp);have hw0:=(zE w (.cells #[.slice A a.length cap] 30)).alloc (by simp) (.cells #[.slice A' b.length cap'] 30);have zZ:=hid (And.intro hga (And.intro hgb hw0));clear hat hat' ha hb hga hgb hw0;go_enter Tryz.func13,Tryz.ntmps13
 by_cases hl:a.length=b.length
 ·have e1:((a.length:Int)!=(b.length:Int))=false:=by simp[hl]
  have HL:=hid hl;clear hl;go_wp2;go_loopw[5] (λi wr=>∃k:Nat,k≤a.length∧i= .int .i64 k∧Blk wr w.heap.size 30 #[.slice A a.length cap]∧Blk wr (w.heap.size+1) 30 #[.slice A' b.length cap']∧Below w.heap.size w wr∧Hid (a.take k=b.take k)) (λi _=>a.length-(intOf i).toNat);case atStart=>exact⟨0,Nat.zero_le _,rfl,zZ.out.1,zZ.out.2.1,zZ.out.2.2,by simp[Hid]⟩
  case round=>
   obtain⟨k,hk,rfl,hga,hgb,hbel,htk⟩:=hrel;have g0:=hga.at0;have g1:=hgb.at0;have g0l:=hga.lt;have g1l:=hgb.lt;by_cases hlt:k<a.length
   ·(have hlt':k<b.length:=by rw[<-HL.out];exact hlt);obtain⟨bb,off,vc,vk,rfl,hz,hbb,c0,c1,c2,c3,hf,hc,hkk⟩:=HA.out k hlt;obtain⟨bb',off',vc',vk',rfl,hz',hbb',c0',c1',c2',c3',hf',hc',hkk'⟩:=HA'.out k hlt';obtain⟨VC,ccap,rfl,-⟩:=hc.form;obtain⟨VK,kcap,rfl,-⟩:=hkk.form;obtain⟨VC',ccap',rfl,-⟩:=hc'.form;obtain⟨VK',kcap',rfl,-⟩:=hkk'.form;have hx:∀{p:Nat}{o:Nat}{u:Value},p<w.heap.size->w.cell? ⟨p,o,none⟩=some u->wr.cell? ⟨p,o,none⟩=some u:=λ{p o u} hp h=>brd hbel h hp;replace c0:=hx hbb c0;replace c1:=hx hbb c1;replace c2:=hx hbb c2;replace c3:=hx hbb c3;replace c0':=hx hbb' c0';replace c1':=hx hbb' c1';replace c2':=hx hbb' c2';replace c3':=hx hbb' c3';have hbr:=lt_of_cell c0;have hbr':=lt_of_cell c0';have HS:=hid (λW(hW:Below w.heap.size w W)=>zGM Z Z' a[k] b[k] [.bool a[k].leaf,.int .i64 a[k].fact,.slice VC a[k].cuts.length ccap,.slice VK a[k].kids.length kcap] [.bool b[k].leaf,.int .i64 b[k].fact,.slice VC' b[k].cuts.length ccap',.slice VK' b[k].kids.length kcap'] W (zd.keep ⟨_,_,rfl,hf,hc,hkk⟩ (.of_below hW)) (zd.keep ⟨_,_,rfl,hf',hc',hkk'⟩ (.of_below hW)));have HNX:=hid (λe=>zDa hlt hlt' htk.out e);have HNE:=hid (show a[k]≠b[k]->a≠b from λh e=>h (by subst e;rfl));(have hk1:((k:Nat):Int)<(a.length:Int):=by omega);(have hk2:((k:Nat):Int)<(b.length:Int):=by omega);(have hk0:(0:Int)≤((k:Nat):Int):=by omega);have HB:=hid (And.intro hga (And.intro hgb hbel));clear hx hbel hga hgb hf hf' hc hc' hkk hkk';obtain⟨⟨x,hxe⟩,⟨y,hye⟩⟩:(∃x,x=a[k])∧(∃y,y=b[k]):=⟨⟨_,rfl⟩,⟨_,rfl⟩⟩;rw[<-hxe]at HS HNX HNE c0 c1 c2 c3;rw[<-hye]at HS HNX HNE c0' c1' c2' c3';clear hxe hye;by_cases hxy:x=y
    ·have zG0:=hid (HNX.out hxy);have HS2:=HS.out;rw[decide_eq_true hxy]at HS2;have HS3:=hid HS2;clear HS HS2 hxy HNX;go_wp2
     go_region_held3(λw'=>w'.cell? ⟨w.heap.size,0,none⟩=some (.slice (some ⟨bb,off,none⟩) a.length cap)∧w'.cell? ⟨w.heap.size+1,0,none⟩=some (.slice (some ⟨bb',off',none⟩) b.length cap')∧w'.cell? ⟨bb,off+k*4,none⟩=some (.bool x.leaf)∧w'.cell? ⟨bb,off+k*4+1,none⟩=some (.int .i64 x.fact)∧w'.cell? ⟨bb,off+k*4+2,none⟩=some (.slice VC x.cuts.length ccap)∧w'.cell? ⟨bb,off+k*4+3,none⟩=some (.slice VK x.kids.length kcap)∧w'.cell? ⟨bb',off'+k*4,none⟩=some (.bool y.leaf)∧w'.cell? ⟨bb',off'+k*4+1,none⟩=some (.int .i64 y.fact)∧w'.cell? ⟨bb',off'+k*4+2,none⟩=some (.slice VC' y.cuts.length ccap')∧w'.cell? ⟨bb',off'+k*4+3,none⟩=some (.slice VK' y.kids.length kcap'))
      (first|exact⟨p0,p1,p2,p3,p4,p5,p6,p7,p8,p9⟩|(refine⟨?_,?_,?_,?_,?_,?_,?_,?_,?_,?_⟩<;>go_keep))
      (first
       |(go_at_call 53;refine(HS3.out _ HB.out.2.2.drew).mono ?_;rintro e w1 ⟨rfl,hb1⟩;have p0:=brd hb1 g0 g0l;have p1:=brd hb1 g1 g1l;have p2:=brd hb1 c0 hbr;have p3:=brd hb1 c1 hbr;have p4:=brd hb1 c2 hbr;have p5:=brd hb1 c3 hbr;have p6:=brd hb1 c0' hbr';have p7:=brd hb1 c1' hbr';have p8:=brd hb1 c2' hbr';have p9:=brd hb1 c3' hbr'))
     have zh:=hid (And.intro (HB.out.1.drew.below hb1 g0l) (And.intro (HB.out.2.1.drew.below hb1 g1l) (HB.out.2.2.drew.trans (hb1.mono HB.out.2.2.size))));clear p0 p1 p2 p3 p4 p5 p6 p7 p8 p9 hb1;go_wp2;go_roundw;(case rel=>exact⟨k+1,by omega,by go_num,zh.out.1,zh.out.2.1,zh.out.2.2,zG0⟩);case measure=>simp[intOf];omega
    ·have zOd:=hid (HNE.out hxy);have HS2:=HS.out;rw[decide_eq_false hxy]at HS2;have HS3:=hid HS2;clear HS HS2 hxy HNX;go_wp2
     go_region_held3(λw'=>w'.cell? ⟨w.heap.size,0,none⟩=some (.slice (some ⟨bb,off,none⟩) a.length cap)∧w'.cell? ⟨w.heap.size+1,0,none⟩=some (.slice (some ⟨bb',off',none⟩) b.length cap')∧w'.cell? ⟨bb,off+k*4,none⟩=some (.bool x.leaf)∧w'.cell? ⟨bb,off+k*4+1,none⟩=some (.int .i64 x.fact)∧w'.cell? ⟨bb,off+k*4+2,none⟩=some (.slice VC x.cuts.length ccap)∧w'.cell? ⟨bb,off+k*4+3,none⟩=some (.slice VK x.kids.length kcap)∧w'.cell? ⟨bb',off'+k*4,none⟩=some (.bool y.leaf)∧w'.cell? ⟨bb',off'+k*4+1,none⟩=some (.int .i64 y.fact)∧w'.cell? ⟨bb',off'+k*4+2,none⟩=some (.slice VC' y.cuts.length ccap')∧w'.cell? ⟨bb',off'+k*4+3,none⟩=some (.slice VK' y.kids.length kcap'))
      (first|exact⟨p0,p1,p2,p3,p4,p5,p6,p7,p8,p9⟩|(refine⟨?_,?_,?_,?_,?_,?_,?_,?_,?_,?_⟩<;>go_keep))
      (first
       |(go_at_call 53;refine(HS3.out _ HB.out.2.2.drew).mono ?_;rintro e w1 ⟨rfl,hb1⟩;have p0:=brd hb1 g0 g0l;have p1:=brd hb1 g1 g1l;have p2:=brd hb1 c0 hbr;have p3:=brd hb1 c1 hbr;have p4:=brd hb1 c2 hbr;have p5:=brd hb1 c3 hbr;have p6:=brd hb1 c0' hbr';have p7:=brd hb1 c1' hbr';have p8:=brd hb1 c2' hbr';have p9:=brd hb1 c3' hbr'))
     have hbw:=HB.out.2.2.drew.trans (hb1.mono HB.out.2.2.size);clear p0 p1 p2 p3 p4 p5 p6 p7 p8 p9 hb1;go_wp2;go_ret;rw[decide_eq_false zOd.out];exact⟨rfl,hbw⟩
   ·(obtain rfl:k=a.length:=by omega);have HEQ:=hid (show a=b from by have h:=htk.out;rw[List.take_length]at h;rw[h,HL.out,List.take_length]);clear htk hga hgb;go_wp2;go_ret;rw[decide_eq_true HEQ.out];exact⟨rfl,hbel⟩
 ·have e1:((a.length:Int)!=(b.length:Int))=true:=by simp;omega
  have HN:=hid (show a≠b from λe=>hl (by rw[e]));clear hl;go_wp2;go_ret;rw[decide_eq_false HN.out];exact⟨rfl,zZ.out.2.2⟩
mutual
def zCL:Fm->Int->Int
 | .mk _ _ _ _ kids,n=>zBi kids 1 n
def zBi:List Fm->Int->Int->Int
 |[],out,_=>out
 |k::r,out,n=>if out≤n then zBi r (out+zCL k (n-out)) n else out
end
mutual
theorem zNk:∀(f:Fm)(n:Int),1≤zCL f n∧(zCL f n≤n+1∨zCL f n=1)
 | .mk _ _ _ _ kids,n=>by
  rw[zCL];obtain⟨h1,h2⟩:=zI0 kids 1 n;exact⟨h1,by omega⟩
theorem zI0:∀(l:List Fm)(out n:Int),out≤zBi l out n∧(zBi l out n≤n+1∨zBi l out n=out)
 |[],out,n=>by rw[zBi];omega
 |k::r,out,n=>by
  rw[zBi];split
  ·rename_i h;obtain⟨h1,h2⟩:=zNk k (n-out);obtain⟨h3,h4⟩:=zI0 r (out+zCL k (n-out)) n;omega
  ·omega
end
mutual
theorem zI1:∀(f:Fm)(n:Int),zCL f n≤n↔(zJ f:Int)≤n
 | .mk _ _ _ _ kids,n=>by
  rw[zCL,zJ];have:=zKi kids 1 n;rw[this]
  push_cast
  omega
theorem zKi:∀(l:List Fm)(out n:Int),zBi l out n≤n↔out+(zX l:Int)≤n
 |[],out,n=>by rw[zBi,zX];simp
 |k::r,out,n=>by
  rw[zBi,zX];have hk:=zBE k;split
  ·rename_i h;have h1:=zI1 k (n-out);have h2:=zKi r (out+zCL k (n-out)) n;have h3:=zMR k (n-out);rw[h2]
   push_cast
   constructor
   ·intro h4;have:=h3 (by omega);omega
   ·intro h4;have:=h3 (h1.2 (by omega));omega
  ·push_cast;omega
theorem zMR:∀(f:Fm)(n:Int),zCL f n≤n->zCL f n=zJ f
 | .mk _ _ _ _ kids,n,h=>by
  rw[zCL]at h⊢;rw[zJ];have:=zKj kids 1 n h;rw[this];push_cast;omega
theorem zKj:∀(l:List Fm)(out n:Int),zBi l out n≤n->zBi l out n=out+zX l
 |[],out,n,_=>by rw[zBi,zX];simp
 |k::r,out,n,h=>by
  rw[zBi]at h⊢;rw[zX];split at h
  ·rename_i ho;rw[if_pos ho];have h1:=zKj r (out+zCL k (n-out)) n h;have h2:=(zI0 r (out+zCL k (n-out)) n).1;have h3:=zMR k (n-out) (by omega);rw[h1,h3];push_cast;omega
  ·rename_i ho;omega
end
theorem Tryz.egSize:∀args w,(callFunc 65 args).run Tryz.prog w= .ok (.enter 65 args) w:=enters_of Tryz.func65 (by kernel_rfl) rfl
theorem zPJ:∀(m:Nat)(f:Fm),zJ f≤m->∀(Z:zD)(cs:List Value)(n:Int)(w:World),FmR Z w f cs->0≤n->n≤1000000->
  Calls Tryz.prog 65 #[.agg cs.toArray,.int .i64 n] w λe w'=>e= .returned (.int .i64 (zCL f n))∧Below w.heap.size w w':=by
 intro m
 induction m with
 |zero=>intro f hm;have:=zBE f;omega
 |succ m ih=>
 intro f hm Z cs n w hf hn0 hn1;have eg:=Tryz.egSize;have IH:=hid ih;clear ih;obtain⟨op,nm,cm,nu,kids⟩:=f;unfold FmR at hf;obtain⟨-,-,-,-,A,cap,rfl,hcap,-,hkb,hks⟩:=hf;have HS:=hid (zt.seq hks);have hkl:kids.length≤2513169434916:=by omega
 have HU:=hid (show zCL (.mk op nm cm nu kids) n=zBi kids 1 n from by rw[zCL]);have hbx:=Blk.new w 24 #[.int .i64 op,.string nm,.int .i64 cm,.int .i64 nu,.slice A kids.length cap];have zZ:=hid (And.intro (zE w (.cells #[.int .i64 op,.string nm,.int .i64 cm,.int .i64 nu,.slice A kids.length cap] 24)) hbx);have HM:=hid hm;clear hks hm hbx;go_enter Tryz.func65,Tryz.ntmps65
 go_wp2;go_loopw[5,6] (λo i wr=>∃(k:Nat)(out:Int),k≤kids.length∧i= .int .i64 k∧o= .int .i64 out∧1≤out∧(out≤n+1∨out=1)∧Blk wr w.heap.size 24 #[.int .i64 op,.string nm,.int .i64 cm,.int .i64 nu,.slice A kids.length cap]∧Below w.heap.size w wr∧Hid (zBi kids 1 n=zBi (kids.drop k) out n)) (λ_ i _=>kids.length-(intOf i).toNat);case atStart=>exact⟨0,1,Nat.zero_le _,rfl,rfl,by omega,Or.inr rfl,zZ.out.2,zZ.out.1,rfl⟩
 case round=>
  obtain⟨k,out,hk,rfl,rfl,ho1,ho2,hbx,hbel,hres⟩:=hrel;have b4:=hbx.at4;have b4l:=hbx.lt;have HB:=hid (And.intro hbx hbel);by_cases hlt:k<kids.length
  ·have hdr:kids.drop k=kids[k]::kids.drop (k+1):=List.drop_eq_getElem_cons hlt;have hres':=hres.out;rw[hdr,zBi]at hres';by_cases hon:out≤n
   ·rw[if_pos hon]at hres';obtain⟨b',off,cs,rfl,hz,hcs,hfk⟩:=HS.out.at_ hlt;have hkz:zA Z w wr:= .of_below hbel;have hfk':=FmR.keep hkz _ _ hfk;obtain⟨A',cap',rfl⟩:=FmR.form hfk;have hle:=zAY hlt;obtain⟨c0,c1,c2,c3,c4⟩:=zp (λj u hu=>hkz.cell (p:=⟨b',off+k*5+j,none⟩) hz (hcs j u hu));have cl:=lt_of_cell c0;have hfs:=zBM (.mk op nm cm nu kids);simp only[Fm.kids]at hfs;have HC:=hid (IH.out kids[k] (by have:=HM.out;omega) Z _ (n-out) wr hfk' (by omega) (by omega));have hsz:=zNk kids[k] (n-out);have HR:=hid hres';(have e1:decide (out≤n)=true:=by simpa using hon);clear hres hres' hdr hcs hfk hfk' hkz hle hbx hbel hfs;generalize zCL kids[k] (n-out)=q at*;generalize kids[k]=g at*;(go_wp2_with fail);refine HC.out.mono ?_;rintro e w1 ⟨rfl,hb1⟩;have hx:=HB.out.1.below hb1 HB.out.1.lt;have hbw:=HB.out.2.trans (hb1.mono HB.out.2.size);clear hb1;go_wp2;go_roundw;(case rel=>exact⟨k+1,out+q,by omega,by go_num,rfl,by omega,by omega,hx,hbw,HR⟩);case measure=>simp[intOf];omega
   ·rw[if_neg hon]at hres';(have e1:decide (out≤n)=false:=by simpa using hon);have HR:=hid hres';clear hres hres' hdr hbx hbel;go_wp2;go_ret;rw[HU.out,HR.out];exact⟨rfl,HB.out.2⟩
  ·(obtain rfl:k=kids.length:=by omega);have hres':=hres.out;rw[List.drop_length,zBi]at hres';have HR:=hid hres';clear hres hres' hbx hbel;go_wp2;go_ret;rw[HU.out,HR.out];exact⟨rfl,HB.out.2⟩
theorem zNl(Z:zD)(f:Fm)(cs:List Value)(n:Int)(w:World)(hf:FmR Z w f cs)(h0:0≤n)(h1:n≤1000000):
  Calls Tryz.prog 24 #[.agg cs.toArray,.int .i64 n] w λe w'=>e= .returned (.bool (decide ((zJ f:Int)≤n)))∧Below w.heap.size w w':=by
 have HC:=hid (λo=>zPJ (zJ f) f (Nat.le_refl _) Z cs n (w.alloc o) (FmR.keep ((zA.refl _ _).alloc o) _ _ hf) h0 h1)
 have HI:=hid (show decide ((zJ f:Int)≤n)=decide (zCL f n≤n) from by
  by_cases h:(zJ f:Int)≤n
  ·rw[decide_eq_true h,decide_eq_true ((zI1 f n).2 h)]
  ·rw[decide_eq_false h,decide_eq_false (λe=>h ((zI1 f n).1 e))])
 obtain⟨A,cap,rfl⟩:=FmR.form hf;clear hf;go_enter Tryz.func24,Tryz.ntmps24
 go_wp2_with fail
 refine(HC.out _).mono ?_;rintro e w1 ⟨rfl,hb1⟩;have hbw:=zy (zE w _) hb1;go_wp2;go_ret;rw[HI.out];exact⟨rfl,hbw⟩
def zAr(l:List Int)(n lo hi:Int):List Int:=if n<lo∨hi<n then l else zAE l n
def zDu:List Int->Int->Nat
 |[],_=>0
 |a::r,n=>if a<n then zDu r n+1 else 0
theorem zKE(n:Int):∀(l:List Int)(k:Nat),k≤l.length->(∀j,j<k->l.getD j 0<n)->(k<l.length->¬l.getD k 0<n)->zDu l n=k
 |[],k,hk,_,_=>by simp at hk;subst hk;rfl
 |a::r,0,_,_,h=>by unfold zDu;rw[if_neg (by have:=h (by simp);simpa using this)]
 |a::r,k+1,hk,h1,h2=>by
  unfold zDu;rw[if_pos (by have:=h1 0 (by omega);simpa using this),zKE n r k (by simpa using hk) (λj hj=>by have:=h1 (j+1) (by omega);simpa using this) (λhlt=>by have:=h2 (by simpa using hlt);simpa using this)]
theorem zMS(n:Int):∀l:List Int,zAE l n=if zDu l n<l.length∧l.getD (zDu l n) 0=n then l else l.take (zDu l n)++n::l.drop (zDu l n)
 |[]=>by simp[zAE,zDu]
 |a::r=>by
  have ih:=zMS n r;unfold zAE zDu;by_cases h:a<n
  ·rw[if_neg (by omega),if_neg (by omega),if_pos h,ih];by_cases h2:zDu r n<r.length∧r.getD (zDu r n) 0=n
   ·rw[if_pos h2,if_pos (by simpa using h2)]
   ·rw[if_neg h2,if_neg (by simpa using h2)];simp
  ·rw[if_neg h];by_cases h2:n<a
   ·rw[if_pos h2,if_neg (by simp;omega)];simp
   ·rw[if_neg h2,if_pos (by omega),if_pos (by simp;omega)]
theorem zMT{w:World}(t:TypeId):(w.alloc (.cells #[] t)).ownsRow w.heap.size t 1 (.slice (some ⟨w.heap.size,0,none⟩) 0 0) 0 []:=by
 have:=zDJ (W:=w.alloc (.cells #[] t)) (base:=w.heap.size) (Blk.new w t #[]) (Nat.le_refl _) (by simp);simpa using this
theorem zDv(Z:zD)(v:Value)(l:List Int)(n lo hi:Int)(w:World)(h:zL Z w v l)(hne:l≠[])(hl:l.length≤1000000)(hn:I64 n):
  Calls Tryz.prog 95 #[v,.int .i64 n,.int .i64 lo,.int .i64 hi] w λe w'=>∃v',e= .returned v'∧zL (λb=>Z b∨w.heap.size≤b) w' v' (zAr l n lo hi)∧Below w.heap.size w w':=by
 obtain⟨b,off,cap,rfl,hz,hb,hcap,hc⟩:=h.open_ hne;have HI:=hid h;have hc63:cap≤9223372036854775807:=by obtain⟨⟨_,_,e,_,h2,_⟩,_⟩:=h;injection e with _ _ e;omega
 have HC:=hid hc;have zRI:=hid (λ(W:World)(hW:Below w.heap.size w W)=>(h.keep (.of_below hW)).mono (λb hb=>Or.inl hb:∀b,Z b->Z b∨w.heap.size≤b));have HU:=hid (show zAr l n lo hi=if n<lo∨hi<n then l else zAE l n from rfl);clear h hc;go_enter Tryz.func95,Tryz.ntmps95
 by_cases h1:n<lo
 ·have e1:decide (n<lo)=true:=by simpa using h1
  have HR:=hid (HU.out.trans (if_pos (Or.inl h1)));clear h1 HU;go_wp2;go_ret;rw[HR.out];exact⟨_,rfl,zRI.out _ (Below.refl _ _),Below.refl _ _⟩
 have e1:decide (n<lo)=false:=by simpa using h1
 by_cases h2:hi<n
 ·have e2:decide (hi<n)=true:=by simpa using h2
  have HR:=hid (HU.out.trans (if_pos (Or.inr h2)));clear h1 h2 HU;go_wp2;go_ret;rw[HR.out];exact⟨_,rfl,zRI.out _ (Below.refl _ _),Below.refl _ _⟩
 have e2:decide (hi<n)=false:=by simpa using h2
 have HU2:=hid (HU.out.trans (if_neg (show ¬(n<lo∨hi<n) by omega)));rw[zMS]at HU2;clear h1 h2 HU;go_wp2;go_loopw[9] (λi wr=>∃k:Nat,k≤l.length∧i= .int .i64 k∧w=wr∧Hid (∀j,j<k->l.getD j 0<n)) (λi _=>l.length-(intOf i).toNat);case atStart=>exact⟨0,Nat.zero_le _,rfl,rfl,λj hj=>absurd hj (Nat.not_lt_zero _)⟩
 case round=>
  obtain⟨k,hk,rfl,rfl,hlow⟩:=hrel;by_cases hlt:k<l.length
  ·have hck:=HC.out k hlt;(have hk1:((k:Nat):Int)<(l.length:Int):=by omega);(have hk0:(0:Int)≤((k:Nat):Int):=by omega);have HSK:=hid (show ¬l.getD k 0<n->zDu l n=k from λh=>zKE n l k hk hlow.out (λ_=>h))
   have HNX:=hid (show l.getD k 0<n->∀j,j<k+1->l.getD j 0<n from λh j hj=>by
    by_cases e:j=k
    ·subst e;exact h
    ·exact hlow.out j (by omega))
   have HGD:=hid (show ∃x,l.getD k 0=x from⟨_,rfl⟩);generalize hx:l.getD k 0=x at*;have HX:=hid hx;clear hx hlow HGD;by_cases hxn:x<n
   ·(have e3:decide (x<n)=true:=by simpa using hxn);have HR:=hid (HNX.out hxn);clear hxn HNX HSK;go_wp2;go_roundw;(case rel=>exact⟨k+1,by omega,by go_num,trivial,HR⟩);case measure=>simp[intOf];omega
   ·(have e3:decide (x<n)=false:=by simpa using hxn);have hsk:=HSK.out hxn;rw[hsk]at HU2;by_cases hxe:x=n
    ·(have e4:(x==n)=true:=by simp[hxe]);have HR:=hid (HU2.out.trans (if_pos ⟨hlt,HX.out.trans hxe⟩));clear hxn hxe HNX HSK hsk;go_wp2;go_ret;rw[HR.out];exact⟨_,rfl,zRI.out _ (Below.refl _ _),Below.refl _ _⟩
    ·(have e4:(x==n)=false:=by simp[hxe]);have HR:=hid (HU2.out.trans (if_neg (λh=>hxe (HX.out.symm.trans h.2))));clear hxn hxe HNX HSK hsk;(have hkk:k≤l.length:=by omega);(have hkc:((k:Nat):Int)≤(cap:Int):=by omega);have HCB:=hid (λ(W:World)(hW:Below w.heap.size w W)(j:Nat)(hj:j<l.length)=>(hW.cell (p:=⟨b,off+j,none⟩) hb).trans (HC.out j hj))
     have HN1:=hid (λ(W:World)(hW:Below w.heap.size w W)=>(show ∀j u,((l.take k).map (Value.int .i64))[j]? =some u->W.cell? ⟨b,off+j,none⟩=some u from λj u hu=>by
      rw[List.getElem?_map,List.getElem?_take]at hu;split at hu
      ·rename_i hj;rw[List.getElem?_eq_getElem (by omega)]at hu;simp only[Option.map_some,Option.some.injEq]at hu;rw[<-hu,HCB.out W hW j (by omega)];simp[List.getD_eq_getElem?_getD,show j<l.length by omega]
      ·simp at hu))
     have HN2:=hid (λ(W:World)(hW:Below w.heap.size w W)=>(show ∀j u,((l.drop k).map (Value.int .i64))[j]? =some u->W.cell? ⟨b,off+k+j,none⟩=some u from λj u hu=>by
      rw[List.getElem?_map,List.getElem?_drop]at hu;by_cases hj:k+j<l.length
      ·rw[List.getElem?_eq_getElem hj]at hu;simp only[Option.map_some,Option.some.injEq]at hu;rw[<-hu,Nat.add_assoc,HCB.out W hW (k+j) hj];simp[List.getD_eq_getElem?_getD,hj]
      ·rw[List.getElem?_eq_none (by omega)]at hu;simp at hu))
     have HB0:=hid (zE w (.cells #[] 3));have HO0:=hid (zMT (w:=w) 3);(go_upto_region 9 with(first|(at_builtin;refine zf rfl (.tmp 47) (.tmp 50) _ rfl Tryz.underlying31 Tryz.eInt rfl HO0.out rfl (news:=(l.take k).map (Value.int .i64)) (by rw[List.length_map,List.length_take];omega) (HN1.out _ HB0.out) (λu hu=>by obtain⟨x,-,rfl⟩:=List.mem_map.1 hu;rfl) (by unfold maxLen;omega) (by omega) (by simp) ?_;intro v5 w5 hown5 hg5 hat5;have hbw5:=zx HB0.out HO0.out hg5 (by simp) (Nat.le_refl _);rw[Nat.zero_add,List.nil_append]at hown5;obtain⟨A5,cap5,hv5,-,-,-⟩:=Row.of_own hown5 (by decide);subst hv5)));have HB5:=hid hbw5;have hown5':w5.ownsRow w.heap.size 3 1 (.slice A5 k cap5) k ((l.take k).map (Value.int .i64)):=hown5;have HO5:=hid hown5';clear hown5 hown5' hg5 hat5 hbw5;(go_upto_region 10 with(first|(at_builtin;refine zf rfl (.tmp 52) (.tmp 54) _ rfl Tryz.underlying31 Tryz.eInt rfl (HO5.out.alloc _) rfl (news:=[.int .i64 n]) rfl (one_cell (by simp)) (by simp[Value.oneCell']) (by unfold maxLen;omega) (by omega) (by have:=HB5.out.size;simp;omega) ?_;intro v6 w6 hown6 hg6 hat6;have hbw6:=zx (HB5.out.alloc HB5.out.size _) (HO5.out.alloc _) hg6 (by have:=HB5.out.size;simp;omega) (Nat.le_refl _);obtain⟨A6,cap6,hv6,-,-,-⟩:=Row.of_own hown6 (by decide);subst hv6)));have HB6:=hid hbw6;have HO6:=hid hown6;clear hown6 hg6 hat6 hbw6;go_wp2_with(first|(at_builtin;refine zf rfl (.tmp 56) (.tmp 59) _ rfl Tryz.underlying31 Tryz.eInt rfl HO6.out rfl (news:=(l.drop k).map (Value.int .i64)) (by rw[List.length_map,List.length_drop];omega) (HN2.out _ HB6.out) (λu hu=>by obtain⟨x,-,rfl⟩:=List.mem_map.1 hu;rfl) (by unfold maxLen;omega) (by omega) (by have:=HB6.out.size;omega) ?_;intro v7 w7 hown7 hg7 hat7;have hbw7:=zx HB6.out HO6.out hg7 (by have:=HB6.out.size;omega) (Nat.le_refl _);obtain⟨A7,cap7,hv7,-,-,-⟩:=Row.of_own hown7 (by decide);subst hv7));have HO7:=hid hown7;have HB7:=hid hbw7;clear hown7 hg7 hat7 hbw7;go_ret;rw[HR.out];have hlen:(l.take k++n::l.drop k).length =k+1+(l.length-k):=by simp;omega
     have hown:w7.ownsRow w.heap.size 3 1 (.slice A7 (k+1+(l.length-k)) cap7) (k+1+(l.length-k)) ((l.take k++n::l.drop k).map (Value.int .i64)):=by
      have h:=HO7.out;simpa using h
     refine⟨_,rfl,(zL.of_own hown (λx hx=> ?_) (by rw[hlen];omega)).mono λb hb=>Or.inr hb,HB7.out⟩;rcases List.mem_append.1 hx with hx|hx
     ·exact HI.out.fit x (List.mem_of_mem_take hx)
     ·rcases List.mem_cons.1 hx with rfl|hx
      ·exact hn
      ·exact HI.out.fit x (List.mem_of_mem_drop hx)
  ·have hsk:=zKE n l k hk hlow.out (λh=>absurd h hlt);rw[hsk]at HU2;have HR:=hid (HU2.out.trans (if_neg (λh=>hlt h.1)));(have e5:decide (k<l.length)=false:=by simpa using hlt);(have e5':decide ((k:Int)<(l.length:Int))=false:=by simp;omega);clear hlow hsk;(have hkk:k≤l.length:=by omega);(have hkc:((k:Nat):Int)≤(cap:Int):=by omega);have HCB:=hid (λ(W:World)(hW:Below w.heap.size w W)(j:Nat)(hj:j<l.length)=>(hW.cell (p:=⟨b,off+j,none⟩) hb).trans (HC.out j hj))
   have HN1:=hid (λ(W:World)(hW:Below w.heap.size w W)=>(show ∀j u,((l.take k).map (Value.int .i64))[j]? =some u->W.cell? ⟨b,off+j,none⟩=some u from λj u hu=>by
    rw[List.getElem?_map,List.getElem?_take]at hu;split at hu
    ·rename_i hj;rw[List.getElem?_eq_getElem (by omega)]at hu;simp only[Option.map_some,Option.some.injEq]at hu;rw[<-hu,HCB.out W hW j (by omega)];simp[List.getD_eq_getElem?_getD,show j<l.length by omega]
    ·simp at hu))
   have HN2:=hid (λ(W:World)(hW:Below w.heap.size w W)=>(show ∀j u,((l.drop k).map (Value.int .i64))[j]? =some u->W.cell? ⟨b,off+k+j,none⟩=some u from λj u hu=>by
    rw[List.getElem?_map,List.getElem?_drop]at hu;by_cases hj:k+j<l.length
    ·rw[List.getElem?_eq_getElem hj]at hu;simp only[Option.map_some,Option.some.injEq]at hu;rw[<-hu,Nat.add_assoc,HCB.out W hW (k+j) hj];simp[List.getD_eq_getElem?_getD,hj]
    ·rw[List.getElem?_eq_none (by omega)]at hu;simp at hu))
   have HB0:=hid (zE w (.cells #[] 3));have HO0:=hid (zMT (w:=w) 3);(go_upto_region 9 with(first|(at_builtin;refine zf rfl (.tmp 47) (.tmp 50) _ rfl Tryz.underlying31 Tryz.eInt rfl HO0.out rfl (news:=(l.take k).map (Value.int .i64)) (by rw[List.length_map,List.length_take];omega) (HN1.out _ HB0.out) (λu hu=>by obtain⟨x,-,rfl⟩:=List.mem_map.1 hu;rfl) (by unfold maxLen;omega) (by omega) (by simp) ?_;intro v5 w5 hown5 hg5 hat5;have hbw5:=zx HB0.out HO0.out hg5 (by simp) (Nat.le_refl _);rw[Nat.zero_add,List.nil_append]at hown5;obtain⟨A5,cap5,hv5,-,-,-⟩:=Row.of_own hown5 (by decide);subst hv5)));have HB5:=hid hbw5;have hown5':w5.ownsRow w.heap.size 3 1 (.slice A5 k cap5) k ((l.take k).map (Value.int .i64)):=hown5;have HO5:=hid hown5';clear hown5 hown5' hg5 hat5 hbw5;(go_upto_region 10 with(first|(at_builtin;refine zf rfl (.tmp 52) (.tmp 54) _ rfl Tryz.underlying31 Tryz.eInt rfl (HO5.out.alloc _) rfl (news:=[.int .i64 n]) rfl (one_cell (by simp)) (by simp[Value.oneCell']) (by unfold maxLen;omega) (by omega) (by have:=HB5.out.size;simp;omega) ?_;intro v6 w6 hown6 hg6 hat6;have hbw6:=zx (HB5.out.alloc HB5.out.size _) (HO5.out.alloc _) hg6 (by have:=HB5.out.size;simp;omega) (Nat.le_refl _);obtain⟨A6,cap6,hv6,-,-,-⟩:=Row.of_own hown6 (by decide);subst hv6)));have HB6:=hid hbw6;have HO6:=hid hown6;clear hown6 hg6 hat6 hbw6;by_cases hcapk:cap=k
   ·go_wp2_with(first|(at_builtin;refine zf rfl (.tmp 56) (.tmp 59) _ rfl Tryz.underlying31 Tryz.eInt rfl HO6.out rfl (news:=[]) (by simp;omega) (λj u hu=>by simp at hu) (λu hu=>by simp at hu) (by unfold maxLen;omega) (by omega) (by have:=HB6.out.size;omega) ?_;intro v7 w7 hown7 hg7 hat7;have hbw7:=zx HB6.out HO6.out hg7 (by have:=HB6.out.size;omega) (Nat.le_refl _);obtain⟨A7,cap7,hv7,-,-,-⟩:=Row.of_own hown7 (by decide);subst hv7));have HO7:=hid hown7;have HB7:=hid hbw7;clear hown7 hg7 hat7 hbw7;go_ret;rw[HR.out];have hlen:(l.take k++n::l.drop k).length =k+1+(l.length-k):=by simp;omega
    have hown:w7.ownsRow w.heap.size 3 1 (.slice A7 (k+1+(l.length-k)) cap7) (k+1+(l.length-k)) ((l.take k++n::l.drop k).map (Value.int .i64)):=by
     have h:=HO7.out;have hd:l.drop k=[]:=List.drop_eq_nil_of_le (by omega);rw[hd];simpa using h
    refine⟨_,rfl,(zL.of_own hown (λx hx=> ?_) (by rw[hlen];omega)).mono λb hb=>Or.inr hb,HB7.out⟩;rcases List.mem_append.1 hx with hx|hx
    ·exact HI.out.fit x (List.mem_of_mem_take hx)
    ·rcases List.mem_cons.1 hx with rfl|hx
     ·exact hn
     ·exact HI.out.fit x (List.mem_of_mem_drop hx)
   ·go_wp2_with(first|(at_builtin;refine zf rfl (.tmp 56) (.tmp 59) _ rfl Tryz.underlying31 Tryz.eInt rfl HO6.out rfl (news:=(l.drop k).map (Value.int .i64)) (by rw[List.length_map,List.length_drop];omega) (HN2.out _ HB6.out) (λu hu=>by obtain⟨x,-,rfl⟩:=List.mem_map.1 hu;rfl) (by unfold maxLen;omega) (by omega) (by have:=HB6.out.size;omega) ?_;intro v7 w7 hown7 hg7 hat7;have hbw7:=zx HB6.out HO6.out hg7 (by have:=HB6.out.size;omega) (Nat.le_refl _);obtain⟨A7,cap7,hv7,-,-,-⟩:=Row.of_own hown7 (by decide);subst hv7));have HO7:=hid hown7;have HB7:=hid hbw7;clear hown7 hg7 hat7 hbw7;go_ret;rw[HR.out];have hlen:(l.take k++n::l.drop k).length =k+1+(l.length-k):=by simp;omega
    have hown:w7.ownsRow w.heap.size 3 1 (.slice A7 (k+1+(l.length-k)) cap7) (k+1+(l.length-k)) ((l.take k++n::l.drop k).map (Value.int .i64)):=by
     have h:=HO7.out;simpa using h
    refine⟨_,rfl,(zL.of_own hown (λx hx=> ?_) (by rw[hlen];omega)).mono λb hb=>Or.inr hb,HB7.out⟩;rcases List.mem_append.1 hx with hx|hx
    ·exact HI.out.fit x (List.mem_of_mem_take hx)
    ·rcases List.mem_cons.1 hx with rfl|hx
     ·exact hn
     ·exact HI.out.fit x (List.mem_of_mem_drop hx)
end Go.Proofs.YtonmdbdopchkaaaGreatDoor
