/- Texts V20 V21 V23 V24. -/
import Derived.Test.YtonmdbdopchkaaaGreatDoorM42
import Derived.Test.YtonmdbdopchkaaaGreatDoorM41
set_option linter.all false
namespace Go.Proofs.YtonmdbdopchkaaaGreatDoor
open Go.RowKit
set_option maxHeartbeats 8000000
set_option maxRecDepth 100000
def VB(w W:World)(G D:Value):Prop:=Blk W w.heap.size 30 #[G]∧Blk W (w.heap.size+1) 27 #[D]∧Below w.heap.size w W
theorem VB.new(w:World)(G D:Value):VB w ((w.alloc (.cells #[G] 30)).alloc (.cells #[D] 27)) G D:=
 ⟨(Blk.new w _ #[G]).alloc _,Blk.new' (w.alloc (.cells #[G] 30)) _ #[D] (by simp),zAy w _ _⟩
theorem VB.on{w W W':World}{G D:Value}(h:VB w W G D)(hb:Below W.heap.size W W'):VB w W' G D:=
 ⟨h.1.below hb h.1.lt,h.2.1.below hb h.2.1.lt,h.2.2.trans (hb.mono h.2.2.size)⟩
theorem zDh(Z:zD)(vg vd:Value)(g:List zB)(ds:List zC)(w:World)(hg:zO Z w vg g)(hd:Facts Z w vd ds)(hz:∀b,Z b->b<w.heap.size):
  Calls Tryz.prog 16 #[.agg #[vg],.agg #[vd]] w λe w'=>e= .returned (.bool (zAB ds g))∧Below w.heap.size w w':=by
 obtain⟨G,gcap,rfl,hgcap,hglen,hgat⟩:=hg.open_;obtain⟨D,dcap,rfl,-,-,-⟩:=hd.open_
 have HNO:=hid (λ(h:¬zAp ds g)=>(show zAB ds g=false from by
  cases e:zAB ds g with
  |false=>rfl
  |true=>exact absurd (zAk.1 e) h))
 have zW5:=hid (λ(h:zAp ds g)=>zAk.2 h);have HG:=hid hgat;have HV:=hid (λW(hW:Below w.heap.size w W)=>zGh Z (.slice D ds.length dcap) ds W (hd.keep (.of_below hW)));have HP:=hid (λ(n:zB) cs W(hW:Below w.heap.size w W)(hn:zd Z w cs n)=>zNU Z (.slice G g.length gcap) (.slice D ds.length dcap) g ds n cs W (hg.keep (.of_below hW)) (hn.keep (.of_below hW)) (hd.keep (.of_below hW)));have HE:=hid (λ(n m:zB) cs cs' W(hW:Below w.heap.size w W)(hn:zd Z w cs n)(hm:zd Z w cs' m)=>zGM Z Z n m cs cs' W (hn.keep (.of_below hW)) (hm.keep (.of_below hW)));have zVS:=hid (λ(hgood:Good ds g)(hr:Rng g 0)(hl:g.length≤4000) W(hW:Below w.heap.size w W)=>zIa hgood (by omega) G gcap W.heap.size Z (λb hb=>Nat.lt_of_lt_of_le (hz b hb) hW.size) (ds.length+1) 0 [] (.slice none 0 0) W (by have:=zCG (ds:=ds) (g:=g) 0;omega) hr (Ord.nil g) (Nat.le_refl _) (hg.keep (.of_below hW)) (World.ownsRow_nil _ _ _ _));have HB0:=hid (VB.new w (.slice G g.length gcap) (.slice D ds.length dcap));clear hg hd hz hgat;go_enter Tryz.func16,Tryz.ntmps16
 go_wp2_with fail
 generalize (w.alloc (.cells #[.slice G g.length gcap] 30)).alloc (.cells #[.slice D ds.length dcap] 27)=w0 at*;refine(HV.out _ HB0.out.2.2).mono ?_;rintro e w1 ⟨rfl,hb1⟩;have HB:=hid (HB0.out.on hb1);clear HB0 hb1 HV;have g0:=HB.out.1.at0;have gl:=HB.out.1.lt;cases hv:zR ds
 ·have HQ:=hid (HNO.out (λV=>by rw[V.dom]at hv;cases hv));clear hv;go_wp2;go_ret;exact⟨zI HQ.out.symm,HB.out.2.2⟩
 by_cases h1:g.length<1
 ·have e1:decide ((g.length:Int)<1)=true:=by simp;omega
  have HQ:=hid (HNO.out (λV=>by have:=List.length_pos_iff.2 V.ne;omega));clear hv h1;go_wp2;go_ret;exact⟨zI HQ.out.symm,HB.out.2.2⟩
 have e1:decide ((g.length:Int)<1)=false:=by simp;omega
 by_cases h2:4000<g.length
 ·have e2:decide ((4000:Int)<(g.length:Int))=true:=by simp;omega
  have HQ:=hid (HNO.out (λV=>by have:=V.len;omega));clear hv h1 h2;go_wp2;go_ret;exact⟨zI HQ.out.symm,HB.out.2.2⟩
 have e2:decide ((4000:Int)<(g.length:Int))=false:=by simp;omega
 have zD1:=hid (show zR ds=true∧1≤g.length∧g.length≤4000 from⟨hv,by omega,by omega⟩);clear hv h1 h2;go_wp2;clear g0 gl;go_loopw[5] (λi wr=>∃k:Nat,k≤g.length∧i= .int .i64 k∧Hid (∀n∈g.take k,zc ds g n=true)∧Hid (VB w wr (.slice G g.length gcap) (.slice D ds.length dcap))) (λi _=>g.length-(intOf i).toNat);case atStart=>exact⟨0,Nat.zero_le _,rfl,hid (by simp),HB⟩
 case round=>
  obtain⟨k,hk,rfl,hall,hvb⟩:=hrel;have g0:=hvb.out.1.at0;have gl:=hvb.out.1.lt;by_cases hlt:k<g.length
  ·obtain⟨gb,goff,vc,vk,rfl,hgz,hgb,m0,m1,m2,m3,mf,mc,mk⟩:=HG.out k hlt;have d0:=hvb.out.2.1.at0;have dl:=hvb.out.2.1.lt;replace m0:=brd hvb.out.2.2 m0 hgb;replace m1:=brd hvb.out.2.2 m1 hgb;replace m2:=brd hvb.out.2.2 m2 hgb;replace m3:=brd hvb.out.2.2 m3 hgb;have ml:=lt_of_cell m0;have HN:=hid (show zd Z w [.bool g[k].leaf,.int .i64 g[k].fact,vc,vk] g[k] from⟨vc,vk,rfl,mf,mc,mk⟩);obtain⟨⟨C,ccap,rfl,-,-,-,-⟩,-⟩:=mc;obtain⟨⟨K,kcap,rfl,-,-,-,-⟩,-⟩:=mk;have zN:=hid (λW(hW:Below wr.heap.size wr W)=>HP.out g[k] _ W (hvb.out.2.2.trans (hW.mono hvb.out.2.2.size)) HN.out);have htk:g.take (k+1)=g.take k++[g[k]]:=List.take_succ_eq_append_getElem hlt;have HTK:=hid htk;have zW6:=hid (List.getElem_mem hlt);(have hk1:((k:Nat):Int)<(g.length:Int):=by omega);(have hk0:(0:Int)≤((k:Nat):Int):=by omega);clear hgb mf htk hgz;generalize g[k]=n at*;go_wp2
   go_region_held3(λw'=>w'.cell? ⟨w.heap.size,0,none⟩=some (.slice (some ⟨gb,goff,none⟩) g.length gcap)∧w'.cell? ⟨w.heap.size+1,0,none⟩=some (.slice D ds.length dcap)∧w'.cell? ⟨gb,goff+k*4,none⟩=some (.bool n.leaf)∧w'.cell? ⟨gb,goff+k*4+1,none⟩=some (.int .i64 n.fact)∧w'.cell? ⟨gb,goff+k*4+2,none⟩=some (.slice C n.cuts.length ccap)∧w'.cell? ⟨gb,goff+k*4+3,none⟩=some (.slice K n.kids.length kcap))
    (first|exact⟨p0,p1,p2,p3,p4,p5⟩|(refine⟨?_,?_,?_,?_,?_,?_⟩<;>go_keep))
    (first
     |(go_at_call 57;refine(zN.out _ (Below.refl _ _).drew).mono ?_;rintro e w2 ⟨rfl,hb2⟩;have hb2:Below wr.heap.size wr w2:=(Below.refl _ _).drew.trans hb2;have p0:=brd hb2 g0 gl;have p1:=brd hb2 d0 dl;have p2:=brd hb2 m0 ml;have p3:=brd hb2 m1 ml;have p4:=brd hb2 m2 ml;have p5:=brd hb2 m3 ml))
   have HN2:=hid (hvb.out.on hb2);clear p0 p1 p2 p3 p4 p5 hb2;cases hp:zc ds g n
   ·have HQ:=hid (HNO.out (λV=>by
     have:=zFL.2 (V.good.proper n zW6.out)
     rw[hp]at this;cases this))
    clear hp;go_wp2;go_ret;exact⟨zI HQ.out.symm,HN2.out.2.2⟩
   ·have HQ:=hid (show ∀x∈g.take (k+1),zc ds g x=true from λx hx=>by
     rw[HTK.out]at hx;rcases List.mem_append.1 hx with hx|hx
     ·exact hall.out x hx
     ·rw[List.mem_singleton]at hx;rw[hx];exact hp)
    clear hp;go_wp2;go_roundw;(case rel=>exact⟨k+1,by omega,by go_num,HQ,HN2⟩);case measure=>simp[intOf];omega
  ·(obtain rfl:k=g.length:=by omega);have zKN:=hid (show ∀n∈g,zc ds g n=true from by have:=hall.out;rwa[List.take_length]at this);clear hall HB HP;go_wp2;clear g0 gl;(rename World=>ws);go_loopw[6,7] (λi _ wr=>∃k:Nat,k≤g.length∧i= .int .i64 k∧Hid (∀i j,i<k->j<i->nAt g (i:Nat)≠nAt g (j:Nat))∧Hid (VB w wr (.slice G g.length gcap) (.slice D ds.length dcap))) (λi _ _=>g.length-(intOf i).toNat);case atStart=>exact⟨0,Nat.zero_le _,rfl,hid (λi j h=>absurd h (Nat.not_lt_zero _)),hvb⟩
   case round=>
    clear hvb;obtain⟨k,hk,rfl,hall,hvb⟩:=hrel;have g0:=hvb.out.1.at0;have gl:=hvb.out.1.lt;by_cases hlt:k<g.length
    ·(have hk1:((k:Nat):Int)<(g.length:Int):=by omega);(have hk0:(0:Int)≤((k:Nat):Int):=by omega);go_wp2;clear g0 gl;(rename World=>wt);go_loopw[7] (λi wr=>∃q:Nat,q≤k∧i= .int .i64 q∧Hid (∀j,j<q->nAt g (k:Nat)≠nAt g (j:Nat))∧Hid (VB w wr (.slice G g.length gcap) (.slice D ds.length dcap))) (λi _=>k-(intOf i).toNat);case atStart=>exact⟨0,Nat.zero_le _,rfl,hid (λj h=>absurd h (Nat.not_lt_zero _)),hvb⟩
     case round=>
      clear hvb;obtain⟨q,hq,rfl,hall2,hvb⟩:=hrel;by_cases hqk:q<k
      ·(have hqg:q<g.length:=by omega);obtain⟨gb,goff,vc,vk,rfl,-,hgb,m0,m1,m2,m3,mf,mc,mk⟩:=HG.out k hlt;obtain⟨gb',goff',vc',vk',hge,-,-,n0,n1,n2,n3,nf,nc,nk⟩:=HG.out q hqg;injection hge with hge;injection hge with hge1 hge2;subst hge1 hge2;have g0:=hvb.out.1.at0;have gl:=hvb.out.1.lt;replace m0:=brd hvb.out.2.2 m0 hgb;replace m1:=brd hvb.out.2.2 m1 hgb;replace m2:=brd hvb.out.2.2 m2 hgb;replace m3:=brd hvb.out.2.2 m3 hgb;replace n0:=brd hvb.out.2.2 n0 hgb;replace n1:=brd hvb.out.2.2 n1 hgb;replace n2:=brd hvb.out.2.2 n2 hgb;replace n3:=brd hvb.out.2.2 n3 hgb;have ml:=lt_of_cell m0;have HN:=hid (show zd Z w [.bool g[k].leaf,.int .i64 g[k].fact,vc,vk] g[k] from⟨vc,vk,rfl,mf,mc,mk⟩);have HM:=hid (show zd Z w [.bool g[q].leaf,.int .i64 g[q].fact,vc',vk'] g[q] from⟨vc',vk',rfl,nf,nc,nk⟩);obtain⟨⟨C,ccap,rfl,-,-,-,-⟩,-⟩:=mc;obtain⟨⟨K,kcap,rfl,-,-,-,-⟩,-⟩:=mk;obtain⟨⟨C',ccap',rfl,-,-,-,-⟩,-⟩:=nc;obtain⟨⟨K',kcap',rfl,-,-,-,-⟩,-⟩:=nk;have zN:=hid (λW(hW:Below wr.heap.size wr W)=>HE.out g[k] g[q] _ _ W (hvb.out.2.2.trans (hW.mono hvb.out.2.2.size)) HN.out HM.out);have HAT:=hid (And.intro (zAI hlt) (zAI hqg));have zT7:=hid (λ(e:g[k]=g[q])(V:zAp ds g)=>zG7.1 V.good.nodup k q hlt hqk e);(have hq1:((q:Nat):Int)<(g.length:Int):=by omega);(have hq0:(0:Int)≤((q:Nat):Int):=by omega);clear hgb mf nf;generalize g[k]=n at*;generalize g[q]=m at*;go_wp2
       go_region_held3(λw'=>w'.cell? ⟨w.heap.size,0,none⟩=some (.slice (some ⟨gb,goff,none⟩) g.length gcap)∧w'.cell? ⟨gb,goff+k*4,none⟩=some (.bool n.leaf)∧w'.cell? ⟨gb,goff+k*4+1,none⟩=some (.int .i64 n.fact)∧w'.cell? ⟨gb,goff+k*4+2,none⟩=some (.slice C n.cuts.length ccap)∧w'.cell? ⟨gb,goff+k*4+3,none⟩=some (.slice K n.kids.length kcap)∧w'.cell? ⟨gb,goff+q*4,none⟩=some (.bool m.leaf)∧w'.cell? ⟨gb,goff+q*4+1,none⟩=some (.int .i64 m.fact)∧w'.cell? ⟨gb,goff+q*4+2,none⟩=some (.slice C' m.cuts.length ccap')∧w'.cell? ⟨gb,goff+q*4+3,none⟩=some (.slice K' m.kids.length kcap'))
        (first|exact⟨p0,p2,p3,p4,p5,p6,p7,p8,p9⟩|(refine⟨?_,?_,?_,?_,?_,?_,?_,?_,?_⟩<;>go_keep))
        (first
         |(go_at_call 53;refine(zN.out _ (Below.refl _ _).drew).mono ?_;rintro e w2 ⟨rfl,hb2⟩;have hb2:Below wr.heap.size wr w2:=(Below.refl _ _).drew.trans hb2;have p0:=brd hb2 g0 gl;have p2:=brd hb2 m0 ml;have p3:=brd hb2 m1 ml;have p4:=brd hb2 m2 ml;have p5:=brd hb2 m3 ml;have p6:=brd hb2 n0 ml;have p7:=brd hb2 n1 ml;have p8:=brd hb2 n2 ml;have p9:=brd hb2 n3 ml))
       have HN2:=hid (hvb.out.on hb2);clear p0 p2 p3 p4 p5 p6 p7 p8 p9 hb2;cases hnm:decide (n=m)
       ·have HQ:=hid (show ∀j,j<q+1->nAt g (k:Nat)≠nAt g (j:Nat) from λj hj=>by
         by_cases e:j=q
         ·subst e;rw[HAT.out.1,HAT.out.2];exact of_decide_eq_false hnm
         ·exact hall2.out j (by omega))
        clear hnm zT7;go_wp2;go_roundw;(case rel=>exact⟨q+1,by omega,by go_num,HQ,HN2⟩);case measure=>simp[intOf];omega
       ·have HQ:=hid (HNO.out (zT7.out (of_decide_eq_true hnm)));clear hnm zT7;go_wp2;go_ret;exact⟨zI HQ.out.symm,HN2.out.2.2⟩
      ·obtain rfl:q=k:=by omega
       have HQ:=hid (show ∀i j,i<q+1->j<i->nAt g (i:Nat)≠nAt g (j:Nat) from λi j hi hj=>by
        by_cases e:i=q
        ·subst e;exact hall2.out j hj
        ·exact hall.out i j (by omega) hj)
       clear hall2;go_wp2;go_roundw;(case rel=>exact⟨q+1,by omega,by go_num,HQ,hvb⟩);case measure=>simp[intOf];omega
    ·(obtain rfl:k=g.length:=by omega);have hgood:Good ds g:=⟨λn hn=>zFL.1 (zKN.out n hn),zG7.2 λi j hi hj e=>hall.out i j hi hj (by rw[zAI hi,zAI (Nat.lt_trans hj hi)];exact e)⟩;have hr0:Rng g 0:=⟨Int.le_refl _,by have:=zD1.out.2.1;omega⟩;have HCI:=hid (zRT (zBn zD1.out.1) hgood hr0);have HOD:=hid (Ord.visit hgood (k:=ds.length+1) (Ord.nil g) hr0 (by have:=zCG (ds:=ds) (g:=g) 0;omega));have zO8:=hid (show zBH ds g 0=z8 g (ds.length+1) 0 [] from rfl);have HVC:=hid (zVS.out hgood hr0 zD1.out.2.2 wr hvb.out.2.2);have zVm:=hid hgood;clear hall hgood hr0 zVS;rw[zO8.out]at HCI;generalize z8 g (ds.length+1) 0 []=od at*;(go_wp2_with fail);refine HVC.out.mono ?_;rintro e w3 ⟨v,rfl,hown,hb3⟩;have HB3:=hid (hvb.out.on hb3);have hol:od.length≤4000:=by have:=HOD.out.len;have:=zD1.out.2.2;omega
     have hoi:=zCl hown (λq hq=>by
      have:=HOD.out.rng q hq;have h1:=this.1;have h2:=this.2;have h3:=zD1.out.2.2
      constructor<;>omega) (by omega)
     have HOI:=hid hoi;obtain⟨⟨VO,vcap,rfl,-,-,-,-⟩,-⟩:=hoi;clear hb3 hown hvb g0 gl HVC;go_wp2;go_loopw[9] (λi wr=>∃k:Nat,k≤od.length∧i= .int .i64 k∧w3=wr∧Hid (∀j,j<k->od.getD j 0=(j:Nat))) (λi _=>od.length-(intOf i).toNat);case atStart=>exact⟨0,Nat.zero_le _,rfl,rfl,hid (λj h=>absurd h (Nat.not_lt_zero _))⟩
     case round=>
      obtain⟨k,hk,rfl,rfl,hall⟩:=hrel;by_cases hlt:k<od.length
      ·obtain⟨vb,voff,rfl,-,hvb,hvc⟩:=HOI.out.at_ hlt;(have hk1:((k:Nat):Int)<(od.length:Int):=by omega);(have hk0:(0:Int)≤((k:Nat):Int):=by omega);have hvl:=lt_of_cell hvc;(have hgd:od.getD k 0=od[k]:=by simp[List.getD_eq_getElem?_getD,hlt]);have HGD:=hid hgd;clear hgd;generalize od[k]=x at*;by_cases hx:x=(k:Nat)
       ·have e1:(x !=((k:Nat):Int))=false:=by simp[hx]
        have HQ:=hid (show ∀j,j<k+1->od.getD j 0=(j:Nat) from λj hj=>by
         by_cases e:j=k
         ·subst e;rw[HGD.out];exact hx
         ·exact hall.out j (by omega))
        clear hx hall HGD;go_wp2;go_roundw;(case rel=>exact⟨k+1,by omega,by go_num,trivial,HQ⟩);case measure=>simp[intOf];omega
       ·(have e1:(x !=((k:Nat):Int))=true:=by simpa using hx);have HQ:=hid (HNO.out (λV=>hx (by rw[<-HGD.out];exact(HCI.out.1 V.canon).1 k hlt)));clear hx hall HGD;go_wp2;go_ret;exact⟨zI HQ.out.symm,HB3.out.2.2⟩
      ·(obtain rfl:k=od.length:=by omega);have g0:=HB3.out.1.at0;have gl:=HB3.out.1.lt
       have HQ:=hid (show zAB ds g=decide ((od.length:Int)=(g.length:Int)) from by
        by_cases e:(od.length:Int)=(g.length:Int)
        ·rw[decide_eq_true e];exact zW5.out ⟨zD1.out.1,List.length_pos_iff.1 zD1.out.2.1,zD1.out.2.2,zVm.out,HCI.out.2 ⟨hall.out,by omega⟩⟩
        ·rw[decide_eq_false e]
         exact HNO.out λV=>e (by have:=(HCI.out.1 V.canon).2;omega))
       clear hall;go_wp2;go_ret;exact⟨zI (by rw[HQ.out];rfl),HB3.out.2.2⟩
theorem zHQ{P:Program}{ops:Array Oper}{rest:List Oper}{o:Oper}{a:Act}{w:World}{Q:Exit->Act->World->Prop}(hgd:o.guard=none)
  (s x:Operand)(t:TypeId)(ho:o.op= .call {callee:= .builtin .append,args:=#[s,x],argTypes:=#[t,t]})
  {base:Nat}{e:TypeId}{size bytes:Nat}(ht:P.underlying t=some (.slice e))(El:zCV P e size bytes){v:Value}{n:Nat}{xs:List Value}(hs:a.eval s=v)(hown:w.ownsRow base e size v n xs)
  {A:Option Addr}{m c:Nat}(hx:a.eval x= .slice A m c){Zn:zD}{news:List Value}(hn:news.length=m*size)(hr:Row Zn w A news)(h1:∀u∈news,u.oneCell'=true)(h63:n+m≤maxLen)(hb:(n+m)*bytes≤140737488355328)(hbase:base≤w.heap.size)
  (h:∀v' w',w'.ownsRow base e size v' (n+m) (xs++news)->w.grownBy w' v.ownBlock->(v'.ownBlock=v.ownBlock∨v'.ownBlock=some w.heap.size)->wpList P ops Q rest (a.put o.dst v') w'):wpList P ops Q (o::rest) a w:=
 wpList_plain hgd λK hK=>zEp s x t ho ht El hs hown hx hn hr h1 h63 hb hbase λv' w' h2 h3 h4=>hK _ _ (h v' w' h2 h3 h4)
def zVg(g:List zB)(k:Nat)(i:Int)(c:List Int)(Zc:zD)(w:World)(e:Ending)(w':World):Prop:=
 ∃v,e= .returned (.tuple #[v,.bool (live g i)])∧(live g i=true->zL (λb=>Zc b∨w.heap.size≤b) w' v (zAu g k i c).2)∧Below w.heap.size w w'
theorem zPX{g:List zB}{k:Nat}{i:Int}{c:List Int}{j:Nat}(hk:(nAt g i).kids ≠[])(hj:j<(nAt g i).kids.length)(h:∀q,q<j->live g ((nAt g i).kids.getD q 0)=false)(hl:live g ((nAt g i).kids.getD j 0)=true):
  zAu g (k+1) i c=zAu g k ((nAt g i).kids.getD j 0) (if 0<j then c.set (nAt g i).fact.toNat ((nAt g i).cuts.getD (j-1) 0)else c):=by
 have e:(nAt g i).kids.findIdx (live g)=j:=by
  refine(List.findIdx_eq hj).2 ⟨?_,λq hq=> ?_⟩
  ·rw[List.getD_eq_getElem?_getD,List.getElem?_eq_getElem hj]at hl;simpa using hl
  ·have:=h q hq;rw[List.getD_eq_getElem?_getD,List.getElem?_eq_getElem (Nat.lt_trans hq hj)]at this;simpa using this
 rw[zHE,if_neg hk,e]
def LB(w W:World)(G D:Value)(NC:Array Value):Prop:=Blk W w.heap.size 30 #[G]∧Blk W (w.heap.size+1) 27 #[D]∧Blk W (w.heap.size+1+1) 51 NC∧Below w.heap.size w W
theorem LB.new(w:World)(G D:Value)(NC:Array Value):LB w (((w.alloc (.cells #[G] 30)).alloc (.cells #[D] 27)).alloc (.cells NC 51)) G D NC:=
 ⟨((Blk.new w _ #[G]).alloc _).alloc _,(Blk.new' (w.alloc (.cells #[G] 30)) _ #[D] (by simp)).alloc _,Blk.new' ((w.alloc (.cells #[G] 30)).alloc (.cells #[D] 27)) _ _ (by simp),(zAy w _ _).alloc (by simp;omega) _⟩
theorem LB.on{w W W':World}{G D:Value}{NC:Array Value}{B:Nat}(h:LB w W G D NC)(hB:w.heap.size+1+1<B)(hBW:B≤W.heap.size)(hb:Below B W W'):LB w W' G D NC:=
 ⟨h.1.below hb (by omega),h.2.1.below hb (by omega),h.2.2.1.below hb hB,h.2.2.2.trans (hb.mono (by omega))⟩
theorem zNV{ds:List zC}{g:List zB}(hl:zC5 ds)(hg:Good ds g)(hgl:g.length≤4000)(hdl:ds.length≤1000)(G D:Option Addr)(gcap dn dcap:Nat):∀(k:Nat)(i:Int)(c:List Int)(Z Zc:zD)(vc:Value)(w:World),zBr ds g i<k->Rng g i->c.length=ds.length->
  zO Z w (.slice G g.length gcap) g->zL Zc w vc c->
  Calls Tryz.prog 52 #[.agg #[.slice G g.length gcap],.agg #[.slice D dn dcap],.int .i64 i,vc] w (zVg g k i c Zc w):=by
 intro k
 induction k with
 |zero=>intro i c Z Zc vc w hr;omega
 |succ k ih=>
  intro i c Z Zc vc w hr hi hcl hgn hc;obtain⟨n,rfl⟩:=Int.eq_ofNat_of_zero_le hi.1;have hn:n<g.length:=by have:=hi.2;omega
  have HGN:=hid hgn;have HC:=hid hc;have IH:=hid ih;clear ih;have eg:∀args w,(callFunc 52 args).run Tryz.prog w= .ok (.enter 52 args) w:=enters_of Tryz.func52 (by kernel_rfl) rfl;obtain⟨_,_,he0,-,-,hgat⟩:=hgn.open_;obtain⟨gb,goff,vcu,vki,he,hgz,hgb,c0,c1,c2,c3,hf,hcu,hki⟩:=hgat n hn;injection he0 with e1 e2 e3;subst e1;subst he;clear e2 e3 hgat;have HRK:=hid (λ(hk:(nAt g (n:Int)).kids ≠[]) j(hj:j<(nAt g (n:Int)).kids.length)=>hg.rank_kid hi (zAf hj));have HIN:=hid (λ(hk:(nAt g (n:Int)).kids ≠[])=>hg.inner hi hk);have HSL:=hid (λ(hk:(nAt g (n:Int)).kids ≠[])=>hg.some_live hl hi hk);have HLF:=hid (λj(hk:(nAt g (n:Int)).kids ≠[]) hj h hlv=>zPX (g:=g) (k:=k) (i:=(n:Int)) (c:=c) (j:=j) hk hj h hlv);have HLV:=hid (show live g (n:Int)=(decide ((nAt g (n:Int)).kids ≠[])||(nAt g (n:Int)).leaf) from rfl);have HLW:=hid (zHE g k (n:Int) c);rw[zAI hn]at HRK HIN HSL HLF HLV HLW;have HR:=hid hr;have HCL:=hid (And.intro hcl hdl);have HCU:=hid hcu;have HKI:=hid hki;obtain⟨C,ccap,rfl,hclen⟩:=hc.form;obtain⟨⟨CU,cucap,rfl,-,-,hculen,-⟩,-⟩:=hcu;obtain⟨⟨K,kcap,rfl,hkcap,-,hklen,-⟩,-⟩:=hki;have hn1:((n:Nat):Int)<(g.length:Int):=by omega
  have hn0:(0:Int)≤((n:Nat):Int):=by omega
  have HL0:=hid (LB.new w (.slice (some ⟨gb,goff,none⟩) g.length gcap) (.slice D dn dcap) #[.bool g[n].leaf,.int .i64 g[n].fact,.slice CU g[n].cuts.length cucap,.slice K g[n].kids.length kcap]);clear hr hi hcl hgn hc hg hl hdl hgz;generalize g[n]=nd at*;go_enter Tryz.func52,Tryz.ntmps52
  by_cases hkn:nd.kids=[]
  ·(have e3:((nd.kids.length:Int)==0)=true:=by simp[hkn]);have HQ:=hid (show live g (n:Int)=nd.leaf from by rw[HLV.out,hkn];simp);have HQ2:=hid (show zAu g (k+1) (n:Int) c=((n:Int),c) from by rw[HLW.out,if_pos hkn]);clear hkn HRK HIN HSL HLF HLV HLW;go_wp2;go_quiet(fail);go_wp2;refine bodyPost_ret (v:= .tuple #[.slice C c.length ccap,.bool nd.leaf]) (by simp[results,Tryz.results52,go_sem]) rfl ?_;refine⟨_,by rw[HQ.out],λ_=> ?_,(below_drewN' HL0.out.2.2.2 _)⟩;rw[HQ2.out];exact(HC.out.keep (.of_below (below_drewN' HL0.out.2.2.2 _))).mono λ_ h=>Or.inl h
  ·(have e3:((nd.kids.length:Int)==0)=false:=by simp[hkn]);have HQ:=hid (show live g (n:Int)=true from by rw[HLV.out,decide_eq_true hkn];rfl);have HI:=hid (HIN.out hkn);replace HRK:=hid (HRK.out hkn);replace HSL:=hid (HSL.out hkn);replace HLF:=hid (λj=>HLF.out j hkn);have hkpos:0<nd.kids.length:=List.length_pos_iff.2 hkn;obtain⟨fi,hfi⟩:=Int.eq_ofNat_of_zero_le HI.out.f0;have HFI:=hid (And.intro hfi (show fi<c.length from by have h1:=HI.out.f1;have h2:=HCL.out.1;omega));have HKP:=hid hkpos;clear hkn HLV HLW HIN hkpos hfi;go_wp2;generalize ((w.alloc (.cells #[.slice (some ⟨gb,goff,none⟩) g.length gcap] 30)).alloc (.cells #[.slice D dn dcap] 27)).alloc (.cells #[.bool nd.leaf,.int .i64 nd.fact,.slice CU nd.cuts.length cucap,.slice K nd.kids.length kcap] 51)=w0 at*;clear c0 c1 c2 c3;go_loopw[11,12,13] (λix _ _ wr=>∃j:Nat,j≤nd.kids.length∧ix= .int .i64 j∧Hid (∀q,q<j->live g (nd.kids.getD q 0)=false)∧Hid (LB w wr (.slice (some ⟨gb,goff,none⟩) g.length gcap) (.slice D dn dcap) #[.bool nd.leaf,.int .i64 nd.fact,.slice CU nd.cuts.length cucap,.slice K nd.kids.length kcap])) (λix _ _ _=>nd.kids.length-(intOf ix).toNat);case atStart=>exact⟨0,Nat.zero_le _,rfl,hid (λq h=>absurd h (Nat.not_lt_zero _)),HL0⟩
   case round=>
    obtain⟨j,hj,rfl,hall,hlb⟩:=hrel;have n3:=hlb.out.2.2.1.at3;have nl:=hlb.out.2.2.1.lt;by_cases hlt:j<nd.kids.length
    ·obtain⟨kb,koff,rfl,hkz,hkb,hkc⟩:=HKI.out.at_ hlt;have hkc2:=brd hlb.out.2.2.2 hkc hkb;have HKC:=hid (And.intro hkb hkc);have hkr:=HRK.out j hlt;(have hgd:nd.kids.getD j 0=nd.kids[j]:=by simp[List.getD_eq_getElem?_getD,hlt]);have HJ:=hid (And.intro hgd (HLF.out j hlt));rw[hgd]at hkr;have HKR:=hid hkr;(have hj1:((j:Nat):Int)<(nd.kids.length:Int):=by omega);(have hj0:(0:Int)≤((j:Nat):Int):=by omega);have HS0:=hid hlb.out.2.2.2.size;have HB3:=hid nl;clear hkb hkc hkr hgd;generalize nd.kids[j]=x at*;have hE:=zFx (w:=wr) (B:=wr.heap.size) (Nat.le_refl _) 3
     have HRW:=hid (show Row Zc (wr.alloc (.cells #[] 3)) C (c.map (Value.int .i64)) from by
      obtain⟨⟨C',ccap',h1,-,-,-,hr⟩,-⟩:=HC.out;injection h1 with h1 h2 h3;subst h1
      exact hr.keep ((zA.of_below hlb.out.2.2.2).alloc _))
     by_cases hjp:0<j
     ·(have e2:decide ((0:Int)<((j:Nat):Int))=true:=by simp;exact hjp);(have e2':decide (0<j)=true:=by simp;exact hjp);have HJP:=hid hjp;go_wp2_with(at_builtin;refine zHQ rfl (.tmp 33) (.tmp 34) _ rfl Tryz.underlying32 Tryz.eInt rfl hE rfl (m:=c.length) (news:=c.map (Value.int .i64)) (by rw[List.length_map,Nat.mul_one]) HRW.out (λu hu=>by obtain⟨y,-,rfl⟩:=List.mem_map.1 hu;rfl) (by have h1:=HCL.out;unfold maxLen;omega) (by have h1:=HCL.out;omega) (by simp) ?_;intro v5 w5 hown5 hg5 hat5);have hbel5:Below wr.heap.size wr w5:=zx (zE wr _) hE hg5 (by simp) (Nat.le_refl _);rw[Nat.zero_add,List.nil_append]at hown5;have HL5:=hid (hlb.out.on (B:=wr.heap.size) nl (Nat.le_refl _) hbel5);have zLX:=hid HC.out.2
      have hx5:∃ob ocap,v5= .slice (some ⟨ob,0,none⟩) c.length ocap∧wr.heap.size≤ob:=by
       rcases hown5.2 with⟨_,h0⟩|⟨ob,c',cur',hv,hge,_,hnn,_⟩
       ·have h1:=HFI.out.2;omega
       ·first|exact⟨ob,_,hv,hge⟩|(subst hnn;exact⟨ob,_,hv,hge⟩)
      obtain⟨ob,ocap,rfl,hob⟩:=hx5;have HOB:=hid hob;clear n3 nl hE hg5 hat5 hkc2 HRW hlb;obtain⟨p,rfl⟩:∃p,j=p+1:=⟨j-1,by omega⟩;(have hpc:p<nd.cuts.length:=by have:=HI.out.len;omega);obtain⟨ub,uoff,rfl,-,hub,huc⟩:=HCU.out.at_ hpc;(have huv:nd.cuts.getD p 0=nd.cuts[p]:=by simp[List.getD_eq_getElem?_getD,hpc]);have hui:=HCU.out.2 _ (List.getElem_mem hpc);have hu3:=brd HL5.out.2.2.2 huc hub;have hu3l:=lt_of_cell hu3;(have hp1:((p:Nat):Int)<(nd.cuts.length:Int):=by omega);(have hp0:(0:Int)≤((p:Nat):Int):=by omega);have HUI:=hid (And.intro hui huv);(have hwp:IntKind.i64.wrap ((p:Nat):Int)=((p:Nat):Int):=by rw[IntKind.wrap_i64];omega);have hcul:=hculen;clear hjp huc huv hub hui;generalize nd.cuts[p]=u at*;(have n1:w5.cell? ⟨w.heap.size+1+1,1,none⟩=some (.int .i64 (fi:Int)):=by rw[<-HFI.out.1];exact HL5.out.2.2.1.cell 1);have n2:=HL5.out.2.2.1.at2;have nl5:=HL5.out.2.2.1.lt
      have hcs:(c.map (Value.int .i64))[fi]? =some (.int .i64 (c.getD fi 0)):=by
       have hcl:=HFI.out.2;rw[List.getElem?_map,List.getElem?_eq_getElem hcl];simp[List.getD_eq_getElem?_getD,hcl]
      obtain⟨hcx,hcf⟩:=zIR hown5 hcs;have hcxl:=lt_of_cell hcx;(have hfi1:((fi:Nat):Int)<(c.length:Int):=by have:=HFI.out.2;omega);(have hfi0:(0:Int)≤((fi:Nat):Int):=by omega);have hks:zA (λb=>b≠ob) w5 (w5.drew.setCell ⟨ob,fi,none⟩ (.int .i64 u)):=(zA.refl _ _).drew.setCell (λ_ h=>h rfl) _;have zFd:=hid (zJx (show w5.drew.ownsRow wr.heap.size 3 1 (.slice (some ⟨ob,0,none⟩) c.length ocap) c.length (c.map (.int .i64)) from hown5) fi (.int .i64 u))
      have HL7:=hid (show LB w (w5.drew.setCell ⟨ob,fi,none⟩ (.int .i64 u)) (.slice (some ⟨gb,goff,none⟩) g.length gcap) (.slice D dn dcap) #[.bool nd.leaf,.int .i64 nd.fact,.slice (some ⟨ub,uoff,none⟩) nd.cuts.length cucap,.slice (some ⟨kb,koff,none⟩) nd.kids.length kcap] from by
       have h0:=HS0.out;have h5:=HB3.out;have h1:=HOB.out
       exact⟨HL5.out.1.keep hks (by omega),HL5.out.2.1.keep hks (by omega),HL5.out.2.2.1.keep hks (by omega),HL5.out.2.2.2.trans ⟨hks.os,hks.tape,hks.output,hks.size,λb hb=>hks.block b (by have:=HL5.out.2.2.2.size;omega) (by omega)⟩⟩)
      have HOI:=hid (show zL (λb=>w.heap.size≤b) (w5.drew.setCell ⟨ob,fi,none⟩ (.int .i64 u)) (.slice (some ⟨ob,0,none⟩) c.length ocap) (c.set fi u) from by
       have h:=zFd.out;rw[show(c.map (Value.int .i64)).set fi (.int .i64 u)=(c.set fi u).map (.int .i64) from by rw[List.map_set]]at h;(refine(zL.of_own h (λy hy=> ?_) (by rw[List.length_set];have h1:=HCL.out;omega)).mono λb hb=>by have:=HS0.out;omega);rcases List.mem_or_eq_of_mem_set hy with hy|hy
       ·exact zLX.out y hy
       ·rw[hy];exact HUI.out.1)
      go_wp2;refine zAO 10 (λW=>W.cell? ⟨w.heap.size+1+1,1,none⟩=some (.int .i64 (fi:Int))∧W.cell? ⟨w.heap.size+1+1,2,none⟩=some (.slice (some ⟨ub,uoff,none⟩) nd.cuts.length cucap)∧W.cell? ⟨ub,uoff+p,none⟩=some (.int .i64 u)) (by kernel_rfl) ?_;have hS:(λW:World=>W.cell? ⟨w.heap.size+1+1,1,none⟩=some (.int .i64 (fi:Int))∧W.cell? ⟨w.heap.size+1+1,2,none⟩=some (.slice (some ⟨ub,uoff,none⟩) nd.cuts.length cucap)∧W.cell? ⟨ub,uoff+p,none⟩=some (.int .i64 u)) w5.drew:=⟨n1,n2,hu3⟩;have hcx6:w5.drew.cell? ⟨ob,fi,none⟩=some (.int .i64 (c.getD fi 0)):=hcx;have hcf6:w5.drew.frozen? ⟨ob,fi,none⟩=false:=hcf;have hcl6:ob<w5.drew.heap.size:=hcxl;clear hcx hcf hcxl n1 n2 hu3 hu3l hks hcs nl5 hown5 hbel5 HL5 zFd;generalize w5.drew=w6 at*
      (refine tkZ 0 ?_ hS ?_ ?_;rotate_left;intro w;go_simp;(try with_reducible rfl);simp only[nr])
      (refine tkZ 1 ?_ hS ?_ ?_;rotate_left;intro w;go_simp;(try with_reducible rfl);simp only[nr])
      (refine tkS 2 ?_ hS ?_ ?_;rotate_left;intro w hSw;obtain⟨h1,h2,h3⟩:=hSw;go_simp;(try with_reducible rfl);simp only[nr])
      (refine tkZ 3 ?_ hS ?_ ?_;rotate_left;intro w;go_simp;(try with_reducible rfl);simp only[nr])
      (refine tkS 4 ?_ hS ?_ ?_;rotate_left;intro w hSw;obtain⟨h1,h2,h3⟩:=hSw;go_simp;(try with_reducible rfl);simp only[nr])
      (refine tkZ 5 ?_ hS ?_ ?_;rotate_left;intro w;go_simp;(try with_reducible rfl);simp only[nr])
      (refine tkZ 6 ?_ hS ?_ ?_;rotate_left;intro w;go_simp;(try with_reducible rfl);simp only[nr])
      (refine tkZ 7 ?_ hS ?_ ?_;rotate_left;intro w;go_simp;(try with_reducible rfl);simp only[nr])
      (refine tkS 8 ?_ hS ?_ ?_;rotate_left;intro w hSw;obtain⟨h1,h2,h3⟩:=hSw;go_simp;(try with_reducible rfl);simp only[nr])
      (refine tkZ 9 ?_ hS ?_ ?_;rotate_left;intro w;go_simp;(try with_reducible rfl);simp only[nr])
      refine wS1 10 (λK hK=> ?_);(go_wp2_with fail);refine hK _ _ (Or.inl rfl) ?_;clear hK K hS hcx6 hcf6 hcl6
      (try simp only[nr])
      refine wSd ?_ _;generalize w6.setCell ⟨ob,fi,none⟩ (.int .i64 u)=w7 at*;have zN:=hid (λW(hW:Below w7.heap.size w7 W)=>IH.out x (c.set fi u) Z (λb=>w.heap.size≤b) (.slice (some ⟨ob,0,none⟩) c.length ocap) W (by have:=HKR.out.2;have:=HR.out;omega) HKR.out.1 (by simp only[List.length_set];exact HCL.out.1) (HGN.out.keep (.of_below (HL7.out.2.2.2.trans (hW.mono HL7.out.2.2.2.size)))) (HOI.out.keep (.of_below hW)));have q0:=HL7.out.1.at0;have l0:=HL7.out.1.lt;have q1:=HL7.out.2.1.at0;have l1:=HL7.out.2.1.lt;have q2:=HL7.out.2.2.1.at3;have l2:=HL7.out.2.2.1.lt;have q3:w7.cell? ⟨kb,koff+(p+1),none⟩=some (.int .i64 x):=brd HL7.out.2.2.2 HKC.out.2 HKC.out.1;have l3:=(Nat.lt_of_lt_of_le HKC.out.1 HL7.out.2.2.2.size);(have hq1:((p:Nat):Int)+1<(nd.kids.length:Int):=by omega);(have hq0:(0:Int)≤((p:Nat):Int)+1:=by omega);go_wp2
      go_region_held3(λw'=>w'.cell? ⟨w.heap.size,0,none⟩=some (.slice (some ⟨gb,goff,none⟩) g.length gcap)∧w'.cell? ⟨w.heap.size+1,0,none⟩=some (.slice D dn dcap)∧w'.cell? ⟨w.heap.size+1+1,3,none⟩=some (.slice (some ⟨kb,koff,none⟩) nd.kids.length kcap)∧w'.cell? ⟨kb,koff+(p+1),none⟩=some (.int .i64 x))
       (first|exact⟨p0,p1,p2,p3⟩|(refine⟨?_,?_,?_,?_⟩<;>go_keep))
       (first
        |(go_at_call 52;refine(zN.out _ (Below.refl _ _).drew).mono ?_;rintro e w8 ⟨v8,rfl,hv8,hb8⟩;have hb8:Below w7.heap.size w7 w8:=(Below.refl _ _).drew.trans hb8;have p0:=brd hb8 q0 l0;have p1:=brd hb8 q1 l1;have p2:=brd hb8 q2 l2;have p3:=brd hb8 q3 l3))
      have HL8:=hid (HL7.out.on (B:=w7.heap.size) HL7.out.2.2.1.lt (Nat.le_refl _) hb8);have HV8:=hid hv8;clear p0 p1 p2 p3 q0 q1 q2 q3 l0 l1 l2 l3 hb8 hv8 zN;cases hlv:live g x
      ·have HQ2:=hid (show ∀q,q<(p+1)+1->live g (nd.kids.getD q 0)=false from λq hq=>by
        by_cases e:q=p+1
        ·subst e;rw[HJ.out.1];exact hlv
        ·exact hall.out q (by omega))
       clear hlv;go_wp2;go_roundw;(case rel=>exact⟨(p+1)+1,by omega,by go_num,HQ2,HL8⟩);case measure=>simp[intOf];omega
      ·have HQ2:=hid (HJ.out.2 hall.out (by rw[HJ.out.1];exact hlv));have HV9:=hid (HV8.out hlv);clear hlv HV8;go_wp2;refine bodyPost_ret (v:= .tuple #[v8,.bool true]) (by simp[results,Tryz.results52,go_sem]) rfl ?_;refine⟨_,by rw[HQ.out],λ_=> ?_,HL8.out.2.2.2⟩;rw[HQ2.out,HJ.out.1,if_pos HJP.out,HFI.out.1,Int.toNat_natCast,Nat.add_sub_cancel,HUI.out.2];exact HV9.out.mono λb hb=>Or.inr (hb.elim id (λh=>by have h1:=HL7.out.2.2.2.size;have h2:w7.drew.heap.size=w7.heap.size:=rfl;omega))
     ·have HJP:=hid hjp;(obtain rfl:j=0:=by omega);go_wp2_with(at_builtin;refine zHQ rfl (.tmp 33) (.tmp 34) _ rfl Tryz.underlying32 Tryz.eInt rfl hE rfl (m:=c.length) (news:=c.map (Value.int .i64)) (by rw[List.length_map,Nat.mul_one]) HRW.out (λu hu=>by obtain⟨y,-,rfl⟩:=List.mem_map.1 hu;rfl) (by have h1:=HCL.out;unfold maxLen;omega) (by have h1:=HCL.out;omega) (by simp) ?_;intro v5 w5 hown5 hg5 hat5);have hbel5:Below wr.heap.size wr w5:=zx (zE wr _) hE hg5 (by simp) (Nat.le_refl _);rw[Nat.zero_add,List.nil_append]at hown5;have HL5:=hid (hlb.out.on (B:=wr.heap.size) nl (Nat.le_refl _) hbel5);have zLX:=hid HC.out.2
      have hx5:∃ob ocap,v5= .slice (some ⟨ob,0,none⟩) c.length ocap∧wr.heap.size≤ob:=by
       rcases hown5.2 with⟨_,h0⟩|⟨ob,c',cur',hv,hge,_,hnn,_⟩
       ·have h1:=HFI.out.2;omega
       ·first|exact⟨ob,_,hv,hge⟩|(subst hnn;exact⟨ob,_,hv,hge⟩)
      obtain⟨ob,ocap,rfl,hob⟩:=hx5;have HOB:=hid hob;clear n3 nl hE hg5 hat5 hkc2 HRW hlb;replace HKC:=hid (And.intro HKC.out.1 (show w.cell? ⟨kb,koff,none⟩=some (.int .i64 x) from HKC.out.2));have HL7:=HL5
      have HOI:=hid (show zL (λb=>w.heap.size≤b) w5 (.slice (some ⟨ob,0,none⟩) c.length ocap) c from
       (zL.of_own hown5 zLX.out (by have h1:=HCL.out;omega)).mono λb hb=>by have:=HS0.out;omega)
      clear hjp hown5 hbel5 HL5;have zN:=hid (λW(hW:Below w5.heap.size w5 W)=>IH.out x (c) Z (λb=>w.heap.size≤b) (.slice (some ⟨ob,0,none⟩) c.length ocap) W (by have:=HKR.out.2;have:=HR.out;omega) HKR.out.1 (by exact HCL.out.1) (HGN.out.keep (.of_below (HL7.out.2.2.2.trans (hW.mono HL7.out.2.2.2.size)))) (HOI.out.keep (.of_below hW)));have q0:=HL7.out.1.at0;have l0:=HL7.out.1.lt;have q1:=HL7.out.2.1.at0;have l1:=HL7.out.2.1.lt;have q2:=HL7.out.2.2.1.at3;have l2:=HL7.out.2.2.1.lt;have q3:w5.cell? ⟨kb,koff,none⟩=some (.int .i64 x):=brd HL7.out.2.2.2 HKC.out.2 HKC.out.1;have l3:=(Nat.lt_of_lt_of_le HKC.out.1 HL7.out.2.2.2.size);go_wp2
      go_region_held3(λw'=>w'.cell? ⟨w.heap.size,0,none⟩=some (.slice (some ⟨gb,goff,none⟩) g.length gcap)∧w'.cell? ⟨w.heap.size+1,0,none⟩=some (.slice D dn dcap)∧w'.cell? ⟨w.heap.size+1+1,3,none⟩=some (.slice (some ⟨kb,koff,none⟩) nd.kids.length kcap)∧w'.cell? ⟨kb,koff,none⟩=some (.int .i64 x))
       (first|exact⟨p0,p1,p2,p3⟩|(refine⟨?_,?_,?_,?_⟩<;>go_keep))
       (first
        |(go_at_call 52;refine(zN.out _ (Below.refl _ _).drew).mono ?_;rintro e w8 ⟨v8,rfl,hv8,hb8⟩;have hb8:Below w5.heap.size w5 w8:=(Below.refl _ _).drew.trans hb8;have p0:=brd hb8 q0 l0;have p1:=brd hb8 q1 l1;have p2:=brd hb8 q2 l2;have p3:=brd hb8 q3 l3))
      have HL8:=hid (HL7.out.on (B:=w5.heap.size) HL7.out.2.2.1.lt (Nat.le_refl _) hb8);have HV8:=hid hv8;clear p0 p1 p2 p3 q0 q1 q2 q3 l0 l1 l2 l3 hb8 hv8 zN;cases hlv:live g x
      ·have HQ2:=hid (show ∀q,q<0+1->live g (nd.kids.getD q 0)=false from λq hq=>by
        by_cases e:q=0
        ·subst e;rw[HJ.out.1];exact hlv
        ·exact hall.out q (by omega))
       clear hlv;go_wp2;go_roundw;(case rel=>exact⟨0+1,by omega,by go_num,HQ2,HL8⟩);case measure=>simp[intOf];omega
      ·have HQ2:=hid (HJ.out.2 hall.out (by rw[HJ.out.1];exact hlv));have HV9:=hid (HV8.out hlv);clear hlv HV8;go_wp2;refine bodyPost_ret (v:= .tuple #[v8,.bool true]) (by simp[results,Tryz.results52,go_sem]) rfl ?_;refine⟨_,by rw[HQ.out],λ_=> ?_,HL8.out.2.2.2⟩;rw[HQ2.out,HJ.out.1,if_neg HJP.out];exact HV9.out.mono λb hb=>Or.inr (hb.elim id (λh=>by have h1:=HL7.out.2.2.2.size;have h2:w5.drew.heap.size=w5.heap.size:=rfl;omega))
    ·(obtain rfl:j=nd.kids.length:=by omega);exfalso;have h1:=HSL.out;have h2:=List.findIdx_getElem (w:=h1);have h3:=hall.out _ h1;rw[List.getD_eq_getElem?_getD,List.getElem?_eq_getElem h1]at h3;simp only[Option.getD_some]at h3;rw[h2]at h3;cases h3
structure DnM (w:World) (DB:Nat) (R:Nat->Nat) (n m:Nat) (d:List (List Int)):Prop where
 len:d.length=n
 row:∀i,i<n->(d.getD i []).length =m
 fit:∀i j,0≤(d.getD i []).getD j 0∧(d.getD i []).getD j 0≤1000001
 outer:∀i,i<n->w.cell? ⟨DB,i,none⟩=some (.slice (some ⟨R i,0,none⟩) m m)
 inner:∀i,i<n->Blk w (R i) 3 ((d.getD i []).map (Value.int .i64)).toArray
 inj:∀i j,i<n->j<n->R i=R j->i=j
 off:∀i,i<n->R i≠DB
theorem DnM.keep{w w':World}{DB:Nat}{R:Nat->Nat}{n m:Nat}{d:List (List Int)}(h:DnM w DB R n m d)(hk:zA (λb=>b=DB∨∃i,i<n∧b=R i) w w'):DnM w' DB R n m d:=
 ⟨h.len,h.row,h.fit,λi hi=>hk.cell (p:=⟨DB,i,none⟩) (Or.inl rfl) (h.outer i hi),λi hi=>(h.inner i hi).keep hk (Or.inr ⟨i,hi,rfl⟩),h.inj,h.off⟩
theorem DnM.below{w w':World}{DB:Nat}{R:Nat->Nat}{n m:Nat}{d:List (List Int)}(h:DnM w DB R n m d)(hb:Below w.heap.size w w'):DnM w' DB R n m d:=h.keep (.of_below hb)
theorem DnM.live{w:World}{DB:Nat}{R:Nat->Nat}{n m:Nat}{d:List (List Int)}(h:DnM w DB R n m d){i:Nat}(hi:i<n):DB<w.heap.size∧R i<w.heap.size:=⟨lt_of_cell (h.outer i hi),(h.inner i hi).lt⟩
theorem DnM.at_{w:World}{DB:Nat}{R:Nat->Nat}{n m:Nat}{d:List (List Int)}(h:DnM w DB R n m d){x y:Nat}(hx:x<n)(hy:y<m):w.cell? ⟨R x,y,none⟩=some (.int .i64 (dn d (x:Int) (y:Int))):=by
 rw[(h.inner x hx).cell y];have hr:=h.row x hx;unfold dn;have hy2:y<(d.getD x []).length :=by omega
 rw[Int.toNat_natCast,Int.toNat_natCast,List.getElem?_toArray,List.getElem?_map,List.getElem?_eq_getElem hy2];rw[List.getD_eq_getElem?_getD (l:=d.getD x []),List.getElem?_eq_getElem hy2];rfl
theorem DnM.set_{w:World}{DB:Nat}{R:Nat->Nat}{n m:Nat}{d:List (List Int)}(h:DnM w DB R n m d){x y:Nat}(hx:x<n)(hy:y<m){v:Int}(h0:0≤v)(h1:v≤1000001):
  DnM (w.setCell ⟨R x,y,none⟩ (.int .i64 v)) DB R n m (zD4 d (x:Int) (y:Int) v):=by
 have hget:∀i,(zD4 d (x:Int) (y:Int) v).getD i []=if i=x then(d.getD x []).set y v else d.getD i []:=λi=>by
  unfold zD4;rw[Int.toNat_natCast,Int.toNat_natCast];have hxd:x<d.length:=by rw[h.len];exact hx
  by_cases e:i=x
  ·subst e;rw[if_pos rfl,List.getD_eq_getElem?_getD,List.getElem?_set_self hxd];rfl
  ·rw[if_neg e,List.getD_eq_getElem?_getD,List.getElem?_set_ne (by omega),List.getD_eq_getElem?_getD]
 have hkeep:∀b,b≠R x->zA (λc=>c=b) w (w.setCell ⟨R x,y,none⟩ (.int .i64 v)):=λb hb=>(zA.refl _ _).setCell (λ_ e=>hb e.symm) _
 refine⟨by unfold zD4;rw[List.length_set];exact h.len,λi hi=> ?_,λi j=> ?_,λi hi=> ?_,λi hi=> ?_,h.inj,h.off⟩
 ·rw[hget];split
  ·rw[List.length_set];exact h.row x hx
  ·exact h.row i hi
 ·rw[hget];split
  ·rw[zCq];split
   ·exact⟨h0,h1⟩
   ·exact h.fit x j
  ·exact h.fit i j
 ·exact(hkeep DB (λe=>h.off x hx e.symm)).cell (p:=⟨DB,i,none⟩) rfl (h.outer i hi)
 ·rw[hget];by_cases e:i=x
  ·subst e;rw[if_pos rfl];have:=(h.inner i hi).set_ y (.int .i64 v);rw[List.map_set];simpa using this
  ·rw[if_neg e];exact(h.inner i hi).keep (hkeep (R i) (λe'=>e (h.inj _ _ hi hx e'))) rfl
def zOO(w:World)(M:Nat)(F Z:Nat->Prop)(DB:Nat)(R:Nat->Nat)(n m:Nat)(r:Int × RSt)(e:Ending)(w':World):Prop:=
 e= .returned (.int .i64 r.1)∧(∃F' Z',RkS w' M r.2.all F' Z'∧(∀b,F' b->F b∨w.heap.size≤b)∧∀b,Z' b->Z b∨w.heap.size≤b)∧DnM w' DB R n m r.2.done∧zA (λb=>¬F b∧∀i,i<n->b≠R i) w w'
theorem zMg(l:List Int)(c:Int):zAr l c c c=zAE l c:=by unfold zAr;rw[if_neg (by omega)]
theorem zFb{lo:Int}:∀(l m:List Int),(∀v∈l,lo<v)->l.foldl zAE (lo::m)=lo::l.foldl zAE m
 |[],m,_=>rfl
 |v::l,m,h=>by
  have hv:=h v (by simp);rw[List.foldl_cons,List.foldl_cons,show zAE (lo::m) v=lo::zAE m v from by rw[zAE,if_neg (by omega),if_neg (by omega)]];exact zFb l (zAE m v) (λx hx=>h x (List.mem_cons_of_mem _ hx))
theorem zTK{ds:List zC}{p q:zB}{i:Int}(hi:i=min (zF ds p) (zF ds q))(hp:∀v∈p.cuts,zF ds p=i->(fAt ds i).lo <v)(hq:∀v∈q.cuts,zF ds q=i->(fAt ds i).lo <v):
  zi ds p q=(if zF ds q=i then q.cuts else[]).foldl zAE ((if zF ds p=i then p.cuts else[]).foldl zAE [(fAt ds i).lo]):=by
 subst hi;unfold zi zD2
 rw[zFb _ _ (λv hv=>by
  split at hv
  ·rename_i e;exact hp v hv e
  ·cases hv),zFb _ _ (λv hv=>by
  split at hv
  ·rename_i e;exact hq v hv e
  ·cases hv),List.foldl_append]
theorem zTL(l:List Int)(n:Int):(zAE l n).length ≤l.length+1∧zAE l n≠[]:=by
 induction l with
 |nil=>simp[zAE]
 |cons a r ih=>
  unfold zAE;split
  ·simp
  ·split
   ·simp
   ·simp;exact ih.1
theorem zEU:∀(l m:List Int),(l.foldl zAE m).length ≤m.length+l.length∧(m≠[]->l.foldl zAE m≠[])
 |[],m=>⟨by simp,id⟩
 |v::l,m=>by
  rw[List.foldl_cons];have h1:=zTL m v;have h2:=zEU l (zAE m v);exact⟨by simp;omega,λ_=>h2.2 h1.2⟩
theorem zGm{l m:List Int}{k:Nat}(hk:k<l.length):(l.take (k+1)).foldl zAE m=zAE ((l.take k).foldl zAE m) l[k]:=by
 rw[List.take_succ_eq_append_getElem hk,List.foldl_append];rfl
structure AdL (w6 wr:World) (M:Nat) (F Z:zD) (DB:Nat) (R:Nat->Nat) (n m:Nat) (st:RSt) (kids:List Int) (vk:Value) (F' Z':zD):Prop where
 own:wr.ownsRow w6.heap.size 3 1 vk kids.length (kids.map (.int .i64))
 row:∀b,vk.ownBlock=some b->¬F' b∧¬Z' b
 mem:RkS wr M st.all F' Z'
 hF:∀b,F' b->F b∨w6.heap.size≤b
 hZ:∀b,Z' b->Z b∨w6.heap.size≤b
 dnm:DnM wr DB R n m st.done
 kept:zA (λb=>¬F b∧∀i,i<n->b≠R i) w6 wr
structure Apart (w:World) (F Z:zD) (DB:Nat) (R:Nat->Nat) (n:Nat):Prop where
 db:¬F DB∧¬Z DB∧DB<w.heap.size
 r:∀i,i<n->¬F (R i)∧¬Z (R i)∧R i<w.heap.size
theorem AdL.start{w6:World}{M:Nat}{F Z:zD}{DB:Nat}{R:Nat->Nat}{n m:Nat}{st:RSt}(h:RkS w6 M st.all F Z)(hd:DnM w6 DB R n m st.done):AdL w6 w6 M F Z DB R n m st [] (.slice none 0 0) F Z:=
 ⟨World.ownsRow_nil _ _ _ _,λb hb=>(by cases hb),h,λb hb=>Or.inl hb,λb hb=>Or.inl hb,hd,zA.refl _ _⟩
section
variable {w6 wr w8 w10:World} {M:Nat} {F Z F' Z':zD} {DB:Nat} {R:Nat->Nat} {n m:Nat} {st:RSt} {kids:List Int} {vk v5:Value}
theorem AdL.off(h:AdL w6 wr M F Z DB R n m st kids vk F' Z'){b:Nat}(hb:b<w6.heap.size)(hF:¬F b):¬F' b∧vk.ownBlock≠some b:=
 ⟨λhf=>by
  rcases h.hF b hf with hf|hf
  ·exact hF hf
  ·omega,λe=>by have:=(h.own.lt b e).1;omega⟩
theorem AdL.apart(h:AdL w6 wr M F Z DB R n m st kids vk F' Z')(ha:Apart w6 F Z DB R n):Apart wr F' Z' DB R n:=by
 have hs:=h.kept.size;refine⟨⟨λhf=> ?_,λhz=> ?_,Nat.lt_of_lt_of_le ha.db.2.2 hs⟩,λi hi=>⟨λhf=> ?_,λhz=> ?_,Nat.lt_of_lt_of_le (ha.r i hi).2.2 hs⟩⟩
 ·rcases h.hF _ hf with hf|hf
  ·exact ha.db.1 hf
  ·have:=ha.db.2.2;omega
 ·rcases h.hZ _ hz with hz|hz
  ·exact ha.db.2.1 hz
  ·have:=ha.db.2.2;omega
 ·rcases h.hF _ hf with hf|hf
  ·exact(ha.r i hi).1 hf
  ·have:=(ha.r i hi).2.2;omega
 ·rcases h.hZ _ hz with hz|hz
  ·exact(ha.r i hi).2.1 hz
  ·have:=(ha.r i hi).2.2;omega
theorem AdL.step{r:Int × RSt}{e:Ending}{o:Obj}(h:AdL w6 wr M F Z DB R n m st kids vk F' Z')(ha:Apart w6 F Z DB R n)
  (hp:zOO wr M F' Z' DB R n m r e w8)(hg:(w8.alloc o).grownBy w10 vk.ownBlock)(ho:w10.ownsRow w6.heap.size 3 1 v5 (kids.length+1) (kids.map (.int .i64)++[.int .i64 r.1]))(hat:v5.ownBlock=vk.ownBlock∨v5.ownBlock=some (w8.alloc o).heap.size):
  ∃F'' Z'',AdL w6 w10 M F Z DB R n m r.2 (kids++[r.1]) v5 F'' Z'':=by
 obtain⟨-,⟨F'',Z'',hm,hF'',hZ''⟩,hdn,hk8⟩:=hp;have hs8:=hk8.size;have hvk:∀b,vk.ownBlock=some b->w6.heap.size≤b∧b<wr.heap.size:=λb hb=>h.own.lt b hb
 have hnF:∀b,vk.ownBlock=some b->¬F'' b∧¬Z'' b:=λb hb=>by
  have h1:=h.row b hb;have h2:=hvk b hb;refine⟨λhz=> ?_,λhz=> ?_⟩
  ·rcases hF'' b hz with hz|hz
   ·exact h1.1 hz
   ·omega
  ·rcases hZ'' b hz with hz|hz
   ·exact h1.2 hz
   ·omega
 have hk10:zA (λb=>vk.ownBlock≠some b) w8 w10:=((zA.refl _ _).alloc o).grown hg (λk hk _ hz=>hz hk);have hs6:=h.kept.size;refine⟨F'',Z'',by simpa using ho,λb hb=> ?_,hm.keep (hk10.mono λb hb e=> ?_),λb hb=> ?_,λb hb=> ?_,hdn.keep (hk10.mono λb hb e=> ?_),?_⟩
 ·rcases hat with e|e
  ·rw[e]at hb;exact hnF b hb
  ·rw[e]at hb;injection hb with hb;subst hb;(have hsz:(w8.alloc o).heap.size =w8.heap.size+1:=by simp);rw[hsz];refine⟨λhf=> ?_,λhz=> ?_⟩
   ·have:=hm.liveF _ hf;omega
   ·have:=hm.liveZ _ hz;omega
 ·intro e;have hn:=hnF b e;rcases ‹_∨_› with hb|hb
  ·exact hn.1 hb
  ·exact hn.2 hb
 ·rcases hF'' b hb with hb|hb
  ·exact h.hF b hb
  ·exact Or.inr (by omega)
 ·rcases hZ'' b hb with hb|hb
  ·exact h.hZ b hb
  ·exact Or.inr (by omega)
 ·intro e;have h2:=hvk b e;rcases ‹_∨_› with hb|⟨i,hi,hb⟩
  ·have:=ha.db.2.2;omega
  ·have:=(ha.r i hi).2.2;omega
 ·refine⟨hk10.os.trans (hk8.os.trans h.kept.os),hk10.tape.trans (hk8.tape.trans h.kept.tape),hk10.output.trans (hk8.output.trans h.kept.output),by have:=hk10.size;omega,λk hk hz=> ?_⟩;rw[hk10.block k (by omega) (λe=>by have:=(h.own.lt k e).1;omega),hk8.block k (by omega) ⟨(h.off hk hz.1).1,hz.2⟩,h.kept.block k hk hz]
theorem AdL.finish{r:Int × List zB}{e:Ending}(h:AdL w6 wr M F Z DB R n m st kids vk F' Z')(ha:Apart w6 F Z DB R n)(hp:zE4 wr M F' Z' r e w8):
  (∃F2 Z2,RkS w8 M r.2 F2 Z2∧(∀b,F2 b->F b∨w6.heap.size≤b)∧∀b,Z2 b->Z b∨w6.heap.size≤b)∧DnM w8 DB R n m st.done∧zA (λb=>¬F b∧∀i,i<n->b≠R i) w6 w8:=by
 obtain⟨he,⟨F2,Z2,hm,hF2,hZ2⟩,hk⟩:=hp;have s2:=h.kept.size;have hap:=h.apart ha;refine⟨⟨F2,Z2,hm,λb hb'=> ?_,λb hb'=> ?_⟩,h.dnm.keep (hk.mono λb hb=> ?_),⟨hk.os.trans h.kept.os,hk.tape.trans h.kept.tape,hk.output.trans h.kept.output,by have:=hk.size;omega,λk hk' hz=> ?_⟩⟩
 ·rcases hF2 b hb' with hb'|hb'
  ·exact h.hF b hb'
  ·exact Or.inr (by omega)
 ·rcases hZ2 b hb' with hb'|hb'
  ·exact h.hZ b hb'
  ·exact Or.inr (by omega)
 ·intro hb;rcases hb with rfl|⟨i,hi,rfl⟩
  ·exact hap.db.1
  ·exact(hap.r i hi).1
 ·rw[hk.block k (by omega) (h.off hk' hz.1).1,h.kept.block k hk' hz]
end
theorem zHc{w w':World}{M:Nat}{F Z:zD}{DB:Nat}{R:Nat->Nat}{n m:Nat}{all:List zB}{d:List (List Int)}{x y:Nat}{v:Int}(hx:x<n)(hy:y<m)
  (hm:∃F' Z',RkS w' M all F' Z'∧(∀b,F' b->F b∨w.heap.size≤b)∧∀b,Z' b->Z b∨w.heap.size≤b)(hd:DnM w' DB R n m d)(hk:zA (λb=>¬F b∧∀i,i<n->b≠R i) w w')(ha:Apart w F Z DB R n)(h0:0≤v)(h1:v≤1000001):
  (∃F' Z',RkS (w'.setCell ⟨R x,y,none⟩ (.int .i64 v)) M all F' Z'∧(∀b,F' b->F b∨w.heap.size≤b)∧∀b,Z' b->Z b∨w.heap.size≤b)∧DnM (w'.setCell ⟨R x,y,none⟩ (.int .i64 v)) DB R n m (zD4 d (x:Int) (y:Int) v)∧zA (λb=>¬F b∧∀i,i<n->b≠R i) w (w'.setCell ⟨R x,y,none⟩ (.int .i64 v)):=by
 obtain⟨F',Z',h,hF,hZ⟩:=hm;have hr:=ha.r x hx;refine⟨⟨F',Z',h.keep ((zA.refl _ _).setCell (λ_ hb=> ?_) _),hF,hZ⟩,hd.set_ hx hy h0 h1,hk.setCell (λ_ hb=>hb.2 x hx rfl) _⟩;rcases hb with hb|hb
 ·rcases hF _ hb with hb|hb
  ·exact hr.1 hb
  ·have hb:w.heap.size≤R x:=hb;have:=hr.2.2;omega
 ·rcases hZ _ hb with hb|hb
  ·exact hr.2.1 hb
  ·have hb:w.heap.size≤R x:=hb;have:=hr.2.2;omega
end Go.Proofs.YtonmdbdopchkaaaGreatDoor
