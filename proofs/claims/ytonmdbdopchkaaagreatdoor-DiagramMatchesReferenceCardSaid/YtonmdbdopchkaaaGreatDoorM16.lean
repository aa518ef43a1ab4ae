/- Texts W35. -/
import Derived.Test.YtonmdbdopchkaaaGreatDoorM13
set_option linter.all false
namespace Go.Proofs.YtonmdbdopchkaaaGreatDoor
open Go.RowKit
set_option maxHeartbeats 4000000
set_option maxRecDepth 100000
theorem zJX(g:List zB)(c:List Int)(k:Nat)(a:Int):zCT g c (k+1) a=
  if a<0∨(g.length:Int)≤a then false
  else if(nAt g a).kids =[]then(nAt g a).leaf
  else if(nAt g a).fact <0∨(c.length:Int)≤(nAt g a).fact then false
  else if((nAt g a).kids.length :Int)≤nxL (nAt g a) (c.getD (nAt g a).fact.toNat 0)then false
  else zCT g c k ((nAt g a).kids.getD (nxL (nAt g a) (c.getD (nAt g a).fact.toNat 0)).toNat 0):=rfl
theorem zKZ{n:zB}(h:n.kids≠[])(v:Int):0≤nxL n v:=by
 have:=List.length_pos_iff.2 h;unfold nxL;split<;>omega
theorem zO.open_{Z:zD}{w:World}{v:Value}{ns:List zB}(h:zO Z w v ns):∃A cap,v= .slice A ns.length cap∧ns.length≤cap∧ns.length≤2199023255552∧
  ∀i(hi:i<ns.length),∃b off vc vk,A=some ⟨b,off,none⟩∧Z b∧b<w.heap.size∧w.cell? ⟨b,off+i*4,none⟩=some (.bool ns[i].leaf)∧w.cell? ⟨b,off+i*4+1,none⟩=some (.int .i64 ns[i].fact)∧
   w.cell? ⟨b,off+i*4+2,none⟩=some vc∧w.cell? ⟨b,off+i*4+3,none⟩=some vk∧I64 ns[i].fact ∧zL Z w vc ns[i].cuts ∧zL Z w vk ns[i].kids :=by
 obtain⟨A,cap,rfl,h1,h2,h3,h4⟩:=h;refine⟨A,cap,rfl,h1,by omega,λi hi=> ?_⟩;obtain⟨b,off,cs,rfl,hz,hc,vc,vk,rfl,hf,hic,hik⟩:=h4.at_ hi;exact⟨b,off,vc,vk,rfl,hz,lt_of_cell (hc 0 _ rfl),hc 0 _ rfl,hc 1 _ rfl,hc 2 _ rfl,hc 3 _ rfl,hf,hic,hik⟩
theorem zFo(Z:zD)(v vc:Value)(g:List zB)(c:List Int)(w:World)(hg:zO Z w v g)(hc:zL Z w vc c):
  Calls Tryz.prog 17 #[.agg #[v],vc] w λe w'=>e= .returned (.bool (zCT g c g.length 0))∧Below w.heap.size w w':=by
 obtain⟨A,cap,rfl,hcap,hlen,hat⟩:=hg.open_;have HAT:=hid hat;have HC:=hid hc;obtain⟨⟨C,ccap,rfl,hccap,hccap2,hclen,-⟩,-⟩:=hc;clear hat hg;go_enter Tryz.func17,Tryz.ntmps17
 go_wp2;go_loopw[5,11] (λa i wr=>∃(k:Nat)(x:Int),k≤g.length∧i= .int .i64 k∧a= .int .i64 x∧wr.cell? ⟨w.heap.size,0,none⟩=some (.slice A g.length cap)∧Below w.heap.size w wr∧Hid (zCT g c g.length 0=zCT g c (g.length-k) x)) (λ_ i _=>g.length-(intOf i).toNat);case atStart=>exact⟨0,0,Nat.zero_le _,rfl,rfl,by simp,zE w _,rfl⟩
 case round=>
  obtain⟨k,x,hk,rfl,rfl,h0,hbel,hres⟩:=hrel;by_cases hlt:k<g.length
  ·have h0l:=lt_of_cell h0;have zAF:=hid hbel;have zT:=hid (show zCT g c g.length 0=zCT g c (g.length-(k+1)+1) x from by rw[hres.out,show g.length-(k+1)+1=g.length-k by omega]);rw[zJX]at zT;clear hres;by_cases hx:x<0∨(g.length:Int)≤x
   ·rw[if_pos hx]at zT;by_cases hx0:x<0
    ·(have e1:decide (x<0)=true:=by simpa using hx0);clear hx hx0 hbel;go_wp2;go_ret;rw[zT.out];exact⟨rfl,zAF.out⟩
    ·(have e1:decide (x<0)=false:=by simpa using hx0);(have e2:decide ((g.length:Int)≤x)=true:=by simp;omega);clear hx hx0 hbel;go_wp2;go_ret;rw[zT.out];exact⟨rfl,zAF.out⟩
   ·rw[if_neg hx]at zT;simp only[not_or,Int.not_lt,Int.not_le]at hx;obtain⟨i,rfl⟩:=Int.eq_ofNat_of_zero_le hx.1;(have hi:i<g.length:=by have:=hx.2;omega);rw[zAI hi]at zT;obtain⟨b,off,vcu,vki,rfl,hz,hb,c0,c1,c2,c3,hf,hcu,hki⟩:=HAT.out i hi;(have hbr:b<wr.heap.size:=by have:=hbel.size;omega);replace c0:=brd hbel c0 hb;replace c1:=brd hbel c1 hb;replace c2:=brd hbel c2 hb;replace c3:=brd hbel c3 hb;have HKI:=hid hki;have HCU:=hid hcu;have HHF:=hid hf;(have hi1:(i:Int)<(g.length:Int):=by omega);(have hi0:(0:Int)≤(i:Int):=by omega);(have e1:decide ((i:Int)<0)=false:=by simp);(have e2:decide ((g.length:Int)≤(i:Int))=false:=by simp;omega);obtain⟨⟨KU,kucap,rfl,-,-,hkulen,-⟩,-⟩:=hcu;obtain⟨⟨K,kcap,rfl,hkcap,-,hklen,-⟩,-⟩:=hki;generalize g[i]=n at*;clear hx hbel hf;by_cases hkn:n.kids=[]
    ·rw[if_pos hkn]at zT;(have e3:((n.kids.length:Int)==0)=true:=by simp[hkn]);clear hkn;go_wp2;go_ret;rw[zT.out];exact⟨rfl,zAF.out.alloc zAF.out.size _⟩
    ·rw[if_neg hkn]at zT;(have e3:((n.kids.length:Int)==0)=false:=by simp[hkn]);have hnn:=zKZ hkn (c.getD n.fact.toNat 0);clear hkn;by_cases hf:n.fact<0∨(c.length:Int)≤n.fact
     ·rw[if_pos hf]at zT;by_cases hf0:n.fact<0
      ·(have e4:decide (n.fact<0)=true:=by simpa using hf0);clear hf hf0 hnn;go_wp2;go_ret;rw[zT.out];exact⟨rfl,zAF.out.alloc zAF.out.size _⟩
      ·(have e4:decide (n.fact<0)=false:=by simpa using hf0);(have e5:decide ((c.length:Int)≤n.fact)=true:=by simp;omega);clear hf hf0 hnn;go_wp2;go_ret;rw[zT.out];exact⟨rfl,zAF.out.alloc zAF.out.size _⟩
     ·rw[if_neg hf]at zT;simp only[not_or,Int.not_lt,Int.not_le]at hf;(have e4:decide (n.fact<0)=false:=by simp;omega);(have e5:decide ((c.length:Int)≤n.fact)=false:=by simp;omega);obtain⟨fi,hfi⟩:=Int.eq_ofNat_of_zero_le hf.1;(have hfl:fi<c.length:=by have:=hf.2;omega);obtain⟨cb,coff,rfl,-,hcb,hcc⟩:=HC.out.at_ hfl;have hcc2:=brd zAF.out hcc hcb;have hcbr:=lt_of_cell hcc2;(have hcv:c.getD n.fact.toNat 0=c[fi]:=by rw[hfi];simp[List.getD_eq_getElem?_getD,hfl]);rw[hcv]at zT hnn;(have hfi1:(fi:Int)<(c.length:Int):=by omega);(have hfi0:(0:Int)≤(fi:Int):=by omega);have HN:=hid (zLz Z n [.bool n.leaf,.int .i64 n.fact,.slice KU n.cuts.length kucap,.slice K n.kids.length kcap] c[fi]);have HNR:=hid (show zd Z w [.bool n.leaf,.int .i64 n.fact,.slice KU n.cuts.length kucap,.slice K n.kids.length kcap] n from⟨_,_,rfl,HHF.out,HCU.out,HKI.out⟩);have HNX:=hid (show nxL n c[fi]<(n.kids.length:Int)->n.kids.getD (nxL n c[fi]).toNat 0=n.kids.getD (nxL n c[fi]).toNat 0 from λ_=>rfl);clear hf hcc hcb hcv;generalize c[fi]=cv at*;generalize hq:nxL n cv=q at*;obtain⟨nl,nf,nc,nk⟩:=n;simp only at*;subst hfi;go_wp2;have HNW:=hid (λW(hW:Below w.heap.size w W)=>HN.out W (HNR.out.keep (.of_below hW)));have HBA:=hid (λo=>(zAF.out.alloc zAF.out.size o));clear HN HNR HAT c0 c1 c2 c3
      go_region_held3(λw'=>w'.cell? ⟨wr.heap.size,0,none⟩=some (.bool nl)∧w'.cell? ⟨wr.heap.size,1,none⟩=some (.int .i64 fi)∧w'.cell? ⟨wr.heap.size,2,none⟩=some (.slice KU nc.length kucap)∧w'.cell? ⟨wr.heap.size,3,none⟩=some (.slice K nk.length kcap)∧w'.cell? ⟨cb,coff+fi,none⟩=some (.int .i64 cv)) (first|exact⟨p0,p1,p2,p3,p4⟩|(refine⟨?_,?_,?_,?_,?_⟩<;>go_keep))
       (first
        |(go_at_call 59;refine(HNW.out _ (HBA.out _).drew).mono ?_;rintro e w1 ⟨rfl,hb1⟩;have hx1:=(Blk.new wr 51 #[.bool nl,.int .i64 (fi:Int),.slice KU nc.length kucap,.slice K nk.length kcap]).drew.below hb1 (by simp[World.drew]);have p0:w1.cell? ⟨wr.heap.size,0,none⟩=some (.bool nl):=hx1.cell 0;have p1:w1.cell? ⟨wr.heap.size,1,none⟩=some (.int .i64 fi):=hx1.cell 1;have p2:w1.cell? ⟨wr.heap.size,2,none⟩=some (.slice KU nc.length kucap):=hx1.cell 2;have p3:w1.cell? ⟨wr.heap.size,3,none⟩=some (.slice K nk.length kcap):=hx1.cell 3;have p4:w1.cell? ⟨cb,coff+fi,none⟩=some (.int .i64 cv):=((hb1.cell (p:=⟨cb,coff+fi,none⟩) (show cb<(wr.alloc _).heap.size from by rw[World.size_alloc];omega)).trans (zCa hcc2 _))))
      have hbw1:Below w.heap.size w w1:=(HBA.out _).drew.trans (hb1.mono (HBA.out _).drew.size);have HB1:=hid (And.intro hbw1 ((hb1.cell (p:=⟨w.heap.size,0,none⟩) (show w.heap.size<(wr.alloc _).heap.size from by rw[World.size_alloc];omega)).trans (zCa h0 _)));have hwl:=hx1.lt;clear hbw1 hb1 hx1 h0 hcc2 p0 p1 p2 p4 zAF HBA HNW;by_cases hql:(nk.length:Int)≤q
      ·rw[if_pos hql]at zT;(have e6:decide ((nk.length:Int)≤q)=true:=by simpa using hql);clear hql;go_wp2;go_ret;rw[zT.out];exact⟨rfl,HB1.out.1⟩
      ·rw[if_neg hql]at zT;(have e6:decide ((nk.length:Int)≤q)=false:=by simpa using hql);obtain⟨qn,rfl⟩:=Int.eq_ofNat_of_zero_le hnn;(have hqn:qn<nk.length:=by omega);obtain⟨kb,koff,rfl,-,hkb,hkc⟩:=HKI.out.at_ hqn;have hkc2:=brd HB1.out.1 hkc hkb;have hkbr:=lt_of_cell hkc2;(have hkv:nk.getD ((qn:Nat):Int).toNat 0=nk[qn]:=by simp[List.getD_eq_getElem?_getD,hqn]);rw[hkv]at zT;(have hq1:((qn:Nat):Int)<(nk.length:Int):=by omega);(have hq0:(0:Int)≤((qn:Nat):Int):=by omega);clear hkc hkb hql hkv hq hnn HNX;generalize nk[qn]=kx at*;go_wp2;go_roundw;(case rel=>exact⟨k+1,kx,by omega,by go_num,rfl,HB1.out.2,HB1.out.1,zT⟩);case measure=>simp[intOf];omega
  ·(obtain rfl:k=g.length:=by omega);have zT:=hid hres.out;rw[Nat.sub_self]at zT;clear hres;go_wp2;go_ret;rw[zT.out];exact⟨rfl,hbel⟩
end Go.Proofs.YtonmdbdopchkaaaGreatDoor
