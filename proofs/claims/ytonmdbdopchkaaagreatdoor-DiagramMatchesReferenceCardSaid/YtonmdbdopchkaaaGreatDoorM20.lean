/- Texts W36. -/
import Derived.Test.YtonmdbdopchkaaaGreatDoorM16
set_option linter.all false
namespace Go.Proofs.YtonmdbdopchkaaaGreatDoor
open Go.RowKit
set_option maxHeartbeats 4000000
set_option maxRecDepth 100000
def zCF(g:List zB)(f:Int):Option Int->List Int->Bool
 | _,[]=>true
 |p,k::r=>decide (0≤k)&&decide (k<g.length)&&(match p with|none=>true|some q=>decide (q≠k))&&(decide ((nAt g k).kids =[])||decide (f<(nAt g k).fact))&&zCF g f (some k) r
theorem zK3(g:List zB)(f k:Int)(r:List Int):zDq g f (k::r)=((decide (0≤k)&&decide (k<g.length)&&(decide ((nAt g k).kids =[])||decide (f<(nAt g k).fact)))&&(match r with|[]=>true|k'::_=>decide (k≠k'))&&zDq g f r):=rfl
theorem zK4(g:List zB)(f p:Int):∀l:List Int,zCF g f (some p) l=((match l with|[]=>true|k'::_=>decide (p≠k'))&&zDq g f l)
 |[]=>by simp[zCF,zDq]
 |k::r=>by
  rw[zCF,zK4 g f k r,zK3];dsimp only;generalize decide (0≤k)=a,decide (k<(g.length:Int))=b,decide (p≠k)=c,decide ((nAt g k).kids =[])=d,decide (f<(nAt g k).fact)=e;generalize (match r with|[]=>true|k'::_=>decide (k≠k'))=x,zDq g f r=y;cases a<;>cases b<;>cases c<;>cases d<;>cases e<;>cases x<;>rfl
theorem zK5(g:List zB)(f:Int)(l:List Int):zCF g f none l=zDq g f l:=by
 cases l with
 |nil=>rfl
 |cons k r=>
  rw[zCF,zK4 g f k r,zK3];generalize decide (0≤k)=a,decide (k<(g.length:Int))=b,decide ((nAt g k).kids =[])=d,decide (f<(nAt g k).fact)=e;generalize (match r with|[]=>true|k'::_=>decide (k≠k'))=x,zDq g f r=y;cases a<;>cases b<;>cases d<;>cases e<;>cases x<;>rfl
theorem zK6(g:List zB)(f:Int)(p:Option Int)(k:Int)(r:List Int):zCF g f p (k::r)=(decide (0≤k)&&decide (k<g.length)&&(match p with|none=>true|some q=>decide (q≠k))&&(decide ((nAt g k).kids =[])||decide (f<(nAt g k).fact))&&zCF g f (some k) r):=rfl
def zBU(l:List Int)(k:Nat):Option Int:=if k=0 then none else some (l.getD (k-1) 0)
theorem Facts.open_{Z:zD}{w:World}{v:Value}{ds:List zC}(h:Facts Z w v ds):∃A cap,v= .slice A ds.length cap∧ds.length≤cap∧ds.length≤3518437208883∧
  ∀i(hi:i<ds.length),∃b off,A=some ⟨b,off,none⟩∧Z b∧b<w.heap.size∧w.cell? ⟨b,off+i*4,none⟩=some (.string ds[i].name)∧w.cell? ⟨b,off+i*4+1,none⟩=some (.int .i64 ds[i].kind)∧
   w.cell? ⟨b,off+i*4+2,none⟩=some (.int .i64 ds[i].lo)∧w.cell? ⟨b,off+i*4+3,none⟩=some (.int .i64 ds[i].hi)∧ds[i].fit :=by
 obtain⟨⟨A,cap,rfl,h1,h2,h3,h4⟩,hf⟩:=h;refine⟨A,cap,rfl,h1,by omega,λi hi=> ?_⟩;obtain⟨b,off,cs,rfl,hz,hc,rfl⟩:=h4.at_ hi;exact⟨b,off,rfl,hz,lt_of_cell (hc 0 _ rfl),hc 0 _ rfl,hc 1 _ rfl,hc 2 _ rfl,hc 3 _ rfl,hf _ (List.getElem_mem hi)⟩
theorem Blk.new'(w:World)(t:TypeId)(cs:Array Value){n:Nat}(h:n=w.heap.size):Blk (w.alloc (.cells cs t)) n t cs:=by subst h;exact Blk.new w t cs
theorem zIQ{ds:List zC}{g:List zB}{n:zB}(h:n.kids=[]):zc ds g n=(decide (n.fact=0)&&decide (n.cuts=[])):=if_pos h
theorem zK7{ds:List zC}{g:List zB}{n:zB}(h:n.kids≠[]):zc ds g n=(!n.leaf&&decide (0≤n.fact)&&decide (n.fact<ds.length)&&decide (n.cuts≠[])&&decide (n.kids.length=n.cuts.length+1)&&zCu (fAt ds n.fact).lo (fAt ds n.fact).hi n.cuts&&zDq g n.fact n.kids):=if_neg h
theorem zSq(l:List Int):((l.length:Int)==0)=decide (l=[]):=by
 cases l with
 |nil=>rfl
 |cons a r=>simp;omega
theorem zQW(Z:zD)(vg vd:Value)(g:List zB)(ds:List zC)(n:zB)(cs:List Value)(w:World)(hg:zO Z w vg g)(hn:zd Z w cs n)(hd:Facts Z w vd ds):
  Calls Tryz.prog 55 #[.agg #[vg],.agg cs.toArray,.agg #[vd]] w λe w'=>e= .returned (.bool (zc ds g n))∧Below w.heap.size w w':=by
 obtain⟨G,gcap,rfl,hgcap,hglen,hgat⟩:=hg.open_;obtain⟨D,dcap,rfl,hdcap,hdlen,hdat⟩:=hd.open_;obtain⟨vc,vk,rfl,hf,hcu,hki⟩:=hn;have HG:=hid hgat;have HD:=hid hdat;have HCU:=hid hcu;have HKI:=hid hki;obtain⟨⟨C,ccap,rfl,hccap,-,hclen,-⟩,-⟩:=hcu;obtain⟨⟨K,kcap,rfl,hkcap,-,hklen,-⟩,-⟩:=hki;have HPL:=hid (@zIQ ds g n);have HPI:=hid (@zK7 ds g n);have HCL:=hid (zSq n.cuts);have hbel:=((zE w (.cells #[.slice G g.length gcap] 30)).alloc (by simp) (.cells #[.bool n.leaf,.int .i64 n.fact,.slice C n.cuts.length ccap,.slice K n.kids.length kcap] 51)).alloc (by simp;omega) (.cells #[.slice D ds.length dcap] 27);have zAF:=hid hbel;clear hgat hdat hg hd hbel;obtain⟨nl,nf,nc,nk⟩:=n;simp only at*;go_enter Tryz.func55,Tryz.ntmps55
 by_cases hk0:nk=[]
 ·have HR:=hid (HPL.out hk0);have e1:((nk.length:Int)==0)=true:=by simp[hk0]
  clear hk0 HPI HPL;by_cases hf0:nf=0
  ·(have e2:(nf==(0:Int))=true:=by simp[hf0]);rw[decide_eq_true hf0]at HR;clear hf0;go_wp2;go_ret;rw[HR.out,<-HCL.out];exact⟨rfl,zAF.out⟩
  ·(have e2:(nf==(0:Int))=false:=by simp[hf0]);rw[decide_eq_false hf0]at HR;clear hf0;go_wp2;go_ret;rw[HR.out];exact⟨rfl,zAF.out⟩
 ·have HR:=hid (HPI.out hk0);have e1:((nk.length:Int)==0)=false:=by simp[hk0]
  clear hk0 HPI HPL
  cases nl with
  |true=>
   simp only[Bool.not_true,Bool.false_and]at HR;go_wp2;go_ret;rw[HR.out];exact⟨rfl,zAF.out⟩
  |false=>
  simp only[Bool.not_false,Bool.true_and]at HR;by_cases h2:nf<0
  ·rw[decide_eq_false (by omega)]at HR;simp only[Bool.false_and]at HR;(have e2:decide (nf<0)=true:=by simpa using h2);clear h2;go_wp2;go_ret;rw[HR.out];exact⟨rfl,zAF.out⟩
  rw[decide_eq_true (show 0≤nf by omega)]at HR;simp only[Bool.true_and]at HR;have e2:decide (nf<0)=false:=by simpa using h2
  by_cases h3:(ds.length:Int)≤nf
  ·rw[decide_eq_false (by omega)]at HR;simp only[Bool.false_and]at HR;(have e3:decide ((ds.length:Int)≤nf)=true:=by simpa using h3);clear h2 h3;go_wp2;go_ret;rw[HR.out];exact⟨rfl,zAF.out⟩
  rw[decide_eq_true (show nf<(ds.length:Int) by omega)]at HR;simp only[Bool.true_and]at HR;have e3:decide ((ds.length:Int)≤nf)=false:=by simpa using h3
  by_cases h4:nc=[]
  ·(have e4:((nc.length:Int)==0)=true:=by simp[h4]);rw[decide_eq_false (by simp[h4])]at HR;simp only[Bool.false_and]at HR;clear h2 h3 h4;go_wp2;go_ret;rw[HR.out];exact⟨rfl,zAF.out⟩
  have e4:((nc.length:Int)==0)=false:=by simp[h4]
  rw[decide_eq_true h4]at HR;simp only[Bool.true_and]at HR;by_cases h5:nk.length=nc.length+1
  ·(have e5:((nk.length:Int)!=(nc.length:Int)+1)=false:=by simp;omega);rw[decide_eq_true h5]at HR;simp only[Bool.true_and]at HR;obtain⟨fi,rfl⟩:=Int.eq_ofNat_of_zero_le (show 0≤nf by omega);(have hfi:fi<ds.length:=by omega);(have hfa:fAt ds (fi:Int)=ds[fi]:=by unfold fAt;simp[List.getD_eq_getElem?_getD,hfi]);rw[hfa]at HR;obtain⟨db,doff,rfl,-,hdb,-,-,d2,d3,hdf⟩:=HD.out fi hfi;have HDF:=hid hdf;have HDC:=hid (And.intro d2 d3);(have hfi1:((fi:Nat):Int)<(ds.length:Int):=by omega);(have e3':decide (ds.length≤fi)=false:=by simp;omega);(have hdb1:db<w.heap.size+1:=by omega);(have hdb2:db<w.heap.size+1+1:=by omega);(have hfi0:(0:Int)≤((fi:Nat):Int):=by omega);clear h2 h3 h4 h5 hfa hdf;generalize ds[fi]=fx at*;go_wp2;have g0:=(((Blk.new w 30 #[.slice G g.length gcap]).alloc (.cells #[.bool false,.int .i64 (fi:Int),.slice C nc.length ccap,.slice K nk.length kcap] 51)).alloc (.cells #[.slice (some ⟨db,doff,none⟩) ds.length dcap] 27)).cell 0;have n1:=((Blk.new' (w.alloc (.cells #[.slice G g.length gcap] 30)) 51 #[.bool false,.int .i64 (fi:Int),.slice C nc.length ccap,.slice K nk.length kcap] (n:=w.heap.size+1) (by simp)).alloc (.cells #[.slice (some ⟨db,doff,none⟩) ds.length dcap] 27)).cell 1;have n3:=((Blk.new' (w.alloc (.cells #[.slice G g.length gcap] 30)) 51 #[.bool false,.int .i64 (fi:Int),.slice C nc.length ccap,.slice K nk.length kcap] (n:=w.heap.size+1) (by simp)).alloc (.cells #[.slice (some ⟨db,doff,none⟩) ds.length dcap] 27)).cell 3;have q0:=(Blk.new' ((w.alloc (.cells #[.slice G g.length gcap] 30)).alloc (.cells #[.bool false,.int .i64 (fi:Int),.slice C nc.length ccap,.slice K nk.length kcap] 51)) 27 #[.slice (some ⟨db,doff,none⟩) ds.length dcap] (n:=w.heap.size+1+1) (by simp)).cell 0;have HB0:=zAF.out;generalize (((w.alloc (.cells #[.slice G g.length gcap] 30)).alloc (.cells #[.bool false,.int .i64 (fi:Int),.slice C nc.length ccap,.slice K nk.length kcap] 51)).alloc (.cells #[.slice (some ⟨db,doff,none⟩) ds.length dcap] 27))=W0 at*;replace g0:W0.cell? ⟨w.heap.size,0,none⟩=some (.slice G g.length gcap):=g0;replace n1:W0.cell? ⟨w.heap.size+1,1,none⟩=some (.int .i64 (fi:Int)):=n1;replace n3:W0.cell? ⟨w.heap.size+1,3,none⟩=some (.slice K nk.length kcap):=n3;replace q0:W0.cell? ⟨w.heap.size+1+1,0,none⟩=some (.slice (some ⟨db,doff,none⟩) ds.length dcap):=q0;have hdh:=brd HB0 d3 hdb;have hdhl:=lt_of_cell hdh;have q0l:=lt_of_cell q0;have n1l:=lt_of_cell n1;have g0l:=lt_of_cell g0;have zZ:=hid (And.intro g0 (And.intro n1 (And.intro n3 HB0)));clear d2 d3 HDC zAF HB0 hdb1 hdb2 g0 n3 HD;have hlo:=HDF.out.2.2.1;go_loopw[7,66] (λl i wr=>∃(k:Nat)(x:Int),k≤nc.length∧i= .int .i64 k∧l= .int .i64 x∧W0=wr∧Hid (zCu fx.lo fx.hi nc=zCu x fx.hi (nc.drop k))) (λ_ i _=>nc.length-(intOf i).toNat);case atStart=>exact⟨0,fx.lo,Nat.zero_le _,rfl,rfl,rfl,rfl⟩
   case round=>
    obtain⟨k,x,hk,rfl,rfl,rfl,hres⟩:=hrel;by_cases hlt:k<nc.length
    ·obtain⟨cb,coff,rfl,-,hcb,hcc⟩:=HCU.out.at_ hlt;have hcc2:=brd zZ.out.2.2.2 hcc hcb;have hcbl:=lt_of_cell hcc2;(have hk1:((k:Nat):Int)<(nc.length:Int):=by omega);have hdr:nc.drop k=nc[k]::nc.drop (k+1):=List.drop_eq_getElem_cons hlt;rw[hdr]at hres;generalize nc[k]=c at*;have hres':zCu fx.lo fx.hi nc=(decide (x<c)&&decide (c≤fx.hi)&&zCu c fx.hi (nc.drop (k+1))):=hres.out;have zT:=hid hres';clear hcc hcb hdr hres hres';by_cases h1:c≤x
     ·(have e6:decide (c≤x)=true:=by simpa using h1);have HR2:=hid (show zc ds g ⟨false,(fi:Int),nc,nk⟩=false from by rw[HR.out,zT.out,decide_eq_false (show ¬x<c by omega)];simp);clear h1;go_wp2;go_ret;rw[HR2.out];exact⟨rfl,zZ.out.2.2.2⟩
     ·(have e6:decide (c≤x)=false:=by simpa using h1);by_cases h2:fx.hi<c
      ·(have e7:decide (fx.hi<c)=true:=by simpa using h2);have HR2:=hid (show zc ds g ⟨false,(fi:Int),nc,nk⟩=false from by rw[HR.out,zT.out,decide_eq_false (show ¬c≤fx.hi by omega)];simp);clear h1 h2;go_wp2;go_ret;rw[HR2.out];exact⟨rfl,zZ.out.2.2.2⟩
      ·(have e7:decide (fx.hi<c)=false:=by simpa using h2);have HR2:=hid (show zCu fx.lo fx.hi nc=zCu c fx.hi (nc.drop (k+1)) from by rw[zT.out,decide_eq_true (show x<c by omega),decide_eq_true (show c≤fx.hi by omega)];simp);clear h1 h2;go_wp2;go_roundw;(case rel=>exact⟨k+1,c,by omega,by go_num,rfl,trivial,HR2⟩);case measure=>simp[intOf];omega
    ·obtain rfl:k=nc.length:=by omega
     have HR3:=hid (show zc ds g ⟨false,(fi:Int),nc,nk⟩=zCF g (fi:Int) (zBU nk 0) (nk.drop 0) from by
      rw[HR.out,hres.out,List.drop_length];show(true&&_)=_;rw[Bool.true_and,<-zK5];rfl)
     clear hres HR hdh hdhl q0 q0l hlo;have n3:=zZ.out.2.2.1;go_wp2;go_loopw[89] (λi wr=>∃k:Nat,k≤nk.length∧i= .int .i64 k∧Below W0.heap.size W0 wr∧Hid (zc ds g ⟨false,(fi:Int),nc,nk⟩=zCF g (fi:Int) (zBU nk k) (nk.drop k))) (λi _=>nk.length-(intOf i).toNat);case atStart=>exact⟨0,Nat.zero_le _,rfl,Below.refl _ _,HR3⟩
     case round=>
      obtain⟨k',hk',rfl,hbw,hres⟩:=hrel;have hww:Below w.heap.size w wr:=zZ.out.2.2.2.trans (hbw.mono zZ.out.2.2.2.size);have HWW:=hid hww;by_cases hlt:k'<nk.length
      ·obtain⟨kb,koff,rfl,-,hkb,hkc⟩:=HKI.out.at_ hlt;have hkc2:=brd hww hkc hkb;have hkbl:=lt_of_cell hkc2;(have hk1:((k':Nat):Int)<(nk.length:Int):=by omega);(have hk0:(0:Int)≤((k':Nat):Int):=by omega);have g0:=brd hbw zZ.out.1 g0l;have n1:=brd hbw zZ.out.2.1 n1l;have n3:=brd hbw zZ.out.2.2.1 n1l;have g0r:=lt_of_cell g0;have n1r:=lt_of_cell n1;(have hgd:nk.getD k' 0=nk[k']:=by simp[List.getD_eq_getElem?_getD,hlt]);have hdr:nk.drop k'=nk[k']::nk.drop (k'+1):=List.drop_eq_getElem_cons hlt;rw[hdr]at hres;have HP1:=hid (show zBU nk (k'+1)=some nk[k'] from by unfold zBU;rw[if_neg (by omega),Nat.add_sub_cancel,hgd]);have zLS:=hid (λj(hj:j<nk.length)=>HKI.out.at_ hj);generalize nk[k']=x at*;have zT:=hid (hres.out.trans (zK6 g (fi:Int) (zBU nk k') x (nk.drop (k'+1))));have HBK:=hid (And.intro (λn=>(below_drewN' hbw n:Below W0.heap.size W0 (wr.drewN n))) (λn=>(below_drewN' hww n:Below w.heap.size w (wr.drewN n))));clear hgd hdr hres hkc hkb hbw hww;by_cases hx0:x<0
       ·(have e6:decide (x<0)=true:=by simpa using hx0);have HR4:=hid (show zc ds g ⟨false,(fi:Int),nc,nk⟩=false from by rw[zT.out,decide_eq_false (show ¬0≤x by omega)];simp);clear hx0;go_wp2;go_quiet(fail);go_wp2;go_ret;rw[HR4.out];exact⟨rfl,HBK.out.2 _⟩
       (have e6:decide (x<0)=false:=by simpa using hx0);by_cases hx1:(g.length:Int)≤x
       ·(have e7:decide ((g.length:Int)≤x)=true:=by simpa using hx1);have HR4:=hid (show zc ds g ⟨false,(fi:Int),nc,nk⟩=false from by rw[zT.out,decide_eq_false (show ¬x<(g.length:Int) by omega)];simp);clear hx0 hx1;go_wp2;go_quiet(fail);go_wp2;go_ret;rw[HR4.out];exact⟨rfl,HBK.out.2 _⟩
       (have e7:decide ((g.length:Int)≤x)=false:=by simpa using hx1);rw[decide_eq_true (show 0≤x by omega),decide_eq_true (show x<(g.length:Int) by omega)]at zT;obtain⟨xi,rfl⟩:=Int.eq_ofNat_of_zero_le (show 0≤x by omega);(have hxi:xi<g.length:=by omega);(have e7':decide (g.length≤xi)=false:=by simp;omega);obtain⟨gb,goff,vc',vk',rfl,-,hgb,-,m1,-,m3,-,-,hmk⟩:=HG.out xi hxi;replace m1:=brd HWW.out m1 hgb;replace m3:=brd HWW.out m3 hgb;have hgbr:=lt_of_cell m1;(have hxi1:((xi:Nat):Int)<(g.length:Int):=by omega);(have hxi0:(0:Int)≤((xi:Nat):Int):=by omega);obtain⟨⟨MK,mcap,rfl,-,-,hmlen,-⟩,-⟩:=hmk;have hna:nAt g ((xi:Nat):Int)=g[xi]:=zAI hxi;rw[hna]at zT;have HML:=hid (show decide (0<g[xi].kids.length)= !decide (g[xi].kids =[]) from by cases g[xi].kids <;>simp);generalize g[xi]=m at*;clear hna hgb hx0 hx1 hxi
       cases k' with
       |zero=>
        rw[Nat.add_zero]at hkc2;rw[show zBU nk 0=none from rfl]at zT;simp only[Bool.true_and]at zT;by_cases hm0:m.kids=[]
        ·(have e8:decide ((0:Int)<(m.kids.length:Int))=false:=by simp[hm0]);(have e8':decide (0<m.kids.length)=false:=by simp[hm0]);rw[decide_eq_true hm0]at zT;have HR4:=hid (show zc ds g ⟨false,(fi:Int),nc,nk⟩=zCF g (fi:Int) (zBU nk (0+1)) (nk.drop (0+1)) from by rw[HP1.out];simpa using zT.out);clear hm0;go_wp2;go_quiet(fail);go_wp2;go_roundw;(case rel=>exact⟨0+1,by omega,by go_num,HBK.out.1 _,HR4⟩);case measure=>simp[intOf];omega
        (have e8:decide ((0:Int)<(m.kids.length:Int))=true:=by simp;exact List.length_pos_iff.2 hm0);(have e8':decide (0<m.kids.length)=true:=by simp;exact List.length_pos_iff.2 hm0);rw[decide_eq_false hm0]at zT;by_cases hm1:m.fact≤(fi:Int)
        ·(have e9:decide (m.fact≤(fi:Int))=true:=by simpa using hm1);have HR4:=hid (show zc ds g ⟨false,(fi:Int),nc,nk⟩=false from by rw[zT.out,decide_eq_false (show ¬(fi:Int)<m.fact by omega)];simp);clear hm0 hm1;go_wp2;go_quiet(fail);go_wp2;go_ret;rw[HR4.out];exact⟨rfl,HBK.out.2 _⟩
        (have e9:decide (m.fact≤(fi:Int))=false:=by simpa using hm1);have HR4:=hid (show zc ds g ⟨false,(fi:Int),nc,nk⟩=zCF g (fi:Int) (zBU nk (0+1)) (nk.drop (0+1)) from by rw[HP1.out,zT.out,decide_eq_true (show(fi:Int)<m.fact by omega)];simp);clear hm0 hm1;go_wp2;go_quiet(fail);go_wp2;go_roundw;(case rel=>exact⟨0+1,by omega,by go_num,HBK.out.1 _,HR4⟩);case measure=>simp[intOf];omega
       |succ j=>
        rw[show zBU nk (j+1)=some (nk.getD j 0) from rfl]at zT;(have hjl:j<nk.length:=by omega);obtain⟨kb',koff',hke,-,hkb',hkc'⟩:=zLS.out j hjl;injection hke with hke;injection hke with hke1 hke2;subst hke1 hke2;have hkp:=brd HWW.out hkc' hkb';(have hjv:nk.getD j 0=nk[j]:=by simp[List.getD_eq_getElem?_getD,hjl]);rw[hjv]at zT;simp only[Bool.true_and]at zT;generalize nk[j]=pv at*;(have hj1:((j:Nat):Int)<(nk.length:Int):=by omega);(have hj0:(0:Int)≤((j:Nat):Int):=by omega);(have e5:decide (0<j+1)=true:=by simp);clear hkb' hkc' hjv;by_cases hpx:pv=(xi:Int)
        ·(have e10:(pv==(xi:Int))=true:=by simp[hpx]);have HR4:=hid (show zc ds g ⟨false,(fi:Int),nc,nk⟩=false from by rw[zT.out,decide_eq_false (show ¬pv≠(xi:Int) by simp[hpx])];simp);clear hpx;go_wp2;go_quiet(fail);go_wp2;go_ret;rw[HR4.out];exact⟨rfl,HBK.out.2 _⟩
        (have e10:(pv==(xi:Int))=false:=by simp[hpx]);rw[decide_eq_true hpx]at zT;simp only[Bool.true_and]at zT;clear hpx;by_cases hm0:m.kids=[]
        ·(have e8:decide ((0:Int)<(m.kids.length:Int))=false:=by simp[hm0]);(have e8':decide (0<m.kids.length)=false:=by simp[hm0]);rw[decide_eq_true hm0]at zT;have HR4:=hid (show zc ds g ⟨false,(fi:Int),nc,nk⟩=zCF g (fi:Int) (zBU nk ((j+1)+1)) (nk.drop ((j+1)+1)) from by rw[HP1.out];simpa using zT.out);clear hm0;go_wp2;go_quiet(fail);go_wp2;go_roundw;(case rel=>exact⟨(j+1)+1,by omega,by go_num,HBK.out.1 _,HR4⟩);case measure=>simp[intOf];omega
        (have e8:decide ((0:Int)<(m.kids.length:Int))=true:=by simp;exact List.length_pos_iff.2 hm0);(have e8':decide (0<m.kids.length)=true:=by simp;exact List.length_pos_iff.2 hm0);rw[decide_eq_false hm0]at zT;by_cases hm1:m.fact≤(fi:Int)
        ·(have e9:decide (m.fact≤(fi:Int))=true:=by simpa using hm1);have HR4:=hid (show zc ds g ⟨false,(fi:Int),nc,nk⟩=false from by rw[zT.out,decide_eq_false (show ¬(fi:Int)<m.fact by omega)];simp);clear hm0 hm1;go_wp2;go_quiet(fail);go_wp2;go_ret;rw[HR4.out];exact⟨rfl,HBK.out.2 _⟩
        (have e9:decide (m.fact≤(fi:Int))=false:=by simpa using hm1);have HR4:=hid (show zc ds g ⟨false,(fi:Int),nc,nk⟩=zCF g (fi:Int) (zBU nk ((j+1)+1)) (nk.drop ((j+1)+1)) from by rw[HP1.out,zT.out,decide_eq_true (show(fi:Int)<m.fact by omega)];simp);clear hm0 hm1;go_wp2;go_quiet(fail);go_wp2;go_roundw;(case rel=>exact⟨(j+1)+1,by omega,by go_num,HBK.out.1 _,HR4⟩);case measure=>simp[intOf];omega
      ·(obtain rfl:k'=nk.length:=by omega);have HR4:=hid (show zc ds g ⟨false,(fi:Int),nc,nk⟩=true from by rw[hres.out,List.drop_length];rfl);clear hres;go_wp2;go_ret;rw[HR4.out];exact⟨rfl,HWW.out⟩
  ·(have e5:((nk.length:Int)!=(nc.length:Int)+1)=true:=by simp;omega);rw[decide_eq_false h5]at HR;simp only[Bool.false_and]at HR;clear h2 h3 h4 h5;go_wp2;go_ret;rw[HR.out];exact⟨rfl,zAF.out⟩
end Go.Proofs.YtonmdbdopchkaaaGreatDoor
