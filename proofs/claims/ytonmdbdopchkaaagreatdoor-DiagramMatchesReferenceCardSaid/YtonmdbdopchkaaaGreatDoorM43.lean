/- Texts W43 W44. -/
import Derived.Test.YtonmdbdopchkaaaGreatDoorM39
set_option linter.all false
namespace Go.Proofs.YtonmdbdopchkaaaGreatDoor
open Go.RowKit
set_option maxHeartbeats 8000000
set_option maxRecDepth 100000
section
open Go.Shelf
def gF(rest:List zC)(i:Nat)(f:Fm)(x:zC)(v:Int)(st:GSt):Int × GSt:=zo rest (i+1) (zU x.name v f) st
def zKx(rest:List zC)(i:Nat)(f:Fm)(st:GSt)(x:zC):Int × GSt:=
 let r:=zH (gF rest i f x) (zK f x) st;let o:=zb r.2.all i (zK f x) r.1
 (o.1,⟨o.2,zCI r.2.done (zCH i f) o.1,r.2.full⟩)
def zSH(c:GV)(ds:List zC)(Zd:zD)(D:Option Addr)(dcap B0:Nat)(rest:List zC):Prop:=
 ∀(i:Nat)(f:Fm)(cs:List Value)(w:World)(st:GSt)(F Z Zf:zD),rest=ds.drop i->i≤ds.length->zDN c ds Zd D dcap B0 w st F Z Zf f cs->
  Calls Tryz.prog 29 (c.args cs i) w (zEn c (.slice D ds.length dcap) w F Z (zo rest i f st))
section
variable {c:GV} {ds:List zC} {Zd:zD} {D:Option Addr} {dcap B0:Nat} {w:World} {st:GSt} {F Z Zf:zD} {f:Fm} {cs:List Value}
theorem zDN.kid(h:zDN c ds Zd D dcap B0 w st F Z Zf f cs){w6 wr w7:World}{st':GSt}{kids:List Int}{vk:Value}{F' Z':zD}{cs':List Value}{nm:ByteArray}{v:Int}(hk6:zA (c.kept F) w w6)(hL:GrL c (.slice D ds.length dcap) w6 wr F Z st' kids vk F' Z')
  (hb7:Below wr.heap.size wr w7)(hf7:FmR (λb=>(Zf b∧b<w.heap.size)∨wr.heap.size≤b) w7 (zU nm v f) cs')(hw:WSt st')(hn:inn st'.all≤4000+ds.length):
  zDN c ds Zd D dcap B0 w7 st' F' Z' (λb=>((Zf b∧b<w.heap.size)∨wr.heap.size≤b)∧b<w7.heap.size) (zU nm v f) cs':=by
 have s6:=hk6.size;have s7:=hL.kept.size;have s8:=hb7.size;have hl:=hL.mem.lt;have hk7:zA (c.kept F) w w7:=hk6.trans (hL.kept.trans (.of_below hb7))
 refine⟨hL.mem.below hb7,FmR.live _ _ hf7,λb hb=>⟨?_,hb.2⟩,(h.d.keep (hk7.mono λb _ hb=>(h.offD b hb).1)),λb hb=>⟨zDD hL.hF (h.offD b hb).1 (h.offD b hb).2 s6,by have:=(h.offD b hb).2;omega⟩,h.tab.on (h.belowB hk7),
  ⟨by have:=h.base.1;omega,λb hb=> ?_,h.base.2.2⟩,zCn f h.ok,Nat.le_trans (zH1 f) h.size,hw,hn,h.dom⟩
 ·rcases hb.1 with hb|hb
  ·exact zDD hL.hF (h.offF b hb.1).1 hb.2 s6
  ·exact⟨λhf=>by have:=hL.mem.mkr.liveF b hf;omega,by have:=hl.2.2;omega,by have:=hl.2.1;omega⟩
 ·rcases hL.hF b hb with hb|hb
  ·exact h.base.2.1 b hb
  ·have:=h.base.1;omega
theorem zTI(rest:List zC)(IH:zSH c ds Zd D dcap B0 rest)(i:Nat)(hrest:rest=ds.drop (i+1))(h:zDN c ds Zd D dcap B0 w st F Z Zf f cs)(hc:¬(f.op=1∨f.op=2))(hi:i<ds.length)(hs:(st.full||decide (4000<st.all.length))=false)(hkn:kvI st.done (zCH i f)=none):
  Calls Tryz.prog 29 (c.args cs i) w (zEn c (.slice D ds.length dcap) w F Z (zKx rest i f st ds[i])):=by
 simp only[Bool.or_eq_false_iff]at hs;obtain⟨hfu,hal⟩:=hs;have HH:=hid h;have HKN:=hid hkn;have HST:=hid (show(⟨st.all,st.done,false⟩:GSt)=st from by rw[<-hfu]);have HS:=hid (λ(o:Obj)=>(h.mem.setFull false).below (zE _ o));have HK:=hid (λ(o:Obj)=> @zKI c w F o (.bool false));have hkl:=zOF (i:=i) (f:=f) (by have:=zAd h.dom;omega) (by have:=zGi f (zFC f h.ok) (FmR.fitF _ _ h.fm);have:=h.size;omega);obtain⟨A,cap,rfl⟩:=FmR.form h.fm;obtain⟨AA,acap,a0,a0l⟩:=h.mem.mkr.all_cell;have m0:=h.mem.mv.cell;have m0l:=h.mem.mv.lt;have f0:=h.mem.fv.cell;have f0f:=h.mem.fv.free;have f0l:=h.mem.fv.lt;have hdl:=zAd h.dom;have e1:(f.op==(1:Int))=false:=by simp;omega
 have e2:(f.op==(2:Int))=false:=by simp;omega
 have e3:decide ((4000:Int)<(st.all.length:Int))=false:=by simp at hal⊢;omega
 have e4:((i:Int)==(ds.length:Int))=false:=by simp;omega
 rw[hfu]at f0;clear h hc hkn;unfold GV.args;go_enter Tryz.func29,Tryz.ntmps29
 go_upto_region 4 with(fail)
 have hg:=HS.out (.cells #[.int .i64 f.op,.string f.name,.int .i64 f.cmp,.int .i64 f.num,.slice A f.kids.length cap] 24);have hk:=HK.out (.cells #[.int .i64 f.op,.string f.name,.int .i64 f.cmp,.int .i64 f.num,.slice A f.kids.length cap] 24);have HG:=hid (And.intro hg hk);have hbx:=Blk.new' (w.setCell ⟨c.Fv,0,none⟩ (.bool false)) 24 #[.int .i64 f.op,.string f.name,.int .i64 f.cmp,.int .i64 f.num,.slice A f.kids.length cap] (n:=w.heap.size) (by simp[World.setCell]);clear m0 m0l f0 f0f f0l a0 a0l HS HK;have d0:=hg.dv.cell;have d0l:=hg.dv.lt;have f0:=hg.fv.cell;have f0l:=hg.fv.lt;have hwz:w.heap.size<((w.setCell ⟨c.Fv,0,none⟩ (.bool false)).alloc (.cells #[.int .i64 f.op,.string f.name,.int .i64 f.cmp,.int .i64 f.num,.slice A f.kids.length cap] 24)).heap.size :=by simp[World.setCell]
 generalize ((w.setCell ⟨c.Fv,0,none⟩ (.bool false)).alloc (.cells #[.int .i64 f.op,.string f.name,.int .i64 f.cmp,.int .i64 f.num,.slice A f.kids.length cap] 24))=W1 at*;have HBX:=hid hbx;have b0:=hbx.at0;have b1:=hbx.at1;have b2:=hbx.at2;have b3:=hbx.at3;have b4:=hbx.at4;clear hg hk hbx;go_wp2_with fail
 refine(HH.out.spell HG.out.2).mono ?_;rintro e w3 ⟨rfl,hB3,hb3⟩;have hgk3:zA (c.kept F) w w3:=HG.out.2.trans (.of_below hb3);have htab3:zBJ W1.heap.size w3:=((HH.out.tab.on (HH.out.belowB hgk3)).mono (by have:=HH.out.base.1;omega));have HI:=hid (zGR (B:=W1.heap.size) (i:Int) w3 (by constructor<;>omega) htab3);have HB3:=hid (And.intro hB3 hb3)
 have hadd:∀W,(Op.stringOp .add ⟨(Lib.itoa (i:Int)).toArray⟩ ⟨(zAi f).toArray⟩).run Tryz.prog W= .ok (.string ⟨(zCH i f).toArray⟩) W:=λW=>by
  rw[<-zM7];refine run_string_add_sum W _ _ ?_;have h1:=hkl;unfold zCH at h1;rw[List.length_append]at h1;simp only[ByteArray.size,List.size_toArray];omega
 clear b0 b1 b2 b3 b4 d0 d0l f0 f0l hgk3 htab3 hB3 hb3;go_wp2_with fail
 refine HI.out.mono ?_;rintro e w4 ⟨rfl,hb4⟩;have zOn:=hid (Tryz.Builder_String_any_f W1.heap.size W1.heap.size (zAi f) w4 (zIf HB3.out.1 hb4) (by have:=HB3.out.2.size;have:=hb4.size;omega));have HB4:=hid (zy HB3.out.2 hb4);clear hb4;go_wp2_with fail
 refine zOn.out.mono ?_;rintro e w5 ⟨rfl,-,hb5⟩;have hbw5:Below W1.heap.size W1 w5:=HB4.out.trans hb5;have hg5:=HG.out.1.below hbw5;have HB5:=hid hbw5;have hbx5:=HBX.out.below hbw5 hwz;have n0:=hg5.nv.cell;have n0l:=hg5.nv.lt;have hl:=Tryz.lookK hg5.done (zCH i f);simp only[HKN.out,Option.isSome_none]at hl;have hgk5:zA (c.kept F) w w5:=HG.out.2.trans (.of_below hbw5);obtain⟨D',dcap',he,-,-,hat⟩:=HH.out.d.open_;injection he with he1 he2 he3;subst he1 he3;clear he2;obtain⟨fb,foff,rfl,hfz,hfbl,x0,x1,x2,x3,hfit⟩:=hat i hi;have HZ:=hid (HH.out.offD fb hfz);have hfx:zAv ds[i]=true:=zEO HH.out.dom (List.getElem_mem hi);replace x0:=hgk5.cell (p:=⟨fb,foff+i*4,none⟩) HZ.out.1 x0;replace x1:=hgk5.cell (p:=⟨fb,foff+i*4+1,none⟩) HZ.out.1 x1;replace x2:=hgk5.cell (p:=⟨fb,foff+i*4+2,none⟩) HZ.out.1 x2;replace x3:=hgk5.cell (p:=⟨fb,foff+i*4+3,none⟩) HZ.out.1 x3;have x0l:=lt_of_cell x0;have b0:=hbx5.at0;have b1:=hbx5.at1;have b2:=hbx5.at2;have b3:=hbx5.at3;have b4:=hbx5.at4;have b0l:=hbx5.lt;have d0:=hg5.dv.cell;have d0l:=hg5.dv.lt;have hi1:((i:Nat):Int)<(ds.length:Int):=by omega
 have hi0:(0:Int)≤((i:Nat):Int):=by omega
 have zVM:=hid (λ(W:World)(hW:Below w5.heap.size w5 W)=>zQn (λb=>Zf b∧b<w.heap.size) f ds[i] _ W
  (FmR.keep (.of_below hW) _ _ (FmR.keep (hgk5.mono λb _ hb=>(HH.out.offF b hb.1).1) _ _ (FmR.live _ _ HH.out.fm))) (λb hb=>by have:=hgk5.size;have:=hW.size;omega) (by have:=HH.out.size;omega)
  (λn hn=>zIi f HH.out.ok n hn) hfit (zC9 hfx).2.1)
 have HX:=hid (And.intro hfit hfx);have HG5:=hid (And.intro hg5 (And.intro hgk5 hbx5));generalize hxx:ds[i]=x at*;have HXX:=hid hxx;clear hxx hb5 hbw5 hbx5 hg5 hgk5 zOn HI hfit hfx hat hfz hfbl;go_wp2
 go_region_held3(λw'=>w'.cell? ⟨w.heap.size,0,none⟩=some (.int .i64 f.op)∧w'.cell? ⟨w.heap.size,1,none⟩=some (.string f.name)∧w'.cell? ⟨w.heap.size,2,none⟩=some (.int .i64 f.cmp)∧w'.cell? ⟨w.heap.size,3,none⟩=some (.int .i64 f.num)∧w'.cell? ⟨w.heap.size,4,none⟩=some (.slice A f.kids.length cap)∧w'.cell? ⟨c.Dv,0,none⟩=some (.slice (some ⟨fb,foff,none⟩) ds.length dcap)∧w'.cell? ⟨fb,foff+i*4,none⟩=some (.string x.name)∧w'.cell? ⟨fb,foff+i*4+1,none⟩=some (.int .i64 x.kind)∧w'.cell? ⟨fb,foff+i*4+2,none⟩=some (.int .i64 x.lo)∧w'.cell? ⟨fb,foff+i*4+3,none⟩=some (.int .i64 x.hi))
  (first|exact⟨p0,p1,p2,p3,p4,p5,p6,p7,p8,p9⟩|(refine⟨?_,?_,?_,?_,?_,?_,?_,?_,?_,?_⟩<;>go_keep))
  (first
   |(go_at_call 34;refine(zVM.out _ (Below.refl _ _).drew).mono ?_;rintro e w6 ⟨v6,rfl,hown6,hb6⟩;have hbx6:=HG5.out.2.2.drew.below hb6 b0l;have p0:w6.cell? ⟨w.heap.size,0,none⟩=some (.int .i64 f.op):=hbx6.cell 0;have p1:w6.cell? ⟨w.heap.size,1,none⟩=some (.string f.name):=hbx6.cell 1;have p2:w6.cell? ⟨w.heap.size,2,none⟩=some (.int .i64 f.cmp):=hbx6.cell 2;have p3:w6.cell? ⟨w.heap.size,3,none⟩=some (.int .i64 f.num):=hbx6.cell 3;have p4:w6.cell? ⟨w.heap.size,4,none⟩=some (.slice A f.kids.length cap):=hbx6.cell 4;have p5:=brd hb6 d0 d0l;have p6:=brd hb6 x0 x0l;have p7:=brd hb6 x1 x0l;have p8:=brd hb6 x2 x0l;have p9:=brd hb6 x3 x0l))
 obtain⟨A6,cap6,rfl,-,-,-⟩:=Row.of_own hown6 (by decide);have hk56:∀Z0,zA Z0 w5 w6:=λZ0=>((zA.refl Z0 w5).drew).trans (.of_below hb6)
 have hg6:=HG5.out.1.keep (hk56 _);rw[HST.out]at hg6;have hgk6:zA (c.kept F) w w6:=HG5.out.2.1.trans (hk56 _);have hasc:=zFu f x
 have hfitS:∀v∈zK f x,I64 v:=λv hv=>by
  have hb:=zC9 HX.out.2;unfold zK at hv;rcases List.mem_cons.1 hv with rfl|hv
  ·constructor<;>omega
  ·have:=zA3 hasc v hv;constructor<;>omega
 have hslen:(zK f x).length ≤500:=by
  have h1:=zPO f x;have h2:=zNx x.name f;have h3:=HH.out.size;omega
 have hints:=(zL.of_own hown6 hfitS (by omega)).live;have HV6:=hid hints;have HFM:=hid (FmR.keep (hgk6.mono λb _ hb=>(HH.out.offF b hb.1).1) _ _ (FmR.live _ _ HH.out.fm));have hwsz:w.heap.size≤w5.heap.size:=HG5.out.2.1.size;have hw6:w5.heap.size≤w6.heap.size:=hb6.size;have zC6:=hid (λb(hb:w.heap.size≤b)=>(show c.kept F b from⟨λhf=>by have:=HH.out.mem.mkr.liveF b hf;omega,by have:=HH.out.mem.lt.2.2;omega,by have:=HH.out.mem.lt.2.1;omega⟩));have HG6:=hid (And.intro hg6 (And.intro hgk6 (HG5.out.2.2.keep (hk56 (λ_=>True)) trivial)));have hX0:w6.cell? ⟨fb,foff+i*4,none⟩=some (.string x.name):=p6;have HX0:=hid hX0;have hfb6:=lt_of_cell hX0;have hbx6l:=hbx6.lt;clear p0 p1 p2 p3 p4 p5 p6 p7 p8 p9 b0 b1 b2 b3 b4 b0l d0 d0l x0 x1 x2 x3 x0l hl n0 n0l hbx6 hg6 hgk6 hasc hfitS hints hX0 hk56 HG5 zVM hb6;go_wp2;go_loopw[15,77] (λvv ix wr=>∃(k:Nat)(vk:Value)(F' Z':zD),k≤(zK f x).length ∧ix= .int .i64 k∧vk=vv∧GrL c (.slice (some ⟨fb,foff,none⟩) ds.length dcap) w6 wr F Z (zH (gF rest i f x) ((zK f x).take k) st).2 (zH (gF rest i f x) ((zK f x).take k) st).1 vk F' Z') (λ_ ix _=>(zK f x).length -(intOf ix).toNat);case atStart=>exact⟨0,_,F,Z,Nat.zero_le _,rfl,rfl,GrL.start HG6.out.1⟩
 case round=>
  obtain⟨k,vk,F',Z',hk,rfl,rfl,hL⟩:=hrel;by_cases hlt:k<(zK f x).length
  ·obtain⟨vb,voff,rfl,hvz,-,hvc⟩:=HV6.out.at_ hlt;(have hkF:=λb(h1:w.heap.size≤b)(h2:b<w6.heap.size)=>(zDD hL.hF (zC6.out b h1) h2 (Nat.le_refl _):c.kept F' b));have hvc':wr.cell? ⟨vb,voff+k,none⟩=some (.int .i64 (zK f x)[k]):=hL.kept.cell (p:=⟨vb,voff+k,none⟩) (zC6.out vb (Nat.le_trans hwsz hvz.1)) hvc;have hvl:=lt_of_cell hvc';obtain⟨AK,capk,hvk,-,-,-⟩:=Row.of_own hL.own (by decide);have hown:=hL.own;have hk6:=hL.kept.size;have HL:=hid hL
   have zBT:=hid (λ(W:World)(hW:zA (λb=>c.kept F' b∧vk.ownBlock≠some b) wr W)=>(show W.cell? ⟨c.Gv,0,none⟩=some (.func (.func 29) #[] #[.pointer (some ⟨c.Mv,0,none⟩),.pointer (some ⟨c.Fv,0,none⟩),.pointer (some ⟨c.Dv,0,none⟩),.pointer (some ⟨c.Nv,0,none⟩),.pointer (some ⟨c.Gv,0,none⟩)])∧
     W.cell? ⟨w.heap.size,0,none⟩=some (.int .i64 f.op)∧W.cell? ⟨w.heap.size,1,none⟩=some (.string f.name)∧W.cell? ⟨w.heap.size,2,none⟩=some (.int .i64 f.cmp)∧W.cell? ⟨w.heap.size,3,none⟩=some (.int .i64 f.num)∧W.cell? ⟨w.heap.size,4,none⟩=some (.slice A f.kids.length cap)∧
     W.cell? ⟨c.Dv,0,none⟩=some (.slice (some ⟨fb,foff,none⟩) ds.length dcap)∧W.cell? ⟨fb,foff+i*4,none⟩=some (.string x.name) from by
    (have hvar:∀b,c.var b->(λb=>c.kept F' b∧vk.ownBlock≠some b) b:=λb hb=>⟨hL.mem.var b hb,λe=>(hL.row b e).2.2 hb⟩);(have hold:∀b,c.kept F b->b<w6.heap.size->(λb=>c.kept F' b∧vk.ownBlock≠some b) b:=λb hb hlt=>⟨zDD hL.hF hb hlt (Nat.le_refl _),λe=>by have:=(hL.own.lt b e).1;omega⟩);have hbx:=(HG6.out.2.2.keep hL.kept (zC6.out _ (Nat.le_refl _))).keep hW (hold _ (zC6.out _ (Nat.le_refl _)) (by omega))
    exact⟨(hL.mem.gv.keep hW (hvar _ (Or.inr (Or.inr (Or.inr rfl))))).cell,hbx.cell 0,hbx.cell 1,hbx.cell 2,hbx.cell 3,hbx.cell 4,(hL.mem.dv.keep hW (hvar _ (Or.inr (Or.inl rfl)))).cell,
     hW.cell (p:=⟨fb,foff+i*4,none⟩) (hold fb HZ.out.1 hfb6) (hL.kept.cell (p:=⟨fb,foff+i*4,none⟩) HZ.out.1 HX0.out)⟩))
   subst hvk;have hkk:(((zK f x).take (k+1)))=(zK f x).take k++[(zK f x)[k]]:=List.take_succ_eq_append_getElem hlt;have HKK:=hid (show zH (gF rest i f x) ((zK f x).take (k+1)) st=((zH (gF rest i f x) ((zK f x).take k) st).1++[(gF rest i f x (zK f x)[k] (zH (gF rest i f x) ((zK f x).take k) st).2).1],(gF rest i f x (zK f x)[k] (zH (gF rest i f x) ((zK f x).take k) st).2).2) from by rw[hkk,zFw]);(have hki:(k:Int)<((zK f x).length :Int):=by omega);(have hkl9:(zH (gF rest i f x) ((zK f x).take k) st).1.length =k:=by rw[zA6,List.length_take];omega);have zFe:=hid hkl9;have HW5:=hid (zIc (f:=gF rest i f x) (B:=4000+rest.length) (λv st=>zFD rest _ _ st) (λv st hs=>zId rest _ _ st hs) ((zK f x).take k) st HH.out.wst);clear hL hvc hkk hkF hvz hkl9;generalize (zH (gF rest i f x) ((zK f x).take k) st).1=kids at*;generalize (zH (gF rest i f x) ((zK f x).take k) st).2=st' at*;generalize (zK f x)[k]=v at*;go_wp2;refine zAO 16 (λW=>zA (λb=>c.kept F' b∧(Value.slice AK kids.length capk).ownBlock ≠some b) wr W) (by kernel_rfl) ?_;have hS:(λW=>zA (λb=>c.kept F' b∧(Value.slice AK kids.length capk).ownBlock ≠some b) wr W) wr.drew:=(zA.refl _ _).drew
   (refine tkZ 0 ?_ hS ?_ ?_;rotate_left;intro w;go_simp;(try with_reducible rfl);simp only[nr])
   (refine tkS 1 ?_ hS ?_ ?_;rotate_left;intro w hkw;obtain⟨h0,h1,h2,h3,h4,h5,h6,h7⟩:=zBT.out _ hkw;go_simp;(try with_reducible rfl);simp only[nr])
   (refine tkS 2 ?_ hS ?_ ?_;rotate_left;intro w hkw;obtain⟨h0,h1,h2,h3,h4,h5,h6,h7⟩:=zBT.out _ hkw;go_simp;(try with_reducible rfl);simp only[nr])
   (refine tkZ 3 ?_ hS ?_ ?_;rotate_left;intro w;go_simp;(try with_reducible rfl);simp only[nr])
   (refine tkS 4 ?_ hS ?_ ?_;rotate_left;intro w hkw;obtain⟨h0,h1,h2,h3,h4,h5,h6,h7⟩:=zBT.out _ hkw;go_simp;(try with_reducible rfl);simp only[nr])
   (refine tkZ 5 ?_ hS ?_ ?_;rotate_left;intro w;go_simp;(try with_reducible rfl);simp only[nr])
   (refine tkZ 6 ?_ hS ?_ ?_;rotate_left;intro w;go_simp;(try with_reducible rfl);simp only[nr])
   (refine tkZ 7 ?_ hS ?_ ?_;rotate_left;intro w;go_simp;(try with_reducible rfl);simp only[nr])
   (refine tkS 8 ?_ hS ?_ ?_;rotate_left;intro w hkw;obtain⟨h0,h1,h2,h3,h4,h5,h6,h7⟩:=zBT.out _ hkw;go_simp;(try with_reducible rfl);simp only[nr])
   (refine tkZ 9 ?_ hS ?_ ?_;rotate_left;intro w;go_simp;(try with_reducible rfl);simp only[nr])
   (refine tkZ 11 ?_ hS ?_ ?_;rotate_left;intro w;go_simp;(try with_reducible rfl);simp only[nr])
   (refine tkZ 12 ?_ hS ?_ ?_;rotate_left;intro w;go_simp;(try with_reducible rfl);simp only[nr])
   refine wS1 10 (λK hK=> ?_);(go_wp2_with fail);have hb7z:=HL.out.kept;refine(zMY x.name v ds (zJ f) f (Nat.le_refl _) (by have:=HH.out.size;omega) (λb=>Zf b∧b<w.heap.size) _ wr.drew (FmR.keep ((hb7z.mono λb _ hb=>(HH.out.offF b hb.1).1).drew) _ _ HFM.out) HH.out.ok).mono ?_;rintro e w7 ⟨cs',rfl,hf7,hb7⟩;have hb7':Below wr.heap.size wr w7:=((Below.refl wr.heap.size wr).drew).trans hb7;have hS7:zA (λb=>c.kept F' b∧(Value.slice AK kids.length capk).ownBlock ≠some b) wr w7:= .of_below hb7';(have hrl:rest.length=ds.length-(i+1):=by rw[hrest];simp);have zN:=hid (IH (i+1) _ cs' w7 st' F' Z' _ hrest (by omega) (HH.out.kid (nm:=x.name) (v:=v) HG6.out.2.1 HL.out hb7' hf7 HW5.out.1 (by have h1:=HW5.out.2.2;have h2:=HH.out.len;omega)));have HB7:=hid hb7';refine hK _ _ (Or.inr hS7) ?_;clear hK K hb7 hb7z hf7
   (try simp only[nr])
   refine wS1 13 (λK hK=> ?_);(go_wp2_with fail);refine zN.out.mono ?_;intro e w8 hp8;have hS8:zA (λb=>c.kept F' b∧(Value.slice AK kids.length capk).ownBlock ≠some b) wr w8:=hS7.trans (hp8.2.2.mono λb _ hb=>hb.1);have hown8:w8.ownsRow w6.heap.size 3 1 (.slice AK kids.length capk) kids.length (kids.map (.int .i64)):=zl (zl HL.out.own (zA.of_below (Z:=λ_=>True) HB7.out) (λ_ _=>trivial)) hp8.2.2 (λk hk=>(HL.out.row k hk).1);have hw68:w6.heap.size≤w8.heap.size:=Nat.le_trans hk6 (Nat.le_trans HB7.out.size hp8.2.2.size);have HP8:=hid hp8;obtain rfl:=hp8.1;refine hK _ _ (Or.inr hS8) ?_;clear hK K hp8
   (try simp only[nr])
   have zT6:=hid (show gF rest i f x v st'=zo rest (i+1) (zU x.name v f) st' from rfl);rw[<-zT6.out]at HP8⊢;generalize gF rest i f x v st'=r at*;refine wS1 14 (λK hK=> ?_);(go_wp2_with fail);refine hK _ _ (Or.inr (hS8.alloc _)) ?_;clear hK K
   (try simp only[nr])
   refine wS1 15 (λK hK=> ?_);refine zAz (.tmp 81) (.tmp 95) _ rfl Tryz.underlying31 Tryz.eInt rfl (hown8.alloc _) rfl (news:=[.int .i64 r.1]) rfl (one_cell (by simp)) (by simp[Value.oneCell']) (by have:=zFe.out;unfold maxLen;omega) (by have:=zFe.out;omega) (by simp;omega) ?_;intro v5 w10 ho10 hg10 hat10;have HST:=hid (HL.out.step HB7.out HP8.out hg10 ho10 hat10);refine hK _ _ (Or.inr ((hS8.alloc _).grown hg10 (λk hk _ hz=>hz.2 hk))) ?_;clear hK K hg10 ho10 hat10
   (try simp only[nr])
   refine wS1 16 (λK hK=> ?_);(go_wp2_with fail);refine hK _ _ (Or.inl rfl) ?_;clear hK K
   (try simp only[nr])
   refine wSd ?_ _;go_wp2;go_roundw
   case rel=>
    obtain⟨F2,Z2,hL2⟩:=HST.out;refine⟨k+1,_,F2,Z2,by omega,by go_num,rfl,?_⟩;rw[HKK.out];exact hL2
   case measure=>simp[intOf];omega
  ·(obtain rfl:k=(zK f x).length :=by omega);rw[List.take_length]at hL;have hlk:=zA6 (f:=gF rest i f x) (zK f x) st;have hW:=zIc (f:=gF rest i f x) (B:=4000+rest.length) (λv st=>zFD rest _ _ st) (λv st hs=>zId rest _ _ st hs) (zK f x) st HH.out.wst;have hne:(zH (gF rest i f x) (zK f x) st).1≠[]:=zET (by simp[zK]);have zDO:=hid (show zKx rest i f st ds[i]=((zb (zH (gF rest i f x) (zK f x) st).2.all i (zK f x) (zH (gF rest i f x) (zK f x) st).1).1,⟨(zb (zH (gF rest i f x) (zK f x) st).2.all i (zK f x) (zH (gF rest i f x) (zK f x) st).1).2,zCI (zH (gF rest i f x) (zK f x) st).2.done (zCH i f) (zb (zH (gF rest i f x) (zK f x) st).2.all i (zK f x) (zH (gF rest i f x) (zK f x) st).1).1,(zH (gF rest i f x) (zK f x) st).2.full⟩) from by rw[HXX.out];rfl);generalize (zH (gF rest i f x) (zK f x) st).1=kids at*;generalize (zH (gF rest i f x) (zK f x) st).2=st' at*;have hrl:rest.length=ds.length-(i+1):=by rw[hrest];simp
   have hall:st'.all.length≤5000:=by
    have h1:=hW.1.tab.len;have h2:=hW.2.2;have h3:=HH.out.len;omega
   have hkfit:∀q∈kids,I64 q:=λq hq=>by
    have:=hW.2.1 q hq;have h1:=this.1;have h2:=this.2;constructor<;>omega
   have hgk:zA (c.kept F) w wr:=HG6.out.2.1.trans hL.kept;have hs6:=hL.kept.size
   have zDn:=hid (zMA c.M st'.all F' Z' (λb=>(w.heap.size≤b∧b<w6.heap.size)∨vk.ownBlock=some b) (i:Int) (.slice A6 (zK f x).length cap6) vk (zK f x) kids wr hL.mem.mkr
    ((HV6.out.keep (hL.kept.mono λb _ hb=>zC6.out b (Nat.le_trans hwsz hb.1))).mono λb hb=>Or.inl ⟨Nat.le_trans hwsz hb.1,hb.2⟩) ((zCl hL.own hkfit (by omega)).mono λb hb=>Or.inr hb)
    (λb hb=>by
     rcases hb with hb|hb
     ·exact(zDD hL.hF (zC6.out b hb.1) hb.2 (Nat.le_refl _)).1
     ·exact(hL.row b hb).1.1)
    (by constructor<;>omega) hlk.symm hne (by omega) (by omega) ((HH.out.tab.on (HH.out.belowB hgk)).mono (by have:=HH.out.base.1;have:=hgk.size;omega)))
   obtain⟨AK,capk,rfl,-,-,-⟩:=Row.of_own hL.own (by decide);have m0:=hL.mem.mv.cell;have m0l:=hL.mem.mv.lt;have HL:=hid hL;have HGK:=hid hgk;clear hL hlk hW hne hkfit hgk hall;generalize zb st'.all i (zK f x) kids=o at*;(go_wp2_with fail);refine zDn.out.mono ?_;intro e w8 hp8;obtain⟨rfl,⟨F2,Z2,hm2,hF2,hZ2⟩,hk8⟩:=hp8;have hg8:=GrW.made HL.out.mem (Below.refl _ _) hm2 hF2 hZ2 hk8;have n0:=hg8.nv.cell;have n0l:=hg8.nv.lt;have HG8:=hid hg8;have HD8:=hid hg8.done;have HK8:=hid (And.intro hk8 (And.intro hF2 hZ2));clear hg8 hm2 hF2 hZ2 hk8 zDn m0 m0l;go_wp2_with(at_mapUpdate;refine zBm rfl (.tmp 103) (.tmp 104) _ rfl (zCY (P:=Tryz.prog) (k:=9) Tryz.underlying9) (e:=3) Tryz.underlying59 rfl (HD8.out) ⟨(zCH i f).toArray⟩ rfl ?_;intro w9 hm9 hk9 hsz9 hce9 hfr9);have hm9':zu encS w9 c.db (kvG (zCI st'.done (zCH i f) o.1)):=by rw[<-zPl];exact hm9
   have HE:=hid (show zEn c (.slice (some ⟨fb,foff,none⟩) ds.length dcap) w F Z (zKx rest i f st ds[i]) (.returned (.int .i64 o.1)) w9 from by
    rw[zDO.out];have hs8:=HK8.out.1.size;have h6:=HG6.out.2.1.size;refine⟨rfl,⟨F2,Z2,HG8.out.setDone hm9' hk9,λb hb=> ?_,λb hb=> ?_⟩,⟨hk9.os.trans (HK8.out.1.os.trans HGK.out.os),hk9.tape.trans (HK8.out.1.tape.trans HGK.out.tape),hk9.output.trans (HK8.out.1.output.trans HGK.out.output),by have:=HGK.out.size;omega,λk hk hz=> ?_⟩⟩
    ·rcases HK8.out.2.1 b hb with hb|hb
     ·rcases HL.out.hF b hb with hb|hb
      ·exact Or.inl hb
      ·exact Or.inr (by omega)
     ·exact Or.inr (by omega)
    ·rcases HK8.out.2.2 b hb with hb|hb
     ·rcases HL.out.hZ b hb with hb|hb
      ·exact Or.inl hb
      ·exact Or.inr (by omega)
     ·exact Or.inr (by omega)
    ·have hs9:=HGK.out.size
     rw[hk9.block k (by omega) hz.2.1,HK8.out.1.block k (by omega) (zDD HL.out.hF hz hk (by omega)).1,HGK.out.block k hk hz])
   clear hm9 hm9' hk9 hsz9 hce9 hfr9 n0 n0l;go_wp2;go_ret;exact HE.out
theorem zTJ:∀rest:List zC,zSH c ds Zd D dcap B0 rest:=by
 intro rest
 induction rest with
 |nil=>
  intro i f cs w st F Z Zf hr hi h
  have hi':i=ds.length:=by
   have:=congrArg List.length hr;simp at this;omega
  by_cases hc:f.op=1∨f.op=2
  ·(have e:zo [] i f st=zBW (decide (f.op=1)) st.full st:=by unfold zo;rw[if_pos hc]);rw[e];exact zM4 i h hc
  ·(have e:zo [] i f st=zBW false (st.full||decide (4000<st.all.length)) st:=by unfold zo;rw[if_neg hc]);rw[e];exact zM5 i h hc hi (Or.inr hi')
 |cons x rest ih=>
  intro i f cs w st F Z Zf hr hi h
  have hlt:i<ds.length:=by
   have:=congrArg List.length hr;simp at this;omega
  have hdr:ds.drop i=ds[i]::ds.drop (i+1):=List.drop_eq_getElem_cons hlt;rw[hdr]at hr;injection hr with hx hrest;by_cases hc:f.op=1∨f.op=2
  ·(have e:zo (x::rest) i f st=zBW (decide (f.op=1)) st.full st:=by unfold zo;rw[if_pos hc]);rw[e];exact zM4 i h hc
  ·by_cases hs:(st.full||decide (4000<st.all.length))=true
   ·(have e:zo (x::rest) i f st=zBW false (st.full||decide (4000<st.all.length)) st:=by unfold zo;rw[if_neg hc,if_pos hs,hs]);rw[e];exact zM5 i h hc hi (Or.inl hs)
   ·cases hk:kvI st.done (zCH i f)with
    |some k=>
     (have e:zo (x::rest) i f st=(k,st):=by unfold zo;rw[if_neg hc,if_neg hs];simp only[hk]);rw[e];exact zQw i h hc hlt (by simpa using hs) hk
    |none=>
     (have e:zo (x::rest) i f st=zKx rest i f st ds[i]:=by rw[<-hx];unfold zo;rw[if_neg hc,if_neg hs];simp only[hk];rfl);rw[e];exact zTI rest ih i hrest h hc hlt (by simpa using hs) hk
end
end
section
open Go.Shelf
theorem zu.len{P:Program}{κ:Type}{enc:κ->Value}{w:World}{b:Nat}{kv:List (κ × Value)}{t k e:TypeId}(h:zu enc w b kv)(ht:P.underlying t=some (.map k e))(ty:TypeId):(Builtin.len_ #[t] ty #[.map (some b)]).run P w= .ok (.int .i64 (kv.length:Nat)) w:=by
 obtain⟨es,clock,hb,hm⟩:=h;have e1:es.size=kv.length:=by have:=congrArg List.length hm;simpa using this
 rw[<-e1];simp[Builtin.len_,run_underlying ht,MapKept.run_getObj_map hb,goInt,Result.andThen]
theorem zKy(x:ByteArray)(v:Value):∀l:List (ByteArray × Value),(zAt l x v).map (·.1)=if(l.map (·.1)).any (λk=>decide (k=x))=true then l.map (·.1)else l.map (·.1)++[x]
 |[]=>by simp[zAt]
 |p::r=>by
  have ih:=zKy x v r;unfold zAt;rw[List.map_cons,List.any_cons];by_cases h:x=p.1
  ·rw[if_pos h,if_pos (by simp[h])];rfl
  ·rw[if_neg h,List.map_cons,ih,decide_eq_false (show ¬p.1=x from λe=>h e.symm),Bool.false_or];split<;>rfl
theorem zIp:∀(l:List ByteArray)(kv:List (ByteArray × Value)),(zBd kv l).map (·.1)=l.foldl (λks n=>if ks.any (λk=>decide (k=n))=true then ks else ks++[n]) (kv.map (·.1))
 |[],_=>rfl
 |n::l,kv=>by
  unfold zBd;rw[List.foldl_cons,List.foldl_cons,<-zKy n (.bool true) kv];exact zIp l _
theorem zLm(f:Fm):(zBd [] (zAC f)).length =zBo f:=by
 have:=congrArg List.length (zIp (zAC f) []);rw[List.length_map]at this;rw[this];rfl
def bMk:Obj:= .cells #[.slice none 0 0,.map none] 63
def bMv(n:Nat):Obj:= .cells #[.pointer (some ⟨n,0,none⟩)] 58
def bNv(n:Nat):Obj:= .cells #[.map (some (n+1+1))] 59
def bFv:Obj:= .cells #[.bool false] 4
def GV.of(n d:Nat):GV:=⟨n+1,n+1+1+1+1,d,n+1+1+1,n+1+1+1+1+1,n,n+1+1⟩
def bGv(n d:Nat):Obj:= .cells #[(GV.of n d).fn] 64
def zGS(w:World)(d:Nat):World:=(((((w.alloc bMk).alloc (bMv w.heap.size)).alloc (.map #[] 0)).alloc (bNv w.heap.size)).alloc bFv).alloc (bGv w.heap.size d)
theorem zPW(w:World)(d:Nat):(zGS w d).heap.size =w.heap.size+6:=by unfold zGS;simp
theorem zIq(w:World)(d:Nat):Below w.heap.size w (zGS w d):=
 (((((zE w _).alloc (by simp) _).alloc (by simp;omega) _).alloc (by simp;omega) _).alloc (by simp;omega) _).alloc (by simp;omega) _
theorem zSI{w:World}{d:Nat}{vd:Value}(hd:One w d vd):GrW (GV.of w.heap.size d) vd (zGS w d) ⟨[],[],false⟩ (λb=>b=w.heap.size) (λ_=>False):=by
 have hdl:=hd.lt;have hb:=zIq w d
 refine⟨⟨_,((((Blk.new' (w.alloc bMk) 58 #[.pointer (some ⟨w.heap.size,0,none⟩)] (n:=w.heap.size+1) (by simp)).alloc _).alloc _).alloc _).alloc _⟩,hd.below hb hdl,
  ⟨_,(((Blk.new' (((w.alloc bMk).alloc (bMv w.heap.size)).alloc (.map #[] 0)) 59 #[.map (some (w.heap.size+1+1))] (n:=w.heap.size+1+1+1) (by simp)).alloc _).alloc _)⟩,
  ⟨_,Blk.new' (((((w.alloc bMk).alloc (bMv w.heap.size)).alloc (.map #[] 0)).alloc (bNv w.heap.size)).alloc bFv) _ #[(GV.of w.heap.size d).fn] (n:=w.heap.size+1+1+1+1+1) (by simp)⟩,
  ⟨_,(Blk.new' ((((w.alloc bMk).alloc (bMv w.heap.size)).alloc (.map #[] 0)).alloc (bNv w.heap.size)) 4 #[.bool false] (n:=w.heap.size+1+1+1+1) (by simp)).alloc _⟩,?_,?_,?_,?_,?_,?_,?_,?_⟩
 ·exact(MkS.new w).below (w':=zGS w d) (((((zE (w.alloc bMk) _).alloc (by simp) _).alloc (by simp) _).alloc (by simp) _).alloc (by simp) _)
 ·have hm:=((zu.made ((w.alloc bMk).alloc (bMv w.heap.size)) encS).alloc (bNv w.heap.size)).alloc bFv |>.alloc (bGv w.heap.size d)
  have e:((w.alloc bMk).alloc (bMv w.heap.size)).heap.size =w.heap.size+1+1:=by simp
  rw[e]at hm;exact hm
 ·intro b hb;refine⟨λe=> ?_,?_,?_⟩
  ·subst e;rcases hb with hb|hb|hb|hb<;>(unfold GV.of at hb;simp only at hb;omega)
  ·show b≠w.heap.size+1+1;rcases hb with hb|hb|hb|hb<;>(unfold GV.of at hb;simp only at hb;omega)
  ·show b≠w.heap.size+1+1+1+1;rcases hb with hb|hb|hb|hb<;>(unfold GV.of at hb;simp only at hb;omega)
 ·show ¬(w.heap.size+1+1+1+1=w.heap.size);omega
 ·show ¬(w.heap.size+1+1=w.heap.size);omega
 ·show w.heap.size+1+1+1+1≠w.heap.size+1+1;omega
 ·exact λh=>h
 ·exact λh=>h
theorem zBp(Z:zD)(w:World):zO Z w (.slice none 0 0) []:=⟨none,0,rfl,Nat.le_refl _,by omega,by simp,trivial⟩
theorem zMf(Zf Zd:zD)(vd:Value)(f:Fm)(cs:List Value)(ds:List zC)(w:World)(hf:FmR Zf w f cs)(hzf:∀b,Zf b->b<w.heap.size)(hd:Facts Zd w vd ds)(hzd:∀b,Zd b->b<w.heap.size)
  (hsz:zJ f≤4000000)(htab:zBJ w.heap.size w):
  Calls Tryz.prog 7 #[.agg cs.toArray,.agg #[vd]] w (zEz (λ_=>False) (zBu ds f) w):=by
 have eg:=Tryz.egBuild1;have hmm:= @run_makeMap Tryz.prog;have HF:=hid hf;have HD:=hid hd;obtain⟨A,cap,rfl⟩:=FmR.form hf;obtain⟨D,dcap,rfl,-,-,-⟩:=hd.open_
 have HU:=hid (show zBu ds f=(if zR ds=false∨zBN ds f≠0 then([],1)else if 24<zBo f then([],2)else
  if(zo ds 0 (zU ⟨#[]⟩ 0 f) ⟨[],[],false⟩).2.full =true then([],2)else if 4000<(zAQ ds (zo ds 0 (zU ⟨#[]⟩ 0 f) ⟨[],[],false⟩).2.all (zo ds 0 (zU ⟨#[]⟩ 0 f) ⟨[],[],false⟩).1).length then([],2)
  else(zAQ ds (zo ds 0 (zU ⟨#[]⟩ 0 f) ⟨[],[],false⟩).2.all (zo ds 0 (zU ⟨#[]⟩ 0 f) ⟨[],[],false⟩).1,0)) from rfl)
 have hbf:=((Blk.new w 24 #[.int .i64 f.op,.string f.name,.int .i64 f.cmp,.int .i64 f.num,.slice A f.kids.length cap]).alloc (.cells #[.slice D ds.length dcap] 27)).alloc (.cells #[.slice none 0 0] 30);have hbd:=(Blk.new' (w.alloc (.cells #[.int .i64 f.op,.string f.name,.int .i64 f.cmp,.int .i64 f.num,.slice A f.kids.length cap] 24)) 27 #[.slice D ds.length dcap] (n:=w.heap.size+1) (by simp)).alloc (.cells #[.slice none 0 0] 30);have hbr:=Blk.new' ((w.alloc (.cells #[.int .i64 f.op,.string f.name,.int .i64 f.cmp,.int .i64 f.num,.slice A f.kids.length cap] 24)).alloc (.cells #[.slice D ds.length dcap] 27)) 30 #[.slice none 0 0] (n:=w.heap.size+1+1) (by simp);have hb0:=((zE w (.cells #[.int .i64 f.op,.string f.name,.int .i64 f.cmp,.int .i64 f.num,.slice A f.kids.length cap] 24)).alloc (by simp) (.cells #[.slice D ds.length dcap] 27)).alloc (by simp;omega) (.cells #[.slice none 0 0] 30);have HV:=hid (zF3 Zd (.slice D ds.length dcap) ds _ (hd.keep (.of_below hb0)));have HB:=hid (And.intro hbf (And.intro hbd (And.intro hbr hb0)));clear hbf hbd hbr hb0 hf hd;go_enter Tryz.func7,Tryz.ntmps7
 go_wp2_with fail
 refine HV.out.mono ?_;rintro e w1 ⟨rfl,hb1⟩;have hbf:=HB.out.1.below hb1 HB.out.1.lt;have hbd:=HB.out.2.1.below hb1 HB.out.2.1.lt;have hbr:=HB.out.2.2.1.below hb1 HB.out.2.2.1.lt;have hbw:=HB.out.2.2.2.trans (hb1.mono HB.out.2.2.2.size);clear hb1 HB HV;by_cases hv:zR ds=true
 ·have HVD:=hid hv;rw[hv]
  have HC:=hid (zRg (λb=>(Zf b∨Zd b)) (.slice D ds.length dcap) ds f _ w1 (FmR.mono (λb hb=>Or.inl hb) _ _ (FmR.keep (.of_below hbw) _ _ HF.out)) ((HD.out.keep (.of_below hbw)).mono λb hb=>Or.inr hb) (by omega) (λb hb=>by
   have:=hbw.size;rcases hb with hb|hb
   ·have:=hzf b hb;omega
   ·have:=hzd b hb;omega))
  have f0:=hbf.at0;have f1:=hbf.at1;have f2:=hbf.at2;have f3:=hbf.at3;have f4:=hbf.at4;have fl:=hbf.lt;have d0:=hbd.at0;have dl:=hbd.lt;have HW1:=hid (And.intro hbf (And.intro hbd (And.intro hbr hbw)));clear hv hbf hbd hbr hbw;go_wp2_with fail
  refine HC.out.mono ?_;rintro e w2 ⟨rfl,hb2⟩;have hbf:=HW1.out.1.below hb2 HW1.out.1.lt;have hbd:=HW1.out.2.1.below hb2 HW1.out.2.1.lt;have hbr:=HW1.out.2.2.1.below hb2 HW1.out.2.2.1.lt;have hbw:=HW1.out.2.2.2.trans (hb2.mono HW1.out.2.2.2.size);clear f0 f1 f2 f3 f4 fl d0 dl hb2 HW1 HC;by_cases hck:zBN ds f=0
  ·have HCK:=hid hck;(have e1:(zBN ds f !=(0:Int))=false:=by simp[hck]);have HU2:=hid (HU.out.trans (if_neg (by rintro(h|h);rw[HVD.out]at h;cases h;exact h hck)));have HTT:=hid (λ(W:World) hW hm=>zQo w2.heap.size (λb=>Zf b∧b<w.heap.size) (λh=>by have:=h.2;have:=hbw.size;omega) (zJ f) f (Nat.le_refl _) [.int .i64 f.op,.string f.name,.int .i64 f.cmp,.int .i64 f.num,.slice A f.kids.length cap] [] W hW hsz hm);have hfm2:=FmR.keep (.of_below hbw) _ _ (FmR.live _ _ HF.out);have HM2:=hid (And.intro (FmR.keep ((zA.refl _ _).alloc (.map #[] 0)) _ _ hfm2) (zu.made w2 encS));have f0:=hbf.at0;have f1:=hbf.at1;have f2:=hbf.at2;have f3:=hbf.at3;have f4:=hbf.at4;have fl:=hbf.lt;have HW2:=hid (And.intro hbf (And.intro hbd (And.intro hbr hbw)));clear hck hbf hbd hbr hbw hfm2 HU;(go_wp2_with fail);refine(HTT.out _ HM2.out.1 HM2.out.2).mono ?_;rintro e w3 ⟨rfl,hm3,hk3⟩;(have hl3:=λty=>hm3.len (P:=Tryz.prog) (t:=56) (k:=9) (e:=4) Tryz.underlying56 ty);rw[zLm]at hl3;have hwf:=HW2.out.1.lt;have hwd:=HW2.out.2.1.lt;have hwr:=HW2.out.2.2.1.lt;have hbf:=(HW2.out.1.alloc (.map #[] 0)).keep hk3 (by show w.heap.size≠_;omega);have hbd:=(HW2.out.2.1.alloc (.map #[] 0)).keep hk3 (by show w.heap.size+1≠_;omega);have hbr:=(HW2.out.2.2.1.alloc (.map #[] 0)).keep hk3 (by show w.heap.size+1+1≠_;omega);have hbw:Below w.heap.size w w3:=zA1 (HW2.out.2.2.2.alloc HW2.out.2.2.2.size _) hk3 HW2.out.2.2.2.size (by have:=HW2.out.2.2.2.size;simp;omega);clear f0 f1 f2 f3 f4 fl hm3 hk3 HW2 HM2 HTT;by_cases ht:24<zBo f
   ·have HR:=hid (HU2.out.trans (if_pos ht));(have e2:decide ((24:Int)<(zBo f:Int))=true:=by simp;omega);(have e2':decide (24<zBo f)=true:=by simp;omega);have r0:=hbr.cell 0;have rf:=hbr.frozen 0;have rl:=hbr.lt;have HW:=hid (And.intro hbr hbw);clear ht hbf hbd hbr hbw HU2;go_wp2;have r1:=(HW.out.1.set_ 0 (.slice none 0 0)).cell 0;refine bodyPost_ret (v:= .tuple #[.agg #[.slice none 0 0],.int .i64 2]) (by simp[results,Tryz.results7,go_sem,r1]) rfl ?_;rw[HR.out];exact⟨_,rfl,zBp _ _,HW.out.2.setCell (p:=⟨w.heap.size+1+1,0,none⟩) (by show w.heap.size≤w.heap.size+1+1;omega) _⟩
   ·have HU3:=hid (HU2.out.trans (if_neg ht));(have e2:decide ((24:Int)<(zBo f:Int))=false:=by simp;omega);(have e2':decide (24<zBo f)=false:=by simp;omega);have HW3:=hid (And.intro hbf (And.intro hbd (And.intro hbr hbw)));have hwf:=hbf.lt;have hwd:=hbd.lt;have hwr:=hbr.lt;clear ht hbf hbd hbr hbw HU2;go_wp2;change Code.wp Tryz.prog _ _ _ (zGS w3 (w.heap.size+1));have hsz9:=zPW w3 (w.heap.size+1);have hb9:=zIq w3 (w.heap.size+1);have hg9:=zSI (vd:= .slice D ds.length dcap) ⟨_,HW3.out.2.1⟩;generalize zGS w3 (w.heap.size+1)=W9 at*;have hbf9:=HW3.out.1.below hb9 hwf;have hbr9:=HW3.out.2.2.1.below hb9 hwr;have hw39:=HW3.out.2.2.2.size;have hbw9:=HW3.out.2.2.2.trans (hb9.mono hw39);have HG9:=hid (And.intro hg9 (And.intro hbr9 hbw9))
    have zBT:=hid (λ(W:World)(hW:zA (λb=>b=w3.heap.size+1+1+1+1+1∨b=w.heap.size) W9 W)=>(show W.cell? ⟨w3.heap.size+1+1+1+1+1,0,none⟩=some (.func (.func 29) #[] #[.pointer (some ⟨w3.heap.size+1,0,none⟩),.pointer (some ⟨w3.heap.size+1+1+1+1,0,none⟩),.pointer (some ⟨w.heap.size+1,0,none⟩),.pointer (some ⟨w3.heap.size+1+1+1,0,none⟩),.pointer (some ⟨w3.heap.size+1+1+1+1+1,0,none⟩)])∧
     W.cell? ⟨w.heap.size,0,none⟩=some (.int .i64 f.op)∧W.cell? ⟨w.heap.size,1,none⟩=some (.string f.name)∧W.cell? ⟨w.heap.size,2,none⟩=some (.int .i64 f.cmp)∧W.cell? ⟨w.heap.size,3,none⟩=some (.int .i64 f.num)∧W.cell? ⟨w.heap.size,4,none⟩=some (.slice A f.kids.length cap) from by
      have hbx:=hbf9.keep hW (Or.inr rfl)
      exact⟨(hg9.gv.keep hW (Or.inl rfl)).cell,hbx.cell 0,hbx.cell 1,hbx.cell 2,hbx.cell 3,hbx.cell 4⟩))
    clear hg9 hbf9 hbr9 hbw9 hb9 hl3;refine zAO 4 (λW=>zA (λb=>b=w3.heap.size+1+1+1+1+1∨b=w.heap.size) W9 W) (by kernel_rfl) ?_;have hS:(λW=>zA (λb=>b=w3.heap.size+1+1+1+1+1∨b=w.heap.size) W9 W) W9.drew:=(zA.refl _ _).drew
    (refine tkS 0 ?_ hS ?_ ?_;rotate_left;intro w hkw;obtain⟨h0,h1,h2,h3,h4,h5⟩:=zBT.out _ hkw;go_simp;(try with_reducible rfl);simp only[nr])
    (refine tkS 1 ?_ hS ?_ ?_;rotate_left;intro w hkw;obtain⟨h0,h1,h2,h3,h4,h5⟩:=zBT.out _ hkw;go_simp;(try with_reducible rfl);simp only[nr])
    refine wS1 2 (λK hK=> ?_);(go_wp2_with fail);have hcks:=zDX HCK.out
    have hfs:zJ f≤200:=by
     have h1:=HCK.out;unfold zBN at h1;split at h1
     ·omega
     ·rename_i hl;unfold zCD at hl;simp at hl;omega
    have hbw9:=HG9.out.2.2;(have hk9:∀Z0,zA Z0 W9 W9.drew:=λZ0=>(zA.refl _ _).drew);refine(zMY ⟨#[]⟩ 0 ds (zJ f) f (Nat.le_refl _) (by omega) (λb=>Zf b∧b<w.heap.size) _ W9.drew (FmR.keep ((zA.of_below_lt hbw9 (λb _ hb=>hb.2)).trans (hk9 _)) _ _ (FmR.live _ _ HF.out)) hcks.2).mono ?_;rintro e w10 ⟨cs',rfl,hf10,hb10⟩;have hb10':Below W9.heap.size W9 w10:=((Below.refl W9.heap.size W9).drew).trans hb10;have hs10:=hb10'.size;have hbw10:Below w.heap.size w w10:=hbw9.trans (hb10'.mono hbw9.size)
    have HIN:=hid (show zDN (GV.of w3.heap.size (w.heap.size+1)) ds (λb=>Zd b∧b<w.heap.size) D dcap w.heap.size w10 ⟨[],[],false⟩ (λb=>b=w3.heap.size) (λ_=>False) (λb=>((Zf b∧b<w.heap.size)∨W9.heap.size≤b)∧b<w10.heap.size) (zU ⟨#[]⟩ 0 f) cs' from by
     have hkk:∀b,b<w.heap.size∨W9.heap.size≤b->(GV.of w3.heap.size (w.heap.size+1)).kept (λb=>b=w3.heap.size) b:=λb hb=>⟨λe=>by subst e;omega,λe=>by unfold GV.of at e;simp only at e;omega,λe=>by unfold GV.of at e;simp only at e;omega⟩
     refine⟨HG9.out.1.below hb10',FmR.live _ _ hf10,λb hb=>⟨hkk b (by rcases hb.1 with h|h;exact Or.inl h.2;exact Or.inr h),hb.2⟩,
      (HD.out.keep (.of_below hbw10)).mono (λb hb=>⟨hb,hzd b hb⟩),λb hb=>⟨hkk b (Or.inl hb.2),by have:=hb.2;have:=hbw10.size;omega⟩,htab.on hbw10,⟨hbw10.size,λb hb=>by subst hb;exact hw39,?_,?_⟩,
      zCn f hcks.2,Nat.le_trans (zH1 f) hfs,WSt.new,by simp[inn],HVD.out⟩
     ·show w.heap.size≤w3.heap.size+1+1;omega
     ·show w.heap.size≤w3.heap.size+1+1+1+1;omega)
    have zTp:=hid (zTJ ds 0 (zU ⟨#[]⟩ 0 f) cs' w10 ⟨[],[],false⟩ (λb=>b=w3.heap.size) (λ_=>False) _ (by simp) (Nat.zero_le _) HIN.out);have hS10:zA (λb=>b=w3.heap.size+1+1+1+1+1∨b=w.heap.size) W9 w10:= .of_below hb10';have zRJ:=hid (And.intro hbw10 (HG9.out.2.1.below hb10' (by omega)));have zRK:=hid (And.intro hcks.2 (show GInv ds ⟨[],[],false⟩ from⟨Good.nil ds,λp hp=>absurd hp (by simp)⟩));refine hK _ _ (Or.inr hS10) ?_;clear hK K hb10 hf10 hb10' hbw10 hbw9 hk9 hcks hfs
    (try simp only[nr])
    refine wS1 3 (λK hK=> ?_);(go_wp2_with fail);refine zTp.out.mono ?_;intro e w11 hp11
    have hS11:zA (λb=>b=w3.heap.size+1+1+1+1+1∨b=w.heap.size) W9 w11:=hS10.trans (hp11.2.2.mono λb _ hb=>by
     rcases hb with rfl|rfl
     ·exact⟨by omega,by unfold GV.of;simp only;omega,by unfold GV.of;simp only;omega⟩
     ·exact⟨by omega,by unfold GV.of;simp only;omega,by unfold GV.of;simp only;omega⟩)
    have zVR:=hid hp11;obtain rfl:=hp11.1;refine hK _ _ (Or.inr hS11) ?_;clear hK K hp11 zTp
    (try simp only[nr])
    refine wS1 4 (λK hK=> ?_);(go_wp2_with fail);refine hK _ _ (Or.inl rfl) ?_;clear hK K
    (try simp only[nr])
    refine wSd ?_ _;(have hgs:=λh=>zGf HVD.out ds 0 (zU ⟨#[]⟩ 0 f) ⟨[],[],false⟩ (by simp) (Nat.zero_le _) (zCn f zRK.out.1) (zFT f zRK.out.1) (λn hn=>zGO _ (zCn f zRK.out.1) n hn) zRK.out.2 h);have hwl:=zTD (rest:=ds) (i:=0) (f:=zU ⟨#[]⟩ 0 f) WSt.new (N:=4000+ds.length) (by simp[inn]) (Nat.le_refl _);have hdl:=zAd HVD.out;generalize zo ds 0 (zU ⟨#[]⟩ 0 f) ⟨[],[],false⟩=r at*;have HGS:=hid hgs;obtain⟨-,⟨F',Z',hg11,hF',hZ'⟩,hk11⟩:=zVR.out;have hbr11:Blk w11 (w.heap.size+1+1) 30 #[.slice none 0 0]:=zRJ.out.2.keep hk11 ⟨by omega,by unfold GV.of;simp only;omega,by unfold GV.of;simp only;omega⟩;have hbw11:Below w.heap.size w w11:=zRJ.out.1.trans ⟨hk11.os,hk11.tape,hk11.output,hk11.size,λb hb=>hk11.block b (by have:=zRJ.out.1.size;omega) ⟨by omega,by unfold GV.of;simp only;omega,by unfold GV.of;simp only;omega⟩⟩;have v0:w11.cell? ⟨w3.heap.size+1+1+1+1,0,none⟩=some (.bool r.2.full):=hg11.fv.cell;have v0l:=hg11.fv.lt;have m0:w11.cell? ⟨w3.heap.size+1,0,none⟩=some (.pointer (some ⟨w3.heap.size,0,none⟩)):=hg11.mv.cell;have m0l:=hg11.mv.lt;unfold GV.of at v0l m0l;simp only at v0l m0l;have HMK:=hid (And.intro hg11.mkr (λb hb=>(by rcases hZ' b hb with h|h;exact h.elim;have:=zRJ.out.1.size;omega:w.heap.size+1+1<b∧w.heap.size≤b)));have zEv:=hid (And.intro hbr11 hbw11);have r0:=hbr11.cell 0;have rf:=hbr11.frozen 0;have rl:=hbr11.lt;clear hg11 hF' hZ' hk11 hbr11 hbw11 hS hS10 hS11 zVR hgs
    cases hfull:r.2.full with
    |true=>
     rw[hfull]at v0;have HR:=hid (HU3.out.trans (if_pos hfull));clear hfull HU3;have HW:=zEv;go_wp2;have r1:=(HW.out.1.set_ 0 (.slice none 0 0)).cell 0;refine bodyPost_ret (v:= .tuple #[.agg #[.slice none 0 0],.int .i64 2]) (by simp[results,Tryz.results7,go_sem,r1]) rfl ?_;rw[HR.out];exact⟨_,rfl,zBp _ _,HW.out.2.setCell (p:=⟨w.heap.size+1+1,0,none⟩) (by show w.heap.size≤w.heap.size+1+1;omega) _⟩
    |false=>
     rw[hfull]at v0;have HU4:=hid (HU3.out.trans (if_neg (by rw[hfull];simp)));obtain⟨hgi,hfor⟩:=HGS.out hfull;(have hcl:(zAQ ds r.2.all r.1).length =(zBH ds r.2.all r.1).length :=by unfold zAQ;rw[List.length_map]);have HFR:=hid (zJy ds r.2.all hgi.good (by omega) w3.heap.size F' Z' r.1 w11 hfor.rng HMK.out.1)
     have HEQ:=hid (show zBu ds f=zAg ds r.2.all r.1 from by
      rw[HU4.out];unfold zAg;rw[hcl])
     clear hfull HU3 HU4 hgi hfor hcl;(go_wp2_with fail);refine HFR.out.mono ?_;rintro e w12 ⟨v12,rfl,hn12,hb12⟩;have hbr12:=zEv.out.1.below hb12 zEv.out.1.lt;have hbw12:=zEv.out.2.trans (hb12.mono zEv.out.2.size);clear r0 rf rl v0 v0l m0 m0l;have r0:=hbr12.cell 0;have rf:=hbr12.frozen 0;have rl:=hbr12.lt
     have hlive:zO (λb=>w.heap.size≤b∧b≠w.heap.size+1+1) w12 v12 (zAg ds r.2.all r.1).1:=hn12.mono λb hb=>by
      have h11:=zEv.out.1.lt;rcases hb with hb|hb
      ·have:=HMK.out.2 b hb;omega
      ·omega
     obtain⟨A12,cap12,rfl,-⟩:=hn12;have HN:=hid (And.intro hlive (And.intro hbr12 hbw12));clear hlive hbr12 hbw12 hb12;go_wp2;have r1:=(HN.out.2.1.set_ 0 (.slice A12 (zAg ds r.2.all r.1).1.length cap12)).cell 0;refine bodyPost_ret (v:= .tuple #[.agg #[.slice A12 (zAg ds r.2.all r.1).1.length cap12],.int .i64 (zAg ds r.2.all r.1).2]) (by simp[results,Tryz.results7,go_sem,r1]) rfl ?_;rw[HEQ.out];exact⟨_,rfl,(HN.out.1.keep ((zA.refl _ _).setCell (λ_ h=>h.2 rfl) _)).mono (λb hb=>Or.inr hb.1),HN.out.2.2.setCell (p:=⟨w.heap.size+1+1,0,none⟩) (by show w.heap.size≤w.heap.size+1+1;omega) _⟩
  ·(have e1:(zBN ds f !=(0:Int))=true:=by simp[hck]);have HR:=hid (HU.out.trans (if_pos (Or.inr hck)));have r0:=hbr.cell 0;have rf:=hbr.frozen 0;have rl:=hbr.lt;have HW:=hid (And.intro hbr hbw);clear hck hbf hbd hbr hbw HU;go_wp2;have r1:=(HW.out.1.set_ 0 (.slice none 0 0)).cell 0;refine bodyPost_ret (v:= .tuple #[.agg #[.slice none 0 0],.int .i64 1]) (by simp[results,Tryz.results7,go_sem,r1]) rfl ?_;rw[HR.out];exact⟨_,rfl,zBp _ _,HW.out.2.setCell (p:=⟨w.heap.size+1+1,0,none⟩) (by show w.heap.size≤w.heap.size+1+1;omega) _⟩
 ·have hv':zR ds=false:=by simpa using hv
  have HR:=hid (HU.out.trans (if_pos (Or.inl hv')));have r0:=hbr.cell 0;have rf:=hbr.frozen 0;have rl:=hbr.lt;have HW:=hid (And.intro hbr hbw);rw[hv'];clear hv hv' hbf hbd hbr hbw HU;go_wp2;have r1:=(HW.out.1.set_ 0 (.slice none 0 0)).cell 0;refine bodyPost_ret (v:= .tuple #[.agg #[.slice none 0 0],.int .i64 1]) (by simp[results,Tryz.results7,go_sem,r1]) rfl ?_;rw[HR.out];exact⟨_,rfl,zBp _ _,HW.out.2.setCell (p:=⟨w.heap.size+1+1,0,none⟩) (by show w.heap.size≤w.heap.size+1+1;omega) _⟩
end
end Go.Proofs.YtonmdbdopchkaaaGreatDoor
