/- Texts W33 W39 CJ V12 V14. -/
import Derived.Test.YtonmdbdopchkaaaGreatDoorM33
import Derived.Test.YtonmdbdopchkaaaGreatDoorM34
import Derived.Test.YtonmdbdopchkaaaGreatDoorM32
set_option linter.all false
namespace Go.Proofs.YtonmdbdopchkaaaGreatDoor
open Go.RowKit
set_option maxHeartbeats 8000000
set_option maxRecDepth 100000
section
open Go.Shelf
theorem Tryz.egSpell:∀args w,(callFunc 31 args).run Tryz.prog w= .ok (.enter 31 args) w:=enters_of Tryz.func31 (by kernel_rfl) rfl
abbrev IsB(B b:Nat)(bs:List Value)(w:World):Prop:=Lib.IsBuilderF 69 5 B b bs w
theorem zMZ{T e:TypeId}{B b:Nat}{p:Value}{bs:List Value}{w w':World}(h:Lib.BuilderAtF T e B b p bs w)(hb:Below w.heap.size w w'):Lib.BuilderAtF T e B b p bs w':=by
 obtain⟨h1,v,h2,h3,h4⟩:=h;refine⟨h1,v,(hb.block b (lt_of_block h2)).trans h2,⟨h3.1,?_⟩,h4⟩;rcases h3.2 with h|⟨g,cap,cur,fz,e1,e2,e3,e4⟩
 ·exact Or.inl h
 ·exact Or.inr ⟨g,cap,cur,fz,e1,e2,(hb.block g (lt_of_block e3)).trans e3,e4⟩
theorem zIf{B b:Nat}{bs:List Value}{w w':World}(h:IsB B b bs w)(hb:Below w.heap.size w w'):IsB B b bs w':=h.imp (zMZ · hb) (zMZ · hb)
theorem zIg{e:TypeId}{b:Option Nat}{w w':World}(hb:Below w.heap.size w w'):Lib.OthersKept e b w w':=λk _o h _ _=>(hb.block k (lt_of_block h)).trans h
theorem zPQ(w:World)(k:Nat)(os:Array Obj):Below w.heap.size w (Sort.grow (w.drewN k) os):=below_grown w k os
theorem zGR{B:Nat}(n:Int)(w:World)(hn:I64 n)(ht:zBJ B w):Calls Tryz.prog 32 #[.int .i64 n] w λe w'=>e= .returned (.string ⟨(Lib.itoa n).toArray⟩)∧Below w.heap.size w w':=by
 refine(Tryz.strconv_Itoa n hn.1 hn.2 w ht.here).mono ?_;rintro e w' ⟨rfl,k,os,rfl⟩;exact⟨rfl,zPQ w k os⟩
def zEm(f:Fm):List UInt8:=Lib.itoa f.op++f.name.data.toList++44::(Lib.itoa f.cmp++44::(Lib.itoa f.num++[40]))
theorem zSA(f:Fm):zAi f=zEm f++(zAJ f.kids++[41]):=by
 obtain⟨op,nm,cm,nu,kids⟩:=f;unfold zAi zEm Fm.op Fm.name Fm.cmp Fm.num Fm.kids;simp
theorem zIh:∀(l:List Fm)(k:Nat)(hk:k<l.length),zAJ (l.take (k+1))=zAJ (l.take k)++zAi l[k]
 |a::r,0,_=>by simp[zAJ]
 |a::r,k+1,hk=>by
  have:=zIh r k (by simpa using hk);simp only[List.take_succ_cons,zAJ,List.getElem_cons_succ];rw[this,List.append_assoc]
theorem zKt:∀(l:List Fm)(k:Nat),(zAJ (l.take k)).length ≤(zAJ l).length
 |[],k=>by simp
 |a::r,0=>by simp[zAJ]
 |a::r,k+1=>by
  have:=zKt r k;simp only[List.take_succ_cons,zAJ,List.length_append];omega
theorem zSB(B b:Nat)(Z:zD)(hZ:∀z,Z z->z<B):∀(m:Nat)(f:Fm),zJ f≤m->∀(cs:List Value)(bs:List Value)(w:World),FmR Z w f cs->zJ f≤4000000->bs.length+(zAi f).length ≤140737488355328->zBJ B w->IsB B b bs w->B≤w.heap.size->
  Calls Tryz.prog 31 #[.pointer (some ⟨b,0,none⟩),.agg cs.toArray] w λe w'=>
   e= .returned (.tuple #[])∧IsB B b (bs++Lib.byteCells (zAi f)) w'∧Below B w w'∧Lib.OthersKept 5 (some b) w w':=by
 intro m
 induction m with
 |zero=>intro f hm;have:=zBE f;omega
 |succ m ih=>
 intro f hm cs bs w hf hlen hbl htab hB hBw;have eg:=Tryz.egSpell;have IH:=hid ih;clear ih;have HSP:=hid (zSA f);obtain⟨op,nm,cm,nu,kids⟩:=f;unfold FmR at hf;obtain⟨hop,hnm,hcm,hnu,A,cap,rfl,hcap,_,hkb,hks⟩:=hf;have HS:=hid (zt.seq hks);clear hks;have hfs:=zBM (.mk op nm cm nu kids);simp only[Fm.kids]at hfs;have hkl:kids.length≤4000000:=by have h1:=zA8 kids;omega
 have HL:=hid (And.intro hm (And.intro hlen (And.intro hfs hbl)));obtain⟨t1,ht1,hs1⟩:∃t:ByteArray,t=⟨(Lib.itoa op).toArray⟩∧t.size≤30:=⟨_,rfl,by have:=Lib.itoa_length_le op hop.1 hop.2;simp[ByteArray.size];omega⟩;obtain⟨t2,ht2,hs2⟩:∃t:ByteArray,t=⟨(Lib.itoa cm).toArray⟩∧t.size≤30:=⟨_,rfl,by have:=Lib.itoa_length_le cm hcm.1 hcm.2;simp[ByteArray.size];omega⟩;obtain⟨t3,ht3,hs3⟩:∃t:ByteArray,t=⟨(Lib.itoa nu).toArray⟩∧t.size≤30:=⟨_,rfl,by have:=Lib.itoa_length_le nu hnu.1 hnu.2;simp[ByteArray.size];omega⟩;have HI1:=hid (λW hb=>zGR op W hop (htab.on (w':=W) hb));have HI2:=hid (λW hb=>zGR cm W hcm (htab.on (w':=W) hb));have HI3:=hid (λW hb=>zGR nu W hnu (htab.on (w':=W) hb));rw[<-ht1]at HI1;rw[<-ht2]at HI2;rw[<-ht3]at HI3;have HTT:=hid (And.intro ht1 (And.intro ht2 ht3));have hcat:∀(x y:ByteArray),x.size+y.size≤9223372036854775807->∃u:ByteArray,u=x++y∧∀W,(Op.stringOp .add x y).run Tryz.prog W= .ok (.string u) W:=λx y h=>⟨_,rfl,λW=>run_string_add_sum W x y h⟩
 obtain⟨u1,hu1,e1⟩:=hcat t1 nm (by omega);obtain⟨u2,hu2,e2⟩:=hcat u1 ⟨#[44]⟩ (by rw[hu1,ByteArray.size_append];show _+1≤_;omega);obtain⟨u3,hu3,e3⟩:=hcat u2 t2 (by rw[hu2,hu1];simp only[ByteArray.size_append];show _+_+1+_≤_;omega);obtain⟨u4,hu4,e4⟩:=hcat u3 ⟨#[44]⟩ (by rw[hu3,hu2,hu1];simp only[ByteArray.size_append];show _+_+1+_+1≤_;omega);obtain⟨u5,hu5,e5⟩:=hcat u4 t3 (by rw[hu4,hu3,hu2,hu1];simp only[ByteArray.size_append];show _+_+1+_+1+_≤_;omega);obtain⟨u6,hu6,e6⟩:=hcat u5 ⟨#[40]⟩ (by rw[hu5,hu4,hu3,hu2,hu1];simp only[ByteArray.size_append];show _+_+1+_+1+_+1≤_;omega)
 have HU:=hid (show Lib.strCells u6=Lib.byteCells (zEm (.mk op nm cm nu kids)) from by
  rw[hu6,hu5,hu4,hu3,hu2,hu1,ht1,ht2,ht3];unfold Lib.strCells Lib.byteCells zEm
  simp[Fm.op,Fm.name,Fm.cmp,Fm.num])
 clear ht1 ht2 ht3 hu1 hu2 hu3 hu4 hu5 hu6 hcat;have HW:=hid (λW s h1(h2:B≤W.heap.size)(h:IsB B b bs W)=>zKY B b bs s W h h1 h2);have zEG:=hid htab;have HB:=hid hB;clear hm hlen hfs htab hB hop hcm hnu hbl;go_enter Tryz.func31,Tryz.ntmps31
 go_wp2
 have HSZ:=hid (show bs.length+u6.size≤140737488355328 from by
  have h1:=HL.out.2.2.2;have h2:=congrArg List.length HU.out;rw[Lib.strCells_length,Lib.byteCells_length]at h2;rw[HSP.out,List.length_append]at h1
  omega)
 have hbl:=HB.out.elim Lib.BuilderAtF.lt Lib.BuilderAtF.lt
 go_region_held3(λw'=>w'.cell? ⟨w.heap.size,0,none⟩=some (.int .i64 op)∧w'.cell? ⟨w.heap.size,1,none⟩=some (.string nm)∧w'.cell? ⟨w.heap.size,2,none⟩=some (.int .i64 cm)∧w'.cell? ⟨w.heap.size,3,none⟩=some (.int .i64 nu)) (first|exact⟨p0,p1,p2,p3⟩|exact⟨q0,q1,q2,q3⟩|(refine⟨?_,?_,?_,?_⟩<;>go_keep))
  (first
   |(go_at_call 32;refine(HI1.out _ ((zE w _).drew.mono hBw)).mono ?_;rintro e w1 ⟨rfl,hb1⟩;have hx1:=(Blk.new w 24 #[.int .i64 op,.string nm,.int .i64 cm,.int .i64 nu,.slice A kids.length cap]).drew.below hb1 (by simp);have hw1:=zy (zE w _).drew hb1 (by simp);have q0:w1.cell? ⟨w.heap.size,0,none⟩=some (.int .i64 op):=hx1.cell 0;have q1:w1.cell? ⟨w.heap.size,1,none⟩=some (.string nm):=hx1.cell 1;have q2:w1.cell? ⟨w.heap.size,2,none⟩=some (.int .i64 cm):=hx1.cell 2;have q3:w1.cell? ⟨w.heap.size,3,none⟩=some (.int .i64 nu):=hx1.cell 3)
   |(go_at_call 32;refine(HI2.out _ (hw1.mono hBw)).mono ?_;rintro e w2 ⟨rfl,hb2⟩;have hx2:=hx1.below hb2 hx1.lt;have hw2:=zy hw1 hb2;have q0:w2.cell? ⟨w.heap.size,0,none⟩=some (.int .i64 op):=hx2.cell 0;have q1:w2.cell? ⟨w.heap.size,1,none⟩=some (.string nm):=hx2.cell 1;have q2:w2.cell? ⟨w.heap.size,2,none⟩=some (.int .i64 cm):=hx2.cell 2;have q3:w2.cell? ⟨w.heap.size,3,none⟩=some (.int .i64 nu):=hx2.cell 3)
   |(go_at_call 32;refine(HI3.out _ (hw2.mono hBw)).mono ?_;rintro e w3 ⟨rfl,hb3⟩;have hx3:=hx2.below hb3 hx2.lt;have hw3:=zy hw2 hb3;have q0:w3.cell? ⟨w.heap.size,0,none⟩=some (.int .i64 op):=hx3.cell 0;have q1:w3.cell? ⟨w.heap.size,1,none⟩=some (.string nm):=hx3.cell 1;have q2:w3.cell? ⟨w.heap.size,2,none⟩=some (.int .i64 cm):=hx3.cell 2;have q3:w3.cell? ⟨w.heap.size,3,none⟩=some (.int .i64 nu):=hx3.cell 3)
   |(go_at_call 75;refine(HW.out _ _ HSZ.out (Nat.le_trans hBw hw3.size) (zIf HB.out hw3)).mono ?_;rintro e w4 ⟨rfl,hB4,hb4,ho4⟩;have hx4:Blk w4 w.heap.size 24 _:=ho4 w.heap.size _ hx3 (by intro e;injection e with e;omega) (by intro c fz e;injection e with _ e;exact absurd e (by decide));have p0:w4.cell? ⟨w.heap.size,0,none⟩=some (.int .i64 op):=hx4.cell 0;have p1:w4.cell? ⟨w.heap.size,1,none⟩=some (.string nm):=hx4.cell 1;have p2:w4.cell? ⟨w.heap.size,2,none⟩=some (.int .i64 cm):=hx4.cell 2;have p3:w4.cell? ⟨w.heap.size,3,none⟩=some (.int .i64 nu):=hx4.cell 3))
 rw[HU.out]at hB4;have c4:=hx4.at4;have c4l:=hx4.lt;have hbw4:Below B w w4:=(hw3.mono hBw).trans hb4;have hok4:Lib.OthersKept 5 (some b) w w4:=(zIg hw3).trans ho4;have HB4:=hid (show IsB B b (bs++Lib.byteCells (zEm (.mk op nm cm nu kids))) w4 from Or.inr hB4);have HK4:=hid (And.intro hbw4 hok4);clear hB4 hb4 ho4 hx4 hw3 hb3 hx3 hw2 hb2 hx2 hw1 hb1 hx1 p0 p1 p2 p3 q0 q1 q2 q3 hbw4 hok4 e1 e2 e3 e4 e5 e6;go_wp2;go_loopw[28] (λi wr=>∃k:Nat,k≤kids.length∧i= .int .i64 k∧IsB B b (bs++Lib.byteCells (zEm (.mk op nm cm nu kids)++zAJ (kids.take k))) wr∧Below B w wr∧Lib.OthersKept 5 (some b) w wr) (λi _=>kids.length-(intOf i).toNat);case atStart=>exact⟨0,Nat.zero_le _,rfl,by simpa[zAJ]using HB4.out,HK4.out.1,HK4.out.2⟩
 case round=>
  clear c4 c4l;obtain⟨k,hk,rfl,hO,hkp,hok⟩:=hrel;by_cases hlt:k<kids.length
  ·obtain⟨b',off,cs,rfl,hz,hcs,hfk⟩:=HS.out.at_ hlt;have hkz:zA Z w wr:=zA.of_below_lt hkp (λz _ hz=>hZ z hz);have hfk':=FmR.keep hkz _ _ hfk;have HF:=hid hfk';obtain⟨A',cap',rfl⟩:=FmR.form hfk;have hle:=zAY hlt;(have hbnd:zJ kids[k]≤4000000:=by have:=HL.out;omega);have hm2:=HL.out.1;have hfs:=HL.out.2.2.1;have htk:=zIh kids k hlt
   have hln:(bs++Lib.byteCells (zEm (.mk op nm cm nu kids)++zAJ (kids.take k))).length +(zAi kids[k]).length ≤140737488355328:=by
    have h1:=HL.out.2.2.2;have h2:=zKt kids (k+1);rw[htk]at h2;rw[HSP.out]at h1;simp only[List.length_append,Lib.byteCells_length]at h1 h2⊢;simp only[Fm.kids]at h1;omega
   clear hfk hfk';obtain⟨c0,c1,c2,c3,c4⟩:=zp (λj u hu=>hkz.cell (p:=⟨b',off+k*5+j,none⟩) hz (hcs j u hu));clear hcs;have cl:=lt_of_cell c0;have hBr:=Nat.le_trans hBw hkp.size;have zN:=hid (λo=>IH.out kids[k] (by omega) _ _ (wr.alloc o) (FmR.keep ((zA.refl Z wr).alloc o) _ _ HF.out) hbnd hln (zEG.out.on (hkp.alloc hBr o)) (hO.alloc o) (by simp;omega));have HTK:=hid (show bs++Lib.byteCells (zEm (.mk op nm cm nu kids)++zAJ (kids.take (k+1)))=bs++Lib.byteCells (zEm (.mk op nm cm nu kids)++zAJ (kids.take k))++Lib.byteCells (zAi kids[k]) from by rw[htk];simp[Lib.byteCells]);have HKP:=hid (And.intro hkp hok);have HBR:=hid hBr;clear hO hkp hok hkz hbnd hle hm2 hfs hln htk hBr;generalize kids[k]=g at*;(go_wp2_with fail);refine(zN.out _).mono ?_;rintro e w5 ⟨rfl,hO1,hk1,hok1⟩;have H9:=hid (And.intro hO1 (And.intro ((HKP.out.1.alloc HBR.out _).trans hk1) ((HKP.out.2.trans (zIg (zE wr _))).trans hok1)));clear hO1 hk1 hok1;go_wp2;go_roundw;(case rel=>exact⟨k+1,by omega,by go_num,by rw[HTK.out];exact H9.out.1,H9.out.2.1,H9.out.2.2⟩);case measure=>simp[intOf];omega
  ·(obtain rfl:k=kids.length:=by omega);rw[List.take_length]at hO
   have hln:(bs++Lib.byteCells (zEm (.mk op nm cm nu kids)++zAJ kids)).length +1≤140737488355328:=by
    have h1:=HL.out.2.2.2;rw[HSP.out]at h1;simp only[List.length_append,Lib.byteCells_length,List.length_cons,List.length_nil]at h1⊢;simp only[Fm.kids]at h1;omega
   have HWB:=hid (zNL B b _ 41 wr hO hln (Nat.le_trans hBw hkp.size));have HKP:=hid (And.intro hkp hok);clear hO hkp hok hln;(go_wp2_with fail);refine HWB.out.mono ?_;rintro e w5 ⟨rfl,hB5,hb5,ho5⟩
   have HP:=hid (show IsB B b (bs++Lib.byteCells (zAi (.mk op nm cm nu kids))) w5∧Below B w w5∧Lib.OthersKept 5 (some b) w w5 from by
    refine⟨Or.inr ?_,HKP.out.1.trans hb5,HKP.out.2.trans ho5⟩;have e:bs++Lib.byteCells (zAi (.mk op nm cm nu kids))=bs++Lib.byteCells (zEm (.mk op nm cm nu kids)++zAJ kids)++[.int .u8 41]:=by rw[HSP.out];simp[Lib.byteCells,Fm.kids]
    rw[e];exact hB5)
   clear hB5 hb5 ho5;go_wp2;go_end0;exact⟨rfl,HP.out⟩
end
def kvG(d:List (List UInt8 × Int)):List (ByteArray × Value):=d.map λp=>(⟨p.1.toArray⟩,.int .i64 p.2)
theorem bytes_inj{k l:List UInt8}(h:(⟨k.toArray⟩:ByteArray)=⟨l.toArray⟩):k=l:=by
 injection h with h;simpa using congrArg Array.toList h
theorem zPk:∀(d:List (List UInt8 × Int))(k:List UInt8),zA5 (kvG d) ⟨k.toArray⟩=(kvI d k).map (.int .i64)
 |[],_=>rfl
 |p::r,k=>by
  have ih:=zPk r k;unfold kvG at ih⊢;rw[List.map_cons,zA5,kvI];by_cases h:k=p.1
  ·rw[if_pos (by rw[h]),if_pos h];rfl
  ·rw[if_neg (λe=>h (bytes_inj e)),if_neg h,ih]
theorem zPl:∀(d:List (List UInt8 × Int))(k:List UInt8)(v:Int),zAt (kvG d) ⟨k.toArray⟩ (.int .i64 v)=kvG (zCI d k v)
 |[],_,_=>rfl
 |p::r,k,v=>by
  have ih:=zPl r k v;unfold kvG at ih⊢;rw[List.map_cons,zAt,zCI];by_cases h:k=p.1
  ·rw[if_pos (by rw[h]),if_pos h];rfl
  ·rw[if_neg (λe=>h (bytes_inj e)),if_neg h,List.map_cons,ih]
mutual
theorem zIi{ds:List zC}{nm:ByteArray}:∀f:Fm,okF ds f->∀n∈z7 nm f,0≤n∧n≤1000000
 | .mk op nm' cm nu kids,h,n,hn=>by
  have h0:=zDT h;obtain⟨_,hks,_⟩:=zEh h;rw[z7]at hn;rcases List.mem_append.1 hn with hn|hn
  ·split at hn
   ·rename_i h3;simp at hn;subst hn;have:=(zFB h0.1).2 h3.1;exact⟨this.1,this.2.1⟩
   ·simp at hn
  ·exact zHv kids hks n hn
theorem zHv{ds:List zC}{nm:ByteArray}:∀l:List Fm,zD0 ds l->∀n∈zj nm l,0≤n∧n≤1000000
 |[],_,n,hn=>by simp[zj]at hn
 |k::r,h,n,hn=>by
  rw[zCP]at h;rw[zj]at hn;rcases List.mem_append.1 hn with hn|hn
  ·exact zIi k h.1 n hn
  ·exact zHv r h.2 n hn
end
structure GV where
 Mv:Nat
 Fv:Nat
 Dv:Nat
 Nv:Nat
 Gv:Nat
 M:Nat
 db:Nat
def GV.var(c:GV)(b:Nat):Prop:=b=c.Mv∨b=c.Dv∨b=c.Nv∨b=c.Gv
def GV.fn(c:GV):Value:= .func (.func 29) #[] #[.pointer (some ⟨c.Mv,0,none⟩),.pointer (some ⟨c.Fv,0,none⟩),.pointer (some ⟨c.Dv,0,none⟩),.pointer (some ⟨c.Nv,0,none⟩),.pointer (some ⟨c.Gv,0,none⟩)]
def GV.kept(c:GV)(F:zD):zD:=λb=>¬F b∧b≠c.db∧b≠c.Fv
structure GrW (c:GV) (vd:Value) (w:World) (st:GSt) (F Z:zD):Prop where
 mv:One w c.Mv (.pointer (some ⟨c.M,0,none⟩))
 dv:One w c.Dv vd
 nv:One w c.Nv (.map (some c.db))
 gv:One w c.Gv c.fn
 fv:One w c.Fv (.bool st.full)
 mkr:MkS w c.M st.all F Z
 done:zu encS w c.db (kvG st.done)
 var:∀b,c.var b->c.kept F b
 fF:¬F c.Fv
 dF:¬F c.db
 fd:c.Fv≠c.db
 fZ:¬Z c.Fv
 dZ:¬Z c.db
section grw
variable {c:GV} {vd:Value} {w w' W:World} {st:GSt} {F Z F' Z':zD}
theorem GrW.keep(h:GrW c vd w st F Z)(hk:zA (λb=>F b∨Z b∨c.var b∨b=c.Fv∨b=c.db) w w'):GrW c vd w' st F Z:=by
 have v:∀b,c.var b->(λb=>F b∨Z b∨c.var b∨b=c.Fv∨b=c.db) b:=λb hb=>Or.inr (Or.inr (Or.inl hb))
 exact⟨h.mv.keep hk (v _ (Or.inl rfl)),h.dv.keep hk (v _ (Or.inr (Or.inl rfl))),h.nv.keep hk (v _ (Or.inr (Or.inr (Or.inl rfl)))),h.gv.keep hk (v _ (Or.inr (Or.inr (Or.inr rfl)))),
  h.fv.keep hk (Or.inr (Or.inr (Or.inr (Or.inl rfl)))),h.mkr.keep (hk.mono λb _ hb=>hb.imp id Or.inl),h.done.of_block (hk.block c.db h.done.lt (Or.inr (Or.inr (Or.inr (Or.inr rfl))))),h.var,h.fF,h.dF,h.fd,h.fZ,h.dZ⟩
theorem GrW.below(h:GrW c vd w st F Z)(hb:Below w.heap.size w w'):GrW c vd w' st F Z:=h.keep (.of_below hb)
theorem GrW.lt(h:GrW c vd w st F Z):(∀b,c.var b->b<w.heap.size)∧c.Fv<w.heap.size∧c.db<w.heap.size:=
 ⟨λb hb=>by rcases hb with rfl|rfl|rfl|rfl;exact h.mv.lt;exact h.dv.lt;exact h.nv.lt;exact h.gv.lt,h.fv.lt,h.done.lt⟩
theorem GrW.made(h:GrW c vd w st F Z)(hb:Below w.heap.size w W){all:List zB}(hm:MkS w' c.M all F' Z')(hF:∀b,F' b->F b∨W.heap.size≤b)(hZ:∀b,Z' b->Z b∨W.heap.size≤b)(hk:zA (λb=>¬F b) W w'):GrW c vd w' ⟨all,st.done,st.full⟩ F' Z':=by
 have h':=h.below hb;have hl:=h.lt;have hs:=hb.size
 refine⟨h'.mv.keep hk (h.var _ (Or.inl rfl)).1,h'.dv.keep hk (h.var _ (Or.inr (Or.inl rfl))).1,h'.nv.keep hk (h.var _ (Or.inr (Or.inr (Or.inl rfl)))).1,h'.gv.keep hk (h.var _ (Or.inr (Or.inr (Or.inr rfl)))).1,h'.fv.keep hk h.fF,hm,
  h'.done.of_block (hk.block c.db h'.done.lt h.dF),λb hb=>⟨λhf=> ?_,(h.var b hb).2⟩,λhf=> ?_,λhf=> ?_,h.fd,λhf=> ?_,λhf=> ?_⟩
 ·rcases hF b hf with hf|hf
  ·exact(h.var b hb).1 hf
  ·have:=hl.1 b hb;omega
 ·rcases hF _ hf with hf|hf
  ·exact h.fF hf
  ·omega
 ·rcases hF _ hf with hf|hf
  ·exact h.dF hf
  ·omega
 ·rcases hZ _ hf with hf|hf
  ·exact h.fZ hf
  ·omega
 ·rcases hZ _ hf with hf|hf
  ·exact h.dZ hf
  ·omega
theorem GrW.setFull(h:GrW c vd w st F Z)(b:Bool):GrW c vd (w.setCell ⟨c.Fv,0,none⟩ (.bool b)) ⟨st.all,st.done,b⟩ F Z:=by
 have hk:zA (λb=>b≠c.Fv) w (w.setCell ⟨c.Fv,0,none⟩ (.bool b)):=(zA.refl _ _).setCell (λ_ h=>h rfl) _;have v:=λb hb=>(h.var b hb).2.2
 exact⟨h.mv.keep hk (v _ (Or.inl rfl)),h.dv.keep hk (v _ (Or.inr (Or.inl rfl))),h.nv.keep hk (v _ (Or.inr (Or.inr (Or.inl rfl)))),h.gv.keep hk (v _ (Or.inr (Or.inr (Or.inr rfl)))),
  h.fv.set_ _,h.mkr.keep (hk.mono λb _ hb e=>by subst e;rcases hb with hb|hb;exact h.fF hb;exact h.fZ hb),h.done.of_block (hk.block c.db h.done.lt h.fd.symm),h.var,h.fF,h.dF,h.fd,h.fZ,h.dZ⟩
theorem GrW.setDone(h:GrW c vd w st F Z){d:List (List UInt8 × Int)}(hm:zu encS w' c.db (kvG d))(hk:zA (λb=>b≠c.db) w w'):GrW c vd w' ⟨st.all,d,st.full⟩ F Z:=by
 have v:=λb hb=>(h.var b hb).2.1
 exact⟨h.mv.keep hk (v _ (Or.inl rfl)),h.dv.keep hk (v _ (Or.inr (Or.inl rfl))),h.nv.keep hk (v _ (Or.inr (Or.inr (Or.inl rfl)))),h.gv.keep hk (v _ (Or.inr (Or.inr (Or.inr rfl)))),
  h.fv.keep hk h.fd,h.mkr.keep (hk.mono λb _ hb e=>by subst e;rcases hb with hb|hb;exact h.dF hb;exact h.dZ hb),hm,h.var,h.fF,h.dF,h.fd,h.fZ,h.dZ⟩
end grw
def zEn(c:GV)(vd:Value)(w:World)(F Z:zD)(r:Int × GSt)(e:Ending)(w':World):Prop:=
 e= .returned (.int .i64 r.1)∧(∃F' Z',GrW c vd w' r.2 F' Z'∧(∀b,F' b->F b∨w.heap.size≤b)∧(∀b,Z' b->Z b∨w.heap.size≤b))∧zA (c.kept F) w w'
structure zDN (c:GV) (ds:List zC) (Zd:zD) (D:Option Addr) (dcap B0:Nat) (w:World) (st:GSt) (F Z Zf:zD) (f:Fm) (cs:List Value):Prop where
 mem:GrW c (.slice D ds.length dcap) w st F Z
 fm:FmR Zf w f cs
 offF:∀b,Zf b->c.kept F b∧b<w.heap.size
 d:Facts Zd w (.slice D ds.length dcap) ds
 offD:∀b,Zd b->c.kept F b∧b<w.heap.size
 tab:zBJ B0 w
 base:B0≤w.heap.size∧(∀b,F b->B0≤b)∧B0≤c.db∧B0≤c.Fv
 ok:okF ds f
 size:zJ f≤200
 wst:WSt st
 len:inn st.all≤4000+ds.length
 dom:zR ds=true
theorem zAd{ds:List zC}(h:zR ds=true):ds.length≤60:=by
 unfold zR at h;simp only[Bool.and_eq_true,decide_eq_true_eq]at h;exact h.2
theorem zDN.all_len{c:GV}{ds:List zC}{Zd:zD}{D:Option Addr}{dcap B0:Nat}{w:World}{st:GSt}{F Z Zf:zD}{f:Fm}{cs:List Value}(h:zDN c ds Zd D dcap B0 w st F Z Zf f cs):st.all.length≤4062:=by
 have h1:=h.wst.tab.len;have h2:=h.len;have h3:=zAd h.dom;omega
theorem zSC{c:GV}{vd:Value}{w W w':World}{st:GSt}{F Z:zD}{b:Bool}{e:Ending}(h:GrW c vd w st F Z)(hb:Below w.heap.size w W)(hp:zCC W c.M F (λb=>Z b∨False) (zW st.all ⟨b,0,[],[]⟩) e w'):
  zEn c vd w F Z (zBW b st.full st) e w':=by
 obtain⟨he,⟨F',h1,h2⟩,h3⟩:=hp;have hs:=hb.size;refine⟨he,⟨F',_,h.made hb h1 h2 (λb hb=>hb.imp id λh=>h.elim) h3,λb hb=>(h2 b hb).imp id λh=>by omega,λb hb=>hb.imp id λh=>h.elim⟩,(zA.of_below hb).trans (h3.mono λb _ hb=>hb.1)⟩
theorem zLj(w:World)(F:zD)(b:Bool):zR2 w F (λ_=>False) ⟨b,0,[],[]⟩ [.bool b,.int .i64 0,.slice none 0 0,.slice none 0 0]:=
 ⟨⟨_,_,rfl,by show I64 0;constructor<;>omega,zL.nil _ _,zL.nil _ _⟩,λb h=>h.elim,by simp,by simp⟩
section
variable {ds:List zC} {a b:List zB}
end
theorem zHP(s:ByteArray)(l:List UInt8):(s.toList==l)=decide (s=⟨l.toArray⟩):=by
 rw[<-zAq,ByteArray.toList_eq ⟨l.toArray⟩]
theorem zQp(s:ByteArray)(w:World):Calls Tryz.prog 133 #[.string s] w λe w'=>e= .returned (.bool (zJz s))∧w=w':=by
 go_enter Tryz.func133,Tryz.ntmps133
 repeat' (first|(go_big_may;fail)|((with_reducible apply zCN);rfl;first|((with_reducible apply zCM);rfl;rfl;rfl;exact zBZ.app;intro bb hbb;(simp only[nr]))|((with_reducible apply zBx);rfl;rfl;rfl;exact zBZ.app;intro bb hbb;(simp only[nr]))|((with_reducible apply zB8);rfl;rfl;rfl;simp only[])|((with_reducible apply zBj);rfl;rfl;(first|exact Or.inl rfl|exact Or.inr rfl);(simp only[nr]))|((with_reducible apply zB7);rfl;rfl;rfl;rfl;exact(by constructor);rfl;(simp only[nr]))|((with_reducible apply zB0);rfl;rfl;rfl;rfl;exact(by constructor);rfl;(simp only[nr]))|((with_reducible apply zBS);rfl;first|((with_reducible apply zAs);rfl;rfl;rfl;exact(by constructor);rfl;rfl;rfl;rfl;(simp only[nr]))|((with_reducible apply zBG);rfl;rfl;rfl;exact(by constructor);rfl;rfl;rfl;rfl;(simp only[nr])))|((with_reducible apply zAb);rfl;rfl;rfl;exact(by constructor);(intro hG;(try simp only[Bool.and_eq_true,Bool.not_eq_true']at hG);(first|subst hG|(obtain⟨h1,h2⟩:=hG;subst h1;subst h2)|(obtain⟨⟨h1,h2⟩,h3⟩:=hG;subst h1;subst h2;subst h3));(try simp only[zA2,zAM,Bool.not_true,Bool.not_false,Bool.true_and,Bool.false_and,Bool.and_self]);go_simp;with_reducible rfl);(simp only[nr]))|((with_reducible apply zB5);rfl;rfl;rfl;all_goals(intro hb;subst hb;(try simp only[zA2,zAM,Bool.not_true,Bool.not_false,Bool.true_and,Bool.false_and,Bool.and_self])))|((with_reducible apply zBR);rfl;rfl;rfl;all_goals(intro hb;(first|subst hb|((try simp only[Bool.and_eq_true,Bool.not_eq_true']at hb);obtain⟨h1,h2⟩:=hb;subst h1;subst h2));(try simp only[zA2,zAM,Bool.not_true,Bool.not_false,Bool.true_and,Bool.false_and,Bool.and_self]))))|((with_reducible apply zB6);rfl;rfl;first|((with_reducible apply zB3);rfl;rfl;rfl;rfl;(simp only[nr]))|((with_reducible apply zB4);rfl;rfl;rfl;rfl;(simp only[nr]))|((with_reducible apply zBF);rfl;rfl;rfl;rfl;rfl;(simp only[nr]))|((with_reducible apply zBQ);rfl;rfl;rfl;rfl;rfl;(simp only[nr])))|go_values|go_guarded|go_step|go_upon|go_back|dsimp only)
 go_ret;refine⟨zI ?_,rfl⟩;simp only[Hid]at*
 subst_vars
 rw[zHP,zHP,zHP,zHP,zHP,Bool.eq_iff_iff];unfold zJz;rw[Lib.containsS_iff];simp[zGc,or_assoc]
theorem Tryz.egRSize:∀args w,(callFunc 110 args).run Tryz.prog w= .ok (.enter 110 args) w:=enters_of Tryz.func110 (by kernel_rfl) rfl
theorem zJd:∀(l:List Fm)(k:Nat)(hk:k<l.length),zz (l.take (k+1))=max (zz (l.take k)) (zAx l[k])
 |a::r,0,_=>by simp[zz]
 |a::r,k+1,hk=>by
  have:=zJd r k (by simpa using hk);simp only[List.take_succ_cons,zz,List.getElem_cons_succ];rw[this];omega
mutual
theorem zH8:∀f:Fm,zAx f≤zJ f
 | .mk op n cm nu kids=>by
  have:=zEo kids;rw[zAx,zJ];omega
theorem zEo:∀l:List Fm,zz l≤zX l
 |[]=>by simp[zz,zX]
 |k::r=>by
  have h1:=zH8 k;have h2:=zEo r;rw[zz,zX];omega
end
theorem zNS:∀(m:Nat)(f:Fm),zJ f≤m->m≤4000000->∀(Z:zD)(cs:List Value)(w:World),FmR Z w f cs->
  Calls Tryz.prog 110 #[.agg cs.toArray] w λe w'=>e= .returned (.tuple #[.int .i64 (zJ f:Nat),.int .i64 (zAx f:Nat)])∧Below w.heap.size w w':=by
 intro m
 induction m with
 |zero=>intro f hm;have:=zBE f;omega
 |succ m ih=>
 intro f hm hmm Z cs w hf;have eg:=Tryz.egRSize;have IH:=hid ih;clear ih;have hfs:=zBM f;have HU:=hid (And.intro hfs (zIN f));obtain⟨A,cap,rfl⟩:=FmR.form hf;have hks:zAT (λcs f=>FmR Z w f cs) 5 Z w f.kids A:=by cases f;unfold FmR at hf;obtain⟨_,_,_,_,A',cap',e,_,_,_,h⟩:=hf;injection e with _ e;injection e with _ e;injection e with _ e;injection e with _ e;injection e with e;injection e with e;subst e;exact zt.seq h
 have hkl:f.kids.length≤4000000:=by have:=zA8 f.kids;omega
 have HS:=hid hks;have HM:=hid (And.intro hm (And.intro hmm hfs));have HB0:=hid (zE w (.cells #[.int .i64 f.op,.string f.name,.int .i64 f.cmp,.int .i64 f.num,.slice A f.kids.length cap] 24));have HX0:=hid (Blk.new w 24 #[.int .i64 f.op,.string f.name,.int .i64 f.cmp,.int .i64 f.num,.slice A f.kids.length cap]);clear hf hks hm hmm hfs;go_enter Tryz.func110,Tryz.ntmps110
 go_wp2;go_loopw[4,5,6] (λnv dv ix wr=>∃(k a b:Nat),k≤f.kids.length∧ix= .int .i64 k∧nv= .int .i64 (a:Int)∧dv= .int .i64 (b:Int)∧Hid (a=1+zX (f.kids.take k)∧b=zz (f.kids.take k))∧Blk wr w.heap.size 24 #[.int .i64 f.op,.string f.name,.int .i64 f.cmp,.int .i64 f.num,.slice A f.kids.length cap]∧Below w.heap.size w wr) (λ_ _ ix _=>f.kids.length-(intOf ix).toNat);case atStart=>exact⟨0,1,0,Nat.zero_le _,rfl,rfl,rfl,hid (by simp[zX,zz]),HX0.out,HB0.out⟩
 case round=>
  obtain⟨k,a,b,hk,rfl,rfl,rfl,hab,hbx,hbel⟩:=hrel;have b4:=hbx.at4;have bl:=hbx.lt;have HB:=hid (And.intro hbx hbel);by_cases hlt:k<f.kids.length
  ·obtain⟨gb,goff,gcs,rfl,hz,hgcs,hfk⟩:=HS.out.at_ hlt;have hkz:zA Z w wr:= .of_below hbel;have hfk':=FmR.keep hkz _ _ hfk;obtain⟨A',cap',rfl⟩:=FmR.form hfk;have hle:=zAY hlt;obtain⟨c0,c1,c2,c3,c4⟩:=zp (λj u hu=>hkz.cell (p:=⟨gb,goff+k*5+j,none⟩) hz (hgcs j u hu));have gl:=lt_of_cell c0;have hts:=zAL hlt;have htl:=zAU f.kids (k+1);have hdt:=zJd f.kids k hlt;have hds:=zH8 f.kids[k];have hdl:=zEo (f.kids.take k);have zN:=hid (IH.out f.kids[k] (by have:=HM.out;omega) (by have:=HM.out;omega) Z _ wr hfk');(have hN:a+zJ f.kids[k]=1+zX (f.kids.take (k+1))∧max b (zAx f.kids[k])=zz (f.kids.take (k+1)):=by have:=hab.out;omega);(have hbnd:a≤4000001∧zJ f.kids[k]≤4000000∧b≤4000000∧zAx f.kids[k]≤4000000:=by have:=hab.out;have:=HM.out;omega);have HN:=hid hN;(have hk1:((k:Nat):Int)<(f.kids.length:Int):=by omega);(have hk0:(0:Int)≤((k:Nat):Int):=by omega);clear hgcs hfk hfk' hkz hle hts htl hdt hds hdl hab hN hbx hbel;generalize f.kids[k]=g at*;generalize zJ g=sg at*;generalize zAx g=dg at*;(have hmax:max (b:Int) (dg:Int)=((max b dg:Nat):Int):=by omega);(go_wp2_with fail);refine zN.out.mono ?_;rintro e w1 ⟨rfl,hb1⟩;have HN1:=hid (And.intro (HB.out.1.below hb1 bl) (HB.out.2.trans (hb1.mono HB.out.2.size)));clear hb1;go_wp2;go_roundw;(case rel=>exact⟨k+1,a+sg,max b dg,by omega,by go_num,by go_num,by first|rfl|(rw[hmax])|(simp only[Value.int.injEq,true_and];omega),HN,HN1.out⟩);case measure=>simp[intOf];omega
  ·(obtain rfl:k=f.kids.length:=by omega);have hN:=hab.out;rw[List.take_length]at hN;have hfe:=HU.out;have HE:=hid (show zJ f=a∧zAx f=b+1 from by omega);(have hbd:a≤4000001∧b≤4000001:=by have:=HM.out;have:=zEo f.kids;omega);clear hab hN hfe hbx hbel;go_wp2;refine bodyPost_ret (v:= .tuple #[.int .i64 (a:Int),.int .i64 ((b:Int)+1)]) (by simp[results,Tryz.results110,go_sem]) rfl ⟨?_,HB.out.2⟩;rw[HE.out.1,HE.out.2];rfl
theorem zLk(f:Fm)(Z:zD)(cs:List Value)(w:World)(hf:FmR Z w f cs)(hs:zJ f≤4000000):
  Calls Tryz.prog 87 #[.agg cs.toArray] w λe w'=>e= .returned (.bool (zCD f))∧Below w.heap.size w w':=by
 have HZ:=hid (λW(hW:Below w.heap.size w W)=>zNS 4000000 f hs (Nat.le_refl _) Z _ W (FmR.keep (.of_below hW) _ _ hf));obtain⟨A,cap,rfl⟩:=FmR.form hf;have HL:=hid (show zCD f=(decide (200<zJ f)||decide (20<zAx f)) from rfl);have hd:=zH8 f;clear hf;generalize zJ f=a at*;generalize zAx f=b at*;have HB0:=hid (zE w (.cells #[.int .i64 f.op,.string f.name,.int .i64 f.cmp,.int .i64 f.num,.slice A f.kids.length cap] 24));by_cases h1:200<a
 ·have e1:decide ((200:Int)<(a:Int))=true:=decide_eq_true (by omega);have HE:=hid (show zCD f=true from by rw[HL.out,decide_eq_true h1];rfl);clear h1 HL;go_enter Tryz.func87,Tryz.ntmps87
  go_wp2_with fail
  refine(HZ.out _ HB0.out).mono ?_;rintro e w1 ⟨rfl,hb1⟩;have hbw:=HB0.out.trans (hb1.mono HB0.out.size);go_wp2;go_ret;exact⟨zI HE.out.symm,hbw⟩
 ·have e1:decide ((200:Int)<(a:Int))=false:=decide_eq_false (by omega)
  have HE:=hid (show zCD f=decide ((20:Int)<(b:Int)) from by
   rw[HL.out,decide_eq_false h1,Bool.false_or,Bool.eq_iff_iff];simp only[decide_eq_true_eq]
   omega)
  clear h1 HL;go_enter Tryz.func87,Tryz.ntmps87
  go_wp2_with fail
  refine(HZ.out _ HB0.out).mono ?_;rintro e w1 ⟨rfl,hb1⟩;have hbw:=HB0.out.trans (hb1.mono HB0.out.size);by_cases h2:20<b
  ·have e2:decide ((20:Int)<(b:Int))=true:=decide_eq_true (by omega);rw[e2]at HE;clear h2;go_wp2;go_ret;exact⟨zI HE.out.symm,hbw⟩
  ·have e2:decide ((20:Int)<(b:Int))=false:=decide_eq_false (by omega);rw[e2]at HE;clear h2;go_wp2;go_ret;exact⟨zI HE.out.symm,hbw⟩
end Go.Proofs.YtonmdbdopchkaaaGreatDoor
