/- Texts QP QQ TK. -/
import Derived.Test.YthpocbeoanipbaaGreatDoorM20
import Derived.Test.YthpocbeoanipbaaGreatDoorM10
import Derived.DeepKeys
set_option linter.all false
namespace Go.Proofs.YthpocbeoanipbaaGreatDoor
open Go.RowKit Go.Proofs.Tryz
set_option maxHeartbeats 4000000
set_option maxRecDepth 100000
variable{cs:List Value}{l:List zI}{t:zY}{x:zI}{α:Type}
theorem zG6(g:FuncId)(H:Array Value)(P:∀args w,(callFunc g args).run prog w= .ok (.enter g args) w)(R:List Value->α->Prop)(Z:zE)(xs:List α)(p:Nat->Bool)(A:Option Addr)(v:Nat)(w:World)
  (M:∀cs x,R cs x->∃v0 v1 v2 v3 v4 D E,cs=[v0,v1,v2,v3,v4,D,E])(G:zm R 7 Z w xs A)(T:xs.length<=140737488355328)(F:zIf prog g H R w xs p):
  Calls prog 27 #[.slice A xs.length v,.func (.func g) #[] H] w λe w'=>e= .returned (.int .i64 (firstIdx p xs.length 0))/\Bw w w':=by
 have J:=hid F;clear F;go_enter func27,ntmps27
 go_wp2;go_loopw[8] (λi wr=>∃k:Nat,k<=xs.length/\i= .int .i64 k/\Bw w wr/\Hid (∀j,0<=j->j<k->p j=false)) (λi _=>xs.length-(intOf i).toNat);case atStart=>exact⟨0,Nat.zero_le _,rfl,Below.refl _ _,λj _ h=>absurd h (Nat.not_lt_zero j)⟩
 case round=>
  obtain⟨k,Q,rfl,a,n⟩:=hrel;by_cases t:k<xs.length
  ·obtain⟨b,d,cs,rfl,U,B,C⟩:=G.at_ t;have K:=hid C;obtain⟨v0,v1,v2,v3,v4,D,E,rfl⟩:=M _ _ C;have z:b<w.heap.size:=lt_of_cell (B 0 _ rfl);have c:=zBV a z B;have N:wr.cell? ⟨b,d+k*7,none⟩=some v0:=c 0 _ rfl;have c1:wr.cell? ⟨b,d+k*7+1,none⟩=some v1:=c 1 _ rfl;have c2:wr.cell? ⟨b,d+k*7+2,none⟩=some v2:=c 2 _ rfl;have c3:wr.cell? ⟨b,d+k*7+3,none⟩=some v3:=c 3 _ rfl;have c4:wr.cell? ⟨b,d+k*7+4,none⟩=some v4:=c 4 _ rfl;have c5:wr.cell? ⟨b,d+k*7+5,none⟩=some D:=c 5 _ rfl;have O:wr.cell? ⟨b,d+k*7+6,none⟩=some E:=c 6 _ rfl;clear B G C c;have I:=hid (J.out k t _ K.out _ a);have f:=hid a;clear a;cases o:p k
   all_goals
    have q:=hid o;have m:=I.out;rw[o]at m;clear o;have u:=hid m;clear m;(go_wp2_with fail);refine u.out.mono ?_;rintro e V ⟨rfl,s⟩;go_wp2
   ·go_roundw
    case rel=>exact⟨k+1,by omega,by go_num,(zD f.out s),λj y L=>by
     by_cases e:j=k
     ·subst e;exact q.out
     ·exact n.out j y (by omega)⟩
    case measure=>simp[intOf];omega
   ·go_ret;exact⟨zAp (zBx n.out (Nat.zero_le _) (by omega) q.out).symm,zD f.out s⟩
  ·(obtain rfl:k=xs.length:=by omega);go_wp2;go_ret;exact⟨zAp (zCb (λj y L=>n.out j y (by omega))).symm,a⟩
theorem zIo(g:FuncId)(c:Array Value)(i:∀args w,(callFunc g args).run prog w= .ok (.enter g args) w)(R:List Value->α->Prop)(Z:zE)(xs:List α)(p:Nat->Bool)(A:Option Addr)(a:Nat)(w:World)
  (j:∀cs x,R cs x->∃v0 v1 v2 v3 v4 m n,cs=[v0,v1,v2,v3,v4,m,n])(f:zm R 7 Z w xs A)(k:xs.length<=140737488355328)(d:zIf prog g c R w xs p):
  Calls prog 33 #[.slice A xs.length a,.func (.func g) #[] c] w λe w'=>e= .returned (.bool (decide (0<=firstIdx p xs.length 0)))/\Bw w w':=by
 have h:=hid (zG6 g c i R Z xs p A a w j f k d);clear d f;go_enter func33,ntmps33
 go_wp2_with fail
 refine h.out.mono ?_;rintro e o ⟨rfl,b⟩;go_wp2;go_ret;exact⟨rfl,b⟩
theorem zMN(s:ByteArray)(w:World)(F:s.size<=140737488355328):
  Calls prog 30 #[.string s] w λe w'=>e= .returned (.bool (zCf s))/\Bw w w':=by
 have y:=hid (zEs s w F);have o:=hid (@zNO s);have z:=hid (λt e=> @zLk s t e);go_enter func30,ntmps30
 go_wp2_with fail
 refine y.out.mono ?_;unfold zFg;rintro e M ⟨v,rfl,c,i⟩;obtain⟨g,n,C⟩:∃x,x=zJ s:=⟨_,rfl⟩;generalize k:zJ s=L at*;obtain⟨g,n,C⟩:=L;dsimp only at*;obtain⟨A,B,rfl,q,G,a⟩:=Row.of_own c (by decide);by_cases m:n=0
 ·subst m;by_cases h:g.length=1
  ·obtain⟨t,rfl⟩:∃t,g=[t]:=by
    cases g with
    |nil=>simp at h
    |cons t r=>cases r with
     |nil=>exact⟨t,rfl⟩
     |cons _ _=>simp at h
   have d:=hid (z.out _ _ rfl);obtain⟨b,I,rfl,K,f⟩:=a (by simp[Tok.cells]);obtain⟨J,c1,c2,c3⟩:=zEN (λj u H=>f j u (by simpa[Tok.cells]using H));clear f k a c;simp only[List.length_cons,List.length_nil,Nat.zero_add]at*;go_wp2;all_goals(go_ret;exact⟨zAb (by rw[d.out];first|(simp_all;done)|(rw[zAh];simp_all)),i⟩)
  ·have d:=hid (o.out (.inr h));(have D:((g.length:Int)==1)=false:=by simp;omega);clear h k;go_wp2;go_ret;exact⟨zAb (by rw[d.out]),i⟩
 ·have d:=hid (o.out (.inl m));have E:(n==0)=false:=by simp[m]
  clear k;go_wp2;go_ret;exact⟨zAb (by rw[d.out]),i⟩
def zA4(Z:zE)(w:World)(cs:List Value)(x:zI):Prop:=∃fc,FmR Z w x.when_ fc/\cs=fc++[.string x.cls,.bool x.ctl]/\x.cls.size<=140737488355328
structure zBS (Z:zE) (w:World) (v:Value) (l:List zI):Prop where
 is:∃A cap,v= .slice A l.length cap/\l.length<=cap/\cap<=9223372036854775807/\l.length*64<=140737488355328/\zm (zA4 Z w) 7 Z w l A
structure zAA (Z:zE) (w:World) (vd vl:Value) (t:zY):Prop where
 d:Facts Z w vd t.dom
 l:zBS Z w vl t.lines
section keep
variable {Z Z':zE} {w w':World} {v vd vl:Value}
theorem zA4.keep(h:zA4 Z w cs x)(e:zA Z w w'):zA4 Z w' cs x:=by
 obtain⟨a,b,c,d⟩:=h;exact⟨a,FmR.keep e _ _ b,c,d⟩
theorem zA4.mono(h:zA4 Z w cs x)(f:∀b,Z b->Z' b):zA4 Z' w cs x:=by
 obtain⟨a,c,d,e⟩:=h;exact⟨a,FmR.mono f _ _ c,d,e⟩
theorem zBS.keep(h:zBS Z w v l)(b:zA Z w w'):zBS Z w' v l:=by
 obtain⟨⟨A,a,e,c,d,f,g⟩⟩:=h;exact⟨⟨A,a,e,c,d,f,g.imp (λ_ _ h=>h.keep b) b (λ_ h=>h)⟩⟩
theorem zBS.mono(h:zBS Z w v l)(c:∀b,Z b->Z' b):zBS Z' w v l:=by
 obtain⟨⟨A,a,e,d,f,g,i⟩⟩:=h;exact⟨⟨A,a,e,d,f,g,i.imp (λ_ _ h=>h.mono c) (zA.refl Z w) c⟩⟩
theorem zAA.keep(h:zAA Z w vd vl t)(a:zA Z w w'):zAA Z w' vd vl t:=⟨h.d.keep a,h.l.keep a⟩
theorem zAA.mono(h:zAA Z w vd vl t)(a:∀b,Z b->Z' b):zAA Z' w vd vl t:=⟨h.d.mono a,h.l.mono a⟩
theorem zA4.form(h:zA4 Z w cs x):∃A a,cs=[.int .i64 x.when_.op,.string x.when_.name,.int .i64 x.when_.cmp,.int .i64 x.when_.num,.slice A x.when_.kids.length a,.string x.cls,.bool x.ctl]/\
  FmR Z w x.when_ [.int .i64 x.when_.op,.string x.when_.name,.int .i64 x.when_.cmp,.int .i64 x.when_.num,.slice A x.when_.kids.length a]:=by
 obtain⟨d,b,c,e⟩:=h;obtain⟨A,a,rfl⟩:=FmR.form b;exact⟨A,a,c,b⟩
end keep
def zY.fine(t:zY):Prop:=∀x∈t.lines,zG x.when_<=4000000000000000000
theorem zPt(Z:zE)(B:Nat)(vd vl:Value)(ds:List zC)(x:zI)(cs:List Value)(w:World)(J:zA4 Z w cs x)(I:Facts Z w vd ds)(C:zG x.when_<=4000000000000000000)(K:∀b,Z b->b<w.heap.size)(D:Blk w B 27 #[vd,vl]):
  Calls prog 29 #[.agg cs.toArray,.pointer (some ⟨B,0,none⟩)] w λe w'=>e= .returned (.bool (!zFQ ds x))/\Bw w w':=by
 have n:x.cls.size<=140737488355328:=by obtain⟨_,_,_,h⟩:=J;exact h
 obtain⟨A,f,rfl,z⟩:=J.form;have E:=hid (λW=>zMN x.cls W n);have H:=hid (λW(F:Bw w W)=>zH4 Z vd ds x.when_ _ W (FmR.keep (zA.of_below F) _ _ z) (I.keep (zA.of_below F)) C (λb Y=>Nat.lt_of_lt_of_le (K b Y) F.size));unfold zFQ;generalize zCf x.cls=L at*;generalize zA5 ds x.when_=O at*;have N:=D.at0;have M:=D.lt;have m:=Blk.new w 42 #[.int .i64 x.when_.op,.string x.when_.name,.int .i64 x.when_.cmp,.int .i64 x.when_.num,.slice A x.when_.kids.length f,.string x.cls,.bool x.ctl];have d:=zF w (.cells #[.int .i64 x.when_.op,.string x.when_.name,.int .i64 x.when_.cmp,.int .i64 x.when_.num,.slice A x.when_.kids.length f,.string x.cls,.bool x.ctl] 42);have c:=D.alloc (.cells #[.int .i64 x.when_.op,.string x.when_.name,.int .i64 x.when_.cmp,.int .i64 x.when_.num,.slice A x.when_.kids.length f,.string x.cls,.bool x.ctl] 42);obtain⟨R,q⟩:∃y,y=x.when_.op:=⟨_,rfl⟩;obtain⟨T,s⟩:∃y,y=x.when_.name:=⟨_,rfl⟩;obtain⟨U,t⟩:∃y,y=x.when_.cmp:=⟨_,rfl⟩;obtain⟨V,u⟩:∃y,y=x.when_.num:=⟨_,rfl⟩;obtain⟨X,v⟩:∃y,y=Value.slice A x.when_.kids.length f:=⟨_,rfl⟩;obtain⟨P,i⟩:∃y,y=x.cls:=⟨_,rfl⟩;obtain⟨Q,o⟩:∃y,y=x.ctl:=⟨_,rfl⟩;rw[<-q,<-s,<-t,<-u,<-v]at H m d c⊢;rw[<-i]at E m d c⊢;rw[<-o]at m d c⊢;clear q s t u v i o z I C K n D;go_enter func29,ntmps29
 go_wp2_with fail
 generalize w.alloc (.cells #[.int .i64 R,.string T,.int .i64 U,.int .i64 V,X,.string P,.bool Q] 42)=w0 at*;refine(E.out _).mono ?_;rintro e w1 ⟨rfl,g⟩;have k:=zD d g;cases L
 ·go_wp2_with fail
  go_ret;exact⟨rfl,k⟩
 ·have a:=m.below g m.lt;have j:=c.below g c.lt;have x0:=a.at0;have x1:=a.at1;have x2:=a.at2;have x3:=a.at3;have x4:=a.at4;have y0:=j.at0;have yl:=j.lt;have xl:=a.lt;clear g m a j N c M d E;go_wp2_with fail
  refine(H.out _ k).mono ?_;rintro e w2 ⟨rfl,G⟩;go_wp2_with fail
  go_ret;refine⟨?_,zD k G⟩;show Ending.returned (.bool (O !=0))=_;congr 2
def qAt{α:Type}(xs:List α)(q:α->Bool)(i:Nat):Bool:=match xs[i]? with|some x=>q x|none=>false
theorem zIJ{xs:List α}{q:α->Bool}{i:Nat}(hi:i<xs.length):qAt xs q i=q xs[i]:=by unfold qAt;rw[List.getElem?_eq_getElem hi]
theorem zJM(xs:List α)(q:α->Bool):firstIdx (qAt xs q) xs.length 0=if xs.findIdx q<xs.length then((xs.findIdx q:Nat):Int)else-1:=by
 by_cases h:xs.findIdx q<xs.length
 ·rw[if_pos h];refine zBx (λj _ a=> ?_) (Nat.zero_le _) (by omega) ?_
  ·rw[zIJ (by omega)];have:=List.not_of_lt_findIdx a;simpa using this
  ·rw[zIJ h];exact List.findIdx_getElem (w:=h)
 ·rw[if_neg h];refine zCb λj _ a=> ?_
  rw[zIJ (by omega)]
  cases b:q xs[j]with
  |false=>rfl
  |true=>exact absurd (List.findIdx_lt_length.2 ⟨_,List.getElem_mem _,b⟩) h
theorem zPF(xs:List α)(q:α->Bool):decide ((0:Int)<=firstIdx (qAt xs q) xs.length 0)=xs.any q:=by
 rw[zJM];by_cases h:xs.findIdx q<xs.length
 ·rw[if_pos h];obtain⟨x,b,a⟩:=List.findIdx_lt_length.1 h;rw[List.any_eq_true.2 ⟨x,b,a⟩];exact decide_eq_true (Int.natCast_nonneg _)
 ·rw[if_neg h]
  have:xs.any q=false:=by
   rw[List.any_eq_false];intro x b a;exact h (List.findIdx_lt_length.2 ⟨x,b,a⟩)
  rw[this];rfl
theorem Tryz.egTV1:∀args w,(callFunc 29 args).run prog w= .ok (.enter 29 args) w:=enters_of func29 (by kernel_rfl) rfl
theorem zA4.seven{Z:zE}{w:World}(cs:List Value)(x:zI)(h:zA4 Z w cs x):∃v0 v1 v2 v3 v4 b c,cs=[v0,v1,v2,v3,v4,b,c]:=by
 obtain⟨A,a,e,_⟩:=h.form;exact⟨_,_,_,_,_,_,_,e⟩
theorem zBX(Z:zE)(vd O:Value)(t:zY)(w:World)(h:zAA Z w vd O t)(N:∀b,Z b->b<w.heap.size)(J:t.fine):
  Calls prog 12 #[.agg #[vd,O]] w λe w'=>e= .returned (.bool (z7 t))/\Bw w w':=by
 have D:=hid (λW(o:Bw w W)=>zDB Z vd t.dom W (h.d.keep (zA.of_below o)));obtain⟨⟨A,c,rfl,I,z,a,M⟩⟩:=h.l
 have s:=hid (λW(o:Bw w W) B(H:Blk W B 27 #[vd,.slice A t.lines.length c])=>zIo 29 #[.pointer (some ⟨B,0,none⟩)] Tryz.egTV1 (zA4 Z W) Z t.lines (qAt t.lines λx=> !zFQ t.dom x) A c W zA4.seven
  (M.imp (λ_ _ h=>h.keep (zA.of_below o)) (zA.of_below o) (λ_ h=>h)) (by omega) (λi K cs C P k=>by
   rw[zIJ K];have q:=zD o k
   exact zPt Z B vd _ t.dom t.lines[i] cs P (C.keep (zA.of_below k)) (h.d.keep (zA.of_below q)) (J _ (List.getElem_mem K)) (λb X=>Nat.lt_of_lt_of_le (N b X) q.size) (H.below k H.lt)))
 have F:(t.lines.any λx=> !zFQ t.dom x)= !t.lines.all (zFQ t.dom):=by
  rw[Bool.eq_iff_iff];simp
 simp only[zPF,F]at s;unfold z7;generalize t.lines.all (zFQ t.dom)=T at*;generalize zN t.dom=Q at*;obtain⟨n,L⟩:∃n,n=t.lines.length:=⟨_,rfl⟩;rw[<-L]at s a⊢;obtain⟨R,U⟩:∃b,decide (0<n)=b:=⟨_,rfl⟩;obtain⟨E,V⟩:∃b,decide ((n:Int)<=100)=b:=⟨_,rfl⟩;have G:decide (n<=100)=E:=by rw[<-V,Bool.eq_iff_iff,decide_eq_true_eq,decide_eq_true_eq];omega
 rw[U,G];have Y:n<=140737488355328:=by omega
 have v:=Blk.new w 27 #[vd,.slice A n c];have j:=zF w (.cells #[vd,.slice A n c] 27);clear h N J M F L G a;go_enter func12,ntmps12
 go_wp2_with fail
 generalize w.alloc (.cells #[vd,.slice A n c] 27)=w0 at*;refine(D.out _ j).mono ?_;rintro e w1 ⟨rfl,m⟩;have g:=v.below m v.lt;have f:=zD j m;have c1:=g.at1;have bl:=g.lt;have u:=hid (s.out _ f _ g);clear v j m D g s;cases Q
 ·go_wp2_with fail
  go_ret;exact⟨rfl,f⟩
 ·cases R
  ·(go_wp2_with fail);go_ret;exact⟨rfl,f⟩
  ·cases E
   ·(go_wp2_with fail);go_ret;exact⟨rfl,f⟩
   ·(go_wp2_with fail);refine u.out.mono ?_;rintro e w2 ⟨rfl,y⟩;(go_wp2_with fail);go_ret;refine⟨?_,zD f y⟩;cases T<;>rfl
def zE2(p:zAI):Value:= .agg #[.string p.1,.bool p.2]
theorem zVE:∃f0 f1:Field,prog.underlying 85=some (.struct #[f0,f1])/\f0.name≠ "_" /\f1.name≠ "_" /\f0.type=9/\f1.type=4/\f0.offset=0/\f1.offset=1:=
 ⟨_,_,underlying85,by decide,by decide,rfl,rfl,rfl,rfl⟩
theorem zOM(w:World)(x y:zAI):(Op.equal 85 (zE2 x) (zE2 y)).run prog w= .ok (decide (x=y)) w:=by
 obtain⟨j,k,t,u,v,C,D,z,A⟩:=zVE;have hF:prog.underlying 85=some (.struct (prog.fieldsOf 85)):=by kernel_rfl
 have e:prog.fieldsOf 85=#[j,k]:=by
  have a:=Option.some.inj (t.symm.trans hF);exact(TypeDesc.struct.inj a).symm
 have s:prog.plainKey 9=true:=by simp[Program.plainKey,underlying9]
 have q:prog.plainKey 4=true:=by simp[Program.plainKey,underlying4]
 have B:∀p:zAI,(part 9 #[.string p.1,.bool p.2] 0).run prog w= .ok (.string p.1) w:=λp=>run_part_plain w s rfl
 have h:∀p:zAI,(part 4 #[.string p.1,.bool p.2] 1).run prog w= .ok (.bool p.2) w:=λp=>run_part_plain w q rfl
 have m:∀d:Nat,(Op.equalIn (d+1) 9 (.string x.1) (.string y.1)).run prog w= .ok (x.1==y.1) w:=λd=>by simp[Op.equalIn,run_underlying underlying9]
 have n:∀d:Nat,(Op.equalIn (d+1) 4 (.bool x.2) (.bool y.2)).run prog w= .ok (x.2==y.2) w:=λd=>by simp[Op.equalIn,run_underlying underlying4]
 have i:(Op.equalIn 9999 9 (.string x.1) (.string y.1)).run prog w= .ok (x.1==y.1) w:=m 9998;have f:(Op.equalIn 9999 4 (.bool x.2) (.bool y.2)).run prog w= .ok (x.2==y.2) w:=n 9998;unfold Op.equal zE2;rw[show Op.maxDepth=9999+1 from rfl,run_equalIn_struct w 9999 85 _ _ hF (by kernel_rfl),e];simp only[Op.eqFields,u,v,C,D,z,A,ne_eq,not_false_eq_true,if_true,Sem.run_bind,B,h,i,f,Result.andThen_ok];have g:=MapKept.bytes_beq x.1 y.1;by_cases a:x.1=y.1
 ·rw[g.2 a];simp only[Bool.not_true,Bool.false_eq_true,if_false,Sem.run_bind,h,f,Result.andThen_ok];by_cases c:x.2=y.2
  ·(have b:(x.2==y.2)=true:=by simp[c]);rw[b];simp[a,c,Prod.ext_iff]
  ·(have b:(x.2==y.2)=false:=by simp[c]);rw[b];simp[c,Prod.ext_iff]
 ·have b:(x.1==y.1)=false:=by
   cases o:(x.1==y.1)with
   |false=>rfl
   |true=>exact absurd (g.1 o) a
  rw[b];simp[a,Prod.ext_iff]
theorem zGK:zEd prog 85 zE2 where
 check:=λw s x=>by unfold zE2;kernel_rfl
 find w x b a h:=by
  have d:∀(b:List MapEntry)(a:List ((zAI) × Value))(j:Nat),b.map (λe=>(e.key,e.val))=a.map (λp=>(zE2 p.1,p.2))->(Instr.findAsking 85 (zE2 x) b j).run prog w= .ok (zBa a x j) w:=by
   intro b
   induction b with
   |nil=>intro a j h;cases a with
    |nil=>simp[Instr.findAsking,zBa]
    |cons p a=>simp at h
   |cons e' b ih=>intro a j h;cases a with
    |nil=>simp at h
    |cons p a=>
     simp only[List.map_cons,List.cons.injEq,Prod.mk.injEq]at h;obtain⟨⟨k,m⟩,n⟩:=h;have o:=zOM w x p.1;unfold Instr.findAsking zBa;rw[k];simp only[Sem.run_bind,o,Result.andThen_ok];by_cases g:x=p.1
     ·simp[g,m]
     ·simp[g,ih a (j+1) n]
  obtain⟨f,c⟩:∃f,prog.underlying 85=some (.struct f):=⟨_,underlying85⟩
  cases b with
  |nil=>
   cases a with
   |nil=>simp[Instr.findKey,run_underlying c,Instr.findNow,zBa]
   |cons p a=>simp at h
  |cons e' b=>
   have i:=h
   cases a with
   |nil=>simp at h
   |cons p a=>
    simp only[List.map_cons,List.cons.injEq,Prod.mk.injEq]at h
    have q:Instr.findNow (.struct f) (zE2 x) (e'::b) 0=none:=by
     unfold Instr.findNow;rw[h.1.1];simp[Instr.sameNow]
    simp only[Instr.findKey,Sem.run_bind,run_underlying c,Result.andThen_ok,q];exact d _ _ 0 i
 stays w x:=by
  have h:=(MapKept.bytes_beq x.1 x.1).2 rfl;simp[Instr.keyThatStays,zE2,Instr.sameBits,h]
def KvG(Z:zE)(w:World):List (zAI × Value)->List (zAI × List zB)->Prop
 |[],[]=>True
 |p::l,q::m=>p.1=q.1/\(∃v,p.2= .agg #[v]/\z8 Z w v q.2)/\KvG Z w l m
 | _,_=>False
section
variable {Z Z':zE} {w w':World}
theorem KvG.imp(h:∀v g,z8 Z w v g->z8 Z' w' v g):∀{l:List (zAI × Value)}{m:List (zAI × List zB)},KvG Z w l m->KvG Z' w' l m
 |[],[],_=>trivial
 | _::_,_::_,⟨h1,⟨v,h2,h3⟩,h4⟩=>⟨h1,⟨v,h2,h _ _ h3⟩,KvG.imp h h4⟩
theorem KvG.get:∀{l:List (zAI × Value)}{m:List (zAI × List zB)},KvG Z w l m->∀x,(zg l x=none/\kvD m x=none)\/∃v g,zg l x=some (.agg #[v])/\kvD m x=some g/\z8 Z w v g
 |[],[],_,_=> .inl ⟨rfl,rfl⟩
 |p::l,q::m,⟨h1,⟨v,h2,h3⟩,h4⟩,x=>by
  unfold zg kvD;by_cases a:x=p.1
  ·rw[if_pos a,if_pos (a.trans h1),h2];exact .inr ⟨v,q.2,rfl,rfl,h3⟩
  ·rw[if_neg a,if_neg (λe=>a (e.trans h1.symm))];exact h4.get x
theorem KvG.set{x:zAI}{v:Value}{g:List zB}(b:z8 Z w v g):∀{l:List (zAI × Value)}{m:List (zAI × List zB)},KvG Z w l m->KvG Z w (zAU l x (.agg #[v])) (zC3 m x g)
 |[],[],_=>⟨rfl,⟨v,rfl,b⟩,trivial⟩
 |p::l,q::m,⟨h1,h2,h4⟩=>by
  unfold zAU zC3;by_cases a:x=p.1
  ·rw[if_pos a,if_pos (a.trans h1)];exact⟨h1,⟨v,rfl,b⟩,h4⟩
  ·rw[if_neg a,if_neg (λe=>a (e.trans h1.symm))];exact⟨h1,h2,KvG.set b h4⟩
end
def zEm(o:zAI):List Value:=[.string o.1,.bool o.2]
def GcR(Z:zE)(w:World)(cs:List Value)(g:List zB):Prop:=∃v,cs=[v]/\z8 Z w v g
end Go.Proofs.YthpocbeoanipbaaGreatDoor
