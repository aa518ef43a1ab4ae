/- Lemmas. -/
import Derived.Test.YtommaegelgilnaaGreatDoorM0
import Derived.Test.YtommaegelgilnaaGreatDoorM15
import Derived.Lib.ItoaLen
import Derived.Test.YtommaegelgilnaaGreatDoorM4
set_option linter.all false
namespace Go.Proofs.YtommaegelgilnaaGreatDoor
open Go.RowKit Go.Proofs.Tryz
set_option maxHeartbeats 4000000
set_option maxRecDepth 100000
variable {B M g:Nat}{F Z:Nat->Prop}{W w w':World}{all:List zB}{cs:Array Value}{e t:TypeId}{n:zB}{o:Obj}
section
open Go.Shelf
def zBr(B:Nat)(w:World):Prop:=Lib.TabBelow prog B w "internal/strconv.uint64pow10" .u64 Lib.pow10Tab
theorem zBr.on(h:zBr B w)(a:Below B w w'):zBr B w':=Lib.TabBelow.on h a
theorem zBr.mono{B a:Nat}(h:zBr B w)(b:B<=a):zBr a w:=λw' c=>h w' (c.mono b)
theorem zBr.here(h:zBr B w):Lib.TabIs prog w "internal/strconv.uint64pow10" .u64 Lib.pow10Tab:=Lib.TabBelow.here h
theorem zEx{g base:Nat}{cells:Array Value}(h:Blk W g e cells)(a:base<=g)(b:cells.size<=maxLen):W.ownsRow base e 1 (.slice (some ⟨g,0,none⟩) cells.size cells.size) cells.size cells.toList:=
 ⟨by simp,.inr ⟨g,cells.size,cells,rfl,a,h,Nat.le_refl _,b,by simp,by rw[Nat.mul_one];exact List.take_of_length_le (by simp)⟩⟩
theorem zHm{g base n a:Nat}{v:Value}{xs:List Value}(h:Blk W g t cs)(d:W.ownsRow base e a v n xs)(c:t≠e):v.ownBlock≠some g:=by
 rcases d.2 with⟨rfl,_⟩|⟨g',cap,cur,rfl,_,hg,_⟩
 ·intro h;cases h
 intro b;injection b with b;simp only at b;subst b;unfold Blk at h;rw[h]at hg;injection hg with hg;injection hg with _ ht;exact c ht
theorem Blk.othersKept{W d:World}{b:Option Nat}(h:Blk W g t cs)(i:Lib.OthersKept e b W d)(f:some g≠b)(j:t≠e):Blk d g t cs:=
 i g _ h f λc k a=>by injection a with _ a;exact j a
theorem Tryz.eU8:zC2 prog 5 1 1:=zDH (z:= .int .u8 0) (by kernel_rfl) rfl (by decide)
def zFY(n:zB):List (List Int):=[n.cuts,n.kids]
def zFw(n:zB)(k:Nat):List UInt8:=(if n.leaf=true then 49 else 48)::(Lib.itoa n.fact++((zFY n).take k).flatMap λl=>58::zCM l)
def inT(n:zB)(k j:Nat):List UInt8:=zFw n k++58::zCM (((zFY n).getD k []).take j)
theorem zS5(n:zB):zFw n 2=zDx n:=by simp[zFw,zDx,zFY]
theorem zRL(n:zB):zFw n 0=(if n.leaf=true then 49 else 48)::Lib.itoa n.fact:=by simp[zFw]
theorem zNY(n:zB)(k:Nat):inT n k 0=zFw n k++[58]:=by simp[inT,zCM]
theorem zS6(n:zB)(k j:Nat)(a:j<((zFY n).getD k []).length):inT n k (j+1)=inT n k j++Lib.itoa (((zFY n).getD k [])[j])++[44]:=by
 unfold inT;rw[List.take_succ_eq_append_getElem a];generalize ((zFY n).getD k [])=l at*;unfold zCM;rw[List.flatMap_append];simp
theorem zT5(n:zB)(k:Nat)(a:k<2):inT n k ((zFY n).getD k []).length =zFw n (k+1):=by
 unfold inT zFw zFY;have:k=0\/k=1:=by omega
 rcases this with rfl|rfl<;>simp
theorem zGv(l:List Int)(h:∀x∈l,I64 x):(zCM l).length <=22*l.length:=by
 induction l with
 |nil=>simp[zCM]
 |cons a r ih=>
 rw[zE3];have:=ih λx c=>h x (List.mem_cons_of_mem _ c)
 have b:=h a (by simp);have:=Lib.itoa_length_le a b.1 b.2;simp only[List.length_append,List.length_cons];omega
theorem zPO(c:I64 n.fact)(b:∀x∈n.cuts,I64 x)(d:∀x∈n.kids,I64 x)(e:n.cuts.length<=2000000)(g:n.kids.length<=2000000)(k j:Nat)(f:k<2):(inT n k j).length <=200000000:=by
 have h:=Lib.itoa_length_le n.fact c.1 c.2;have i:=zGv n.cuts b;have m:=zGv n.kids d
 have o:(zCM (n.cuts.take j)).length <=22*n.cuts.length:=by
  have:=zGv (n.cuts.take j) (λx a=>b x (List.mem_of_mem_take a));have:(n.cuts.take j).length <=n.cuts.length:=by simp;omega
  omega
 have q:(zCM (n.kids.take j)).length <=22*n.kids.length:=by
  have:=zGv (n.kids.take j) (λx a=>d x (List.mem_of_mem_take a));have:(n.kids.take j).length <=n.kids.length:=by simp;omega
  omega
 have:k=0\/k=1:=by omega
 unfold inT zFw zFY;rcases this with rfl|rfl<;>simp<;>omega
theorem zS7(e:I64 n.fact)(d:∀x∈n.cuts,I64 x)(f:∀x∈n.kids,I64 x)(a:n.cuts.length<=2000000)(c:n.kids.length<=2000000)(k:Nat)(b:k<2):(zFw n k).length <=200000000:=by
 have:=zPO e d f a c k 0 b;rw[zNY]at this;simp at this;omega
theorem zRM(Z:zD)(n:zB)(cs:List Value)(w:World)(hn:zAY Z w cs n)(K:zBr w.heap.size w)(ap:n.cuts.length<=2000000)(ax:n.kids.length<=2000000):
  Calls prog 168 #[.agg cs.toArray] w λe w'=>e= .returned (.string ⟨(zDx n).toArray⟩)/\Bw w w':=by
 obtain⟨vc,vk,rfl,hf,ar,au⟩:=hn;have HC:=hid ar;have HK:=hid au;obtain⟨⟨L,m,rfl,c1,c2,c3,-⟩,c5⟩:=ar;obtain⟨⟨M,o,rfl,k1,k2,k3,-⟩,k5⟩:=au;have z:=hid K;have HL:=hid (zS7 hf c5 k5 ap ax);have a7:=hid (zPO hf c5 k5 ap ax);have HF:=hid hf;clear K hf;have ac:=hid (zRL n);have a9:=hid (zS5 n);have a0:=hid (zNY n);have a3:=hid (zS6 n);have a1:=hid (zT5 n);have bj:(prog.underlying 5)=some (.int .u8):=underlying5;cases bd:n.leaf
 all_goals
  rw[bd]at ac;go_enter func168,ntmps168
  go_wp2_with fail
  first
   |(refine(Tryz.strconv_AppendInt_10 w.heap.size 1 n.fact HF.1 HF.2 _ (Lib.byteCells [48]) _ (zEx (cells:=#[.int .u8 48]) (by have:=Blk.new (w.alloc (.cells #[.bool false,.int .i64 n.fact,.slice L n.cuts.length m,.slice M n.kids.length o] 123)) 5 #[.int .u8 48];simpa using this) (by simp) (by simp[maxLen])) (by simp;omega) (by omega) ((z).on (zCX w _ _))).mono ?_)
   |(refine(Tryz.strconv_AppendInt_10 w.heap.size 1 n.fact HF.1 HF.2 _ (Lib.byteCells [49]) _ (zEx (cells:=#[.int .u8 49]) (by have:=Blk.new (w.alloc (.cells #[.bool true,.int .i64 n.fact,.slice L n.cuts.length m,.slice M n.kids.length o] 123)) 5 #[.int .u8 49];simpa using this) (by simp) (by simp[maxLen])) (by simp;omega) (by omega) ((z).on (zCX w _ _))).mono ?_)
  rintro e W ⟨v1,rfl,q,ak,av⟩;have ao:=av w.heap.size _ ((Below.heap_alloc _ _ _ (by simp)).trans (heap_alloc_new w _)) (by simp) (by intro c fz e;injection e with _ e;exact absurd e (by decide));have t:Blk W w.heap.size 123 _:=ao;have r2:=t.at2;have r3:=t.at3;have bi:w.heap.size<W.heap.size:=t.lt;have J:=Below.trans (zCX w _ _) ak;have ab:=hid q;have X:=hid J
  obtain⟨A1,n1,H,rfl⟩:∃A1 n1 H,v1= .slice A1 n1 H:=by
   rcases q.2 with⟨hv,_⟩|⟨g,f,cur,hv,_⟩
   ·exact⟨_,_,_,hv⟩
   exact⟨_,_,_,hv⟩
  clear ao t av ak J q;go_wp2;go_loopw[3,26] (λv i wr=>∃k:Nat,k<=2/\i= .int .i64 k/\wr.ownsRow w.heap.size 5 1 v (zFw n k).length (Lib.byteCells (zFw n k))/\Bw w wr/\Blk wr W.heap.size 33 #[.slice L n.cuts.length m,.slice M n.kids.length o]) (λ_ i _=>2-(intOf i).toNat)
  case atStart=>
   have u:=Blk.new W 33 #[.slice L n.cuts.length m,.slice M n.kids.length o];refine⟨0,by omega,rfl,?_,X.alloc X.size _,u⟩;rw[ac.out];have:=ab.alloc (.cells #[.slice L n.cuts.length m,.slice M n.kids.length o] 33);simpa[Lib.byteCells,Nat.add_comm]using this
  case round=>
   obtain⟨k,hk,rfl,d,a,u⟩:=hrel;clear r2 r3;by_cases U:k<2
   ·have az:∃A f,wr.cell? ⟨W.heap.size,k,none⟩=some (.slice A ((zFY n).getD k []).length f)/\zO Z w (.slice A ((zFY n).getD k []).length f) ((zFY n).getD k []):=by
     (have:k=0\/k=1:=by omega);rcases this with rfl|rfl
     ·exact⟨L,m,u.cell 0,HC⟩
     exact⟨M,o,u.cell 1,HK⟩
    obtain⟨A,f,Q,C⟩:=az;have a2:=hid C;have Y:=hid (λj=>a7 k j U);have aa:=hid (HL k U);have a4:=hid (a0 k);have a6:=hid (a3 k);have a5:=hid (a1 k U);obtain⟨⟨_,_,_,l1,l2,l3,-⟩,l5⟩:=C;generalize ((zFY n).getD k [])=l at*;have D:=d.alloc (.cells #[.int .u8 58] 5);have ag:=u.alloc (.cells #[.int .u8 58] 5);have B:=a.alloc a.size (.cells #[.int .u8 58] 5);have y:=hid (And.intro B ag);have N:=hid D;clear d a u D ag B;go_wp2_with(at_builtin;refine zh rfl (.tmp 30) (.tmp 31) _ rfl underlying238 Tryz.eU8 rfl N rfl (news:=[.int .u8 58]) rfl (one_cell (by simp)) (by simp[Value.oneCell']) (by have:=aa.out;unfold maxLen;omega) (by have:=aa.out;omega) (by have:=y.1.size;simpa using this) ?_;intro v5 w5 E R aj);have ah:=y.2.grown R (zHm y.2 N (by decide));have ad:=zAs y.1 N R y.1.size (Nat.le_refl _);have O:=hid (And.intro E (And.intro ad ah));clear ah ad E R aj;go_wp2;go_loopw[3,35] (λv i wr=>∃j:Nat,j<=l.length/\i= .int .i64 j/\wr.ownsRow w.heap.size 5 1 v (inT n k j).length (Lib.byteCells (inT n k j))/\Bw w wr/\Blk wr W.heap.size 33 #[.slice L n.cuts.length m,.slice M n.kids.length o]) (λ_ i _=>l.length-(intOf i).toNat)
    case atStart=>
     refine⟨0,by omega,rfl,?_,O.2.1,O.2.2⟩;rw[a4.out];simpa[Lib.byteCells]using O.out.1
    case round=>
     obtain⟨j,hj,rfl,d,a,u⟩:=hrel;clear Q;by_cases T:j<l.length
     ·obtain⟨b,bf,rfl,hz,ba,hc⟩:=a2.at_ T;have bb:wr.cell? ⟨b,bf+j,none⟩=some (.int .i64 l[j]):=brd a hc ba;have HX:=hid (l5 l[j] (List.getElem_mem T));have F:=hid (And.intro d (And.intro a u));have a8:=hid (a6 j T);(have al:b<wr.heap.size:=by have:=a.size;omega);clear d a u hc;generalize l[j]=x at*;(go_wp2_with fail);refine(Tryz.strconv_AppendInt_10 w.heap.size _ x HX.1 HX.2 _ _ _ F.1 F.2.1.size (by have:=Y j;omega) (z.on F.2.1)).mono ?_;rintro e w6 ⟨v6,rfl,s,P,aw⟩;have ai:=(F.2.2.othersKept aw (by simp) (by decide)).alloc (.cells #[.int .u8 44] 5);have ae:=(F.2.1.trans P).alloc (F.2.1.trans P).size (.cells #[.int .u8 44] 5);have af:=s.alloc (.cells #[.int .u8 44] 5);have G:=hid (And.intro af (And.intro ae ai))
      obtain⟨A6,n6,I,rfl⟩:∃A6 n6 I,v6= .slice A6 n6 I:=by
       rcases s.2 with⟨hv,_⟩|⟨g,f,cur,hv,_⟩
       ·exact⟨_,_,_,hv⟩
       exact⟨_,_,_,hv⟩
      clear ai ae af P aw s bb al;have bk:=Lib.itoa_length_le x HX.1 HX.2;have bh:=Y j;go_wp2_with(at_builtin;refine zh rfl (.tmp 41) (.tmp 42) _ rfl underlying238 Tryz.eU8 rfl G.1 rfl (news:=[.int .u8 44]) rfl (one_cell (by simp)) (by simp[Value.oneCell']) (by unfold maxLen;omega) (by omega) (by have:=G.2.1.size;simpa using this) ?_;intro v7 w7 V aq bg);go_roundw
      case rel=>
       refine⟨j+1,by omega,by go_num,?_,zAs G.2.1 G.1 aq G.2.1.size (Nat.le_refl _),G.2.2.grown aq (zHm G.2.2 G.1 (by decide))⟩;rw[a8.out];simpa[Lib.byteCells,Nat.add_assoc]using V
      case measure=>simp[intOf];omega
     (obtain rfl:j=l.length:=by omega);rw[a5.out]at d;have F:=hid (And.intro d (And.intro a u));clear d a u;go_wp2;go_roundw;(case rel=>exact⟨k+1,by omega,by go_num,F.1,F.2.1,F.2.2⟩);case measure=>simp[intOf];omega
   (obtain rfl:k=2:=by omega);rw[a9.out]at d;have ay:(zDx n).length ≠0:=by simp[zDx]
   obtain⟨g,f,rfl⟩:∃g f,u3= .slice (some ⟨g,0,none⟩) (zDx n).length f:=by
    rcases d.2 with⟨_,h⟩|⟨g,f,cur,hv,_⟩
    ·exact absurd h ay
    exact⟨g,f,hv⟩
   have bc:=hid (d.cells (g:=g) rfl);have HB:=hid a;clear d a u ay;go_wp2;rw[run_convert_bytes_back wr 238 9 5 ⟨g,0,none⟩ f (zDx n) underlying238 underlying5 underlying9 (λj hj=>bc j _ (by simp[Lib.byteCells,hj]))];simp only[Result.andThen];rw[Oper.upon_value];go_wp2;go_ret;exact⟨rfl,HB⟩
end
theorem Tryz.zeroInt(w:World):(zeroValue 3).run prog w= .ok (.int .i64 0) w:=by kernel_rfl
theorem Tryz.lookI{b:Nat}{a:List (ByteArray × Value)}(h:zS encS w b a)(s:ByteArray)(c:Bool):
  (Instr.lookup 142 (.map (some b)) (.string s) c).run prog w= .ok (if c then .tuple #[(zAA a s).getD (.int .i64 0),.bool (zAA a s).isSome]else(zAA a s).getD (.int .i64 0)) w:=
 h.look (zAK (P:=prog) (k:=9) underlying9) (t:=142) (e:=3) underlying142 (Tryz.zeroInt w) s c
theorem Tryz.nilI(w:World)(r:Option Nat):(binOp .eql 142 (.map r) (.map none)).run prog w= .ok (.bool r.isNone) w:=run_eql_map_nil w _ _ _ r underlying142
theorem zGH{Z:zD}{cs:List Value}(h:zAY Z w cs n):∃a b,cs=[.bool n.leaf,.int .i64 n.fact,a,b]:=by
 obtain⟨a,b,e,_⟩:=h;exact⟨a,b,e⟩
theorem zPj(h:(∃F',MkS w' M all F' Z/\∀x,F' x->F x\/(w.alloc o).heap.size <=x)/\zA (λx=>¬F x) (w.alloc o) w'):
  (∃F',MkS w' M all F' Z/\∀x,F' x->F x\/w.heap.size<=x)/\zA (λx=>¬F x) w w':=by
 obtain⟨⟨F',a,b⟩,c⟩:=h;exact⟨⟨F',a,λx d=>(b x d).imp id (λh=>by simp at h;omega)⟩,((zA.refl _ _).alloc o).trans c⟩
theorem zNZ{r:Int × List zB}{e:Ending}(a:Bw w W)(h:zC3 W M F Z r e w'):zC3 w M F Z r e w':=by
 obtain⟨he,⟨b,c,d⟩,f⟩:=h;exact⟨he,⟨b,c,λx g=>(d x g).imp id (λh=>Nat.le_trans a.size h)⟩,(zA.of_below a).trans f⟩
theorem zN0{Z:zD}{cs:List Value}(h:zAY Z w cs n):∀u∈cs,u.oneCell'=true:=by
 obtain⟨b,c,rfl,_,⟨⟨_,_,rfl,_⟩,_⟩,⟨⟨_,_,rfl,_⟩,_⟩⟩:=h;intro u a;simp only[List.mem_cons,List.not_mem_nil,or_false]at a;rcases a with rfl|rfl|rfl|rfl<;>rfl
theorem zO7(M:Nat)(all:List zB)(F Z Zn:Nat->Prop)(n:zB)(cs:List Value)(w:World)(h:MkS w M all F Z)(f:zAY Zn w cs n)(a:n∈all):
  Calls prog 167 #[.pointer (some ⟨M,0,none⟩),.string (zDJ n),.agg cs.toArray] w λe w'=>e= .returned (.int .i64 (all.idxOf n:Nat))/\Bw w w':=by
 obtain⟨C,D,rfl⟩:=zGH f;clear f;obtain⟨⟨v,B,i,c,j,k,m,q⟩,t,z,hF,x⟩:=h;rcases m with⟨_,h⟩|⟨b,rfl,hm,hb,hne,-⟩
 ·subst h;simp at a
 have y:=λo=>Tryz.lookI (hm.of_block (w':=w.alloc o) (Below.heap_alloc _ _ _ hm.lt)) (zDJ n) true
 have d:=zHj all 0 n;rw[if_pos a]at d;simp only[d,Option.getD_some,Option.isSome_some,if_true,Nat.zero_add]at y;have A:=c.cell 0;have c1:=c.at1;have u:=c.lt;clear d c j k q t z hF x hm hb hne;generalize zDJ n=s at*;have g:=Tryz.nilI;go_enter func167,ntmps167
 go_wp2;go_ret;exact⟨rfl,zG w _⟩
theorem zRN(M:Nat)(all:List zB)(F Z Zn:Nat->Prop)(n:zB)(cs:List Value)(w:World)(h:MkS w M all F Z)(hn:zAY Zn w cs n)(hz:∀b,Zn b->¬F b/\b<w.heap.size)(G:n∉all)(ak:all.length<=1000000)(aa:all≠[]):
  Calls prog 167 #[.pointer (some ⟨M,0,none⟩),.string (zDJ n),.agg cs.toArray] w (zC3 w M F (λb=>Z b\/Zn b) ((all.length:Nat),all++[n])):=by
 have J:=hn;obtain⟨f,j,rfl⟩:=zGH hn;obtain⟨⟨v,mp,T,U,h2,h3,h4,h5⟩,hM,hs,hF,hZ⟩:=h;rcases h4 with⟨_,h⟩|⟨b,rfl,hm,hb,B,-⟩
 ·exact absurd h aa
 obtain⟨A,z,rfl,aj,al,-⟩:=Row.of_own h2 (by decide);have hl:=λo=>Tryz.lookI (hm.of_block (w':=w.alloc o) (Below.heap_alloc _ _ _ hm.lt)) (zDJ n) true
 have E:=zHj all 0 n;rw[if_neg G]at E;simp only[E,Option.getD_none,Option.isSome_none,if_true]at hl;have u:=zKa all 0 n G;rw[Nat.zero_add]at u;have Q:=hid u;have c0:=U.at0;have c1:=U.at1;have ae:=U.lt;have ab:=Tryz.nilI;have H:=hid (And.intro U (And.intro h2 (And.intro h3 (And.intro h5 (And.intro hM (And.intro hs (And.intro hF hZ)))))));have L:=hid (λo=>hm.of_block (w':=w.alloc o) (Below.heap_alloc _ _ _ hm.lt));have HB:=hid (And.intro hb B);have O:=hid (zN0 J);have N:=hid (zHk h2 hm);have HN:=hid J;have R:=hid hz;clear E U h2 h3 h5 hM hs hF hZ hm hb B u J hn hz G aa;generalize zDJ n=s at*;have af:∀i:Nat,i<4->(w.alloc (.cells #[.bool n.leaf,.int .i64 n.fact,f,j] 123)).frozen? ⟨M,i,none⟩=false:=λi _=>((H.1).alloc _).frozen i
 go_enter func167,ntmps167
 go_wp2_with(at_mapUpdate;refine zA6 rfl (.tmp 37) (.tmp 38) _ rfl (zAK (P:=prog) (k:=9) underlying9) (e:=3) underlying142 rfl (L _) s rfl ?_;intro y I d C W X);have a:=(H.1.alloc _).keep d HB.2.symm;have ap:b<w.heap.size:=H.2.2.2.2.2.2.1 b HB.1;have c:=(Blk.new w 123 #[.bool n.leaf,.int .i64 n.fact,f,j]).keep d (by show w.heap.size≠b;omega);have m:=zXL (H.2.1.alloc _) d (λk hk e=>N (e▸hk));have f0:=a.frozen 0;obtain⟨b0,b1,b2,b3⟩:y.cell? ⟨w.heap.size,0,none⟩=some (.bool n.leaf)/\y.cell? ⟨w.heap.size,1,none⟩=some (.int .i64 n.fact)/\y.cell? ⟨w.heap.size,2,none⟩=some f/\y.cell? ⟨w.heap.size,3,none⟩=some j:=⟨c.cell 0,c.cell 1,c.cell 2,c.cell 3⟩;have m0:=a.at0;have ai:M<y.heap.size:=a.lt;have ac:=hid (show y.drew.ownsRow 0 123 4 (.slice A all.length z) all.length T.flatten from m);have ad:=hid (λ(w5:World)(row:Option Nat)(E:(y.alloc (.cells #[.bool n.leaf,.int .i64 n.fact,f,j] 123)).drew.grownBy w5 (Value.slice A all.length z).ownBlock)=>(a.alloc (.cells #[.bool n.leaf,.int .i64 n.fact,f,j] 123)).drew.grown E (λe=>(H.2.2.2.1 M e).2 rfl))
 have HG:=hid (λ(w5:World)(v5:Value)(ho:w5.ownsRow 0 123 4 v5 (all.length+1) (T.flatten++[.bool n.leaf,.int .i64 n.fact,f,j]))(E:(y.alloc (.cells #[.bool n.leaf,.int .i64 n.fact,f,j] 123)).drew.grownBy w5 (Value.slice A all.length z).ownBlock)(ha:v5.ownBlock=(Value.slice A all.length z).ownBlock \/v5.ownBlock=some (y.alloc (.cells #[.bool n.leaf,.int .i64 n.fact,f,j] 123)).drew.heap.size)=>
  zPj (zNS (H.1.alloc (.cells #[.bool n.leaf,.int .i64 n.fact,f,j] 123)) (H.2.1.alloc _) (NdL.keep ((zA.refl _ _).alloc _) H.2.2.1) H.2.2.2.1 H.2.2.2.2.1 HB.1 HB.2 N H.2.2.2.2.2.1 (λx K=>by have:=H.2.2.2.2.2.2.1 x K;simp;omega) (λx K=>by have:=H.2.2.2.2.2.2.2 x K;simp;omega) (HN.keep ((zA.refl _ _).alloc _)) (λx K=>⟨(R x K).1,by have:=(R x K).2;simp;omega⟩) d (Q.out▸I) E ho ha))
 have ao:=hid (And.intro a (And.intro c (And.intro I (And.intro d C))));clear a c I d W X m c0 c1 af hl ab ae C;go_region_law(refine zEt rfl (.tmp 44) (.tmp 46) _ rfl underlying72 Tryz.eNode rfl (ac.alloc _) rfl (news:=[.bool n.leaf,.int .i64 n.fact,f,j]) rfl (zNR (cs:=[.bool n.leaf,.int .i64 n.fact,f,j]) (t:=123) (g:=y.heap.size) (by have:=Blk.new y 123 #[.bool n.leaf,.int .i64 n.fact,f,j];exact this.drew)) O (by unfold maxLen;omega) (by omega) (Nat.zero_le _) ?_;intro v5 w5 q Y V;obtain⟨g5,ah,ag⟩:=zBc q;subst ag;have D:=ad _ none Y;have d0:=D.cell 0;have d1:=D.frozen 0;have d2:=D.lt)
 all_goals
  have HE:=HG _ _ q Y V;clear d0 d1 d2;go_wp2;go_ret;exact⟨rfl,HE⟩
theorem zPk{u:Value}(f:F M)(b:M<w.heap.size)
  (h:(∃F',MkS w' M all F' Z/\∀x,F' x->(F x\/x=w.heap.size+1)\/(((w.setCell ⟨M,1,none⟩ u).alloc o).alloc (.map #[] 0)).heap.size <=x)/\zA (λx=>¬(F x\/x=w.heap.size+1)) (((w.setCell ⟨M,1,none⟩ u).alloc o).alloc (.map #[] 0)) w'):
  (∃F',MkS w' M all F' Z/\∀x,F' x->F x\/w.heap.size<=x)/\zA (λx=>¬F x) w w':=by
 obtain⟨⟨F',c,d⟩,e⟩:=h;refine⟨⟨F',c,λx a=> ?_⟩,zA.wide ?_⟩
 ·rcases d x a with(h|h)|h
  ·exact Or.inl h
  ·exact Or.inr (by omega)
  simp at h;exact Or.inr (by omega)
 refine zA.trans (w':=(((w.setCell ⟨M,1,none⟩ u).alloc o).alloc (.map #[] 0))) ?_ (e.mono λx _ a=> ?_)
 ·exact(((zA.refl _ _).setCell (λ_ a=>a.1 f) _).alloc _).alloc _
 rintro(h|h)
 ·exact a.1 h
 omega
theorem zRO(M:Nat)(F Z Zn:Nat->Prop)(n:zB)(cs:List Value)(w:World)(h:MkS w M [] F Z)(hn:zAY Zn w cs n)(hz:∀b,Zn b->¬F b/\b<w.heap.size):
  Calls prog 167 #[.pointer (some ⟨M,0,none⟩),.string (zDJ n),.agg cs.toArray] w (zC3 w M F (λb=>Z b\/Zn b) ((([]:List zB).length :Nat),[]++[n])):=by
 have O:=hn;obtain⟨f,i,rfl⟩:=zGH hn;obtain⟨⟨v,mp,J,K,U,h3,h4,h5⟩,hM,hs,hF,hZ⟩:=h
 obtain rfl:mp= .map none:=by
  rcases h4 with⟨h,_⟩|⟨_,_,_,_,_,h⟩
  ·exact h
  exact absurd rfl h
 clear h4;obtain⟨A,a,rfl,au,av,-⟩:=Row.of_own U (by decide)
 have ak:J=[]:=by
  cases J with
  |nil=>rfl
  |cons=>exact h3.elim
 subst ak;have c0:=K.at0;have c1:=K.at1;have f1:=K.frozen 1;have aj:=K.lt;have ad:=Tryz.nilI;have al:= @run_makeMap prog;have aa:zAq (zD9 [] 0) (zDJ n) (.int .i64 0)=zD9 ([]++[n]) 0:=rfl;have T:=hid aa;have R:=hid (zN0 O);let D:=(((w.setCell ⟨M,1,none⟩ (.map (some (w.heap.size+1)))).alloc (.cells #[.bool n.leaf,.int .i64 n.fact,f,i] 123)).alloc (.map #[] 0))
 have o:zS encS D (w.heap.size+1) []:=by
  have:=zS.made ((w.setCell ⟨M,1,none⟩ (.map (some (w.heap.size+1)))).alloc (.cells #[.bool n.leaf,.int .i64 n.fact,f,i] 123)) encS;simp only[World.size_alloc,World.size_setCell]at this;exact this
 have hl:=Tryz.lookI o (zDJ n) true;simp only[zAA,Option.getD_none,Option.isSome_none,if_true]at hl
 have c:Blk D M 177 #[.slice A 0 a,.map (some (w.heap.size+1))]:=by
  have:=(((K.set_ 1 (.map (some (w.heap.size+1)))).alloc (.cells #[.bool n.leaf,.int .i64 n.fact,f,i] 123)).alloc (.map #[] 0));exact this
 have N:zA (λx=>x≠M) w D:=(((zA.refl _ _).setCell (λ_ d=>d rfl) _).alloc _).alloc _;have I:D.heap.size=w.heap.size+2:=by simp[D]
 have E:Blk D w.heap.size 123 #[.bool n.leaf,.int .i64 n.fact,f,i]:=by
  have:=((Blk.new (w.setCell ⟨M,1,none⟩ (.map (some (w.heap.size+1)))) 123 #[.bool n.leaf,.int .i64 n.fact,f,i]).alloc (.map #[] 0));simp only[World.size_setCell]at this;exact this
 have G:D.ownsRow 0 123 4 (.slice A 0 a) 0 ([]:List (List Value)).flatten :=zXL U N (λk Q=>(h5 k Q).2);have ac:(Value.slice A 0 a).ownBlock ≠some (w.heap.size+1):=λe=>by have:=(U.lt _ e).2;omega
 have H:=hid (And.intro K (And.intro U (And.intro h5 (And.intro hM (And.intro hs (And.intro hF hZ))))));have j:=hid (And.intro c (And.intro N (And.intro I (And.intro E (And.intro G (And.intro ac o))))));have HN:=hid O;have C:=hid hz;have ap:=hid (λ(h:zS encS D (w.heap.size+1) [])=>h);have af:=c.at0;have ag:=c.at1;simp only[D]at hl af ag;clear K U h3 h5 hM hs hF hZ O hn hz aa c N E G o ac I;generalize zDJ n=s at*;go_enter func167,ntmps167
 go_wp2_with(at_mapUpdate;refine zA6 rfl (.tmp 37) (.tmp 38) _ rfl (zAK (P:=prog) (k:=9) underlying9) (e:=3) underlying142 rfl (j.2.2.2.2.2.2) s rfl ?_;intro B ab u ae W X);have m:=j.1.keep u (by show M≠w.heap.size+1;omega);have q:=j.2.2.2.1.keep u (by show w.heap.size≠w.heap.size+1;omega);have y:=zXL j.2.2.2.2.1 u (λk Q e=>j.2.2.2.2.2.1 (e▸Q));have f0:=m.frozen 0;obtain⟨b0,b1,b2,b3⟩:B.cell? ⟨w.heap.size,0,none⟩=some (.bool n.leaf)/\B.cell? ⟨w.heap.size,1,none⟩=some (.int .i64 n.fact)/\B.cell? ⟨w.heap.size,2,none⟩=some f/\B.cell? ⟨w.heap.size,3,none⟩=some i:=⟨q.cell 0,q.cell 1,q.cell 2,q.cell 3⟩;have m0:=m.at0;have ar:M<B.heap.size:=m.lt;have ah:=hid (show B.drew.ownsRow 0 123 4 (.slice A 0 a) 0 ([]:List (List Value)).flatten from y);have ai:=hid (λ(w5:World)(row:Option Nat)(hg:(B.alloc (.cells #[.bool n.leaf,.int .i64 n.fact,f,i] 123)).drew.grownBy w5 (Value.slice A 0 a).ownBlock)=>(m.alloc (.cells #[.bool n.leaf,.int .i64 n.fact,f,i] 123)).drew.grown hg (λe=>(H.2.2.1 M e).2 rfl))
 have HG:=hid (λ(w5:World)(v5:Value)(ho:w5.ownsRow 0 123 4 v5 (0+1) (([]:List (List Value)).flatten ++[.bool n.leaf,.int .i64 n.fact,f,i]))(hg:(B.alloc (.cells #[.bool n.leaf,.int .i64 n.fact,f,i] 123)).drew.grownBy w5 (Value.slice A 0 a).ownBlock)(ha:v5.ownBlock=(Value.slice A 0 a).ownBlock \/v5.ownBlock=some (B.alloc (.cells #[.bool n.leaf,.int .i64 n.fact,f,i] 123)).drew.heap.size)=>
  zPk H.2.2.2.1 H.1.lt (zNS (all:=[]) (csl:=[]) (Fa:=λx=>F x\/x=w.heap.size+1) j.1 j.2.2.2.2.1 trivial (λk Q=>⟨Or.inl (H.2.2.1 k Q).1,(H.2.2.1 k Q).2⟩) (Or.inl H.2.2.2.1) (Or.inr rfl) (by have:=H.1.lt;omega) j.2.2.2.2.2.1
   (λx d h=>by
    rcases h with h|h
    ·exact H.2.2.2.2.1 x d h
    have:=H.2.2.2.2.2.2 x d;omega)
   (λx d=>by
    rw[j.2.2.1];rcases d with h|h
    ·have:=H.2.2.2.2.2.1 x h;omega
    omega)
   (λx d=>by rw[j.2.2.1];have:=H.2.2.2.2.2.2 x d;omega)
   (HN.keep (j.2.1.mono λx _ d e=>(C x d).1 (e▸H.2.2.2.1)))
   (λx d=>⟨λh=>by
    rcases h with h|h
    ·exact(C x d).1 h
    have:=(C x d).2;omega,by rw[j.2.2.1];have:=(C x d).2;omega⟩) u (T.out▸ab) hg ho ha))
 clear m q ab u W X y c0 c1 hl ad aj ae af ag f1 al;go_region_law(refine zEt rfl (.tmp 44) (.tmp 46) _ rfl underlying72 Tryz.eNode rfl (ah.alloc _) rfl (news:=[.bool n.leaf,.int .i64 n.fact,f,i]) rfl (zNR (cs:=[.bool n.leaf,.int .i64 n.fact,f,i]) (t:=123) (g:=B.heap.size) (by have:=Blk.new B 123 #[.bool n.leaf,.int .i64 n.fact,f,i];exact this.drew)) R (by unfold maxLen;omega) (by omega) (Nat.zero_le _) ?_;intro v5 w5 z Y V;obtain⟨g5,aq,ao⟩:=zBc z;subst ao;have L:=ai _ none Y;have d0:=L.cell 0;have d1:=L.frozen 0;have d2:=L.lt)
 all_goals
  have HE:=HG _ _ z Y V;clear d0 d1 d2;go_wp2;go_ret;exact⟨rfl,HE⟩
theorem zRP(M:Nat)(all:List zB)(F Z Zn:Nat->Prop)(n:zB)(cs:List Value)(w:World)(h:MkS w M all F Z)(m:zAY Zn w cs n)(j:∀b,Zn b->¬F b/\b<w.heap.size)(g:all.length<=1000000):
  Calls prog 167 #[.pointer (some ⟨M,0,none⟩),.string (zDJ n),.agg cs.toArray] w (zC3 w M F (λb=>Z b\/Zn b) (zy all n)):=by
 by_cases c:n∈all
 ·refine(zO7 M all F Z Zn n cs w h m c).mono ?_;rintro e w' ⟨rfl,a⟩;unfold zy;rw[if_pos c];refine⟨rfl,⟨F,?_,λb a=>Or.inl a⟩,.of_below a⟩;have f:=h.below a;obtain⟨v,x,k,o,q,s,t,u⟩:=f.ex;refine⟨⟨v,x,k,o,q,NdL.mono (λb a=>Or.inl a) s,t,u⟩,f.fM,λb a=> ?_,f.liveF,λb a=> ?_⟩
  ·rcases a with a|a
   ·exact f.sep b a
   exact(j b a).1
  rcases a with d|d
  ·exact f.liveZ b d
  exact Nat.lt_of_lt_of_le (j b d).2 a.size
 have e:zy all n=(((all.length:Nat):Int),all++[n]):=by unfold zy;rw[if_neg c]
 rw[e];by_cases i:all=[]
 ·subst i;exact zRO M F Z Zn n cs w h m j
 exact zRN M all F Z Zn n cs w h m j c g i
structure zRQ (w:World) (F Zn:Nat->Prop) (n:zB) (cs:List Value):Prop where
 is:zAY Zn w cs n
 off:∀b,Zn b->¬F b/\b<w.heap.size
 cuts:n.cuts.length<=2000000
 kids:n.kids.length<=2000000
theorem zG3(M:Nat)(all:List zB)(F Z Zn:Nat->Prop)(n:zB)(cs:List Value)(w:World)(h:MkS w M all F Z)(m:zRQ w F Zn n cs)(k:all.length<=1000000)(q:zBr w.heap.size w):
  Calls prog 119 #[.pointer (some ⟨M,0,none⟩),.agg cs.toArray] w (zC3 w M F (λb=>Z b\/Zn b) (zy all n)):=by
 obtain⟨m,z,H,I⟩:=m;have f:=m;obtain⟨s,t,rfl⟩:=zGH m;have G:=h.liveF M h.fM;have D:=hid (λW(c:Bw w W)=>zRM Zn n _ W (f.keep (.of_below c)) ((q.on c).mono c.size) H I);have B:=hid (λW(c:Bw w W)=>zRP M all F Z Zn n _ W (h.below c) (f.keep (.of_below c)) (λb g=>⟨(z b g).1,Nat.lt_of_lt_of_le (z b g).2 c.size⟩) k);have C:=hid (λ(W E:World)(e:Ending)(c:Bw w W)(J:zC3 W M F (λb=>Z b\/Zn b) (zy all n) e E)=>zNZ c J);have y:=hid (show ¬F w.heap.size from λK=>by have:=h.liveF _ K;omega);clear h m f z;go_enter func119,ntmps119
 go_wp2
 go_region_held3(λw'=>w'.cell? ⟨w.heap.size,0,none⟩=some (.bool n.leaf)/\w'.cell? ⟨w.heap.size,1,none⟩=some (.int .i64 n.fact)/\w'.cell? ⟨w.heap.size,2,none⟩=some s/\w'.cell? ⟨w.heap.size,3,none⟩=some t) (first|exact⟨L,N,O,P⟩|exact⟨Q,R,T,U⟩|(refine⟨?_,?_,?_,?_⟩<;>go_keep))
  (first
   |(go_at_call 168;refine(D _ (zG w _).drew).mono ?_;rintro e u ⟨rfl,i⟩;have a:=(Blk.new w 123 #[.bool n.leaf,.int .i64 n.fact,s,t]).drew.below i (by simp);have Q:u.cell? ⟨w.heap.size,0,none⟩=some (.bool n.leaf):=a.cell 0;have R:u.cell? ⟨w.heap.size,1,none⟩=some (.int .i64 n.fact):=a.cell 1;have T:u.cell? ⟨w.heap.size,2,none⟩=some s:=a.cell 2;have U:u.cell? ⟨w.heap.size,3,none⟩=some t:=a.cell 3;have j:=zC (zG w _).drew i (by simp))
   |(go_at_call 167;refine(B _ j).mono ?_;rintro e v ⟨rfl,o⟩;have d:=a.keep o.2 y.out;have L:v.cell? ⟨w.heap.size,0,none⟩=some (.bool n.leaf):=d.cell 0;have N:v.cell? ⟨w.heap.size,1,none⟩=some (.int .i64 n.fact):=d.cell 1;have O:v.cell? ⟨w.heap.size,2,none⟩=some s:=d.cell 2;have P:v.cell? ⟨w.heap.size,3,none⟩=some t:=d.cell 3))
 all_goals
  have A:=C _ _ _ j ⟨rfl,o⟩;have x:=hid A;clear A;go_wp2;go_ret;exact x.out
end Go.Proofs.YtommaegelgilnaaGreatDoor
