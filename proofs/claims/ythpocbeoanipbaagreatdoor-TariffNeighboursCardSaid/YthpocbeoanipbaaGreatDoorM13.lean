/- Texts W23 W24 W25 W26 B1. -/
import Derived.Lib.AppendIntMem
import Derived.Test.YthpocbeoanipbaaGreatDoorM0
import Derived.Test.YthpocbeoanipbaaGreatDoorM10
import Derived.Lib.OthersKept
import Derived.Lib.ItoaLen
import Derived.Laws.IdiomStrings
import Derived.Test.YthpocbeoanipbaaGreatDoorM11
import Derived.Laws.EntriesVeiled
import Derived.Lib.FrozenHead2
set_option linter.all false
namespace Go.Proofs.YthpocbeoanipbaaGreatDoor
open Go.RowKit Go.Proofs.Tryz
set_option maxHeartbeats 4000000
set_option maxRecDepth 100000
variable{B M base g k kb koff:Nat}{F Z:Nat->Prop}{W w w' wr:World}{all:List zB}{cs:Array Value}{e t:TypeId}{i k0 x:Int}{n:zB}{o:Obj}{q:List Int}{v vq:Value}{xs:List Value}
section
open Go.Shelf
def zAD(B:Nat)(w:World):Prop:=Lib.TabBelow prog B w "internal/strconv.uint64pow10" .u64 Lib.pow10Tab
theorem zAD.on(h:zAD B w)(a:Below B w w'):zAD B w':=Lib.TabBelow.on h a
theorem zAD.mono{B a:Nat}(h:zAD B w)(b:B<=a):zAD a w:=λw' c=>h w' (c.mono b)
theorem zAD.here(h:zAD B w):Lib.TabIs prog w "internal/strconv.uint64pow10" .u64 Lib.pow10Tab:=Lib.TabBelow.here h
theorem zFI{cells:Array Value}(h:Blk W g e cells)(a:base<=g)(b:cells.size<=maxLen):W.ownsRow base e 1 (.slice (some ⟨g,0,none⟩) cells.size cells.size) cells.size cells.toList:=
 ⟨by simp,.inr ⟨g,cells.size,cells,rfl,a,h,Nat.le_refl _,b,by simp,by rw[Nat.mul_one];exact List.take_of_length_le (by simp)⟩⟩
theorem zDD{g base n a:Nat}(h:Blk W g t cs)(d:W.ownsRow base e a v n xs)(c:t≠e):v.ownBlock≠some g:=by
 rcases d.2 with⟨rfl,_⟩|⟨g',cap,cur,rfl,_,hg,_⟩
 ·intro h;cases h
 ·intro b;injection b with b;simp only at b;subst b;unfold Blk at h;rw[h]at hg;injection hg with hg;injection hg with _ ht;exact c ht
theorem Blk.othersKept{W d:World}{b:Option Nat}(h:Blk W g t cs)(i:Lib.OthersKept e b W d)(f:some g≠b)(j:t≠e):Blk d g t cs:=
 i g _ h f λc k a=>by injection a with _ a;exact j a
theorem Tryz.eU8:zB0 prog 5 1 1:=zBp (z:= .int .u8 0) (by kernel_rfl) rfl (by decide)
def zFc(n:zB):List (List Int):=[n.cuts,n.kids]
def zGW(n:zB)(k:Nat):List UInt8:=(if n.leaf=true then 49 else 48)::(Lib.itoa n.fact++((zFc n).take k).flatMap λl=>58::zCG l)
def inT(n:zB)(k j:Nat):List UInt8:=zGW n k++58::zCG (((zFc n).getD k []).take j)
theorem zTl(n:zB):zGW n 2=zEG n:=by simp[zGW,zEG,zFc]
theorem zS5(n:zB):zGW n 0=(if n.leaf=true then 49 else 48)::Lib.itoa n.fact:=by simp[zGW]
theorem zO3(n:zB)(k:Nat):inT n k 0=zGW n k++[58]:=by simp[inT,zCG]
theorem zTm(n:zB)(k j:Nat)(a:j<((zFc n).getD k []).length):inT n k (j+1)=inT n k j++Lib.itoa (((zFc n).getD k [])[j])++[44]:=by
 unfold inT;rw[List.take_succ_eq_append_getElem a];generalize ((zFc n).getD k [])=l at*;unfold zCG;rw[List.flatMap_append];simp
theorem zUs(n:zB)(k:Nat)(a:k<2):inT n k ((zFc n).getD k []).length =zGW n (k+1):=by
 unfold inT zGW zFc;have:k=0\/k=1:=by omega
 rcases this with rfl|rfl<;>simp
theorem zH3(l:List Int)(h:∀x∈l,I64 x):(zCG l).length <=22*l.length:=by
 induction l with
 |nil=>simp[zCG]
 |cons a r ih=>
  rw[zEa];have:=ih λx c=>h x (List.mem_cons_of_mem _ c)
  have b:=h a (by simp);have:=Lib.itoa_length_le a b.1 b.2;simp only[List.length_append,List.length_cons];omega
theorem zQV(c:I64 n.fact)(b:∀x∈n.cuts,I64 x)(d:∀x∈n.kids,I64 x)(e:n.cuts.length<=2000000)(g:n.kids.length<=2000000)(k j:Nat)(f:k<2):(inT n k j).length <=200000000:=by
 have h:=Lib.itoa_length_le n.fact c.1 c.2;have i:=zH3 n.cuts b;have m:=zH3 n.kids d
 have o:(zCG (n.cuts.take j)).length <=22*n.cuts.length:=by
  have:=zH3 (n.cuts.take j) (λx a=>b x (List.mem_of_mem_take a));have:(n.cuts.take j).length <=n.cuts.length:=by simp;omega
  omega
 have q:(zCG (n.kids.take j)).length <=22*n.kids.length:=by
  have:=zH3 (n.kids.take j) (λx a=>d x (List.mem_of_mem_take a));have:(n.kids.take j).length <=n.kids.length:=by simp;omega
  omega
 have:k=0\/k=1:=by omega
 unfold inT zGW zFc;rcases this with rfl|rfl<;>simp<;>omega
theorem zTn(e:I64 n.fact)(d:∀x∈n.cuts,I64 x)(f:∀x∈n.kids,I64 x)(a:n.cuts.length<=2000000)(c:n.kids.length<=2000000)(k:Nat)(b:k<2):(zGW n k).length <=200000000:=by
 have:=zQV e d f a c k 0 b;rw[zO3]at this;simp at this;omega
theorem zS6(Z:zE)(n:zB)(cs:List Value)(w:World)(hn:zAP Z w cs n)(K:zAD w.heap.size w)(ap:n.cuts.length<=2000000)(ax:n.kids.length<=2000000):
  Calls prog 132 #[.agg cs.toArray] w λe w'=>e= .returned (.string ⟨(zEG n).toArray⟩)/\Bw w w':=by
 obtain⟨vc,vk,rfl,hf,ar,au⟩:=hn;have HC:=hid ar;have HK:=hid au;obtain⟨⟨L,m,rfl,c1,c2,c3,-⟩,c5⟩:=ar;obtain⟨⟨M,o,rfl,k1,k2,k3,-⟩,k5⟩:=au;have z:=hid K;have HL:=hid (zTn hf c5 k5 ap ax);have a7:=hid (zQV hf c5 k5 ap ax);have HF:=hid hf;clear K hf;have ac:=hid (zS5 n);have a9:=hid (zTl n);have a0:=hid (zO3 n);have a3:=hid (zTm n);have a1:=hid (zUs n);have bj:(prog.underlying 5)=some (.int .u8):=underlying5;cases bd:n.leaf
 all_goals
  rw[bd]at ac;go_enter func132,ntmps132
  go_wp2_with fail
  first
   |(refine(Tryz.strconv_AppendInt_10 w.heap.size 1 n.fact HF.out.1 HF.out.2 _ (Lib.byteCells [48]) _ (zFI (cells:=#[.int .u8 48]) (by have:=Blk.new (w.alloc (.cells #[.bool false,.int .i64 n.fact,.slice L n.cuts.length m,.slice M n.kids.length o] 131)) 5 #[.int .u8 48];simpa using this) (by simp) (by simp[maxLen])) (by simp;omega) (by omega) ((z.out).on (zDG w _ _))).mono ?_)
   |(refine(Tryz.strconv_AppendInt_10 w.heap.size 1 n.fact HF.out.1 HF.out.2 _ (Lib.byteCells [49]) _ (zFI (cells:=#[.int .u8 49]) (by have:=Blk.new (w.alloc (.cells #[.bool true,.int .i64 n.fact,.slice L n.cuts.length m,.slice M n.kids.length o] 131)) 5 #[.int .u8 49];simpa using this) (by simp) (by simp[maxLen])) (by simp;omega) (by omega) ((z.out).on (zDG w _ _))).mono ?_)
  rintro e W ⟨v1,rfl,q,ak,av⟩;have ao:=av w.heap.size _ ((Below.heap_alloc _ _ _ (by simp)).trans (heap_alloc_new w _)) (by simp) (by intro c fz e;injection e with _ e;exact absurd e (by decide));have t:Blk W w.heap.size 131 _:=ao;have r2:=t.at2;have r3:=t.at3;have bi:w.heap.size<W.heap.size:=t.lt;have J:=Below.trans (zDG w _ _) ak;have ab:=hid q;have X:=hid J
  obtain⟨A1,n1,H,rfl⟩:∃A1 n1 H,v1= .slice A1 n1 H:=by
   rcases q.2 with⟨hv,_⟩|⟨g,f,cur,hv,_⟩
   ·exact⟨_,_,_,hv⟩
   ·exact⟨_,_,_,hv⟩
  clear ao t av ak J q;go_wp2;go_loopw[3,26] (λv i wr=>∃k:Nat,k<=2/\i= .int .i64 k/\wr.ownsRow w.heap.size 5 1 v (zGW n k).length (Lib.byteCells (zGW n k))/\Bw w wr/\Blk wr W.heap.size 28 #[.slice L n.cuts.length m,.slice M n.kids.length o]) (λ_ i _=>2-(intOf i).toNat)
  case atStart=>
   have u:=Blk.new W 28 #[.slice L n.cuts.length m,.slice M n.kids.length o];refine⟨0,by omega,rfl,?_,X.out.alloc X.out.size _,u⟩;rw[ac.out];have:=ab.out.alloc (.cells #[.slice L n.cuts.length m,.slice M n.kids.length o] 28);simpa[Lib.byteCells,Nat.add_comm]using this
  case round=>
   obtain⟨k,hk,rfl,d,a,u⟩:=hrel;clear r2 r3;by_cases U:k<2
   ·have az:∃A f,wr.cell? ⟨W.heap.size,k,none⟩=some (.slice A ((zFc n).getD k []).length f)/\zK Z w (.slice A ((zFc n).getD k []).length f) ((zFc n).getD k []):=by
     (have:k=0\/k=1:=by omega);rcases this with rfl|rfl
     ·exact⟨L,m,u.cell 0,HC.out⟩
     ·exact⟨M,o,u.cell 1,HK.out⟩
    obtain⟨A,f,Q,C⟩:=az;have a2:=hid C;have Y:=hid (λj=>a7.out k j U);have aa:=hid (HL.out k U);have a4:=hid (a0.out k);have a6:=hid (a3.out k);have a5:=hid (a1.out k U);obtain⟨⟨_,_,_,l1,l2,l3,-⟩,l5⟩:=C;generalize ((zFc n).getD k [])=l at*;have D:=d.alloc (.cells #[.int .u8 58] 5);have ag:=u.alloc (.cells #[.int .u8 58] 5);have B:=a.alloc a.size (.cells #[.int .u8 58] 5);have y:=hid (And.intro B ag);have N:=hid D;clear d a u D ag B;go_wp2_with(at_builtin;refine z6 rfl (.tmp 30) (.tmp 31) _ rfl underlying108 Tryz.eU8 rfl N.out rfl (news:=[.int .u8 58]) rfl (one_cell (by simp)) (by simp[Value.oneCell']) (by have:=aa.out;unfold maxLen;omega) (by have:=aa.out;omega) (by have:=y.out.1.size;simpa using this) ?_;intro v5 w5 E R aj);have ah:=y.out.2.grown R (zDD y.out.2 N.out (by decide));have ad:=ze y.out.1 N.out R y.out.1.size (Nat.le_refl _);have O:=hid (And.intro E (And.intro ad ah));clear ah ad E R aj;go_wp2;go_loopw[3,35] (λv i wr=>∃j:Nat,j<=l.length/\i= .int .i64 j/\wr.ownsRow w.heap.size 5 1 v (inT n k j).length (Lib.byteCells (inT n k j))/\Bw w wr/\Blk wr W.heap.size 28 #[.slice L n.cuts.length m,.slice M n.kids.length o]) (λ_ i _=>l.length-(intOf i).toNat)
    case atStart=>
     refine⟨0,by omega,rfl,?_,O.out.2.1,O.out.2.2⟩;rw[a4.out];simpa[Lib.byteCells]using O.out.1
    case round=>
     obtain⟨j,hj,rfl,d,a,u⟩:=hrel;clear Q;by_cases T:j<l.length
     ·obtain⟨b,bf,rfl,hz,ba,hc⟩:=a2.out.at_ T;have bb:wr.cell? ⟨b,bf+j,none⟩=some (.int .i64 l[j]):=brd a hc ba;have HX:=hid (l5 l[j] (List.getElem_mem T));have F:=hid (And.intro d (And.intro a u));have a8:=hid (a6.out j T);(have al:b<wr.heap.size:=by have:=a.size;omega);clear d a u hc;generalize l[j]=x at*;(go_wp2_with fail);refine(Tryz.strconv_AppendInt_10 w.heap.size _ x HX.out.1 HX.out.2 _ _ _ F.out.1 F.out.2.1.size (by have:=Y.out j;omega) (z.out.on F.out.2.1)).mono ?_;rintro e w6 ⟨v6,rfl,s,P,aw⟩;have ai:=(F.out.2.2.othersKept aw (by simp) (by decide)).alloc (.cells #[.int .u8 44] 5);have ae:=(F.out.2.1.trans P).alloc (F.out.2.1.trans P).size (.cells #[.int .u8 44] 5);have af:=s.alloc (.cells #[.int .u8 44] 5);have G:=hid (And.intro af (And.intro ae ai))
      obtain⟨A6,n6,I,rfl⟩:∃A6 n6 I,v6= .slice A6 n6 I:=by
       rcases s.2 with⟨hv,_⟩|⟨g,f,cur,hv,_⟩
       ·exact⟨_,_,_,hv⟩
       ·exact⟨_,_,_,hv⟩
      clear ai ae af P aw s bb al;have bk:=Lib.itoa_length_le x HX.out.1 HX.out.2;have bh:=Y.out j;go_wp2_with(at_builtin;refine z6 rfl (.tmp 41) (.tmp 42) _ rfl underlying108 Tryz.eU8 rfl G.out.1 rfl (news:=[.int .u8 44]) rfl (one_cell (by simp)) (by simp[Value.oneCell']) (by unfold maxLen;omega) (by omega) (by have:=G.out.2.1.size;simpa using this) ?_;intro v7 w7 V aq bg);go_roundw
      case rel=>
       refine⟨j+1,by omega,by go_num,?_,ze G.out.2.1 G.out.1 aq G.out.2.1.size (Nat.le_refl _),G.out.2.2.grown aq (zDD G.out.2.2 G.out.1 (by decide))⟩;rw[a8.out];simpa[Lib.byteCells,Nat.add_assoc]using V
      case measure=>simp[intOf];omega
     ·(obtain rfl:j=l.length:=by omega);rw[a5.out]at d;have F:=hid (And.intro d (And.intro a u));clear d a u;go_wp2;go_roundw;(case rel=>exact⟨k+1,by omega,by go_num,F.out.1,F.out.2.1,F.out.2.2⟩);case measure=>simp[intOf];omega
   ·(obtain rfl:k=2:=by omega);rw[a9.out]at d;have ay:(zEG n).length ≠0:=by simp[zEG]
    obtain⟨g,f,rfl⟩:∃g f,u3= .slice (some ⟨g,0,none⟩) (zEG n).length f:=by
     rcases d.2 with⟨_,h⟩|⟨g,f,cur,hv,_⟩
     ·exact absurd h ay
     ·exact⟨g,f,hv⟩
    have bc:=hid (d.cells (g:=g) rfl);have HB:=hid a;clear d a u ay;go_wp2;rw[run_convert_bytes_back wr 108 9 5 ⟨g,0,none⟩ f (zEG n) underlying108 underlying5 underlying9 (λj hj=>bc.out j _ (by simp[Lib.byteCells,hj]))];simp only[Result.andThen];rw[Oper.upon_value];go_wp2;go_ret;exact⟨rfl,HB.out⟩
end
theorem Tryz.zeroInt(w:World):(zeroValue 3).run prog w= .ok (.int .i64 0) w:=by kernel_rfl
theorem Tryz.lookI{b:Nat}{a:List (ByteArray × Value)}(h:zW encS w b a)(s:ByteArray)(c:Bool):
  (Instr.lookup 154 (.map (some b)) (.string s) c).run prog w= .ok (if c then .tuple #[(zg a s).getD (.int .i64 0),.bool (zg a s).isSome]else(zg a s).getD (.int .i64 0)) w:=
 h.look (zBb (P:=prog) (k:=9) underlying9) (t:=154) (e:=3) underlying154 (Tryz.zeroInt w) s c
theorem Tryz.nilI(w:World)(r:Option Nat):(binOp .eql 154 (.map r) (.map none)).run prog w= .ok (.bool r.isNone) w:=run_eql_map_nil w _ _ _ r underlying154
theorem zG7{Z:zE}{cs:List Value}(h:zAP Z w cs n):∃a b,cs=[.bool n.leaf,.int .i64 n.fact,a,b]:=by
 obtain⟨a,b,e,_⟩:=h;exact⟨a,b,e⟩
theorem zQs(h:(∃a,MkS w' M all a Z/\∀x,a x->F x\/(w.alloc o).heap.size <=x)/\zA (λx=>¬F x) (w.alloc o) w'):
  (∃a,MkS w' M all a Z/\∀x,a x->F x\/w.heap.size<=x)/\zA (λx=>¬F x) w w':=by
 obtain⟨⟨a,b,c⟩,d⟩:=h;exact⟨⟨a,b,λx e=>(c x e).imp id (λh=>by simp at h;omega)⟩,((zA.refl _ _).alloc o).trans d⟩
theorem zO4{r:Int × List zB}{e:Ending}(a:Bw w W)(h:zCW W M F Z r e w'):zCW w M F Z r e w':=by
 obtain⟨he,⟨b,c,d⟩,f⟩:=h;exact⟨he,⟨b,c,λx g=>(d x g).imp id (λh=>Nat.le_trans a.size h)⟩,(zA.of_below a).trans f⟩
theorem zO5{Z:zE}{cs:List Value}(h:zAP Z w cs n):∀u∈cs,u.oneCell'=true:=by
 obtain⟨b,c,rfl,_,⟨⟨_,_,rfl,_⟩,_⟩,⟨⟨_,_,rfl,_⟩,_⟩⟩:=h;intro u a;simp only[List.mem_cons,List.not_mem_nil,or_false]at a;rcases a with rfl|rfl|rfl|rfl<;>rfl
theorem zPe(M:Nat)(all:List zB)(F Z Zn:Nat->Prop)(n:zB)(cs:List Value)(w:World)(h:MkS w M all F Z)(f:zAP Zn w cs n)(a:n∈all):
  Calls prog 131 #[.pointer (some ⟨M,0,none⟩),.string (zDC n),.agg cs.toArray] w λe w'=>e= .returned (.int .i64 (all.idxOf n:Nat))/\Bw w w':=by
 obtain⟨C,D,rfl⟩:=zG7 f;clear f;obtain⟨⟨v,B,i,c,j,k,m,q⟩,t,z,hF,x⟩:=h;rcases m with⟨_,h⟩|⟨b,rfl,hm,hb,hne,-⟩
 ·subst h;simp at a
 have y:=λo=>Tryz.lookI (hm.of_block (w':=w.alloc o) (Below.heap_alloc _ _ _ hm.lt)) (zDC n) true
 have d:=zIY all 0 n;rw[if_pos a]at d;simp only[d,Option.getD_some,Option.isSome_some,if_true,Nat.zero_add]at y;have A:=c.cell 0;have c1:=c.at1;have u:=c.lt;clear d c j k q t z hF x hm hb hne;generalize zDC n=s at*;have g:=Tryz.nilI;go_enter func131,ntmps131
 go_wp2;go_ret;exact⟨rfl,zF w _⟩
theorem zS7(M:Nat)(all:List zB)(F Z Zn:Nat->Prop)(n:zB)(cs:List Value)(w:World)(h:MkS w M all F Z)(hn:zAP Zn w cs n)(hz:∀b,Zn b->¬F b/\b<w.heap.size)(G:n∉all)(ak:all.length<=1000000)(aa:all≠[]):
  Calls prog 131 #[.pointer (some ⟨M,0,none⟩),.string (zDC n),.agg cs.toArray] w (zCW w M F (λb=>Z b\/Zn b) ((all.length:Nat),all++[n])):=by
 have J:=hn;obtain⟨f,j,rfl⟩:=zG7 hn;obtain⟨⟨v,mp,T,U,h2,h3,h4,h5⟩,hM,hs,hF,hZ⟩:=h;rcases h4 with⟨_,h⟩|⟨b,rfl,hm,hb,B,-⟩
 ·exact absurd h aa
 obtain⟨A,z,rfl,aj,al,-⟩:=Row.of_own h2 (by decide);have hl:=λo=>Tryz.lookI (hm.of_block (w':=w.alloc o) (Below.heap_alloc _ _ _ hm.lt)) (zDC n) true
 have E:=zIY all 0 n;rw[if_neg G]at E;simp only[E,Option.getD_none,Option.isSome_none,if_true]at hl;have u:=zLa all 0 n G;rw[Nat.zero_add]at u;have Q:=hid u;have c0:=U.at0;have c1:=U.at1;have ae:=U.lt;have ab:=Tryz.nilI;have H:=hid (And.intro U (And.intro h2 (And.intro h3 (And.intro h5 (And.intro hM (And.intro hs (And.intro hF hZ)))))));have L:=hid (λo=>hm.of_block (w':=w.alloc o) (Below.heap_alloc _ _ _ hm.lt));have HB:=hid (And.intro hb B);have O:=hid (zO5 J);have N:=hid (zI0 h2 hm);have HN:=hid J;have R:=hid hz;clear E U h2 h3 h5 hM hs hF hZ hm hb B u J hn hz G aa;generalize zDC n=s at*;have af:∀i:Nat,i<4->(w.alloc (.cells #[.bool n.leaf,.int .i64 n.fact,f,j] 131)).frozen? ⟨M,i,none⟩=false:=λi _=>((H.out.1).alloc _).frozen i
 go_enter func131,ntmps131
 go_wp2_with(at_mapUpdate;refine zCB rfl (.tmp 37) (.tmp 38) _ rfl (zBb (P:=prog) (k:=9) underlying9) (e:=3) underlying154 rfl (L.out _) s rfl ?_;intro y I d C W X);have a:=(H.out.1.alloc _).keep d HB.out.2.symm;have ap:b<w.heap.size:=H.out.2.2.2.2.2.2.1 b HB.out.1;have c:=(Blk.new w 131 #[.bool n.leaf,.int .i64 n.fact,f,j]).keep d (by show w.heap.size≠b;omega);have m:=zX (H.out.2.1.alloc _) d (λk hk e=>N.out (e▸hk));have f0:=a.frozen 0;obtain⟨b0,b1,b2,b3⟩:y.cell? ⟨w.heap.size,0,none⟩=some (.bool n.leaf)/\y.cell? ⟨w.heap.size,1,none⟩=some (.int .i64 n.fact)/\y.cell? ⟨w.heap.size,2,none⟩=some f/\y.cell? ⟨w.heap.size,3,none⟩=some j:=⟨c.cell 0,c.cell 1,c.cell 2,c.cell 3⟩;have m0:=a.at0;have ai:M<y.heap.size:=a.lt;have ac:=hid (show y.drew.ownsRow 0 131 4 (.slice A all.length z) all.length T.flatten from m);have ad:=hid (λ(w5:World)(aq:Option Nat)(E:(y.alloc (.cells #[.bool n.leaf,.int .i64 n.fact,f,j] 131)).drew.grownBy w5 (Value.slice A all.length z).ownBlock)=>(a.alloc (.cells #[.bool n.leaf,.int .i64 n.fact,f,j] 131)).drew.grown E (λe=>(H.out.2.2.2.1 M e).2 rfl))
 have HG:=hid (λ(w5:World)(v5:Value)(ho:w5.ownsRow 0 131 4 v5 (all.length+1) (T.flatten++[.bool n.leaf,.int .i64 n.fact,f,j]))(E:(y.alloc (.cells #[.bool n.leaf,.int .i64 n.fact,f,j] 131)).drew.grownBy w5 (Value.slice A all.length z).ownBlock)(ha:v5.ownBlock=(Value.slice A all.length z).ownBlock \/v5.ownBlock=some (y.alloc (.cells #[.bool n.leaf,.int .i64 n.fact,f,j] 131)).drew.heap.size)=>
  zQs (zO0 (H.out.1.alloc (.cells #[.bool n.leaf,.int .i64 n.fact,f,j] 131)) (H.out.2.1.alloc _) (NdL.keep ((zA.refl _ _).alloc _) H.out.2.2.1) H.out.2.2.2.1 H.out.2.2.2.2.1 HB.out.1 HB.out.2 N.out H.out.2.2.2.2.2.1 (λx K=>by have:=H.out.2.2.2.2.2.2.1 x K;simp;omega) (λx K=>by have:=H.out.2.2.2.2.2.2.2 x K;simp;omega) (HN.out.keep ((zA.refl _ _).alloc _)) (λx K=>⟨(R.out x K).1,by have:=(R.out x K).2;simp;omega⟩) d (Q.out▸I) E ho ha))
 have ao:=hid (And.intro a (And.intro c (And.intro I (And.intro d C))));clear a c I d W X m c0 c1 af hl ab ae C;go_region_law(refine zEH rfl (.tmp 44) (.tmp 46) _ rfl underlying81 Tryz.eNode rfl (ac.out.alloc _) rfl (news:=[.bool n.leaf,.int .i64 n.fact,f,j]) rfl (zIZ (cs:=[.bool n.leaf,.int .i64 n.fact,f,j]) (t:=131) (g:=y.heap.size) (by have:=Blk.new y 131 #[.bool n.leaf,.int .i64 n.fact,f,j];exact this.drew)) O.out (by unfold maxLen;omega) (by omega) (Nat.zero_le _) ?_;intro v5 w5 q Y V;obtain⟨g5,ah,ag⟩:=zAm q;subst ag;have D:=ad.out _ none Y;have d0:=D.cell 0;have d1:=D.frozen 0;have d2:=D.lt)
 all_goals
  have HE:=HG.out _ _ q Y V;clear d0 d1 d2;go_wp2;go_ret;exact⟨rfl,HE⟩
theorem zQt{u:Value}(g:F M)(c:M<w.heap.size)
  (h:(∃a,MkS w' M all a Z/\∀x,a x->(F x\/x=w.heap.size+1)\/(((w.setCell ⟨M,1,none⟩ u).alloc o).alloc (.map #[] 0)).heap.size <=x)/\zA (λx=>¬(F x\/x=w.heap.size+1)) (((w.setCell ⟨M,1,none⟩ u).alloc o).alloc (.map #[] 0)) w'):
  (∃a,MkS w' M all a Z/\∀x,a x->F x\/w.heap.size<=x)/\zA (λx=>¬F x) w w':=by
 obtain⟨⟨a,d,e⟩,f⟩:=h;refine⟨⟨a,d,λx b=> ?_⟩,zA.wide ?_⟩
 ·rcases e x b with(h|h)|h
  ·exact Or.inl h
  ·exact Or.inr (by omega)
  ·simp at h;exact Or.inr (by omega)
 ·refine zA.trans (w':=(((w.setCell ⟨M,1,none⟩ u).alloc o).alloc (.map #[] 0))) ?_ (f.mono λx _ b=> ?_)
  ·exact(((zA.refl _ _).setCell (λ_ b=>b.1 g) _).alloc _).alloc _
  ·rintro(h|h)
   ·exact b.1 h
   ·omega
theorem zS8(M:Nat)(F Z Zn:Nat->Prop)(n:zB)(cs:List Value)(w:World)(h:MkS w M [] F Z)(hn:zAP Zn w cs n)(hz:∀b,Zn b->¬F b/\b<w.heap.size):
  Calls prog 131 #[.pointer (some ⟨M,0,none⟩),.string (zDC n),.agg cs.toArray] w (zCW w M F (λb=>Z b\/Zn b) ((([]:List zB).length :Nat),[]++[n])):=by
 have O:=hn;obtain⟨f,i,rfl⟩:=zG7 hn;obtain⟨⟨v,mp,J,K,U,h3,h4,h5⟩,hM,hs,hF,hZ⟩:=h
 obtain rfl:mp= .map none:=by
  rcases h4 with⟨h,_⟩|⟨_,_,_,_,_,h⟩
  ·exact h
  ·exact absurd rfl h
 clear h4;obtain⟨A,a,rfl,au,av,-⟩:=Row.of_own U (by decide)
 have ak:J=[]:=by
  cases J with
  |nil=>rfl
  |cons=>exact h3.elim
 subst ak;have c0:=K.at0;have c1:=K.at1;have f1:=K.frozen 1;have aj:=K.lt;have ad:=Tryz.nilI;have al:= @run_makeMap prog;have aa:zAU (zDd [] 0) (zDC n) (.int .i64 0)=zDd ([]++[n]) 0:=rfl;have T:=hid aa;have R:=hid (zO5 O);let D:=(((w.setCell ⟨M,1,none⟩ (.map (some (w.heap.size+1)))).alloc (.cells #[.bool n.leaf,.int .i64 n.fact,f,i] 131)).alloc (.map #[] 0))
 have o:zW encS D (w.heap.size+1) []:=by
  have:=zW.made ((w.setCell ⟨M,1,none⟩ (.map (some (w.heap.size+1)))).alloc (.cells #[.bool n.leaf,.int .i64 n.fact,f,i] 131)) encS;simp only[World.size_alloc,World.size_setCell]at this;exact this
 have hl:=Tryz.lookI o (zDC n) true;simp only[zg,Option.getD_none,Option.isSome_none,if_true]at hl
 have c:Blk D M 174 #[.slice A 0 a,.map (some (w.heap.size+1))]:=by
  have:=(((K.set_ 1 (.map (some (w.heap.size+1)))).alloc (.cells #[.bool n.leaf,.int .i64 n.fact,f,i] 131)).alloc (.map #[] 0));exact this
 have N:zA (λx=>x≠M) w D:=(((zA.refl _ _).setCell (λ_ d=>d rfl) _).alloc _).alloc _;have I:D.heap.size=w.heap.size+2:=by simp[D]
 have E:Blk D w.heap.size 131 #[.bool n.leaf,.int .i64 n.fact,f,i]:=by
  have:=((Blk.new (w.setCell ⟨M,1,none⟩ (.map (some (w.heap.size+1)))) 131 #[.bool n.leaf,.int .i64 n.fact,f,i]).alloc (.map #[] 0));simp only[World.size_setCell]at this;exact this
 have G:D.ownsRow 0 131 4 (.slice A 0 a) 0 ([]:List (List Value)).flatten :=zX U N (λk Q=>(h5 k Q).2);have ac:(Value.slice A 0 a).ownBlock ≠some (w.heap.size+1):=λe=>by have:=(U.lt _ e).2;omega
 have H:=hid (And.intro K (And.intro U (And.intro h5 (And.intro hM (And.intro hs (And.intro hF hZ))))));have j:=hid (And.intro c (And.intro N (And.intro I (And.intro E (And.intro G (And.intro ac o))))));have HN:=hid O;have C:=hid hz;have ap:=hid (λ(h:zW encS D (w.heap.size+1) [])=>h);have af:=c.at0;have ag:=c.at1;simp only[D]at hl af ag;clear K U h3 h5 hM hs hF hZ O hn hz aa c N E G o ac I;generalize zDC n=s at*;go_enter func131,ntmps131
 go_wp2_with(at_mapUpdate;refine zCB rfl (.tmp 37) (.tmp 38) _ rfl (zBb (P:=prog) (k:=9) underlying9) (e:=3) underlying154 rfl (j.out.2.2.2.2.2.2) s rfl ?_;intro B ab u ae W X);have m:=j.out.1.keep u (by show M≠w.heap.size+1;omega);have q:=j.out.2.2.2.1.keep u (by show w.heap.size≠w.heap.size+1;omega);have y:=zX j.out.2.2.2.2.1 u (λk Q e=>j.out.2.2.2.2.2.1 (e▸Q));have f0:=m.frozen 0;obtain⟨b0,b1,b2,b3⟩:B.cell? ⟨w.heap.size,0,none⟩=some (.bool n.leaf)/\B.cell? ⟨w.heap.size,1,none⟩=some (.int .i64 n.fact)/\B.cell? ⟨w.heap.size,2,none⟩=some f/\B.cell? ⟨w.heap.size,3,none⟩=some i:=⟨q.cell 0,q.cell 1,q.cell 2,q.cell 3⟩;have m0:=m.at0;have ar:M<B.heap.size:=m.lt;have ah:=hid (show B.drew.ownsRow 0 131 4 (.slice A 0 a) 0 ([]:List (List Value)).flatten from y);have ai:=hid (λ(w5:World)(aw:Option Nat)(hg:(B.alloc (.cells #[.bool n.leaf,.int .i64 n.fact,f,i] 131)).drew.grownBy w5 (Value.slice A 0 a).ownBlock)=>(m.alloc (.cells #[.bool n.leaf,.int .i64 n.fact,f,i] 131)).drew.grown hg (λe=>(H.out.2.2.1 M e).2 rfl))
 have HG:=hid (λ(w5:World)(v5:Value)(ho:w5.ownsRow 0 131 4 v5 (0+1) (([]:List (List Value)).flatten ++[.bool n.leaf,.int .i64 n.fact,f,i]))(hg:(B.alloc (.cells #[.bool n.leaf,.int .i64 n.fact,f,i] 131)).drew.grownBy w5 (Value.slice A 0 a).ownBlock)(ha:v5.ownBlock=(Value.slice A 0 a).ownBlock \/v5.ownBlock=some (B.alloc (.cells #[.bool n.leaf,.int .i64 n.fact,f,i] 131)).drew.heap.size)=>
  zQt H.out.2.2.2.1 H.out.1.lt (zO0 (all:=[]) (csl:=[]) (Fa:=λx=>F x\/x=w.heap.size+1) j.out.1 j.out.2.2.2.2.1 trivial (λk Q=>⟨Or.inl (H.out.2.2.1 k Q).1,(H.out.2.2.1 k Q).2⟩) (Or.inl H.out.2.2.2.1) (Or.inr rfl) (by have:=H.out.1.lt;omega) j.out.2.2.2.2.2.1
   (λx d h=>by
    rcases h with h|h
    ·exact H.out.2.2.2.2.1 x d h
    ·have:=H.out.2.2.2.2.2.2 x d;omega)
   (λx d=>by
    rw[j.out.2.2.1];rcases d with h|h
    ·have:=H.out.2.2.2.2.2.1 x h;omega
    ·omega)
   (λx d=>by rw[j.out.2.2.1];have:=H.out.2.2.2.2.2.2 x d;omega)
   (HN.out.keep (j.out.2.1.mono λx _ d e=>(C.out x d).1 (e▸H.out.2.2.2.1)))
   (λx d=>⟨λh=>by
    rcases h with h|h
    ·exact(C.out x d).1 h
    ·have:=(C.out x d).2;omega,by rw[j.out.2.2.1];have:=(C.out x d).2;omega⟩) u (T.out▸ab) hg ho ha))
 clear m q ab u W X y c0 c1 hl ad aj ae af ag f1 al;go_region_law(refine zEH rfl (.tmp 44) (.tmp 46) _ rfl underlying81 Tryz.eNode rfl (ah.out.alloc _) rfl (news:=[.bool n.leaf,.int .i64 n.fact,f,i]) rfl (zIZ (cs:=[.bool n.leaf,.int .i64 n.fact,f,i]) (t:=131) (g:=B.heap.size) (by have:=Blk.new B 131 #[.bool n.leaf,.int .i64 n.fact,f,i];exact this.drew)) R.out (by unfold maxLen;omega) (by omega) (Nat.zero_le _) ?_;intro v5 w5 z Y V;obtain⟨g5,aq,ao⟩:=zAm z;subst ao;have L:=ai.out _ none Y;have d0:=L.cell 0;have d1:=L.frozen 0;have d2:=L.lt)
 all_goals
  have HE:=HG.out _ _ z Y V;clear d0 d1 d2;go_wp2;go_ret;exact⟨rfl,HE⟩
theorem zS9(M:Nat)(all:List zB)(F Z Zn:Nat->Prop)(n:zB)(cs:List Value)(w:World)(h:MkS w M all F Z)(m:zAP Zn w cs n)(j:∀b,Zn b->¬F b/\b<w.heap.size)(g:all.length<=1000000):
  Calls prog 131 #[.pointer (some ⟨M,0,none⟩),.string (zDC n),.agg cs.toArray] w (zCW w M F (λb=>Z b\/Zn b) (zo all n)):=by
 by_cases c:n∈all
 ·refine(zPe M all F Z Zn n cs w h m c).mono ?_;rintro e w' ⟨rfl,a⟩;unfold zo;rw[if_pos c];refine⟨rfl,⟨F,?_,λb a=>Or.inl a⟩,.of_below a⟩;have f:=h.below a;obtain⟨v,x,k,o,q,s,t,u⟩:=f.ex;refine⟨⟨v,x,k,o,q,NdL.mono (λb a=>Or.inl a) s,t,u⟩,f.fM,λb a=> ?_,f.liveF,λb a=> ?_⟩
  ·rcases a with a|a
   ·exact f.sep b a
   ·exact(j b a).1
  ·rcases a with d|d
   ·exact f.liveZ b d
   ·exact Nat.lt_of_lt_of_le (j b d).2 a.size
 ·have e:zo all n=(((all.length:Nat):Int),all++[n]):=by unfold zo;rw[if_neg c]
  rw[e];by_cases i:all=[]
  ·subst i;exact zS8 M F Z Zn n cs w h m j
  ·exact zS7 M all F Z Zn n cs w h m j c g i
structure zSa (w:World) (F Zn:Nat->Prop) (n:zB) (cs:List Value):Prop where
 is:zAP Zn w cs n
 off:∀b,Zn b->¬F b/\b<w.heap.size
 cuts:n.cuts.length<=2000000
 kids:n.kids.length<=2000000
theorem zGv(M:Nat)(all:List zB)(F Z Zn:Nat->Prop)(n:zB)(cs:List Value)(w:World)(h:MkS w M all F Z)(m:zSa w F Zn n cs)(k:all.length<=1000000)(q:zAD w.heap.size w):
  Calls prog 100 #[.pointer (some ⟨M,0,none⟩),.agg cs.toArray] w (zCW w M F (λb=>Z b\/Zn b) (zo all n)):=by
 obtain⟨m,z,H,I⟩:=m;have f:=m;obtain⟨s,t,rfl⟩:=zG7 m;have G:=h.liveF M h.fM;have D:=hid (λW(c:Bw w W)=>zS6 Zn n _ W (f.keep (.of_below c)) ((q.on c).mono c.size) H I);have B:=hid (λW(c:Bw w W)=>zS9 M all F Z Zn n _ W (h.below c) (f.keep (.of_below c)) (λb g=>⟨(z b g).1,Nat.lt_of_lt_of_le (z b g).2 c.size⟩) k);have C:=hid (λ(W E:World)(e:Ending)(c:Bw w W)(J:zCW W M F (λb=>Z b\/Zn b) (zo all n) e E)=>zO4 c J);have y:=hid (show ¬F w.heap.size from λK=>by have:=h.liveF _ K;omega);clear h m f z;go_enter func100,ntmps100
 go_wp2
 go_region_held3(λw'=>w'.cell? ⟨w.heap.size,0,none⟩=some (.bool n.leaf)/\w'.cell? ⟨w.heap.size,1,none⟩=some (.int .i64 n.fact)/\w'.cell? ⟨w.heap.size,2,none⟩=some s/\w'.cell? ⟨w.heap.size,3,none⟩=some t) (first|exact⟨L,N,O,P⟩|exact⟨Q,R,T,U⟩|(refine⟨?_,?_,?_,?_⟩<;>go_keep))
  (first
   |(go_at_call 132;refine(D.out _ (zF w _).drew).mono ?_;rintro e u ⟨rfl,i⟩;have a:=(Blk.new w 131 #[.bool n.leaf,.int .i64 n.fact,s,t]).drew.below i (by simp);have Q:u.cell? ⟨w.heap.size,0,none⟩=some (.bool n.leaf):=a.cell 0;have R:u.cell? ⟨w.heap.size,1,none⟩=some (.int .i64 n.fact):=a.cell 1;have T:u.cell? ⟨w.heap.size,2,none⟩=some s:=a.cell 2;have U:u.cell? ⟨w.heap.size,3,none⟩=some t:=a.cell 3;have j:=zD (zF w _).drew i (by simp))
   |(go_at_call 131;refine(B.out _ j).mono ?_;rintro e v ⟨rfl,o⟩;have d:=a.keep o.2 y.out;have L:v.cell? ⟨w.heap.size,0,none⟩=some (.bool n.leaf):=d.cell 0;have N:v.cell? ⟨w.heap.size,1,none⟩=some (.int .i64 n.fact):=d.cell 1;have O:v.cell? ⟨w.heap.size,2,none⟩=some s:=d.cell 2;have P:v.cell? ⟨w.heap.size,3,none⟩=some t:=d.cell 3))
 all_goals
  have A:=C.out _ _ _ j ⟨rfl,o⟩;have x:=hid A;clear A;go_wp2;go_ret;exact x.out
def lastOf(l:List Int):Int:=l.getD (l.length-1) 0
theorem zPf(a b:Int)(l:List Int):lastOf (a::b::l)=lastOf (b::l):=by
 unfold lastOf;simp[List.getD_eq_getElem?_getD]
theorem zI1:∀(last:Int)(ss ks:List Int)(s k:Int),ss.length=ks.length->
  zR last (ss++[s]) (ks++[k])=if k=lastOf (last::(zR last ss ks).2)then zR last ss ks else((zR last ss ks).1++[s],(zR last ss ks).2++[k])
 |last,[],[],s,k,_=>by
  simp only[List.nil_append,zR,lastOf];simp
 |last,a::ss,b::ks,s,k,h=>by
  have c:ss.length=ks.length:=by simpa using h
  have e:∀(x:List Int)(y:List Int),zR last (a::x) (b::y)=if b=last then zR last x y else(a::(zR b x y).1,b::(zR b x y).2):=λx y=>by rw[zR]
  rw[List.cons_append,List.cons_append,e,e];by_cases d:b=last
  ·simp only[if_pos d];exact zI1 last ss ks s k c
  ·simp only[if_neg d];rw[zI1 b ss ks s k c,zPf];split<;>simp
 | _,[],_::_,_,_,h=>by simp at h
 | _,_::_,[],_,_,h=>by simp at h
theorem zQu{a kids:List Int}(h:a.length=kids.length)(b:k<kids.length)(last:Int):
  zR last (a.take (k+1)) (kids.take (k+1))=if kids.getD k 0=lastOf (last::(zR last (a.take k) (kids.take k)).2)then zR last (a.take k) (kids.take k)
   else((zR last (a.take k) (kids.take k)).1++[a.getD k 0],(zR last (a.take k) (kids.take k)).2++[kids.getD k 0]):=by
 rw[List.take_succ_eq_append_getElem b,List.take_succ_eq_append_getElem (by omega),zI1 _ _ _ _ _ (by simp[h])];simp[List.getD_eq_getElem?_getD,List.getElem?_eq_getElem b,List.getElem?_eq_getElem (show k<a.length by omega)]
theorem zE4:∀(last:Int)(ss ks:List Int),(zR last ss ks).2.length <=ks.length
 |last,s::ss,k::ks=>by
  unfold zR;split
  ·have:=zE4 last ss ks;simp;omega
  ·have:=zE4 k ss ks;simp;omega
 | _,[],_=>by simp[zR]
 | _,_::_,[]=>by simp[zR]
theorem zI2:∀(last:Int)(ss ks:List Int),∀k∈(zR last ss ks).1,k∈ss
 |last,s::ss,k::ks,x,a=>by
  unfold zR at a;split at a
  ·exact List.mem_cons_of_mem _ (zI2 last ss ks x a)
  ·rcases List.mem_cons.1 a with rfl|a
   ·simp
   ·exact List.mem_cons_of_mem _ (zI2 k ss ks x a)
 | _,[],_,_,h=>absurd h (by simp[zR])
 | _,_::_,[],_,h=>absurd h (by simp[zR])
theorem zQv(a kids:List Int)(b:a≠[])(c:kids≠[]):zR (kids.getD 0 0) (a.drop 1) (kids.drop 1)=zR (kids.getD 0 0) a kids:=by
 cases a with
 |nil=>exact absurd rfl b
 |cons s ss=>
  cases kids with
  |nil=>exact absurd rfl c
  |cons k ks=>simp only[List.drop_succ_cons,List.drop_zero,List.getD_cons_zero];rw[zKz]
theorem zI3{n:Nat}{xs:List Int}(h:w.ownsRow base e 1 v n (xs.map (.int .i64)))(k:∀x∈xs,I64 x)(m:xs.length*8<=140737488355328):zK (λb=>v.ownBlock=some b) w v xs:=by
 have o:xs.length=n:=by have:=h.1;simpa using this
 subst o;obtain⟨A,a,rfl,f,g,i⟩:=Row.of_own h (by omega);refine⟨⟨A,a,rfl,f,by simpa[maxLen]using g,m,λc=> ?_⟩,k⟩;obtain⟨b,d,rfl,_,j⟩:=i c;exact⟨b,d,rfl,rfl,j⟩
def zQW(w:World)(M:Nat)(F Z:Nat->Prop)(r:Int × List zB)(e:Ending)(w':World):Prop:=
 e= .returned (.int .i64 r.1)/\(∃F' Z',MkS w' M r.2 F' Z'/\(∀b,F' b->F b\/w.heap.size<=b)/\∀b,Z' b->Z b\/w.heap.size<=b)/\zA (λb=>¬F b) w w'
theorem zSb{F Z Zn:Nat->Prop}{r:Int × List zB}{e:Ending}(c:Bw w wr)(j:∀b,Zn b->w.heap.size<=b)(h:zCW wr M F (λb=>Z b\/Zn b) r e w'):zQW w M F Z r e w':=by
 obtain⟨he,⟨d,f,g⟩,i⟩:=h;exact⟨he,⟨d,_,f,λx a=>(g x a).imp id (λh=>Nat.le_trans c.size h),λx a=>a.imp id (j x)⟩,(zA.of_below c).trans i⟩
def zBG(base:Nat)(wr:World)(kb koff:Nat)(vq:Value)(k0:Int)(q:List Int):Prop:=
 (q=[]/\vq= .slice (some ⟨kb,koff,none⟩) 1 1)\/(q≠[]/\wr.ownsRow base 3 1 vq (q.length+1) ((k0::q).map (.int .i64)))
theorem zBG.open_(h:zBG base wr kb koff vq k0 q)(e:wr.cell? ⟨kb,koff,none⟩=some (.int .i64 k0)):
  ∃d b a,vq= .slice (some ⟨d,b,none⟩) (q.length+1) a/\q.length+1<=a/\wr.cell? ⟨d,b+q.length,none⟩=some (.int .i64 (lastOf (k0::q))):=by
 rcases h with⟨rfl,rfl⟩|⟨_,h⟩
 ·exact⟨kb,koff,1,rfl,Nat.le_refl _,by simpa[lastOf]using e⟩
 ·obtain⟨g,c,rfl⟩:=zAm h
  have f:=h.cells (g:=g) rfl q.length (.int .i64 (lastOf (k0::q))) (by
   unfold lastOf
   rw[List.getElem?_map,List.length_cons,Nat.add_sub_cancel,List.getD_eq_getElem?_getD,List.getElem?_eq_getElem (by simp)];rfl)
  refine⟨g,0,c,rfl,?_,by rwa[show(⟨g,0,none⟩:Addr).add q.length=⟨g,0+q.length,none⟩ from by unfold Addr.add;split<;>simp_all]at f⟩;rcases h.2 with⟨hv,_⟩|⟨g',cap',cur,hv,_,_,hle,_⟩
  ·cases hv
  ·injection hv with _ _ hv;omega
def zEZ(q:List Int)(vq:Value):Option Nat:=if q=[]then none else vq.ownBlock
theorem zDv(h:zEZ q vq=some k):q≠[]/\vq.ownBlock=some k:=by
 unfold zEZ at h;split at h
 ·cases h
 ·rename_i hq;exact⟨hq,h⟩
section kidsAre
variable {base kb koff:Nat} {w w':World} {vq:Value} {k0:Int} {q:List Int}
theorem zBG.keep{Z:zE}(h:zBG base w kb koff vq k0 q)(b:zA Z w w')(c:∀k,q≠[]->vq.ownBlock=some k->Z k):zBG base w' kb koff vq k0 q:=
 h.imp id λh=>⟨h.1,zX h.2 b λk a=>c k h.1 a⟩
theorem zBG.alloc(h:zBG base w kb koff vq k0 q)(o:Obj):zBG base (w.alloc o) kb koff vq k0 q:=h.imp id λh=>⟨h.1,h.2.alloc o⟩
theorem zBG.lt'(h:zBG base w kb koff vq k0 q)(b:q≠[])(a:vq.ownBlock=some k):k<w.heap.size:=by
 rcases h with⟨h,_⟩|⟨_,h⟩
 ·exact absurd h b
 ·exact(h.lt k a).2
theorem zBG.ge(h:zBG base w kb koff vq k0 q)(b:q≠[])(a:vq.ownBlock=some k):base<=k:=by
 rcases h with⟨h,_⟩|⟨_,h⟩
 ·exact absurd h b
 ·exact(h.lt k a).1
theorem zBG.form{q:List Int}(h:zBG base w kb koff vq k0 (q++[x])):∃g a,vq= .slice (some ⟨g,0,none⟩) (q.length+1+1) a:=by
 rcases h with⟨h,_⟩|⟨_,h⟩
 ·simp at h
 ·rw[List.length_append,List.length_singleton]at h;exact zAm h
end kidsAre
theorem zEk{base v b g off c:Nat}{M:List Int}{o:Oper}{a:Act}{K:Act->World->Prop}{Q:Exit->Act->World->Prop}(h:zBG base W v b vq k0 M)(D:W.cell? ⟨v,b,none⟩=some (.int .i64 k0))
  (s y:Operand)(A:o.op= .call {callee:= .builtin .append,args:=#[s,y],argTypes:=#[28,28]})(B:a.eval s=vq)(C:a.eval y= .slice (some ⟨g,off,none⟩) 1 c)(E:W.cell? ⟨g,off,none⟩=some (.int .i64 x))(F:M.length<=2000000)(z:base<=W.heap.size)
  (w:∀m w',zBG base w' v b m k0 (M++[x])->W.grownBy w' (zEZ M vq)->(∀k,m.ownBlock=some k->W.heap.size<=k\/(M≠[]/\vq.ownBlock=some k))->K (a.put o.dst m) w'):Oper.wp prog o a W K Q:=by
 have n:∀j u,([.int .i64 x]:List Value)[j]? =some u->W.cell? ⟨g,off+j,none⟩=some u:=λj u i=>by
  cases j with
  |zero=>simp at i;subst i;simpa using E
  |succ j=>simp at i
 rcases h with⟨rfl,rfl⟩|⟨hne,hown⟩
 ·refine zL5 s y _ A underlying28 Tryz.eInt B (olds:=[.int .i64 k0]) rfl (λj u i=> ?_) C (news:=[.int .i64 x]) rfl n (by omega) (by unfold maxLen;omega) (by omega) (λm w' d f=>w m w' (Or.inr ⟨by simp,?_⟩) (by unfold zEZ;rw[if_pos rfl];exact f) (λk q=>Or.inl (d.lt k q).1))
  ·cases j with
   |zero=>simp at i;subst i;simpa using D
   |succ j=>simp at i
  ·have:=d;refine⟨by simp,?_⟩;rcases this.2 with⟨_,h⟩|⟨g',cap,cur,e,hg,h⟩
   ·omega
   ·exact Or.inr ⟨g',cap,cur,e,Nat.le_trans z hg,h⟩
 ·refine zAz s y _ A underlying28 Tryz.eInt B hown C (news:=[.int .i64 x]) rfl n (by simp[Value.oneCell']) (by unfold maxLen;omega) (by omega) z (λm w' d f t=>w m w' (Or.inr ⟨by simp,?_⟩) (by unfold zEZ;rw[if_neg hne];exact f) (λk q=> ?_))
  ·simpa using d
  ·rcases t with e|e
   ·exact Or.inr ⟨hne,e▸q⟩
   ·rw[q]at e;injection e with e;exact Or.inl (by omega)
def zO6(w wr:World)(i:Int)(kb koff:Nat)(k0:Int)(m:List Int × List Int)(vc vq:Value):Prop:=
 Blk wr w.heap.size 131 #[.bool false,.int .i64 i,vc,vq]/\wr.ownsRow (w.heap.size+1) 3 1 vc m.1.length (m.1.map (.int .i64))/\zBG (w.heap.size+1) wr kb koff vq k0 m.2/\(∀b,vc.ownBlock=some b->vq.ownBlock=some b->False)/\Bw w wr/\w.heap.size+1<=wr.heap.size
theorem zQw{t s x:Int}{m M':List Int × List Int}{g j d f:Value}(A:Blk wr w.heap.size 131 #[.bool false,.int .i64 i,g,j])
  (u:wr.ownsRow (w.heap.size+1) 3 1 g m.1.length (m.1.map (.int .i64)))(v:zBG (w.heap.size+1) wr kb koff j t m.2)(B:Bw w wr)(F:w.heap.size+1<=wr.heap.size)
  (n:zA (λb=>b<wr.heap.size/\g.ownBlock≠some b/\zEZ m.2 j≠some b) wr W)(y:W.ownsRow (w.heap.size+1) 3 1 d (m.1.length+1) (m.1.map (.int .i64)++[.int .i64 s]))(z:zBG (w.heap.size+1) W kb koff f t (m.2++[x]))(E:∀k,d.ownBlock=some k->f.ownBlock=some k->False)(C:M'=(m.1++[s],m.2++[x])):
  ∃(g j:Value),zO6 w ((W.setCell ⟨w.heap.size,2,none⟩ d).setCell ⟨w.heap.size,3,none⟩ f) i kb koff t M' g j:=by
 subst C;have o:w.heap.size<wr.heap.size/\g.ownBlock≠some w.heap.size/\zEZ m.2 j≠some w.heap.size:=⟨by omega,λh=>by have:=(u.lt _ h).1;omega,λh=>by have c:=zDv h;have:=v.ge c.1 c.2;omega⟩;have a:zA (λb=>b≠w.heap.size) W ((W.setCell ⟨w.heap.size,2,none⟩ d).setCell ⟨w.heap.size,3,none⟩ f):=((zA.refl _ _).setCell (λ_ h=>h rfl) _).setCell (λ_ h=>h rfl) _;refine⟨d,f,(((A.keep n o).set_ 2 d).set_ 3 f),?_,?_,E,?_,?_⟩
 ·have:=zX y a (λk q e=>by have:=(y.lt k q).1;omega);simpa using this
 ·exact z.keep a (λk q c e=>by have:=z.ge q c;omega)
 ·refine zHx ?_ (Nat.le_refl _);refine(zFw B).trans ((n.mono λb _ D=>⟨by omega,λh=>by have:=(u.lt _ h).1;omega,λh=>by have c:=zDv h;have:=v.ge c.1 c.2;omega⟩).trans (a.mono λb _ D e=>by omega))
 ·have:=n.size;have:=a.size;omega
theorem zNK(M:Nat)(all:List zB)(F Z Zs:Nat->Prop)(i:Int)(vs vk:Value)(a kids:List Int)(w:World)(h:MkS w M all F Z)(hs:zK Zs w vs a)(c:zK Zs w vk kids)(n:∀b,Zs b->¬F b)
  (hi:I64 i)(ac:a.length=kids.length)(bg:kids≠[])(cx:kids.length<=2000000)(cd:all.length<=1000000)(bq:zAD w.heap.size w):
  Calls prog 108 #[.pointer (some ⟨M,0,none⟩),.int .i64 i,vs,vk] w (zQW w M F Z (zAT all i a kids)):=by
 have bp:a≠[]:=by intro e;subst e;simp at ac;exact bg (List.eq_nil_of_length_eq_zero ac.symm)
 obtain⟨sb,a7,c8,rfl,dg,de,dd,aj⟩:=hs.open_ bp;obtain⟨kb,koff,cn,rfl,df,cy,c9,V⟩:=c.open_ bg;have bf:0<kids.length:=List.length_pos_iff.2 bg;obtain⟨⟨A',c',e1,e2,e3,e4,-⟩,bx⟩:=c;injection e1 with q1 q2 q3;subst q3;clear q1 q2;have h0:=V 0 bf;rw[Nat.add_zero]at h0;have c0:(1:Int)<=(cn:Int):=by omega
 have HT:=hid (λ(k:Nat)(c:k<kids.length)=>zQu ac c (kids.getD 0 0));have cs:=hid (λx(hx:x∈(zR (kids.getD 0 0) a kids).1)=>hs.fit x (zI2 _ _ _ x hx));have ag:=hid ac;clear ac;go_enter func108,ntmps108
 go_wp2;have b8:=hid (λ(k:Nat)=>zE4 (kids.getD 0 0) (a.take k) (kids.take k));have bl:=hid (show zAT all i a kids=if(zR (kids.getD 0 0) a kids).2=[]then(kids.getD 0 0,all)else zo all ⟨false,i,(zR (kids.getD 0 0) a kids).1,kids.getD 0 0::(zR (kids.getD 0 0) a kids).2⟩ from rfl);have E:=hid aj;have aw:=hid V;have HM:=hid h;have HZ:=hid n;clear aj V h n h0 hs;go_loopw[18] (λix wr=>∃(k:Nat)(R vq:Value),k<=kids.length/\ix= .int .i64 k/\zO6 w wr i kb koff (kids.getD 0 0) (zR (kids.getD 0 0) (a.take k) (kids.take k)) R vq) (λix _=>kids.length-(intOf ix).toNat)
 case atStart=>
  refine⟨0,.slice none 0 0,.slice (some ⟨kb,koff,none⟩) 1 1,Nat.zero_le _,rfl,Blk.new w _ _,World.ownsRow_nil _ _ _ _,Or.inl ⟨rfl,rfl⟩,λb N=>by simp[Value.ownBlock]at N,zF w _,by simp⟩
 case round=>
  obtain⟨k,R,vq,c,rfl,P,a0,af,ah,J,bi⟩:=hrel;by_cases bz:k<kids.length
  ·have ck:sb<w.heap.size:=lt_of_cell (E.out k (by have:=ag.out;omega));have bw:kb<w.heap.size:=lt_of_cell (aw.out k bz);have cw:=(J.cell (p:=⟨kb,koff+k,none⟩) bw).trans (aw.out k bz);have ce:=(J.cell (p:=⟨sb,a7+k,none⟩) ck).trans (E.out k (by have:=ag.out;omega));have ak:=(J.cell (p:=⟨kb,koff,none⟩) bw).trans (aw.out 0 bf);obtain⟨T,f,d,a6,cj,ai⟩:=af.open_ ak;have dc:=lt_of_cell ai;have b2:=P.at2;have b3:=P.at3;have cm:=HT.out k bz;have bh:(zR (kids.getD 0 0) (a.take k) (kids.take k)).2.length <=2000000:=Nat.le_trans (b8.out k) (by simp;omega);(have db:k<a.length:=by have:=ag.out;omega);have cr:=hid (show(zR (kids.getD 0 0) (a.take k) (kids.take k)).1.length <=2000000 from by rw[zGP];exact bh);generalize hm:zR (kids.getD 0 0) (a.take k) (kids.take k)=m at*;generalize a4:lastOf (kids.getD 0 0::m.2)=last at*;have b9:=hid cm;have A:=hid (And.intro P (And.intro a0 (And.intro af (And.intro ah (And.intro J bi)))));have ab:=hid a6;have bb:=hid (And.intro hm a4);clear cm P a0 af ah J bi hm a4;generalize kids.getD k 0=x at*;generalize a.getD k 0=s at*;generalize kids.getD 0 0=k0 at*;subst a6;(have q1:(0:Int)<=(m.2.length:Int):=by omega);(have q2:m.2.length<m.2.length+1:=by omega);have bi:=A.out.2.2.2.2.2;by_cases al:x=last
   ·(have hx:(x !=last)=false:=by simp[al]);have HN:=hid ((b9.out).trans (if_pos al));clear al;go_wp2;go_roundw
    case rel=>
     refine⟨k+1,R,.slice (some ⟨T,f,none⟩) (m.2.length+1) d,by omega,by go_num,?_⟩;rw[HN.out];exact A.out
    case measure=>simp[intOf];omega
   ·(have hx:(x !=last)=true:=by simp[al]);have HN:=hid ((b9.out).trans (if_neg al));clear al;go_wp2;have da:=cr.out;have ab:=hid (λk(hq:m.2≠[])(c:(Value.slice (some ⟨T,f,none⟩) (m.2.length+1) d).ownBlock =some k)=>A.out.2.2.1.lt' hq c);have ca:=hid (λk(c:R.ownBlock=some k)=>(A.out.2.1.lt k c).2);have C:=hid A.out.2.2.2.1;have ap:=hid A.out.1;have aq:=hid (show w.heap.size<wr.heap.size/\R.ownBlock≠some w.heap.size/\zEZ m.2 (Value.slice (some ⟨T,f,none⟩) (m.2.length+1) d)≠some w.heap.size from⟨by omega,λh=>by have:=(A.out.2.1.lt _ h).1;omega,λh=>by have hv:=zDv h;have:=A.out.2.2.1.ge hv.1 hv.2;omega⟩);have bm:=hid (λb(N:b<w.heap.size)=>(show b<wr.heap.size/\R.ownBlock≠some b/\zEZ m.2 (Value.slice (some ⟨T,f,none⟩) (m.2.length+1) d)≠some b from⟨by omega,λh=>by have:=(A.out.2.1.lt _ h).1;omega,λh=>by have hv:=zDv h;have:=A.out.2.2.1.ge hv.1 hv.2;omega⟩));have bu:=hid (λW(hW:zA (λb=>b<wr.heap.size/\R.ownBlock≠some b/\zEZ m.2 (Value.slice (some ⟨T,f,none⟩) (m.2.length+1) d)≠some b) wr W)=>(show W.cell? ⟨kb,koff,none⟩=some (.int .i64 k0) from hW.cell (bm.out kb bw) ak));have E:=hid (λW(hW:zA (λb=>b<wr.heap.size/\R.ownBlock≠some b/\zEZ m.2 (Value.slice (some ⟨T,f,none⟩) (m.2.length+1) d)≠some b) wr W)=>(show W.cell? ⟨w.heap.size,2,none⟩=some R/\W.cell? ⟨w.heap.size,3,none⟩=some (.slice (some ⟨T,f,none⟩) (m.2.length+1) d)/\W.cell? ⟨sb,a7+k,none⟩=some (.int .i64 s) from⟨hW.cell aq.out b2,hW.cell aq.out b3,hW.cell (bm.out sb ck) ce⟩))
    have ae:=hid (λW v5 v6(hW:zA (λb=>b<wr.heap.size/\R.ownBlock≠some b/\zEZ m.2 (Value.slice (some ⟨T,f,none⟩) (m.2.length+1) d)≠some b) wr W)(ho:W.ownsRow (w.heap.size+1) 3 1 v5 (m.1.length+1) (m.1.map (.int .i64)++[.int .i64 s]))(hq:zBG (w.heap.size+1) W kb koff v6 k0 (m.2++[x]))(hd:∀k,v5.ownBlock=some k->v6.ownBlock=some k->False)=>
     zQw (M':=zR k0 (a.take (k+1)) (kids.take (k+1))) A.out.1 A.out.2.1 A.out.2.2.1 A.out.2.2.2.2.1 A.out.2.2.2.2.2 hW ho hq hd HN.out)
    have ad:=hid (show zA (λb=>b<wr.heap.size/\R.ownBlock≠some b/\zEZ m.2 (Value.slice (some ⟨T,f,none⟩) (m.2.length+1) d)≠some b) wr wr.drew from(zA.refl _ _).drew);have b6:=hid (show wr.drew.ownsRow (w.heap.size+1) 3 1 R m.1.length (m.1.map (.int .i64)) from A.out.2.1);have b7:=hid (show zBG (w.heap.size+1) wr.drew kb koff (.slice (some ⟨T,f,none⟩) (m.2.length+1) d) k0 m.2 from A.out.2.2.1);refine zL 14 (λW=>W.cell? ⟨w.heap.size,2,none⟩=some R/\W.cell? ⟨w.heap.size,3,none⟩=some (.slice (some ⟨T,f,none⟩) (m.2.length+1) d)/\W.cell? ⟨sb,a7+k,none⟩=some (.int .i64 s)) (by kernel_rfl) ?_;have H:=E.out _ ad.out;generalize wr.drew=W0 at*;clear b2 b3 ak cw ce ai
    (refine tkS 0 ?_ H ?_ ?_;rotate_left;intro w B;obtain⟨h1,h2,h3⟩:=B;go_simp;(try with_reducible rfl);simp only[nr])
    (refine tkS 1 ?_ H ?_ ?_;rotate_left;intro w B;obtain⟨h1,h2,h3⟩:=B;go_simp;(try with_reducible rfl);simp only[nr])
    (refine tkS 2 ?_ H ?_ ?_;rotate_left;intro w B;obtain⟨h1,h2,h3⟩:=B;go_simp;(try with_reducible rfl);simp only[nr])
    (refine tkS 3 ?_ H ?_ ?_;rotate_left;intro w B;obtain⟨h1,h2,h3⟩:=B;go_simp;(try with_reducible rfl);simp only[nr])
    (refine tkS 4 ?_ H ?_ ?_;rotate_left;intro w B;obtain⟨h1,h2,h3⟩:=B;go_simp;(try with_reducible rfl);simp only[nr])
    (refine tkS 5 ?_ H ?_ ?_;rotate_left;intro w B;obtain⟨h1,h2,h3⟩:=B;go_simp;(try with_reducible rfl);simp only[nr])
    (refine tkS 8 ?_ H ?_ ?_;rotate_left;intro w B;obtain⟨h1,h2,h3⟩:=B;go_simp;(try with_reducible rfl);simp only[nr])
    (refine tkS 9 ?_ H ?_ ?_;rotate_left;intro w B;obtain⟨h1,h2,h3⟩:=B;go_simp;(try with_reducible rfl);simp only[nr])
    (refine tkQ 10 H ?_;simp only[nr])
    refine wS2 6 11 (λK g=> ?_) (λK g=> ?_)
    ·
     (go_wp2_with fail);refine g _ _ (Or.inr (E.out _ (ad.out.alloc (.cells #[.int .i64 s] 3)))) ?_;clear g K
     (try simp only[nr])
     have D:=hid (ad.out.alloc (.cells #[.int .i64 s] 3));have cu:=hid (show W0.heap.size<(W0.alloc (.cells #[.int .i64 s] 3)).heap.size by simp);have b4:=hid ((Blk.new W0 3 #[.int .i64 s]).cell 0);have cv:=hid (show wr.heap.size<=W0.heap.size from ad.out.size);have ba:=hid (b6.out.alloc (.cells #[.int .i64 s] 3));have bc:=hid (b7.out.alloc (.cells #[.int .i64 s] 3));generalize (W0.alloc (.cells #[.int .i64 s] 3))=W1 at*;have H:=E.out _ D.out;refine wS2 7 11 (λK g=> ?_) (λK g=> ?_)
     ·
      refine zAz (.tmp 34) (.tmp 39) _ rfl underlying28 Tryz.eInt rfl ba.out rfl (news:=[.int .i64 s]) rfl (one_cell b4.out) (by simp[Value.oneCell']) (by unfold maxLen;omega) (by omega) (by have:=D.out.size;omega) ?_;intro v5 W2 y t I;refine g _ _ (Or.inr (E.out _ (D.out.grown t (λk c _ n=>n.2.1 c)))) ?_;clear g K
      (try simp only[nr])
      have z:=hid (D.out.grown t (λk c _ n=>n.2.1 c));have ar:=hid y;have ax:=hid (bc.out.keep (Z:=λb=>R.ownBlock≠some b) ((zA.refl _ _).grown t (λk c _ n=>n c)) (λk _ c hv=>C.out k hv c));have G:=hid (λk(c:v5.ownBlock=some k)=>(show R.ownBlock=some k\/wr.heap.size<=k from(by have n:=D.out.size;rcases I with h|h;exact Or.inl (h▸c);rw[c]at h;injection h with h;exact Or.inr (by omega))));have az:=hid t.size;clear y t I;have H:=E.out _ z.out
      (refine tkQ 13 H ?_;simp only[nr])
      refine wS1 11 (λK g=> ?_);(go_wp2_with fail);refine g _ _ (Or.inr (E.out _ (z.out.alloc (.cells #[.int .i64 x] 3)))) ?_;clear g K
      (try simp only[nr])
      have o:=hid (z.out.alloc (.cells #[.int .i64 x] 3));have cb:=hid (show W2.heap.size<(W2.alloc (.cells #[.int .i64 x] 3)).heap.size by simp);have ao:=hid ((Blk.new W2 3 #[.int .i64 x]).cell 0);have bd:=hid (show wr.heap.size<=W2.heap.size from z.out.size);have X:=hid (ar.out.alloc (.cells #[.int .i64 x] 3));have ay:=hid (ax.out.alloc (.cells #[.int .i64 x] 3));generalize (W2.alloc (.cells #[.int .i64 x] 3))=W3 at*;have H:=E.out _ o.out;refine wS1 12 (λK g=> ?_);refine zEk (M:=m.2) ay.out (bu.out _ o.out) (.tmp 42) (.tmp 44) rfl rfl rfl ao.out (by omega) (by have:=o.out.size;omega) ?_;intro v6 W4 L v u;refine g _ _ (Or.inr (E.out _ (o.out.grown v (λk c _ n=>n.2.2 c)))) ?_;clear g K
      (try simp only[nr])
      have O:=hid (o.out.grown v (λk c _ n=>n.2.2 c));have aa:=hid L;have bn:=hid (λk(c:v6.ownBlock=some k)=>(show(Value.slice (some ⟨T,f,none⟩) (m.2.length+1) d).ownBlock =some k\/wr.heap.size<=k from(by have n:=o.out.size;rcases u k c with h|h;exact Or.inr (by omega);exact Or.inl h.2)));have Y:=hid (zX (Z:=λb=>zEZ m.2 (Value.slice (some ⟨T,f,none⟩) (m.2.length+1) d)≠some b) X.out ((zA.refl _ _).grown v (λk c _ n=>n c)) (λk c hv=>(by have Q:=zDv hv;rcases G.out k c with h|h;exact C.out k h Q.2;have:=ab.out k Q.1 Q.2;omega)));have au:=hid (λk(h5:v5.ownBlock=some k)(h6:v6.ownBlock=some k)=>(show False from(by have hl:=(X.out.lt k h5).2;rcases u k h6 with h|h;omega;(rcases G.out k h5 with h'|h';exact C.out k h' h.2;have:=ab.out k h.1 h.2;omega))));have cc:=hid v.size;clear L v u;have H:=E.out _ O.out;obtain⟨g5,bo,rfl⟩:=zAm Y.out;obtain⟨g6,c6,rfl⟩:=aa.out.form;have j:=(ap.out).keep O.out aq.out;have x2:=j.cell 2;have x3:=j.cell 3;have y2:=j.frozen 2;have y3:=j.frozen 3;have U:=j.lt;have b5:=hid j;clear j;refine wS1 14 (λK g=> ?_);(go_wp2_with fail);refine g _ _ (Or.inl rfl) ?_;clear g K
      (try simp only[nr])
      refine wS1 15 (λK g=> ?_);(go_wp2_with fail);refine g _ _ (Or.inl rfl) ?_;clear g K
      (try simp only[nr])
      refine wS1 16 (λK g=> ?_);(go_wp2_with fail);refine g _ _ (Or.inl rfl) ?_;clear g K H
      (try simp only[nr])
      refine wSd ?_ _;have HL:=hid (ae.out _ _ _ O.out Y.out aa.out au.out);clear x2 x3 y2 y3 U;go_wp2;go_roundw;(case rel=>(obtain⟨a8,a9,a3⟩:=HL.out;exact⟨k+1,a8,a9,by omega,by go_num,a3⟩));case measure=>simp[intOf];omega
     ·
      (go_wp2_with fail);refine g _ _ (Or.inr (E.out _ (D.out.alloc (.cells #[.int .i64 x] 3)))) ?_;clear g K
      (try simp only[nr])
      have z:=hid (D.out.alloc (.cells #[.int .i64 x] 3));have az:=hid (show W1.heap.size<(W1.alloc (.cells #[.int .i64 x] 3)).heap.size by simp);have bs:=hid ((Blk.new W1 3 #[.int .i64 x]).cell 0);have bd:=hid (show wr.heap.size<=W1.heap.size from D.out.size);have br:=hid (zFM b4.out (.cells #[.int .i64 x] 3));have ar:=hid (ba.out.alloc (.cells #[.int .i64 x] 3));have ax:=hid (bc.out.alloc (.cells #[.int .i64 x] 3));generalize (W1.alloc (.cells #[.int .i64 x] 3))=W2 at*;have H:=E.out _ z.out;refine wS1 7 (λK g=> ?_);refine zAz (.tmp 34) (.tmp 39) _ rfl underlying28 Tryz.eInt rfl ar.out rfl (news:=[.int .i64 s]) rfl (one_cell br.out) (by simp[Value.oneCell']) (by unfold maxLen;omega) (by omega) (by have:=z.out.size;omega) ?_;intro v5 W3 y t I;refine g _ _ (Or.inr (E.out _ (z.out.grown t (λk c _ n=>n.2.1 c)))) ?_;clear g K
      (try simp only[nr])
      have o:=hid (z.out.grown t (λk c _ n=>n.2.1 c));have X:=hid y;have ay:=hid (ax.out.keep (Z:=λb=>R.ownBlock≠some b) ((zA.refl _ _).grown t (λk c _ n=>n c)) (λk _ c hv=>C.out k hv c));have G:=hid (λk(c:v5.ownBlock=some k)=>(show R.ownBlock=some k\/wr.heap.size<=k from(by have n:=z.out.size;rcases I with h|h;exact Or.inl (h▸c);rw[c]at h;injection h with h;exact Or.inr (by omega))));have ao:=hid (t.cell bs.out (λh=>by have h1:=ca.out _ h.symm;have h2:=bd.out;simp at h1;omega));have cb:=hid t.size;clear y t I;have H:=E.out _ o.out
      (refine tkQ 13 H ?_;simp only[nr])
      refine wS1 12 (λK g=> ?_);refine zEk (M:=m.2) ay.out (bu.out _ o.out) (.tmp 42) (.tmp 44) rfl rfl rfl ao.out (by omega) (by have:=o.out.size;omega) ?_;intro v6 W4 L v u;refine g _ _ (Or.inr (E.out _ (o.out.grown v (λk c _ n=>n.2.2 c)))) ?_;clear g K
      (try simp only[nr])
      have O:=hid (o.out.grown v (λk c _ n=>n.2.2 c));have aa:=hid L;have bn:=hid (λk(c:v6.ownBlock=some k)=>(show(Value.slice (some ⟨T,f,none⟩) (m.2.length+1) d).ownBlock =some k\/wr.heap.size<=k from(by have n:=o.out.size;rcases u k c with h|h;exact Or.inr (by omega);exact Or.inl h.2)));have Y:=hid (zX (Z:=λb=>zEZ m.2 (Value.slice (some ⟨T,f,none⟩) (m.2.length+1) d)≠some b) X.out ((zA.refl _ _).grown v (λk c _ n=>n c)) (λk c hv=>(by have Q:=zDv hv;rcases G.out k c with h|h;exact C.out k h Q.2;have:=ab.out k Q.1 Q.2;omega)));have au:=hid (λk(h5:v5.ownBlock=some k)(h6:v6.ownBlock=some k)=>(show False from(by have hl:=(X.out.lt k h5).2;rcases u k h6 with h|h;omega;(rcases G.out k h5 with h'|h';exact C.out k h' h.2;have:=ab.out k h.1 h.2;omega))));have cc:=hid v.size;clear L v u;have H:=E.out _ O.out;obtain⟨g5,bo,rfl⟩:=zAm Y.out;obtain⟨g6,c6,rfl⟩:=aa.out.form;have j:=(ap.out).keep O.out aq.out;have x2:=j.cell 2;have x3:=j.cell 3;have y2:=j.frozen 2;have y3:=j.frozen 3;have U:=j.lt;have b5:=hid j;clear j;refine wS1 14 (λK g=> ?_);(go_wp2_with fail);refine g _ _ (Or.inl rfl) ?_;clear g K
      (try simp only[nr])
      refine wS1 15 (λK g=> ?_);(go_wp2_with fail);refine g _ _ (Or.inl rfl) ?_;clear g K
      (try simp only[nr])
      refine wS1 16 (λK g=> ?_);(go_wp2_with fail);refine g _ _ (Or.inl rfl) ?_;clear g K H
      (try simp only[nr])
      refine wSd ?_ _;have HL:=hid (ae.out _ _ _ O.out Y.out aa.out au.out);clear x2 x3 y2 y3 U;go_wp2;go_roundw;(case rel=>(obtain⟨a8,a9,a3⟩:=HL.out;exact⟨k+1,a8,a9,by omega,by go_num,a3⟩));case measure=>simp[intOf];omega
    ·
     (go_wp2_with fail);refine g _ _ (Or.inr (E.out _ (ad.out.alloc (.cells #[.int .i64 x] 3)))) ?_;clear g K
     (try simp only[nr])
     have D:=hid (ad.out.alloc (.cells #[.int .i64 x] 3));have cu:=hid (show W0.heap.size<(W0.alloc (.cells #[.int .i64 x] 3)).heap.size by simp);have co:=hid ((Blk.new W0 3 #[.int .i64 x]).cell 0);have bd:=hid (show wr.heap.size<=W0.heap.size from ad.out.size);have ba:=hid (b6.out.alloc (.cells #[.int .i64 x] 3));have bc:=hid (b7.out.alloc (.cells #[.int .i64 x] 3));generalize (W0.alloc (.cells #[.int .i64 x] 3))=W1 at*;have H:=E.out _ D.out;refine wS1 6 (λK g=> ?_);(go_wp2_with fail);refine g _ _ (Or.inr (E.out _ (D.out.alloc (.cells #[.int .i64 s] 3)))) ?_;clear g K
     (try simp only[nr])
     have z:=hid (D.out.alloc (.cells #[.int .i64 s] 3));have az:=hid (show W1.heap.size<(W1.alloc (.cells #[.int .i64 s] 3)).heap.size by simp);have br:=hid ((Blk.new W1 3 #[.int .i64 s]).cell 0);have cv:=hid (show wr.heap.size<=W1.heap.size from D.out.size);have bs:=hid (zFM co.out (.cells #[.int .i64 s] 3));have ar:=hid (ba.out.alloc (.cells #[.int .i64 s] 3));have ax:=hid (bc.out.alloc (.cells #[.int .i64 s] 3));generalize (W1.alloc (.cells #[.int .i64 s] 3))=W2 at*;have H:=E.out _ z.out;refine wS1 7 (λK g=> ?_);refine zAz (.tmp 34) (.tmp 39) _ rfl underlying28 Tryz.eInt rfl ar.out rfl (news:=[.int .i64 s]) rfl (one_cell br.out) (by simp[Value.oneCell']) (by unfold maxLen;omega) (by omega) (by have:=z.out.size;omega) ?_;intro v5 W3 y t I;refine g _ _ (Or.inr (E.out _ (z.out.grown t (λk c _ n=>n.2.1 c)))) ?_;clear g K
     (try simp only[nr])
     have o:=hid (z.out.grown t (λk c _ n=>n.2.1 c));have X:=hid y;have ay:=hid (ax.out.keep (Z:=λb=>R.ownBlock≠some b) ((zA.refl _ _).grown t (λk c _ n=>n c)) (λk _ c hv=>C.out k hv c));have G:=hid (λk(c:v5.ownBlock=some k)=>(show R.ownBlock=some k\/wr.heap.size<=k from(by have n:=z.out.size;rcases I with h|h;exact Or.inl (h▸c);rw[c]at h;injection h with h;exact Or.inr (by omega))));have ao:=hid (t.cell bs.out (λh=>by have h1:=ca.out _ h.symm;have h2:=bd.out;simp at h1;omega));have cb:=hid t.size;clear y t I;have H:=E.out _ o.out
     (refine tkQ 13 H ?_;simp only[nr])
     refine wS1 12 (λK g=> ?_);refine zEk (M:=m.2) ay.out (bu.out _ o.out) (.tmp 42) (.tmp 44) rfl rfl rfl ao.out (by omega) (by have:=o.out.size;omega) ?_;intro v6 W4 L v u;refine g _ _ (Or.inr (E.out _ (o.out.grown v (λk c _ n=>n.2.2 c)))) ?_;clear g K
     (try simp only[nr])
     have O:=hid (o.out.grown v (λk c _ n=>n.2.2 c));have aa:=hid L;have bn:=hid (λk(c:v6.ownBlock=some k)=>(show(Value.slice (some ⟨T,f,none⟩) (m.2.length+1) d).ownBlock =some k\/wr.heap.size<=k from(by have n:=o.out.size;rcases u k c with h|h;exact Or.inr (by omega);exact Or.inl h.2)));have Y:=hid (zX (Z:=λb=>zEZ m.2 (Value.slice (some ⟨T,f,none⟩) (m.2.length+1) d)≠some b) X.out ((zA.refl _ _).grown v (λk c _ n=>n c)) (λk c hv=>(by have Q:=zDv hv;rcases G.out k c with h|h;exact C.out k h Q.2;have:=ab.out k Q.1 Q.2;omega)));have au:=hid (λk(h5:v5.ownBlock=some k)(h6:v6.ownBlock=some k)=>(show False from(by have hl:=(X.out.lt k h5).2;rcases u k h6 with h|h;omega;(rcases G.out k h5 with h'|h';exact C.out k h' h.2;have:=ab.out k h.1 h.2;omega))));have cc:=hid v.size;clear L v u;have H:=E.out _ O.out;obtain⟨g5,bo,rfl⟩:=zAm Y.out;obtain⟨g6,c6,rfl⟩:=aa.out.form;have j:=(ap.out).keep O.out aq.out;have x2:=j.cell 2;have x3:=j.cell 3;have y2:=j.frozen 2;have y3:=j.frozen 3;have U:=j.lt;have b5:=hid j;clear j;refine wS1 14 (λK g=> ?_);(go_wp2_with fail);refine g _ _ (Or.inl rfl) ?_;clear g K
     (try simp only[nr])
     refine wS1 15 (λK g=> ?_);(go_wp2_with fail);refine g _ _ (Or.inl rfl) ?_;clear g K
     (try simp only[nr])
     refine wS1 16 (λK g=> ?_);(go_wp2_with fail);refine g _ _ (Or.inl rfl) ?_;clear g K H
     (try simp only[nr])
     refine wSd ?_ _;have HL:=hid (ae.out _ _ _ O.out Y.out aa.out au.out);clear x2 x3 y2 y3 U;go_wp2;go_roundw;(case rel=>(obtain⟨a8,a9,a3⟩:=HL.out;exact⟨k+1,a8,a9,by omega,by go_num,a3⟩));case measure=>simp[intOf];omega
  ·(obtain rfl:k=kids.length:=by omega);(have cl:a.take kids.length=a:=by rw[<-ag.out];exact List.take_length);rw[cl,List.take_length]at a0 af;have ak:wr.cell? ⟨kb,koff,none⟩=some (.int .i64 (kids.getD 0 0)):=(J.cell (p:=⟨kb,koff,none⟩) cy).trans (aw.out 0 bf);obtain⟨T,f,d,a6,cj,-⟩:=af.open_ ak;have b3:=P.at3;have bh:(zR (kids.getD 0 0) a kids).2.length <=2000000:=Nat.le_trans (zE4 _ _ _) cx;have ch:=zGP (kids.getD 0 0) a kids;generalize hm:zR (kids.getD 0 0) a kids=m at*;have A:=hid (And.intro P (And.intro a0 (And.intro af (And.intro ah (And.intro J bi)))));have ab:=hid a6;have bb:=hid hm;have bv:=hid ch;have cp:=hid (bx _ (zBU bf));have ct:=hid (zQv a kids bp bg);clear cl P a0 af ah J hm ch b8 HT aw E;generalize kids.getD 0 0=k0 at*;subst a6;obtain⟨mc,mq⟩:=m;simp only at A bv bb b3 bh cj
   cases mq with
   |nil=>
    have HE:=hid (bl.out.trans (if_pos rfl));simp only[List.length_nil,Nat.zero_add]at*;(have cz:wr.cell? ⟨kb,koff+0,none⟩=some (.int .i64 (k0)):=by rw[Nat.add_zero];exact ak);go_wp2;go_ret;rw[HE.out];exact⟨rfl,⟨F,Z,HM.out.below A.out.2.2.2.2.1,λb N=>Or.inl N,λb N=>Or.inl N⟩,.of_below A.out.2.2.2.2.1⟩
   |cons q0 q=>
    have HE:=hid (bl.out.trans (if_neg (by simp)))
    have a5:wr.ownsRow (w.heap.size+1) 3 1 (.slice (some ⟨T,f,none⟩) ((q0::q).length +1) d) ((q0::q).length +1) ((k0::q0::q).map (.int .i64)):=by
     rcases A.out.2.2.1 with⟨h,_⟩|⟨_,h⟩
     ·simp at h
     ·exact h
    have cq:=hid bx;have a1:∀x∈mc,I64 x:=λx hx=>cs.out x hx
    have a2:∀x∈k0::q0::q,I64 x:=λx hx=>by
     rcases List.mem_cons.1 hx with rfl|hx
     ·exact cp.out
     ·exact cq.out _ (zHl (k0) a kids x (by rw[bb.out];exact hx))
    have cf:=zI3 A.out.2.1 a1 (by have:=bv.out;omega);have cg:=zI3 a5 a2 (by simp only[List.length_cons]at bh⊢;omega);(have bj:=λk c=>A.out.2.1.lt k c);have bk:=λk c=>a5.lt k c
    have HN:=hid (zGv M all F Z (λb=>R.ownBlock=some b\/(Value.slice (some ⟨T,f,none⟩) ((q0::q).length +1) d).ownBlock =some b) ⟨false,i,mc,k0::q0::q⟩ [.bool false,.int .i64 i,R,.slice (some ⟨T,f,none⟩) ((q0::q).length +1) d] wr (HM.out.below A.out.2.2.2.2.1)
     ⟨⟨R,_,rfl,hi,cf.mono (λb N=>Or.inl N),cg.mono (λb N=>Or.inr N)⟩,λb N=>by
      rcases N with N|N
      ·exact⟨λhF=>by have:=HM.out.liveF b hF;have:=(bj b N).1;omega,(bj b N).2⟩
      ·exact⟨λhF=>by have:=HM.out.liveF b hF;have:=(bk b N).1;omega,(bk b N).2⟩,by show mc.length<=2000000;have:=bv.out;omega,by show(k0::q0::q).length <=2000000;have h1:=zE4 (k0) (a.drop 1) (kids.drop 1);have h2:=ct.out;rw[bb.out]at h2;rw[h2]at h1;simp at h1⊢;omega⟩ cd (((bq.on A.out.2.2.2.2.1)).mono A.out.2.2.2.2.1.size))
    have az:=hid (And.intro bj bk);have b0:=A.out.1.at0;have b1:=A.out.1.at1;have b2:=A.out.1.at2;have U:w.heap.size<wr.heap.size:=A.out.1.lt;clear a5 cf cg bj bk bx a1 a2 bq;simp only[List.length_cons]at*
    have av:=hid (λe W'(hp:zCW wr M F (λb=>Z b\/(R.ownBlock=some b\/(Value.slice (some ⟨T,f,none⟩) (q.length+1+1) d).ownBlock =some b)) (zAT all i a kids) e W')=>zSb (w:=w) A.out.2.2.2.2.1 (λb N=>by
     rcases N with N|N
     ·have:=(az.out.1 b N).1;omega
     ·have:=(az.out.2 b N).1;omega) hp)
    rw[HE.out]at av;(go_wp2_with fail);refine HN.out.mono ?_;rintro e W' ⟨rfl,ci⟩;have bt:=hid (av.out _ _ ⟨rfl,ci⟩);clear ci HN av;go_wp2;go_ret;rw[HE.out];exact bt.out
theorem Tryz.egFrom1:∀args w,(callFunc 133 args).run prog w= .ok (.enter 133 args) w:=enters_of func133 (by kernel_rfl) rfl
theorem Tryz.lookII{b:Nat}{a:List (Int × Value)}(h:zW encI w b a)(s:Int)(c:Bool):
  (Instr.lookup 214 (.map (some b)) (.int .i64 s) c).run prog w= .ok (if c then .tuple #[(zg a s).getD (.int .i64 0),.bool (zg a s).isSome]else(zg a s).getD (.int .i64 0)) w:=
 h.look (zGI (P:=prog) (k:=3) underlying3) (t:=214) (e:=3) underlying214 (Tryz.zeroInt w) s c
theorem MkS.node_at(h:MkS w M all F Z){i:Nat}(hi:i<all.length):
  ∃g b d e,w.cell? ⟨M,0,none⟩=some (.slice (some ⟨g,0,none⟩) all.length b)/\F g/\w.cell? ⟨g,i*4,none⟩=some (.bool all[i].leaf)/\w.cell? ⟨g,i*4+1,none⟩=some (.int .i64 all[i].fact)/\
   w.cell? ⟨g,i*4+2,none⟩=some d/\w.cell? ⟨g,i*4+3,none⟩=some e/\I64 all[i].fact /\zK Z w d all[i].cuts /\zK Z w e all[i].kids :=by
 obtain⟨⟨v,B,o,q,k,s,_,t⟩,_⟩:=h;obtain⟨n,m⟩:∃n,all.length=n+1:=⟨all.length-1,by omega⟩;have c:=k;rw[m]at c;obtain⟨g,b,rfl⟩:=zAm c;obtain⟨cs,⟨d,e,rfl,y,x,z⟩,f⟩:=s.at_ i hi
 have a:∀j u,([.bool all[i].leaf,.int .i64 all[i].fact,d,e]:List Value)[j]? =some u->w.cell? ⟨g,i*4+j,none⟩=some u:=λj u A=>by
  have:=k.cells (g:=g) rfl (i*4+j) u (f j u A);rwa[show(⟨g,0,none⟩:Addr).add (i*4+j)=⟨g,i*4+j,none⟩ from by unfold Addr.add;split<;>simp_all]at this
 exact⟨g,b,d,e,by rw[m];exact q.cell 0,(t g rfl).1,a 0 _ rfl,a 1 _ rfl,a 2 _ rfl,a 3 _ rfl,y,x,z⟩
def kvO:List Int->Nat->List (Int × Value)
 |[],_=>[]
 |n::r,i=>(n,.int .i64 (i:Nat))::kvO r (i+1)
theorem zMj:∀(o:List Int)(i:Nat)(n:Int),zg (kvO o i) n=if n∈o then some (.int .i64 ((i+o.idxOf n:Nat):Int))else none
 |[],_,_=>by simp[kvO,zg]
 |m::r,i,n=>by
  unfold kvO zg;by_cases h:n=m
  ·subst h;rw[if_pos rfl,if_pos (by simp)];simp
  ·rw[if_neg h,zMj r (i+1) n];simp only[List.mem_cons,h,false_or];split
   ·rw[List.idxOf_cons];(have:(m==n)=false:=by simp;exact λe=>h e.symm);rw[this];simp;omega
   ·rfl
theorem zQX:∀(o:List Int)(i:Nat)(n:Int),n∉o->zAU (kvO o i) n (.int .i64 ((i+o.length:Nat):Int))=kvO (o++[n]) i
 |[],_,_,_=>by simp[kvO,zAU]
 |m::r,i,n,h=>by
  simp only[List.mem_cons,not_or]at h;have ih:=zQX r (i+1) n h.2;simp only[kvO,zAU,List.cons_append,List.length_cons];rw[if_neg h.1,<-ih,show i+(r.length+1)=i+1+r.length by omega]
structure zLP (w:World) (P O Mv V pb M B:Nat) (all:List zB) (F Z:Nat->Prop):Prop where
 p:One w P (.map (some pb))
 m:One w Mv (.pointer (some ⟨M,0,none⟩))
 v:One w V (.func (.func 133) #[] #[.pointer (some ⟨P,0,none⟩),.pointer (some ⟨O,0,none⟩),.pointer (some ⟨Mv,0,none⟩),.pointer (some ⟨V,0,none⟩)])
 maker:MkS w M all F Z
 off:∀b,(F b\/Z b\/b=P\/b=Mv\/b=V)->b<B/\b≠pb/\b≠O
 o:O<B/\O≠pb
 size:B<=w.heap.size
def zLQ(w:World)(O pb B:Nat)(order:List Int):Prop:=
 ∃vo,One w O vo/\w.ownsRow B 3 1 vo order.length (order.map (.int .i64))/\zW encI w pb (kvO order 0)
def zQx(O pb B:Nat):zE:=λb=>b<B/\b≠pb/\b≠O
theorem zLP.keep{P O Mv V d M B:Nat}(h:zLP w P O Mv V d M B all F Z)(c:zA (zQx O d B) w w'):zLP w' P O Mv V d M B all F Z:=by
 obtain⟨e,f,g,i,a,j,k⟩:=h;exact⟨e.keep c (a _ (Or.inr (Or.inr (Or.inl rfl)))),f.keep c (a _ (Or.inr (Or.inr (Or.inr (Or.inl rfl))))),g.keep c (a _ (Or.inr (Or.inr (Or.inr (Or.inr rfl))))),i.keep (c.mono λb _ m=>a b (by rcases m with h|h;exact Or.inl h;exact Or.inr (Or.inl h))),a,j,Nat.le_trans k c.size⟩
theorem zTo{w f g:World}{P O Mv V e M B:Nat}{n:Nat}(h:zLP w P O Mv V e M B all F Z)(a:zA (λc=>c≠e) w f)
  (q:f.ownsRow B 3 1 v n xs)(j:(f.alloc o).grownBy g v.ownBlock):∀u,zA (zQx O e B) w (g.setCell ⟨O,0,none⟩ u):=λu=>
 (((a.mono λb _ i=>i.2.1).trans ((zA.refl _ _).alloc o)).grown j (λk m _ d=>by have:=(q.lt k m).1;have:=d.1;omega)).setCell (λ_ d=>d.2.2 rfl) u
theorem zTp{w j m:World}{P O Mv V f M B:Nat}{v g v0:Value}{a:List Int}(t:zLP w P O Mv V f M B all F Z)(s:zA (λc=>c≠f) w j)
  (b:zW encI j f (zAU (kvO a 0) i (.int .i64 ((a.length:Nat):Int))))(y:j.ownsRow B 3 1 v a.length (a.map (.int .i64)))(n:One m O v0)(u:(j.alloc o).grownBy m v.ownBlock)
  (d:m.ownsRow B 3 1 g (a.length+1) (a.map (.int .i64)++[.int .i64 i]))(z:zAU (kvO a 0) i (.int .i64 ((a.length:Nat):Int))=kvO (a++[i]) 0):zLQ (m.setCell ⟨O,0,none⟩ g) O f B (a++[i]):=by
 have q:f<(j.alloc o).heap.size :=by have:=b.lt;simp;omega
 refine⟨g,n.set_ g,?_,?_⟩
 ·have:=zX (Z:=λc=>c≠O) d ((zA.refl _ _).setCell (p:=⟨O,0,none⟩) (λ_ h=>h rfl) g) (λk x e=>by have:=(d.lt k x).1;have:=t.o.1;omega);simpa using this
 ·rw[<-z];refine((b.of_block (Below.heap_alloc _ _ _ b.lt)).of_block (u.block f q (λe=>zI0 y b e.symm))).of_block (Below.heap_setCell _ _ _ _ (λe=>t.o.2 e.symm))
theorem zSc(ds:List zC)(all:List zB)(hg:Good ds all)(ak:all.length<=1000000)(P O Mv V pb M B:Nat)(F Z:Nat->Prop):∀(k:Nat)(i:Int)(c:List Int)(w:World),Rng all i->zCP ds all i<k->(∀x∈c,Rng all x)->c.Nodup->
  zLP w P O Mv V pb M B all F Z->zLQ w O pb B c->
  Calls prog 133 #[.int .i64 i,.pointer (some ⟨P,0,none⟩),.pointer (some ⟨O,0,none⟩),.pointer (some ⟨Mv,0,none⟩),.pointer (some ⟨V,0,none⟩)] w λe w'=>
   e= .returned (.tuple #[])/\zLQ w' O pb B (zz all k i c)/\zA (zQx O pb B) w w':=by
 intro k
 induction k with
 |zero=>intro i c w _ h;omega
 |succ k ih=>
 intro i c w hi hr ho hn E hO;have eg:=Tryz.egFrom1;have IH:=hid ih;clear ih;obtain⟨vo,z,s,q⟩:=hO;have p1:=E.p.cell;have p2:=E.p.lt;have o1:=z.cell;have o2:=z.lt;have hl:=Tryz.lookII q i true;rw[zMj]at hl;by_cases U:i∈c
 ·rw[if_pos U]at hl;simp only[Option.getD_some,Option.isSome_some,if_true]at hl;have HV:=hid (show zz all (k+1) i c=c from by unfold zz;rw[if_pos U]);have HO:=hid (show zLQ w O pb B c from⟨vo,z,s,q⟩);clear U E z s q ho hn hg;go_enter func133,ntmps133
  go_wp2;exact bodyPost_ret (v:= .tuple #[]) (by simp[results,results133,go_sem]) rfl ⟨rfl,by rw[HV.out];exact HO.out,.refl _ _⟩
 ·rw[if_neg U]at hl;simp only[Option.getD_none,Option.isSome_none,if_true]at hl;have J:=zQX c 0 i U;rw[Nat.zero_add]at J;have ag:=hid J;have HV:=hid (show zz all (k+1) i c=(nAt all i).kids.foldl (λo x=>zz all k x o) (c++[i]) from by rw[zz,if_neg U]);have br:c.length<=1000000:=Nat.le_trans (zF9 _ _ hn ho) ak;obtain⟨A,bo,rfl,-,-,-⟩:=Row.of_own s (by decide);have K:=hid E;have D:=hid (And.intro z (And.intro s q));have C:=hid (And.intro ho (And.intro hn U));clear E z s q ho hn U J;go_enter func133,ntmps133
  go_upto_region 4 with(first
   |(at_mapUpdate;refine zCB rfl (.tmp 17) (.tmp 18) _ rfl (zGI (P:=prog) (k:=3) underlying3) (e:=3) underlying214 rfl (D.out.2.2) i rfl ?_;intro w1 ax Q Y ap aq;have H:=(D.out.1.keep Q K.out.o.2);have ay:=zI0 D.out.2.1 D.out.2.2;have I:=zX D.out.2.1 Q (λk hk e=>ay (e▸hk));have bh:=H.cell;have bi:=H.lt;have bj:=H.free;have u:=hid (And.intro ax (And.intro Q (And.intro Y H)));have f:=hid I;clear ax Q Y ap aq H ay I o1 o2 hl)
   |(at_builtin;refine z6 rfl (.tmp 21) (.tmp 23) _ rfl underlying28 Tryz.eInt rfl (f.out.alloc _) rfl (news:=[.int .i64 i]) rfl (one_cell (by simp)) (by simp[Value.oneCell']) (by unfold maxLen;omega) (by omega) (by have:=K.out.size;have:=u.out.2.1.size;simp;omega) ?_;intro v5 w5 t N al;obtain⟨g5,R,bg⟩:=zAm t;subst bg;have G:=(u.out.2.2.2.alloc (.cells #[.int .i64 i] 3)).of_block (N.block O (by simp;omega) (λe=>by have:=(f.out.lt O e.symm).1;have:=K.out.o.1;omega));have d0:=G.cell;have d1:=G.free;have d2:=G.lt;have HX:=hid (zTp K.out u.out.2.1 u.out.1 f.out G N t ag.out);have af:=hid (zTo K.out u.out.2.1 f.out N);clear t N al G bh bi bj))
  have aw:=af.out (.slice (some ⟨g5,0,none⟩) (c.length+1) R);have ab:=hid aw;have hx:=HX.out;clear aw HX af d0 d1 d2 u f;generalize (w5.setCell ⟨O,0,none⟩ (.slice (some ⟨g5,0,none⟩) (c.length+1) R))=W at*;have E:=K.out.keep ab.out;obtain⟨n,rfl⟩:=Int.eq_ofNat_of_zero_le hi.1;have au:n<all.length:=by have:=hi.2;omega
  have e1:=E.m.cell;have a6:=E.m.lt;obtain⟨g,bk,vc,vk,e2,bb,e3,e4,e5,e6,hf,bc,ar⟩:=E.maker.node_at au;have a7:=lt_of_cell e2;have a8:=lt_of_cell e6;have bf:(n:Int)<(all.length:Nat):=by omega
  have bd:(0:Int)<=(n:Int):=by omega
  have X:=zBs au;have ae:=λx hx=>hg.rank_kid hi (k:=x) hx
  rw[X]at ae HV;have a2:=hid ar;have a4:=hid ae;have bn:=hid E;have a5:=hid hx;obtain⟨⟨KA,bm,rfl,-,-,bq,-⟩,-⟩:=ar;have HG:=hid hg;clear E bc hx X ae bb hf hg;generalize all[n].kids =kids at*;go_wp2;go_loopw[35] (λix wr=>∃j:Nat,j<=kids.length/\ix= .int .i64 j/\zLQ wr O pb B ((kids.take j).foldl (λo x=>zz all k x o) (c++[(n:Int)]))/\zA (zQx O pb B) w wr/\Hid ((∀x∈(kids.take j).foldl (λo x=>zz all k x o) (c++[(n:Int)]),Rng all x)/\((kids.take j).foldl (λo x=>zz all k x o) (c++[(n:Int)])).Nodup)) (λix _=>kids.length-(intOf ix).toNat)
  case atStart=>
   refine⟨0,Nat.zero_le _,rfl,a5.out,ab.out,λx hx=> ?_,?_⟩
   ·rcases List.mem_append.1 hx with h|h
    ·exact C.out.1 x h
    ·simp at h;subst h;exact⟨bd,bf⟩
   ·show(c++[(n:Int)]).Nodup;rw[List.nodup_append];exact⟨C.out.2.1,by simp,λa ha b hb e=>by simp at hb;subst hb;exact C.out.2.2 (e▸ha)⟩
  case round=>
   obtain⟨j,hj,rfl,hO,y,d⟩:=hrel;clear e1 a6 e2 e3 e4 e5 e6 a7 a8;by_cases ac:j<kids.length
   ·obtain⟨b,a1,rfl,hz,bp,hc⟩:=a2.out.at_ ac;have L:=K.out.keep y;have a0:=K.out.off b (Or.inr (Or.inl hz))
    have ao:wr.cell? ⟨b,a1+j,none⟩=some (.int .i64 kids[j]):=by
     have T:=K.out.maker.liveZ b hz;have a9:=y.block b T a0;have ba:=ab.out.block b T a0;rw[World.cell?_of_block (w:=W) (a:=⟨b,a1+j,none⟩) (a9.trans ba.symm)];exact hc
    have v1:=L.v.cell;have v2:=L.v.lt;have bl:=lt_of_cell ao;have ad:=a4.out kids[j] (List.getElem_mem ac);have HI:=hid (IH.out kids[j] _ wr ad.1 (by omega) d.out.1 d.out.2 L hO)
    have az:(kids.take (j+1)).foldl (λo x=>zz all k x o) (c++[(n:Int)])=zz all k kids[j] ((kids.take j).foldl (λo x=>zz all k x o) (c++[(n:Int)])):=by
     rw[List.take_succ_eq_append_getElem ac,List.foldl_append];rfl
    have ai:=hid (zJE HG.out k kids[j] _ ad.1 (by omega) d.out.1 d.out.2);have ah:=hid az;have aa:=hid y;clear az ad hO y d L hc;generalize (kids.take j).foldl (λo x=>zz all k x o) (c++[(n:Int)])=od at*;generalize kids[j]=x at*;(go_wp2_with fail);refine HI.out.mono ?_;rintro e w9 ⟨rfl,aj,av⟩;have H9:=hid (And.intro aj (aa.out.trans av));clear aj av HI v1 v2 ao;go_wp2;go_roundw
    case rel=>
     refine⟨j+1,by omega,by go_num,?_,H9.out.2,?_⟩
     ·rw[ah.out];exact H9.out.1
     ·rw[ah.out];exact⟨ai.out.1.rng,ai.out.1.nodup⟩
    case measure=>simp[intOf];omega
   ·(obtain rfl:j=kids.length:=by omega);rw[List.take_length]at hO;have a3:=hid hO;have aa:=hid y;clear hO y d;go_wp2;go_end0;refine⟨rfl,?_,aa.out⟩;rw[HV.out];exact a3.out
section
open Go.Shelf
theorem zMk(b:Nat)(w:World)(c:w.cell? ⟨b,0,none⟩=some (.pointer (some ⟨b,0,none⟩))):
  Calls prog 88 #[.pointer (some ⟨b,0,none⟩)] w λe w'=>e= .returned (.tuple #[])/\w'=w:=by
 obtain⟨j,a,_⟩:=Option.map_eq_some_iff.1 Tryz.Builder_Extra_169.sizeBuilder;go_enter func88,ntmps88
 go_wp2;rw[Lib.run_neq_ptr_same w _ underlying107 a];go_wp2;go_end0;exact⟨rfl,rfl⟩
theorem zLd(b:Nat)(w:World)(g:w.cell? ⟨b,0,none⟩=some (.pointer none))(a:w.shape? b=some (110,2))(f:w.frozen? ⟨b,0,none⟩=false):
  Calls prog 88 #[.pointer (some ⟨b,0,none⟩)] w λe w'=>e= .returned (.tuple #[])/\w'=w.setCell ⟨b,0,none⟩ (.pointer (some ⟨b,0,none⟩)):=by
 obtain⟨j,d,c⟩:=Option.map_eq_some_iff.1 Tryz.Builder_Extra_169.sizeBuilder;go_enter func88,ntmps88
 go_wp2;rw[Lib.run_to_unsafe w ⟨b,0,none⟩ underlying107 underlying205 d (by rw[c];decide) a (Nat.zero_lt_succ 1)];simp only[Result.andThen];rw[Oper.upon_value];go_wp2;rw[run_callFunc_extern func124 (by kernel_rfl) (by kernel_rfl) (by kernel_rfl) (e:=Extern.AbiNoEscape.same) (by kernel_rfl)];rw[Lib.run_noEscape];simp only[Result.andThen];rw[Oper.upon_value];go_wp2;rw[Lib.run_from_unsafe w ⟨b,0,none⟩ underlying205 underlying107 d a Tryz.Builder_Extra_169.liesBuilder];simp only[Result.andThen];rw[Oper.upon_value];go_wp2;go_end0;exact⟨rfl,rfl⟩
theorem zJI(B b:Nat)(bs:List Value)(w:World)(h:Lib.IsBuilderF 110 5 B b bs w):
  Calls prog 88 #[.pointer (some ⟨b,0,none⟩)] w λe w'=>e= .returned (.tuple #[])/\(Lib.BuilderAtF 110 5 B b (.pointer (some ⟨b,0,none⟩)) bs w'/\Below B w w'/\Lib.OthersKept 5 (some b) w w'):=by
 rcases h with h|h
 ·refine(zLd b w h.cell0 h.shape h.frozen0).mono ?_;rintro e w' ⟨rfl,rfl⟩;exact⟨rfl,h.used _,(Below.refl B w).setCell (p:=⟨b,0,none⟩) h.1 _,(Lib.OthersKept.refl _ _ w).setCell ⟨b,0,none⟩ rfl _⟩
 ·refine(zMk b w h.cell0).mono ?_;rintro e w' ⟨rfl,rfl⟩;exact⟨rfl,h,Below.refl B _,Lib.OthersKept.refl _ _ _⟩
theorem zDq(B b:Nat)(bs:List Value)(s:ByteArray)(w:World)(h:Lib.IsBuilderF 110 5 B b bs w)(F:bs.length+s.size<=140737488355328)(I:B<=w.heap.size):
  Calls prog 52 #[.pointer (some ⟨b,0,none⟩),.string s] w λe w'=>e= .returned (.tuple #[.int .i64 s.size,.nilIface])/\(Lib.BuilderAtF 110 5 B b (.pointer (some ⟨b,0,none⟩)) (bs++Lib.strCells s) w'/\Below B w w'/\Lib.OthersKept 5 (some b) w w'):=by
 have n:((110:TypeId)≠5):=by decide
 obtain⟨L,J,z,A,C⟩:=info_parts Tryz.Builder_Extra_169.infoByte;go_enter func52,ntmps52
 go_wp2_with fail
 refine(zJI B b bs _ h).mono ?_;rintro e o ⟨rfl,H,m,u⟩;obtain⟨E,v,i,c,y⟩:=H;have N:o.cell? ⟨b,0,none⟩=some (.pointer (some ⟨b,0,none⟩)):=by rw[Lib.cell_of_heap i];rfl
 have c1:o.cell? ⟨b,1,none⟩=some v:=by rw[Lib.cell_of_heap i];rfl
 go_wp2_with(at_builtin;refine Lib.wpList_append_own_stringF _ rfl _ _ 108 9 rfl B 5 L underlying108 underlying9 J z A C _ _ _ rfl c s rfl ?c3 ?c4 ?c5 ?_);case c3=>unfold maxLen;omega
 case c4=>omega
 case c5=>have:=m.size;omega
 intro M q d a _
 have x:b<o.heap.size:=by
  rcases Nat.lt_or_ge b o.heap.size with t|t
  ·exact t
  ·simp[Array.getElem?_eq_none t]at i
 have f:q.heap[b]? =some (.cells #[.pointer (some ⟨b,0,none⟩),v] 110 (0,0)):=by
  rw[a.block b x (λe=>y e.symm)];exact i
 have O:q.cell? ⟨b,0,none⟩=some (.pointer (some ⟨b,0,none⟩)):=by rw[Lib.cell_of_heap f];rfl
 have P:q.cell? ⟨b,1,none⟩=some v:=by rw[Lib.cell_of_heap f];rfl
 have Q:q.frozen? ⟨b,1,none⟩=false:=Lib.frozen_of_heap f 1
 obtain⟨D,G,j,rfl⟩:∃D G j,M= .slice D G j:=by
  rcases d.2 with⟨hv,_⟩|⟨g,j,cur,fz,hv,_⟩
  ·exact⟨_,_,_,hv⟩
  ·exact⟨_,_,_,hv⟩
 go_wp2;go_ret2;refine⟨rfl,?_,?_,(u.grown a (Lib.ownsRowF_kind c)).setCell ⟨b,1,none⟩ rfl _⟩
 ·exact Lib.BuilderAtF.put (T:=110) (e:=5) E f (bs':=bs++Lib.strCells s) (by simpa[Lib.strCells_length]using d) n
 ·exact(m.grown a (by have:=m.size;omega) (λk K=>(c.lt k K).1)).setCell (p:=⟨b,1,none⟩) E _
theorem zOH(B b:Nat)(bs:List Value)(c:Int)(w:World)(h:Lib.IsBuilderF 110 5 B b bs w)(H:bs.length+1<=140737488355328)(K:B<=w.heap.size):
  Calls prog 138 #[.pointer (some ⟨b,0,none⟩),.int .u8 c] w λe w'=>e= .returned .nilIface /\(Lib.BuilderAtF 110 5 B b (.pointer (some ⟨b,0,none⟩)) (bs++[.int .u8 c]) w'/\Below B w w'/\Lib.OthersKept 5 (some b) w w'):=by
 have s:((110:TypeId)≠5):=by decide
 obtain⟨N,L,D,E,F⟩:=info_parts Tryz.Builder_Extra_169.infoByte;go_enter func138,ntmps138
 go_wp2_with fail
 refine(zJI B b bs _ h).mono ?_;rintro e q ⟨rfl,J,m,z⟩;obtain⟨G,v,o,d,C⟩:=J;have P:q.cell? ⟨b,0,none⟩=some (.pointer (some ⟨b,0,none⟩)):=by rw[Lib.cell_of_heap o];rfl
 have c1:q.cell? ⟨b,1,none⟩=some v:=by rw[Lib.cell_of_heap o];rfl
 go_wp2_with(at_builtin;refine wpList_append_ownF _ rfl _ _ 108 rfl B 5 N (.int .u8 0) 1 1 underlying108 L D E F rfl (by decide) _ _ _ rfl (d.alloc _) ⟨q.heap.size,0,none⟩ 1 1 [.int .u8 c] rfl rfl ?c1 ?c2 ?c3 ?c4 ?c5 ?_)
 case c1=>
  intro j u t
  match j,t with
  |0,t=>simp at t;subst t;simp[Addr.add]
 case c2=>intro u I;simp at I;subst I;rfl
 case c3=>unfold maxLen;omega
 case c4=>omega
 case c5=>have:=m.size;simp;omega
 intro O x f a _
 have A:b<q.heap.size:=by
  rcases Nat.lt_or_ge b q.heap.size with y|y
  ·exact y
  ·simp[Array.getElem?_eq_none y]at o
 have n:x.heap[b]? =some (.cells #[.pointer (some ⟨b,0,none⟩),v] 110 (0,0)):=by
  rw[a.block b (by simp;omega) (λe=>C e.symm),Lib.alloc_old q _ b A];exact o
 have Q:x.cell? ⟨b,0,none⟩=some (.pointer (some ⟨b,0,none⟩)):=by rw[Lib.cell_of_heap n];rfl
 have R:x.cell? ⟨b,1,none⟩=some v:=by rw[Lib.cell_of_heap n];rfl
 have U:x.frozen? ⟨b,1,none⟩=false:=Lib.frozen_of_heap n 1
 obtain⟨g,i,rfl⟩:∃g i,O= .slice (some ⟨g,0,none⟩) (bs.length+1) i:=by
  rcases f.2 with⟨_,h0⟩|⟨g,i,cur,fz,hv,_⟩
  ·omega
  ·exact⟨g,i,hv⟩
 go_wp2;go_ret;refine⟨rfl,?_,?_,((z.alloc _).grown a (Lib.ownsRowF_kind (d.alloc _))).setCell ⟨b,1,none⟩ rfl _⟩
 ·exact Lib.BuilderAtF.put (T:=110) (e:=5) G n (bs':=bs++[.int .u8 c]) (by simpa using f) s
 ·exact((m.alloc (by have:=m.size;omega) _).grown a (by have:=m.size;simp;omega) (λk M=>(d.lt k M).1)).setCell (p:=⟨b,1,none⟩) G _
end
end Go.Proofs.YthpocbeoanipbaaGreatDoor
