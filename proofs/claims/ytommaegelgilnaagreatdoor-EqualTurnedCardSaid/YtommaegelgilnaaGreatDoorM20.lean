/- Lemmas. -/
import Derived.Test.YtommaegelgilnaaGreatDoorM19
import Derived.Lib.SlBuf
set_option linter.all false
namespace Go.Proofs.YtommaegelgilnaaGreatDoor
open Go.RowKit Go.Proofs.Tryz
set_option maxHeartbeats 4000000
set_option maxRecDepth 100000
variable {cv:Value}{m n:Nat}
section
open Go.Lib
theorem zRW(n:Nat)(b:1<=n)(c:n<=6)(w:World):Calls prog 131 #[.int .u64 1,.int .u64 (n:Int)] w λe w'=>e= .returned (.tuple #[.int .u64 0,.int .u64 (n:Int)])/\w'=w:=by
 have a:n=1\/n=2\/n=3\/n=4\/n=5\/n=6:=by omega
 rcases a with rfl|rfl|rfl|rfl|rfl|rfl
 all_goals
  go_enter func131,ntmps131
  go_wp2_with fail
  go_ret2;exact⟨by first|rfl|decide,rfl⟩
theorem zOa(n:Nat)(a:1<=n)(b:n<=6)(w:World):Calls prog 76 #[.int .u64 1,.int .u64 (n:Int)] w λe w'=>e= .returned (.tuple #[.int .u64 0,.int .u64 (n:Int)])/\w'=w:=by
 go_enter func76,ntmps76
 have c:IntKind.u64.wrap (n:Int)=(n:Int):=by rw[IntKind.wrap_u64];omega
 go_wp2_with fail
 refine(zRW n a b w).mono ?_;rintro e w' ⟨rfl,rfl⟩;go_wp2_with fail
 go_ret2;exact⟨rfl,rfl⟩
def zDT(n m:Nat)(cv:Value):Array Value:=(List.replicate m cv++List.replicate (n-m) (Value.slice none 0 0)).toArray
theorem zRX(h:m<=n):(zDT n m cv).size =n:=by unfold zDT;simp;omega
theorem zHo(h:m<=n)(j:Nat):(zDT n m cv)[j]? =if j<m then some cv else if j<n then some (Value.slice none 0 0)else none:=by
 unfold zDT;rw[List.getElem?_toArray];by_cases a:j<m
 ·rw[List.getElem?_append_left (by simpa using a),if_pos a,List.getElem?_replicate,if_pos a]
 rw[List.getElem?_append_right (by simp;omega),List.length_replicate,if_neg a,List.getElem?_replicate];by_cases b:j<n
 ·rw[if_pos (by omega),if_pos b]
 rw[if_neg (by omega),if_neg b]
theorem zS9{n m k:Nat}(h:m+k<=n):zC0 (zDT n m cv) (List.replicate k cv) m=zDT n (m+k) cv:=by
 refine Array.ext_getElem? λj=> ?_
 rw[zCJ _ _ _ (by rw[List.length_replicate,zRX (by omega)];exact h),List.length_replicate,zHo (by omega),zHo h];by_cases a:m<=j/\j<m+k
 ·rw[if_pos a,List.getElem?_replicate,if_pos (by omega),if_pos (by omega)]
 rw[if_neg a];by_cases b:j<m
 ·rw[if_pos b,if_pos (by omega)]
 rw[if_neg b,if_neg (show ¬j<m+k by omega)]
theorem zIk(n:Nat)(cv:Value):zDT n 0 cv=Array.replicate n (Value.slice none 0 0):=by unfold zDT;apply Array.ext';simp
theorem zRY(n:Nat)(cv:Value):zDT n n cv=(List.replicate n cv).toArray :=by unfold zDT;simp
theorem zN7{n m k m' dl sl sc dc h b:Nat}{w:World}(d:Blk w h 34 (zDT n m cv))(i:m+dl=n)(e:m'=m+k)(o:k=min sl dl)(g:cv.oneCell'=true)(c:∀j,j<k->w.cell? ⟨b,j,none⟩=some cv):
  (Builtin.copy_ #[28,28] 3 #[.slice (some ⟨h,m,none⟩) dl dc,.slice (some ⟨b,0,none⟩) sl sc]).run prog w= .ok (.int .i64 (k:Int)) (w.setCells h m (List.replicate k cv))/\Blk (w.setCells h m (List.replicate k cv)) h 34 (zDT n m' cv):=by
 have f:=d.setCells (List.replicate k cv) m;rw[zS9 (by omega),<-e]at f;refine⟨?_,f⟩
 have:=run_copy_cells (P:=prog) w 28 28 3 34 h m dl dc ⟨b,0,none⟩ sl sc (List.replicate k cv) underlying28 (by kernel_rfl) (by rw[List.length_replicate];exact o)
  (λj v a=>by
   rw[List.getElem?_replicate]at a;split at a
   ·rename_i h2;injection a with a;subst a;have:=c j h2;unfold Addr.add;split
    ·rename_i h3;subst h3;exact this
    simpa using this
   cases a)
  (λj a=>by
   rw[List.length_replicate]at a
   rw[d.cell,zHo (by omega),if_neg (by omega),if_pos (by omega)];rfl)
  (λj _=>d.frozen _) (λv q=>by rw[(List.mem_replicate.1 q).2];exact g)
 rw[List.length_replicate]at this;exact this
theorem zN8(c:Nat)(j:c<=100000000)(W:World):
  (Instr.makeSlice 28 (.int .i64 (c:Int)) (.int .i64 (c:Int))).run prog W= .ok (.slice (some ⟨W.heap.size,0,none⟩) c c) (W.alloc (.cells (zDT c 0 (.slice none 0 0)) 34)):=by
 obtain⟨h,e,g⟩:=Option.map_eq_some_iff.1 (show(prog.info? 34).map (λi=>(i.zero,i.size,i.bytes))=some (some (.slice none 0 0),1,24) from by kernel_rfl);simp only[Prod.mk.injEq]at g;obtain⟨f,d,a⟩:=g;have b:=run_make (w:=W) 28 34 h (.slice none 0 0) underlying28 e f .i64 .i64 (c:Int) (c:Int) (by omega) (Int.le_refl _) (by rw[a];omega) (by omega);simp only[Int.toNat_natCast,d,Nat.mul_one]at b
 have he:madeCells (Value.slice none 0 0).cells c=zDT c 0 (.slice none 0 0):=by
  rw[zIk];apply Array.ext';rw[show(Value.slice none 0 0).cells =#[.slice none 0 0] from rfl,toList_madeCells_one];simp
 rw[b,he]
theorem zPo(b n:Nat)(E:1<=n)(I:n<=6)(cv:Value)(s:cv.oneCell'=true)(w:World)(x:Blk w b 34 #[cv]):
  Calls prog 38 #[.slice (some ⟨b,0,none⟩) 1 1,.int .i64 (n:Int)] w λe w'=>e= .returned (.slice (some ⟨w.heap.size,0,none⟩) n n)/\Blk w' w.heap.size 34 (List.replicate n cv).toArray /\Bw w w':=by
 have T:¬((n:Int)<0):=by omega
 have C:IntKind.u64.wrap (n:Int)=(n:Int):=by rw[IntKind.wrap_u64];omega
 have D:IntKind.i64.wrap (n:Int)=(n:Int):=by rw[IntKind.wrap_i64];omega
 have U:¬((9223372036854775807:Int)<(n:Int)):=by omega
 have A:=zN8 n (by omega);have J:=x.lt
 obtain⟨d,a⟩:=zN7 (n:=n) (m:=0) (k:=1) (m':=1) (dl:=n) (sl:=1) (sc:=1) (dc:=n) (h:=w.heap.size) (b:=b) (cv:=cv) (w:=w.alloc (.cells (zDT n 0 (.slice none 0 0)) 34)) (by rw[zIk,<-zIk n (.slice none 0 0)];exact Blk.new w _ _) (by omega) rfl (by omega) s (λj L=>by
  obtain rfl:j=0:=by omega
  rw[(x.alloc _).cell]
  rfl)
 have a:=hid a;rw[show List.replicate 1 cv=[cv] from rfl]at d;have g:=hid (below_setCells w.heap.size (Nat.le_refl _) [cv] 0 (zG w (.cells (zDT n 0 (.slice none 0 0)) 34)));go_enter func38,ntmps38
 go_wp2_with fail
 refine(zOa n E I w).mono ?_;rintro e w' ⟨rfl,rfl⟩;go_upto_region 7 with fail
 go_wp2_with(at_builtin;refine wpList_copy_run _ rfl _ _ _ _ rfl _ _ rfl rfl d ?_);have a:Hid (Blk ((w'.alloc (.cells (zDT n 0 (.slice none 0 0)) 34)).setCells w'.heap.size 0 [cv]) w'.heap.size 34 (zDT n 1 cv)):=a;clear d A x;generalize (w'.alloc _).setCells w'.heap.size 0 [cv]=V at*;have y:decide ((9223372036854775807:Int)<(n:Int))=false:=decide_eq_false (by omega);rw[y];go_loopw[8] (λi wr=>∃m:Nat,1<=m/\m<=n/\i= .int .i64 (m:Int)/\Hid (Blk wr w'.heap.size 34 (zDT n m cv))/\Hid (Below w'.heap.size w' wr)) (λi _=>n-(RowKit.intOf i).toNat);case atStart=>exact⟨1,Nat.le_refl _,E,rfl,a,g⟩
 case round=>
  obtain⟨m,O,B,rfl,t,u⟩:=hrel;by_cases N:m<n
  ·(have H:(m:Int)<(n:Int):=by omega);(go_upto_region 9 with fail);obtain⟨k,G⟩:∃k,k=min m (n-m):=⟨_,rfl⟩;(have M:1<=k:=by omega);have z:m+k<=n:=by omega
   obtain⟨o,f⟩:=zN7 (n:=n) (m:=m) (k:=k) (m':=m+k) (dl:=n-m) (sl:=m) (sc:=n) (dc:=n-m) (h:=w'.heap.size) (b:=w'.heap.size) (cv:=cv) (w:=wr.drew) t.drew (by omega) rfl G s (λj L=>by
    rw[t.drew.cell,zHo B,if_pos (by omega)])
   have f:=hid f;have v:=hid (below_setCells w'.heap.size (Nat.le_refl _) (List.replicate k cv) m u.drew);refine zY 7 (λ_=>True) (by kernel_rfl) ?_;have c:(λ_:World=>True) wr.drew:=trivial;clear t u a g G;generalize wr.drew=Q at*
   (refine tkQ 0 c ?_;simp only[nr])
   try simp only[nq]
   (refine tkQ 1 c ?_;simp only[nr])
   try simp only[nq]
   (refine tkQ 2 c ?_;simp only[nr])
   (try simp only[nq]);refine tkZ 3 (.slice (some ⟨w'.heap.size,m,none⟩) (n-m) (n-m)) c (λW=> ?_) ?_
   ·go_simp;omega
   (try simp only[nr])
   (refine tkQ 4 c ?_;simp only[nr])
   try simp only[nq]
   (refine tkQ 5 c ?_;simp only[nr])
   (try simp only[nq]);refine tkZ 6 (.slice (some ⟨w'.heap.size,0,none⟩) m n) c (λW=> ?_) ?_
   ·go_simp
   (try simp only[nr])
   refine wS1 7 (λK F=> ?_);refine wp_copy_run _ _ _ _ _ rfl _ _ rfl rfl o ?_;refine F _ _ (Or.inr trivial) ?_;clear F K o;simp only[nq];generalize Q.setCells w'.heap.size m (List.replicate k cv)=R at*;(have P:IntKind.i64.wrap ((m:Int)+(k:Int))=((m+k:Nat):Int):=by rw[IntKind.wrap_i64];omega);clear C D;have c:(λ_:World=>True) R:=trivial;refine tkZ 8 (.int .i64 ((m+k:Nat):Int)) c (λW=> ?_) ?_
   ·go_simp
   (try simp only[nr])
   (refine tkQ 9 c ?_;simp only[nr])
   (try simp only[nq]);refine wSd ?_ _;(go_wp2_with fail);go_roundw;(case rel=>exact⟨m+k,by omega,z,by go_num,f,v⟩);case measure=>simp[RowKit.intOf];omega
  obtain rfl:m=n:=by omega
  have q:=t.out;rw[zRY]at q;go_wp2;go_ret;exact⟨rfl,q,u⟩
end
end Go.Proofs.YtommaegelgilnaaGreatDoor
