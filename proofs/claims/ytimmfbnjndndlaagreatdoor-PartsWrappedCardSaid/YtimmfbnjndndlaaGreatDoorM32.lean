/- Texts W13. -/
import Derived.Test.YtimmfbnjndndlaaGreatDoorM29
set_option linter.all false
namespace Go.Proofs.YtimmfbnjndndlaaGreatDoor
open Go.RowKit
set_option maxHeartbeats 4000000
set_option maxRecDepth 100000
theorem Tryz.eTok:ElemIs Tryz.prog 142 4 40:=elemIs_of (z:= .agg #[.int .i64 0,.int .i64 0,.int .i64 0,.string ⟨#[]⟩]) (by kernel_rfl) rfl (by decide)
def LexPost(s:ByteArray)(w:World)(e:Ending)(w':World):Prop:=
 ∃v,e= .returned (.tuple #[v,.int .i64 (lexS s).2.1,.int .i64 (lexS s).2.2])∧w'.ownsRow w.heap.size 142 4 v (lexS s).1.length ((lexS s).1.flatMap Tok.cells)∧Below w.heap.size w w'
theorem lexPost_mk{s:ByteArray}{w w':World}{v:Value}{ts:List Tok}{n e:Int}(h:lexS s=(ts,n,e))(ho:w'.ownsRow w.heap.size 142 4 v ts.length (ts.flatMap Tok.cells))(hb:Below w.heap.size w w'):
  LexPost s w (.returned (.tuple #[v,.int .i64 n,.int .i64 e])) w':=by
 unfold LexPost;rw[h];exact⟨v,rfl,ho,hb⟩
theorem own_nil(w:World)(base:Nat)(e:TypeId)(size:Nat):w.ownsRow base e size (.slice none 0 0) 0 []:=World.ownsRow_nil w base e size
theorem own_below{w w':World}{base:Nat}{e:TypeId}{size n:Nat}{v:Value}{xs:List Value}(h:w.ownsRow base e size v n xs)(hb:Below w.heap.size w w'):w'.ownsRow base e size v n xs:=
 h.kept (row:=none) ⟨hb.os,hb.tape,hb.output,hb.size,λk hk _=>hb.block k hk⟩ (by cases hv:v.ownBlock<;>simp)
theorem blk_cells{W:World}{g:Nat}{t:TypeId}{cs:List Value}(h:Blk W g t cs.toArray):∀j u,cs[j]? =some u->W.cell? ⟨g,0+j,none⟩=some u:=λj u hu=>by
 rw[Nat.zero_add,h.cell];simpa using hu
theorem lex_long(s:ByteArray)(w:World)(hs:20000<s.size)(hs2:s.size≤140737488355328):
  Calls Tryz.prog 82 #[.string s] w (LexPost s w):=by
 have hl:lexS s=([],2,-1):=by unfold lexS;rw[if_pos hs]
 have HL:=hid hl;clear hl;go_enter Tryz.func82,Tryz.ntmps82
 go_wp2;go_ret3;exact lexPost_mk HL.out (own_nil _ _ _ _) (Below.refl _ _)
theorem lex_short(s:ByteArray)(w:World)(hs:s.size≤20000):
  Calls Tryz.prog 82 #[.string s] w (LexPost s w):=by
 have hl:lexS s=lexT s (s.size+1) (gapS s 0) []:=by unfold lexS;rw[if_neg (by omega)]
 have HL:=hid hl;have hbd:=scan_build s;have h256:(valsI cls9).size =256:=by rw[valsI_size,cls9_size]
 have hg0:=gapS_bounds s (i:=0) (by omega);clear hl;go_enter Tryz.func82,Tryz.ntmps82
 go_wp2_with fail
 refine(classes_any _).mono ?_;rintro e w1 ⟨rfl,hb1⟩;have hw1:=hb1.size;go_wp2_with(refine wpList_store_blk rfl 172 _ _ rfl rfl rfl (Blk.new _ _ _) (by rw[Tryz.zc179,scanCells_size]) (by rw[scanCells_size];exact Tryz.sz179) (scanCells_one s) ?_;intro w2 hb2 hk2 hs2);have hsc:=scanAt_of hb2;have hbel:Below w.heap.size w w2:=hb1.trans ((below_keeps_ne (below1 w1 _) hk2 (Nat.le_refl _) (by simp)).mono (by omega));clear hbd h256 hb2 hk2 hb1;have hS:w1.heap.size<w2.heap.size:=by rw[hs2];simp
 have hSb:w.heap.size≤w1.heap.size:=hw1;go_wp2_with fail
 refine(gap_any w1.heap.size s 0 w2 hsc (by omega) (by omega) (by omega)).mono ?_;rintro e w3 ⟨rfl,hb3⟩;have hsc3:=hsc.below hb3 hS;have hbel3:=HBEL_trans hbel hb3;clear hsc hbel hb3 hs2;have hSb3:w1.heap.size<w3.heap.size:=hsc3.lt;have HE0:=hid hg0;go_wp2;go_loopw[6,7] (λv i wr=>∃(k f:Nat)(acc:List Tok),k≤s.size∧i= .int .i64 k∧s.size<f+k∧Hid (lexT s f k acc=lexS s)∧acc.length≤5000∧wr.ownsRow w3.heap.size 142 4 v acc.length (acc.flatMap Tok.cells)∧ScanAt wr w1.heap.size s∧Below w3.heap.size w3 wr) (λ_ i _=>s.size+1-(intOf i).toNat)
 case atStart=>
  refine⟨gapS s 0,s.size+1,[],HE0.out.2,rfl,by omega,HL.out.symm,by simp,own_nil _ _ _ _,hsc3,.refl _ _⟩
 case round=>
  obtain⟨k,f,acc,hk,rfl,hf,hlex,hacc,hown,hsc,hb⟩:=hrel;clear hsc3;obtain⟨oA,ocap,rfl,-,-,-⟩:=Row.of_own hown (by decide);obtain⟨f,rfl⟩:∃f',f=f'+1:=⟨f-1,by omega⟩;have hlt3:w3.heap.size≤wr.heap.size:=hb.size;by_cases hlt:k<s.size
  ·have hN:=hid (next_any w1.heap.size s k wr hsc hlt (by omega))
   have hex:lexS s=(if(nextS s k).2.2=0∧acc.length=5000 then([],2,(k:Int))else if(nextS s k).2.2≠0 then([],(nextS s k).2.2,(k:Int))else lexT s f (gapS s (nextS s k).2.1.toNat) (acc++[(nextS s k).1])):=by
    rw[<-hlex.out,lexT,if_pos hlt]
   have hnb:=nextS_bounds hlt;unfold NextPost at hN;generalize nextS s k=q at*;obtain⟨⟨kd,ps,nu,tx⟩,en,er⟩:=q;simp only[Tok.cells]at hN hex hnb;have HX:=hid hex;have HNB:=hid hnb;clear hex hnb;(go_wp2_with fail);refine hN.out.mono ?_;rintro e w4 ⟨rfl,hb4⟩;have hsc4:=hsc.below hb4 hsc.lt;have hown4:=own_below hown hb4;have hbl4:Below w3.heap.size w3 w4:=HBEL_trans hb hb4;have hlt4:=hbl4.size;have H4:=hid (And.intro hsc4 (And.intro hown4 hbl4));clear hsc hown hb hb4 hN hown4 hbl4 hsc4;by_cases h0:er=0
   ·subst h0;by_cases hfull:acc.length=5000
    ·(have hl5:(((acc.length:Nat):Int)==5000)=true:=by simp;omega);have hx:=HX.out;rw[if_pos ⟨rfl,hfull⟩]at hx;have HX2:=hid hx;clear hx hfull;go_wp2;go_ret3;exact lexPost_mk HX2.out (own_nil _ _ _ _) (hbel3.trans ((H4.out.2.2.alloc hlt4 _).mono (by omega)))
    ·(have hl5:(((acc.length:Nat):Int)==5000)=false:=by simp;omega);have hx:=HX.out;rw[if_neg (λh=>hfull h.2),if_neg (by simp)]at hx;have HX2:=hid hx;have hnb:=HNB.out rfl;have hgb:=gapS_bounds s (i:=en.toNat) (by omega);have HG:=hid hgb;obtain⟨m,rfl⟩:∃m:Nat,en=m:=⟨en.toNat,by omega⟩;simp only[Int.toNat_natCast]at hgb hnb;have hlt4':w3.heap.size≤w4.heap.size:=hlt4;clear hx;go_wp2_with(at_builtin;refine wpList_append1 rfl (.tmp 41) (.tmp 43) _ rfl Tryz.underlying138 Tryz.eTok rfl ((H4.out.2.1.alloc _).alloc _) rfl (news:=[.int .i64 kd,.int .i64 ps,.int .i64 nu,.string tx]) rfl (blk_cells (blk_new1 _ _ _ _)) (by simp[Value.oneCell']) (by unfold maxLen;omega) (by omega) (by simp;omega) ?_;intro v1 w5 hown5 hg5 hat5);have hb5:Below w3.heap.size w3 w5:=below_own ((H4.out.2.2.alloc hlt4 _).alloc (by simp;omega) _) ((H4.out.2.1.alloc _).alloc _) hg5 (by simp;omega) (Nat.le_refl _)
     have hsc5:ScanAt w5 w1.heap.size s:=by
      have hsc:=(H4.out.1.alloc (.cells #[.int .i64 kd,.int .i64 ps,.int .i64 nu,.string tx] 142)).alloc (.cells #[.int .i64 kd,.int .i64 ps,.int .i64 nu,.string tx] 142);have hbb:Below w3.heap.size _ w5:=below_own (.refl _ _) ((H4.out.2.1.alloc _).alloc _) hg5 (by simp;omega) (Nat.le_refl _);exact hsc.below hbb hSb3
     have HH:=hid (And.intro hown5 (And.intro hb5 hsc5));clear hown5 hg5 hat5 hb5 hsc5;(go_wp2_with fail);refine(gap_any w1.heap.size s m w5 HH.out.2.2 (by omega) (by omega) (by omega)).mono ?_;rintro e w6 ⟨rfl,hb6⟩;go_wp2;go_roundw
     case rel=>
      refine⟨gapS s m,f,acc++[⟨kd,ps,nu,tx⟩],by omega,by simp,by omega,(by have:=HX2.out;rw[Int.toNat_natCast]at this;exact this.symm),by simp;omega,?_,HH.out.2.2.below hb6 HH.out.2.2.lt,HBEL_trans HH.out.2.1 hb6⟩;have:=own_below HH.out.1 hb6;simpa[Tok.cells]using this
     case measure=>simp[intOf];omega
   ·have hx:=HX.out;rw[if_neg (λh=>h0 h.1),if_pos h0]at hx;have HX2:=hid hx;(have h0':(er==(0:Int))=false:=by simp[h0]);(have h0'':(er !=(0:Int))=true:=by simp[h0]);clear hx h0;go_wp2;go_ret3;exact lexPost_mk HX2.out (own_nil _ _ _ _) (hbel3.trans ((H4.out.2.2.alloc hlt4 _).mono (by omega)))
  ·(have hx:lexS s=(acc,0,0):=by rw[<-hlex.out,lexT,if_neg hlt]);have HX:=hid hx;clear hx;go_wp2;go_ret3;exact lexPost_mk HX.out (own_mono hown (by omega)) (hbel3.trans (hb.mono (by omega)))
theorem lex_any(s:ByteArray)(w:World)(hs:s.size≤140737488355328):Calls Tryz.prog 82 #[.string s] w (LexPost s w):=by
 by_cases h:s.size≤20000
 ·exact lex_short s w h
 ·exact lex_long s w (by omega) hs
end Go.Proofs.YtimmfbnjndndlaaGreatDoor
