/- Texts R1 R3 PX. -/
import Derived.Test.YtimmfbnjndndlaaGreatDoorM24
import Derived.Test.YtimmfbnjndndlaaGreatDoorM35
import Derived.Test.YtimmfbnjndndlaaGreatDoorM37
import Derived.Lay
import Derived.Test.YtimmfbnjndndlaaGreatDoorM38
set_option linter.all false
namespace Go.Proofs.YtimmfbnjndndlaaGreatDoor
open Go.RowKit
set_option maxRecDepth 100000
section
open Go.ChangeShapes Go.WideShapes Go.ChangeAt
abbrev laid7:List (String × DataW Unit):=[("math/bits.deBruijn32tab",Rows.laid_math_bits_deBruijn32tab),("math/bits.deBruijn64tab",Rows.laid_math_bits_deBruijn64tab),("internal/strconv.uint64pow10",Rows.laid_internal_strconv_uint64pow10),("unicode/utf8.acceptRanges",Rows.laid_unicode_utf8_acceptRanges),("strconv.ErrRange",Rows.laid_strconv_ErrRange),("strconv.ErrSyntax",Rows.laid_strconv_ErrSyntax),("unicode/utf8.first",Rows.laid_unicode_utf8_first)]
theorem laid_met7(os:Os)(args:Array Value):laidMetH Tryz.prog laid7 ((World.laidAll Tryz.prog os laid7).forCall (λ_ _=>0) ⟨#[],args,[]⟩).memory :=by
 rw[MakeChecks.laidMetH_plain _ _ _ (by kernel_rfl)];exact laidMet_laidAll _ (by kernel_rfl) (by kernel_rfl)
theorem laid_shape7(os:Os):(World.laidAll Tryz.prog os laid7).Shaped Tryz.prog:=World.shaped_of_ZipB (by kernel_rfl) (by kernel_rfl)
theorem tab_of_laid7{W:World}(h:laidMetH Tryz.prog laid7 W):TabB W.heap.size W:=by
 rw[MakeChecks.laidMetH_plain _ _ _ (by kernel_rfl)]at h;have h1:=laidMet.filter (λx=>x.1== "internal/strconv.uint64pow10") h;have e:laid7.filter (λx=>x.1== "internal/strconv.uint64pow10")=[("internal/strconv.uint64pow10",Lib.tabData .u64 Lib.pow10Tab)]:=by rfl
 rw[e]at h1;exact Lib.tabBelow_of_tabIs (Lib.tabIs_of_head (g:=2) (t:=243) (e:=184) (n:=20) (by kernel_rfl) (by kernel_rfl) Tryz.underlying243 Tryz.underlying184 (by kernel_rfl) (by kernel_rfl) h1)
section ops
variable {H:Type} {enc:TypeId × Value->H} {w:World} {held:Bool}
theorem u_int:Tryz.prog.underlying 3=some (.int .i64):=Tryz.underlying3
theorem u_str:Tryz.prog.underlying 9=some .string :=Tryz.underlying9
theorem u_bool:Tryz.prog.underlying 4=some .bool :=Tryz.underlying4
theorem c_int:Tryz.prog.cellsOf 3=1:=by kernel_rfl
theorem c_str:Tryz.prog.cellsOf 9=1:=by kernel_rfl
theorem c_bool:Tryz.prog.cellsOf 4=1:=by kernel_rfl
theorem oq_facts{m:Nat}{v:Value}{y:DataW H × List MemPlace}(h:DataW.trod enc Tryz.prog w 0 (λ_=>true) held m 22 [v]=some y)(hw:RdFits Tryz.prog 22 y.1):∃xs,Facts (Here w) w v xs:=by
 obtain⟨f0,f1,f2,f3,hf,⟨t0,o0⟩,⟨t1,o1⟩,⟨t2,o2⟩,⟨t3,o3⟩⟩:∃f0 f1 f2 f3,Tryz.prog.underlying 95=some (.struct #[f0,f1,f2,f3])∧(f0.type=9∧f0.offset=0)∧(f1.type=3∧f1.offset=1)∧(f2.type=3∧f2.offset=2)∧(f3.type=3∧f3.offset=3):=⟨_,_,_,_,Tryz.underlying95,⟨rfl,rfl⟩,⟨rfl,rfl⟩,⟨rfl,rfl⟩,rfl,rfl⟩
 obtain⟨l,A,cap,e,h1,h2,h3,h4⟩:=op_seq (R:=λcs(f:FactD)=>cs=FactD.cells f∧f.fit) (by decide) Tryz.underlying22 (show Tryz.prog.cellsOf 95=4 by kernel_rfl) h hw (λm cs y _ hl hy hw=>by
  obtain⟨-,hp⟩:=op_field hf hy hw
  match cs,hl with
  |[c0,c1,c2,c3],_=>
   obtain⟨m0,y0,-,q0,w0⟩:=hp 0 f0 rfl;obtain⟨m1,y1,-,q1,w1⟩:=hp 1 f1 rfl;obtain⟨m2,y2,-,q2,w2⟩:=hp 2 f2 rfl;obtain⟨m3,y3,-,q3,w3⟩:=hp 3 f3 rfl;rw[t0,o0,c_str]at q0;rw[t0]at w0;rw[t1,o1,c_int]at q1;rw[t2,o2,c_int]at q2;rw[t3,o3,c_int]at q3;obtain⟨s,rfl,hs⟩:=op_str u_str q0 w0;obtain⟨n1,rfl,i1⟩:=op_int u_int q1;obtain⟨n2,rfl,i2⟩:=op_int u_int q2;obtain⟨n3,rfl,i3⟩:=op_int u_int q3
   exact⟨⟨s,n1,n2,n3⟩,rfl,hs,i1,i2,i3⟩)
 rw[show Tryz.prog.bytesOf 95=40 by kernel_rfl,reach_is]at h3;obtain rfl:v=_:=by simpa using e
 refine⟨l,⟨A,cap,rfl,h1,by simpa[maxLen]using h2,by omega,h4.imp (λ_ _ h=>h.1) (Keeps.refl _ _) (λ_ h=>h)⟩,λx hx=> ?_⟩;obtain⟨i,hi,rfl⟩:=List.getElem_of_mem hx;obtain⟨_,_,_,_,_,_,h⟩:=SeqR.at_ h4 hi;exact h.2
theorem oq_fm:∀(m:Nat)(cs:List Value)(y:DataW H × List MemPlace),cs.length=5->DataW.trod enc Tryz.prog w 0 (λ_=>true) held m 47 cs=some y->RdFits Tryz.prog 47 y.1->∃f,FmR (Here w) w f cs:=by
 intro m
 induction m using Nat.strongRecOn with
 |ind m ih=>
  intro cs y hl hy hw;obtain⟨f0,f1,f2,f3,f4,hf,⟨t0,o0⟩,⟨t1,o1⟩,⟨t2,o2⟩,⟨t3,o3⟩,⟨t4,o4⟩⟩:∃f0 f1 f2 f3 f4,Tryz.prog.underlying 47=some (.struct #[f0,f1,f2,f3,f4])∧(f0.type=3∧f0.offset=0)∧(f1.type=9∧f1.offset=1)∧(f2.type=3∧f2.offset=2)∧(f3.type=3∧f3.offset=3)∧(f4.type=45∧f4.offset=4):=⟨_,_,_,_,_,Tryz.underlying47,⟨rfl,rfl⟩,⟨rfl,rfl⟩,⟨rfl,rfl⟩,⟨rfl,rfl⟩,rfl,rfl⟩;obtain⟨-,hp⟩:=op_field hf hy hw
  match cs,hl with
  |[c0,c1,c2,c3,c4],_=>
   obtain⟨m0,y0,-,q0,w0⟩:=hp 0 f0 rfl;obtain⟨m1,y1,-,q1,w1⟩:=hp 1 f1 rfl;obtain⟨m2,y2,-,q2,w2⟩:=hp 2 f2 rfl;obtain⟨m3,y3,-,q3,w3⟩:=hp 3 f3 rfl;obtain⟨m4,y4,lt4,q4,w4⟩:=hp 4 f4 rfl;rw[t0,o0,c_int]at q0;rw[t1,o1,c_str]at q1;rw[t2,o2,c_int]at q2;rw[t3,o3,c_int]at q3;rw[t4,o4,show Tryz.prog.cellsOf 45=1 by kernel_rfl]at q4;rw[t1]at w1;rw[t4]at w4;obtain⟨n0,rfl,i0⟩:=op_int u_int q0;obtain⟨s,rfl,hs⟩:=op_str u_str q1 w1;obtain⟨n2,rfl,i2⟩:=op_int u_int q2;obtain⟨n3,rfl,i3⟩:=op_int u_int q3;obtain⟨l,A,cap,e,h1,h2,h3,h4⟩:=op_seq (R:=λcs f=>FmR (Here w) w f cs) (by decide) Tryz.underlying45 (show Tryz.prog.cellsOf 47=5 by kernel_rfl) q4 w4 (λm' cs y hm hl hy hw=>ih m' (by omega) cs y hl hy hw);rw[show Tryz.prog.bytesOf 47=64 by kernel_rfl,reach_is]at h3;(obtain rfl:c4=_:=by simpa using e);refine⟨.mk n0 s n2 n3 l,?_⟩;unfold FmR;exact⟨i0,hs,i2,i3,A,cap,rfl,h1,by simpa[maxLen]using h2,by omega,FmsR.of_seq h4⟩
theorem oq_lines{m:Nat}{v:Value}{y:DataW H × List MemPlace}(h:DataW.trod enc Tryz.prog w 0 (λ_=>true) held m 25 [v]=some y)(hw:RdFits Tryz.prog 25 y.1):∃xs,LinesR (Here w) w v xs:=by
 obtain⟨f0,f1,f2,hf,⟨t0,o0⟩,⟨t1,o1⟩,⟨t2,o2⟩⟩:∃f0 f1 f2,Tryz.prog.underlying 49=some (.struct #[f0,f1,f2])∧(f0.type=47∧f0.offset=0)∧(f1.type=9∧f1.offset=5)∧(f2.type=4∧f2.offset=6):=⟨_,_,_,Tryz.underlying49,⟨rfl,rfl⟩,⟨rfl,rfl⟩,rfl,rfl⟩
 obtain⟨l,A,cap,e,h1,h2,h3,h4⟩:=op_seq (R:=λcs(x:LineD)=>LineR (Here w) w cs x) (by decide) Tryz.underlying25 (show Tryz.prog.cellsOf 49=7 by kernel_rfl) h hw (λm cs y _ hl hy hw=>by
  obtain⟨-,hp⟩:=op_field hf hy hw
  match cs,hl with
  |[c0,c1,c2,c3,c4,c5,c6],_=>
   obtain⟨m0,y0,-,q0,w0⟩:=hp 0 f0 rfl;obtain⟨m1,y1,-,q1,w1⟩:=hp 1 f1 rfl;obtain⟨m2,y2,-,q2,w2⟩:=hp 2 f2 rfl;rw[t0,o0,show Tryz.prog.cellsOf 47=5 by kernel_rfl]at q0;rw[t0]at w0;rw[t1,o1,c_str]at q1;rw[t1]at w1;rw[t2,o2,c_bool]at q2;obtain⟨f,hfm⟩:=oq_fm _ _ _ rfl q0 w0;obtain⟨s,rfl,hs⟩:=op_str u_str q1 w1;obtain⟨b,rfl⟩:=op_bool u_bool q2
   exact⟨⟨f,s,b⟩,_,hfm,rfl,hs⟩)
 rw[show Tryz.prog.bytesOf 49=88 by kernel_rfl,reach_is]at h3;obtain rfl:v=_:=by simpa using e
 exact⟨l,⟨A,cap,rfl,h1,by simpa[maxLen]using h2,by omega,h4⟩⟩
theorem oq_comps{m:Nat}{v:Value}{y:DataW H × List MemPlace}(h:DataW.trod enc Tryz.prog w 0 (λ_=>true) held m 40 [v]=some y)(hw:RdFits Tryz.prog 40 y.1):∃xs,Comps (Here w) w v xs:=by
 obtain⟨f0,f1,hf,⟨t0,o0⟩,⟨t1,o1⟩⟩:∃f0 f1,Tryz.prog.underlying 51=some (.struct #[f0,f1])∧(f0.type=9∧f0.offset=0)∧(f1.type=3∧f1.offset=1):=⟨_,_,Tryz.underlying51,⟨rfl,rfl⟩,rfl,rfl⟩
 obtain⟨l,A,cap,e,h1,h2,h3,h4⟩:=op_seq (R:=λcs(x:CompD)=>cs=CompD.cells x∧x.fit) (by decide) Tryz.underlying40 (show Tryz.prog.cellsOf 51=2 by kernel_rfl) h hw (λm cs y _ hl hy hw=>by
  obtain⟨-,hp⟩:=op_field hf hy hw
  match cs,hl with
  |[c0,c1],_=>
   obtain⟨m0,y0,-,q0,w0⟩:=hp 0 f0 rfl;obtain⟨m1,y1,-,q1,w1⟩:=hp 1 f1 rfl;rw[t0,o0,c_str]at q0;rw[t0]at w0;rw[t1,o1,c_int]at q1;obtain⟨s,rfl,hs⟩:=op_str u_str q0 w0;obtain⟨n,rfl,hn⟩:=op_int u_int q1
   exact⟨⟨s,n⟩,rfl,hs,hn⟩)
 rw[show Tryz.prog.bytesOf 51=24 by kernel_rfl,reach_is]at h3;obtain rfl:v=_:=by simpa using e
 refine⟨l,⟨A,cap,rfl,h1,by simpa[maxLen]using h2,by omega,h4.imp (λ_ _ h=>h.1) (Keeps.refl _ _) (λ_ h=>h)⟩,λx hx=> ?_⟩;obtain⟨i,hi,rfl⟩:=List.getElem_of_mem hx;obtain⟨_,_,_,_,_,_,h⟩:=SeqR.at_ h4 hi;exact h.2
theorem oq_prod{m:Nat}{cs:List Value}{y:DataW H × List MemPlace}(hl:cs.length=5)(hy:DataW.trod enc Tryz.prog w 0 (λ_=>true) held m 42 cs=some y)(hw:RdFits Tryz.prog 42 y.1):∃p,ProdR (Here w) w cs p:=by
 obtain⟨f0,f1,f2,f3,hf,⟨t0,o0⟩,⟨t1,o1⟩,⟨t2,o2⟩,⟨t3,o3⟩⟩:∃f0 f1 f2 f3,Tryz.prog.underlying 42=some (.struct #[f0,f1,f2,f3])∧(f0.type=9∧f0.offset=0)∧(f1.type=39∧f1.offset=1)∧(f2.type=37∧f2.offset=2)∧(f3.type=40∧f3.offset=4):=⟨_,_,_,_,Tryz.underlying42,⟨rfl,rfl⟩,⟨rfl,rfl⟩,⟨rfl,rfl⟩,rfl,rfl⟩;obtain⟨g0,g1,hg,⟨s0,r0⟩,⟨s1,r1⟩⟩:∃f0 f1,Tryz.prog.underlying 37=some (.struct #[f0,f1])∧(f0.type=9∧f0.offset=0)∧(f1.type=3∧f1.offset=1):=⟨_,_,Tryz.underlying37,⟨rfl,rfl⟩,rfl,rfl⟩;obtain⟨-,hp⟩:=op_field hf hy hw
 match cs,hl with
 |[c0,c1,c2,c3,c4],_=>
  obtain⟨m0,y0,-,q0,w0⟩:=hp 0 f0 rfl;obtain⟨m1,y1,-,q1,w1⟩:=hp 1 f1 rfl;obtain⟨m2,y2,-,q2,w2⟩:=hp 2 f2 rfl;obtain⟨m3,y3,-,q3,w3⟩:=hp 3 f3 rfl;rw[t0,o0,c_str]at q0;rw[t0]at w0;rw[t1,o1,show Tryz.prog.cellsOf 39=1 by kernel_rfl]at q1;rw[t1]at w1;rw[t2,o2,show Tryz.prog.cellsOf 37=2 by kernel_rfl]at q2;rw[t2]at w2;rw[t3,o3,show Tryz.prog.cellsOf 40=1 by kernel_rfl]at q3;rw[t3]at w3;obtain⟨s,rfl,hs⟩:=op_str u_str q0 w0;obtain⟨vc,xs,ec,hc⟩:=op_ints Tryz.underlying39 u_int c_int (by kernel_rfl) q1 w1;obtain rfl:c1=vc:=by simpa using ec
  obtain⟨-,hp2⟩:=op_field hg q2 w2;obtain⟨k0,z0,-,p0,v0⟩:=hp2 0 g0 rfl;obtain⟨k1,z1,-,p1,v1⟩:=hp2 1 g1 rfl;rw[s0,r0,c_str]at p0;rw[s0]at v0;rw[s1,r1,c_int]at p1;obtain⟨cu,rfl,hcu⟩:=op_str u_str p0 v0;obtain⟨u,rfl,hu⟩:=op_int u_int p1;obtain⟨ps,hps⟩:=oq_comps q3 w3;exact⟨⟨s,xs,cu,u,ps⟩,_,_,rfl,hc,hps,hs,hcu,hu⟩
theorem oq_prods{m:Nat}{v:Value}{y:DataW H × List MemPlace}(h:DataW.trod enc Tryz.prog w 0 (λ_=>true) held m 28 [v]=some y)(hw:RdFits Tryz.prog 28 y.1):∃xs,Prods (Here w) w v xs:=by
 obtain⟨l,A,cap,e,h1,h2,h3,h4⟩:=op_seq (R:=λcs(x:ProdD)=>ProdR (Here w) w cs x) (by decide) Tryz.underlying28 (show Tryz.prog.cellsOf 42=5 by kernel_rfl) h hw (λm cs y _ hl hy hw=>oq_prod hl hy hw);rw[show Tryz.prog.bytesOf 42=88 by kernel_rfl,reach_is]at h3;obtain rfl:v=_:=by simpa using e
 exact⟨l,⟨A,cap,rfl,h1,by simpa[maxLen]using h2,by omega,h4⟩⟩
theorem oq_rates{m:Nat}{v:Value}{y:DataW H × List MemPlace}(h:DataW.trod enc Tryz.prog w 0 (λ_=>true) held m 29 [v]=some y)(hw:RdFits Tryz.prog 29 y.1):∃xs,Rates (Here w) w v xs:=by
 obtain⟨f0,f1,f2,f3,hf,⟨t0,o0⟩,⟨t1,o1⟩,⟨t2,o2⟩,⟨t3,o3⟩⟩:∃f0 f1 f2 f3,Tryz.prog.underlying 100=some (.struct #[f0,f1,f2,f3])∧(f0.type=9∧f0.offset=0)∧(f1.type=3∧f1.offset=1)∧(f2.type=3∧f2.offset=2)∧(f3.type=3∧f3.offset=3):=⟨_,_,_,_,Tryz.underlying100,⟨rfl,rfl⟩,⟨rfl,rfl⟩,⟨rfl,rfl⟩,rfl,rfl⟩
 obtain⟨l,A,cap,e,h1,h2,h3,h4⟩:=op_seq (R:=λcs(f:RateD)=>cs=RateD.cells f∧f.fit) (by decide) Tryz.underlying29 (show Tryz.prog.cellsOf 100=4 by kernel_rfl) h hw (λm cs y _ hl hy hw=>by
  obtain⟨-,hp⟩:=op_field hf hy hw
  match cs,hl with
  |[c0,c1,c2,c3],_=>
   obtain⟨m0,y0,-,q0,w0⟩:=hp 0 f0 rfl;obtain⟨m1,y1,-,q1,w1⟩:=hp 1 f1 rfl;obtain⟨m2,y2,-,q2,w2⟩:=hp 2 f2 rfl;obtain⟨m3,y3,-,q3,w3⟩:=hp 3 f3 rfl;rw[t0,o0,c_str]at q0;rw[t0]at w0;rw[t1,o1,c_int]at q1;rw[t2,o2,c_int]at q2;rw[t3,o3,c_int]at q3;obtain⟨s,rfl,hs⟩:=op_str u_str q0 w0;obtain⟨n1,rfl,i1⟩:=op_int u_int q1;obtain⟨n2,rfl,i2⟩:=op_int u_int q2;obtain⟨n3,rfl,i3⟩:=op_int u_int q3
   exact⟨⟨s,n1,n2,n3⟩,rfl,hs,i1,i2,i3⟩)
 rw[show Tryz.prog.bytesOf 100=40 by kernel_rfl,reach_is]at h3;obtain rfl:v=_:=by simpa using e
 refine⟨l,⟨A,cap,rfl,h1,by simpa[maxLen]using h2,by omega,h4.imp (λ_ _ h=>h.1) (Keeps.refl _ _) (λ_ h=>h)⟩,λx hx=> ?_⟩;obtain⟨i,hi,rfl⟩:=List.getElem_of_mem hx;obtain⟨_,_,_,_,_,_,h⟩:=SeqR.at_ h4 hi;exact h.2
end ops
section args
variable {H:Type} {enc:TypeId × Value->H} {W:World} {v:Value} {d:DataW H} {ps:List MemPlace} {base:Nat}
theorem arg_tar(hv:Value.okWide Tryz.prog W .any base 27 v)(ht:DataW.Trod enc Tryz.prog W 0 (λ_=>true) true 27 v d ps)(hw:RdFits Tryz.prog 27 d):∃vd vl t,v= .agg #[vd,vl]∧TarR (Here W) W vd vl t:=by
 obtain⟨cs,rfl,hsz⟩:=okWide_struct Tryz.underlying27 hv;obtain⟨fuel,hf⟩:=ht;obtain⟨f0,f1,hu,⟨t0,o0⟩,⟨t1,o1⟩⟩:∃f0 f1,Tryz.prog.underlying 27=some (.struct #[f0,f1])∧(f0.type=24∧f0.offset=0)∧(f1.type=25∧f1.offset=1):=⟨_,_,Tryz.underlying27,⟨rfl,rfl⟩,rfl,rfl⟩;obtain⟨g0,hg,⟨s0,r0⟩⟩:∃f0,Tryz.prog.underlying 24=some (.struct #[f0])∧(f0.type=22∧f0.offset=0):=⟨_,Tryz.underlying24,rfl,rfl⟩;obtain⟨-,hp⟩:=op_field hu hf hw;obtain⟨l⟩:=cs;rw[show Tryz.prog.cellsOf 27=2 by kernel_rfl]at hsz
 match l,hsz with
 |[c0,c1],_=>
  obtain⟨m0,y0,-,q0,w0⟩:=hp 0 f0 rfl;obtain⟨m1,y1,-,q1,w1⟩:=hp 1 f1 rfl;rw[t0,o0,show Tryz.prog.cellsOf 24=1 by kernel_rfl]at q0;rw[t0]at w0;rw[t1,o1,show Tryz.prog.cellsOf 25=1 by kernel_rfl]at q1;rw[t1]at w1;obtain⟨-,hp2⟩:=op_field hg q0 w0;obtain⟨k0,z0,-,p0,v0⟩:=hp2 0 g0 rfl;rw[s0,r0,show Tryz.prog.cellsOf 22=1 by kernel_rfl]at p0;rw[s0]at v0;obtain⟨ds,hd⟩:=oq_facts p0 v0;obtain⟨ls,hl⟩:=oq_lines q1 w1;exact⟨c0,c1,⟨ds,ls⟩,rfl,hd,hl⟩
theorem arg_prods(hv:Value.okWide Tryz.prog W .any base 28 v)(ht:DataW.Trod enc Tryz.prog W 0 (λ_=>true) true 28 v d ps)(hw:RdFits Tryz.prog 28 d):∃xs,Prods (Here W) W v xs:=by
 obtain⟨A,n,c,rfl⟩:=okWide_slice Tryz.underlying28 hv;obtain⟨fuel,hf⟩:=ht;exact oq_prods hf hw
theorem arg_rates(hv:Value.okWide Tryz.prog W .any base 29 v)(ht:DataW.Trod enc Tryz.prog W 0 (λ_=>true) true 29 v d ps)(hw:RdFits Tryz.prog 29 d):∃xs,Rates (Here W) W v xs:=by
 obtain⟨A,n,c,rfl⟩:=okWide_slice Tryz.underlying29 hv;obtain⟨fuel,hf⟩:=ht;exact oq_rates hf hw
theorem arg_str(hv:Value.okWide Tryz.prog W .any base 9 v)(ht:DataW.Trod enc Tryz.prog W 0 (λ_=>true) true 9 v d ps)(hw:RdFits Tryz.prog 9 d):∃s:ByteArray,v= .string s∧s.size≤140737488355328:=by
 obtain⟨s,rfl⟩:=okWide_string u_str hv;obtain⟨fuel,hf⟩:=ht;obtain⟨s',e,h⟩:=op_str u_str hf hw;exact⟨s',e,h⟩
theorem arg_int(hv:Value.okWide Tryz.prog W .any base 3 v)(ht:DataW.Trod enc Tryz.prog W 0 (λ_=>true) true 3 v d ps)(hw:RdFits Tryz.prog 3 d):∃n,v= .int .i64 n∧I64 n:=by
 obtain⟨n,rfl⟩:=okWide_int u_int hv;obtain⟨fuel,hf⟩:=ht;obtain⟨n',e,h⟩:=op_int u_int hf;exact⟨n',e,h⟩
theorem arg_prod(hv:Value.okWide Tryz.prog W .any base 42 v)(ht:DataW.Trod enc Tryz.prog W 0 (λ_=>true) true 42 v d ps)(hw:RdFits Tryz.prog 42 d):∃p cs,v= .agg cs.toArray∧ProdR (Here W) W cs p:=by
 obtain⟨cs,rfl,hsz⟩:=okWide_struct Tryz.underlying42 hv;obtain⟨fuel,hf⟩:=ht;obtain⟨p,h⟩:=oq_prod (by show cs.toList.length=5;rw[Array.length_toList,hsz];kernel_rfl) hf hw;exact⟨p,cs.toList,by simp,h⟩
end args
end
section
open Go
theorem p_rowed:mapsRowed Tryz.prog=true:=by kernel_rfl
theorem p_stops:(Tryz.prog.stops==[])=true:=by kernel_rfl
theorem p_knobs:(Tryz.prog.stopKnobs==[])=true:=by kernel_rfl
theorem p_heard:Tryz.prog.stopsHeard=true:=by kernel_rfl
theorem p_enter:Tryz.prog.mayEnter=true:=by kernel_rfl
theorem p_lifts:(Rows.partsWrappedRow.lifted==Tryz.prog.liftsFinal)=true:=by kernel_rfl
theorem p_keys:(Rows.partsWrappedRow.plainKeys==Tryz.prog.plainKeys)=true:=by kernel_rfl
theorem p_make:(Tryz.prog.make==some Rows.partsWrappedRow.make)=true:=by kernel_rfl
end
theorem floor_le{q:Rt}(hl:Low q)(h0:q.neg=false):(((q.num / q.den:Nat):Int):Rat)≤q.toQ∧q.toQ<((((q.num / q.den:Nat):Int)+1:Int):Rat):=by
 have hd:=hl.den;refine⟨?_,?_⟩
 ·rw[Rat.le_iff,hl.toQ.1,hl.toQ.2];unfold sgI;rw[h0];simp only[Bool.false_eq_true,if_false];show((q.num / q.den:Nat):Int)*(q.den:Int)≤(q.num:Int)*((1:Nat):Int);have:=Nat.div_mul_le_self q.num q.den;rw[<-Int.natCast_mul,<-Int.natCast_mul];omega
 ·rw[Rat.lt_iff,hl.toQ.1,hl.toQ.2];unfold sgI;rw[h0];simp only[Bool.false_eq_true,if_false];show(q.num:Int)*((1:Nat):Int)<(((q.num / q.den:Nat):Int)+1)*(q.den:Int);have:=Nat.lt_div_mul_add (a:=q.num) hd
  have e:(((q.num / q.den:Nat):Int)+1)*(q.den:Int)=((q.num / q.den*q.den+q.den:Nat):Int):=by
   rw[Int.add_mul,Int.one_mul,Int.natCast_add,Int.natCast_mul]
  rw[e];omega
theorem mulR_val{a b:Rt}(h:(mulR a b).2=0)(ha:0<a.den)(hb:0<b.den):Low (mulR a b).1∧(mulR a b).1.toQ =a.toQ*b.toQ:=by
 rcases mulR_cases a b with⟨_,_,e⟩|e
 ·rw[e];exact⟨prodQ_low ha hb,prodQ_q ha hb⟩
 ·rw[e]at h;cases h
structure ShareOk (t:TarD) (l:List ProdD) (r:List RateD) (base id:ByteArray) (day n:Int):Prop where
 ctl:(controlP t l r base id day).2=0
 val:(valueP t l r base id day).2=0
 lo:0≤n
 hi:n≤100
 zero:(valueP t l r base id day).1.num =0->n=0
 low:(valueP t l r base id day).1.num ≠0->(mulR (ofR n 1) (valueP t l r base id day).1).2=0->(mulR (ofR 100 1) (controlP t l r base id day).1).2=0->
  (cmpR (mulR (ofR n 1) (valueP t l r base id day).1).1 (mulR (ofR 100 1) (controlP t l r base id day).1).1).2=0->(cmpR (mulR (ofR n 1) (valueP t l r base id day).1).1 (mulR (ofR 100 1) (controlP t l r base id day).1).1).1≤0
 high:(valueP t l r base id day).1.num ≠0->(mulR (ofR (n+1) 1) (valueP t l r base id day).1).2=0->(mulR (ofR 100 1) (controlP t l r base id day).1).2=0->
  (cmpR (mulR (ofR 100 1) (controlP t l r base id day).1).1 (mulR (ofR (n+1) 1) (valueP t l r base id day).1).1).2=0->(cmpR (mulR (ofR 100 1) (controlP t l r base id day).1).1 (mulR (ofR (n+1) 1) (valueP t l r base id day).1).1).1<0
theorem share_err{t:TarD}{l:List ProdD}{r:List RateD}{base id:ByteArray}{day:Int}(h:(shareP t l r base id day).2≠0):(shareP t l r base id day).1=0:=by
 unfold shareP at h⊢;split
 ·rfl
 rename_i h1;rw[if_neg h1]at h;split
 ·rfl
 rename_i h2;rw[if_neg h2]at h;split
 ·rfl
 rename_i h3;rw[if_neg h3]at h;split
 ·rfl
 rename_i h4;rw[if_neg h4]at h;unfold floorR at h⊢;simp only at h⊢;generalize (if(divR (mulR (ofR 100 1) (controlP t l r base id day).1).1 (valueP t l r base id day).1).1.neg =true then _ else _:Int)=q at h⊢;split
 ·rename_i h5;rw[if_pos h5]at h;exact absurd rfl h
 ·rfl
theorem share_ok{t:TarD}{l:List ProdD}{r:List RateD}{base id:ByteArray}{day:Int}(h:(shareP t l r base id day).2=0):ShareOk t l r base id day (shareP t l r base id day).1:=by
 have h1:(controlP t l r base id day).2=0:=by
  unfold shareP at h;split at h
  ·contradiction
  ·rename_i h1;simpa using h1
 obtain⟨p,hp,hc⟩:=control_ok h1;have hdv:=hc.lowV.den;have hdc:=hc.low.den;have hv0:0≤(valueP t l r base id day).1.toQ :=Rat.le_trans hc.pos hc.le;unfold shareP at h⊢;rw[if_neg (by simpa using h1)]at h⊢;by_cases h2:(valueP t l r base id day).1.num =0
 ·rw[if_pos h2];exact⟨h1,hc.val,by decide,by decide,λ_=>rfl,λhn=>absurd h2 hn,λhn=>absurd h2 hn⟩
 ·rw[if_neg h2]at h⊢;split at h
  ·contradiction
  rename_i h3;rw[if_neg h3];split at h
  ·contradiction
  rename_i h4;rw[if_neg h4];have h3:(mulR (ofR 100 1) (controlP t l r base id day).1).2=0:=by simpa using h3
  obtain⟨ml,mq⟩:=mulR_val h3 (ofR_den (by decide)) hdc;rw[ofR_q]at mq;obtain⟨dl,-,dq⟩:=divR_ok ml hc.lowV (by simpa using h4);rw[mq]at dq;generalize hqq:(divR (mulR (ofR 100 1) (controlP t l r base id day).1).1 (valueP t l r base id day).1).1=q at*;have hv:0<(valueP t l r base id day).1.toQ :=Rat.lt_of_le_of_ne hv0 λe=>h2 (hc.lowV.eq_zero.1 e.symm)
  have hle:=hc.le;have hpos:=hc.pos;generalize hV:(valueP t l r base id day).1.toQ =V at*;generalize hC:(controlP t l r base id day).1.toQ =C at*;have h100:(0:Rat)≤((100:Int):Rat):=by decide
  have hq0:0≤q.toQ:=by
   refine Rat.le_of_mul_le_mul_right (c:=V) ?_ hv;rw[Rat.zero_mul,dq];exact Rat.mul_nonneg h100 hpos
  have hq1:q.toQ≤((100:Int):Rat):=by
   refine Rat.le_of_mul_le_mul_right (c:=V) ?_ hv;rw[dq];exact Rat.mul_le_mul_of_nonneg_left hle h100
  have hneg:=dl.nonneg.1 hq0;obtain⟨f1,f2⟩:=floor_le dl hneg;have hn100:((q.num / q.den:Nat):Int)≤100:=Rat.intCast_le_intCast.1 (Rat.le_trans f1 hq1)
  have hf:floorR q=(((q.num / q.den:Nat):Int),0):=by
   unfold floorR;rw[hneg];simp only[Bool.false_eq_true,if_false];rw[if_pos ⟨Int.le_trans (by decide) (Int.natCast_nonneg _),Int.le_trans hn100 (by decide)⟩]
  rw[hf];refine⟨h1,hc.val,Int.natCast_nonneg _,hn100,λe=>absurd e h2,λ_ e1 e2 e3=> ?_,λ_ e1 e2 e3=> ?_⟩
  ·obtain⟨al,aq⟩:=mulR_val e1 (ofR_den (by decide)) hdv;rw[ofR_q,hV]at aq;rcases cmpR_eq al ml e3 with⟨_,e⟩|⟨_,e⟩|⟨h5,_⟩
   ·rw[e];decide
   ·rw[e];decide
   ·exfalso;rw[mq,aq,<-dq]at h5;exact absurd (Rat.mul_le_mul_of_nonneg_right f1 hv0) (Rat.not_le.2 h5)
  ·obtain⟨al,aq⟩:=mulR_val e1 (ofR_den (by decide)) hdv;rw[ofR_q,hV]at aq;have h5:=Rat.mul_lt_mul_of_pos_right f2 hv;rw[dq,<-mq,<-aq]at h5;rcases cmpR_eq ml al e3 with⟨_,e⟩|⟨h6,_⟩|⟨h6,_⟩
   ·rw[e];decide
   ·rw[h6]at h5;exact absurd h5 Rat.lt_irrefl
   ·exact absurd (Rat.le_of_lt h6) (Rat.not_le.2 h5)
end Go.Proofs.YtimmfbnjndndlaaGreatDoor
