/- Texts NT NU QA QB QC QD QE QF QG. -/
import Derived.Test.YtimmfbnjndndlaaGreatDoorM31
import Derived.Shelf.GgClosure.Gives
import Derived.Deep.QuietTactic
import Derived.BigQuiet
set_option linter.all false
namespace Go.Proofs.YtimmfbnjndndlaaGreatDoor
open Go.RowKit
set_option maxHeartbeats 4000000
set_option maxRecDepth 100000
section
open Go.Shelf
open Go.Lib (decDigits)
def DN(n:Nat):Prop:=(decDigits n).length ≤300
theorem dec_lt:∀(n:Nat),n<10^(decDigits n).length :=by
 intro n
 induction n using Nat.strongRecOn with
 | _ n ih=>
  by_cases h:n<10
  ·rw[dec_small h];simpa using h
  ·rw[dec_big h,List.length_append,List.length_singleton,Nat.pow_succ];have:=ih (n / 10) (by omega);omega
theorem digs_of_dec{n k:Nat}(h:(decDigits n).length ≤9*k):(digs n).length ≤k:=by
 refine digs_length_le ?_;have h1:=dec_lt n;have h2:(10:Nat)^(decDigits n).length ≤10^(9*k):=Nat.pow_le_pow_right (by decide) h;rw[Nat.pow_mul]at h2;have h9:(10:Nat)^9=1000000000:=by decide
 rw[h9]at h2;omega
theorem DN.digs{n:Nat}(h:DN n):(Go.Proofs.YtimmfbnjndndlaaGreatDoor.digs n).length ≤34:=digs_of_dec (Nat.le_trans h (by decide))
theorem dstr_toList(n:Nat):(dstr n).data.toList =decDigits n:=by unfold dstr;simp
theorem numD_dstr(n:Nat):numD (dstr n).data.toList =n:=by rw[dstr_toList];exact numD_dec n
theorem nparseD(n:Nat)(h:DN n)(w:World):Calls Tryz.prog 100 #[.string (dstr n)] w λe w'=>∃u,e= .returned u∧NumS (λb=>w.heap.size≤b) w' u n∧Below w.heap.size w w':=by
 have:=nparse_any (dstr n) (by rw[dstr_toList];exact dec_digits n) (by rw[dstr_size];have h:(decDigits n).length ≤300:=h;omega) w;rwa[numD_dstr]at this
theorem apply_any(F:Nat)(r:Nat)(eF:∀args w,(callFunc F args).run Tryz.prog w= .ok (.enter F args) w)(a b:Nat)(w:World)(htab:TabB w.heap.size w)(ha:DN a)(hb:DN b)(hr:DN r)
  (hF:∀v v' W Z Z',Below w.heap.size w W->NumS Z W v a->NumS Z' W v' b->Calls Tryz.prog F #[v,v'] W (λe W'=>∃u Zr,e= .returned u∧NumS Zr W' u r∧Below W.heap.size W W')):
  Calls Tryz.prog 103 #[.string (dstr a),.string (dstr b),.func (.func F) #[] #[]] w λe w'=>e= .returned (.tuple #[.string (dstr r),.int .i64 0])∧Below w.heap.size w w':=by
 have HI1:=hid (λ(W:World)=>nis_any a ha W);have HI2:=hid (λ(W:World)=>nis_any b hb W);have HP1:=hid (λ(W:World)=>nparseD a ha W);have HP2:=hid (λ(W:World)=>nparseD b hb W);have HF:=hid hF;have HT:=hid (λ(v:Value)(W:World)(Z:Zone)(hv:NumS Z W v r)(hw:Below w.heap.size w W)=>ntext_any Z v r W hv (Nat.le_trans hr.digs (by decide)) ((htab.on hw).mono hw.size));rw[textR_le hr]at HT;clear ha hb hF hr htab;go_enter Tryz.func103,Tryz.ntmps103
 go_wp2_with fail
 refine(HI1.out _).mono ?_;rintro e w1 ⟨rfl,hb1⟩;go_wp2_with fail
 refine(HI2.out _).mono ?_;rintro e w2 ⟨rfl,hb2⟩;have hB2:=hb1.trans (hb2.mono hb1.size);clear hb1 hb2;go_wp2_with fail
 refine(HP1.out _).mono ?_;rintro e w3 ⟨u1,rfl,hu1,hb3⟩;go_wp2_with fail
 refine(HP2.out _).mono ?_;rintro e w4 ⟨u2,rfl,hu2,hb4⟩;have hu1':=hu1.live.keep (.of_below hb4);have hB4:=HBEL_trans (HBEL_trans hB2 hb3) hb4;have HC:=hid (HF.out u1 u2 w4 _ _ hB4 hu1' hu2);clear hu1 hu2 hu1' hb3 hb4 hB2;go_wp2_with(go_at_fn F;refine HC.out.mono ?_;rintro e w5 ⟨u3,Zr,rfl,hu3,hb5⟩);have hB5:=HBEL_trans hB4 hb5;go_wp2_with fail
 refine(HT.out u3 w5 Zr hu3 hB5).mono ?_;rintro e w6 ⟨rfl,hb6⟩;go_wp2;go_ret2;exact⟨rfl,HBEL_trans hB5 hb6⟩
section ops
variable (a b:Nat) (w:World) (htab:TabB w.heap.size w) (ha:DN a) (hb:DN b)
include htab ha hb
theorem Add_any(hr:DN (a+b)):Calls Tryz.prog 72 #[.string (dstr a),.string (dstr b)] w λe w'=>e= .returned (.tuple #[.string (dstr (a+b)),.int .i64 0])∧Below w.heap.size w w':=by
 have H:=hid (apply_any 104 (a+b) (enters_of Tryz.func104 (by kernel_rfl) rfl) a b w htab ha hb hr λv v' W Z Z' hW h1 h2=>(nadd_any Z Z' v v' a b W h1 h2 (Nat.le_trans ha.digs (by decide)) (Nat.le_trans hb.digs (by decide))).mono λe W' ⟨u,h⟩=>⟨u,_,h⟩);go_enter Tryz.func72,Tryz.ntmps72
 go_wp2_with fail
 refine H.out.mono ?_;rintro e w1 ⟨rfl,hb1⟩;go_wp2;go_ret2;exact⟨rfl,hb1⟩
theorem Mul_any(hr:DN (a*b)):Calls Tryz.prog 107 #[.string (dstr a),.string (dstr b)] w λe w'=>e= .returned (.tuple #[.string (dstr (a*b)),.int .i64 0])∧Below w.heap.size w w':=by
 have H:=hid (apply_any 130 (a*b) (enters_of Tryz.func130 (by kernel_rfl) rfl) a b w htab ha hb hr λv v' W Z Z' hW h1 h2=>(mul_any Z Z' v v' a b W h1 h2 (Nat.le_trans ha.digs (by decide)) (Nat.le_trans hb.digs (by decide))).mono λe W' ⟨u,h⟩=>⟨u,_,h⟩);go_enter Tryz.func107,Tryz.ntmps107
 go_wp2_with fail
 refine H.out.mono ?_;rintro e w1 ⟨rfl,hb1⟩;go_wp2;go_ret2;exact⟨rfl,hb1⟩
theorem Gcd_any(hr:DN (Nat.gcd a b)):Calls Tryz.prog 98 #[.string (dstr a),.string (dstr b)] w λe w'=>e= .returned (.tuple #[.string (dstr (Nat.gcd a b)),.int .i64 0])∧Below w.heap.size w w':=by
 have H:=hid (apply_any 122 (Nat.gcd a b) (enters_of Tryz.func122 (by kernel_rfl) rfl) a b w htab ha hb hr λv v' W Z Z' hW h1 h2=>(gcd_any Z Z' v v' a b W h1 h2 (Nat.le_trans ha.digs (by decide)) (Nat.le_trans hb.digs (by decide))).mono λe W' ⟨u,h⟩=>⟨u,_,h⟩);go_enter Tryz.func98,Tryz.ntmps98
 go_wp2_with fail
 refine H.out.mono ?_;rintro e w1 ⟨rfl,hb1⟩;go_wp2;go_ret2;exact⟨rfl,hb1⟩
theorem Compare_any:Calls Tryz.prog 108 #[.string (dstr a),.string (dstr b)] w λe w'=>e= .returned (.tuple #[.int .i64 (sgnZ (a:Int) (b:Int)),.int .i64 0])∧Below w.heap.size w w':=by
 have HI1:=hid (λ(W:World)=>nis_any a ha W);have HI2:=hid (λ(W:World)=>nis_any b hb W);have HP1:=hid (λ(W:World)=>nparseD a ha W);have HP2:=hid (λ(W:World)=>nparseD b hb W);have HC:=hid (λv v' W Z Z'(h1:NumS Z W v a)(h2:NumS Z' W v' b)=>ncompare_any Z Z' v v' a b W h1 h2 (Nat.le_trans ha.digs (by decide)) (Nat.le_trans hb.digs (by decide)));clear ha hb htab;go_enter Tryz.func108,Tryz.ntmps108
 go_wp2_with fail
 refine(HI1.out _).mono ?_;rintro e w1 ⟨rfl,hb1⟩;go_wp2_with fail
 refine(HI2.out _).mono ?_;rintro e w2 ⟨rfl,hb2⟩;have hB2:=hb1.trans (hb2.mono hb1.size);clear hb1 hb2;go_wp2_with fail
 refine(HP1.out _).mono ?_;rintro e w3 ⟨u1,rfl,hu1,hb3⟩;go_wp2_with fail
 refine(HP2.out _).mono ?_;rintro e w4 ⟨u2,rfl,hu2,hb4⟩;have hu1':=hu1.live.keep (.of_below hb4);have hB4:=HBEL_trans (HBEL_trans hB2 hb3) hb4;go_wp2_with fail
 refine(HC.out u1 u2 w4 _ _ hu1' hu2).mono ?_;rintro e w5 ⟨rfl,hb5⟩;go_wp2;go_ret2;exact⟨rfl,HBEL_trans hB4 hb5⟩
theorem Sub_any(hle:b≤a)(hr:DN (a-b)):Calls Tryz.prog 109 #[.string (dstr a),.string (dstr b)] w λe w'=>e= .returned (.tuple #[.string (dstr (a-b)),.int .i64 0])∧Below w.heap.size w w':=by
 have HC:=hid (Compare_any a b w htab ha hb);have H:=hid (λW(hW:Below w.heap.size w W)=>apply_any 131 (a-b) (enters_of Tryz.func131 (by kernel_rfl) rfl) a b W ((htab.on hW).mono hW.size) ha hb hr λv v' W Z Z' hW h1 h2=>(sub_any Z Z' v v' a b W h1 h2 (Nat.le_trans ha.digs (by decide)) (Nat.le_trans hb.digs (by decide)) hle).mono λe W' ⟨u,h⟩=>⟨u,_,h⟩)
 have e1:decide (sgnZ (a:Int) (b:Int)<0)=false:=by
  unfold sgnZ;rw[if_neg (by omega)];split<;>rfl
 generalize sgnZ (a:Int) (b:Int)=sg at*;clear ha hb htab hr hle;go_enter Tryz.func109,Tryz.ntmps109
 go_wp2_with fail
 refine HC.out.mono ?_;rintro e w1 ⟨rfl,hb1⟩;go_wp2_with fail
 refine(H.out _ hb1).mono ?_;rintro e w2 ⟨rfl,hb2⟩;go_wp2;go_ret2;exact⟨rfl,HBEL_trans hb1 hb2⟩
end ops
end
section
open Go.Shelf
open Go.Lib (decDigits)
theorem dstr_one:dstr 1=⟨#[49]⟩:=by unfold dstr;rw[dec_small (by decide)];rfl
theorem dstr_zero:dstr 0=⟨#[48]⟩:=by unfold dstr;rw[dec_small (by decide)];rfl
theorem dstr_eqL(n m:Nat):((dstr n).toList ==(dstr m).toList)=decide (n=m):=by
 rw[toList_beq];by_cases h:n=m
 ·subst h;simp
 ·rw[decide_eq_false h,decide_eq_false (λe=>h (dstr_inj e))]
theorem is0(n:Nat):((dstr n).toList ==[48])=decide (n=0):=by rw[<-dstr_eqL,dstr_zero,show(⟨#[48]⟩:ByteArray).toList =[48] from by rw[ByteArray.toList_eq]]
theorem is1(n:Nat):((dstr n).toList ==[49])=decide (n=1):=by rw[<-dstr_eqL,dstr_one,show(⟨#[49]⟩:ByteArray).toList =[49] from by rw[ByteArray.toList_eq]]
theorem isE(n:Nat):((dstr n).toList ==[])=false:=by
 have:=dstr_some n
 cases h:(dstr n).toList with
 |nil=>rw[h]at this;cases this
 |cons c r=>rfl
theorem nis_no(w:World):Calls Tryz.prog 99 #[.string ⟨#[]⟩] w λe w'=>e= .returned (.bool false)∧w=w':=by
 go_enter Tryz.func99,Tryz.ntmps99
 go_wp2_with fail
 go_ret;exact⟨rfl,rfl⟩
theorem Div_any(a b:Nat)(w:World)(htab:TabB w.heap.size w)(ha:DN a)(hb:DN b)(hb0:0<b):
  Calls Tryz.prog 71 #[.string (dstr a),.string (dstr b)] w λe w'=>e= .returned (.tuple #[.string (dstr (a / b)),.string (dstr (a%b)),.int .i64 0])∧Below w.heap.size w w':=by
 have HI1:=hid (λ(W:World)=>nis_any a ha W);have HI2:=hid (λ(W:World)=>nis_any b hb W);have HP1:=hid (λ(W:World)=>nparseD a ha W);have HP2:=hid (λ(W:World)=>nparseD b hb W);have HC:=hid (λv v' W Z Z'(h1:NumS Z W v a)(h2:NumS Z' W v' b)=>div_any Z Z' v v' a b W h1 h2 (Nat.le_trans ha.digs (by decide)) (Nat.le_trans hb.digs (by decide)) hb0);have hr1:DN (a / b):=Nat.le_trans (dec_mono (Nat.div_le_self ..)) ha;have hr2:DN (a%b):=Nat.le_trans (dec_mono (Nat.mod_le ..)) ha;have HT1:=hid (λ(v:Value)(W:World)(Z:Zone)(hv:NumS Z W v (a / b))(hw:Below w.heap.size w W)=>ntext_any Z v _ W hv (Nat.le_trans hr1.digs (by decide)) ((htab.on hw).mono hw.size));have HT2:=hid (λ(v:Value)(W:World)(Z:Zone)(hv:NumS Z W v (a%b))(hw:Below w.heap.size w W)=>ntext_any Z v _ W hv (Nat.le_trans hr2.digs (by decide)) ((htab.on hw).mono hw.size));rw[textR_le hr1]at HT1;rw[textR_le hr2]at HT2;have h0:((dstr b).toList ==[48])=false:=by rw[is0];exact decide_eq_false (by omega)
 generalize a / b=q at*;generalize a%b=r at*;clear ha hb htab hr1 hr2 hb0;go_enter Tryz.func71,Tryz.ntmps71
 go_wp2_with fail
 refine(HI1.out _).mono ?_;rintro e w1 ⟨rfl,hb1⟩;go_wp2_with fail
 refine(HI2.out _).mono ?_;rintro e w2 ⟨rfl,hb2⟩;have hB2:=hb1.trans (hb2.mono hb1.size);clear hb1 hb2;go_wp2_with fail
 refine(HP1.out _).mono ?_;rintro e w3 ⟨u1,rfl,hu1,hb3⟩;go_wp2_with fail
 refine(HP2.out _).mono ?_;rintro e w4 ⟨u2,rfl,hu2,hb4⟩;have hu1':=hu1.live.keep (.of_below hb4);have hB4:=HBEL_trans (HBEL_trans hB2 hb3) hb4;clear hu1 hb3 hb4 hB2;go_wp2_with fail
 refine(HC.out u1 u2 w4 _ _ hu1' hu2).mono ?_;rintro e w5 ⟨v1,v2,rfl,hv1,hv2,hb5⟩;have hB5:=HBEL_trans hB4 hb5;clear hu1' hu2 hb5 hB4;go_wp2_with fail
 refine(HT1.out v1 w5 _ hv1 hB5).mono ?_;rintro e w6 ⟨rfl,hb6⟩;have hB6:=HBEL_trans hB5 hb6;have hv2':=hv2.live.keep (.of_below hb6);clear hv1 hv2 hb6;go_wp2_with fail
 refine(HT2.out v2 w6 _ hv2' hB6).mono ?_;rintro e w7 ⟨rfl,hb7⟩;go_wp2;go_ret3;exact⟨rfl,HBEL_trans hB6 hb7⟩
end
section
open Go.Shelf
open Go.Lib (decDigits)
theorem rvalid_zero(w:World):Calls Tryz.prog 70 #[rtV rt0] w λe w'=>e= .returned (.bool true)∧Below w.heap.size w w':=by
 have hn:DN 0:=by unfold DN;rw[dec_small (by decide)];simp
 have hd:DN 1:=by unfold DN;rw[dec_small (by decide)];simp
 have HI1:=hid (λ(W:World)=>nis_any 0 hn W);have HI2:=hid (λ(W:World)=>nis_any 1 hd W);unfold rtV rt0;dsimp only;rw[dstr_zero]at HI1⊢;rw[dstr_one]at HI2⊢;go_enter Tryz.func70,Tryz.ntmps70
 go_wp2_with fail
 have b0:=Blk.new w 53 #[.bool false,.string ⟨#[48]⟩,.string ⟨#[49]⟩];have hB0:=below1 w (.cells #[.bool false,.string ⟨#[48]⟩,.string ⟨#[49]⟩] 53);generalize w.alloc (.cells #[.bool false,.string ⟨#[48]⟩,.string ⟨#[49]⟩] 53)=w0 at*;refine(HI1.out _).mono ?_;rintro e w1 ⟨rfl,hb1⟩;have b1:=b0.below hb1 b0.lt;have c1:=b1.at1;have c2:=b1.at2;have hB1:=HBEL_trans hB0 hb1;clear b0 hB0 hb1;go_wp2_with fail
 refine(HI2.out _).mono ?_;rintro e w2 ⟨rfl,hb2⟩;have b2:=b1.below hb2 b1.lt;have c0:=b2.at0;have d1:=b2.at1;have d2:=b2.at2;have hB2:=HBEL_trans hB1 hb2;clear b1 c1 c2 hB1 hb2;have HB2:=hid b2;clear b2;go_wp2_with fail
 go_ret;exact⟨rfl,hB2⟩
theorem rvalid_any(r:Rt)(hr:RtOk r)(w:World)(htab:TabB w.heap.size w):Calls Tryz.prog 70 #[rtV r] w λe w'=>e= .returned (.bool true)∧Below w.heap.size w w':=by
 by_cases hz:r.num=0
 ·rw[hr.low.is_zero hz];exact rvalid_zero w
 obtain⟨ng,n,d⟩:=r;have hn:DN n:=hr.numL;have hd:DN d:=hr.denL;have hz:¬n=0:=hz;have HI1:=hid (λ(W:World)=>nis_any n hn W);have HI2:=hid (λ(W:World)=>nis_any d hd W);have h0:((dstr d).toList ==[48])=false:=by rw[is0];exact decide_eq_false (by have:=hr.den;simp only at this;omega)
 unfold rtV;dsimp only;have h1:((dstr n).toList ==[48])=false:=by rw[is0];exact decide_eq_false hz
 have e1:Nat.gcd n d=1:=hr.gcd;have HG:=hid (λW(hW:Below w.heap.size w W)=>Gcd_any n d W ((htab.on hW).mono hW.size) hn hd (by rw[e1];unfold DN;rw[dec_small (by decide)];simp));rw[e1,dstr_one]at HG;clear hr hn hd e1 htab;go_enter Tryz.func70,Tryz.ntmps70
 go_wp2_with fail
 have b0:=Blk.new w 53 #[.bool ng,.string (dstr n),.string (dstr d)];have hB0:=below1 w (.cells #[.bool ng,.string (dstr n),.string (dstr d)] 53);generalize w.alloc (.cells #[.bool ng,.string (dstr n),.string (dstr d)] 53)=w0 at*;refine(HI1.out _).mono ?_;rintro e w1 ⟨rfl,hb1⟩;have b1:=b0.below hb1 b0.lt;have c1:=b1.at1;have c2:=b1.at2;have hB1:=HBEL_trans hB0 hb1;clear b0 hB0 hb1;go_wp2_with fail
 refine(HI2.out _).mono ?_;rintro e w2 ⟨rfl,hb2⟩;have b2:=b1.below hb2 b1.lt;have d1:=b2.at1;have d2:=b2.at2;have hB2:=HBEL_trans hB1 hb2;clear b1 c1 c2 hB1 hb2;go_wp2_with fail
 refine(HG.out _ hB2).mono ?_;rintro e w3 ⟨rfl,hb3⟩;go_wp2;go_ret;exact⟨rfl,HBEL_trans hB2 hb3⟩
theorem lowest_any(ng:Bool)(n d:Nat)(hn:DN n)(hd:DN d)(hd0:0<d)(w:World)(htab:TabB w.heap.size w):
  Calls Tryz.prog 68 #[.bool ng,.string (dstr n),.string (dstr d)] w λe w'=>e= .returned (.tuple #[rtV (lowR ng n d),.int .i64 0])∧Below w.heap.size w w':=by
 have hg0:0<Nat.gcd n d:=Nat.gcd_pos_of_pos_right _ hd0;have hg:DN (Nat.gcd n d):=Nat.le_trans (dec_mono (Nat.gcd_le_right _ hd0)) hd;have HG:=hid (λW(hW:Below w.heap.size w W)=>Gcd_any n d W ((htab.on hW).mono hW.size) hn hd hg);have HD1:=hid (λW(hW:Below w.heap.size w W)=>Div_any n _ W ((htab.on hW).mono hW.size) hn hg hg0);have HD2:=hid (λW(hW:Below w.heap.size w W)=>Div_any d _ W ((htab.on hW).mono hW.size) hd hg hg0);unfold rtV lowR;dsimp only;generalize Nat.gcd n d=g at*;generalize n / g=q at*;generalize d / g=q' at*;generalize n%g=r at*;generalize d%g=r' at*;have h0:=is0 q;have HH:=hid (show Value.agg #[.bool (ng&&decide (q≠0)),.string (dstr q),.string (dstr q')]=Value.agg #[.bool (ng&& !((dstr q).toList ==[48])),.string (dstr q),.string (dstr q')] from by rw[h0,decide_not]);clear hg0 hg hn hd hd0 htab h0;rw[HH.out];clear HH;obtain⟨bz,hbz⟩:∃bz,((dstr q).toList ==[48])=bz:=⟨_,rfl⟩;rw[hbz];go_enter Tryz.func68,Tryz.ntmps68
 go_wp2_with fail
 have b0:=Blk.new w 53 #[.bool false,.string ⟨#[]⟩,.string ⟨#[]⟩];have hB0:=below1 w (.cells #[.bool false,.string ⟨#[]⟩,.string ⟨#[]⟩] 53);generalize w.alloc (.cells #[.bool false,.string ⟨#[]⟩,.string ⟨#[]⟩] 53)=w0 at*;refine(HG.out _ hB0).mono ?_;rintro e w1 ⟨rfl,hb1⟩;have b1:=b0.below hb1 b0.lt;have hB1:=HBEL_trans hB0 hb1;have l1:=b1.lt;clear b0 hB0 hb1 HG;have HB1:=hid b1;clear b1;go_wp2_with fail
 have b2:=Blk.new w1 53 #[.bool ng,.string ⟨#[]⟩,.string ⟨#[]⟩];have hB2:Below w.heap.size w (w1.alloc (.cells #[.bool ng,.string ⟨#[]⟩,.string ⟨#[]⟩] 53)):=hB1.alloc hB1.size _;have a2:=HB1.out.alloc (.cells #[.bool ng,.string ⟨#[]⟩,.string ⟨#[]⟩] 53);obtain⟨S,hS⟩:∃S,S=w1.heap.size:=⟨_,rfl⟩;rw[<-hS]at b2 l1⊢;have hSw:w.heap.size≤S:=by omega
 clear HB1 hB1 hS;generalize w1.alloc (.cells #[.bool ng,.string ⟨#[]⟩,.string ⟨#[]⟩] 53)=w2 at*;refine(HD1.out _ hB2).mono ?_;rintro e w3 ⟨rfl,hb3⟩;have b3:=b2.below hb3 b2.lt;have a3:=a2.below hb3 a2.lt;have hB3:=HBEL_trans hB2 hb3;have c1:=b3.at1;have g1:=b3.frozen 1;have cl:=b3.lt;have HBB:=hid (And.intro b3 a3);clear b2 a2 hB2 hb3 HD1 b3 a3;go_wp2_with fail
 have b4:=HBB.out.1.set_ 1 (.string (dstr q));have a4:=HBB.out.2.far (p:=⟨S,1,none⟩) (by show w.heap.size≠S;omega) (.string (dstr q));have hB4:Below w.heap.size w (w3.setCell ⟨S,1,none⟩ (.string (dstr q))):=hB3.setCell hSw _;clear HBB hB3 c1 g1 cl;generalize w3.setCell ⟨S,1,none⟩ (.string (dstr q))=w4 at*;refine(HD2.out _ hB4).mono ?_;rintro e w5 ⟨rfl,hb5⟩;have b5:=b4.below hb5 b4.lt;have a5:=a4.below hb5 a4.lt;have hB5:=HBEL_trans hB4 hb5;have c0:=b5.at0;have c1:=b5.at1;have c2:=b5.at2;have g0:=b5.frozen 0;have g1:=b5.frozen 1;have g2:=b5.frozen 2;have cl:=b5.lt;have k0:=a5.at0;have k1:=a5.at1;have k2:=a5.at2;have m0:=a5.frozen 0;have m1:=a5.frozen 1;have m2:=a5.frozen 2;have cm:=a5.lt;have hne:w.heap.size≠S:=by omega
 have HF:=hid (λ(nb:Bool)=>(show Blk (((((w5.setCell ⟨S,2,none⟩ (.string (dstr q'))).setCell ⟨S,0,none⟩ (.bool nb)).setCell ⟨w.heap.size,0,none⟩ (.bool nb)).setCell ⟨w.heap.size,1,none⟩ (.string (dstr q))).setCell ⟨w.heap.size,2,none⟩ (.string (dstr q'))) w.heap.size 53 #[.bool nb,.string (dstr q),.string (dstr q')]∧Below w.heap.size w (((((w5.setCell ⟨S,2,none⟩ (.string (dstr q'))).setCell ⟨S,0,none⟩ (.bool nb)).setCell ⟨w.heap.size,0,none⟩ (.bool nb)).setCell ⟨w.heap.size,1,none⟩ (.string (dstr q))).setCell ⟨w.heap.size,2,none⟩ (.string (dstr q'))) from
  ⟨((((a5.far (p:=⟨S,2,none⟩) hne _).far (p:=⟨S,0,none⟩) hne _).set_ 0 _).set_ 1 _).set_ 2 _,((((hB5.setCell hSw _).setCell hSw _).setCell (Nat.le_refl _) _).setCell (Nat.le_refl _) _).setCell (Nat.le_refl _) _⟩))
 clear b4 a4 hB4 hb5 HD2 b5 a5;cases ng
 ·go_wp2_with fail
  have r0:=(HF.out false).1.at0;have r1:=(HF.out false).1.at1;have r2:=(HF.out false).1.at2;exact bodyPost_ret (v:= .tuple #[.agg #[.bool false,.string (dstr q),.string (dstr q')],.int .i64 0]) (by simp[results,Tryz.results68,go_sem,r0,r1,r2]) rfl ⟨rfl,(HF.out false).2⟩
 ·go_wp2_with fail
  have r0:=(HF.out (!bz)).1.at0;have r1:=(HF.out (!bz)).1.at1;have r2:=(HF.out (!bz)).1.at2;exact bodyPost_ret (v:= .tuple #[.agg #[.bool (!bz),.string (dstr q),.string (dstr q')],.int .i64 0]) (by simp[results,Tryz.results68,go_sem,r0,r1,r2]) rfl ⟨rfl,(HF.out (!bz)).2⟩
end
section
open Go.Shelf
open Go.Lib (decDigits)
theorem ritoa_any(n:Int)(w:World)(hn:I64 n)(ht:TabB w.heap.size w):Calls Tryz.prog 55 #[.int .i64 n] w λe w'=>e= .returned (.string ⟨(Lib.itoa n).toArray⟩)∧Below w.heap.size w w':=by
 refine(Tryz.strconv_Itoa n hn.1 hn.2 w ht.here).mono ?_;rintro e w' ⟨rfl,k,os,rfl⟩;exact⟨rfl,below_grown w k os⟩
theorem itoa_abs(n:Int):Lib.trimPrefix (Lib.itoa n) [45]=decDigits n.natAbs:=by
 unfold Lib.itoa;split
 ·unfold Lib.trimPrefix Lib.hasPrefix;simp
 ·rename_i h;have e:n.toNat=n.natAbs:=by omega
  rw[e];unfold Lib.trimPrefix Lib.hasPrefix
  have hne:([45]:List UInt8).isPrefixOf (decDigits n.natAbs)=false:=by
   rw[Bool.eq_false_iff];intro hp;obtain⟨r,hr⟩:=List.isPrefixOf_iff_prefix.1 hp;have:=dec_digits n.natAbs 45 (by rw[<-hr];simp);revert this;decide
  simp[hne]
theorem of1_any(n:Int)(w:World)(hn:I64 n)(ht:TabB w.heap.size w):Calls Tryz.prog 66 #[.int .i64 n] w λe w'=>e= .returned (.string (dstr n.natAbs))∧Below w.heap.size w w':=by
 have HI:=hid (ritoa_any n w hn ht);have HT:=hid (λW=>Tryz.strings_TrimPrefix ⟨(Lib.itoa n).toArray⟩ ⟨#[45]⟩ W);have e:(Lib.trimPrefix (⟨(Lib.itoa n).toArray⟩:ByteArray).data.toList (⟨#[45]⟩:ByteArray).data.toList).toArray =(decDigits n.natAbs).toArray :=congrArg List.toArray (itoa_abs n);rw[e]at HT;clear e ht;go_enter Tryz.func66,Tryz.ntmps66
 go_wp2_with fail
 refine HI.out.mono ?_;rintro e w1 ⟨rfl,hb1⟩;go_wp2_with fail
 refine(HT.out _).mono ?_;rintro e w2 ⟨rfl,rfl⟩;go_wp2;go_ret;exact⟨rfl,hb1⟩
theorem of_any(n d:Int)(hn:I64 n)(hd:I64 d)(hd0:d≠0)(w:World)(htab:TabB w.heap.size w):
  Calls Tryz.prog 32 #[.int .i64 n,.int .i64 d] w λe w'=>e= .returned (.tuple #[rtV (ofR n d),.int .i64 0])∧Below w.heap.size w w':=by
 have small:∀x:Int,I64 x->DN x.natAbs:=λx hx=>Nat.le_trans (dec_length_le (k:=19) (by decide) (by unfold I64 at hx;omega)) (by decide)
 have H1:=hid (λW(hW:Below w.heap.size w W)=>of1_any n W hn ((htab.on hW).mono hW.size));have H2:=hid (λW(hW:Below w.heap.size w W)=>of1_any d W hd ((htab.on hW).mono hW.size));have HL:=hid (λng W(hW:Below w.heap.size w W)=>lowest_any ng n.natAbs d.natAbs (small n hn) (small d hd) (by omega) W ((htab.on hW).mono hW.size));unfold ofR;have e1:(d==0)=false:=by simpa using hd0
 obtain⟨s1,hs1⟩:∃b,decide (n<0)=b:=⟨_,rfl⟩;obtain⟨s2,hs2⟩:∃b,decide (d<0)=b:=⟨_,rfl⟩;rw[hs1,hs2];replace HL:=hid (HL.out (s1 !=s2));unfold rtV at HL⊢;generalize lowR (s1 !=s2) n.natAbs d.natAbs=R at*;obtain⟨x,y,z⟩:=R;dsimp only at*;clear hd hn htab small hd0;go_enter Tryz.func32,Tryz.ntmps32
 go_wp2_with fail
 have b0:=Blk.new w 53 #[.bool false,.string ⟨#[]⟩,.string ⟨#[]⟩];have hB0:=below1 w (.cells #[.bool false,.string ⟨#[]⟩,.string ⟨#[]⟩] 53);generalize w.alloc (.cells #[.bool false,.string ⟨#[]⟩,.string ⟨#[]⟩] 53)=w0 at*;refine(H1.out _ hB0).mono ?_;rintro e w1 ⟨rfl,hb1⟩;have b1:=b0.below hb1 b0.lt;have hB1:=HBEL_trans hB0 hb1;clear b0 hB0 hb1 H1;go_wp2_with fail
 refine(H2.out _ hB1).mono ?_;rintro e w2 ⟨rfl,hb2⟩;have b2:=b1.below hb2 b1.lt;have hB2:=HBEL_trans hB1 hb2;clear b1 hB1 hb2 H2;go_wp2_with fail
 refine(HL.out _ hB2).mono ?_;rintro e w3 ⟨rfl,hb3⟩;have b3:=b2.below hb3 b2.lt;have hB3:=HBEL_trans hB2 hb3;clear b2 hB2 hb3 HL;have c0:=b3.at0;have c1:=b3.at1;have c2:=b3.at2;have g0:=b3.frozen 0;have g1:=b3.frozen 1;have g2:=b3.frozen 2;have cl:=b3.lt
 have HF:=hid (show Blk (((w3.setCell ⟨w.heap.size,0,none⟩ (.bool x)).setCell ⟨w.heap.size,1,none⟩ (.string (dstr y))).setCell ⟨w.heap.size,2,none⟩ (.string (dstr z))) w.heap.size 53 #[.bool x,.string (dstr y),.string (dstr z)]∧Below w.heap.size w (((w3.setCell ⟨w.heap.size,0,none⟩ (.bool x)).setCell ⟨w.heap.size,1,none⟩ (.string (dstr y))).setCell ⟨w.heap.size,2,none⟩ (.string (dstr z))) from
  ⟨((b3.set_ 0 _).set_ 1 _).set_ 2 _,((hB3.setCell (Nat.le_refl _) _).setCell (Nat.le_refl _) _).setCell (Nat.le_refl _) _⟩)
 clear b3;go_wp2_with fail
 have r0:=HF.out.1.at0;have r1:=HF.out.1.at1;have r2:=HF.out.1.at2;exact bodyPost_ret (v:= .tuple #[.agg #[.bool x,.string (dstr y),.string (dstr z)],.int .i64 0]) (by simp[results,Tryz.results32,go_sem,r0,r1,r2]) rfl ⟨rfl,HF.out.2⟩
end
section
open Go.Shelf
open Go.Lib (decDigits)
theorem Tryz.eStrR:ElemIs Tryz.prog 9 1 16:=elemIs_of (z:= .string ⟨#[]⟩) (by kernel_rfl) rfl (by decide)
def PairR(cs:List Value)(p:Nat × Nat):Prop:=cs=[.string (dstr p.1),.string (dstr p.2)]
def mulV(p:Nat × Nat):Value:= .string (dstr (p.1*p.2))
theorem products_any(Z:Zone)(A:Option Addr)(cap:Nat)(L:List (Nat × Nat))(w:World)(hl:L.length≤1000)(hz:∀b,Z b->b<w.heap.size)(hs:SeqR PairR 2 Z w L A)(htab:TabB w.heap.size w)
  (hd:∀p∈L,DN p.1∧DN p.2∧DN (p.1*p.2)):
  Calls Tryz.prog 74 #[.slice A L.length cap] w λe w'=>∃v,e= .returned v∧w'.ownsRow w.heap.size 9 1 v L.length (L.map mulV)∧Below w.heap.size w w':=by
 have HS:=hid hs;have HZ:=hid hz;have HM:=hid (λ(p:Nat × Nat)(hp:p∈L) W(hW:Below w.heap.size w W)=>Mul_any p.1 p.2 W ((htab.on hW).mono hW.size) (hd p hp).1 (hd p hp).2.1 (hd p hp).2.2);clear hs hz htab hd;go_enter Tryz.func74,Tryz.ntmps74
 go_wp2;go_loopw[3,10] (λov ix wr=>∃(k:Nat)(v2:Value),k≤L.length∧ix= .int .i64 k∧v2=ov∧wr.ownsRow w.heap.size 9 1 v2 k ((L.take k).map mulV)∧Below w.heap.size w wr) (λ_ ix _=>L.length-(intOf ix).toNat);case atStart=>exact⟨0,_,Nat.zero_le _,rfl,rfl,World.ownsRow_nil _ _ _ _,Below.refl _ _⟩
 case round=>
  obtain⟨k,v2,hk,rfl,rfl,how,hbel⟩:=hrel;by_cases hlt:k<L.length
  ·obtain⟨b,off,cs,rfl,hzb,hc,hR⟩:=HS.out.at_ hlt;unfold PairR at hR;subst hR;have hbw:=HZ.out b hzb;have c0:=(hbel.cell (p:=⟨b,off+k*2,none⟩) hbw).trans (hc 0 _ rfl);have c1:=(hbel.cell (p:=⟨b,off+k*2+1,none⟩) hbw).trans (hc 1 _ rfl);(have hk1:((k:Nat):Int)<(L.length:Int):=by omega);(have hk0:(0:Int)≤((k:Nat):Int):=by omega);have bl:=lt_of_cell c0;have HMK:=hid (HM.out L[k] (List.getElem_mem hlt));have HPV:=hid (show(L.take (k+1)).map mulV=(L.take k).map mulV++[.string (dstr (L[k].1*L[k].2))] from by rw[List.take_succ_eq_append_getElem hlt,List.map_append];rfl);have HOW:=hid how;have HBE:=hid hbel;generalize L[k]=p at*;obtain⟨x,y⟩:=p;dsimp only at*;generalize x*y=xy at*;clear how hbel hc;(go_wp2_with fail);have hb0:Below w.heap.size w (wr.alloc (.cells #[.string (dstr x),.string (dstr y)] 132)):=HBE.out.alloc HBE.out.size _;have HO0:=hid (HOW.out.alloc (.cells #[.string (dstr x),.string (dstr y)] 132));generalize wr.alloc (.cells #[.string (dstr x),.string (dstr y)] 132)=w1 at*;refine(HMK.out _ hb0).mono ?_;rintro e w2 ⟨rfl,hb2⟩;have hB2:=HBEL_trans hb0 hb2;have HO2:=hid (own_keep (Z:=λ_=>True) HO0.out (.of_below hb2) (λ_ _=>trivial));clear hb0 hb2 HO0 HOW HMK c0 c1;go_wp2_with(at_builtin;refine wpList_append1 rfl (.tmp 22) (.tmp 24) _ rfl Tryz.underlying61 Tryz.eStrR rfl (HO2.out.alloc _) rfl (news:=[.string (dstr xy)]) rfl (one_cell (by simp)) (by simp[Value.oneCell']) (by unfold maxLen;omega) (by omega) (by have:=hB2.size;simp;omega) ?_;intro v5 w5 hown5 hg5 hat5);have hB5:Below w.heap.size w w5:=below_own (hB2.alloc hB2.size _) (HO2.out.alloc _) hg5 (by have:=hB2.size;simp;omega) (Nat.le_refl _);rw[<-HPV.out]at hown5;have HF:=hid (And.intro hown5 hB5);clear hown5 hg5 hat5 hB5 hB2 HO2 HPV HBE;go_wp2;go_roundw;(case rel=>exact⟨k+1,v5,by omega,by go_num,rfl,HF.out⟩);case measure=>simp[intOf];omega
  ·(obtain rfl:k=L.length:=by omega);rw[List.take_length]at how;have HH:=hid (And.intro how hbel);clear how hbel;go_wp2;go_ret;exact⟨_,rfl,HH.out.1,HH.out.2⟩
end
section
open Go.Shelf
open Go.Lib (decDigits)
structure R3 (w W:World) (x:Bool) (y z:ByteArray) (x':Bool) (y' z':ByteArray) (B:Nat):Prop where
 ba:Blk W B 53 #[.bool x,.string y,.string z]
 bb:Blk W (B+1) 53 #[.bool x',.string y',.string z']
 br:Blk W (B+1+1) 53 #[.bool false,.string ⟨#[]⟩,.string ⟨#[]⟩]
 be:Below w.heap.size w W
 le:w.heap.size≤B
section
variable {w W W':World} {x x':Bool} {y z y' z':ByteArray} {B:Nat}
theorem R3.below(h:R3 w W x y z x' y' z' B)(hb:Below W.heap.size W W'):R3 w W' x y z x' y' z' B:=
 ⟨h.ba.below hb h.ba.lt,h.bb.below hb h.bb.lt,h.br.below hb h.br.lt,HBEL_trans h.be hb,h.le⟩
theorem R3.new(hW:Below w.heap.size w W)(x:Bool)(y z:ByteArray)(x':Bool)(y' z':ByteArray):
  R3 w (((W.alloc (.cells #[.bool x,.string y,.string z] 53)).alloc (.cells #[.bool x',.string y',.string z'] 53)).alloc (.cells #[.bool false,.string ⟨#[]⟩,.string ⟨#[]⟩] 53)) x y z x' y' z' W.heap.size:=by
 have h1:=Blk.new (W.alloc (.cells #[.bool x,.string y,.string z] 53)) 53 #[.bool x',.string y',.string z'];rw[World.size_alloc]at h1;have h2:=Blk.new ((W.alloc (.cells #[.bool x,.string y,.string z] 53)).alloc (.cells #[.bool x',.string y',.string z'] 53)) 53 #[.bool false,.string ⟨#[]⟩,.string ⟨#[]⟩];rw[World.size_alloc,World.size_alloc]at h2;exact⟨((Blk.new W _ _).alloc _).alloc _,h1.alloc _,h2,((hW.alloc hW.size _).alloc (by have:=hW.size;simp;omega) _).alloc (by have:=hW.size;simp;omega) _,hW.size⟩
theorem R3.out(h:R3 w W x y z x' y' z' B)(u:Bool)(v s:ByteArray):Blk (((W.setCell ⟨B+1+1,0,none⟩ (.bool u)).setCell ⟨B+1+1,1,none⟩ (.string v)).setCell ⟨B+1+1,2,none⟩ (.string s)) (B+1+1) 53 #[.bool u,.string v,.string s]∧Below w.heap.size w (((W.setCell ⟨B+1+1,0,none⟩ (.bool u)).setCell ⟨B+1+1,1,none⟩ (.string v)).setCell ⟨B+1+1,2,none⟩ (.string s)):=by
 have hl:=h.le;exact⟨((h.br.set_ 0 _).set_ 1 _).set_ 2 _,((h.be.setCell (by show w.heap.size≤B+1+1;omega) _).setCell (by show w.heap.size≤B+1+1;omega) _).setCell (by show w.heap.size≤B+1+1;omega) _⟩
end
theorem long_iff(n:Nat):decide (140<((dstr n).size :Int))=decide (10^140≤n):=by
 have h:=dec_length_iff (k:=140) (r:=n) (by decide);rw[dstr_size];by_cases h1:n<10^140
 ·rw[decide_eq_false (by have:=h.2 h1;omega),decide_eq_false (by omega)]
 ·have h2:¬(decDigits n).length ≤140:=λhh=>h1 (h.1 hh)
  rw[decide_eq_true (by omega),decide_eq_true (by omega)]
def runR(z:Bool)(a b:Rt)(R:Rt × Int):Rt × Int:=if(z&&decide (b.num=0))=true then(rt0,15)else if(longR a||longR b)=true then(rt0,2)else R
theorem rtE_tri(R:Rt × Int):∃x y z,rtE R= .agg #[.bool x,.string y,.string z]:=by
 obtain⟨r,e⟩:=R;unfold rtE;by_cases h:e=0
 ·exact⟨_,_,_,(if_pos h)⟩
 ·exact⟨_,_,_,(if_neg h)⟩
theorem run_any(F:Nat)(eF:∀args w,(callFunc F args).run Tryz.prog w= .ok (.enter F args) w)(z:Bool)(a b:Rt)(ha:RtOk a)(hb:RtOk b)(R:Rt × Int)(w:World)(htab:TabB w.heap.size w)
  (hF:∀W,Below w.heap.size w W->(z&&decide (b.num=0))=false->longR a=false->longR b=false->Calls Tryz.prog F #[rtV a,rtV b] W (λe W'=>e= .returned (.tuple #[rtE R,.int .i64 R.2])∧Below W.heap.size W W')):
  Calls Tryz.prog 36 #[.agg #[.bool z,.func (.func F) #[] #[]],rtV a,rtV b] w λe w'=>e= .returned (.tuple #[rtE (runR z a b R),.int .i64 (runR z a b R).2])∧Below w.heap.size w w':=by
 have HV1:=hid (λW(hW:Below w.heap.size w W)=>rvalid_any a ha W ((htab.on hW).mono hW.size));have HV2:=hid (λW(hW:Below w.heap.size w W)=>rvalid_any b hb W ((htab.on hW).mono hW.size));have HF:=hid hF;unfold longR at HF;unfold runR longR;obtain⟨ax,ay,az⟩:=a;obtain⟨bx,by_,bz⟩:=b;unfold rtV at HV1 HV2 HF⊢;dsimp only at*;have s1:=long_iff ay;have s2:=long_iff az;have s3:=long_iff by_;have s4:=long_iff bz;have s0:=is0 by_;generalize decide (10^140≤ay)=l1 at*;generalize decide (10^140≤az)=l2 at*;generalize decide (10^140≤by_)=l3 at*;generalize decide (10^140≤bz)=l4 at*;generalize decide (by_=0)=b0 at*;generalize dstr ay=sy at*;generalize dstr az=sz at*;generalize dstr by_=ty at*;generalize dstr bz=tz at*;obtain⟨RR,hRR⟩:∃RR:Rt × Int,RR=if(z&&b0)=true then(rt0,15)else if(l1||l2||(l3||l4))=true then(rt0,2)else R:=⟨_,rfl⟩
 rw[<-hRR];have HRR:=hid hRR;clear ha hb htab hF ay az by_ bz hRR;go_enter Tryz.func36,Tryz.ntmps36
 go_wp2_with fail
 have hop:=Blk.new w 87 #[.bool z,.func (.func F) #[] #[]];have h3:=R3.new (below1 w (.cells #[.bool z,.func (.func F) #[] #[]] 87)) ax sy sz bx ty tz;rw[World.size_alloc]at h3;have ho:=((hop.alloc (.cells #[.bool ax,.string sy,.string sz] 53)).alloc (.cells #[.bool bx,.string ty,.string tz] 53)).alloc (.cells #[.bool false,.string ⟨#[]⟩,.string ⟨#[]⟩] 53);generalize (((w.alloc (.cells #[.bool z,.func (.func F) #[] #[]] 87)).alloc (.cells #[.bool ax,.string sy,.string sz] 53)).alloc (.cells #[.bool bx,.string ty,.string tz] 53)).alloc (.cells #[.bool false,.string ⟨#[]⟩,.string ⟨#[]⟩] 53)=w0 at*;clear hop;refine(HV1.out _ h3.be).mono ?_;rintro e w1 ⟨rfl,hb1⟩;replace h3:=h3.below hb1;replace ho:=ho.below hb1 ho.lt;have c0:=h3.bb.at0;have c1:=h3.bb.at1;have c2:=h3.bb.at2;clear hb1 HV1;have H3:=hid (And.intro h3 ho);clear h3 ho;go_wp2_with fail
 refine(HV2.out _ H3.out.1.be).mono ?_;rintro e w2 ⟨rfl,hb2⟩;have h3:=H3.out.1.below hb2;have ho:=H3.out.2.below hb2 H3.out.2.lt;clear c0 c1 c2 H3 hb2 HV2;have o0:=ho.at0;have o1:=ho.at1;have a0:=h3.ba.at0;have a1:=h3.ba.at1;have a2:=h3.ba.at2;have c0:=h3.bb.at0;have c1:=h3.bb.at1;have c2:=h3.bb.at2;have r0:=h3.br.at0;have r1:=h3.br.at1;have r2:=h3.br.at2;have g0:=h3.br.frozen 0;have g1:=h3.br.frozen 1;have g2:=h3.br.frozen 2;have gl:=h3.br.lt;have H3:=hid h3;clear h3 ho;by_cases hzb:(z&&b0)=true
 ·obtain⟨rfl,rfl⟩:=Bool.and_eq_true_iff.1 hzb;have HX:=hid (HRR.out.trans (if_pos rfl));clear HF hzb HRR;go_wp2_with fail
  have HO:=H3.out.out false ⟨#[]⟩ ⟨#[]⟩;have r0:=HO.1.at0;have r1:=HO.1.at1;have r2:=HO.1.at2;exact bodyPost_ret (v:= .tuple #[.agg #[.bool false,.string ⟨#[]⟩,.string ⟨#[]⟩],.int .i64 15]) (by simp[results,Tryz.results36,go_sem,r0,r1,r2]) rfl ⟨by rw[HX.out];rfl,HO.2⟩
 ·have hzb:(z&&b0)=false:=by simpa using hzb
  by_cases hl:(l1||l2||(l3||l4))=true
  ·have HX:=hid (HRR.out.trans ((if_neg (by rw[hzb];decide)).trans (if_pos hl)));clear HF HRR
   have hl4:(l1=true)∨(l1=false∧l2=true)∨(l1=false∧l2=false∧l3=true)∨(l1=false∧l2=false∧l3=false∧l4=true):=by
    cases l1<;>cases l2<;>cases l3<;>cases l4<;>simp at hl⊢
   clear hl;(have hz2:z=false∨(z=true∧b0=false):=by cases z<;>cases b0<;>simp at hzb⊢);clear hzb;rcases hz2 with rfl|⟨rfl,rfl⟩<;>rcases hl4 with rfl|⟨rfl,rfl⟩|⟨rfl,rfl,rfl⟩|⟨rfl,rfl,rfl,rfl⟩
   all_goals
    (go_wp2_with fail);have HO:=H3.out.out false ⟨#[]⟩ ⟨#[]⟩;have r0:=HO.1.at0;have r1:=HO.1.at1;have r2:=HO.1.at2;exact bodyPost_ret (v:= .tuple #[.agg #[.bool false,.string ⟨#[]⟩,.string ⟨#[]⟩],.int .i64 2]) (by simp[results,Tryz.results36,go_sem,r0,r1,r2]) rfl ⟨by rw[HX.out];rfl,HO.2⟩
  ·(have hl:(l1||l2||(l3||l4))=false:=by simpa using hl);have HX:=hid (HRR.out.trans ((if_neg (by rw[hzb];decide)).trans (if_neg (by rw[hl];decide))));clear HRR;simp only[Bool.or_eq_false_iff]at hl;obtain⟨⟨rfl,rfl⟩,rfl,rfl⟩:=hl;have HC:=hid (HF.out w2 H3.out.be hzb rfl rfl);clear HF;(have hz2:z=false∨(z=true∧b0=false):=by cases z<;>cases b0<;>simp at hzb⊢);clear hzb;obtain⟨u,v,s,hR⟩:=rtE_tri R;rw[hR]at HC;have HR:=hid hR;clear hR;rcases hz2 with rfl|⟨rfl,rfl⟩
   all_goals
    go_wp2_with(go_at_fn F;refine HC.out.mono ?_;rintro e w3 ⟨rfl,hb3⟩;have h4:=H3.out.below hb3;have q0:=h4.br.at0;have q1:=h4.br.at1;have q2:=h4.br.at2;have p0:=h4.br.frozen 0;have p1:=h4.br.frozen 1;have p2:=h4.br.frozen 2;have pl:=h4.br.lt;have H4:=hid h4;clear h4 hb3);have HO:=H4.out.out u v s;have q0:=HO.1.at0;have q1:=HO.1.at1;have q2:=HO.1.at2;exact bodyPost_ret (v:= .tuple #[.agg #[.bool u,.string v,.string s],.int .i64 R.2]) (by simp[results,Tryz.results36,go_sem,q0,q1,q2]) rfl ⟨by rw[HX.out,HR.out],HO.2⟩
end
section
open Go.Shelf
open Go.Lib (decDigits)
theorem product_any(a b:Rt)(h1:DN a.num)(h2:DN b.num)(h3:DN a.den)(h4:DN b.den)(hn:DN (a.num*b.num))(hd:DN (a.den*b.den))(hd0:0<a.den*b.den)(w:World)(htab:TabB w.heap.size w):
  Calls Tryz.prog 35 #[rtV a,rtV b] w λe w'=>e= .returned (.tuple #[rtV (prodQ a b),.int .i64 0])∧Below w.heap.size w w':=by
 have HL:=hid (λW(hW:Below w.heap.size w W)=>lowest_any (a.neg !=b.neg) (a.num*b.num) (a.den*b.den) hn hd hd0 W ((htab.on hW).mono hW.size))
 have HP:=hid (λW(hW:Below w.heap.size w W)(Z:Zone)(A:Option Addr)(cap:Nat)(hz:∀b,Z b->b<W.heap.size)(hs:SeqR PairR 2 Z W [(a.num,b.num),(a.den,b.den)] A)=>products_any Z A cap [(a.num,b.num),(a.den,b.den)] W (by simp) hz hs ((htab.on hW).mono hW.size) (by
  intro p hp;rcases List.mem_cons.1 hp with rfl|hp
  ·exact⟨h1,h2,hn⟩
  ·rw[List.mem_singleton.1 hp];exact⟨h3,h4,hd⟩))
 unfold prodQ;obtain⟨ax,ay,az⟩:=a;obtain⟨bx,by_,bz⟩:=b;dsimp only at*;generalize lowR (ax !=bx) (ay*by_) (az*bz)=R at*;obtain⟨rx,ry,rz⟩:=R;unfold rtV at HL⊢;dsimp only at*;clear h1 h2 h3 h4 hn hd hd0 htab;go_enter Tryz.func35,Tryz.ntmps35
 go_wp2_with fail
 have h3:=R3.new (Below.refl w.heap.size w) ax (dstr ay) (dstr az) bx (dstr by_) (dstr bz);obtain⟨W0,hW0⟩:∃W0,W0=(((w.alloc (.cells #[.bool ax,.string (dstr ay),.string (dstr az)] 53)).alloc (.cells #[.bool bx,.string (dstr by_),.string (dstr bz)] 53)).alloc (.cells #[.bool false,.string ⟨#[]⟩,.string ⟨#[]⟩] 53)):=⟨_,rfl⟩;have hs0:W0.heap.size=w.heap.size+1+1+1:=by rw[hW0];simp
 rw[<-hW0]at h3⊢;clear hW0;have hpb:=Blk.new W0 132 #[.string (dstr ay),.string (dstr by_),.string (dstr az),.string (dstr bz)];rw[hs0]at hpb;have h5:=h3.below (below1 W0 (.cells #[.string (dstr ay),.string (dstr by_),.string (dstr az),.string (dstr bz)] 132))
 have hSq:SeqR PairR 2 (λb=>b=w.heap.size+1+1+1) (W0.alloc (.cells #[.string (dstr ay),.string (dstr by_),.string (dstr az),.string (dstr bz)] 132)) [(ay,by_),(az,bz)] (some ⟨w.heap.size+1+1+1,0,none⟩):=
  ⟨_,_,[.string (dstr ay),.string (dstr by_)],rfl,rfl,(λj u hu=>by
   rcases j with _ | _ |j
   ·simp at hu;subst hu;exact hpb.at0
   ·simp at hu;subst hu;exact hpb.at1
   ·simp at hu),rfl,⟨_,_,[.string (dstr az),.string (dstr bz)],rfl,rfl,(λj u hu=>by
   rcases j with _ | _ |j
   ·simp at hu;subst hu;exact hpb.at2
   ·simp at hu;subst hu;exact hpb.at3
   ·simp at hu),rfl,trivial⟩⟩
 refine(HP.out _ h5.be _ _ 2 (λb hb=>by rw[hb];exact hpb.lt) hSq).mono ?_;rintro e w1 ⟨v,rfl,how,hb1⟩;have h6:=h5.below hb1;obtain⟨VA,vcap,rfl,hvc,hvm,hrow⟩:=Row.of_own how (by decide);obtain⟨vb,voff,rfl,hvz,hvcell⟩:=hrow (by simp);have v0:=hvcell 0 _ rfl;have v1:=hvcell 1 _ rfl;unfold mulV at v0 v1;dsimp only at v0 v1;have vl:=lt_of_cell v0;have a0:=h6.ba.at0;have b0:=h6.bb.at0;have H6:=hid h6;clear how hb1 hvcell hrow hSq h5 hpb h3 HP h6;go_wp2_with fail
 have HC:=hid (λ(W:World)(hW:Below w1.heap.size w1 W)=>(show W.cell? ⟨w.heap.size,0,none⟩=some (.bool ax)∧W.cell? ⟨w.heap.size+1,0,none⟩=some (.bool bx)∧W.cell? ⟨vb,voff,none⟩=some (.string (dstr (ay*by_)))∧W.cell? ⟨vb,voff+1,none⟩=some (.string (dstr (az*bz))) from
  ⟨brd hW a0 H6.out.ba.lt,brd hW b0 H6.out.bb.lt,brd hW v0 vl,brd hW v1 vl⟩))
 clear a0 b0 v0 v1;refine wp_region_S 14 (λW=>Below w1.heap.size w1 W) (by kernel_rfl) ?_;have hS:(λW=>Below w1.heap.size w1 W) w1.drew:=(Below.refl _ _).drew
 (refine tkZ 0 ?_ hS ?_ ?_;rotate_left;intro w;go_simp;(try with_reducible rfl);simp only[nr])
 (refine tkS 1 ?_ hS ?_ ?_;rotate_left;intro w hkw;obtain⟨p0,p1,p2,p3⟩:=HC.out _ hkw;clear hkw;go_simp;(try with_reducible rfl);simp only[nr])
 (refine tkZ 2 ?_ hS ?_ ?_;rotate_left;intro w;go_simp;(try with_reducible rfl);simp only[nr])
 (refine tkS 3 ?_ hS ?_ ?_;rotate_left;intro w hkw;obtain⟨p0,p1,p2,p3⟩:=HC.out _ hkw;clear hkw;go_simp;(try with_reducible rfl);simp only[nr])
 (refine tkZ 4 ?_ hS ?_ ?_;rotate_left;intro w;go_simp;(try with_reducible rfl);simp only[nr])
 (refine tkZ 5 ?_ hS ?_ ?_;rotate_left;intro w;go_simp;(try with_reducible rfl);simp only[nr])
 (refine tkZ 6 ?_ hS ?_ ?_;rotate_left;intro w;go_simp;(try with_reducible rfl);simp only[nr])
 (refine tkS 7 ?_ hS ?_ ?_;rotate_left;intro w hkw;obtain⟨p0,p1,p2,p3⟩:=HC.out _ hkw;clear hkw;go_simp;(try with_reducible rfl);simp only[nr])
 (refine tkZ 8 ?_ hS ?_ ?_;rotate_left;intro w;go_simp;(try with_reducible rfl);simp only[nr])
 (refine tkZ 9 ?_ hS ?_ ?_;rotate_left;intro w;go_simp;(try with_reducible rfl);simp only[nr])
 (refine tkS 10 ?_ hS ?_ ?_;rotate_left;intro w hkw;obtain⟨p0,p1,p2,p3⟩:=HC.out _ hkw;clear hkw;go_simp;(try with_reducible rfl);simp only[nr])
 refine wS1 11 (λK hK=> ?_);go_wp2_with fail
 refine(HL.out _ (H6.out.be.trans (Below.mono hS (H6.out.be.size)))).mono ?_;rintro e w2 ⟨rfl,hb⟩;have hb6:Below w1.heap.size w1 w2:=hS.trans (hb.mono hS.size);refine hK _ _ (Or.inr hb6) ?_;clear hK K hb hS
 (try simp only[nr])
 have hS:(λW=>Below w1.heap.size w1 W) w2:=hb6;clear hb6
 (refine tkZ 12 ?_ hS ?_ ?_;rotate_left;intro w;go_simp;(try with_reducible rfl);simp only[nr])
 (refine tkZ 13 ?_ hS ?_ ?_;rotate_left;intro w;go_simp;(try with_reducible rfl);simp only[nr])
 have h7:=H6.out.below hS;have q0:=h7.br.at0;have q1:=h7.br.at1;have q2:=h7.br.at2;have g0:=h7.br.frozen 0;have g1:=h7.br.frozen 1;have g2:=h7.br.frozen 2;have gl:=h7.br.lt;have H7:=hid h7;clear h7 hS H6 HC vl;refine wS1 14 (λK hK=> ?_);go_wp2_with fail
 refine hK _ _ (Or.inl rfl) ?_;clear hK K
 (try simp only[nr])
 refine wS1 15 (λK hK=> ?_);go_wp2_with fail
 refine hK _ _ (Or.inl rfl) ?_;clear hK K
 (try simp only[nr])
 refine wSd ?_ _;go_wp2_with fail
 have HO:=H7.out.out rx (dstr ry) (dstr rz);have r0:=HO.1.at0;have r1:=HO.1.at1;have r2:=HO.1.at2;exact bodyPost_ret (v:= .tuple #[.agg #[.bool rx,.string (dstr ry),.string (dstr rz)],.int .i64 0]) (by simp[results,Tryz.results35,go_sem,r0,r1,r2]) rfl ⟨rfl,HO.2⟩
end
section
open Go.Shelf
open Go.Lib (decDigits)
theorem opposite_any(r:Rt)(w:World):Calls Tryz.prog 77 #[rtV r] w λe w'=>e= .returned (rtV (oppR r))∧Below w.heap.size w w':=by
 obtain⟨x,n,d⟩:=r;unfold oppR rtV;dsimp only;obtain⟨bz,hbz⟩:∃bz,((dstr n).toList ==[48])=bz:=⟨_,rfl⟩;have h0:decide (n≠0)= !bz:=by rw[<-hbz,is0,decide_not]
 rw[h0];have b1:=(Blk.new w 53 #[.bool x,.string (dstr n),.string (dstr d)]).alloc (.cells #[.bool false,.string ⟨#[]⟩,.string ⟨#[]⟩] 53);have b2:=Blk.new (w.alloc (.cells #[.bool x,.string (dstr n),.string (dstr d)] 53)) 53 #[.bool false,.string ⟨#[]⟩,.string ⟨#[]⟩];rw[World.size_alloc]at b2;have hB:Below w.heap.size w ((w.alloc (.cells #[.bool x,.string (dstr n),.string (dstr d)] 53)).alloc (.cells #[.bool false,.string ⟨#[]⟩,.string ⟨#[]⟩] 53)):=(below1 w _).alloc (by simp) _;clear h0;go_enter Tryz.func77,Tryz.ntmps77
 go_upto_region 1 with fail
 generalize (w.alloc (.cells #[.bool x,.string (dstr n),.string (dstr d)] 53)).alloc (.cells #[.bool false,.string ⟨#[]⟩,.string ⟨#[]⟩] 53)=w0 at*;have c0:=b1.at0;have c1:=b1.at1;have c2:=b1.at2;have k0:=b1.frozen 0;have l1:=b1.lt;have d0:=b2.at0;have d1:=b2.at1;have d2:=b2.at2;have g0:=b2.frozen 0;have g1:=b2.frozen 1;have g2:=b2.frozen 2;have gl:=b2.lt
 have HF:=hid (λ(nb:Bool)=>(show Blk ((((w0.setCell ⟨w.heap.size,0,none⟩ (.bool nb)).setCell ⟨w.heap.size+1,0,none⟩ (.bool nb)).setCell ⟨w.heap.size+1,1,none⟩ (.string (dstr n))).setCell ⟨w.heap.size+1,2,none⟩ (.string (dstr d))) (w.heap.size+1) 53 #[.bool nb,.string (dstr n),.string (dstr d)]∧Below w.heap.size w ((((w0.setCell ⟨w.heap.size,0,none⟩ (.bool nb)).setCell ⟨w.heap.size+1,0,none⟩ (.bool nb)).setCell ⟨w.heap.size+1,1,none⟩ (.string (dstr n))).setCell ⟨w.heap.size+1,2,none⟩ (.string (dstr d))) from
  ⟨(((b2.far (p:=⟨w.heap.size,0,none⟩) (by simp) _).set_ 0 _).set_ 1 _).set_ 2 _,(((hB.setCell (Nat.le_refl _) _).setCell (Nat.le_succ _) _).setCell (Nat.le_succ _) _).setCell (Nat.le_succ _) _⟩))
 clear b1 b2 hB;cases x
 ·go_wp2_with fail
  have r0:=(HF.out (!bz)).1.at0;have r1:=(HF.out (!bz)).1.at1;have r2:=(HF.out (!bz)).1.at2;exact bodyPost_ret (v:= .agg #[.bool (!bz),.string (dstr n),.string (dstr d)]) (by simp[results,Tryz.results77,go_sem,r0,r1,r2]) rfl ⟨rfl,(HF.out (!bz)).2⟩
 ·go_wp2_with fail
  have r0:=(HF.out false).1.at0;have r1:=(HF.out false).1.at1;have r2:=(HF.out false).1.at2;exact bodyPost_ret (v:= .agg #[.bool false,.string (dstr n),.string (dstr d)]) (by simp[results,Tryz.results77,go_sem,r0,r1,r2]) rfl ⟨rfl,(HF.out false).2⟩
theorem sum_any(a b:Rt)(h1:DN a.num)(h2:DN b.num)(h3:DN a.den)(h4:DN b.den)(hx:DN (a.num*b.den))(hy:DN (b.num*a.den))(hxy:DN (a.num*b.den+b.num*a.den))(hd:DN (a.den*b.den))(hd0:0<a.den*b.den)(w:World)(htab:TabB w.heap.size w):
  Calls Tryz.prog 76 #[rtV a,rtV b] w λe w'=>e= .returned (.tuple #[rtV (sumR a b),.int .i64 0])∧Below w.heap.size w w':=by
 have HL:=hid (λW(hW:Below w.heap.size w W) ng n(hn:DN n)=>lowest_any ng n (a.den*b.den) hn hd hd0 W ((htab.on hW).mono hW.size));have HA:=hid (λW(hW:Below w.heap.size w W)=>Add_any _ _ W ((htab.on hW).mono hW.size) hx hy hxy);have HC:=hid (λW(hW:Below w.heap.size w W)=>Compare_any _ _ W ((htab.on hW).mono hW.size) hx hy);have HS1:=hid (λW(hW:Below w.heap.size w W)(hle:b.num*a.den≤a.num*b.den)=>Sub_any _ _ W ((htab.on hW).mono hW.size) hx hy hle (Nat.le_trans (dec_mono (Nat.sub_le ..)) hx));have HS2:=hid (λW(hW:Below w.heap.size w W)(hle:a.num*b.den≤b.num*a.den)=>Sub_any _ _ W ((htab.on hW).mono hW.size) hy hx hle (Nat.le_trans (dec_mono (Nat.sub_le ..)) hy))
 have HP:=hid (λW(hW:Below w.heap.size w W)(Z:Zone)(A:Option Addr)(cap:Nat)(hz:∀b,Z b->b<W.heap.size)(hs:SeqR PairR 2 Z W [(a.num,b.den),(b.num,a.den),(a.den,b.den)] A)=>products_any Z A cap [(a.num,b.den),(b.num,a.den),(a.den,b.den)] W (by simp) hz hs ((htab.on hW).mono hW.size) (by
  intro p hp;rcases List.mem_cons.1 hp with rfl|hp
  ·exact⟨h1,h4,hx⟩
  ·rcases List.mem_cons.1 hp with rfl|hp
   ·exact⟨h2,h3,hy⟩
   ·rw[List.mem_singleton.1 hp];exact⟨h3,h4,hd⟩))
 have HDN:=hid (And.intro hxy (And.intro (show DN (a.num*b.den-b.num*a.den) from Nat.le_trans (dec_mono (Nat.sub_le ..)) hx) (show DN (b.num*a.den-a.num*b.den) from Nat.le_trans (dec_mono (Nat.sub_le ..)) hy)));obtain⟨R,hR⟩:∃R,R=sumR a b:=⟨_,rfl⟩;rw[<-hR];unfold sumR at hR;have HR:=hid hR;clear hR;obtain⟨ax,ay,az⟩:=a;obtain⟨bx,by_,bz⟩:=b;obtain⟨rx,ry,rz⟩:=R;unfold rtV at HL⊢;dsimp only at*;obtain⟨X,hX⟩:∃X,X=ay*bz:=⟨_,rfl⟩;obtain⟨Y,hY⟩:∃Y,Y=by_*az:=⟨_,rfl⟩;obtain⟨D,hD⟩:∃D,D=az*bz:=⟨_,rfl⟩;rw[<-hX,<-hY]at HR HA HC HS1 HS2 HDN;rw[<-hD]at HR HL;have HXYD:=hid (And.intro hX (And.intro hY hD));clear h1 h2 h3 h4 hx hy hxy hd hd0 htab hX hY hD;go_enter Tryz.func76,Tryz.ntmps76
 go_wp2_with fail
 have h3:=R3.new (Below.refl w.heap.size w) ax (dstr ay) (dstr az) bx (dstr by_) (dstr bz);obtain⟨W0,hW0⟩:∃W0,W0=(((w.alloc (.cells #[.bool ax,.string (dstr ay),.string (dstr az)] 53)).alloc (.cells #[.bool bx,.string (dstr by_),.string (dstr bz)] 53)).alloc (.cells #[.bool false,.string ⟨#[]⟩,.string ⟨#[]⟩] 53)):=⟨_,rfl⟩;have hs0:W0.heap.size=w.heap.size+1+1+1:=by rw[hW0];simp
 rw[<-hW0]at h3⊢;clear hW0;have hpb:=Blk.new W0 132 #[.string (dstr ay),.string (dstr bz),.string (dstr by_),.string (dstr az),.string (dstr az),.string (dstr bz)];rw[hs0]at hpb;have h5:=h3.below (below1 W0 (.cells #[.string (dstr ay),.string (dstr bz),.string (dstr by_),.string (dstr az),.string (dstr az),.string (dstr bz)] 132))
 have hSq:SeqR PairR 2 (λb=>b=w.heap.size+1+1+1) (W0.alloc (.cells #[.string (dstr ay),.string (dstr bz),.string (dstr by_),.string (dstr az),.string (dstr az),.string (dstr bz)] 132)) [(ay,bz),(by_,az),(az,bz)] (some ⟨w.heap.size+1+1+1,0,none⟩):=
  ⟨_,_,[.string (dstr ay),.string (dstr bz)],rfl,rfl,(λj u hu=>by
   rcases j with _ | _ |j
   ·simp at hu;subst hu;exact hpb.cell 0
   ·simp at hu;subst hu;exact hpb.cell 1
   ·simp at hu),rfl,⟨_,_,[.string (dstr by_),.string (dstr az)],rfl,rfl,(λj u hu=>by
   rcases j with _ | _ |j
   ·simp at hu;subst hu;exact hpb.cell 2
   ·simp at hu;subst hu;exact hpb.cell 3
   ·simp at hu),rfl,⟨_,_,[.string (dstr az),.string (dstr bz)],rfl,rfl,(λj u hu=>by
   rcases j with _ | _ |j
   ·simp at hu;subst hu;exact hpb.cell 4
   ·simp at hu;subst hu;exact hpb.cell 5
   ·simp at hu),rfl,trivial⟩⟩⟩
 refine(HP.out _ h5.be _ _ 3 (λb hb=>by rw[hb];exact hpb.lt) hSq).mono ?_;rintro e w1 ⟨v,rfl,how,hb1⟩;have h6:=h5.below hb1;obtain⟨VA,vcap,rfl,hvc,hvm,hrow⟩:=Row.of_own how (by decide);obtain⟨vb,voff,rfl,hvz,hvcell⟩:=hrow (by simp);have v0:w1.cell? ⟨vb,voff,none⟩=_:=hvcell 0 _ rfl;have v1:=hvcell 1 _ rfl;have v2:=hvcell 2 _ rfl;unfold mulV at v0 v1 v2;dsimp only at v0 v1 v2;rw[<-HXYD.out.1]at v0;rw[<-HXYD.out.2.1]at v1;rw[<-HXYD.out.2.2]at v2;have vl:=lt_of_cell v0;have a0:=h6.ba.at0;have b0:=h6.bb.at0;have al:=h6.ba.lt;have bl:=h6.bb.lt;have H6:=hid h6;clear how hb1 hvcell hrow hSq h5 hpb h3 HP h6 HXYD;go_wp2_with fail
 clear a0 b0;go_quiet(fail);have h7:=H6.out.below (below_drewN' (Below.refl _ w1) nq);clear v0 v1 v2 vl H6 al bl;generalize w1.drewN nq=w2 at*;have a0:=h7.ba.at0;have b0:=h7.bb.at0;have al:=h7.ba.lt;have bl:=h7.bb.lt;have H7:=hid h7;clear h7;by_cases hs:ax=bx
 ·subst hs;have HRR:=hid (HR.out.trans (if_pos rfl));clear HR HC HS1 HS2;have es:(ax==ax)=true:=by simp
  go_wp2_with fail
  refine(HA.out _ H7.out.be).mono ?_;rintro e w4 ⟨rfl,hb4⟩;have h8:=H7.out.below hb4;have a1:=h8.ba.at0;have H8:=hid h8;have HLL:=hid (HL.out w4 h8.be ax _ HDN.out.1);rw[<-HRR.out]at HLL;clear h8 hb4 HL H7 a0 b0;go_wp2_with fail
  refine HLL.out.mono ?_;rintro e w5 ⟨rfl,hb5⟩;have h9:=H8.out.below hb5;have q0:=h9.br.at0;have q1:=h9.br.at1;have q2:=h9.br.at2;have g0:=h9.br.frozen 0;have g1:=h9.br.frozen 1;have g2:=h9.br.frozen 2;have gl:=h9.br.lt;have H9:=hid h9;clear h9 hb5 H8 HLL a1;go_wp2_with fail
  have HO:=H9.out.out rx (dstr ry) (dstr rz);have r0:=HO.1.at0;have r1:=HO.1.at1;have r2:=HO.1.at2;exact bodyPost_ret (v:= .tuple #[.agg #[.bool rx,.string (dstr ry),.string (dstr rz)],.int .i64 0]) (by simp[results,Tryz.results76,go_sem,r0,r1,r2]) rfl ⟨rfl,HO.2⟩
 ·have es:(ax==bx)=false:=by simpa using hs
  have HRR0:=hid (HR.out.trans (if_neg hs));clear HR HA hs;go_wp2_with fail
  refine(HC.out _ H7.out.be).mono ?_;rintro e w3 ⟨rfl,hb3⟩;replace H7:=hid (H7.out.below hb3);replace a0:=H7.out.ba.at0;replace b0:=H7.out.bb.at0;replace al:=H7.out.ba.lt;replace bl:=H7.out.bb.lt;clear hb3 HC;by_cases hlt:X<Y
  ·have HRR:=hid (HRR0.out.trans (if_pos hlt));(have eg:sgnZ (X:Int) (Y:Int)= -1:=by unfold sgnZ;rw[if_pos (by omega)]);rw[eg];clear HS1 HRR0;have HS:=hid (HS2.out w3 H7.out.be (Nat.le_of_lt hlt));clear HS2 eg hlt;(go_wp2_with fail);refine(HS.out).mono ?_;rintro e w4 ⟨rfl,hb4⟩;have h8:=H7.out.below hb4;have a1:=h8.bb.at0;have H8:=hid h8;have HLL:=hid (HL.out w4 h8.be bx _ HDN.out.2.2);rw[<-HRR.out]at HLL;clear h8 hb4 HL H7 a0 b0;(go_wp2_with fail);refine HLL.out.mono ?_;rintro e w5 ⟨rfl,hb5⟩;have h9:=H8.out.below hb5;have q0:=h9.br.at0;have q1:=h9.br.at1;have q2:=h9.br.at2;have g0:=h9.br.frozen 0;have g1:=h9.br.frozen 1;have g2:=h9.br.frozen 2;have gl:=h9.br.lt;have H9:=hid h9;clear h9 hb5 H8 HLL a1;(go_wp2_with fail);have HO:=H9.out.out rx (dstr ry) (dstr rz);have r0:=HO.1.at0;have r1:=HO.1.at1;have r2:=HO.1.at2;exact bodyPost_ret (v:= .tuple #[.agg #[.bool rx,.string (dstr ry),.string (dstr rz)],.int .i64 0]) (by simp[results,Tryz.results76,go_sem,r0,r1,r2]) rfl ⟨rfl,HO.2⟩
  ·have HRR:=hid (HRR0.out.trans (if_neg hlt))
   have e1:decide (sgnZ (X:Int) (Y:Int)<0)=false:=by
    unfold sgnZ;rw[if_neg (by omega)];split<;>rfl
   generalize sgnZ (X:Int) (Y:Int)=sg at*;clear HS2 HRR0;have HS:=hid (HS1.out w3 H7.out.be (Nat.le_of_not_lt hlt));clear HS1 hlt;(go_wp2_with fail);refine(HS.out).mono ?_;rintro e w4 ⟨rfl,hb4⟩;have h8:=H7.out.below hb4;have a1:=h8.ba.at0;have H8:=hid h8;have HLL:=hid (HL.out w4 h8.be ax _ HDN.out.2.1);rw[<-HRR.out]at HLL;clear h8 hb4 HL H7 a0 b0;(go_wp2_with fail);refine HLL.out.mono ?_;rintro e w5 ⟨rfl,hb5⟩;have h9:=H8.out.below hb5;have q0:=h9.br.at0;have q1:=h9.br.at1;have q2:=h9.br.at2;have g0:=h9.br.frozen 0;have g1:=h9.br.frozen 1;have g2:=h9.br.frozen 2;have gl:=h9.br.lt;have H9:=hid h9;clear h9 hb5 H8 HLL a1;(go_wp2_with fail);have HO:=H9.out.out rx (dstr ry) (dstr rz);have r0:=HO.1.at0;have r1:=HO.1.at1;have r2:=HO.1.at2;exact bodyPost_ret (v:= .tuple #[.agg #[.bool rx,.string (dstr ry),.string (dstr rz)],.int .i64 0]) (by simp[results,Tryz.results76,go_sem,r0,r1,r2]) rfl ⟨rfl,HO.2⟩
end
section
open Go.Shelf
open Go.Lib (decDigits)
theorem DN_of_lt{n k:Nat}(h0:0<k)(hk:k≤300)(h:n<10^k):DN n:=Nat.le_trans (dec_length_le h0 h) hk
theorem longR_lt{r:Rt}(h:longR r=false):r.num<10^140∧r.den<10^140:=by
 unfold longR at h;simp only[Bool.or_eq_false_iff,decide_eq_false_iff_not,Nat.not_le]at h;exact h
theorem mul_pow{k a b:Nat}(ha:a<10^k)(hb:b<10^k):a*b<10^(k+k):=by
 rw[Nat.pow_add];exact Nat.mul_lt_mul'' ha hb
theorem add_pow{k a b:Nat}(ha:a<10^k)(hb:b<10^k):a+b<10^(k+1):=by
 rw[Nat.pow_succ];generalize 10^k=t at*;omega
theorem DN_mul{a b:Nat}(ha:a<10^140)(hb:b<10^140):DN (a*b):=DN_of_lt (k:=140+140) (by decide) (by decide) (mul_pow (k:=140) ha hb)
theorem DN_add{a b c d:Nat}(ha:a<10^140)(hb:b<10^140)(hc:c<10^140)(hd:d<10^140):DN (a*b+c*d):=
 DN_of_lt (k:=140+140+1) (by decide) (by decide) (add_pow (mul_pow (k:=140) ha hb) (mul_pow (k:=140) hc hd))
theorem DN_140{n:Nat}(h:n<10^140):DN n:=DN_of_lt (by decide) (by decide) h
theorem lowR_ok'{neg:Bool}{num den:Nat}(hd:0<den)(hn:DN num)(hdn:DN den):RtOk (lowR neg num den):=lowR_ok hd hn hdn
theorem prodQ_ok{a b:Rt}(ha:longR a=false)(hb:longR b=false)(h:0<a.den*b.den):RtOk (prodQ a b):=
 lowR_ok h (DN_mul (longR_lt ha).1 (longR_lt hb).1) (DN_mul (longR_lt ha).2 (longR_lt hb).2)
theorem sumR_ok{a b:Rt}(ha:longR a=false)(hb:longR b=false)(h:0<a.den*b.den):RtOk (sumR a b):=by
 obtain⟨a1,a2⟩:=longR_lt ha;obtain⟨b1,b2⟩:=longR_lt hb;unfold sumR;split
 ·exact lowR_ok h (DN_add a1 b2 b1 a2) (DN_mul a2 b2)
 ·split
  ·exact lowR_ok h (Nat.le_trans (dec_mono (Nat.sub_le ..)) (DN_mul b1 a2)) (DN_mul a2 b2)
  ·exact lowR_ok h (Nat.le_trans (dec_mono (Nat.sub_le ..)) (DN_mul a1 b2)) (DN_mul a2 b2)
theorem oppR_ok{r:Rt}(h:RtOk r):RtOk (oppR r):=⟨h.den,h.gcd,λh0=>by have h0:r.num=0:=h0;show(!r.neg&&decide (r.num≠0))=false;simp[h0],h.numL,h.denL⟩
theorem mulR_rtok{a b:Rt}(ha:RtOk a)(hb:RtOk b):(mulR a b).2=0->RtOk (mulR a b).1:=by
 intro h;unfold mulR at h⊢;split at h
 ·cases h
 rename_i hl;rw[if_neg hl];have hl:(longR a||longR b)=false:=by simpa using hl
 simp only[Bool.or_eq_false_iff]at hl;exact prodQ_ok hl.1 hl.2 (Nat.mul_pos ha.den hb.den)
theorem addR_rtok{a b:Rt}(ha:RtOk a)(hb:RtOk b):(addR a b).2=0->RtOk (addR a b).1:=by
 intro h;unfold addR at h⊢;split at h
 ·cases h
 rename_i hl;rw[if_neg hl];have hl:(longR a||longR b)=false:=by simpa using hl
 simp only[Bool.or_eq_false_iff]at hl;exact sumR_ok hl.1 hl.2 (Nat.mul_pos ha.den hb.den)
theorem subR_rtok{a b:Rt}(ha:RtOk a)(hb:RtOk b):(subR a b).2=0->RtOk (subR a b).1:=by
 intro h;unfold subR at h⊢;split at h
 ·cases h
 rename_i hl;rw[if_neg hl];have hl:(longR a||longR b)=false:=by simpa using hl
 simp only[Bool.or_eq_false_iff]at hl;exact sumR_ok hl.1 (b:=oppR b) hl.2 (Nat.mul_pos ha.den hb.den)
theorem divR_rtok{a b:Rt}(ha:RtOk a)(hb:RtOk b):(divR a b).2=0->RtOk (divR a b).1:=by
 intro h;unfold divR at h⊢;split at h
 ·cases h
 rename_i h0;rw[if_neg h0];split at h
 ·cases h
 rename_i hl;rw[if_neg hl];have hl:(longR a||longR b)=false:=by simpa using hl
 simp only[Bool.or_eq_false_iff]at hl;have hs:longR ⟨b.neg,b.den,b.num⟩=false:=by have:=hl.2;unfold longR at this⊢;rw[Bool.or_comm];exact this
 exact prodQ_ok hl.1 hs (Nat.mul_pos ha.den (by show 0<b.num;omega))
theorem rmul_any(a b:Rt)(ha:RtOk a)(hb:RtOk b)(w:World)(htab:TabB w.heap.size w):
  Calls Tryz.prog 12 #[rtV a,rtV b] w λe w'=>e= .returned (.tuple #[rtE (mulR a b),.int .i64 (mulR a b).2])∧Below w.heap.size w w':=by
 have HR:=hid (λW(hW:Below w.heap.size w W)=>run_any 35 (enters_of Tryz.func35 (by kernel_rfl) rfl) false a b ha hb (prodQ a b,0) W ((htab.on hW).mono hW.size) λW' hW' h0 h1 h2=>by
  obtain⟨a1,a2⟩:=longR_lt h1;obtain⟨b1,b2⟩:=longR_lt h2
  exact product_any a b (DN_140 a1) (DN_140 b1) (DN_140 a2) (DN_140 b2) (DN_mul a1 b1) (DN_mul a2 b2) (Nat.mul_pos ha.den hb.den) W' ((htab.on (hW.trans (hW'.mono hW.size))).mono (Nat.le_trans hW.size hW'.size)))
 have eR:runR false a b (prodQ a b,0)=mulR a b:=by
  unfold runR mulR;simp
 rw[eR]at HR;generalize mulR a b=RR at*;obtain⟨u,v,s,hR⟩:=rtE_tri RR;rw[hR]at HR;obtain⟨ee,hee⟩:∃ee,ee=RR.2:=⟨_,rfl⟩;rw[<-hee]at HR;have HX:=hid (show Ending.returned (.tuple #[.agg #[.bool u,.string v,.string s],.int .i64 ee])=Ending.returned (.tuple #[rtE RR,.int .i64 RR.2]) from by rw[hR,hee]);obtain⟨ax,ay,az⟩:=a;obtain⟨bx,by_,bz⟩:=b;unfold rtV at HR⊢;dsimp only at*;generalize dstr ay=sy at*;generalize dstr az=sz at*;generalize dstr by_=ty at*;generalize dstr bz=tz at*;clear ha hb htab hR hee eR;go_enter Tryz.func12,Tryz.ntmps12
 go_wp2_with fail
 have h3:=R3.new (Below.refl w.heap.size w) ax sy sz bx ty tz;generalize ((w.alloc (.cells #[.bool ax,.string sy,.string sz] 53)).alloc (.cells #[.bool bx,.string ty,.string tz] 53)).alloc (.cells #[.bool false,.string ⟨#[]⟩,.string ⟨#[]⟩] 53)=w0 at*;refine(HR.out _ h3.be).mono ?_;rintro e w1 ⟨rfl,hb1⟩;have h4:=h3.below hb1;clear h3 hb1 HR;have q0:=h4.br.at0;have q1:=h4.br.at1;have q2:=h4.br.at2;have g0:=h4.br.frozen 0;have g1:=h4.br.frozen 1;have g2:=h4.br.frozen 2;have gl:=h4.br.lt;have HH:=hid h4;clear h4;go_wp2_with fail
 have HO:=HH.out.out u v s;have r0:=HO.1.at0;have r1:=HO.1.at1;have r2:=HO.1.at2;exact bodyPost_ret (v:= .tuple #[.agg #[.bool u,.string v,.string s],.int .i64 ee]) (by simp[results,Tryz.results12,go_sem,r0,r1,r2]) rfl ⟨HX.out,HO.2⟩
theorem radd_any(a b:Rt)(ha:RtOk a)(hb:RtOk b)(w:World)(htab:TabB w.heap.size w):
  Calls Tryz.prog 95 #[rtV a,rtV b] w λe w'=>e= .returned (.tuple #[rtE (addR a b),.int .i64 (addR a b).2])∧Below w.heap.size w w':=by
 have HR:=hid (λW(hW:Below w.heap.size w W)=>run_any 76 (enters_of Tryz.func76 (by kernel_rfl) rfl) false a b ha hb (sumR a b,0) W ((htab.on hW).mono hW.size) λW' hW' h0 h1 h2=>by
  obtain⟨a1,a2⟩:=longR_lt h1;obtain⟨b1,b2⟩:=longR_lt h2
  exact sum_any a b (DN_140 a1) (DN_140 b1) (DN_140 a2) (DN_140 b2) (DN_mul a1 b2) (DN_mul b1 a2) (DN_add a1 b2 b1 a2) (DN_mul a2 b2) (Nat.mul_pos ha.den hb.den) W' ((htab.on (hW.trans (hW'.mono hW.size))).mono (Nat.le_trans hW.size hW'.size)))
 have eR:runR false a b (sumR a b,0)=addR a b:=by
  unfold runR addR;simp
 rw[eR]at HR;generalize addR a b=RR at*;obtain⟨u,v,s,hR⟩:=rtE_tri RR;rw[hR]at HR;obtain⟨ee,hee⟩:∃ee,ee=RR.2:=⟨_,rfl⟩;rw[<-hee]at HR;have HX:=hid (show Ending.returned (.tuple #[.agg #[.bool u,.string v,.string s],.int .i64 ee])=Ending.returned (.tuple #[rtE RR,.int .i64 RR.2]) from by rw[hR,hee]);obtain⟨ax,ay,az⟩:=a;obtain⟨bx,by_,bz⟩:=b;unfold rtV at HR⊢;dsimp only at*;generalize dstr ay=sy at*;generalize dstr az=sz at*;generalize dstr by_=ty at*;generalize dstr bz=tz at*;clear ha hb htab hR hee eR;go_enter Tryz.func95,Tryz.ntmps95
 go_wp2_with fail
 have h3:=R3.new (Below.refl w.heap.size w) ax sy sz bx ty tz;generalize ((w.alloc (.cells #[.bool ax,.string sy,.string sz] 53)).alloc (.cells #[.bool bx,.string ty,.string tz] 53)).alloc (.cells #[.bool false,.string ⟨#[]⟩,.string ⟨#[]⟩] 53)=w0 at*;refine(HR.out _ h3.be).mono ?_;rintro e w1 ⟨rfl,hb1⟩;have h4:=h3.below hb1;clear h3 hb1 HR;have q0:=h4.br.at0;have q1:=h4.br.at1;have q2:=h4.br.at2;have g0:=h4.br.frozen 0;have g1:=h4.br.frozen 1;have g2:=h4.br.frozen 2;have gl:=h4.br.lt;have HH:=hid h4;clear h4;go_wp2_with fail
 have HO:=HH.out.out u v s;have r0:=HO.1.at0;have r1:=HO.1.at1;have r2:=HO.1.at2;exact bodyPost_ret (v:= .tuple #[.agg #[.bool u,.string v,.string s],.int .i64 ee]) (by simp[results,Tryz.results95,go_sem,r0,r1,r2]) rfl ⟨HX.out,HO.2⟩
theorem sub1_any(a b:Rt)(h1:longR a=false)(h2:longR b=false)(hd0:0<a.den*b.den)(w:World)(htab:TabB w.heap.size w):
  Calls Tryz.prog 75 #[rtV a,rtV b] w λe w'=>e= .returned (.tuple #[rtV (sumR a (oppR b)),.int .i64 0])∧Below w.heap.size w w':=by
 obtain⟨a1,a2⟩:=longR_lt h1;obtain⟨b1,b2⟩:=longR_lt h2;have HO1:=hid (λW=>opposite_any b W);have HS:=hid (λW(hW:Below w.heap.size w W)=>sum_any a (oppR b) (DN_140 a1) (DN_140 b1) (DN_140 a2) (DN_140 b2) (DN_mul a1 b2) (DN_mul b1 a2) (DN_add a1 b2 b1 a2) (DN_mul a2 b2) hd0 W ((htab.on hW).mono hW.size));generalize sumR a (oppR b)=RR at*;generalize oppR b=ob at*;obtain⟨ax,ay,az⟩:=a;obtain⟨bx,by_,bz⟩:=b;obtain⟨ox,oy,oz⟩:=ob;obtain⟨u,vn,sn⟩:=RR;unfold rtV at HO1 HS⊢;dsimp only at*;obtain⟨v,hv⟩:∃v,dstr vn=v:=⟨_,rfl⟩;obtain⟨s,hs⟩:∃s,dstr sn=s:=⟨_,rfl⟩;obtain⟨ee,hee⟩:∃ee:Int,ee=0:=⟨_,rfl⟩;rw[hv,hs]at HS⊢;rw[<-hee]at HS⊢;generalize dstr ay=sy at*;generalize dstr az=sz at*;generalize dstr by_=ty at*;generalize dstr bz=tz at*;clear h1 h2 hd0 htab a1 a2 b1 b2 hee hv hs;go_enter Tryz.func75,Tryz.ntmps75
 go_wp2_with fail
 have h3:=R3.new (Below.refl w.heap.size w) ax sy sz bx ty tz;generalize ((w.alloc (.cells #[.bool ax,.string sy,.string sz] 53)).alloc (.cells #[.bool bx,.string ty,.string tz] 53)).alloc (.cells #[.bool false,.string ⟨#[]⟩,.string ⟨#[]⟩] 53)=w0 at*;have H3:=hid h3;clear h3
 have HC:=hid (λ(W:World)(hW:Below w0.heap.size w0 W)=>(show W.cell? ⟨w.heap.size,0,none⟩=some (.bool ax)∧W.cell? ⟨w.heap.size,1,none⟩=some (.string sy)∧W.cell? ⟨w.heap.size,2,none⟩=some (.string sz)∧W.cell? ⟨w.heap.size+1,0,none⟩=some (.bool bx)∧W.cell? ⟨w.heap.size+1,1,none⟩=some (.string ty)∧W.cell? ⟨w.heap.size+1,2,none⟩=some (.string tz) from by
  have h:=H3.out.below hW
  exact⟨h.ba.at0,h.ba.at1,h.ba.at2,h.bb.at0,h.bb.at1,h.bb.at2⟩))
 refine wp_region_S 6 (λW=>Below w0.heap.size w0 W) (by kernel_rfl) ?_;have hS:(λW=>Below w0.heap.size w0 W) w0.drew:=(Below.refl _ _).drew
 (refine tkS 0 ?_ hS ?_ ?_;rotate_left;intro w hkw;obtain⟨p0,p1,p2,p3,p4,p5⟩:=HC.out _ hkw;clear hkw;go_simp;(try with_reducible rfl);simp only[nr])
 (refine tkS 1 ?_ hS ?_ ?_;rotate_left;intro w hkw;obtain⟨p0,p1,p2,p3,p4,p5⟩:=HC.out _ hkw;clear hkw;go_simp;(try with_reducible rfl);simp only[nr])
 refine wS1 2 (λK hK=> ?_);go_wp2_with fail
 refine(HO1.out _).mono ?_;rintro e w2 ⟨rfl,hb⟩;have hb6:Below w0.heap.size w0 w2:=hS.trans (hb.mono hS.size);refine hK _ _ (Or.inr hb6) ?_;clear hK K hb hS
 (try simp only[nr])
 have hS:(λW=>Below w0.heap.size w0 W) w2:=hb6;clear hb6;refine wS1 3 (λK hK=> ?_);go_wp2_with fail
 refine(HS.out _ (H3.out.be.trans (Below.mono hS H3.out.be.size))).mono ?_;rintro e w3 ⟨rfl,hb⟩;have hb6:Below w0.heap.size w0 w3:=hS.trans (hb.mono hS.size);refine hK _ _ (Or.inr hb6) ?_;clear hK K hb hS
 (try simp only[nr])
 have hS:(λW=>Below w0.heap.size w0 W) w3:=hb6;clear hb6
 (refine tkZ 4 ?_ hS ?_ ?_;rotate_left;intro w;go_simp;(try with_reducible rfl);simp only[nr])
 (refine tkZ 5 ?_ hS ?_ ?_;rotate_left;intro w;go_simp;(try with_reducible rfl);simp only[nr])
 have h4:=H3.out.below hS;have q0:=h4.br.at0;have q1:=h4.br.at1;have q2:=h4.br.at2;have g0:=h4.br.frozen 0;have g1:=h4.br.frozen 1;have g2:=h4.br.frozen 2;have gl:=h4.br.lt;have HH:=hid h4;clear h4 hS H3 HC HS HO1;refine wS1 6 (λK hK=> ?_);go_wp2_with fail
 refine hK _ _ (Or.inl rfl) ?_;clear hK K
 (try simp only[nr])
 refine wS1 7 (λK hK=> ?_);go_wp2_with fail
 refine hK _ _ (Or.inl rfl) ?_;clear hK K
 (try simp only[nr])
 refine wSd ?_ _;go_wp2_with fail
 have HO:=HH.out.out u v s;have r0:=HO.1.at0;have r1:=HO.1.at1;have r2:=HO.1.at2;exact bodyPost_ret (v:= .tuple #[.agg #[.bool u,.string v,.string s],.int .i64 ee]) (by simp[results,Tryz.results75,go_sem,r0,r1,r2]) rfl ⟨rfl,HO.2⟩
theorem rsub_any(a b:Rt)(ha:RtOk a)(hb:RtOk b)(w:World)(htab:TabB w.heap.size w):
  Calls Tryz.prog 37 #[rtV a,rtV b] w λe w'=>e= .returned (.tuple #[rtE (subR a b),.int .i64 (subR a b).2])∧Below w.heap.size w w':=by
 have HR:=hid (λW(hW:Below w.heap.size w W)=>run_any 75 (enters_of Tryz.func75 (by kernel_rfl) rfl) false a b ha hb (sumR a (oppR b),0) W ((htab.on hW).mono hW.size) λW' hW' h0 h1 h2=>by
  exact sub1_any a b h1 h2 (Nat.mul_pos ha.den hb.den) W' ((htab.on (hW.trans (hW'.mono hW.size))).mono (Nat.le_trans hW.size hW'.size)))
 have eR:runR false a b (sumR a (oppR b),0)=subR a b:=by
  unfold runR subR;simp
 rw[eR]at HR;generalize subR a b=RR at*;obtain⟨u,v,s,hR⟩:=rtE_tri RR;rw[hR]at HR;obtain⟨ee,hee⟩:∃ee,ee=RR.2:=⟨_,rfl⟩;rw[<-hee]at HR;have HX:=hid (show Ending.returned (.tuple #[.agg #[.bool u,.string v,.string s],.int .i64 ee])=Ending.returned (.tuple #[rtE RR,.int .i64 RR.2]) from by rw[hR,hee]);obtain⟨ax,ay,az⟩:=a;obtain⟨bx,by_,bz⟩:=b;unfold rtV at HR⊢;dsimp only at*;generalize dstr ay=sy at*;generalize dstr az=sz at*;generalize dstr by_=ty at*;generalize dstr bz=tz at*;clear ha hb htab hR hee eR;go_enter Tryz.func37,Tryz.ntmps37
 go_wp2_with fail
 have h3:=R3.new (Below.refl w.heap.size w) ax sy sz bx ty tz;generalize ((w.alloc (.cells #[.bool ax,.string sy,.string sz] 53)).alloc (.cells #[.bool bx,.string ty,.string tz] 53)).alloc (.cells #[.bool false,.string ⟨#[]⟩,.string ⟨#[]⟩] 53)=w0 at*;refine(HR.out _ h3.be).mono ?_;rintro e w1 ⟨rfl,hb1⟩;have h4:=h3.below hb1;clear h3 hb1 HR;have q0:=h4.br.at0;have q1:=h4.br.at1;have q2:=h4.br.at2;have g0:=h4.br.frozen 0;have g1:=h4.br.frozen 1;have g2:=h4.br.frozen 2;have gl:=h4.br.lt;have HH:=hid h4;clear h4;go_wp2_with fail
 have HO:=HH.out.out u v s;have r0:=HO.1.at0;have r1:=HO.1.at1;have r2:=HO.1.at2;exact bodyPost_ret (v:= .tuple #[.agg #[.bool u,.string v,.string s],.int .i64 ee]) (by simp[results,Tryz.results37,go_sem,r0,r1,r2]) rfl ⟨HX.out,HO.2⟩
theorem div1_any(a b:Rt)(h1:longR a=false)(h2:longR b=false)(hd0:0<a.den*b.num)(w:World)(htab:TabB w.heap.size w):
  Calls Tryz.prog 69 #[rtV a,rtV b] w λe w'=>e= .returned (.tuple #[rtV (prodQ a ⟨b.neg,b.den,b.num⟩),.int .i64 0])∧Below w.heap.size w w':=by
 obtain⟨a1,a2⟩:=longR_lt h1;obtain⟨b1,b2⟩:=longR_lt h2;have HS:=hid (λW(hW:Below w.heap.size w W)=>product_any a ⟨b.neg,b.den,b.num⟩ (DN_140 a1) (DN_140 b2) (DN_140 a2) (DN_140 b1) (DN_mul a1 b2) (DN_mul a2 b1) hd0 W ((htab.on hW).mono hW.size));generalize prodQ a ⟨b.neg,b.den,b.num⟩=RR at*;obtain⟨ax,ay,az⟩:=a;obtain⟨bx,by_,bz⟩:=b;obtain⟨u,vn,sn⟩:=RR;unfold rtV at HS⊢;dsimp only at*;obtain⟨v,hv⟩:∃v,dstr vn=v:=⟨_,rfl⟩;obtain⟨s,hs⟩:∃s,dstr sn=s:=⟨_,rfl⟩;obtain⟨ee,hee⟩:∃ee:Int,ee=0:=⟨_,rfl⟩;rw[hv,hs]at HS⊢;rw[<-hee]at HS⊢;generalize dstr ay=sy at*;generalize dstr az=sz at*;generalize dstr by_=ty at*;generalize dstr bz=tz at*;clear h1 h2 hd0 htab a1 a2 b1 b2 hee hv hs;go_enter Tryz.func69,Tryz.ntmps69
 go_wp2_with fail
 have h3:=R3.new (Below.refl w.heap.size w) ax sy sz bx ty tz;generalize ((w.alloc (.cells #[.bool ax,.string sy,.string sz] 53)).alloc (.cells #[.bool bx,.string ty,.string tz] 53)).alloc (.cells #[.bool false,.string ⟨#[]⟩,.string ⟨#[]⟩] 53)=w0 at*;refine(HS.out _ h3.be).mono ?_;rintro e w1 ⟨rfl,hb1⟩;have h4:=h3.below hb1;clear h3 hb1 HS;have q0:=h4.br.at0;have q1:=h4.br.at1;have q2:=h4.br.at2;have g0:=h4.br.frozen 0;have g1:=h4.br.frozen 1;have g2:=h4.br.frozen 2;have gl:=h4.br.lt;have HH:=hid h4;clear h4;go_wp2_with fail
 have HO:=HH.out.out u v s;have r0:=HO.1.at0;have r1:=HO.1.at1;have r2:=HO.1.at2;exact bodyPost_ret (v:= .tuple #[.agg #[.bool u,.string v,.string s],.int .i64 ee]) (by simp[results,Tryz.results69,go_sem,r0,r1,r2]) rfl ⟨rfl,HO.2⟩
theorem rdiv_any(a b:Rt)(ha:RtOk a)(hb:RtOk b)(w:World)(htab:TabB w.heap.size w):
  Calls Tryz.prog 33 #[rtV a,rtV b] w λe w'=>e= .returned (.tuple #[rtE (divR a b),.int .i64 (divR a b).2])∧Below w.heap.size w w':=by
 have HR:=hid (λW(hW:Below w.heap.size w W)=>run_any 69 (enters_of Tryz.func69 (by kernel_rfl) rfl) true a b ha hb (prodQ a ⟨b.neg,b.den,b.num⟩,0) W ((htab.on hW).mono hW.size) λW' hW' h0 h1 h2=>by
  have hz:b.num≠0:=by simpa using h0
  exact div1_any a b h1 h2 (Nat.mul_pos ha.den (by omega)) W' ((htab.on (hW.trans (hW'.mono hW.size))).mono (Nat.le_trans hW.size hW'.size)))
 have eR:runR true a b (prodQ a ⟨b.neg,b.den,b.num⟩,0)=divR a b:=by
  unfold runR divR;simp
 rw[eR]at HR;generalize divR a b=RR at*;obtain⟨u,v,s,hR⟩:=rtE_tri RR;rw[hR]at HR;obtain⟨ee,hee⟩:∃ee,ee=RR.2:=⟨_,rfl⟩;rw[<-hee]at HR;have HX:=hid (show Ending.returned (.tuple #[.agg #[.bool u,.string v,.string s],.int .i64 ee])=Ending.returned (.tuple #[rtE RR,.int .i64 RR.2]) from by rw[hR,hee]);obtain⟨ax,ay,az⟩:=a;obtain⟨bx,by_,bz⟩:=b;unfold rtV at HR⊢;dsimp only at*;generalize dstr ay=sy at*;generalize dstr az=sz at*;generalize dstr by_=ty at*;generalize dstr bz=tz at*;clear ha hb htab hR hee eR;go_enter Tryz.func33,Tryz.ntmps33
 go_wp2_with fail
 have h3:=R3.new (Below.refl w.heap.size w) ax sy sz bx ty tz;generalize ((w.alloc (.cells #[.bool ax,.string sy,.string sz] 53)).alloc (.cells #[.bool bx,.string ty,.string tz] 53)).alloc (.cells #[.bool false,.string ⟨#[]⟩,.string ⟨#[]⟩] 53)=w0 at*;refine(HR.out _ h3.be).mono ?_;rintro e w1 ⟨rfl,hb1⟩;have h4:=h3.below hb1;clear h3 hb1 HR;have q0:=h4.br.at0;have q1:=h4.br.at1;have q2:=h4.br.at2;have g0:=h4.br.frozen 0;have g1:=h4.br.frozen 1;have g2:=h4.br.frozen 2;have gl:=h4.br.lt;have HH:=hid h4;clear h4;go_wp2_with fail
 have HO:=HH.out.out u v s;have r0:=HO.1.at0;have r1:=HO.1.at1;have r2:=HO.1.at2;exact bodyPost_ret (v:= .tuple #[.agg #[.bool u,.string v,.string s],.int .i64 ee]) (by simp[results,Tryz.results33,go_sem,r0,r1,r2]) rfl ⟨HX.out,HO.2⟩
end
end Go.Proofs.YtimmfbnjndndlaaGreatDoor
