/- TariffNeighbours: for every tariff and number, whatever they are: the law returns true, and the arguments read behind the call as before it. Conditions: the row's own (the listed variables of Go's library read as its text lays them: the card ties them). -/
import Derived.Test.YthpocbeoanipbaaGreatDoorM40
import Derived.Test.YthpocbeoanipbaaGreatDoorM39
import Derived.Test.YthpocbeoanipbaaGreatDoorCards
import Derived.Test.YthpocbeoanipbaaGreatDoorTie
import Derived.SevenTiedAt
set_option linter.all false
namespace Go.Proofs.YthpocbeoanipbaaGreatDoor
open Go.RowKit Go.Proofs.Tryz
set_option maxHeartbeats 40000000
set_option maxRecDepth 100000
variable{k:Nat}{w:World}{α:Type}
section
open Go.Shelf
theorem zOX{α:Type}{R:List Value->α->Prop}{cs:List Value}(b:cs.length=7):∀{ls:List α}{csl:List (List Value)},zc R 7 ls csl->∀(k:Nat),k<ls.length->∀j:Nat,(csl.set k cs).flatten[j]? =if k*7<=j/\j<k*7+7 then cs[j-k*7]? else csl.flatten[j]?
 |[],[],_,k,h,_=>by simp at h
 |x::ls,c::csl,he,0,_,j=>by
  have d:c.length=7:=he.1.2;rw[List.set_cons_zero,List.flatten_cons,List.flatten_cons];by_cases e:j<7
  ·rw[if_pos (by omega),List.getElem?_append_left (by omega)];simp
  ·rw[if_neg (by omega),List.getElem?_append_right (by omega),List.getElem?_append_right (by omega),b,d]
 |x::ls,c::csl,he,k+1,h,j=>by
  have d:c.length=7:=he.1.2;rw[List.set_cons_succ,List.flatten_cons,List.flatten_cons];by_cases e:j<7
  ·rw[if_neg (by omega),List.getElem?_append_left (by omega),List.getElem?_append_left (by omega)]
  ·rw[List.getElem?_append_right (by omega),List.getElem?_append_right (by omega),zOX b he.2 k (by simpa using h) (j-c.length)];by_cases a:k*7<=j-c.length/\j-c.length<k*7+7
   ·rw[if_pos a,if_pos (by omega),show j-c.length-k*7=j-(k+1)*7 by omega]
   ·rw[if_neg a,if_neg (by omega)]
 |[],_::_,h,_,_,_=>h.elim
 | _::_,[],h,_,_,_=>h.elim
theorem zc.set{α:Type}{R:List Value->α->Prop}{m:Nat}{cs:List Value}{y:α}(a:cs.length=m)(b:R cs y):∀{ls:List α}{csl:List (List Value)},zc R m ls csl->∀(k:Nat),zc R m (ls.set k y) (csl.set k cs)
 |[],[],_,_=>trivial
 | _::_,_::_,h,0=>⟨⟨b,a⟩,h.2⟩
 | _::_,_::_,h,k+1=>⟨h.1,zc.set a b h.2 k⟩
 |[],_::_,h,_=>h.elim
 | _::_,[],h,_=>h.elim
theorem zOY{R:List Value->α->Prop}{base g n a:Nat}{t:TypeId}{ls:List α}{csl:List (List Value)}{cs:List Value}(h:w.ownsRow base t 7 (.slice (some ⟨g,0,none⟩) n a) n csl.flatten)(he:zc R 7 ls csl)(C:n=ls.length)(G:k<n)(i:cs.length=7):
  w.there g (k*7) 7/\(w.setCells g (k*7) cs).ownsRow base t 7 (.slice (some ⟨g,0,none⟩) n a) n (csl.set k cs).flatten /\base<=g/\g<w.heap.size/\zA (λb=>b≠g) w (w.setCells g (k*7) cs)/\(w.setCells g (k*7) cs).heap.size =w.heap.size:=by
 obtain⟨A,h⟩:=h;obtain⟨B,D,E,F⟩:=size_setCells g cs (k*7) w;rcases h with⟨h,_⟩|⟨g',cap',cur,e',f,e,h1,h2,h3,h4⟩
 ·cases h
 ·injection e' with d z e3;injection d with d;injection d with d;subst d e3;have e:Blk w g t cur:=e
  have q:∀(s:List Value)(o:Nat)(c:Array Value),(zCT c s o).size =c.size:=by
   intro s
   induction s with
   |nil=>intro o c;rfl
   |cons v r ih=>intro o c;unfold zCT;rw[ih];simp
  refine⟨λj m=> ?_,⟨?_,Or.inr ⟨g,a,zCT cur cs (k*7),rfl,f,e.setCells cs (k*7) w cur,h1,h2,by rw[q];exact h3,?_⟩⟩,f,e.lt,⟨D,E,F,Nat.le_of_eq B.symm,λb _ f=>zBK _ _ _ _ _ f⟩,B⟩
  ·obtain⟨u,x⟩:=e.there (k*7+j) (by omega);rw[Nat.zero_add]at u x;exact⟨u,x⟩
  ·have d:=(he.imp (R':=λ_ _=>True) λ_ _ _=>trivial).size;have z:=(zc.set (R:=λ_ _=>True) (y:=ls[k]'(by omega)) i trivial (he.imp λ_ _ _=>trivial) k).size;rw[z,List.length_set,<-C]
  ·apply List.ext_getElem?;intro j;rw[zOX i he k (by omega) j,<-h4];by_cases m:j<n*7
   ·rw[List.getElem?_take_of_lt m,List.getElem?_take_of_lt m,Array.getElem?_toList,zE7 _ _ _ (by omega) j,i];split<;>simp
   ·rw[if_neg (by omega),List.getElem?_eq_none (by simp;omega),List.getElem?_eq_none (by simp;omega)]
theorem zSX{base n b:Nat}{e:TypeId}{v:Value}{xs:List Value}(h:w.ownsRow base e b v n xs)(c:0<n):∃g a,v= .slice (some ⟨g,0,none⟩) n a:=by
 rcases h.2 with⟨_,h⟩|⟨g,a,cur,rfl,_⟩
 ·omega
 ·exact⟨g,a,rfl⟩
theorem zUp{l:List α}(e:k+1<l.length):l=l.take k++l[k]::l[k+1]::l.drop (k+2)/\(l.set k l[k+1]).set (k+1) l[k]=l.take k++l[k+1]::l[k]::l.drop (k+2):=by
 have h:l=l.take k++l[k]::l[k+1]::l.drop (k+2):=by
  rw[<-List.drop_eq_getElem_cons (by omega:k+1<l.length),<-List.drop_eq_getElem_cons (by omega:k<l.length),List.take_append_drop]
 refine⟨h,?_⟩;apply List.ext_getElem?;intro j;have d:(l.take k).length =k:=by rw[List.length_take];omega
 by_cases a:j<k
 ·rw[List.getElem?_set_ne (by omega),List.getElem?_set_ne (by omega),List.getElem?_append_left (by omega),List.getElem?_take_of_lt a]
 ·rw[List.getElem?_append_right (by omega),d];by_cases b:j=k
  ·subst b;rw[List.getElem?_set_ne (by omega),List.getElem?_set_self (by omega)];simp
  ·by_cases c:j=k+1
   ·subst c;rw[List.getElem?_set_self (by rw[List.length_set];omega),show k+1-k=1 by omega];simp
   ·rw[List.getElem?_set_ne (by omega),List.getElem?_set_ne (by omega),show j-k=(j-k-2)+1+1 by omega,List.getElem?_cons_succ,List.getElem?_cons_succ,List.getElem?_drop,show k+2+(j-k-2)=j by omega]
end
section
open Go.Shelf
theorem zKc(Z:zE)(vd vl:Value)(t:zY)(au:Int)(cd:0<=au/\au<=255)(w:World)(h:zAA Z w vd vl t)(hz:∀b,Z b->b<w.heap.size)(cf:zAD w.heap.size w):
  Calls prog 7 #[.agg #[vd,vl],.int .u8 au] w λe w'=>e= .returned (.bool true)/\Below w.heap.size w w':=by
 have ba:=hid (λW(hW:Below w.heap.size w W)=>(show zAD W.heap.size W from(cf.on hW).mono hW.size));have ag:=hid (λW(hW:Below w.heap.size w W)=>(show zAA (λb=>b<W.heap.size) W vd vl t from(h.keep (.of_below hW)).mono λb hb=>Nat.lt_of_lt_of_le (hz b hb) hW.size));obtain⟨D,m,eu⟩:∃A2 ae,vd= .slice A2 t.dom.length ae:=by obtain⟨⟨A2,ae,e,_⟩,_⟩:=h.d;exact⟨A2,ae,e⟩
 obtain⟨LA,o,ev⟩:∃A2 ae,vl= .slice A2 t.lines.length ae:=by obtain⟨⟨A2,ae,e,_⟩⟩:=h.l;exact⟨A2,ae,e⟩
 subst eu ev;have co:=hid (λ(h:z7 t=true)=>zAj.1 h);clear h hz cf;have b4:=hid cd;clear cd;have cn:=hid (Blk.new w 27 #[.slice D t.dom.length m,.slice LA t.lines.length o]);have cg:=hid (zF w (.cells #[.slice D t.dom.length m,.slice LA t.lines.length o] 27));go_enter func7,ntmps7
 go_wp2_with fail
 refine(zEU _ (ba.out _ cg.out)).mono ?_;rintro e w1 ⟨rfl,hb⟩;have bo:=hid (cn.out.below hb cn.out.lt);have ch:=hid (zD cg.out hb);clear hb cn cg;have a:=bo.out;have o0:=a.at0;have G:=a.frozen 0;have o1:=a.at1;have H:=a.frozen 1;have ol:=a.lt;clear a;go_wp2_with fail
 refine(zEp _ (λ_=>False) _ _ _ t [] _ (ag.out _ ch.out) (zK.nil _ _) (λ_ h=>h)).mono ?_;rintro e w2 ⟨b,rfl,hb,cc⟩;have bp:=hid (bo.out.below hb bo.out.lt);have bi:=hid (zD ch.out hb);have dd:=hid cc;clear hb cc bo ch o0 o1 G H ol;cases b
 ·go_wp2_with fail
  go_ret;exact⟨rfl,bi.out⟩
 ·obtain⟨e5,ce,-⟩:=dd.out (by first|exact rfl|trivial);have HS:=hid ce;clear ce dd;have a:=bp.out;have o0:=a.at0;have G:=a.frozen 0;have o1:=a.at1;have H:=a.frozen 1;have ol:=a.lt;clear a;go_wp2_with fail
  refine(zBX _ _ _ t _ (ag.out _ bi.out) (λ_ h=>h) (λx hx=>Nat.le_trans (HS.out x hx) (by decide))).mono ?_;rintro e w3 ⟨rfl,hb⟩;have a9:=hid (bp.out.below hb bp.out.lt);have ay:=hid (zD bi.out hb);clear hb bp bi o0 o1 G H ol;obtain⟨vt,ef⟩:∃vt,vt=z7 t:=⟨_,rfl⟩;rw[<-ef]at co⊢;clear ef;cases vt
  ·(go_wp2_with fail);go_ret;exact⟨rfl,ay.out⟩
  ·have HV:=hid (co.out (by first|exact rfl|trivial));clear co;have eo:=HV.out.ne;obtain⟨k,hk,d9⟩:∃k:Nat,k<t.lines.length/\au%(t.lines.length:Int)=(k:Int):=⟨(au%(t.lines.length:Int)).toNat,by have:=Int.emod_lt_of_pos au (show(0:Int)<(t.lines.length:Int) by omega);have:=Int.emod_nonneg au (show(t.lines.length:Int)≠0 by omega);omega,by have:=Int.emod_nonneg au (show(t.lines.length:Int)≠0 by omega);omega⟩;obtain⟨er,et⟩:=b4.out;(have ec:¬((t.lines.length:Nat):Int)=0:=by omega);obtain⟨b,f,cs,rfl,-,dm,dq,bw⟩:=(ag.out w (Below.refl _ _)).l.at_ hk;have a:=a9.out;have o0:=a.at0;have G:=a.frozen 0;have o1:=a.at1;have H:=a.frozen 1;have ol:=a.lt;clear a;(go_upto_region 5 with fail);rw[d9];clear er et ec d9 b4 o0 o1 G H ol;obtain⟨I,c,ca,-⟩:=bw.form;have a8:=hid (show zc (zA4 (λb=>b<w.heap.size) w) 7 [t.lines[k]] [cs] from zc.one bw bw.size);have dc:=hid dq;have dp:t.lines[k]=t.lines[k]:=rfl;clear dq bw dp;obtain⟨L,dr⟩:∃y,y=t.lines[k].when_.op :=⟨_,rfl⟩;obtain⟨M,ds⟩:∃y,y=t.lines[k].when_.name :=⟨_,rfl⟩;obtain⟨N,dt⟩:∃y,y=t.lines[k].when_.cmp :=⟨_,rfl⟩;obtain⟨O,du⟩:∃y,y=t.lines[k].when_.num :=⟨_,rfl⟩;obtain⟨P,dv⟩:∃y,y=t.lines[k].when_.kids.length :=⟨_,rfl⟩;obtain⟨E,cz⟩:∃y,y=t.lines[k].cls :=⟨_,rfl⟩;obtain⟨B,ct⟩:∃y,y=t.lines[k].ctl :=⟨_,rfl⟩;rw[<-dr,<-ds,<-dt,<-du,<-dv,<-cz,<-ct]at ca;subst ca;have di:=hid (And.intro cz ct);clear dr ds dt du dv cz ct;obtain⟨aa,hE,aq⟩:=zGM (ag.out w (Below.refl _ _)).l;have J:=hid (hE.size);have ac:=hid (zDA hE);have ak:=hid hE;have a:=a9.out;have o0:=a.at0;have G:=a.frozen 0;have o1:=a.at1;have H:=a.frozen 1;have ol:=a.lt;clear a;have HM:=hid (Blk.new w3 27 #[.slice D t.dom.length m,.slice (some ⟨b,f,none⟩) t.lines.length o]);have aj:=hid (a9.out.alloc (.cells #[.slice D t.dom.length m,.slice (some ⟨b,f,none⟩) t.lines.length o] 27));have a0:=hid (zD ay.out (zF w3 (.cells #[.slice D t.dom.length m,.slice (some ⟨b,f,none⟩) t.lines.length o] 27)));have al:=hid (show w.heap.size<=w3.heap.size from ay.out.size);have ao:=hid (show w.heap.size≠w3.heap.size from Nat.ne_of_lt a9.out.lt);(go_upto_region 6 with fail);clear a9 ay o0 o1 G H ol;generalize w3.alloc (.cells #[.slice D t.dom.length m,.slice (some ⟨b,f,none⟩) t.lines.length o] 27)=z at*;generalize w3.heap.size=mb at*;have ad:=hid (λ(W:World)(hW:Below z.heap.size z W)=>Row.keep aq (zA.of_below (zD a0.out hW)));have a7:=hid (λ(W:World)(hW:Below w.heap.size w W)(j:Nat)(u:Value)(hu:[.int .i64 L,.string M,.int .i64 N,.int .i64 O,.slice I P c,.string E,.bool B][j]? =some u)=>(show W.cell? ⟨b,f+k*7+j,none⟩=some u from(hW.cell (p:=⟨b,_,none⟩) dm).trans (dc.out j u hu)));clear hE aq dc;have e0:((k:Nat):Int)<(t.lines.length:Int):=by omega
   have HC:=hid (λ(W:World)(hW:Below z.heap.size z W)=>(show W.cell? ⟨w.heap.size,1,none⟩=some (.slice (some ⟨b,f,none⟩) t.lines.length o)/\w.heap.size<W.heap.size/\W.cell? ⟨b,f+k*7,none⟩=some (.int .i64 L)/\W.cell? ⟨b,f+k*7+1,none⟩=some (.string M)/\W.cell? ⟨b,f+k*7+2,none⟩=some (.int .i64 N)/\W.cell? ⟨b,f+k*7+3,none⟩=some (.int .i64 O)/\W.cell? ⟨b,f+k*7+4,none⟩=some (.slice I P c)/\W.cell? ⟨b,f+k*7+5,none⟩=some (.string E)/\W.cell? ⟨b,f+k*7+6,none⟩=some (.bool B)/\b<W.heap.size from by
    have h1:=aj.out.below hW aj.out.lt;have hc:=a7.out W (zD a0.out hW)
    exact⟨h1.at1,h1.lt,hc 0 _ rfl,hc 1 _ rfl,hc 2 _ rfl,hc 3 _ rfl,hc 4 _ rfl,hc 5 _ rfl,hc 6 _ rfl,lt_of_cell (hc 0 _ rfl)⟩))
   go_cut[] from 29 to 40 (λwx=>∃A dk,Blk wx mb 27 #[.slice D t.dom.length m,.slice A (t.lines.length+1) dk]/\zBS (λb=>b<wx.heap.size) wx (.slice A (t.lines.length+1) dk) (t.lines++[t.lines[k]])/\Below w.heap.size w wx/\Blk wx w.heap.size 27 #[.slice D t.dom.length m,.slice (some ⟨b,f,none⟩) t.lines.length o])
   case first=>
    refine zL 12 (λW=>Below z.heap.size z W) (by kernel_rfl) ?_;have ah:Below z.heap.size z z.drew:=(Below.refl _ _).drew;have C:(λW=>Below z.heap.size z W) z.drew:=ah;generalize z.drew=x0 at*
    (refine tkZ 1 ?_ C ?_ ?_;rotate_left;intro w;go_simp;(try with_reducible rfl);simp only[nr])
    (refine tkS 2 ?_ C ?_ ?_;rotate_left;intro w n;obtain⟨t1,tl,c0,c1,c2,c3,c4,c5,c6,cl⟩:=HC.out _ n;clear n;go_simp;(try with_reducible rfl);simp only[nr])
    (refine tkZ 4 ?_ C ?_ ?_;rotate_left;intro w;go_simp;(try with_reducible rfl);simp only[nr])
    (refine tkS 5 ?_ C ?_ ?_;rotate_left;intro w n;obtain⟨t1,tl,c0,c1,c2,c3,c4,c5,c6,cl⟩:=HC.out _ n;clear n;go_simp;(try with_reducible rfl);simp only[nr])
    (refine tkZ 6 ?_ C ?_ ?_;rotate_left;intro w;go_simp;(try with_reducible rfl);simp only[nr])
    (refine tkZ 7 ?_ C ?_ ?_;rotate_left;intro w;go_simp;(try with_reducible rfl);simp only[nr])
    (refine tkS 8 ?_ C ?_ ?_;rotate_left;intro w n;obtain⟨t1,tl,c0,c1,c2,c3,c4,c5,c6,cl⟩:=HC.out _ n;clear n;go_simp;(try with_reducible rfl);simp only[nr])
    clear C;refine wS2 0 9 (λK s=> ?_) (λK s=> ?_)
    ·(go_wp2_with fail);refine s _ _ (Or.inr (ah.alloc ah.size _)) ?_;clear s K
     (try simp only[nr])
     have T:Below z.heap.size z (x0.alloc (.cells #[] 42)):=ah.alloc ah.size _;have cp:(x0.alloc (.cells #[] 42)).ownsRow z.heap.size 42 7 (.slice (some ⟨x0.heap.size,0,none⟩) 0 0) 0 []:=zHS (Blk.new x0 42 #[]) ah.size (by decide) rfl;(have ek:x0.heap.size<(x0.alloc (.cells #[] 42)).heap.size :=by simp);generalize x0.alloc (.cells #[] 42)=x1 at*;refine wS2 3 9 (λK s=> ?_) (λK s=> ?_)
     ·refine zD0 (.tmp 29) (.tmp 31) _ rfl underlying25 Tryz.eLine rfl cp rfl J.out (ad.out _ T) ac.out (by unfold maxLen;omega) (by omega) T.size ?_;intro v2 x2 i hg X;have Q:Below z.heap.size z x2:=ze T cp hg T.size (Nat.le_refl _);(have ej:x2.ownsRow z.heap.size 42 7 v2 (t.lines.length) aa.flatten:=by rw[Nat.zero_add,List.nil_append]at i;exact i);refine s _ _ (Or.inr Q) ?_;clear s K i hg X;simp only[List.getElem_toArray,List.getElem_cons_zero,List.getElem_cons_succ,nr];refine wS1 9 (λK s=> ?_);(go_wp2_with fail);refine s _ _ (Or.inr (Q.alloc Q.size _)) ?_;clear s K
      (try simp only[nr])
      have V:Below z.heap.size z (x2.alloc (.cells #[.int .i64 L,.string M,.int .i64 N,.int .i64 O,.slice I P c,.string E,.bool B] 42)):=Q.alloc Q.size _;have bc:=Blk.new x2 42 #[.int .i64 L,.string M,.int .i64 N,.int .i64 O,.slice I P c,.string E,.bool B];(have e4:x2.heap.size<(x2.alloc (.cells #[.int .i64 L,.string M,.int .i64 N,.int .i64 O,.slice I P c,.string E,.bool B] 42)).heap.size :=by simp);have ap:=ej.alloc (.cells #[.int .i64 L,.string M,.int .i64 N,.int .i64 O,.slice I P c,.string E,.bool B] 42);generalize x2.alloc (.cells #[.int .i64 L,.string M,.int .i64 N,.int .i64 O,.slice I P c,.string E,.bool B] 42)=x3 at*;refine wS1 10 (λK s=> ?_);refine zAz (.tmp 32) (.tmp 38) _ rfl underlying25 Tryz.eLine rfl ap rfl (news:=[.int .i64 L,.string M,.int .i64 N,.int .i64 O,.slice I P c,.string E,.bool B]) rfl (zIZ (cs:=[.int .i64 L,.string M,.int .i64 N,.int .i64 O,.slice I P c,.string E,.bool B]) bc) (by simp[Value.oneCell']) (by unfold maxLen;omega) (by omega) V.size ?_;intro v9 x4 i hg X;have F:Below z.heap.size z x4:=ze V ap hg V.size (Nat.le_refl _);refine s _ _ (Or.inr F) ?_;clear s K hg X;simp only[List.getElem_toArray,List.getElem_cons_zero,List.getElem_cons_succ,nr];obtain⟨U,q,ax,-,-,-⟩:=Row.of_own i (by decide);subst ax;have hM:=HM.out.below F HM.out.lt;have z1:=hM.at1;have zf:=hM.frozen 1;have zl:=hM.lt;clear hM;have C:(λW=>Below z.heap.size z W) x4:=F
      (refine tkZ 11 ?_ C ?_ ?_;rotate_left;intro w;go_simp;(try with_reducible rfl);simp only[nr])
      clear C;refine wS1 12 (λK s=> ?_);(go_wp2_with fail);refine s _ _ (Or.inl rfl) ?_;clear s K
      (try simp only[nr])
      refine wSd ?_ _;(go_wp2_with fail);go_meet;have hd:=zGN (w:=w) (csl:=aa) (dsl:=[[.int .i64 L,.string M,.int .i64 N,.int .i64 O,.slice I P c,.string E,.bool B]]) a0.out F HM.out al.out ak.out a8.out (by simpa using i) rfl (by show t.lines.length+1<=1000;omega);exact⟨_,_,hd.1,hd.2.1,hd.2.2,(aj.out.below F aj.out.lt).far (p:=⟨mb,1,none⟩) ao.out _⟩
     ·(go_wp2_with fail);refine s _ _ (Or.inr (T.alloc T.size _)) ?_;clear s K
      (try simp only[nr])
      have Q:Below z.heap.size z (x1.alloc (.cells #[.int .i64 L,.string M,.int .i64 N,.int .i64 O,.slice I P c,.string E,.bool B] 42)):=T.alloc T.size _;have cq:=Blk.new x1 42 #[.int .i64 L,.string M,.int .i64 N,.int .i64 O,.slice I P c,.string E,.bool B];(have em:x1.heap.size<(x1.alloc (.cells #[.int .i64 L,.string M,.int .i64 N,.int .i64 O,.slice I P c,.string E,.bool B] 42)).heap.size :=by simp);have bb:=cp.alloc (.cells #[.int .i64 L,.string M,.int .i64 N,.int .i64 O,.slice I P c,.string E,.bool B] 42);generalize x1.alloc (.cells #[.int .i64 L,.string M,.int .i64 N,.int .i64 O,.slice I P c,.string E,.bool B] 42)=x2 at*;refine wS1 3 (λK s=> ?_);refine zD0 (.tmp 29) (.tmp 31) _ rfl underlying25 Tryz.eLine rfl bb rfl J.out (ad.out _ Q) ac.out (by unfold maxLen;omega) (by omega) Q.size ?_;intro v3 x3 i hg X;have V:Below z.heap.size z x3:=ze Q bb hg Q.size (Nat.le_refl _);have bc:=cq.grown hg (λe=>by injection e with e;have e2:x0.heap.size=x1.heap.size:=e;omega);(have ap:x3.ownsRow z.heap.size 42 7 v3 (t.lines.length) aa.flatten:=by rw[Nat.zero_add,List.nil_append]at i;exact i);refine s _ _ (Or.inr V) ?_;clear s K i hg X;simp only[List.getElem_toArray,List.getElem_cons_zero,List.getElem_cons_succ,nr];refine wS1 10 (λK s=> ?_);refine zAz (.tmp 32) (.tmp 38) _ rfl underlying25 Tryz.eLine rfl ap rfl (news:=[.int .i64 L,.string M,.int .i64 N,.int .i64 O,.slice I P c,.string E,.bool B]) rfl (zIZ (cs:=[.int .i64 L,.string M,.int .i64 N,.int .i64 O,.slice I P c,.string E,.bool B]) bc) (by simp[Value.oneCell']) (by unfold maxLen;omega) (by omega) V.size ?_;intro v9 x4 i hg X;have F:Below z.heap.size z x4:=ze V ap hg V.size (Nat.le_refl _);refine s _ _ (Or.inr F) ?_;clear s K hg X;simp only[List.getElem_toArray,List.getElem_cons_zero,List.getElem_cons_succ,nr];obtain⟨U,q,ax,-,-,-⟩:=Row.of_own i (by decide);subst ax;have hM:=HM.out.below F HM.out.lt;have z1:=hM.at1;have zf:=hM.frozen 1;have zl:=hM.lt;clear hM;have C:(λW=>Below z.heap.size z W) x4:=F
      (refine tkZ 11 ?_ C ?_ ?_;rotate_left;intro w;go_simp;(try with_reducible rfl);simp only[nr])
      clear C;refine wS1 12 (λK s=> ?_);(go_wp2_with fail);refine s _ _ (Or.inl rfl) ?_;clear s K
      (try simp only[nr])
      refine wSd ?_ _;(go_wp2_with fail);go_meet;have hd:=zGN (w:=w) (csl:=aa) (dsl:=[[.int .i64 L,.string M,.int .i64 N,.int .i64 O,.slice I P c,.string E,.bool B]]) a0.out F HM.out al.out ak.out a8.out (by simpa using i) rfl (by show t.lines.length+1<=1000;omega);exact⟨_,_,hd.1,hd.2.1,hd.2.2,(aj.out.below F aj.out.lt).far (p:=⟨mb,1,none⟩) ao.out _⟩
    ·(go_wp2_with fail);refine s _ _ (Or.inr (ah.alloc ah.size _)) ?_;clear s K
     (try simp only[nr])
     have T:Below z.heap.size z (x0.alloc (.cells #[.int .i64 L,.string M,.int .i64 N,.int .i64 O,.slice I P c,.string E,.bool B] 42)):=ah.alloc ah.size _;have ei:=Blk.new x0 42 #[.int .i64 L,.string M,.int .i64 N,.int .i64 O,.slice I P c,.string E,.bool B];(have ek:x0.heap.size<(x0.alloc (.cells #[.int .i64 L,.string M,.int .i64 N,.int .i64 O,.slice I P c,.string E,.bool B] 42)).heap.size :=by simp);generalize x0.alloc (.cells #[.int .i64 L,.string M,.int .i64 N,.int .i64 O,.slice I P c,.string E,.bool B] 42)=x1 at*;refine wS1 0 (λK s=> ?_);(go_wp2_with fail);refine s _ _ (Or.inr (T.alloc T.size _)) ?_;clear s K
     (try simp only[nr])
     have Q:Below z.heap.size z (x1.alloc (.cells #[] 42)):=T.alloc T.size _;have bb:(x1.alloc (.cells #[] 42)).ownsRow z.heap.size 42 7 (.slice (some ⟨x1.heap.size,0,none⟩) 0 0) 0 []:=zHS (Blk.new x1 42 #[]) T.size (by decide) rfl;(have em:x1.heap.size<(x1.alloc (.cells #[] 42)).heap.size :=by simp);have cq:=ei.alloc (.cells #[] 42);generalize x1.alloc (.cells #[] 42)=x2 at*;refine wS1 3 (λK s=> ?_);refine zD0 (.tmp 29) (.tmp 31) _ rfl underlying25 Tryz.eLine rfl bb rfl J.out (ad.out _ Q) ac.out (by unfold maxLen;omega) (by omega) Q.size ?_;intro v3 x3 i hg X;have V:Below z.heap.size z x3:=ze Q bb hg Q.size (Nat.le_refl _);have bc:=cq.grown hg (λe=>by injection e with e;have e2:x1.heap.size=x0.heap.size:=e;omega);(have ap:x3.ownsRow z.heap.size 42 7 v3 (t.lines.length) aa.flatten:=by rw[Nat.zero_add,List.nil_append]at i;exact i);refine s _ _ (Or.inr V) ?_;clear s K i hg X;simp only[List.getElem_toArray,List.getElem_cons_zero,List.getElem_cons_succ,nr];refine wS1 10 (λK s=> ?_);refine zAz (.tmp 32) (.tmp 38) _ rfl underlying25 Tryz.eLine rfl ap rfl (news:=[.int .i64 L,.string M,.int .i64 N,.int .i64 O,.slice I P c,.string E,.bool B]) rfl (zIZ (cs:=[.int .i64 L,.string M,.int .i64 N,.int .i64 O,.slice I P c,.string E,.bool B]) bc) (by simp[Value.oneCell']) (by unfold maxLen;omega) (by omega) V.size ?_;intro v9 x4 i hg X;have F:Below z.heap.size z x4:=ze V ap hg V.size (Nat.le_refl _);refine s _ _ (Or.inr F) ?_;clear s K hg X;simp only[List.getElem_toArray,List.getElem_cons_zero,List.getElem_cons_succ,nr];obtain⟨U,q,ax,-,-,-⟩:=Row.of_own i (by decide);subst ax;have hM:=HM.out.below F HM.out.lt;have z1:=hM.at1;have zf:=hM.frozen 1;have zl:=hM.lt;clear hM;have C:(λW=>Below z.heap.size z W) x4:=F
     (refine tkZ 11 ?_ C ?_ ?_;rotate_left;intro w;go_simp;(try with_reducible rfl);simp only[nr])
     clear C;refine wS1 12 (λK s=> ?_);(go_wp2_with fail);refine s _ _ (Or.inl rfl) ?_;clear s K
     (try simp only[nr])
     refine wSd ?_ _;(go_wp2_with fail);go_meet;have hd:=zGN (w:=w) (csl:=aa) (dsl:=[[.int .i64 L,.string M,.int .i64 N,.int .i64 O,.slice I P c,.string E,.bool B]]) a0.out F HM.out al.out ak.out a8.out (by simpa using i) rfl (by show t.lines.length+1<=1000;omega);exact⟨_,_,hd.1,hd.2.1,hd.2.2,(aj.out.below F aj.out.lt).far (p:=⟨mb,1,none⟩) ao.out _⟩
   case rest=>
    obtain⟨MA,eg,hm,ea,hb,ht⟩:=hcut;(rename World=>w5);have de:=hid hm;have bq:=hid ht;have bj:=hid hb;have bn:=hid (show zAA (λb=>b<w5.heap.size) w5 (.slice D t.dom.length m) (.slice MA (t.lines.length+1) eg) ⟨t.dom,t.lines++[t.lines[k]]⟩ from⟨(ag.out _ hb).d,ea⟩)
    have bk:=hid (show ∀x∈t.lines++[t.lines[k]],zG x.when_<=1000000 from λx hx=>by
     rcases List.mem_append.1 hx with hx|hx
     ·exact Nat.le_trans (HS.out x hx) (by decide)
     ·rw[List.mem_singleton.1 hx];exact Nat.le_trans (HS.out _ (List.getElem_mem hk)) (by decide))
    have df:=hid (zRm HV.out (by omega) (List.getElem_mem hk));clear hm ea hb ht HM aj a0 ak ac J al ao ad HC;generalize bf:(⟨t.dom,t.lines++[t.lines[k]]⟩:zY)=ar at*;have bm:=hid bf.symm;clear bf;have a6:=hid (zDn _ _ _ _ _ _ t ar _ (ag.out _ bj.out) bn.out (λ_ h=>h) (λ_ h=>h) (λx hx=>Nat.le_trans (HS.out x hx) (by decide)) (by rw[bm.out];exact bk.out) (ba.out _ bj.out));have a:=bq.out;have o0:=a.at0;have G:=a.frozen 0;have o1:=a.at1;have H:=a.frozen 1;have ol:=a.lt;clear a;have a:=de.out;have q0:=a.at0;have c9:=a.frozen 0;have q1:=a.at1;have da:=a.frozen 1;have ql:=a.lt;clear a;(go_wp2_with fail);refine a6.out.mono ?_;rintro e w6 ⟨v,rfl,hi,hb⟩;have ai:=hid (zD bj.out hb);have br:=hid (bq.out.below hb bq.out.lt);obtain⟨VA,ex,rfl,-⟩:=hi.is;obtain⟨hr,he⟩:=df.out;generalize zS t ar=R at*;obtain⟨r,e⟩:=R;dsimp only at hr he;subst hr;have HE:=hid he;clear hb hi he a6 bj bq de df bn bk bm o0 o1 G H ol q0 q1 c9 da ql;(go_upto_region 8 with fail);go_cut[56] from 48 to 56 (λv wx=>v= .bool false/\wx=w6)
    case first=>
     rcases HE.out with rfl|rfl
     ·(go_wp2_with fail);go_meet;exact⟨rfl,rfl⟩
     ·(go_wp2_with fail);go_meet;exact⟨rfl,rfl⟩
    case rest=>
     obtain⟨rfl,hw⟩:=hcut;subst hw;(rename World=>w6);by_cases cv:k+1<t.lines.length
     ·obtain⟨b',ew,ey,e',-,dn,b9,bd⟩:=(ag.out w (Below.refl _ _)).l.at_ (k:=k+1) cv;injection e' with e';injection e' with e1 e2;subst e1 e2;obtain⟨GA,af,cb,-⟩:=bd.form;have b1:=hid bd;have b0:=hid b9;clear b9 bd dn;obtain⟨g0,dw⟩:∃y,y=t.lines[k+1].when_.op :=⟨_,rfl⟩;obtain⟨g1,dx⟩:∃y,y=t.lines[k+1].when_.name :=⟨_,rfl⟩;obtain⟨g2,dy⟩:∃y,y=t.lines[k+1].when_.cmp :=⟨_,rfl⟩;obtain⟨g3,dz⟩:∃y,y=t.lines[k+1].when_.num :=⟨_,rfl⟩;obtain⟨gn,d7⟩:∃y,y=t.lines[k+1].when_.kids.length :=⟨_,rfl⟩;obtain⟨s7,c8⟩:∃y,y=t.lines[k+1].cls :=⟨_,rfl⟩;obtain⟨b8,cu⟩:∃y,y=t.lines[k+1].ctl :=⟨_,rfl⟩;rw[<-dw,<-dx,<-dy,<-dz,<-d7,<-c8,<-cu]at cb;subst cb;have dj:=hid (And.intro c8 cu);clear dw dx dy dz d7 c8 cu;have bl:=hid (λ(W:World)(hW:Below w.heap.size w W)(j:Nat)(u:Value)(hu:[.int .i64 g0,.string g1,.int .i64 g2,.int .i64 g3,.slice GA gn af,.string s7,.bool b8][j]? =some u)=>(show W.cell? ⟨b,f+(k+1)*7+j,none⟩=some u from(hW.cell (p:=⟨b,_,none⟩) dm).trans (b0.out j u hu)));clear b0;(have d8:((k:Int)+1)<(t.lines.length:Int):=by omega);have e1:decide (((t.lines.length:Nat):Int)<=(k:Int)+1)=false:=decide_eq_false (by omega);have p5:=a7.out w6 ai.out 5 _ rfl;have p6:=a7.out w6 ai.out 6 _ rfl;have q5:=bl.out w6 ai.out 5 _ rfl;have q6:=bl.out w6 ai.out 6 _ rfl;have pl:=lt_of_cell p5;have a:=br.out;have o0:=a.at0;have G:=a.frozen 0;have o1:=a.at1;have H:=a.frozen 1;have ol:=a.lt;clear a;by_cases ee:E=s7
      ·subst ee;(have es:(E.toList==E.toList)=true:=by simp);by_cases dl:B=b8
       ·subst dl;(have eb:(B==B)=true:=by simp);(go_upto_region 10 with fail);go_quiet(fail);(go_upto_region 12 with fail);have bs:=hid ((br.out.keep (Z:=λ_=>True) ((zA.refl _ _).drewN nq) trivial));have ci:=hid (((zA.of_below (Z:=λ_=>True) ai.out).drewN nq).below);clear br ai p5 p6 q5 q6 pl o0 o1 G H ol e1 es eb HE;generalize w6.drewN nq=w7 at*;have a:=bs.out;have o0:=a.at0;have G:=a.frozen 0;have o1:=a.at1;have H:=a.frozen 1;have ol:=a.lt;clear a;have HM:=hid (Blk.new w7 27 #[.slice D t.dom.length m,.slice (some ⟨b,f,none⟩) t.lines.length o]);have bt:=hid (bs.out.alloc (.cells #[.slice D t.dom.length m,.slice (some ⟨b,f,none⟩) t.lines.length o] 27));have cj:=hid (zD ci.out (zF w7 (.cells #[.slice D t.dom.length m,.slice (some ⟨b,f,none⟩) t.lines.length o] 27)));have al:=hid (show w.heap.size<=w7.heap.size from ci.out.size);have ao:=hid (show w.heap.size≠w7.heap.size from Nat.ne_of_lt bs.out.lt);(go_upto_region 13 with fail);clear bs ci o0 o1 G H ol;generalize w7.alloc (.cells #[.slice D t.dom.length m,.slice (some ⟨b,f,none⟩) t.lines.length o] 27)=w8 at*;generalize w7.heap.size=Y at*;obtain⟨aa,hE,aq⟩:=zGM (ag.out w (Below.refl _ _)).l;have J:=hid (hE.size);have ac:=hid (zDA hE);have ak:=hid hE;have ad:=hid (λ(W:World)(hW:Below w8.heap.size w8 W)=>Row.keep aq (zA.of_below (zD cj.out hW)));clear hE aq;have hE:(w8.alloc (.cells #[] 42)).ownsRow w8.heap.size 42 7 (.slice (some ⟨w8.heap.size,0,none⟩) 0 0) 0 []:=zHS (Blk.new w8 42 #[]) (Nat.le_refl _) (by decide) rfl;have av:=hid (And.intro hE (zF w8 (.cells #[] 42)));clear hE;have cr:=bt.out.alloc (.cells #[] 42);have o1:=cr.at1;have ol:=cr.lt;clear cr;(go_upto_region 14 with(at_builtin;refine zIP rfl (.tmp 97) (.tmp 99) _ rfl underlying25 Tryz.eLine rfl av.out.1 rfl J.out (ad.out _ av.out.2) ac.out (by unfold maxLen;omega) (by omega) av.out.2.size ?_;intro v9 w9 i hg X;have bu:Below w8.heap.size w8 w9:=ze av.out.2 av.out.1 hg av.out.2.size (Nat.le_refl _);have bv:w9.ownsRow w8.heap.size 42 7 v9 t.lines.length aa.flatten:=(by rw[Nat.zero_add,List.nil_append]at i;exact i);obtain⟨U,q,ax⟩:=zSX bv eo;subst ax;have hM:=HM.out.below bu HM.out.lt;have z1:=hM.at1;have zf:=hM.frozen 1;have zl:=hM.lt));have ez:=(bv.lt U rfl).1;have e6:=HM.out.lt;have b2:=hid (hM.set_ 1 (.slice (some ⟨U,0,none⟩) t.lines.length q));have b5:=hid ((bt.out.below bu bt.out.lt).far (p:=⟨Y,1,none⟩) ao.out (.slice (some ⟨U,0,none⟩) t.lines.length q));have bx:=hid ((zD cj.out bu).setCell (p:=⟨Y,1,none⟩) al.out (.slice (some ⟨U,0,none⟩) t.lines.length q));have dg:=hid (zX (Z:=λb=>b≠Y) bv ((zA.refl _ _).setCell (p:=⟨Y,1,none⟩) (λ_ h=>h rfl) (.slice (some ⟨U,0,none⟩) t.lines.length q)) (λk hk=>by have hk:some U=some k:=hk;injection hk with hk;omega));clear hg X i bu bv hM z1 zf zl o1 ol HM bt cj av ad ac J;generalize w9.setCell ⟨Y,1,none⟩ (.slice (some ⟨U,0,none⟩) t.lines.length q)=db at*
        have HC:=hid (λ(W:World)(hW:(λW:World=>Blk W Y 27 #[.slice D t.dom.length m,.slice (some ⟨U,0,none⟩) t.lines.length q]/\Blk W w.heap.size 27 #[.slice D t.dom.length m,.slice (some ⟨b,f,none⟩) t.lines.length o]/\Below w.heap.size w W) W)=>(show W.cell? ⟨Y,1,none⟩=some (.slice (some ⟨U,0,none⟩) t.lines.length q)/\Y<W.heap.size/\W.cell? ⟨w.heap.size,1,none⟩=some (.slice (some ⟨b,f,none⟩) t.lines.length o)/\w.heap.size<W.heap.size/\W.cell? ⟨b,f+k*7,none⟩=some (.int .i64 L)/\W.cell? ⟨b,f+k*7+1,none⟩=some (.string M)/\W.cell? ⟨b,f+k*7+2,none⟩=some (.int .i64 N)/\W.cell? ⟨b,f+k*7+3,none⟩=some (.int .i64 O)/\W.cell? ⟨b,f+k*7+4,none⟩=some (.slice I P c)/\W.cell? ⟨b,f+k*7+5,none⟩=some (.string E)/\W.cell? ⟨b,f+k*7+6,none⟩=some (.bool B)/\W.cell? ⟨b,f+(k+1)*7,none⟩=some (.int .i64 g0)/\W.cell? ⟨b,f+(k+1)*7+1,none⟩=some (.string g1)/\W.cell? ⟨b,f+(k+1)*7+2,none⟩=some (.int .i64 g2)/\W.cell? ⟨b,f+(k+1)*7+3,none⟩=some (.int .i64 g3)/\W.cell? ⟨b,f+(k+1)*7+4,none⟩=some (.slice GA gn af)/\W.cell? ⟨b,f+(k+1)*7+5,none⟩=some (.string E)/\W.cell? ⟨b,f+(k+1)*7+6,none⟩=some (.bool B)/\b<W.heap.size from by
         have hc:=a7.out W hW.2.2;have hd:=bl.out W hW.2.2
         exact⟨hW.1.at1,hW.1.lt,hW.2.1.at1,hW.2.1.lt,hc 0 _ rfl,hc 1 _ rfl,hc 2 _ rfl,hc 3 _ rfl,hc 4 _ rfl,hc 5 _ rfl,hc 6 _ rfl,hd 0 _ rfl,hd 1 _ rfl,hd 2 _ rfl,hd 3 _ rfl,hd 4 _ rfl,hd 5 _ rfl,hd 6 _ rfl,lt_of_cell (hc 0 _ rfl)⟩))
        refine zL 21 (λW:World=>Blk W Y 27 #[.slice D t.dom.length m,.slice (some ⟨U,0,none⟩) t.lines.length q]/\Blk W w.heap.size 27 #[.slice D t.dom.length m,.slice (some ⟨b,f,none⟩) t.lines.length o]/\Below w.heap.size w W) (by kernel_rfl) ?_;have C:(λW:World=>Blk W Y 27 #[.slice D t.dom.length m,.slice (some ⟨U,0,none⟩) t.lines.length q]/\Blk W w.heap.size 27 #[.slice D t.dom.length m,.slice (some ⟨b,f,none⟩) t.lines.length o]/\Below w.heap.size w W) db.drew:=⟨b2.out.keep (Z:=λ_=>True) (zA.refl _ _).drew trivial,b5.out.keep (Z:=λ_=>True) (zA.refl _ _).drew trivial,bx.out.drew⟩;have dh:=hid (show db.drew.ownsRow w8.heap.size 42 7 (.slice (some ⟨U,0,none⟩) t.lines.length q) t.lines.length aa.flatten from dg.out);(have e3:((k+1:Nat):Int)<(t.lines.length:Int):=by omega);generalize db.drew=x0 at*
        (refine tkZ 0 ?_ C ?_ ?_;rotate_left;intro w;go_simp;(try with_reducible rfl);simp only[nr])
        try simp only[List.getElem_toArray,List.getElem_cons_zero,List.getElem_cons_succ,nr]
        (refine tkS 1 ?_ C ?_ ?_;rotate_left;intro w n;obtain⟨x1,xl,t1,tl,c0,c1,c2,c3,c4,c5,c6,d0,d1,d2,d3,d4,d5,d6,cl⟩:=HC.out _ n;clear n;go_simp;(try with_reducible rfl);simp only[nr])
        try simp only[List.getElem_toArray,List.getElem_cons_zero,List.getElem_cons_succ,nr]
        (refine tkZ 2 ?_ C ?_ ?_;rotate_left;intro w;go_simp;(try with_reducible rfl);simp only[nr])
        try simp only[List.getElem_toArray,List.getElem_cons_zero,List.getElem_cons_succ,nr]
        (refine tkZ 3 ?_ C ?_ ?_;rotate_left;intro w;go_simp;(try with_reducible rfl);simp only[nr])
        try simp only[List.getElem_toArray,List.getElem_cons_zero,List.getElem_cons_succ,nr]
        (refine tkS 4 ?_ C ?_ ?_;rotate_left;intro w n;obtain⟨x1,xl,t1,tl,c0,c1,c2,c3,c4,c5,c6,d0,d1,d2,d3,d4,d5,d6,cl⟩:=HC.out _ n;clear n;go_simp;(try with_reducible rfl);simp only[nr])
        try simp only[List.getElem_toArray,List.getElem_cons_zero,List.getElem_cons_succ,nr]
        (refine tkZ 5 ?_ C ?_ ?_;rotate_left;intro w;go_simp;(try with_reducible rfl);simp only[nr])
        (try simp only[List.getElem_toArray,List.getElem_cons_zero,List.getElem_cons_succ,nr]);refine tkZ 6 (.int .i64 ((k+1:Nat):Int)) C (λW=> ?_) ?_
        ·go_simp;rw[IntKind.wrap_i64];omega
        (try simp only[nr])
        (refine tkZ 7 ?_ C ?_ ?_;rotate_left;intro w;go_simp;(try with_reducible rfl);simp only[nr])
        try simp only[List.getElem_toArray,List.getElem_cons_zero,List.getElem_cons_succ,nr]
        (refine tkS 8 ?_ C ?_ ?_;rotate_left;intro w n;obtain⟨x1,xl,t1,tl,c0,c1,c2,c3,c4,c5,c6,d0,d1,d2,d3,d4,d5,d6,cl⟩:=HC.out _ n;clear n;go_simp;(try with_reducible rfl);simp only[nr])
        try simp only[List.getElem_toArray,List.getElem_cons_zero,List.getElem_cons_succ,nr]
        (refine tkZ 9 ?_ C ?_ ?_;rotate_left;intro w;go_simp;(try with_reducible rfl);simp only[nr])
        (try simp only[List.getElem_toArray,List.getElem_cons_zero,List.getElem_cons_succ,nr]);refine tkZ 10 (.int .i64 ((k+1:Nat):Int)) C (λW=> ?_) ?_
        ·go_simp;rw[IntKind.wrap_i64];omega
        (try simp only[nr])
        refine tkZ 11 (.pointer (some ⟨b,f+(k+1)*7,none⟩)) C (λW=> ?_) ?_
        ·go_simp;intro h;omega
        (try simp only[nr])
        (refine tkS 12 ?_ C ?_ ?_;rotate_left;intro w n;obtain⟨x1,xl,t1,tl,c0,c1,c2,c3,c4,c5,c6,d0,d1,d2,d3,d4,d5,d6,cl⟩:=HC.out _ n;clear n;go_simp;(try with_reducible rfl);simp only[nr])
        try simp only[List.getElem_toArray,List.getElem_cons_zero,List.getElem_cons_succ,nr]
        (refine tkZ 13 ?_ C ?_ ?_;rotate_left;intro w;go_simp;(try with_reducible rfl);simp only[nr])
        try simp only[List.getElem_toArray,List.getElem_cons_zero,List.getElem_cons_succ,nr]
        (refine tkS 14 ?_ C ?_ ?_;rotate_left;intro w n;obtain⟨x1,xl,t1,tl,c0,c1,c2,c3,c4,c5,c6,d0,d1,d2,d3,d4,d5,d6,cl⟩:=HC.out _ n;clear n;go_simp;(try with_reducible rfl);simp only[nr])
        try simp only[List.getElem_toArray,List.getElem_cons_zero,List.getElem_cons_succ,nr]
        (refine tkZ 15 ?_ C ?_ ?_;rotate_left;intro w;go_simp;(try with_reducible rfl);simp only[nr])
        try simp only[List.getElem_toArray,List.getElem_cons_zero,List.getElem_cons_succ,nr]
        (refine tkZ 16 ?_ C ?_ ?_;rotate_left;intro w;go_simp;(try with_reducible rfl);simp only[nr])
        try simp only[List.getElem_toArray,List.getElem_cons_zero,List.getElem_cons_succ,nr]
        (refine tkS 17 ?_ C ?_ ?_;rotate_left;intro w n;obtain⟨x1,xl,t1,tl,c0,c1,c2,c3,c4,c5,c6,d0,d1,d2,d3,d4,d5,d6,cl⟩:=HC.out _ n;clear n;go_simp;(try with_reducible rfl);simp only[nr])
        try simp only[List.getElem_toArray,List.getElem_cons_zero,List.getElem_cons_succ,nr]
        (refine tkZ 18 ?_ C ?_ ?_;rotate_left;intro w;go_simp;(try with_reducible rfl);simp only[nr])
        (try simp only[List.getElem_toArray,List.getElem_cons_zero,List.getElem_cons_succ,nr]);clear HC;have en:=al.out;have ep:=ao.out;obtain⟨bg,ed,-,cx,aw,cy⟩:=zOY (cs:=[.int .i64 g0,.string g1,.int .i64 g2,.int .i64 g3,.slice GA gn af,.string E,.bool B]) dh.out ak.out rfl hk rfl;refine wS1 19 (λK s=> ?_);refine wp_store_mid 42 (.tmp 120) (.tmp 114) rfl U (k*7) #[.int .i64 g0,.string g1,.int .i64 g2,.int .i64 g3,.slice GA gn af,.string E,.bool B] rfl rfl bg (by kernel_rfl) (by simp[Value.oneCell']) ?_;have a5:(λW:World=>Blk W Y 27 #[.slice D t.dom.length m,.slice (some ⟨U,0,none⟩) t.lines.length q]/\Blk W w.heap.size 27 #[.slice D t.dom.length m,.slice (some ⟨b,f,none⟩) t.lines.length o]/\Below w.heap.size w W) (x0.setCells U (k*7) [.int .i64 g0,.string g1,.int .i64 g2,.int .i64 g3,.slice GA gn af,.string E,.bool B]):=⟨C.1.keep aw (by show Y≠U;omega),C.2.1.keep aw (by show w.heap.size≠U;omega),below_setCells C.2.2 (by omega) _ _⟩;refine s _ _ (Or.inr a5) ?_;clear s K C
        (try simp only[nr])
        generalize x0.setCells U (k*7) [.int .i64 g0,.string g1,.int .i64 g2,.int .i64 g3,.slice GA gn af,.string E,.bool B]=y1 at*;clear bg cx aw cy dh;refine tkZ 20 (.pointer (some ⟨U,(k+1)*7,none⟩)) a5 (λW=> ?_) ?_
        ·go_simp;intro h;omega
        (try simp only[nr])
        have ck:=hid (zc.set (cs:=[.int .i64 g0,.string g1,.int .i64 g2,.int .i64 g3,.slice GA gn af,.string E,.bool B]) rfl b1.out ak.out k);obtain⟨bg,cw,-,cx,aw,cy⟩:=zOY (cs:=[.int .i64 L,.string M,.int .i64 N,.int .i64 O,.slice I P c,.string E,.bool B]) ed ck.out (by rw[List.length_set]) cv rfl;refine wS1 21 (λK s=> ?_);refine wp_store_mid 42 (.tmp 121) (.tmp 119) rfl U ((k+1)*7) #[.int .i64 L,.string M,.int .i64 N,.int .i64 O,.slice I P c,.string E,.bool B] rfl rfl bg (by kernel_rfl) (by simp[Value.oneCell']) ?_;have b3:=hid (a5.1.keep aw (by show Y≠U;omega));have b7:=hid (a5.2.1.keep aw (by show w.heap.size≠U;omega));have ab:=hid (below_setCells a5.2.2 (g:=U) (by omega) ((k+1)*7) [.int .i64 L,.string M,.int .i64 N,.int .i64 O,.slice I P c,.string E,.bool B]);refine s _ _ (Or.inl rfl) ?_;clear s K a5 ed
        (try simp only[nr])
        refine wSd ?_ _;generalize y1.setCells U ((k+1)*7) [.int .i64 L,.string M,.int .i64 N,.int .i64 O,.slice I P c,.string E,.bool B]=y2 at*;have cm:=hid (zc.set (cs:=[.int .i64 L,.string M,.int .i64 N,.int .i64 O,.slice I P c,.string E,.bool B]) rfl a8.out.1.1 ck.out (k+1));obtain⟨bh,az⟩:=zUp cv;rw[az]at cm;have bn:=hid (show zAA (λb=>b<y2.heap.size) y2 (.slice D t.dom.length m) (.slice (some ⟨U,0,none⟩) t.lines.length q) ⟨t.dom,t.lines.take k++t.lines[k+1]::t.lines[k]::t.lines.drop (k+2)⟩ from⟨(ag.out _ ab.out).d,zNs (by rw[<-az,List.length_set,List.length_set];exact cw) (cm.out.imp λcs p h=>(h.keep (zA.of_below ab.out)).mono λb h=>Nat.lt_of_lt_of_le h ab.out.size) (by rw[<-az,List.length_set,List.length_set];omega) (λb hb=>(cw.lt b hb).2)⟩)
        have eh:=hid (zRn HV.out bh (show zAo t.lines[k]=zAo t.lines[k+1] from by
         obtain⟨a1,a2⟩:=di.out;obtain⟨a3,a4⟩:=dj.out;unfold zAo
         rw[<-a1,<-a2,<-a3,<-a4]))
        have bk:=hid (show ∀x∈t.lines.take k++t.lines[k+1]::t.lines[k]::t.lines.drop (k+2),zG x.when_<=1000000 from λx hx=>by
         refine Nat.le_trans (HS.out x ?_) (by decide);rw[bh];simp only[List.mem_append,List.mem_cons]at hx⊢;rcases hx with h|h|h|h
         ·exact .inl h
         ·exact .inr (.inr (.inl h))
         ·exact .inr (.inl h)
         ·exact .inr (.inr (.inr h)))
        clear bg cw cx aw cy cm ck ak dg b2 b5 bx bh az a8 b1 di dj a7 bl en ep al ao;generalize bf:(⟨t.dom,t.lines.take k++t.lines[k+1]::t.lines[k]::t.lines.drop (k+2)⟩:zY)=ar at*;have bm:=hid bf.symm;clear bf;have a6:=hid (zDn _ _ _ _ _ _ t ar _ (ag.out _ ab.out) bn.out (λ_ h=>h) (λ_ h=>h) (λx hx=>Nat.le_trans (HS.out x hx) (by decide)) (by rw[bm.out];exact bk.out) (ba.out _ ab.out));have a:=b7.out;have o0:=a.at0;have G:=a.frozen 0;have o1:=a.at1;have H:=a.frozen 1;have ol:=a.lt;clear a;have a:=b3.out;have q0:=a.at0;have c9:=a.frozen 0;have q1:=a.at1;have da:=a.frozen 1;have ql:=a.lt;clear a;(go_wp2_with fail);refine a6.out.mono ?_;rintro e e7 ⟨v,rfl,-,hb⟩;have bz:=hid (zD ab.out hb);obtain⟨hr,he⟩:=eh.out;generalize zS t ar=R at*;obtain⟨r,e⟩:=R;dsimp only at hr he;subst hr;clear hb a6 ab b7 b3 o0 o1 G H ol q0 q1 c9 da ql;rcases he with rfl|rfl
        ·(go_wp2_with fail);go_ret;exact⟨rfl,bz.out⟩
        ·(go_wp2_with fail);go_ret;exact⟨rfl,bz.out⟩
       ·(have eb:(B==b8)=false:=by simp[dl]);(go_upto_region 10 with fail);go_quiet(fail);(go_wp2_with fail);go_ret;exact⟨rfl,((zA.of_below (Z:=λ_=>True) ai.out).drewN _).below⟩
      ·(have es:(E.toList==s7.toList)=false:=by rw[zAh];exact decide_eq_false ee);(go_upto_region 10 with fail);go_quiet(fail);(go_wp2_with fail);go_ret;exact⟨rfl,((zA.of_below (Z:=λ_=>True) ai.out).drewN _).below⟩
     ·(have d8:((t.lines.length:Nat):Int)<=(k:Int)+1:=by omega);have e1:decide (((t.lines.length:Nat):Int)<=(k:Int)+1)=true:=decide_eq_true d8;have a:=br.out;have o0:=a.at0;have G:=a.frozen 0;have o1:=a.at1;have H:=a.frozen 1;have ol:=a.lt;clear a;(go_upto_region 10 with fail);go_quiet(fail);(go_wp2_with fail);go_ret;exact⟨rfl,((zA.of_below (Z:=λ_=>True) ai.out).drewN _).below⟩
end
section
open Go.ChangeShapes Go.WideShapes Go.ChangeAt
theorem zH0(os:Os)(c:os.Started)(H:Type)(enc:TypeId × Value->H):
  ReturnsInHanded {} Tryz.checked os 7 .any (λw args=>(Rows.tariffNeighboursSpec.pre enc prog Tryz.f7 [] false w args/\laidMetH prog zCV w)/\sizedMet enc prog Tryz.f7 (OpenSpec.ofChange Rows.tariffNeighboursSpec) false w args)
   (Rows.tariffNeighboursSpec.post enc prog Tryz.f7 false true false false):=by
 refine returnsInHanded_of_change_and (C:=Tryz.checked) (X:=λw _=>laidMetH prog zCV w) (λ_ _ _ J h=>h.of_heap J) own c (by kernel_rfl) func7
  (ChangeSpec.witness_shaped (enc:=enc) (C:=Tryz.checked) (os:=os) (X:=λw _=>laidMetH prog zCV w) false (World.doorLaid prog 62 os) #[.agg #[.slice none 0 0,.slice none 0 0],.int .u8 0] 8 rfl (World.shaped_of_RefB (by kernel_rfl) (by kernel_rfl)) (by kernel_rfl) (by kernel_rfl) (by kernel_rfl) (zFd os _)) ?_
 intro W i args u D n b x _ d G _;have a:∀(j:Nat) t v,Tryz.f7.params[j]? =some t->args[j]? =some v->Value.okWide prog W .any i t v:=b;have m:=x;obtain⟨p,q,k,I,rfl,-,-⟩:=x;have o:DataW.TrodAll enc prog W 0 (λ_=>true) true Tryz.f7.params.toList args.toList u p:=k;have g:(DataW.weightsEach prog (Tryz.f7.params.toList++Rows.tariffNeighboursSpec.plain.varTypes prog) (u++D)).all (· <=reachBytes)=true:=d;clear k d b;obtain⟨rfl,rfl⟩:=trodVars_none I;simp only[List.append_nil]at m;have s:=o;rw[params7]at o a g;obtain⟨O,Q,T,A,V,Z,f,rfl,rfl,E,L⟩:=trodAll_cons o;obtain⟨P,R,U,B,Y,q1,rfl,rfl,rfl,F,M⟩:=trodAll_cons L;obtain⟨rfl,rfl,rfl⟩:=trodAll_nil M;obtain rfl:args=#[O,P]:=by simpa using congrArg List.toArray f
 obtain⟨x0,y0,N,rfl,y⟩:=zFn (a 0 27 _ rfl rfl) E (zDe g (j:=0) rfl rfl);obtain⟨K,rfl,z⟩:=zV8 (a 1 5 _ rfl rfl) F (zDe g (j:=1) rfl rfl);refine(zKc (zCt W) _ _ N K z W y (λ_ h=>h) (zDi G)).mono λe W' ⟨he,hb⟩=> ?_
 subst he;exact⟨_,rfl,zFe m s rfl rfl (by kernel_rfl) (by kernel_rfl) hb⟩
theorem zHr:(Rows.tariffNeighboursRow.inPlace==prog.inPlace 7)=true:=by kernel_rfl
theorem zH1:(Rows.tariffNeighboursRow.unfollowed==prog.unfollowed 7)=true:=by kernel_rfl
theorem zH2:(Rows.tariffNeighboursRow.recurses==prog.recurses 7)=true:=by kernel_rfl
theorem zHs:(Rows.tariffNeighboursRow.named==prog.varsNamed 7)=true:=by kernel_rfl
theorem zHt:joinedFacts prog 7 Tryz.f7 Rows.tariffNeighboursSpec Rows.tariffNeighboursRow=true:=
 zDS (by kernel_rfl) laidOut zGm (by kernel_rfl) (by kernel_rfl) rfl zGn rfl zGo zHr zH1 zH2 zHs (by kernel_rfl) (by kernel_rfl) (by kernel_rfl) (by kernel_rfl) (by kernel_rfl) rfl (by kernel_rfl) (by kernel_rfl) (by kernel_rfl)
  zIL rfl zGp zGq zGr zIM rfl (by kernel_rfl) (by kernel_rfl) (by kernel_rfl)
theorem zHu:Rows.TariffNeighboursSaid:=
 OpenClaim.holds_of_wide 7 Tryz.f7 rfl rfl rfl rfl rfl rfl rfl ⟨rfl,rfl,rfl,rfl,rfl⟩ rfl rfl rfl rfl rfl (by kernel_rfl) func7 zHt
  (of_decide_eq_true (by kernel_rfl)) (by unfold Func.isWrapper;rw[if_neg (of_decide_eq_false (by kernel_rfl))];exact⟨rfl,rfl⟩)
  (λc a H b _=>zH0 c a H b)
theorem tariffneighbours_card:Rows.TariffNeighboursCardSaid:=
 Claim7.holds_tied_plain_at .later [] [.data,.data,.data,.sentinel,.sentinel] true (true,"9d5f64aa18c290daaccff0ab2ce20b26d467f80ee7c9efc2112ab5ceb4813111") true
  zHu (λ_ h=>by cases h) (by kernel_rfl) (λ_ h=>by cases h) tariffNeighbours_row_tie rfl ⟨rfl,rfl⟩ (by kernel_rfl) rfl
  (λf fn hf hfn=>by
   obtain rfl:f=7:=Option.some.inj ((show prog.funcNamed "customhouse/customhouselaw27.TariffNeighbours" =some 7 by kernel_rfl).symm.trans hf) |>.symm;obtain rfl:fn=Tryz.f7:=(Option.some.inj (func7.symm.trans hfn)).symm
   exact⟨by kernel_rfl,λj t ht=>by
    rw[params7]at ht;(have hm:t∈[27,5]:=by simpa using Array.mem_of_getElem? ht);have hall:([27,5].all λu=> !prog.wantsStandIn u)=true:=by kernel_rfl
    exact(show prog.wantsStandIn t=false by simpa using List.all_eq_true.1 hall t hm)⟩)
  (by kernel_rfl)
end
end Go.Proofs.YthpocbeoanipbaaGreatDoor
