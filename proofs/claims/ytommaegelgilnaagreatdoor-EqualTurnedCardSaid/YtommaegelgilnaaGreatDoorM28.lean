/- Lemmas. -/
import Derived.Test.YtommaegelgilnaaGreatDoorM25
set_option linter.all false
namespace Go.Proofs.YtommaegelgilnaaGreatDoor
open Go.RowKit Go.Proofs.Tryz
set_option maxHeartbeats 2000000
set_option maxRecDepth 100000
theorem zNs(nm:ByteArray)(x:Int)(ds:List zE)(m:Nat)(ih:zPS nm x ds m)(f:Fm)(hm:zH f<=m+1)(hM:zH f<=1000000)(Z:zD)(A:Option Addr)(cap:Nat)(w:World)(hf:FmR Z w f [.int .i64 f.op,.string f.name,.int .i64 f.cmp,.int .i64 f.num,.slice A f.kids.length cap])(a4:zA0 (zAB ds) f=0)(h5:f.op=5):
  Calls prog 178 #[.agg [.int .i64 f.op,.string f.name,.int .i64 f.cmp,.int .i64 f.num,.slice A f.kids.length cap].toArray,.string nm,.int .i64 x] w (zEB Z (zZ nm x f) w):=by
 have IH:=hid ih;clear ih;obtain⟨h0,a1⟩:=zDD a4;obtain⟨X,bk⟩:=zHw hf;have a0:f.kids.length<=1000000:=by have:=zCA f.kids;have:=zCQ f;omega
 have ai:(zAT nm x f.kids).length =f.kids.length:=by rw[zFA];simp
 have ah:∀k(hk:k<f.kids.length)(bj:k<(zAT nm x f.kids).length),(zAT nm x f.kids)[k]=zZ nm x f.kids[k]:=λk hk bj=>by simp[zFA]
 have ag:zZ nm x f=zC8 5 (zAT nm x f.kids):=by rw[zIq,if_neg (by omega),if_neg (by omega),if_pos (by omega),h5]
 have HG:=hid ag;have bc:=hid a1;have bb:=hid ah;have HS:=hid X;have av:=hid (λ(k:Nat)(hk:k<f.kids.length)=>zFr hk);have P:=hid ai;clear a1 X h0 hf ag ah ai a4;generalize zAT nm x f.kids=D at*;go_enter func178,ntmps178
 go_wp2;go_loopw[10,12,63] (λv _ i wr=>∃k:Nat,k<=f.kids.length/\i= .int .i64 k/\(∀j(F:j<D.length),j<k->D[j].op ≠zEN 5)/\zBj (λb=>(Z b/\b<w.heap.size)\/w.heap.size+2<=b) (w.heap.size+2) wr v (zB8 5 (D.take k))/\(Blk wr (w.heap.size+1) 52 #[.int .i64 0,.string ⟨#[]⟩,.int .i64 0,.int .i64 0,.slice none 0 0]/\Blk wr w.heap.size 52 #[.int .i64 5,.string f.name,.int .i64 f.cmp,.int .i64 f.num,.slice A f.kids.length cap])/\Bw w wr/\w.heap.size+2<=wr.heap.size) (λ_ _ i _=>f.kids.length-(intOf i).toNat)
 case atStart=>
  refine⟨0,Nat.zero_le _,rfl,λj _ h=>absurd h (Nat.not_lt_zero _),zBj.nil _ _ _,?_,zCX w _ _,by simp⟩;have:=Blk.new (w.alloc (.cells #[.int .i64 f.op,.string f.name,.int .i64 f.cmp,.int .i64 f.num,.slice A f.kids.length cap] 52)) 52 #[.int .i64 0,.string ⟨#[]⟩,.int .i64 0,.int .i64 0,.slice none 0 0];simp only[World.size_alloc]at this;have al:=(Blk.new w 52 #[.int .i64 f.op,.string f.name,.int .i64 f.cmp,.int .i64 f.num,.slice A f.kids.length cap]).alloc (.cells #[.int .i64 0,.string ⟨#[]⟩,.int .i64 0,.int .i64 0,.slice none 0 0] 52);rw[h5]at this al;exact⟨this,al⟩
 case round=>
  obtain⟨k,hk,rfl,ab,q,C,B,bz⟩:=hrel;obtain⟨oA,ak,rfl,-,-,-⟩:=zBj.done q;by_cases aa:k<f.kids.length
  ·obtain⟨b,a8,cs,rfl,hz,T,E⟩:=HS.at_ aa;have a3:=FmR.live _ _ E;obtain⟨A',o,rfl⟩:=FmR.form E;obtain⟨c0,c1,c2,c3,c4⟩:=zAL (λj u hu=>(zA.of_below (Z:=Z) B).cell (p:=⟨b,a8+k*5+j,none⟩) hz (T j u hu));have HC:=hid (λW(h:Bw w W)=>IH f.kids[k] (by have:=av k aa;omega) (by have:=av k aa;omega) (λb=>Z b/\b<w.heap.size) _ W (FmR.keep (.of_below h) _ _ a3) (zCZ bc k aa));(have ad:k<D.length:=by have:=P.out;omega);rw[<-bb k aa ad]at HC;have HO:=hid (And.intro q (And.intro C B));have ao:=hid ab;have R:=hid (@zKl 5 D k ad);have Q:=hid (@zKm 5 D k ad);have O:=hid (@zKk 5 D k ad ab);have bd:=hid (@zGx 5 D k);clear T E a3 q C B ab;generalize f.kids[k]=g at*;generalize ay:D[k]=c at*;have au:=hid ay;clear ay;(go_wp2_with fail);refine(HC _ (HO.2.2.alloc HO.2.2.size _)).mono ?_;rintro e w1 ⟨bu,rfl,aq,z⟩;obtain⟨A1,H,rfl⟩:=FmR.form aq;(have bs:wr.heap.size<w1.heap.size:=by have:=z.size;simp at this;omega);have hT:=hid ((Blk.new wr 52 #[.int .i64 g.op,.string g.name,.int .i64 g.cmp,.int .i64 g.num,.slice A' g.kids.length o]).below z (by simp));have hQ:=hid ((HO.2.1.2.alloc (.cells #[.int .i64 g.op,.string g.name,.int .i64 g.cmp,.int .i64 g.num,.slice A' g.kids.length o] 52)).below z (by simp;omega));have hR:=hid ((HO.2.1.1.alloc (.cells #[.int .i64 g.op,.string g.name,.int .i64 g.cmp,.int .i64 g.num,.slice A' g.kids.length o] 52)).below z (by simp;omega));have hB:=hid (zA2 (HO.2.2.alloc HO.2.2.size _) z);have bw:=hid (HO.1.below (zA2 (zG wr _) z));have I:=hid (zA2 (zG wr _) z);have ap:=hid (FmR.live _ _ aq);(have aw:(wr.alloc (.cells #[.int .i64 g.op,.string g.name,.int .i64 g.cmp,.int .i64 g.num,.slice A' g.kids.length o] 52)).heap.size =wr.heap.size+1:=by simp);rw[aw]at ap;clear aq z aw;dsimp only;(have eZ:zEN 5=2:=by decide);(have eU:zDO 5=1:=by decide);rw[eZ]at O ao;rw[eU]at R Q;by_cases s:c.op=2
   ·(have a7:(c.op==(2:Int))=true:=by simp[s]);(have bo:(c.op==(1:Int))=false:=by simp[s]);have HJ:=hid (O s);clear O R Q;(have bt:w.heap.size+1<wr.heap.size:=by omega);go_wp2_with(first|(refine zN rfl 52 _ _ rfl rfl rfl hT rfl Tryz.szF (by simp[Value.oneCell']) ?_;intro w2 d a G;obtain⟨⟨r0,r1,r2,r3,r4⟩,-⟩:=zDU d;have bf:=hR.keep a (by show w.heap.size+1≠wr.heap.size;omega))|(refine zN rfl 52 _ _ rfl rfl rfl bf rfl Tryz.szF (by simp[Value.oneCell']) ?_;intro w3 bg az bx;obtain⟨⟨s0,s1,s2,s3,s4⟩,-⟩:=zDU bg));refine bodyPost_ret (v:= .agg #[.int .i64 c.op,.string c.name,.int .i64 c.cmp,.int .i64 c.num,.slice A1 c.kids.length H]) (by simp[results,results178,go_sem,s0,s1,s2,s3,s4];try exact s.symm) rfl ⟨_,rfl,?_,zAm (zAm hB a (by omega) hB.size) az (by omega) (by rw[G];exact hB.size)⟩;rw[HG.out,HJ.out];refine FmR.mono (λb y=> ?_) _ _ (FmR.keep ((a.mono (λb _ y=> ?_)).trans (az.mono (λb _ y=> ?_))) _ _ ap)
    ·rcases y.1 with h|h
     ·exact Or.inl h.1
     exact Or.inr (by omega)
    ·rcases y.1 with h|h<;>omega
    rcases y.1 with h|h<;>omega
   (have a7:(c.op==(2:Int))=false:=by simp[s]);by_cases L:c.op=1
   ·(have bn:(c.op==(1:Int))=true:=by simp[L]);have HT:=hid (R L);clear O R Q L;have HZ:=hid s;clear s;go_wp2_with(refine zN rfl 52 _ _ rfl rfl rfl hT rfl Tryz.szF (by simp[Value.oneCell']) ?_;intro w2 d a G;obtain⟨⟨r0,r1,r2,r3,r4⟩,-⟩:=zDU d);refine⟨⟨_,_,_,⟨k+1,by omega,rfl,?_,?_,?_,?_,by omega⟩,rfl,rfl,by simp⟩,by simp[intOf];omega⟩
    ·intro j F bi;rcases Nat.lt_or_ge j k with h|h
     ·exact ao j F h
     (obtain rfl:j=k:=by omega);rw[au.out];exact HZ.out
    ·rw[HT.out];exact HO.1.below (zAm I a (Nat.le_refl _) I.size)
    ·exact⟨hR.keep a (by show w.heap.size+1≠wr.heap.size;omega),hQ.keep a (by show w.heap.size≠wr.heap.size;omega)⟩
    exact zAm hB a (by omega) hB.size
   (have bn:(c.op==(1:Int))=false:=by simp[L]);have HT:=hid (Q L);clear O R Q L;have HZ:=hid s;clear s;have ae:=bd.out;have bm:=P.out;go_wp2_with(first|(refine zN rfl 52 _ _ rfl rfl rfl hT rfl Tryz.szF (by simp[Value.oneCell']) ?_;intro w2 d a G;obtain⟨⟨r0,r1,r2,r3,r4⟩,-⟩:=zDU d;obtain⟨bv,J,a6⟩:=HO.1.below (zAm I a (Nat.le_refl _) I.size))|(at_builtin;refine zh rfl (.tmp 73) (.tmp 75) _ rfl underlying50 Tryz.eFm rfl (J.alloc _) rfl (news:=[.int .i64 c.op,.string c.name,.int .i64 c.cmp,.int .i64 c.num,.slice A1 c.kids.length H]) rfl (zIn (W:=w2.alloc (.cells #[.int .i64 c.op,.string c.name,.int .i64 c.cmp,.int .i64 c.num,.slice A1 c.kids.length H] 52)) (g:=w1.heap.size) (t:=52) (by have:=Blk.new w2 52 #[.int .i64 c.op,.string c.name,.int .i64 c.cmp,.int .i64 c.num,.slice A1 c.kids.length H];rwa[G]at this)) (by simp[Value.oneCell']) (by unfold maxLen;omega) (by omega) (by simp;omega) ?_;intro v1 w5 ar U ax));refine⟨⟨_,_,_,⟨k+1,by omega,rfl,?_,?_,?_,?_,?_⟩,rfl,rfl,by simp⟩,by simp[intOf];omega⟩
   ·intro j F bi;rcases Nat.lt_or_ge j k with h|h
    ·exact ao j (by omega) h
    (obtain rfl:j=k:=by omega);rw[au.out];exact HZ.out
   ·rw[HT.out];refine zBj.grow (FmL.mono (λb y=>⟨y.1,Nat.lt_of_lt_of_le y.2.1 (by simp),y.2.2⟩) (FmL.keep (.alloc (.refl _ _) _) a6)) ?_ ar U ax;refine FmR.mono (λb y=> ?_) _ _ (FmR.keep ((a.mono (λb _ y=> ?_)).trans (.alloc (.refl _ _) _)) _ _ ap)
    ·refine⟨?_,by simp;omega,λe=> ?_⟩
     ·rcases y.1 with h|h
      ·exact Or.inl h
      exact Or.inr (by omega)
     obtain⟨br,a5,-⟩:=HO.1;have:=a5.lt b e;rcases y.1 with h|h<;>omega
    rcases y.1 with h|h<;>omega
   ·refine⟨(((hR.keep a (by show w.heap.size+1≠wr.heap.size;omega)).alloc _).of_block (U.block _ (by simp;omega) λe=> ?_)),(((hQ.keep a (by show w.heap.size≠wr.heap.size;omega)).alloc _).of_block (U.block _ (by simp;omega) λe=> ?_))⟩
    ·have:=J.lt _ e.symm;omega
    have:=J.lt _ e.symm;omega
   ·exact zAs ((zAm hB a (by omega) hB.size).alloc (by have:=hB.size;omega) _) (J.alloc _) U (by simp;have:=hB.size;omega) (by omega)
   have:=U.size;simp at this;omega
  obtain rfl:k=f.kids.length:=by omega
  have ac:D.take f.kids.length=D:=by rw[<-P.out];exact List.take_length
  rw[ac]at q;have F:= @zMQ 5 D (λj F=>ab j F (by have:=P.out;omega));rw[<-HG.out]at F;obtain⟨b0,bp,bh,af,aj,K⟩:=zBj.done q;injection bh with q1 q2 q3;subst q1 q3;have ae:=zGx (op:=5) (ks:=D) f.kids.length;rw[ac]at ae;have bm:=P.out;have n:=hid B;have M:=hid C.1;obtain⟨⟨p0,p1,p2,p3,p4⟩,-⟩:=zDU C.2;have N:=hid (And.intro af aj);rw[show zB8 5 (List.take f.kids.length D)=zB8 5 D from by rw[ac]];have bk:=a0;clear q ac ab B C af aj q2 a0 hk
  have hZ:∀w2:World,zA (λb=>b≠w.heap.size+1) wr w2->zA (λb=>((Z b/\b<w.heap.size)\/w.heap.size+2<=b)\/w.heap.size+2<=b) wr w2:=λw2 h=>h.mono λb _ y=>by
   rcases y with(h|h)|h
   ·have:=h.2;omega
   ·omega
   omega
  have h2:∀b,(((Z b/\b<w.heap.size)\/w.heap.size+2<=b)\/w.heap.size+2<=b)->(Z b\/w.heap.size<=b):=λb y=>by
   rcases y with(h|h)|h
   ·exact Or.inl h.1
   ·exact Or.inr (by omega)
   exact Or.inr (by omega)
  have HZ:=hid hZ;have H2:=hid h2;clear hZ h2
  cases V:zB8 5 D with
  |nil=>
   rw[V]at F;have HJ:=hid F;clear V F K;go_wp2_with(refine zN rfl 52 _ _ rfl rfl rfl M rfl Tryz.szF (by simp[Value.oneCell']) ?_;intro w2 d a G;obtain⟨⟨r0,r1,r2,r3,r4⟩,-⟩:=zDU d);refine bodyPost_ret (v:= .agg #[.int .i64 1,.string ⟨#[]⟩,.int .i64 0,.int .i64 0,.slice none 0 0]) (by simp[results,results178,go_sem,r0,r1,r2,r3,r4]) rfl ⟨_,rfl,?_,zAm n a (by omega) n.size⟩;rw[HJ.out];unfold FmR;exact⟨by simp[I64,zDO],by decide,by simp[I64],by simp[I64],none,0,rfl,Nat.le_refl _,by decide,by decide,by unfold zAD;trivial⟩
  |cons k0 r=>
  rw[V]at F ae K N
  cases r with
  |nil=>
   have HJ:=hid F;unfold zAD at K;obtain⟨b,a8,cs,rfl,hz,T,E,-⟩:=K;have a9:=hid E;obtain⟨A',o,rfl⟩:=FmR.form E;obtain⟨c0,c1,c2,c3,c4⟩:=zAL (λj u hu=>T j u hu);clear V F T E ae;simp only[List.length_cons,List.length_nil,Nat.zero_add];go_wp2_with(refine zN rfl 52 _ _ rfl rfl rfl M rfl Tryz.szF (by simp[Value.oneCell']) ?_;intro w2 d a G;obtain⟨⟨r0,r1,r2,r3,r4⟩,-⟩:=zDU d);refine bodyPost_ret (v:= .agg #[.int .i64 k0.op,.string k0.name,.int .i64 k0.cmp,.int .i64 k0.num,.slice A' k0.kids.length o]) (by simp[results,results178,go_sem,r0,r1,r2,r3,r4]) rfl ⟨_,rfl,?_,zAm n a (by omega) n.size⟩;rw[HJ.out];exact FmR.mono H2 _ _ (FmR.keep (HZ _ a) _ _ a9)
  |cons k1 r=>
  have HJ:=hid (F.trans (show _=Fm.mk 5 ⟨#[]⟩ 0 0 (k0::k1::r) from rfl));have ba:=hid K;have a2:2<=(k0::k1::r).length :=by simp
  clear V F K;generalize Y:k0::k1::r=l at*;have bq:=hid Y;clear Y;have a7:((l.length:Int)==0)=false:=by simp;intro e;rw[e]at a2;simp at a2
  have bo:((l.length:Int)==1)=false:=by simp;omega
  go_wp2_with(refine zN rfl 52 _ _ rfl rfl rfl M rfl Tryz.szF (by simp[Value.oneCell']) ?_;intro w2 d a G;obtain⟨⟨r0,r1,r2,r3,r4⟩,-⟩:=zDU d);refine bodyPost_ret (v:= .agg #[.int .i64 5,.string ⟨#[]⟩,.int .i64 0,.int .i64 0,.slice oA l.length ak]) (by simp[results,results178,go_sem,r0,r1,r2,r3,r4]) rfl ⟨_,rfl,?_,zAm n a (by omega) n.size⟩;rw[HJ.out];unfold FmR;exact⟨by simp[I64],by decide,by simp[I64],by simp[I64],oA,ak,rfl,N.1,by have:=N.2;unfold maxLen at this;omega,by omega,zAD.mono H2 _ _ (zAD.keep (HZ _ a) _ _ ba)⟩
theorem zOo(nm:ByteArray)(x:Int)(ds:List zE)(m:Nat)(ih:zPS nm x ds m)(f:Fm)(hm:zH f<=m+1)(hM:zH f<=1000000)(Z:zD)(A:Option Addr)(cap:Nat)(w:World)(hf:FmR Z w f [.int .i64 f.op,.string f.name,.int .i64 f.cmp,.int .i64 f.num,.slice A f.kids.length cap])(a4:zA0 (zAB ds) f=0)(h5:f.op=6):
  Calls prog 178 #[.agg [.int .i64 f.op,.string f.name,.int .i64 f.cmp,.int .i64 f.num,.slice A f.kids.length cap].toArray,.string nm,.int .i64 x] w (zEB Z (zZ nm x f) w):=by
 have IH:=hid ih;clear ih;obtain⟨h0,a1⟩:=zDD a4;obtain⟨X,bk⟩:=zHw hf;have a0:f.kids.length<=1000000:=by have:=zCA f.kids;have:=zCQ f;omega
 have ai:(zAT nm x f.kids).length =f.kids.length:=by rw[zFA];simp
 have ah:∀k(hk:k<f.kids.length)(bj:k<(zAT nm x f.kids).length),(zAT nm x f.kids)[k]=zZ nm x f.kids[k]:=λk hk bj=>by simp[zFA]
 have ag:zZ nm x f=zC8 6 (zAT nm x f.kids):=by rw[zIq,if_neg (by omega),if_neg (by omega),if_pos (by omega),h5]
 have HG:=hid ag;have bc:=hid a1;have bb:=hid ah;have HS:=hid X;have av:=hid (λ(k:Nat)(hk:k<f.kids.length)=>zFr hk);have P:=hid ai;clear a1 X h0 hf ag ah ai a4;generalize zAT nm x f.kids=D at*;go_enter func178,ntmps178
 go_wp2;go_loopw[10,12,63] (λv _ i wr=>∃k:Nat,k<=f.kids.length/\i= .int .i64 k/\(∀j(F:j<D.length),j<k->D[j].op ≠zEN 6)/\zBj (λb=>(Z b/\b<w.heap.size)\/w.heap.size+2<=b) (w.heap.size+2) wr v (zB8 6 (D.take k))/\(Blk wr (w.heap.size+1) 52 #[.int .i64 0,.string ⟨#[]⟩,.int .i64 0,.int .i64 0,.slice none 0 0]/\Blk wr w.heap.size 52 #[.int .i64 6,.string f.name,.int .i64 f.cmp,.int .i64 f.num,.slice A f.kids.length cap])/\Bw w wr/\w.heap.size+2<=wr.heap.size) (λ_ _ i _=>f.kids.length-(intOf i).toNat)
 case atStart=>
  refine⟨0,Nat.zero_le _,rfl,λj _ h=>absurd h (Nat.not_lt_zero _),zBj.nil _ _ _,?_,zCX w _ _,by simp⟩;have:=Blk.new (w.alloc (.cells #[.int .i64 f.op,.string f.name,.int .i64 f.cmp,.int .i64 f.num,.slice A f.kids.length cap] 52)) 52 #[.int .i64 0,.string ⟨#[]⟩,.int .i64 0,.int .i64 0,.slice none 0 0];simp only[World.size_alloc]at this;have al:=(Blk.new w 52 #[.int .i64 f.op,.string f.name,.int .i64 f.cmp,.int .i64 f.num,.slice A f.kids.length cap]).alloc (.cells #[.int .i64 0,.string ⟨#[]⟩,.int .i64 0,.int .i64 0,.slice none 0 0] 52);rw[h5]at this al;exact⟨this,al⟩
 case round=>
  obtain⟨k,hk,rfl,ab,q,C,B,bz⟩:=hrel;obtain⟨oA,ak,rfl,-,-,-⟩:=zBj.done q;by_cases aa:k<f.kids.length
  ·obtain⟨b,a8,cs,rfl,hz,T,E⟩:=HS.at_ aa;have a3:=FmR.live _ _ E;obtain⟨A',o,rfl⟩:=FmR.form E;obtain⟨c0,c1,c2,c3,c4⟩:=zAL (λj u hu=>(zA.of_below (Z:=Z) B).cell (p:=⟨b,a8+k*5+j,none⟩) hz (T j u hu));have HC:=hid (λW(h:Bw w W)=>IH f.kids[k] (by have:=av k aa;omega) (by have:=av k aa;omega) (λb=>Z b/\b<w.heap.size) _ W (FmR.keep (.of_below h) _ _ a3) (zCZ bc k aa));(have ad:k<D.length:=by have:=P.out;omega);rw[<-bb k aa ad]at HC;have HO:=hid (And.intro q (And.intro C B));have ao:=hid ab;have R:=hid (@zKl 6 D k ad);have Q:=hid (@zKm 6 D k ad);have O:=hid (@zKk 6 D k ad ab);have bd:=hid (@zGx 6 D k);clear T E a3 q C B ab;generalize f.kids[k]=g at*;generalize ay:D[k]=c at*;have au:=hid ay;clear ay;(go_wp2_with fail);refine(HC _ (HO.2.2.alloc HO.2.2.size _)).mono ?_;rintro e w1 ⟨bu,rfl,aq,z⟩;obtain⟨A1,H,rfl⟩:=FmR.form aq;(have bs:wr.heap.size<w1.heap.size:=by have:=z.size;simp at this;omega);have hT:=hid ((Blk.new wr 52 #[.int .i64 g.op,.string g.name,.int .i64 g.cmp,.int .i64 g.num,.slice A' g.kids.length o]).below z (by simp));have hQ:=hid ((HO.2.1.2.alloc (.cells #[.int .i64 g.op,.string g.name,.int .i64 g.cmp,.int .i64 g.num,.slice A' g.kids.length o] 52)).below z (by simp;omega));have hR:=hid ((HO.2.1.1.alloc (.cells #[.int .i64 g.op,.string g.name,.int .i64 g.cmp,.int .i64 g.num,.slice A' g.kids.length o] 52)).below z (by simp;omega));have hB:=hid (zA2 (HO.2.2.alloc HO.2.2.size _) z);have bw:=hid (HO.1.below (zA2 (zG wr _) z));have I:=hid (zA2 (zG wr _) z);have ap:=hid (FmR.live _ _ aq);(have aw:(wr.alloc (.cells #[.int .i64 g.op,.string g.name,.int .i64 g.cmp,.int .i64 g.num,.slice A' g.kids.length o] 52)).heap.size =wr.heap.size+1:=by simp);rw[aw]at ap;clear aq z aw;dsimp only;(have eZ:zEN 6=1:=by decide);(have eU:zDO 6=2:=by decide);rw[eZ]at O ao;rw[eU]at R Q;by_cases s:c.op=1
   ·(have a7:(c.op==(1:Int))=true:=by simp[s]);(have bo:(c.op==(2:Int))=false:=by simp[s]);have HJ:=hid (O s);clear O R Q;(have bt:w.heap.size+1<wr.heap.size:=by omega);go_wp2_with(first|(refine zN rfl 52 _ _ rfl rfl rfl hT rfl Tryz.szF (by simp[Value.oneCell']) ?_;intro w2 d a G;obtain⟨⟨r0,r1,r2,r3,r4⟩,-⟩:=zDU d;have bf:=hR.keep a (by show w.heap.size+1≠wr.heap.size;omega))|(refine zN rfl 52 _ _ rfl rfl rfl bf rfl Tryz.szF (by simp[Value.oneCell']) ?_;intro w3 bg az bx;obtain⟨⟨s0,s1,s2,s3,s4⟩,-⟩:=zDU bg));refine bodyPost_ret (v:= .agg #[.int .i64 c.op,.string c.name,.int .i64 c.cmp,.int .i64 c.num,.slice A1 c.kids.length H]) (by simp[results,results178,go_sem,s0,s1,s2,s3,s4];try exact s.symm) rfl ⟨_,rfl,?_,zAm (zAm hB a (by omega) hB.size) az (by omega) (by rw[G];exact hB.size)⟩;rw[HG.out,HJ.out];refine FmR.mono (λb y=> ?_) _ _ (FmR.keep ((a.mono (λb _ y=> ?_)).trans (az.mono (λb _ y=> ?_))) _ _ ap)
    ·rcases y.1 with h|h
     ·exact Or.inl h.1
     exact Or.inr (by omega)
    ·rcases y.1 with h|h<;>omega
    rcases y.1 with h|h<;>omega
   (have a7:(c.op==(1:Int))=false:=by simp[s]);by_cases L:c.op=2
   ·(have bn:(c.op==(2:Int))=true:=by simp[L]);have HT:=hid (R L);clear O R Q L;have HZ:=hid s;clear s;go_wp2_with(refine zN rfl 52 _ _ rfl rfl rfl hT rfl Tryz.szF (by simp[Value.oneCell']) ?_;intro w2 d a G;obtain⟨⟨r0,r1,r2,r3,r4⟩,-⟩:=zDU d);refine⟨⟨_,_,_,⟨k+1,by omega,rfl,?_,?_,?_,?_,by omega⟩,rfl,rfl,by simp⟩,by simp[intOf];omega⟩
    ·intro j F bi;rcases Nat.lt_or_ge j k with h|h
     ·exact ao j F h
     (obtain rfl:j=k:=by omega);rw[au.out];exact HZ.out
    ·rw[HT.out];exact HO.1.below (zAm I a (Nat.le_refl _) I.size)
    ·exact⟨hR.keep a (by show w.heap.size+1≠wr.heap.size;omega),hQ.keep a (by show w.heap.size≠wr.heap.size;omega)⟩
    exact zAm hB a (by omega) hB.size
   (have bn:(c.op==(2:Int))=false:=by simp[L]);have HT:=hid (Q L);clear O R Q L;have HZ:=hid s;clear s;have ae:=bd.out;have bm:=P.out;go_wp2_with(first|(refine zN rfl 52 _ _ rfl rfl rfl hT rfl Tryz.szF (by simp[Value.oneCell']) ?_;intro w2 d a G;obtain⟨⟨r0,r1,r2,r3,r4⟩,-⟩:=zDU d;obtain⟨bv,J,a6⟩:=HO.1.below (zAm I a (Nat.le_refl _) I.size))|(at_builtin;refine zh rfl (.tmp 73) (.tmp 75) _ rfl underlying50 Tryz.eFm rfl (J.alloc _) rfl (news:=[.int .i64 c.op,.string c.name,.int .i64 c.cmp,.int .i64 c.num,.slice A1 c.kids.length H]) rfl (zIn (W:=w2.alloc (.cells #[.int .i64 c.op,.string c.name,.int .i64 c.cmp,.int .i64 c.num,.slice A1 c.kids.length H] 52)) (g:=w1.heap.size) (t:=52) (by have:=Blk.new w2 52 #[.int .i64 c.op,.string c.name,.int .i64 c.cmp,.int .i64 c.num,.slice A1 c.kids.length H];rwa[G]at this)) (by simp[Value.oneCell']) (by unfold maxLen;omega) (by omega) (by simp;omega) ?_;intro v1 w5 ar U ax));refine⟨⟨_,_,_,⟨k+1,by omega,rfl,?_,?_,?_,?_,?_⟩,rfl,rfl,by simp⟩,by simp[intOf];omega⟩
   ·intro j F bi;rcases Nat.lt_or_ge j k with h|h
    ·exact ao j (by omega) h
    (obtain rfl:j=k:=by omega);rw[au.out];exact HZ.out
   ·rw[HT.out];refine zBj.grow (FmL.mono (λb y=>⟨y.1,Nat.lt_of_lt_of_le y.2.1 (by simp),y.2.2⟩) (FmL.keep (.alloc (.refl _ _) _) a6)) ?_ ar U ax;refine FmR.mono (λb y=> ?_) _ _ (FmR.keep ((a.mono (λb _ y=> ?_)).trans (.alloc (.refl _ _) _)) _ _ ap)
    ·refine⟨?_,by simp;omega,λe=> ?_⟩
     ·rcases y.1 with h|h
      ·exact Or.inl h
      exact Or.inr (by omega)
     obtain⟨br,a5,-⟩:=HO.1;have:=a5.lt b e;rcases y.1 with h|h<;>omega
    rcases y.1 with h|h<;>omega
   ·refine⟨(((hR.keep a (by show w.heap.size+1≠wr.heap.size;omega)).alloc _).of_block (U.block _ (by simp;omega) λe=> ?_)),(((hQ.keep a (by show w.heap.size≠wr.heap.size;omega)).alloc _).of_block (U.block _ (by simp;omega) λe=> ?_))⟩
    ·have:=J.lt _ e.symm;omega
    have:=J.lt _ e.symm;omega
   ·exact zAs ((zAm hB a (by omega) hB.size).alloc (by have:=hB.size;omega) _) (J.alloc _) U (by simp;have:=hB.size;omega) (by omega)
   have:=U.size;simp at this;omega
  obtain rfl:k=f.kids.length:=by omega
  have ac:D.take f.kids.length=D:=by rw[<-P.out];exact List.take_length
  rw[ac]at q;have F:= @zMQ 6 D (λj F=>ab j F (by have:=P.out;omega));rw[<-HG.out]at F;obtain⟨b0,bp,bh,af,aj,K⟩:=zBj.done q;injection bh with q1 q2 q3;subst q1 q3;have ae:=zGx (op:=6) (ks:=D) f.kids.length;rw[ac]at ae;have bm:=P.out;have n:=hid B;have M:=hid C.1;obtain⟨⟨p0,p1,p2,p3,p4⟩,-⟩:=zDU C.2;have N:=hid (And.intro af aj);rw[show zB8 6 (List.take f.kids.length D)=zB8 6 D from by rw[ac]];have bk:=a0;clear q ac ab B C af aj q2 a0 hk
  have hZ:∀w2:World,zA (λb=>b≠w.heap.size+1) wr w2->zA (λb=>((Z b/\b<w.heap.size)\/w.heap.size+2<=b)\/w.heap.size+2<=b) wr w2:=λw2 h=>h.mono λb _ y=>by
   rcases y with(h|h)|h
   ·have:=h.2;omega
   ·omega
   omega
  have h1:∀b,(((Z b/\b<w.heap.size)\/w.heap.size+2<=b)\/w.heap.size+2<=b)->(Z b\/w.heap.size<=b):=λb y=>by
   rcases y with(h|h)|h
   ·exact Or.inl h.1
   ·exact Or.inr (by omega)
   exact Or.inr (by omega)
  have HZ:=hid hZ;have H1:=hid h1;clear hZ h1
  cases V:zB8 6 D with
  |nil=>
   rw[V]at F;have HJ:=hid F;clear V F K;go_wp2_with(refine zN rfl 52 _ _ rfl rfl rfl M rfl Tryz.szF (by simp[Value.oneCell']) ?_;intro w2 d a G;obtain⟨⟨r0,r1,r2,r3,r4⟩,-⟩:=zDU d);refine bodyPost_ret (v:= .agg #[.int .i64 2,.string ⟨#[]⟩,.int .i64 0,.int .i64 0,.slice none 0 0]) (by simp[results,results178,go_sem,r0,r1,r2,r3,r4]) rfl ⟨_,rfl,?_,zAm n a (by omega) n.size⟩;rw[HJ.out];unfold FmR;exact⟨by simp[I64,zDO],by decide,by simp[I64],by simp[I64],none,0,rfl,Nat.le_refl _,by decide,by decide,by unfold zAD;trivial⟩
  |cons k0 r=>
  rw[V]at F ae K N
  cases r with
  |nil=>
   have HJ:=hid F;unfold zAD at K;obtain⟨b,a8,cs,rfl,hz,T,E,-⟩:=K;have a9:=hid E;obtain⟨A',o,rfl⟩:=FmR.form E;obtain⟨c0,c1,c2,c3,c4⟩:=zAL (λj u hu=>T j u hu);clear V F T E ae;simp only[List.length_cons,List.length_nil,Nat.zero_add];go_wp2_with(refine zN rfl 52 _ _ rfl rfl rfl M rfl Tryz.szF (by simp[Value.oneCell']) ?_;intro w2 d a G;obtain⟨⟨r0,r1,r2,r3,r4⟩,-⟩:=zDU d);refine bodyPost_ret (v:= .agg #[.int .i64 k0.op,.string k0.name,.int .i64 k0.cmp,.int .i64 k0.num,.slice A' k0.kids.length o]) (by simp[results,results178,go_sem,r0,r1,r2,r3,r4]) rfl ⟨_,rfl,?_,zAm n a (by omega) n.size⟩;rw[HJ.out];exact FmR.mono H1 _ _ (FmR.keep (HZ _ a) _ _ a9)
  |cons k1 r=>
  have HJ:=hid (F.trans (show _=Fm.mk 6 ⟨#[]⟩ 0 0 (k0::k1::r) from rfl));have ba:=hid K;have a2:2<=(k0::k1::r).length :=by simp
  clear V F K;generalize Y:k0::k1::r=l at*;have bq:=hid Y;clear Y;have a7:((l.length:Int)==0)=false:=by simp;intro e;rw[e]at a2;simp at a2
  have bo:((l.length:Int)==1)=false:=by simp;omega
  go_wp2_with(refine zN rfl 52 _ _ rfl rfl rfl M rfl Tryz.szF (by simp[Value.oneCell']) ?_;intro w2 d a G;obtain⟨⟨r0,r1,r2,r3,r4⟩,-⟩:=zDU d);refine bodyPost_ret (v:= .agg #[.int .i64 6,.string ⟨#[]⟩,.int .i64 0,.int .i64 0,.slice oA l.length ak]) (by simp[results,results178,go_sem,r0,r1,r2,r3,r4]) rfl ⟨_,rfl,?_,zAm n a (by omega) n.size⟩;rw[HJ.out];unfold FmR;exact⟨by simp[I64],by decide,by simp[I64],by simp[I64],oA,ak,rfl,N.1,by have:=N.2;unfold maxLen at this;omega,by omega,zAD.mono H1 _ _ (zAD.keep (HZ _ a) _ _ ba)⟩
end Go.Proofs.YtommaegelgilnaaGreatDoor
