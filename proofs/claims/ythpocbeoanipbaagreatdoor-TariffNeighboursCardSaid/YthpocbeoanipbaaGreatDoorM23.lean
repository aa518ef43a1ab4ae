/- Texts W21 W22 W45. -/
import Derived.Test.YthpocbeoanipbaaGreatDoorM18
import Derived.Test.YthpocbeoanipbaaGreatDoorM17
import Derived.Laws.BitsLemmas
set_option linter.all false
namespace Go.Proofs.YthpocbeoanipbaaGreatDoor
open Go.RowKit Go.Proofs.Tryz
set_option maxHeartbeats 8000000
set_option maxRecDepth 100000
theorem zPH(nm:ByteArray)(x:Int)(ds:List zC)(m:Nat)(ih:zQZ nm x ds m)(f:Fm)(hm:zG f<=m+1)(hM:zG f<=1000000)(Z:zE)(A:Option Addr)(T:Nat)(w:World)(hf:FmR Z w f [.int .i64 f.op,.string f.name,.int .i64 f.cmp,.int .i64 f.num,.slice A f.kids.length T])(a5:zw (zv ds) f=0)(h5:f.op=5):
  Calls prog 107 #[.agg [.int .i64 f.op,.string f.name,.int .i64 f.cmp,.int .i64 f.num,.slice A f.kids.length T].toArray,.string nm,.int .i64 x] w (zDx Z (zU nm x f) w):=by
 have IH:=hid ih;clear ih;obtain⟨h0,a2⟩:=zCz a5;obtain⟨Y,bl⟩:=zI9 hf;have a1:f.kids.length<=1000000:=by have:=zBi f.kids;have:=zBy f;omega
 have aj:(zAE nm x f.kids).length =f.kids.length:=by rw[zFL];simp
 have ai:∀k(hk:k<f.kids.length)(bk:k<(zAE nm x f.kids).length),(zAE nm x f.kids)[k]=zU nm x f.kids[k]:=λk hk bk=>by simp[zFL]
 have ah:zU nm x f=zC8 5 (zAE nm x f.kids):=by rw[zJ2,if_neg (by omega),if_neg (by omega),if_pos (by omega),h5]
 have HG:=hid ah;have bd:=hid a2;have bc:=hid ai;have HS:=hid Y;have aw:=hid (λ(k:Nat)(hk:k<f.kids.length)=>zGG hk);have P:=hid aj;clear a2 Y h0 hf ah ai aj a5;generalize zAE nm x f.kids=D at*;go_enter func107,ntmps107
 go_wp2;go_loopw[10,12,63] (λv _ i wr=>∃k:Nat,k<=f.kids.length/\i= .int .i64 k/\(∀j(F:j<D.length),j<k->D[j].op ≠zEL 5)/\zBW (λb=>(Z b/\b<w.heap.size)\/w.heap.size+2<=b) (w.heap.size+2) wr v (zBP 5 (D.take k))/\(Blk wr (w.heap.size+1) 40 #[.int .i64 0,.string ⟨#[]⟩,.int .i64 0,.int .i64 0,.slice none 0 0]/\Blk wr w.heap.size 40 #[.int .i64 5,.string f.name,.int .i64 f.cmp,.int .i64 f.num,.slice A f.kids.length T])/\Bw w wr/\w.heap.size+2<=wr.heap.size) (λ_ _ i _=>f.kids.length-(intOf i).toNat)
 case atStart=>
  refine⟨0,Nat.zero_le _,rfl,λj _ h=>absurd h (Nat.not_lt_zero _),zBW.nil _ _ _,?_,zDG w _ _,by simp⟩;have:=Blk.new (w.alloc (.cells #[.int .i64 f.op,.string f.name,.int .i64 f.cmp,.int .i64 f.num,.slice A f.kids.length T] 40)) 40 #[.int .i64 0,.string ⟨#[]⟩,.int .i64 0,.int .i64 0,.slice none 0 0];simp only[World.size_alloc]at this;have ao:=(Blk.new w 40 #[.int .i64 f.op,.string f.name,.int .i64 f.cmp,.int .i64 f.num,.slice A f.kids.length T]).alloc (.cells #[.int .i64 0,.string ⟨#[]⟩,.int .i64 0,.int .i64 0,.slice none 0 0] 40);rw[h5]at this ao;exact⟨this,ao⟩
 case round=>
  obtain⟨k,hk,rfl,ac,q,C,B,bz⟩:=hrel;obtain⟨oA,al,rfl,-,-,-⟩:=zBW.done q;by_cases ab:k<f.kids.length
  ·obtain⟨b,a9,cs,rfl,hz,U,E⟩:=HS.out.at_ ab;have a4:=FmR.live _ _ E;obtain⟨A',o,rfl⟩:=FmR.form E;obtain⟨c0,c1,c2,c3,c4⟩:=zx (λj u hu=>(zA.of_below (Z:=Z) B).cell (p:=⟨b,a9+k*5+j,none⟩) hz (U j u hu));have HC:=hid (λW(h:Bw w W)=>IH.out f.kids[k] (by have:=aw.out k ab;omega) (by have:=aw.out k ab;omega) (λb=>Z b/\b<w.heap.size) _ W (FmR.keep (.of_below h) _ _ a4) (zCS bd.out k ab));(have ae:k<D.length:=by have:=P.out;omega);rw[<-bc.out k ab ae]at HC;have HO:=hid (And.intro q (And.intro C B));have ap:=hid ac;have R:=hid (@zLn 5 D k ae);have Q:=hid (@zLo 5 D k ae);have O:=hid (@zLm 5 D k ae ac);have bf:=hid (@zH5 5 D k);clear U E a4 q C B ac;generalize f.kids[k]=g at*;generalize az:D[k]=c at*;have av:=hid az;clear az;(go_wp2_with fail);refine(HC.out _ (HO.out.2.2.alloc HO.out.2.2.size _)).mono ?_;rintro e w1 ⟨bu,rfl,ar,z⟩;obtain⟨A1,H,rfl⟩:=FmR.form ar;(have bs:wr.heap.size<w1.heap.size:=by have:=z.size;simp at this;omega);have hT:=hid ((Blk.new wr 40 #[.int .i64 g.op,.string g.name,.int .i64 g.cmp,.int .i64 g.num,.slice A' g.kids.length o]).below z (by simp));have hQ:=hid ((HO.out.2.1.2.alloc (.cells #[.int .i64 g.op,.string g.name,.int .i64 g.cmp,.int .i64 g.num,.slice A' g.kids.length o] 40)).below z (by simp;omega));have hR:=hid ((HO.out.2.1.1.alloc (.cells #[.int .i64 g.op,.string g.name,.int .i64 g.cmp,.int .i64 g.num,.slice A' g.kids.length o] 40)).below z (by simp;omega));have hB:=hid (zAN (HO.out.2.2.alloc HO.out.2.2.size _) z);have bw:=hid (HO.out.1.below (zAN (zF wr _) z));have I:=hid (zAN (zF wr _) z);have aq:=hid (FmR.live _ _ ar);(have ax:(wr.alloc (.cells #[.int .i64 g.op,.string g.name,.int .i64 g.cmp,.int .i64 g.num,.slice A' g.kids.length o] 40)).heap.size =wr.heap.size+1:=by simp);rw[ax]at aq;clear ar z ax;dsimp only;(have eZ:zEL 5=2:=by decide);(have eU:zDP 5=1:=by decide);rw[eZ]at O ap;rw[eU]at R Q;by_cases s:c.op=2
   ·(have a8:(c.op==(2:Int))=true:=by simp[s]);(have bo:(c.op==(1:Int))=false:=by simp[s]);have HJ:=hid (O.out s);clear O R Q;(have bt:w.heap.size+1<wr.heap.size:=by omega);go_wp2_with(first|(refine zZ rfl 40 _ _ rfl rfl rfl hT.out rfl Tryz.szF (by simp[Value.oneCell']) ?_;intro w2 d a G;obtain⟨⟨r0,r1,r2,r3,r4⟩,-⟩:=zDT d;have bg:=hR.out.keep a (by show w.heap.size+1≠wr.heap.size;omega))|(refine zZ rfl 40 _ _ rfl rfl rfl bg rfl Tryz.szF (by simp[Value.oneCell']) ?_;intro w3 bh a0 bx;obtain⟨⟨s0,s1,s2,s3,s4⟩,-⟩:=zDT bh));refine bodyPost_ret (v:= .agg #[.int .i64 c.op,.string c.name,.int .i64 c.cmp,.int .i64 c.num,.slice A1 c.kids.length H]) (by simp[results,results107,go_sem,s0,s1,s2,s3,s4];try exact s.symm) rfl ⟨_,rfl,?_,zA2 (zA2 hB.out a (by omega) hB.out.size) a0 (by omega) (by rw[G];exact hB.out.size)⟩;rw[HG.out,HJ.out];refine FmR.mono (λb y=> ?_) _ _ (FmR.keep ((a.mono (λb _ y=> ?_)).trans (a0.mono (λb _ y=> ?_))) _ _ aq.out)
    ·rcases y.1 with h|h
     ·exact Or.inl h.1
     ·exact Or.inr (by omega)
    ·rcases y.1 with h|h<;>omega
    ·rcases y.1 with h|h<;>omega
   ·(have a8:(c.op==(2:Int))=false:=by simp[s]);by_cases L:c.op=1
    ·(have bn:(c.op==(1:Int))=true:=by simp[L]);have HT:=hid (R.out L);clear O R Q L;have HZ:=hid s;clear s;go_wp2_with(refine zZ rfl 40 _ _ rfl rfl rfl hT.out rfl Tryz.szF (by simp[Value.oneCell']) ?_;intro w2 d a G;obtain⟨⟨r0,r1,r2,r3,r4⟩,-⟩:=zDT d);refine⟨⟨_,_,_,⟨k+1,by omega,rfl,?_,?_,?_,?_,by omega⟩,rfl,rfl,by simp⟩,by simp[intOf];omega⟩
     ·intro j F bj;rcases Nat.lt_or_ge j k with h|h
      ·exact ap.out j F h
      ·(obtain rfl:j=k:=by omega);rw[av.out];exact HZ.out
     ·rw[HT.out];exact HO.out.1.below (zA2 I.out a (Nat.le_refl _) I.out.size)
     ·exact⟨hR.out.keep a (by show w.heap.size+1≠wr.heap.size;omega),hQ.out.keep a (by show w.heap.size≠wr.heap.size;omega)⟩
     ·exact zA2 hB.out a (by omega) hB.out.size
    ·(have bn:(c.op==(1:Int))=false:=by simp[L]);have HT:=hid (Q.out L);clear O R Q L;have HZ:=hid s;clear s;have af:=bf.out;have bm:=P.out;go_wp2_with(first|(refine zZ rfl 40 _ _ rfl rfl rfl hT.out rfl Tryz.szF (by simp[Value.oneCell']) ?_;intro w2 d a G;obtain⟨⟨r0,r1,r2,r3,r4⟩,-⟩:=zDT d;obtain⟨bv,J,a7⟩:=HO.out.1.below (zA2 I.out a (Nat.le_refl _) I.out.size))|(at_builtin;refine z6 rfl (.tmp 73) (.tmp 75) _ rfl underlying38 Tryz.eFm rfl (J.alloc _) rfl (news:=[.int .i64 c.op,.string c.name,.int .i64 c.cmp,.int .i64 c.num,.slice A1 c.kids.length H]) rfl (zCn (W:=w2.alloc (.cells #[.int .i64 c.op,.string c.name,.int .i64 c.cmp,.int .i64 c.num,.slice A1 c.kids.length H] 40)) (g:=w1.heap.size) (t:=40) (by have:=Blk.new w2 40 #[.int .i64 c.op,.string c.name,.int .i64 c.cmp,.int .i64 c.num,.slice A1 c.kids.length H];rwa[G]at this)) (by simp[Value.oneCell']) (by unfold maxLen;omega) (by omega) (by simp;omega) ?_;intro v1 w5 au V ay));refine⟨⟨_,_,_,⟨k+1,by omega,rfl,?_,?_,?_,?_,?_⟩,rfl,rfl,by simp⟩,by simp[intOf];omega⟩
     ·intro j F bj;rcases Nat.lt_or_ge j k with h|h
      ·exact ap.out j (by omega) h
      ·(obtain rfl:j=k:=by omega);rw[av.out];exact HZ.out
     ·rw[HT.out];refine zBW.grow (FmL.mono (λb y=>⟨y.1,Nat.lt_of_lt_of_le y.2.1 (by simp),y.2.2⟩) (FmL.keep (.alloc (.refl _ _) _) a7)) ?_ au V ay;refine FmR.mono (λb y=> ?_) _ _ (FmR.keep ((a.mono (λb _ y=> ?_)).trans (.alloc (.refl _ _) _)) _ _ aq.out)
      ·refine⟨?_,by simp;omega,λe=> ?_⟩
       ·rcases y.1 with h|h
        ·exact Or.inl h
        ·exact Or.inr (by omega)
       ·obtain⟨br,a6,-⟩:=HO.out.1;have:=a6.lt b e;rcases y.1 with h|h<;>omega
      ·rcases y.1 with h|h<;>omega
     ·refine⟨(((hR.out.keep a (by show w.heap.size+1≠wr.heap.size;omega)).alloc _).of_block (V.block _ (by simp;omega) λe=> ?_)),(((hQ.out.keep a (by show w.heap.size≠wr.heap.size;omega)).alloc _).of_block (V.block _ (by simp;omega) λe=> ?_))⟩
      ·have:=J.lt _ e.symm;omega
      ·have:=J.lt _ e.symm;omega
     ·exact ze ((zA2 hB.out a (by omega) hB.out.size).alloc (by have:=hB.out.size;omega) _) (J.alloc _) V (by simp;have:=hB.out.size;omega) (by omega)
     ·have:=V.size;simp at this;omega
  ·(obtain rfl:k=f.kids.length:=by omega);(have ad:D.take f.kids.length=D:=by rw[<-P.out];exact List.take_length);rw[ad]at q;have F:= @zNR 5 D (λj F=>ac j F (by have:=P.out;omega));rw[<-HG.out]at F;obtain⟨b0,bp,bi,ag,ak,K⟩:=zBW.done q;injection bi with q1 q2 q3;subst q1 q3;have af:=zH5 (op:=5) (ks:=D) f.kids.length;rw[ad]at af;have bm:=P.out;have n:=hid B;have M:=hid C.1;obtain⟨⟨p0,p1,p2,p3,p4⟩,-⟩:=zDT C.2;have N:=hid (And.intro ag ak);rw[show zBP 5 (List.take f.kids.length D)=zBP 5 D from by rw[ad]];have bl:=a1;clear q ad ac B C ag ak q2 a1 hk
   have hZ:∀w2:World,zA (λb=>b≠w.heap.size+1) wr w2->zA (λb=>((Z b/\b<w.heap.size)\/w.heap.size+2<=b)\/w.heap.size+2<=b) wr w2:=λw2 h=>h.mono λb _ y=>by
    rcases y with(h|h)|h
    ·have:=h.2;omega
    ·omega
    ·omega
   have h2:∀b,(((Z b/\b<w.heap.size)\/w.heap.size+2<=b)\/w.heap.size+2<=b)->(Z b\/w.heap.size<=b):=λb y=>by
    rcases y with(h|h)|h
    ·exact Or.inl h.1
    ·exact Or.inr (by omega)
    ·exact Or.inr (by omega)
   have HZ:=hid hZ;have H2:=hid h2;clear hZ h2
   cases X:zBP 5 D with
   |nil=>
    rw[X]at F;have HJ:=hid F;clear X F K;go_wp2_with(refine zZ rfl 40 _ _ rfl rfl rfl M.out rfl Tryz.szF (by simp[Value.oneCell']) ?_;intro w2 d a G;obtain⟨⟨r0,r1,r2,r3,r4⟩,-⟩:=zDT d);refine bodyPost_ret (v:= .agg #[.int .i64 1,.string ⟨#[]⟩,.int .i64 0,.int .i64 0,.slice none 0 0]) (by simp[results,results107,go_sem,r0,r1,r2,r3,r4]) rfl ⟨_,rfl,?_,zA2 n.out a (by omega) n.out.size⟩;rw[HJ.out];unfold FmR;exact⟨by simp[I64,zDP],by decide,by simp[I64],by simp[I64],none,0,rfl,Nat.le_refl _,by decide,by decide,by unfold zi;trivial⟩
   |cons k0 r=>
    rw[X]at F af K N
    cases r with
    |nil=>
     have HJ:=hid F;unfold zi at K;obtain⟨b,a9,cs,rfl,hz,U,E,-⟩:=K;have ba:=hid E;obtain⟨A',o,rfl⟩:=FmR.form E;obtain⟨c0,c1,c2,c3,c4⟩:=zx (λj u hu=>U j u hu);clear X F U E af;simp only[List.length_cons,List.length_nil,Nat.zero_add];go_wp2_with(refine zZ rfl 40 _ _ rfl rfl rfl M.out rfl Tryz.szF (by simp[Value.oneCell']) ?_;intro w2 d a G;obtain⟨⟨r0,r1,r2,r3,r4⟩,-⟩:=zDT d);refine bodyPost_ret (v:= .agg #[.int .i64 k0.op,.string k0.name,.int .i64 k0.cmp,.int .i64 k0.num,.slice A' k0.kids.length o]) (by simp[results,results107,go_sem,r0,r1,r2,r3,r4]) rfl ⟨_,rfl,?_,zA2 n.out a (by omega) n.out.size⟩;rw[HJ.out];exact FmR.mono H2.out _ _ (FmR.keep (HZ.out _ a) _ _ ba.out)
    |cons k1 r=>
     have HJ:=hid (F.trans (show _=Fm.mk 5 ⟨#[]⟩ 0 0 (k0::k1::r) from rfl));have bb:=hid K;(have a3:2<=(k0::k1::r).length :=by simp);clear X F K;generalize aa:k0::k1::r=l at*;have bq:=hid aa;clear aa;(have a8:((l.length:Int)==0)=false:=by simp;intro e;rw[e]at a3;simp at a3);(have bo:((l.length:Int)==1)=false:=by simp;omega);go_wp2_with(refine zZ rfl 40 _ _ rfl rfl rfl M.out rfl Tryz.szF (by simp[Value.oneCell']) ?_;intro w2 d a G;obtain⟨⟨r0,r1,r2,r3,r4⟩,-⟩:=zDT d);refine bodyPost_ret (v:= .agg #[.int .i64 5,.string ⟨#[]⟩,.int .i64 0,.int .i64 0,.slice oA l.length al]) (by simp[results,results107,go_sem,r0,r1,r2,r3,r4]) rfl ⟨_,rfl,?_,zA2 n.out a (by omega) n.out.size⟩;rw[HJ.out];unfold FmR;exact⟨by simp[I64],by decide,by simp[I64],by simp[I64],oA,al,rfl,N.out.1,by have:=N.out.2;unfold maxLen at this;omega,by omega,zi.mono H2.out _ _ (zi.keep (HZ.out _ a) _ _ bb.out)⟩
theorem zPu(nm:ByteArray)(x:Int)(ds:List zC)(m:Nat)(ih:zQZ nm x ds m)(f:Fm)(hm:zG f<=m+1)(hM:zG f<=1000000)(Z:zE)(A:Option Addr)(T:Nat)(w:World)(hf:FmR Z w f [.int .i64 f.op,.string f.name,.int .i64 f.cmp,.int .i64 f.num,.slice A f.kids.length T])(a5:zw (zv ds) f=0)(h5:f.op=6):
  Calls prog 107 #[.agg [.int .i64 f.op,.string f.name,.int .i64 f.cmp,.int .i64 f.num,.slice A f.kids.length T].toArray,.string nm,.int .i64 x] w (zDx Z (zU nm x f) w):=by
 have IH:=hid ih;clear ih;obtain⟨h0,a2⟩:=zCz a5;obtain⟨Y,bl⟩:=zI9 hf;have a1:f.kids.length<=1000000:=by have:=zBi f.kids;have:=zBy f;omega
 have aj:(zAE nm x f.kids).length =f.kids.length:=by rw[zFL];simp
 have ai:∀k(hk:k<f.kids.length)(bk:k<(zAE nm x f.kids).length),(zAE nm x f.kids)[k]=zU nm x f.kids[k]:=λk hk bk=>by simp[zFL]
 have ah:zU nm x f=zC8 6 (zAE nm x f.kids):=by rw[zJ2,if_neg (by omega),if_neg (by omega),if_pos (by omega),h5]
 have HG:=hid ah;have bd:=hid a2;have bc:=hid ai;have HS:=hid Y;have aw:=hid (λ(k:Nat)(hk:k<f.kids.length)=>zGG hk);have P:=hid aj;clear a2 Y h0 hf ah ai aj a5;generalize zAE nm x f.kids=D at*;go_enter func107,ntmps107
 go_wp2;go_loopw[10,12,63] (λv _ i wr=>∃k:Nat,k<=f.kids.length/\i= .int .i64 k/\(∀j(F:j<D.length),j<k->D[j].op ≠zEL 6)/\zBW (λb=>(Z b/\b<w.heap.size)\/w.heap.size+2<=b) (w.heap.size+2) wr v (zBP 6 (D.take k))/\(Blk wr (w.heap.size+1) 40 #[.int .i64 0,.string ⟨#[]⟩,.int .i64 0,.int .i64 0,.slice none 0 0]/\Blk wr w.heap.size 40 #[.int .i64 6,.string f.name,.int .i64 f.cmp,.int .i64 f.num,.slice A f.kids.length T])/\Bw w wr/\w.heap.size+2<=wr.heap.size) (λ_ _ i _=>f.kids.length-(intOf i).toNat)
 case atStart=>
  refine⟨0,Nat.zero_le _,rfl,λj _ h=>absurd h (Nat.not_lt_zero _),zBW.nil _ _ _,?_,zDG w _ _,by simp⟩;have:=Blk.new (w.alloc (.cells #[.int .i64 f.op,.string f.name,.int .i64 f.cmp,.int .i64 f.num,.slice A f.kids.length T] 40)) 40 #[.int .i64 0,.string ⟨#[]⟩,.int .i64 0,.int .i64 0,.slice none 0 0];simp only[World.size_alloc]at this;have ao:=(Blk.new w 40 #[.int .i64 f.op,.string f.name,.int .i64 f.cmp,.int .i64 f.num,.slice A f.kids.length T]).alloc (.cells #[.int .i64 0,.string ⟨#[]⟩,.int .i64 0,.int .i64 0,.slice none 0 0] 40);rw[h5]at this ao;exact⟨this,ao⟩
 case round=>
  obtain⟨k,hk,rfl,ac,q,C,B,bz⟩:=hrel;obtain⟨oA,al,rfl,-,-,-⟩:=zBW.done q;by_cases ab:k<f.kids.length
  ·obtain⟨b,a9,cs,rfl,hz,U,E⟩:=HS.out.at_ ab;have a4:=FmR.live _ _ E;obtain⟨A',o,rfl⟩:=FmR.form E;obtain⟨c0,c1,c2,c3,c4⟩:=zx (λj u hu=>(zA.of_below (Z:=Z) B).cell (p:=⟨b,a9+k*5+j,none⟩) hz (U j u hu));have HC:=hid (λW(h:Bw w W)=>IH.out f.kids[k] (by have:=aw.out k ab;omega) (by have:=aw.out k ab;omega) (λb=>Z b/\b<w.heap.size) _ W (FmR.keep (.of_below h) _ _ a4) (zCS bd.out k ab));(have ae:k<D.length:=by have:=P.out;omega);rw[<-bc.out k ab ae]at HC;have HO:=hid (And.intro q (And.intro C B));have ap:=hid ac;have R:=hid (@zLn 6 D k ae);have Q:=hid (@zLo 6 D k ae);have O:=hid (@zLm 6 D k ae ac);have bf:=hid (@zH5 6 D k);clear U E a4 q C B ac;generalize f.kids[k]=g at*;generalize az:D[k]=c at*;have av:=hid az;clear az;(go_wp2_with fail);refine(HC.out _ (HO.out.2.2.alloc HO.out.2.2.size _)).mono ?_;rintro e w1 ⟨bu,rfl,ar,z⟩;obtain⟨A1,H,rfl⟩:=FmR.form ar;(have bs:wr.heap.size<w1.heap.size:=by have:=z.size;simp at this;omega);have hT:=hid ((Blk.new wr 40 #[.int .i64 g.op,.string g.name,.int .i64 g.cmp,.int .i64 g.num,.slice A' g.kids.length o]).below z (by simp));have hQ:=hid ((HO.out.2.1.2.alloc (.cells #[.int .i64 g.op,.string g.name,.int .i64 g.cmp,.int .i64 g.num,.slice A' g.kids.length o] 40)).below z (by simp;omega));have hR:=hid ((HO.out.2.1.1.alloc (.cells #[.int .i64 g.op,.string g.name,.int .i64 g.cmp,.int .i64 g.num,.slice A' g.kids.length o] 40)).below z (by simp;omega));have hB:=hid (zAN (HO.out.2.2.alloc HO.out.2.2.size _) z);have bw:=hid (HO.out.1.below (zAN (zF wr _) z));have I:=hid (zAN (zF wr _) z);have aq:=hid (FmR.live _ _ ar);(have ax:(wr.alloc (.cells #[.int .i64 g.op,.string g.name,.int .i64 g.cmp,.int .i64 g.num,.slice A' g.kids.length o] 40)).heap.size =wr.heap.size+1:=by simp);rw[ax]at aq;clear ar z ax;dsimp only;(have eZ:zEL 6=1:=by decide);(have eU:zDP 6=2:=by decide);rw[eZ]at O ap;rw[eU]at R Q;by_cases s:c.op=1
   ·(have a8:(c.op==(1:Int))=true:=by simp[s]);(have bo:(c.op==(2:Int))=false:=by simp[s]);have HJ:=hid (O.out s);clear O R Q;(have bt:w.heap.size+1<wr.heap.size:=by omega);go_wp2_with(first|(refine zZ rfl 40 _ _ rfl rfl rfl hT.out rfl Tryz.szF (by simp[Value.oneCell']) ?_;intro w2 d a G;obtain⟨⟨r0,r1,r2,r3,r4⟩,-⟩:=zDT d;have bg:=hR.out.keep a (by show w.heap.size+1≠wr.heap.size;omega))|(refine zZ rfl 40 _ _ rfl rfl rfl bg rfl Tryz.szF (by simp[Value.oneCell']) ?_;intro w3 bh a0 bx;obtain⟨⟨s0,s1,s2,s3,s4⟩,-⟩:=zDT bh));refine bodyPost_ret (v:= .agg #[.int .i64 c.op,.string c.name,.int .i64 c.cmp,.int .i64 c.num,.slice A1 c.kids.length H]) (by simp[results,results107,go_sem,s0,s1,s2,s3,s4];try exact s.symm) rfl ⟨_,rfl,?_,zA2 (zA2 hB.out a (by omega) hB.out.size) a0 (by omega) (by rw[G];exact hB.out.size)⟩;rw[HG.out,HJ.out];refine FmR.mono (λb y=> ?_) _ _ (FmR.keep ((a.mono (λb _ y=> ?_)).trans (a0.mono (λb _ y=> ?_))) _ _ aq.out)
    ·rcases y.1 with h|h
     ·exact Or.inl h.1
     ·exact Or.inr (by omega)
    ·rcases y.1 with h|h<;>omega
    ·rcases y.1 with h|h<;>omega
   ·(have a8:(c.op==(1:Int))=false:=by simp[s]);by_cases L:c.op=2
    ·(have bn:(c.op==(2:Int))=true:=by simp[L]);have HT:=hid (R.out L);clear O R Q L;have HZ:=hid s;clear s;go_wp2_with(refine zZ rfl 40 _ _ rfl rfl rfl hT.out rfl Tryz.szF (by simp[Value.oneCell']) ?_;intro w2 d a G;obtain⟨⟨r0,r1,r2,r3,r4⟩,-⟩:=zDT d);refine⟨⟨_,_,_,⟨k+1,by omega,rfl,?_,?_,?_,?_,by omega⟩,rfl,rfl,by simp⟩,by simp[intOf];omega⟩
     ·intro j F bj;rcases Nat.lt_or_ge j k with h|h
      ·exact ap.out j F h
      ·(obtain rfl:j=k:=by omega);rw[av.out];exact HZ.out
     ·rw[HT.out];exact HO.out.1.below (zA2 I.out a (Nat.le_refl _) I.out.size)
     ·exact⟨hR.out.keep a (by show w.heap.size+1≠wr.heap.size;omega),hQ.out.keep a (by show w.heap.size≠wr.heap.size;omega)⟩
     ·exact zA2 hB.out a (by omega) hB.out.size
    ·(have bn:(c.op==(2:Int))=false:=by simp[L]);have HT:=hid (Q.out L);clear O R Q L;have HZ:=hid s;clear s;have af:=bf.out;have bm:=P.out;go_wp2_with(first|(refine zZ rfl 40 _ _ rfl rfl rfl hT.out rfl Tryz.szF (by simp[Value.oneCell']) ?_;intro w2 d a G;obtain⟨⟨r0,r1,r2,r3,r4⟩,-⟩:=zDT d;obtain⟨bv,J,a7⟩:=HO.out.1.below (zA2 I.out a (Nat.le_refl _) I.out.size))|(at_builtin;refine z6 rfl (.tmp 73) (.tmp 75) _ rfl underlying38 Tryz.eFm rfl (J.alloc _) rfl (news:=[.int .i64 c.op,.string c.name,.int .i64 c.cmp,.int .i64 c.num,.slice A1 c.kids.length H]) rfl (zCn (W:=w2.alloc (.cells #[.int .i64 c.op,.string c.name,.int .i64 c.cmp,.int .i64 c.num,.slice A1 c.kids.length H] 40)) (g:=w1.heap.size) (t:=40) (by have:=Blk.new w2 40 #[.int .i64 c.op,.string c.name,.int .i64 c.cmp,.int .i64 c.num,.slice A1 c.kids.length H];rwa[G]at this)) (by simp[Value.oneCell']) (by unfold maxLen;omega) (by omega) (by simp;omega) ?_;intro v1 w5 au V ay));refine⟨⟨_,_,_,⟨k+1,by omega,rfl,?_,?_,?_,?_,?_⟩,rfl,rfl,by simp⟩,by simp[intOf];omega⟩
     ·intro j F bj;rcases Nat.lt_or_ge j k with h|h
      ·exact ap.out j (by omega) h
      ·(obtain rfl:j=k:=by omega);rw[av.out];exact HZ.out
     ·rw[HT.out];refine zBW.grow (FmL.mono (λb y=>⟨y.1,Nat.lt_of_lt_of_le y.2.1 (by simp),y.2.2⟩) (FmL.keep (.alloc (.refl _ _) _) a7)) ?_ au V ay;refine FmR.mono (λb y=> ?_) _ _ (FmR.keep ((a.mono (λb _ y=> ?_)).trans (.alloc (.refl _ _) _)) _ _ aq.out)
      ·refine⟨?_,by simp;omega,λe=> ?_⟩
       ·rcases y.1 with h|h
        ·exact Or.inl h
        ·exact Or.inr (by omega)
       ·obtain⟨br,a6,-⟩:=HO.out.1;have:=a6.lt b e;rcases y.1 with h|h<;>omega
      ·rcases y.1 with h|h<;>omega
     ·refine⟨(((hR.out.keep a (by show w.heap.size+1≠wr.heap.size;omega)).alloc _).of_block (V.block _ (by simp;omega) λe=> ?_)),(((hQ.out.keep a (by show w.heap.size≠wr.heap.size;omega)).alloc _).of_block (V.block _ (by simp;omega) λe=> ?_))⟩
      ·have:=J.lt _ e.symm;omega
      ·have:=J.lt _ e.symm;omega
     ·exact ze ((zA2 hB.out a (by omega) hB.out.size).alloc (by have:=hB.out.size;omega) _) (J.alloc _) V (by simp;have:=hB.out.size;omega) (by omega)
     ·have:=V.size;simp at this;omega
  ·(obtain rfl:k=f.kids.length:=by omega);(have ad:D.take f.kids.length=D:=by rw[<-P.out];exact List.take_length);rw[ad]at q;have F:= @zNR 6 D (λj F=>ac j F (by have:=P.out;omega));rw[<-HG.out]at F;obtain⟨b0,bp,bi,ag,ak,K⟩:=zBW.done q;injection bi with q1 q2 q3;subst q1 q3;have af:=zH5 (op:=6) (ks:=D) f.kids.length;rw[ad]at af;have bm:=P.out;have n:=hid B;have M:=hid C.1;obtain⟨⟨p0,p1,p2,p3,p4⟩,-⟩:=zDT C.2;have N:=hid (And.intro ag ak);rw[show zBP 6 (List.take f.kids.length D)=zBP 6 D from by rw[ad]];have bl:=a1;clear q ad ac B C ag ak q2 a1 hk
   have hZ:∀w2:World,zA (λb=>b≠w.heap.size+1) wr w2->zA (λb=>((Z b/\b<w.heap.size)\/w.heap.size+2<=b)\/w.heap.size+2<=b) wr w2:=λw2 h=>h.mono λb _ y=>by
    rcases y with(h|h)|h
    ·have:=h.2;omega
    ·omega
    ·omega
   have h1:∀b,(((Z b/\b<w.heap.size)\/w.heap.size+2<=b)\/w.heap.size+2<=b)->(Z b\/w.heap.size<=b):=λb y=>by
    rcases y with(h|h)|h
    ·exact Or.inl h.1
    ·exact Or.inr (by omega)
    ·exact Or.inr (by omega)
   have HZ:=hid hZ;have H1:=hid h1;clear hZ h1
   cases X:zBP 6 D with
   |nil=>
    rw[X]at F;have HJ:=hid F;clear X F K;go_wp2_with(refine zZ rfl 40 _ _ rfl rfl rfl M.out rfl Tryz.szF (by simp[Value.oneCell']) ?_;intro w2 d a G;obtain⟨⟨r0,r1,r2,r3,r4⟩,-⟩:=zDT d);refine bodyPost_ret (v:= .agg #[.int .i64 2,.string ⟨#[]⟩,.int .i64 0,.int .i64 0,.slice none 0 0]) (by simp[results,results107,go_sem,r0,r1,r2,r3,r4]) rfl ⟨_,rfl,?_,zA2 n.out a (by omega) n.out.size⟩;rw[HJ.out];unfold FmR;exact⟨by simp[I64,zDP],by decide,by simp[I64],by simp[I64],none,0,rfl,Nat.le_refl _,by decide,by decide,by unfold zi;trivial⟩
   |cons k0 r=>
    rw[X]at F af K N
    cases r with
    |nil=>
     have HJ:=hid F;unfold zi at K;obtain⟨b,a9,cs,rfl,hz,U,E,-⟩:=K;have ba:=hid E;obtain⟨A',o,rfl⟩:=FmR.form E;obtain⟨c0,c1,c2,c3,c4⟩:=zx (λj u hu=>U j u hu);clear X F U E af;simp only[List.length_cons,List.length_nil,Nat.zero_add];go_wp2_with(refine zZ rfl 40 _ _ rfl rfl rfl M.out rfl Tryz.szF (by simp[Value.oneCell']) ?_;intro w2 d a G;obtain⟨⟨r0,r1,r2,r3,r4⟩,-⟩:=zDT d);refine bodyPost_ret (v:= .agg #[.int .i64 k0.op,.string k0.name,.int .i64 k0.cmp,.int .i64 k0.num,.slice A' k0.kids.length o]) (by simp[results,results107,go_sem,r0,r1,r2,r3,r4]) rfl ⟨_,rfl,?_,zA2 n.out a (by omega) n.out.size⟩;rw[HJ.out];exact FmR.mono H1.out _ _ (FmR.keep (HZ.out _ a) _ _ ba.out)
    |cons k1 r=>
     have HJ:=hid (F.trans (show _=Fm.mk 6 ⟨#[]⟩ 0 0 (k0::k1::r) from rfl));have bb:=hid K;(have a3:2<=(k0::k1::r).length :=by simp);clear X F K;generalize aa:k0::k1::r=l at*;have bq:=hid aa;clear aa;(have a8:((l.length:Int)==0)=false:=by simp;intro e;rw[e]at a3;simp at a3);(have bo:((l.length:Int)==1)=false:=by simp;omega);go_wp2_with(refine zZ rfl 40 _ _ rfl rfl rfl M.out rfl Tryz.szF (by simp[Value.oneCell']) ?_;intro w2 d a G;obtain⟨⟨r0,r1,r2,r3,r4⟩,-⟩:=zDT d);refine bodyPost_ret (v:= .agg #[.int .i64 6,.string ⟨#[]⟩,.int .i64 0,.int .i64 0,.slice oA l.length al]) (by simp[results,results107,go_sem,r0,r1,r2,r3,r4]) rfl ⟨_,rfl,?_,zA2 n.out a (by omega) n.out.size⟩;rw[HJ.out];unfold FmR;exact⟨by simp[I64],by decide,by simp[I64],by simp[I64],oA,al,rfl,N.out.1,by have:=N.out.2;unfold maxLen at this;omega,by omega,zi.mono H1.out _ _ (zi.keep (HZ.out _ a) _ _ bb.out)⟩
theorem zNa(nm:ByteArray)(x:Int)(ds:List zC):∀(m:Nat)(f:Fm),zG f<=m->zG f<=1000000->∀(Z:zE)(cs:List Value)(w:World),FmR Z w f cs->zw (zv ds) f=0->
  Calls prog 107 #[.agg cs.toArray,.string nm,.int .i64 x] w (zDx Z (zU nm x f) w):=by
 intro m
 induction m with
 |zero=>intro f hm;have:=zBk f;omega
 |succ m ih=>
 intro f hm hM Z cs w J G;have IH:=hid ih;clear ih;obtain⟨A,s,rfl⟩:=FmR.form J;obtain⟨h0,D⟩:=zCz G;obtain⟨d,o⟩:=zEK h0;obtain⟨k,a3⟩:=zI9 J;have q:=hid (zJ2 nm x f);by_cases B:f.op=3
 ·by_cases F:f.name=nm
  ·(have ai:(f.name.toList==nm.toList)=true:=by rw[zAh];simp[F]);(have c:zU nm x f=kn (zHw x f.cmp f.num):=by rw[q.out,if_pos B,if_pos F]);have HK:=hid (show ∀I,Bw w I->zDx Z (zU nm x f) w (.returned (knV (zHw x f.cmp f.num))) I from λI hw=>⟨_,rfl,by rw[c];exact zOc _ _ _,hw⟩);(have ab:(f.op==(3:Int))=true:=by simp[B]);have HC:=hid (λw=>zPl x f.cmp f.num w);generalize zHw x f.cmp f.num=b at*;have HN:=hid (λw=>zNQ b w);clear q B c J k D G d o h0 IH F;(go_enter func107,ntmps107);(go_wp2_with fail);refine(HC.out _).mono ?_;rintro e N ⟨rfl,rfl⟩;dsimp only;(go_wp2_with fail);refine(HN.out _).mono ?_;rintro e N ⟨rfl,n⟩;have H:=zAN (zDG w _ _) n;(have al:w.heap.size+1<N.heap.size:=by have:=n.size;simp at this;omega);have O:=hid ((Blk.new (w.alloc (.cells #[.int .i64 f.op,.string f.name,.int .i64 f.cmp,.int .i64 f.num,.slice A f.kids.length s] 40)) 40 #[.int .i64 0,.string ⟨#[]⟩,.int .i64 0,.int .i64 0,.slice none 0 0]).below n (by simp));simp only[World.size_alloc]at O;have y:=hid H;clear H n;unfold knV at HK;unfold knV;dsimp only;go_wp2_with(refine zZ rfl 40 _ _ rfl rfl rfl O.out rfl Tryz.szF (by simp[Value.oneCell']) ?_;intro K i C au);obtain⟨⟨r0,r1,r2,r3,r4⟩,-⟩:=zDT i;refine bodyPost_ret (v:=knV b) (by unfold knV;simp[results,results107,go_sem,r0,r1,r2,r3,r4];try rfl) rfl (HK.out _ (zA2 y.out C (by omega) (by omega)))
  ·(have ai:(f.name.toList==nm.toList)=false:=by rw[zAh];simp[F]);(have c:zU nm x f=f:=by rw[q.out,if_pos B,if_neg F]);have HK:=hid (show ∀I,Bw w I->zDx Z (zU nm x f) w (.returned (.agg #[.int .i64 f.op,.string f.name,.int .i64 f.cmp,.int .i64 f.num,.slice A f.kids.length s])) I from λI hw=>⟨_,rfl,by rw[c];exact FmR.mono (λb R=>Or.inl R) _ _ (FmR.keep (.of_below hw) _ _ J),hw⟩);(have ab:(f.op==(3:Int))=true:=by simp[B]);clear q B c J k D G d o h0 IH F;(go_enter func107,ntmps107);go_wp2;refine bodyPost_ret (v:= .agg #[.int .i64 f.op,.string f.name,.int .i64 f.cmp,.int .i64 f.num,.slice A f.kids.length s]) (by simp[results,results107,go_sem];try rfl) rfl (HK.out _ (by exact blw))
 ·have ab:(f.op==(3:Int))=false:=by simp[B]
  by_cases P:f.op=4
  ·have E:f.kids.length=1:=by
    rw[zFK B]at d;split at d
    ·simp at d
    ·simpa[P]using d
   obtain⟨g,hg⟩:∃g,f.kids=[g]:=by
    cases hk:f.kids with
    |nil=>rw[hk]at E;simp at E
    |cons x r=>rw[hk]at E;simp at E;exact⟨x,by rw[E]⟩
   (have aq:zG g<zG f:=by have:=zBy f;rw[hg]at this;simp[zM]at this;omega);rw[hg]at k D;have ag:zw (zv ds) g=0:=zCS D 0 (by simp);obtain⟨b,aw,cs,rfl,hz,af,V,-⟩:=k;have M:=V;obtain⟨A',ax,rfl⟩:=FmR.form V;obtain⟨c0,c1,c2,c3,c4⟩:=zx (λj u hu=>af j u hu);have HC:=hid (λW(h:Bw w W)=>IH.out g (by omega) (by omega) (λb=>Z b/\b<w.heap.size) _ W (FmR.keep (.of_below h) _ _ (FmR.live _ _ M)) ag);(have c:zU nm x f=zEl (zU nm x g):=by rw[q.out,if_neg B,if_pos P,hg];simp[zAE]);have HG:=hid c;(have a4:(0:Int)<(f.kids.length:Nat):=by omega);(have a5:0<f.kids.length:=by omega);have al:=lt_of_cell c0;(have ak:(f.op==(4:Int))=true:=by simp[P]);clear q B P af V M aq hg E D d o h0 ag J c;generalize zU nm x g=a at*;(go_enter func107,ntmps107);(go_wp2_with fail);refine(HC.out _ (zDG w _ _)).mono ?_;rintro e N ⟨az,rfl,X,n⟩;obtain⟨A1,t,rfl⟩:=FmR.form X;have H:=zAN (zDG w _ _) n;(have ay:w.heap.size+1<N.heap.size:=by have:=n.size;simp at this;omega);have O:=hid ((Blk.new (w.alloc (.cells #[.int .i64 f.op,.string f.name,.int .i64 f.cmp,.int .i64 f.num,.slice (some ⟨b,aw,none⟩) f.kids.length s] 40)) 40 #[.int .i64 0,.string ⟨#[]⟩,.int .i64 0,.int .i64 0,.slice none 0 0]).below n (by simp));simp only[World.size_alloc]at O;have y:=hid H;have aj:=hid X;clear H n X;dsimp only;by_cases z:a.op=1\/a.op=2
   ·have L:=hid (show zEl a=kn (a.op==2) from if_pos z)
    have ar:((a.op==(1:Int))=true/\(a.op==(2:Int))=false)\/((a.op==(1:Int))=false/\(a.op==(2:Int))=true):=by
     rcases z with h|h<;>simp[h]
    have HN:=hid (λb w=>zNQ b w);clear z;rcases ar with⟨ho,ho2⟩|⟨ho,ho2⟩
    ·(go_wp2_with fail);refine(HN.out _ _).mono ?_;rintro e K ⟨rfl,i⟩;have Q:=hid (((O.out).alloc (.cells #[.int .i64 a.op,.string a.name,.int .i64 a.cmp,.int .i64 a.num,.slice A1 a.kids.length t] 40)).below i (by simp;omega));have T:=hid (zAN (y.out.alloc y.out.size _) i);(have ae:w.heap.size+1<K.heap.size:=by have:=i.size;simp at this;omega);clear i;unfold knV;dsimp only;go_wp2_with(refine zZ rfl 40 _ _ rfl rfl rfl Q.out rfl Tryz.szF (by simp[Value.oneCell']) ?_;intro w3 U Y av);obtain⟨⟨r0,r1,r2,r3,r4⟩,-⟩:=zDT U;refine bodyPost_ret (v:=knV false) (by unfold knV;simp[results,results107,go_sem,r0,r1,r2,r3,r4];try rfl) rfl ⟨_,rfl,?_,zA2 T.out Y (by omega) (by omega)⟩;rw[HG.out,L.out,ho2];exact zOc _ _ _
    ·(go_wp2_with fail);refine(HN.out _ _).mono ?_;rintro e K ⟨rfl,i⟩;have Q:=hid (((O.out).alloc (.cells #[.int .i64 a.op,.string a.name,.int .i64 a.cmp,.int .i64 a.num,.slice A1 a.kids.length t] 40)).below i (by simp;omega));have T:=hid (zAN (y.out.alloc y.out.size _) i);(have ae:w.heap.size+1<K.heap.size:=by have:=i.size;simp at this;omega);clear i;unfold knV;dsimp only;go_wp2_with(refine zZ rfl 40 _ _ rfl rfl rfl Q.out rfl Tryz.szF (by simp[Value.oneCell']) ?_;intro w3 U Y av);obtain⟨⟨r0,r1,r2,r3,r4⟩,-⟩:=zDT U;refine bodyPost_ret (v:=knV true) (by unfold knV;simp[results,results107,go_sem,r0,r1,r2,r3,r4];try rfl) rfl ⟨_,rfl,?_,zA2 T.out Y (by omega) (by omega)⟩;rw[HG.out,L.out,ho2];exact zOc _ _ _
   ·(have a2:(a.op==(1:Int))=false:=by simp;omega);(have C:(a.op==(2:Int))=false:=by simp;omega);have HN:=hid (show zEl a= .mk 4 ⟨#[]⟩ 0 0 [a] from if_neg z);clear z;go_wp2_with(refine zZ rfl 40 _ _ rfl rfl rfl (((O.out).alloc _).alloc _) rfl Tryz.szF (by simp[Value.oneCell']) ?_;intro K i C au);obtain⟨⟨r0,r1,r2,r3,r4⟩,-⟩:=zDT i;have hK:zA (λb=>(Z b\/w.heap.size<=b)/\b≠w.heap.size+1) N K:=(((zA.refl _ _).alloc _).alloc _).trans (C.mono (λ_ _ h=>h.2))
    have ah:K.heap[N.heap.size+1]? =some (.cells #[.int .i64 a.op,.string a.name,.int .i64 a.cmp,.int .i64 a.num,.slice A1 a.kids.length t] 40 (0,0)):=by
     rw[C.block _ (by simp) (by omega)];have:=heap_alloc_new (N.alloc (.cells #[.int .i64 a.op,.string a.name,.int .i64 a.cmp,.int .i64 a.num,.slice A1 a.kids.length t] 40)) (.cells #[.int .i64 a.op,.string a.name,.int .i64 a.cmp,.int .i64 a.num,.slice A1 a.kids.length t] 40);simpa using this
    have ad:Bw w K:=zA2 ((y.out.alloc y.out.size _).alloc (by simp;omega) _) C (by omega) (by simp;omega);refine bodyPost_ret (v:= .agg #[.int .i64 4,.string ⟨#[]⟩,.int .i64 0,.int .i64 0,.slice (some ⟨N.heap.size+1,0,none⟩) 1 1]) (by simp[results,results107,go_sem,r0,r1,r2,r3,r4];try rfl) rfl ?_;refine⟨_,rfl,?_,ad⟩;rw[HG.out,HN.out]
    have aa:=FmR.mono (Z':=λb=>(Z b\/w.heap.size<=b)/\b≠w.heap.size+1) (λb R=>by
     obtain⟨h1,h2⟩:=R;rcases h1 with⟨h1,B⟩|h1
     ·exact⟨Or.inl h1,by omega⟩
     ·simp at h1;exact⟨Or.inr (by omega),by omega⟩) _ _ (FmR.live _ _ aj.out)
    have ao:=FmR.keep hK _ _ aa;have ap:=FmR.mono (Z':=λb=>Z b\/w.heap.size<=b) (λb R=>R.1) _ _ ao;unfold FmR;refine⟨by simp[I64],by decide,by simp[I64],by simp[I64],_,1,rfl,Nat.le_refl _,by decide,by simp,?_⟩;unfold zi;refine⟨_,_,_,rfl,Or.inr (by omega),λj u hu=> ?_,ap,by unfold zi;trivial⟩;rw[cell_of_row K _ _ _ _ _ ah];simpa using hu
  ·(have ak:(f.op==(4:Int))=false:=by simp[P]);by_cases ac:f.op=5\/f.op=6
   ·by_cases h5:f.op=5
    ·exact zPH nm x ds m IH.out f hm hM Z A s w J G h5
    ·exact zPu nm x ds m IH.out f hm hM Z A s w J G (by omega)
   ·(have a0:(f.op==(5:Int))=false:=by simp;omega);(have a1:(f.op==(6:Int))=false:=by simp;omega);(have c:zU nm x f=f:=by rw[q.out,if_neg B,if_neg P,if_neg ac]);have HK:=hid (show ∀I,Bw w I->zDx Z (zU nm x f) w (.returned (.agg #[.int .i64 f.op,.string f.name,.int .i64 f.cmp,.int .i64 f.num,.slice A f.kids.length s])) I from λI hw=>⟨_,rfl,by rw[c];exact FmR.mono (λb R=>Or.inl R) _ _ (FmR.keep (.of_below hw) _ _ J),hw⟩);clear q B P ac c J k D G d o h0 IH;(go_enter func107,ntmps107);go_wp2;refine bodyPost_ret (v:= .agg #[.int .i64 f.op,.string f.name,.int .i64 f.cmp,.int .i64 f.num,.slice A f.kids.length s]) (by simp[results,results107,go_sem];try rfl) rfl (HK.out _ (by exact blw))
theorem Tryz.egLeast1:∀args w,(callFunc 70 args).run prog w= .ok (.enter 70 args) w:=enters_of func70 (by kernel_rfl) rfl
theorem zRe(Gb:Nat)(Z:zE)(t:Value)(g:List zB)(k:Int)(w:World)(x:w.cell? ⟨Gb,0,none⟩=some t)(j:z8 Z w t g)(h:Rng g k):
  Calls prog 70 #[.int .i64 k,.pointer (some ⟨Gb,0,none⟩)] w λe w'=>e= .returned (.bool (live g k))/\Bw w w':=by
 have y:=lt_of_cell x;obtain⟨A,u,rfl,i,o,a⟩:=j.open_;obtain⟨n,rfl⟩:=Int.eq_ofNat_of_zero_le h.1;have q:n<g.length:=by have:=h.2;omega
 obtain⟨b,C,G,H,rfl,-,F,E,-,-,c3,-,-,c⟩:=a n q;obtain⟨D,s,rfl,-⟩:=c.form;have d:=hid (show live g (n:Int)=(decide (g[n].kids ≠[])||g[n].leaf) from by unfold live;rw[zBs q]);have B:((n:Nat):Int)<(g.length:Int):=by omega
 have z:(0:Int)<=((n:Nat):Int):=by omega
 clear j a c h;generalize g[n]=m at*;go_enter func70,ntmps70
 by_cases he:m.kids=[]
 ·have v:decide ((0:Int)<(m.kids.length:Int))=false:=by simp[he]
  have f:decide (0<m.kids.length)=false:=by simp[he]
  rw[decide_eq_false (by simp[he]),Bool.false_or]at d;clear he;go_wp2;go_ret;rw[d.out];exact⟨rfl,Below.refl _ _⟩
 ·have v:decide ((0:Int)<(m.kids.length:Int))=true:=by simp;exact List.length_pos_iff.2 he
  have f:decide (0<m.kids.length)=true:=by simp;exact List.length_pos_iff.2 he
  rw[decide_eq_true he,Bool.true_or]at d;clear he;go_wp2;go_ret;rw[d.out];exact⟨rfl,Below.refl _ _⟩
theorem zMy(p:Int->Bool)(l:List Int)(h:l.findIdx p<l.length):firstIdx (λi=>p (l.getD i 0)) l.length 0=(l.findIdx p:Nat):=by
 refine zBx (λj _ b=> ?_) (Nat.zero_le _) (by omega) ?_
 ·have a:j<l.length:=by omega
  have:=List.not_of_lt_findIdx b;simp only[List.getD_eq_getElem?_getD,List.getElem?_eq_getElem a,Option.getD_some];simpa using this
 ·have:=List.findIdx_getElem (w:=h);simp only[List.getD_eq_getElem?_getD,List.getElem?_eq_getElem h,Option.getD_some];exact this
def zJo(w:World)(r:Option (List Int))(e:Ending)(w':World):Prop:=
 ∃v,e= .returned (.tuple #[v,.bool r.isSome])/\zK (λb=>w.heap.size<=b) w' v (r.getD [])/\Bw w w'
theorem zPv(g:List zB)(k:Nat)(i:Int)(c:List Int):zCR g (k+1) i c=if(nAt g i).kids =[]then(i,c)
  else zCR g k ((nAt g i).kids.getD ((nAt g i).kids.findIdx (live g)) 0)
   (if 0<(nAt g i).kids.findIdx (live g)then c.set (nAt g i).fact.toNat ((nAt g i).cuts.getD ((nAt g i).kids.findIdx (live g)-1) 0)else c):=rfl
theorem zIp(Z:zE)(vg vd:Value)(g:List zB)(ds:List zC)(w:World)(hg:z8 Z w vg g)(hd:Facts Z w vd ds)(au:zAD w.heap.size w):
  Calls prog 39 #[.agg #[vg],.agg #[vd]] w (zJo w (zBC ds g)):=by
 have eg:=Tryz.egLeast1;have B:=(zF w (.cells #[vg] 83)).alloc (by simp) (.cells #[vd] 24);have d:=(Blk.new w 83 #[vg]).alloc (.cells #[vd] 24);have U:=Blk.new' (w.alloc (.cells #[vg] 83)) 24 #[vd] (n:=w.heap.size+1) (by simp);have HV:=hid (zEJ Z vg vd g ds _ (hg.keep (.of_below B)) (hd.keep (.of_below B)) ((au.on B).mono B.size));have V:=hid B;have ay:=hid d;have ax:=hid U;have HG:=hid hg;have HD:=hid hd;have HU:=hid (show zBC ds g=if zB3 ds g=true then(if(nAt g (zCR g (ds.length+1) 0 (zBj ds)).1).leaf =true then some (zCR g (ds.length+1) 0 (zBj ds)).2 else none)else none from rfl);obtain⟨A,bd,rfl,cl,ab,bh⟩:=hg.open_;obtain⟨D,bf,rfl,-,b9,-⟩:=hd.open_;have b2:=hid bh;clear B d U hg hd au bh;go_enter func39,ntmps39
 by_cases hv:zB3 ds g=true
 ·rw[hv]at HV;have b5:=hid (HU.out.trans (if_pos hv));have s:=hid (zCH.1 hv);clear hv HU;go_wp2_with fail
  refine HV.out.mono ?_;rintro e w1 ⟨rfl,T⟩;have d:=ay.out.below T ay.out.lt;have U:=ax.out.below T ax.out.lt;have d0:=U.at0;have b6:=U.lt;have H:=V.out.trans (T.mono V.out.size);have HL:=hid (zOD Z (.slice D ds.length bf) ds w1 (HD.out.keep (.of_below H)));have X:=hid (And.intro d H);clear d U T H HV ay ax V;go_wp2_with fail
  refine HL.out.mono ?_;rintro e w2 ⟨vc,rfl,F,B⟩;have bt:zBj ds=ds.map zC.lo:=zDl s.out.dom;have ac:(zBj ds).length =ds.length:=by rw[bt,List.length_map]
  obtain⟨AC,P,rfl,-,-,-⟩:=Row.of_own F (by decide);rw[ac]at F;have d:=X.out.1.below B X.out.1.lt;have g0:=d.at0;have ak:=d.lt;have cg:=X.out.2.size;have H:=X.out.2.trans (B.mono cg);have al:=hid (And.intro d H);have az:=hid F;have da:=zDo (ds:=ds) (g:=g) 0;clear d0 b6 B HL d H F bt;simp only[ac];go_wp2;clear g0 ak;go_loopw[7] (λa wr=>∃(x:Int)(c:List Int)(m:Nat),a= .int .i64 x/\Rng g x/\zCP ds g x<m/\c.length=ds.length/\wr.ownsRow w1.heap.size 3 1 (.slice AC ds.length P) ds.length (c.map (.int .i64))/\Blk wr w.heap.size 83 #[.slice A g.length bd]/\Bw w wr/\(∀y∈c,I64 y)/\Hid (zCR g (ds.length+1) 0 (zBj ds)=zCR g m x c)) (λa _=>zCP ds g (intOf a))
  case atStart=>
   refine⟨0,zBj ds,ds.length+1,rfl,s.out.rng,by omega,ac,az.out,al.out.1,al.out.2,λy hy=> ?_,rfl⟩;rw[zDl s.out.dom]at hy;obtain⟨f,hf,rfl⟩:=List.mem_map.1 hy;have:=zCy (zEb s.out.dom hf);constructor<;>omega
  case round=>
   (rename World=>wv);obtain⟨x,c,m,rfl,hx,bu,a1,aq,d,z,bk,ar⟩:=hrel;have g0:=d.at0;have ak:=d.lt;obtain⟨m,rfl⟩:∃m',m=m'+1:=⟨m-1,by omega⟩;have M:=ar.out.trans (zPv g m x c);have aj:=hid (λ(hk:(nAt g x).kids ≠[])=>And.intro (s.out.good.inner hx hk) (And.intro (s.out.good.some_live (zFE s.out.dom) hx hk) (λk cb=>s.out.good.rank_kid hx (k:=k) cb)));obtain⟨n,rfl⟩:=Int.eq_ofNat_of_zero_le hx.1;(have hn:n<g.length:=by have:=hx.2;omega);have ap:=zBs hn;obtain⟨b,cj,de,df,rfl,-,hb,c0,c1,c2,c3,hf,a2,a5⟩:=b2.out n hn;(have ct:b<wv.heap.size:=by have:=z.size;omega);replace c0:=brd z c0 hb;replace c1:=brd z c1 hb;replace c2:=brd z c2 hb;replace c3:=brd z c3 hb;have a8:=hid a2;have a9:=hid a5;obtain⟨VC,ai,rfl,cn⟩:=a2.form;obtain⟨VK,ah,rfl,cq⟩:=a5.form;(have cy:((n:Nat):Int)<(g.length:Int):=by omega);(have cx:(0:Int)<=((n:Nat):Int):=by omega);rw[ap]at M aj;have O:=hid M;have t:=hid (And.intro d (And.intro z (And.intro aq (And.intro bk a1))));have bb:=hid bu;clear ar M ap d z aq bk a1 a2 a5 bu hf;by_cases C:g[n].kids =[]
   ·have hr:=O.out;rw[if_pos C]at hr;(have e1:decide ((0:Int)<(g[n].kids.length :Int))=false:=by simp[C]);(have b7:decide (0<g[n].kids.length)=false:=by simp[C]);have J:=hid (show zBC ds g=if g[n].leaf =true then some c else none from by rw[b5.out,hr];simp only;rw[zBs hn]);clear C hr O aj hx;generalize g[n]=nd at*
    cases bs:nd.leaf with
    |true=>
     rw[bs]at J c0;simp only[if_true]at J;go_wp2;refine bodyPost_ret (v:= .tuple #[.slice AC ds.length P,.bool true]) (by simp[results,results39,go_sem]) rfl ?_;rw[J.out];refine⟨_,rfl,?_,t.out.2.1⟩;have ho:=t.out.2.2.1;have bp:=zK.of_own (xs:=c) (by rw[<-t.out.2.2.2.2]at ho;exact ho) t.out.2.2.2.1 (by have:=t.out.2.2.2.2;omega);rw[t.out.2.2.2.2]at bp;exact bp.mono λb hb=>by omega
    |false=>
     rw[bs]at J c0;simp only[Bool.false_eq_true,if_false]at J;go_wp2;refine bodyPost_ret (v:= .tuple #[.slice none 0 0,.bool false]) (by simp[results,results39,go_sem]) rfl ?_;rw[J.out];exact⟨_,rfl,zK.nil _ _,t.out.2.1⟩
   ·have hr:=O.out;rw[if_neg C]at hr;have I:=aj.out C;(have e1:decide ((0:Int)<(g[n].kids.length :Int))=true:=by simp;exact List.length_pos_iff.2 C);have b7:decide (0<g[n].kids.length)=true:=by simp;exact List.length_pos_iff.2 C
    have HI:=hid (λ(W:World)(hW:Bw wv W)=>zGu 70 #[.pointer (some ⟨w.heap.size,0,none⟩)] Tryz.egLeast1 Z (.slice VK g[n].kids.length ah) g[n].kids (live g) W (a9.out.keep (.of_below (t.out.2.1.trans (hW.mono t.out.2.1.size))))
     (λk hk W2 bg=>zRe w.heap.size Z (.slice (some ⟨b,cj,none⟩) g.length bd) g k W2 ((bg.cell (p:=⟨w.heap.size,0,none⟩) (show w.heap.size<W.heap.size from by have:=hW.size;omega)).trans (brd hW g0 ak)) (HG.out.keep (.of_below (t.out.2.1.trans ((hW.mono t.out.2.1.size).trans (bg.mono (by have:=t.out.2.1.size;have:=hW.size;omega)))))) (I.2.2 k hk).1))
    rw[zMy _ _ I.2.1]at HI;have hq:=I.2.1;have ab:=I.1.len;have ca:=I.1.f0;have cu:=I.1.f1;have br:=zBU hq;have af:=I.2.2 _ br;have i:=hid (And.intro af.1 (And.intro af.2 bb.out));have J:=hid hr;clear hr I O aj bb C br af hx;generalize cf:g[n].kids.findIdx (live g)=q at*;have ce:nAt g ((n:Nat):Int)=g[n]:=zBs hn;have ba:=hid ab;clear cf ce ab;generalize g[n]=nd at*;obtain⟨nl,nf,nc,nk⟩:=nd;simp only at*;obtain⟨G,rfl⟩:=Int.eq_ofNat_of_zero_le ca;(have cv:G<ds.length:=by omega);(have cp:((G:Nat):Int)<(ds.length:Int):=by omega);(have co:(0:Int)<=((G:Nat):Int):=by omega);(have c9:((q:Nat):Int)<(nk.length:Int):=by omega);(have c8:(0:Int)<=((q:Nat):Int):=by omega);have b3:=hid (λo=>zF wv o);(go_wp2_with fail);refine(HI.out _ (b3.out _)).mono ?_;rintro e w3 ⟨rfl,a0⟩;have ag:=(Blk.new wv 131 #[.bool nl,.int .i64 (G:Int),.slice VC nc.length ai,.slice VK nk.length ah]).below a0 (by simp);have Q:Bw wv w3:=zD (zF wv _) a0;have av:=t.out.2.1.trans (Q.mono t.out.2.1.size);have n1:=ag.at1;have n2:=ag.at2;have n3:=ag.at3;have ci:=ag.lt;obtain⟨kb,aw,rfl,-,bq,a4⟩:=a9.out.at_ hq;(have cd:nk.getD q 0=nk[q]:=by simp[List.getD_eq_getElem?_getD,hq]);rw[cd]at J i;have bo:=t.out.1.below Q t.out.1.lt;have ad:w3.ownsRow w1.heap.size 3 1 (.slice AC ds.length P) ds.length (c.map (.int .i64)):=zX t.out.2.2.1 (zA.of_below (Z:=λ_=>True) Q) (λ_ _=>trivial);(have cm:=λk hk=>t.out.2.2.1.lt k hk);have j:=hid (And.intro bo (And.intro av (And.intro ad ag)));clear c0 c1 c2 c3 g0 ak a0 Q av bo ad HI;generalize nk[q]=kx at*;by_cases ae:0<q
    ·(have e2:decide ((0:Int)<((q:Nat):Int))=true:=by simp;exact ae);(have cs:decide (0<q)=true:=by simp;exact ae);rw[if_pos ae]at J;obtain⟨p,rfl⟩:∃p,q=p+1:=⟨q-1,by omega⟩;rw[Nat.add_sub_cancel]at J;(have a6:p<nc.length:=by have h:=ba.out;omega);obtain⟨ub,R,rfl,-,bw,bx⟩:=a8.out.at_ a6;(have b0:nc.getD p 0=nc[p]:=by simp[List.getD_eq_getElem?_getD,a6]);have bz:=a8.out.fit _ (List.getElem_mem a6);rw[b0]at J;have a7:=brd j.out.2.1 bx bw;have bv:=lt_of_cell a7;(have c6:((p:Nat):Int)<(nc.length:Int):=by omega);(have cz:(0:Int)<=((p:Nat):Int):=by omega);have b8:=hid bz;(have dc:IntKind.i64.wrap ((p:Nat):Int)=((p:Nat):Int):=by rw[IntKind.wrap_i64];omega);clear ae bx b0 bw bz;generalize nc[p]=u at*
     have hA:∃L,AC=some ⟨L,0,none⟩/\w1.heap.size<=L:=by
      rcases j.out.2.2.1.2 with⟨_,h0⟩|⟨L,c',cur',hv,hge,_⟩
      ·omega
      ·injection hv with hv;exact⟨L,hv,hge⟩
     obtain⟨L,rfl,cw⟩:=hA
     have bm:(c.map (Value.int .i64))[G]? =some (.int .i64 (c.getD G 0)):=by
      have a1:=t.out.2.2.2.2;rw[List.getElem?_map,List.getElem?_eq_getElem (by omega)];simp[List.getD_eq_getElem?_getD,show G<c.length by omega]
     obtain⟨a3,bi⟩:=zNM j.out.2.2.1 bm;have ao:=lt_of_cell a3;have cr:=(t.out.2.2.1.lt L rfl).2;have bc:=hid (zO8 (show w3.drew.ownsRow w1.heap.size 3 1 (.slice (some ⟨L,0,none⟩) ds.length P) ds.length (c.map (.int .i64)) from j.out.2.2.1) G (.int .i64 u));have E:zA (λb=>b≠L) w3 (w3.drew.setCell ⟨L,G,none⟩ (.int .i64 u)):=(zA.refl _ _).drew.setCell (λ_ h=>h rfl) _;have db:=j.out.2.1.size;have ck:=X.out.1.lt;have N:=hid (And.intro (j.out.1.keep E (by omega)) (And.intro (show Bw w (w3.drew.setCell ⟨L,G,none⟩ (.int .i64 u)) from j.out.2.1.trans ⟨E.os,E.tape,E.output,E.size,λb hb=>E.block b (by omega) (by omega)⟩) (j.out.2.2.2.keep E (by omega))));(have cc:kb≠L:=by omega);have k3:=E.cell (p:=⟨kb,aw+(p+1),none⟩) cc (brd j.out.2.1 a4 bq);have b4:=hid k3;go_wp2;refine zL 10 (λW=>W.cell? ⟨wv.heap.size,1,none⟩=some (.int .i64 (G:Int))/\W.cell? ⟨wv.heap.size,2,none⟩=some (.slice (some ⟨ub,R,none⟩) nc.length ai)/\W.cell? ⟨ub,R+p,none⟩=some (.int .i64 u)) (by kernel_rfl) ?_;have Y:(λW:World=>W.cell? ⟨wv.heap.size,1,none⟩=some (.int .i64 (G:Int))/\W.cell? ⟨wv.heap.size,2,none⟩=some (.slice (some ⟨ub,R,none⟩) nc.length ai)/\W.cell? ⟨ub,R+p,none⟩=some (.int .i64 u)) w3.drew:=⟨n1,n2,a7⟩;have bn:w3.drew.cell? ⟨L,G,none⟩=some (.int .i64 (c.getD G 0)):=a3;have bj:w3.drew.frozen? ⟨L,G,none⟩=false:=bi;have bl:L<w3.drew.heap.size:=ao;clear a3 bi ao n1 n2 n3 ci a7 bv k3 E bm;generalize w3.drew=w6 at*
     (refine tkQ 0 Y ?_;simp only[nr])
     (refine tkQ 1 Y ?_;simp only[nr])
     (refine tkS 2 ?_ Y ?_ ?_;rotate_left;intro w aa;obtain⟨h1,h2,h3⟩:=aa;go_simp;(try with_reducible rfl);simp only[nr])
     (refine tkQ 3 Y ?_;simp only[nr])
     (refine tkS 4 ?_ Y ?_ ?_;rotate_left;intro w aa;obtain⟨h1,h2,h3⟩:=aa;go_simp;(try with_reducible rfl);simp only[nr])
     (refine tkQ 5 Y ?_;simp only[nr])
     (refine tkQ 6 Y ?_;simp only[nr])
     (refine tkQ 7 Y ?_;simp only[nr])
     (refine tkS 8 ?_ Y ?_ ?_;rotate_left;intro w aa;obtain⟨h1,h2,h3⟩:=aa;go_simp;(try with_reducible rfl);simp only[nr])
     (refine tkQ 9 Y ?_;simp only[nr])
     refine wS1 10 (λK hK=> ?_);(go_wp2_with fail);refine hK _ _ (Or.inl rfl) ?_;clear hK K Y bn bj bl
     (try simp only[nr])
     refine wSd ?_ _;have n3:(w6.setCell ⟨L,G,none⟩ (.int .i64 u)).cell? ⟨wv.heap.size,3,none⟩=some (.slice (some ⟨kb,aw,none⟩) nk.length ah):=N.out.2.2.cell 3;have dd:=N.out.2.2.lt;have k3:=b4.out;have ch:=lt_of_cell k3;generalize w6.setCell ⟨L,G,none⟩ (.int .i64 u)=w7 at*;go_wp2;go_roundw
     case rel=>
      refine⟨kx,c.set G u,m,rfl,i.out.1,by have h1:=i.out.2.1;have h2:=i.out.2.2;omega,by rw[List.length_set];exact t.out.2.2.2.2,?_,N.out.1,N.out.2.1,λy hy=> ?_,J⟩
      ·have h:=bc.out;rw[List.map_set];exact h
      ·rcases List.mem_or_eq_of_mem_set hy with hy|rfl
       ·exact t.out.2.2.2.1 y hy
       ·exact b8.out
     case measure=>
      have h1:=i.out.2.1;simpa[intOf]using h1
    ·(obtain rfl:q=0:=by omega);rw[if_neg (by omega)]at J;have k3:=brd j.out.2.1 a4 bq;rw[Nat.add_zero]at k3;have ch:=lt_of_cell k3;clear ae a4;go_wp2;go_roundw;case rel=>exact⟨kx,c,m,rfl,i.out.1,by have h1:=i.out.2.1;have h2:=i.out.2.2;omega,t.out.2.2.2.2,j.out.2.2.1,j.out.1,j.out.2.1,t.out.2.2.2.1,J⟩
     case measure=>
      have h1:=i.out.2.1;simpa[intOf]using h1
 ·have b1:zB3 ds g=false:=by simpa using hv
  rw[b1]at HV;have J:=hid (HU.out.trans (if_neg hv));clear hv b1 HU;go_wp2_with fail
  refine HV.out.mono ?_;rintro e w1 ⟨rfl,T⟩;have H:=V.out.trans (T.mono V.out.size);go_wp2;refine bodyPost_ret (v:= .tuple #[.slice none 0 0,.bool false]) (by simp[results,results39,go_sem]) rfl ?_;rw[J.out];exact⟨_,rfl,zK.nil _ _,H⟩
end Go.Proofs.YthpocbeoanipbaaGreatDoor
