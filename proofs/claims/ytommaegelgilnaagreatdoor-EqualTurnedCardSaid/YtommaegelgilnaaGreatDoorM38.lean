/- Lemmas. -/
import Derived.Test.YtommaegelgilnaaGreatDoorM35
set_option linter.all false
namespace Go.Proofs.YtommaegelgilnaaGreatDoor
open Go.RowKit Go.Proofs.Tryz
set_option maxHeartbeats 8000000
set_option maxRecDepth 100000
variable {F:Nat->Prop}{X base g i j k n:Nat}{d x:Int}{e:TypeId}{l:List Int}{p:Nat->Bool}{v:Value}{w:World}{xs:List Value}{z:zp}
theorem zMz(Z:zD)(vl vd va vz vc:Value)(l:List zF)(s:zM)(w:World)(hl:zn Z w vl l)(h:zBq Z w vd va vz vc s)(hz:∀b,Z b->b<w.heap.size)(hs:∀m∈l,zH m.when_<=1000000):
  Calls prog 48 #[vl,.agg #[vd,va,vz,vc,.int .i64 s.signed,.int .i64 s.now],.slice none 0 0] w λe w'=>∃v,e= .returned (.tuple #[v,.int .i64 (zP l s).2])/\zFJ (λb=>w.heap.size<=b) w' v (zP l s).1/\Bw w w':=by
 have gg:∀(fn:Fn)(first er:Array Value)(w:World),(Instr.makeFunc fn first er).run prog w= .ok (.func fn first er) w:=λ_ _ _ _=>rfl
 have gh:= @run_makeMap prog;have d5:=hid (λW(hW:Bw w W)=>zQd Z vl vd va vz vc l s W (zn.keep hl (.of_below_lt hW λb _ G=>hz b G)) (h.keep (.of_below_lt hW λb _ G=>hz b G)) (λb G=>Nat.lt_of_lt_of_le (hz b G) hW.size) hs);have b2:=hid (λ(B0 B9 B4 M:Nat)(kd:Int)(kv:List (ByteArray × Value)) W(hW:Bw w W)=>zQe Z B0 B9 B4 M vl vd va vz vc l s kd kv W (zn.keep hl (.of_below_lt hW λb _ G=>hz b G)) (h.keep (.of_below_lt hW λb _ G=>hz b G)) (λb G=>Nat.lt_of_lt_of_le (hz b G) hW.size) hs);have hS:w.heap.size<=w.heap.size:=Nat.le_refl _;obtain⟨LA,al,rfl,gf⟩:=zj.form hl;obtain⟨AA,af,rfl,fa,fb,f8⟩:=h.a.form;obtain⟨DA,ai,rfl⟩:∃A2 az,vd= .slice A2 s.dom.length az:=by obtain⟨⟨A2,az,e,_⟩,_⟩:=h.d;exact⟨A2,az,e⟩
 have dw:=hid (λk(hk:k<s.auths.length)=>Names.at_ h.a hk);have HZ:=hid hz
 have ec:=hid (show ∀m∈l,zB2 m.id from λm hm=>by
  obtain⟨j,hj,rfl⟩:=List.getElem_of_mem hm;obtain⟨b,E,cs,_,_,_,ew⟩:=zj.at_ hl hj;obtain⟨_,_,_,hf⟩:=ew.form
  exact ew.choose_spec.2.2.1)
 have cr:=hid ((zG w (.cells #[.slice LA l.length al] 22)).alloc (by simp) (.cells #[.slice DA s.dom.length ai,.slice AA s.auths.length af,vz,vc,.int .i64 s.signed,.int .i64 s.now] 30) |>.alloc (by simp;omega) (.cells #[.int .i64 0,.slice none 0 0,.slice none 0 0] 36));have b8:=hid (((Blk.new w 22 #[.slice LA l.length al]).alloc (.cells #[.slice DA s.dom.length ai,.slice AA s.auths.length af,vz,vc,.int .i64 s.signed,.int .i64 s.now] 30)).alloc (.cells #[.int .i64 0,.slice none 0 0,.slice none 0 0] 36));have b9:=hid ((Blk.newE (w.alloc (.cells #[.slice LA l.length al] 22)) 30 #[.slice DA s.dom.length ai,.slice AA s.auths.length af,vz,vc,.int .i64 s.signed,.int .i64 s.now] (n:=w.heap.size+1) (by simp)).alloc (.cells #[.int .i64 0,.slice none 0 0,.slice none 0 0] 36));have ca:=hid (Blk.newE ((w.alloc (.cells #[.slice LA l.length al] 22)).alloc (.cells #[.slice DA s.dom.length ai,.slice AA s.auths.length af,vz,vc,.int .i64 s.signed,.int .i64 s.now] 30)) 36 #[.int .i64 0,.slice none 0 0,.slice none 0 0] (n:=w.heap.size+1+1) (by simp));have b4:=hid (show zP l s=if zDc l s≠0 then(zKw,zDc l s)else(zKx l s,0) from rfl);have eh:=hid (zBt (l:=l) (s:=s)).1;clear h hz hs hl fa fb;obtain⟨DS,es⟩:∃d,zP l s=d:=⟨_,rfl⟩;rw[es]at b4⊢;clear es;go_enter func48,ntmps48
 go_upto_region 1 with fail
 generalize ((w.alloc _).alloc _).alloc _=w3 at*;obtain⟨o0,av,ol⟩:=b8.out.d1;obtain⟨p0,di,p1,dj,p2,dk,p3,dl,p4,dm,p5,dn,pl⟩:=b9.out.d6;obtain⟨q0,dp,q1,dq,q2,dr,ql⟩:=ca.out.d3;go_wp2_with fail
 refine(d5 _ cr).mono ?_;rintro e w4 ⟨rfl,G⟩;have bd:=hid (zC cr G);have em:=hid (b8.below G b8.lt);have en:=hid (b9.below G b9.lt);have aq:=hid (ca.below G ca.lt);clear G o0 av ol p0 p1 p2 p3 p4 p5 di dj dk dl dm dn pl q0 q1 q2 dp dq dr ql cr b8 b9 ca d5;generalize zDc l s=ck at*;by_cases cc:ck=0
 ·subst cc;go_upto_region 5 with fail
  have b0:=hid ((bd.alloc bd.size (.map #[] 0)).alloc (by have:=bd.size;simp;omega) (.cells #[.map (some w4.heap.size)] 142));have eg:=hid ((zS.made w4 encS).of_block (Below.heap_alloc _ (.cells #[.map (some w4.heap.size)] 142) _ (by simp)));have db:=hid (Blk.newE (w4.alloc (.map #[] 0)) 142 #[.map (some w4.heap.size)] (n:=w4.heap.size+1) (by simp));have eo:=hid ((em.alloc (.map #[] 0)).alloc (.cells #[.map (some w4.heap.size)] 142));have da:=hid ((en.alloc (.map #[] 0)).alloc (.cells #[.map (some w4.heap.size)] 142));have ep:=hid ((aq.alloc (.map #[] 0)).alloc (.cells #[.map (some w4.heap.size)] 142));have f7:w.heap.size+1+1<w4.heap.size:=aq.lt;clear em en aq bd;generalize (w4.alloc (.map #[] 0)).alloc _=w5 at*;generalize w4.heap.size=U at*;have bg:=hid (show DS=(zKx l s,0) from b4);obtain⟨et,a6,e8,e7⟩:=eh trivial;have ap:=hid (zD6.1 et);clear b4 eh e8 e7 et
  have dy:=hid (λk(hk:k<s.auths.length)=>(show ∃b E,AA=some ⟨b,E,none⟩/\b<w.heap.size/\w5.cell? ⟨b,E+k,none⟩=some (.string s.auths[k]) from by
   obtain⟨b,E,e,gj,K,hc⟩:=dw k hk
   exact⟨b,E,e,K,(b0.cell K).trans hc⟩))
  have ek:=hid (λk(hk:k<s.auths.length)=>(show s.auths[k]∉s.auths.take k from by
   have:=(zJF (ap.a k hk).1).2.2
   simpa[hk]using this))
  clear dw;obtain⟨p0,di,p1,dj,p2,dk,p3,dl,p4,dm,p5,dn,pl⟩:=da.out.d6;go_wp2_with fail
  clear p0 p1 p2 p3 p4 p5 di dj dk dl dm dn pl;go_loopw[10,11,35] (λ_ _ i wr=>∃(k:Nat)(kv:List (ByteArray × Value)),k<=s.auths.length/\i= .int .i64 k/\zS encS wr U kv/\Hid (AtK kv s.auths k)/\zA (λb=>b≠U) w5 wr) (λ_ _ i _=>s.auths.length-(intOf i).toNat);case atStart=>exact⟨0,[],Nat.zero_le _,rfl,eg.out,λx=>by simp[zAA],zA.refl _ _⟩
  case round=>
   obtain⟨k,kv,hk,rfl,o,J,C⟩:=hrel;by_cases K:k<s.auths.length
   ·obtain⟨b,E,rfl,ar,hc⟩:=dy k K;have ao:=hid (J.add K (ek k K));have fc:=C.cell (p:=⟨b,E+k,none⟩) (show b≠U by omega) hc;have ga:=lt_of_cell fc;have h9:=db.keep C (show U+1≠U by omega);have fz:=h9.at0;have f1:=h9.lt;have B:=hid o;have g:=hid C;(have de:(k:Int)<(s.auths.length:Int):=by omega);clear hc h9 o C J;generalize s.auths[k]=N at*;go_wp2_with(at_mapUpdate;refine zA6 rfl (.tmp 40) (.tmp 41) _ rfl (zAK (P:=prog) (k:=9) underlying9) (e:=3) underlying142 rfl B N rfl ?_;intro w9 ac a7 cp cn co);go_roundw;(case rel=>exact⟨k+1,_,by omega,by go_num,ac,ao.out,g.trans a7⟩);case measure=>simp[intOf];omega
   (obtain rfl:k=s.auths.length:=by omega);have B:=hid o;have g:=hid C;have bz:=hid J.out;clear o C J;(go_upto_region 12 with fail);have ct:=hid (zAG b0 g (by omega) b0.size);have h9:=hid (db.keep g (show U+1≠U by omega));have h0:=hid (eo.keep g (show w.heap.size≠U by omega));have h4:=hid (da.keep g (show w.heap.size+1≠U by omega));have h6:=hid (ep.keep g (show w.heap.size+1+1≠U by omega));have a2:=hid (zS.made wr zE9);have e9:=B.lt;have fk:=h9.lt;have cu:=hid (ct.alloc ct.size (.map #[] 0));have k9:=hid (h9.alloc (.map #[] 0));have k0:=hid (h0.alloc (.map #[] 0));have k4:=hid (h4.alloc (.map #[] 0));have k6:=hid (h6.alloc (.map #[] 0));have kM:=hid (B.of_block (Below.heap_alloc wr (.map #[] 0) _ e9));have b5:=hid (show ∀x,zAA kv x=if placeOf s.auths x<s.auths.length then some (.int .i64 ((placeOf s.auths x:Nat):Int))else none from bz);clear ct h9 h0 h4 h6 B g bz b0 db eo da ep eg ek dy;(have hX:(wr.alloc (.map #[] 0)).heap.size =wr.heap.size+1:=by simp);generalize wr.alloc (.map #[] 0)=w7 at*;generalize wr.heap.size=M6 at*;(go_wp2_with fail);refine(b2 w.heap.size (U+1) (w.heap.size+1) U 2 kv w7 cu a6 ap.z ap.k k0 k9 k4 kM b5).mono ?_;rintro e w8 ⟨v2,rfl,dg,ab⟩;have cv:=hid (zC cu ab);have g9:=hid (k9.below ab k9.lt);have g0:=hid (k0.below ab k0.lt);have g4:=hid (k4.below ab k4.lt);have g6:=hid (k6.below ab k6.lt);have gM:=hid (kM.of_block (ab.block U kM.lt));have gY:=hid (a2.of_block (ab.block M6 a2.lt));(have gi:M6+1<=w8.heap.size:=by have:=ab.size;omega);obtain⟨A2,az,rfl,gc⟩:=zj.form dg;have du:=hid (λk(hk:k<(l.filter (z1 s 2)).length)=>zn.cells dg (P:=λb=>b≠M6) (λb G=>by rcases G with G|G;(have:=HZ b G;omega);omega) hk);have e4:(l.filter (z1 s 2)).length <=200:=Nat.le_trans (List.length_filter_le _ _) a6;have d8:=hid (show ∀m:zF,zJZ l s m=(l.filter (z1 s 2)).any λx=>decide (x.auth=m.auth)&&decide (x.target=m.id) from λ_=>rfl);clear ab dg a2 cu k9 k0 k4 k6 kM hX;generalize l.filter (z1 s 2)=X2 at*;(go_wp2_with fail);go_loopw[15,49] (λ_ i wr=>∃(k:Nat)(kv:List ((ByteArray × ByteArray) × Value)),k<=X2.length/\i= .int .i64 k/\zS zE9 wr M6 kv/\Hid (zFI kv λp=>(X2.take k).any λx=>decide (x.auth=p.1)&&decide (x.target=p.2))/\zA (λb=>b≠M6) w8 wr) (λ_ i _=>X2.length-(intOf i).toNat);case atStart=>exact⟨0,[],Nat.zero_le _,rfl,gY.out,λx=>by simp[zAA],zA.refl _ _⟩
   case round=>
    obtain⟨k,fd,hk,rfl,o,J,C⟩:=hrel;by_cases K:k<X2.length
    ·have ae:=hid (zXN K);obtain⟨b,E,O,f,rfl,ar,dc⟩:=du k K;obtain⟨c0,c1,c2,c3,c4,c5,c6,c7,c8,c9,ag,ah⟩:=zBQ (λj u hu=>C.cell (p:=⟨b,_,none⟩) ar (dc j u hu));have bn:=lt_of_cell c0;clear dc
     have ao:=hid (zFI.add (q:=λp=>(X2.take (k+1)).any λx=>decide (x.auth=p.1)&&decide (x.target=p.2)) J (X2[k].auth,X2[k].target) λy=>by
      rw[ae.out,List.any_append]
      simp[Prod.ext_iff])
     generalize X2[k]=m at*;obtain⟨id,N,D,Q,⟨op,nm,X,nu,kids⟩,Y,un,wi⟩:=m;simp only[Fm.op,Fm.name,Fm.cmp,Fm.num,Fm.kids]at ao c0 c1 c2 c3 c4 c5 c6 c7 c8 c9 ag ah;generalize kids.length=kl at*;(have de:(k:Int)<(X2.length:Int):=by omega);have B:=hid (o.of_block (Below.heap_alloc wr (.cells #[.string id,.string N,.int .i64 D,.string Q,.int .i64 op,.string nm,.int .i64 X,.int .i64 nu,.slice O kl f,.int .i64 Y,.int .i64 un,.int .i64 wi] 54) _ o.lt));have g:=hid (C.alloc (.cells #[.string id,.string N,.int .i64 D,.string Q,.int .i64 op,.string nm,.int .i64 X,.int .i64 nu,.slice O kl f,.int .i64 Y,.int .i64 un,.int .i64 wi] 54));have BX:=Blk.new wr 54 #[.string id,.string N,.int .i64 D,.string Q,.int .i64 op,.string nm,.int .i64 X,.int .i64 nu,.slice O kl f,.int .i64 Y,.int .i64 un,.int .i64 wi];have ex:=o.lt;clear o C J ae;(go_upto_region 15 with fail);generalize wr.alloc _=w9 at*;generalize wr.heap.size=X9 at*;clear c0 c1 c2 c3 c4 c5 c6 c7 c8 c9 ag ah bn;have b1:=BX.at1;have b3:=BX.at3;have bl:=BX.lt;clear BX;go_wp2_with(at_mapUpdate;refine zA6 rfl (.tmp 53) (.tmp 58) _ rfl zJL (e:=4) underlying146 rfl B (N,Q) rfl ?_;intro ds ac a7 cp cn co);go_roundw;(case rel=>exact⟨k+1,_,by omega,by go_num,ac,ao.out,g.trans a7⟩);case measure=>simp[intOf];omega
    (obtain rfl:k=X2.length:=by omega);have d7:=hid (show zFI fd (λp=>X2.any λx=>decide (x.auth=p.1)&&decide (x.target=p.2)) from by have:=J.out;rwa[List.take_length]at this);have g:=hid C;have B:=hid o;clear o C J du e4 gY;have cw:=hid (zAG cv g (by omega) cv.size);have f9:=hid (g9.keep g (show U+1≠M6 by omega));have f0:=hid (g0.keep g (show w.heap.size≠M6 by omega));have f4:=hid (g4.keep g (show w.heap.size+1≠M6 by omega));have f6:=hid (g6.keep g (show w.heap.size+1+1≠M6 by omega));have fM:=hid (gM.of_block (g.block U gM.lt (show U≠M6 by omega)));clear cv g9 g0 g4 g6 gM g;have cx:=hid (zS.made wr encS);have eu:=B.lt;have ba:=hid (cw.alloc cw.size (.map #[] 0));have k9:=hid (f9.alloc (.map #[] 0));have k0:=hid (f0.alloc (.map #[] 0));have k4:=hid (f4.alloc (.map #[] 0));have k6:=hid (f6.alloc (.map #[] 0));have kM:=hid (fM.of_block (Below.heap_alloc wr (.map #[] 0) _ fM.lt));have kY:=hid (B.of_block (Below.heap_alloc wr (.map #[] 0) _ eu));(have hX:(wr.alloc (.map #[] 0)).heap.size =wr.heap.size+1:=by simp);clear cw f9 f0 f4 f6 fM B;(go_upto_region 19 with fail);generalize wr.alloc (.map #[] 0)=ds at*;generalize wr.heap.size=M9 at*;(go_wp2_with fail);refine(b2 w.heap.size (U+1) (w.heap.size+1) U 1 kv ds ba a6 ap.z ap.k k0 k9 k4 kM b5).mono ?_;rintro e T ⟨v1,rfl,ac,I⟩;have cd:=hid (zC ba I);have g9:=hid (k9.below I k9.lt);have g0:=hid (k0.below I k0.lt);have g4:=hid (k4.below I k4.lt);have g6:=hid (k6.below I k6.lt);have gM:=hid (kM.of_block (I.block U kM.lt));have gY:=hid (kY.of_block (I.block M6 kY.lt));have g3:=hid (cx.of_block (I.block M9 cx.lt));(have fp:M9+1<=T.heap.size:=by have:=I.size;omega);obtain⟨A1,fi,rfl,gb⟩:=zj.form ac;have cf:=hid (show ∀b,(Z b\/ds.heap.size<=b)->b≠M9 from λb G=>by rcases G with G|G;(have:=HZ b G;omega);omega)
    have dt:=hid (λk(hk:k<(l.filter (z1 s 1)).length)=>(show ∃b E O f,A1=some ⟨b,E,none⟩/\(b≠M9/\b<T.heap.size)/\∀j u,([.string (l.filter (z1 s 1))[k].id,.string (l.filter (z1 s 1))[k].auth,.int .i64 (l.filter (z1 s 1))[k].kind,.string (l.filter (z1 s 1))[k].target,.int .i64 (l.filter (z1 s 1))[k].when_.op,.string (l.filter (z1 s 1))[k].when_.name,.int .i64 (l.filter (z1 s 1))[k].when_.cmp,.int .i64 (l.filter (z1 s 1))[k].when_.num,.slice O (l.filter (z1 s 1))[k].when_.kids.length f,.int .i64 (l.filter (z1 s 1))[k].from_,.int .i64 (l.filter (z1 s 1))[k].until_,.int .i64 (l.filter (z1 s 1))[k].wind]:List Value)[j]? =some u->T.cell? ⟨b,E+k*12+j,none⟩=some u from by
     obtain⟨b,E,O,f,e,G,hc⟩:=zn.cells ac (P:=λb=>b≠M9) cf hk
     exact⟨b,E,O,f,e,⟨G,lt_of_cell (hc 0 _ rfl)⟩,hc⟩))
    have e3:(l.filter (z1 s 1)).length <=200:=Nat.le_trans (List.length_filter_le _ _) a6;have a1:=hid (show zD3 l s=(l.filter (z1 s 1)).filter (λm=> !zJZ l s m) from rfl);have ea:=hid (show ∀m∈l.filter (z1 s 1),zB2 m.id from λm hm=>ec m (List.mem_filter.1 hm).1);clear I ac cx ba k9 k0 k4 k6 kM kY hX cf;generalize l.filter (z1 s 1)=V at*;(obtain⟨lx,df⟩:∃lx:zF->Bool,lx=λm=> !zJZ l s m:=⟨_,rfl⟩);rw[<-df]at a1;have ef:=hid (show ∀m,lx m= !(X2.any λx=>decide (x.auth=m.auth)&&decide (x.target=m.id)) from λm=>by rw[df];simp only[d8.out]);clear df d8;(go_wp2_with fail);go_loopw[16,17,21,64] (λfe ff _ i wr=>∃(k:Nat)(kv:List (ByteArray × Value)),k<=V.length/\i= .int .i64 k/\zS encS wr M9 kv/\Hid (zFI kv λa=>((V.take k).filter lx).any λx=>decide (x.auth=a))/\Hid (Two T.heap.size wr fe ff (((V.take k).filter lx).map zF.id) (((V.take k).filter lx).map zF.id))/\zA (λb=>b<T.heap.size/\b≠M9) T wr) (λ_ _ _ i _=>V.length-(intOf i).toNat);case atStart=>exact⟨0,[],Nat.zero_le _,rfl,g3.out,λx=>by simp[zAA],⟨zBi _ _ _ _,zBi _ _ _ _,λk hk=>by simp[Value.ownBlock]at hk⟩,zA.refl _ _⟩
    case round=>
     obtain⟨k,ey,hk,rfl,o,J,ak,C⟩:=hrel;by_cases K:k<V.length
     ·have ae:=hid (zXN K)
      have L:=hid (show(V.take (k+1)).filter lx=(V.take k).filter lx++(if lx V[k]=true then[V[k]]else[]) from by
       rw[ae.out,List.filter_append];congr 1;simp only[List.filter];cases lx V[k]<;>rfl)
      have ev:((V.take k).filter lx).length <=k:=Nat.le_trans (List.length_filter_le _ _) (by rw[List.length_take];omega);obtain⟨b,E,O,f,rfl,ar,dc⟩:=dt k K;obtain⟨c0,c1,c2,c3,c4,c5,c6,c7,c8,c9,ag,ah⟩:=zBQ (λj u hu=>C.cell (p:=⟨b,_,none⟩) ⟨ar.2,ar.1⟩ (dc j u hu));have bn:=lt_of_cell c0;clear dc
      have ao:=hid (zFI.add (q:=λa=>((V.take k).filter lx++[V[k]]).any λx=>decide (x.auth=a)) J V[k].auth λy=>by
       rw[List.any_append];simp)
      have bz:=hid J.out;have H:=d7.look (V[k].auth,V[k].id);simp only[<-Bool.not_eq_eq_eq_not]at H;have bt:=ef V[k];generalize V[k]=m at*;obtain⟨id,N,D,Q,⟨op,nm,X,nu,kids⟩,Y,un,wi⟩:=m;simp only[Fm.op,Fm.name,Fm.cmp,Fm.num,Fm.kids]at ao L H bt c0 c1 c2 c3 c4 c5 c6 c7 c8 c9 ag ah;generalize kids.length=kl at*;(have de:(k:Int)<(V.length:Int):=by omega);have B:=hid (o.of_block (Below.heap_alloc wr (.cells #[.string id,.string N,.int .i64 D,.string Q,.int .i64 op,.string nm,.int .i64 X,.int .i64 nu,.slice O kl f,.int .i64 Y,.int .i64 un,.int .i64 wi] 54) _ o.lt));have a2:=hid ((gY.of_block (C.block M6 gY.lt ⟨by omega,by omega⟩)).of_block (Below.heap_alloc wr (.cells #[.string id,.string N,.int .i64 D,.string Q,.int .i64 op,.string nm,.int .i64 X,.int .i64 nu,.slice O kl f,.int .i64 Y,.int .i64 un,.int .i64 wi] 54) _ (Nat.lt_of_lt_of_le gY.lt C.size)));have g:=hid (C.alloc (.cells #[.string id,.string N,.int .i64 D,.string Q,.int .i64 op,.string nm,.int .i64 X,.int .i64 nu,.slice O kl f,.int .i64 Y,.int .i64 un,.int .i64 wi] 54));have cy:=hid ak.lt;have a5:=hid (ak.keep ((zA.refl _ wr).alloc (.cells #[.string id,.string N,.int .i64 D,.string Q,.int .i64 op,.string nm,.int .i64 X,.int .i64 nu,.slice O kl f,.int .i64 Y,.int .i64 un,.int .i64 wi] 54)));have BX:=hid (Blk.new wr 54 #[.string id,.string N,.int .i64 D,.string Q,.int .i64 op,.string nm,.int .i64 X,.int .i64 nu,.slice O kl f,.int .i64 Y,.int .i64 un,.int .i64 wi]);have e2:=hid C.size;have ex:=o.lt;clear o C J ae ak;(go_upto_region 22 with fail);generalize wr.alloc _=w9 at*;generalize wr.heap.size=X9 at*;clear c0 c1 c2 c3 c4 c5 c6 c7 c8 c9 ag ah bn;obtain⟨o0,av,o1,bw,ol⟩:=BX.out.d2;have a8:=zS.look (w:=w9) a2 zJL (t:=146) (e:=4) underlying146 (Tryz.zero4 _) (N,id) false;simp only[Bool.false_eq_true,if_false,zE9]at a8;rw[H]at a8;clear H;generalize (X2.any λx=>decide (x.auth=N)&&decide (x.target=id))=xb at*;cases xb
      ·have bs:lx ⟨id,N,D,Q,.mk op nm X nu kids,Y,un,wi⟩=true:=bt;rw[bs,if_pos rfl]at L;(have f5:(((V.take k).filter lx).map zF.id).length <=200:=by rw[List.length_map];omega);have e0:=hid (Nat.le_refl w9.heap.size);have a4:=hid (a5.keep ((zA.refl _ w9).alloc (.cells #[.string id] 9)));have fl:T.heap.size<=X9:=e2.out;(go_upto_region 24 with(at_builtin;refine zh rfl (.tmp 75) (.tmp 78) _ rfl underlying26 Tryz.eStrE rfl a4.a rfl (news:=[.string id]) rfl (one_cell (by simp)) (by simp[Value.oneCell']) (by unfold maxLen;omega) (by omega) (by have:=g.size;have:=e0.out;simp;omega) ?_;intro v5 w5 ad aj bm));have ci:=hid (a4.fst aj ad bm);have R:∀kk,(u16.ownBlock=some kk\/u17.ownBlock=some kk)->T.heap.size<=kk/\kk<X9:=cy.out;have cq:=hid ((BX.alloc (.cells #[.string id] 9)).grown aj (λe=>by have:=(R _ (.inl e)).2;omega));have ax:=hid ((B.of_block (Below.heap_alloc w9 (.cells #[.string id] 9) _ B.lt)).of_block (aj.block M9 (by have:=B.lt;simp;omega) (λe=>by have:=(R _ (.inl e.symm)).1;omega)));have bi:=hid ((g.alloc (.cells #[.string id] 9)).grown aj (λkk e br hz=>by have:=(R _ (.inl e)).1;omega));have fs:=hid (show w9.heap.size<=w5.heap.size from by have:=aj.size;simp at this;omega);have aw:=hid (show ∀kk,u17.ownBlock=some kk->T.heap.size<=kk/\kk<X9 from λkk e=>R kk (.inr e));clear aj ad bm a4 B g a5 BX R cy o0 av o1 bw ol a8 a2;obtain⟨o0,av,o1,bw,ol⟩:=cq.out.d2;(go_wp2_with fail);refine(Tryz.slices_Contains_string_empty _ _ _ _).mono ?_;rintro e w6 ⟨rfl,rfl⟩;have cz:=hid (ci.keep ((zA.refl _ w6).alloc (.cells #[.string id] 9)));(go_upto_region 26 with(at_builtin;refine zh rfl (.tmp 85) (.tmp 88) _ rfl underlying26 Tryz.eStrE rfl cz.b rfl (news:=[.string id]) rfl (one_cell (by simp)) (by simp[Value.oneCell']) (by unfold maxLen;omega) (by omega) (by have:=bi.size;simp;omega) ?_;intro v7 w7 bv bq cl));have cj:=hid (cz.snd bq bv cl);have ez:=hid ((cq.alloc (.cells #[.string id] 9)).grown bq (λe=>by have:=(aw _ e).2;omega));have ei:=hid ((ax.of_block (Below.heap_alloc w6 (.cells #[.string id] 9) _ ax.lt)).of_block (bq.block M9 (by have:=ax.lt;simp;omega) (λe=>by have:=(aw _ e.symm).1;omega)));have ed:=hid ((bi.alloc (.cells #[.string id] 9)).grown bq (λkk e br hz=>by have:=(aw _ e).1;omega));clear bq bv cl cz ax bi ci cq aw o0 av o1 bw ol;obtain⟨o0,av,o1,bw,ol⟩:=ez.out.d2;go_wp2_with(at_mapUpdate;refine zA6 rfl (.tmp 90) (.tmp 92) _ rfl (zAK (P:=prog) (k:=9) underlying9) (e:=4) underlying95 rfl ei N rfl ?_;intro gn ac a7 cp cn co);go_roundw
       case rel=>
        refine⟨k+1,_,by omega,by go_num,ac,by rw[L.out];exact ao.out,?_,ed.trans (a7.mono λb _ G=>G.2)⟩;rw[L.out,List.map_append];exact cj.keep (a7.mono λb _ G=>by have:=(cj.lt b G).1;omega)
       case measure=>simp[intOf];omega
      have bs:lx ⟨id,N,D,Q,.mk op nm X nu kids,Y,un,wi⟩=false:=bt;rw[bs,if_neg (by simp),List.append_nil]at L;(go_wp2_with fail);go_roundw;(case rel=>exact⟨k+1,ey,by omega,by go_num,B.out,by rw[L.out];exact bz.out,by rw[L.out];exact a5.out,g⟩);case measure=>simp[intOf];omega
     (obtain rfl:k=V.length:=by omega);have dx:=hid (show zFI ey (λa=>(zD3 l s).any λx=>decide (x.auth=a)) from by have:=J.out;rw[List.take_length]at this;rw[a1.out];exact this);have a5:=hid (show Two T.heap.size wr u16 u17 ((zD3 l s).map zF.id) ((zD3 l s).map zF.id) from by have:=ak.out;rw[List.take_length]at this;rw[a1.out];exact this);have g:=hid C;have B:=hid o;have ee:=hid (show ∀m∈zD3 l s,zB2 m.id from λm hm=>ea m (by rw[a1.out]at hm;exact(List.mem_filter.1 hm).1));(have f3:(zD3 l s).length <=200:=by rw[a1.out];exact Nat.le_trans (List.length_filter_le _ _) e3);clear o C J ak dt a1 ef ea;have bb:=hid (cd.trans (show Below w.heap.size T wr from⟨g.os,g.tape,g.output,g.size,λkk br=>g.block kk (by omega) ⟨by omega,by omega⟩⟩));have f9:=hid (g9.keep g ⟨g9.lt,by omega⟩);have f0:=hid (g0.keep g ⟨g0.lt,by omega⟩);have f4:=hid (g4.keep g ⟨g4.lt,by omega⟩);have f6:=hid (g6.keep g ⟨g6.lt,by omega⟩);have fM:=hid (gM.of_block (g.block U gM.lt ⟨gM.lt,by omega⟩));have e6:=g.size;clear cd g9 g0 g4 g6 gM g gY d7;(go_wp2_with fail);refine(b2 w.heap.size (U+1) (w.heap.size+1) U 3 kv wr bb a6 ap.z ap.k f0 f9 f4 fM b5).mono ?_;rintro e a9 ⟨v3,rfl,dh,aa⟩;have ce:=hid (zC bb aa);have k6:=hid (f6.below aa f6.lt);have k3:=hid (B.of_block (aa.block M9 B.lt));have ch:=hid (a5.keep (zA.of_below aa));have fq:=aa.size;obtain⟨A3,fj,rfl,gd⟩:=zj.form dh
     have dv:=hid (λk(hk:k<(l.filter (z1 s 3)).length)=>(show ∃b E O f,A3=some ⟨b,E,none⟩/\b<a9.heap.size/\∀j u,([.string (l.filter (z1 s 3))[k].id,.string (l.filter (z1 s 3))[k].auth,.int .i64 (l.filter (z1 s 3))[k].kind,.string (l.filter (z1 s 3))[k].target,.int .i64 (l.filter (z1 s 3))[k].when_.op,.string (l.filter (z1 s 3))[k].when_.name,.int .i64 (l.filter (z1 s 3))[k].when_.cmp,.int .i64 (l.filter (z1 s 3))[k].when_.num,.slice O (l.filter (z1 s 3))[k].when_.kids.length f,.int .i64 (l.filter (z1 s 3))[k].from_,.int .i64 (l.filter (z1 s 3))[k].until_,.int .i64 (l.filter (z1 s 3))[k].wind]:List Value)[j]? =some u->a9.cell? ⟨b,E+k*12+j,none⟩=some u from by
      obtain⟨b,E,O,f,e,G,hc⟩:=zn.cells dh (P:=λ_=>True) (λ_ _=>trivial) hk
      exact⟨b,E,O,f,e,lt_of_cell (hc 0 _ rfl),hc⟩))
     have e5:(l.filter (z1 s 3)).length <=200:=Nat.le_trans (List.length_filter_le _ _) a6;have bf:=hid (show zH7 l s=(l.filter (z1 s 3)).filter (λm=>(zD3 l s).any λx=>decide (x.auth=m.target)) from rfl);have eb:=hid (show ∀m∈(l.filter (z1 s 3)),zB2 m.id from λm hm=>ec m (List.mem_filter.1 hm).1);clear aa dh bb f9 f0 f4 f6 fM B a5 b2 b5;have HV:=hid (show zKx l s=if zD3 l s=[]then⟨1,[],[]⟩else if zH7 l s=[]then⟨2,(zD3 l s).map zF.id,[]⟩else⟨3,(zD3 l s).map zF.id,(zH7 l s).map zF.id⟩ from rfl);generalize (l.filter (z1 s 3))=X3 at*;generalize zD3 l s=LF at*;generalize zH7 l s=BK at*;generalize zKx l s=VS at*;(obtain⟨bx,dd⟩:∃bx:zF->Bool,bx=λm=>LF.any λx=>decide (x.auth=m.target):=⟨_,rfl⟩);rw[<-dd]at bf;have d0:=hid (show ∀m,bx m=LF.any λx=>decide (x.auth=m.target) from λm=>by rw[dd]);clear dd;(go_wp2_with fail);go_loopw[18,23,97] (λfg _ i wr=>∃(k:Nat),k<=X3.length/\i= .int .i64 k/\Hid (wr.ownsRow a9.heap.size 9 1 fg (((X3.take k).filter bx).map zF.id).length ((((X3.take k).filter bx).map zF.id).map .string))/\Bw a9 wr) (λ_ _ i _=>X3.length-(intOf i).toNat);case atStart=>exact⟨0,Nat.zero_le _,rfl,zBi _ _ _ _,Below.refl _ _⟩
     case round=>
      obtain⟨k,hk,rfl,bu,F⟩:=hrel;by_cases K:k<X3.length
      ·have ae:=hid (zXN K)
       have L:=hid (show(X3.take (k+1)).filter bx=(X3.take k).filter bx++(if bx X3[k]=true then[X3[k]]else[]) from by
        rw[ae.out,List.filter_append];congr 1;simp only[List.filter];cases bx X3[k]<;>rfl)
       (have ev:(((X3.take k).filter bx).map zF.id).length <=k:=by rw[List.length_map];exact Nat.le_trans (List.length_filter_le _ _) (by rw[List.length_take];omega));obtain⟨b,E,O,f,rfl,ar,dc⟩:=dv k K;obtain⟨c0,c1,c2,c3,c4,c5,c6,c7,c8,c9,ag,ah⟩:=zBQ (λj u hu=>(F.cell (p:=⟨b,_,none⟩) ar).trans (dc j u hu));have bn:=lt_of_cell c0;clear dc;have H:=dx.look X3[k].target;have bp:=d0 X3[k];generalize X3[k]=m at*;obtain⟨id,N,D,Q,⟨op,nm,X,nu,kids⟩,Y,un,wi⟩:=m;simp only[Fm.op,Fm.name,Fm.cmp,Fm.num,Fm.kids]at L H bp c0 c1 c2 c3 c4 c5 c6 c7 c8 c9 ag ah;generalize kids.length=kl at*;(have de:(k:Int)<(X3.length:Int):=by omega);have B:=hid ((k3.of_block (F.block M9 k3.lt)).of_block (Below.heap_alloc wr (.cells #[.string id,.string N,.int .i64 D,.string Q,.int .i64 op,.string nm,.int .i64 X,.int .i64 nu,.slice O kl f,.int .i64 Y,.int .i64 un,.int .i64 wi] 54) _ (Nat.lt_of_lt_of_le k3.lt F.size)));have a0:=hid (F.alloc F.size (.cells #[.string id,.string N,.int .i64 D,.string Q,.int .i64 op,.string nm,.int .i64 X,.int .i64 nu,.slice O kl f,.int .i64 Y,.int .i64 un,.int .i64 wi] 54));have a3:=hid (bu.alloc (.cells #[.string id,.string N,.int .i64 D,.string Q,.int .i64 op,.string nm,.int .i64 X,.int .i64 nu,.slice O kl f,.int .i64 Y,.int .i64 un,.int .i64 wi] 54));have BX:=hid (Blk.new wr 54 #[.string id,.string N,.int .i64 D,.string Q,.int .i64 op,.string nm,.int .i64 X,.int .i64 nu,.slice O kl f,.int .i64 Y,.int .i64 un,.int .i64 wi]);have ex:a9.heap.size<=wr.heap.size:=F.size;have cy:=hid (show ∀kk,u18.ownBlock=some kk->kk<wr.heap.size from λkk e=>(bu.lt kk e).2);clear F bu ae;(go_upto_region 31 with fail);generalize wr.alloc _=fh at*;generalize wr.heap.size=X9 at*;clear c0 c1 c2 c3 c4 c5 c6 c7 c8 c9 ag ah bn;obtain⟨o0,av,o1,bw,o2,gl,o3,gm,ol⟩:=BX.out.d4;have a8:=zS.look (w:=fh) B (zAK (P:=prog) (k:=9) underlying9) (t:=95) (e:=4) underlying95 (Tryz.zero4 _) Q false;simp only[Bool.false_eq_true,if_false,encS]at a8;rw[H]at a8;clear H;generalize (LF.any λx=>decide (x.auth=Q))=xb at*;cases xb
       ·have bo:bx ⟨id,N,D,Q,.mk op nm X nu kids,Y,un,wi⟩=false:=bp;rw[bo,if_neg (by simp),List.append_nil]at L;(go_wp2_with fail);go_roundw;(case rel=>exact⟨k+1,by omega,by go_num,by rw[L.out];exact a3.out,a0⟩);case measure=>simp[intOf];omega
       have bo:bx ⟨id,N,D,Q,.mk op nm X nu kids,Y,un,wi⟩=true:=bp;rw[bo,if_pos rfl]at L;have a4:=hid (a3.alloc (.cells #[.string id] 9));go_wp2_with(at_builtin;refine zh rfl (.tmp 105) (.tmp 108) _ rfl underlying26 Tryz.eStrE rfl a4 rfl (news:=[.string id]) rfl (one_cell (by simp)) (by simp[Value.oneCell']) (by unfold maxLen;omega) (by omega) (by have:=a0.size;simp;omega) ?_;intro v5 w5 ad aj bm);go_roundw;(case rel=>exact⟨k+1,by omega,by go_num,by rw[L.out,List.map_append,List.map_append,List.length_append];exact ad,zAs (a0.alloc a0.size _) a4 aj (by have:=a0.size;simp;omega) (Nat.le_refl _)⟩);case measure=>simp[intOf];omega
      (obtain rfl:k=X3.length:=by omega);have a3:=hid (show wr.ownsRow a9.heap.size 9 1 u18 (BK.map zF.id).length ((BK.map zF.id).map .string) from by have:=bu.out;rw[List.take_length,<-bf.out]at this;exact this);have a0:=hid F;have ay:=hid (ch.keep (.of_below F));have j6:=hid (k6.below F k6.lt);have bc:=hid (zC ce F);(have f2:BK.length<=200:=by rw[bf.out];exact Nat.le_trans (List.length_filter_le _ _) e5);have dz:=hid (show ∀m∈BK,zB2 m.id from λm hm=>eb m (by rw[bf.out]at hm;exact(List.mem_filter.1 hm).1));clear bu F bf dv eb ce k6 ch k3 dx d0;(obtain⟨ft,fw,rfl⟩:∃A c,u16= .slice A LF.length c:=by obtain⟨A,c,e,_⟩:=Row.of_own ay.a (by decide);exact⟨A,c,by rw[e,List.length_map]⟩);(obtain⟨fu,fx,rfl⟩:∃A c,u17= .slice A LF.length c:=by obtain⟨A,c,e,_⟩:=Row.of_own ay.b (by decide);exact⟨A,c,by rw[e,List.length_map]⟩);(obtain⟨fv,fy,rfl⟩:∃A c,u18= .slice A BK.length c:=by obtain⟨A,c,e,_⟩:=Row.of_own a3 (by decide);exact⟨A,c,by rw[e,List.length_map]⟩);have b6:=hid (zMa ay.b rfl (by rw[List.length_map];omega) (λx hx=>by obtain⟨m,hm,rfl⟩:=List.mem_map.1 hx;exact ee m hm));have b7:=hid (zMa a3 rfl (by rw[List.length_map];omega) (λx hx=>by obtain⟨m,hm,rfl⟩:=List.mem_map.1 hx;exact dz m hm));clear ay a3 ee dz;obtain⟨q0,dp,q1,dq,q2,dr,ql⟩:=j6.out.d3
      have bh:=hid (show ∀(kd:Int)(x y:Value)(d:zGL),d.kind=kd->Names (λb=>w.heap.size<=b/\b≠w.heap.size+1+1) wr x d.forbids->Names (λb=>w.heap.size<=b/\b≠w.heap.size+1+1) wr y d.blocks->zFJ (λb=>w.heap.size<=b) (((wr.setCell ⟨w.heap.size+1+1,0,none⟩ (.int .i64 kd)).setCell ⟨w.heap.size+1+1,1,none⟩ x).setCell ⟨w.heap.size+1+1,2,none⟩ y) (.agg #[.int .i64 kd,x,y]) d from λkd x y d hd h1 h2=>by
       subst hd;have br:zA (λb=>w.heap.size<=b/\b≠w.heap.size+1+1) wr (((wr.setCell ⟨w.heap.size+1+1,0,none⟩ (.int .i64 d.kind)).setCell ⟨w.heap.size+1+1,1,none⟩ x).setCell ⟨w.heap.size+1+1,2,none⟩ y):=(((zA.refl _ _).setCell (λ_ h=>h.2 rfl) _).setCell (λ_ h=>h.2 rfl) _).setCell (λ_ h=>h.2 rfl) _
       exact⟨x,y,rfl,(h1.keep br).mono λb h=>h.1,(h2.keep br).mono λb h=>h.1⟩)
      have cg:=hid (b6.mono (Z':=λb=>w.heap.size<=b/\b≠w.heap.size+1+1) λb G=>⟨by omega,by omega⟩);have ej:=hid (b7.mono (Z':=λb=>w.heap.size<=b/\b≠w.heap.size+1+1) λb G=>⟨by omega,by omega⟩);by_cases bk:LF=[]
      ·have bj:=hid (show DS=(⟨1,[],[]⟩,0) from by rw[bg.out,HV.out,if_pos bk]);(have h0:(LF.length:Int)=0:=by rw[bk];rfl);clear b6 b7;(go_wp2_with fail);refine bodyPost_ret (zFK rfl rfl rfl (zDf (Tryz.aVerd _) (Tryz.sVerd _) (((j6.set_ 0 _).set_ 1 _).set_ 2 _).at0 (((j6.set_ 0 _).set_ 1 _).set_ 2 _).at1 (((j6.set_ 0 _).set_ 1 _).set_ 2 _).at2)) rfl ?_;have hD:=bj.out;subst hD;exact⟨_,rfl,bh _ _ _ _ rfl Names.nil Names.nil,((bc.setCell (by simp;omega) _).setCell (by simp;omega) _).setCell (by simp;omega) _⟩
      have h0:¬(LF.length:Int)=0:=by
       have:=List.length_pos_iff.2 bk;omega
      by_cases cb:BK=[]
      ·have bj:=hid (show DS=(⟨2,LF.map zF.id,[]⟩,0) from by rw[bg.out,HV.out,if_neg bk,if_pos cb]);(have h1:(BK.length:Int)=0:=by rw[cb];rfl);clear b6 b7;(go_wp2_with fail);refine bodyPost_ret (zFK rfl rfl rfl (zDf (Tryz.aVerd _) (Tryz.sVerd _) (((j6.set_ 0 _).set_ 1 _).set_ 2 _).at0 (((j6.set_ 0 _).set_ 1 _).set_ 2 _).at1 (((j6.set_ 0 _).set_ 1 _).set_ 2 _).at2)) rfl ?_;have hD:=bj.out;subst hD;exact⟨_,rfl,bh _ _ _ _ rfl cg Names.nil,((bc.setCell (by simp;omega) _).setCell (by simp;omega) _).setCell (by simp;omega) _⟩
      have bj:=hid (show DS=(⟨3,LF.map zF.id,BK.map zF.id⟩,0) from by rw[bg.out,HV.out,if_neg bk,if_neg cb])
      have h1:¬(BK.length:Int)=0:=by
       have:=List.length_pos_iff.2 cb;omega
      clear b6 b7;(go_wp2_with fail);refine bodyPost_ret (zFK rfl rfl rfl (zDf (Tryz.aVerd _) (Tryz.sVerd _) (((j6.set_ 0 _).set_ 1 _).set_ 2 _).at0 (((j6.set_ 0 _).set_ 1 _).set_ 2 _).at1 (((j6.set_ 0 _).set_ 1 _).set_ 2 _).at2)) rfl ?_;have hD:=bj.out;subst hD;exact⟨_,rfl,bh _ _ _ _ rfl cg ej.out,((bc.setCell (by simp;omega) _).setCell (by simp;omega) _).setCell (by simp;omega) _⟩
 have fo:((ck:Int)!=(0:Int))=true:=by simp[cc]
 have e1:=hid cc;clear cc;obtain⟨q0,dp,q1,dq,q2,dr,ql⟩:=aq.out.d3;go_wp2_with fail
 refine bodyPost_ret (zFK rfl rfl rfl (zDf (Tryz.aVerd _) (Tryz.sVerd _) (((aq.set_ 0 _).set_ 1 _).set_ 2 _).at0 (((aq.set_ 0 _).set_ 1 _).set_ 2 _).at1 (((aq.set_ 0 _).set_ 1 _).set_ 2 _).at2)) rfl ?_;have hD:=b4.out;rw[if_pos e1.out]at hD;subst hD;exact⟨_,rfl,⟨_,_,rfl,Names.nil,Names.nil⟩,((bd.setCell (by simp;omega) _).setCell (by simp;omega) _).setCell (by simp;omega) _⟩
theorem zIL(Z:zD)(J vd g j i:Value)(l:List zF)(s:zM)(w:World)(C:zn Z w J l)(h:zBq Z w vd g j i s)(q:∀b,Z b->b<w.heap.size)(K:∀m∈l,zH m.when_<=1000000):
  Calls prog 16 #[J,.agg #[vd,g,j,i,.int .i64 s.signed,.int .i64 s.now]] w λe w'=>∃v,e= .returned (.tuple #[v,.int .i64 (zP l s).2])/\zFJ (λb=>w.heap.size<=b) w' v (zP l s).1/\Bw w w':=by
 have O:=hid (λW(B:Bw w W)=>zMz Z J vd g j i l s W (zn.keep C (.of_below_lt B λb _ a=>q b a)) (h.keep (.of_below_lt B λb _ a=>q b a)) (λb a=>Nat.lt_of_lt_of_le (q b a) B.size) K);have f:=hid ((zG w (.cells #[vd,g,j,i,.int .i64 s.signed,.int .i64 s.now] 30)).alloc (by simp) (.cells #[.int .i64 0,.slice none 0 0,.slice none 0 0] 36));have k:=hid ((Blk.new w 30 #[vd,g,j,i,.int .i64 s.signed,.int .i64 s.now]).alloc (.cells #[.int .i64 0,.slice none 0 0,.slice none 0 0] 36));have c:=hid (Blk.newE (w.alloc (.cells #[vd,g,j,i,.int .i64 s.signed,.int .i64 s.now] 30)) 36 #[.int .i64 0,.slice none 0 0,.slice none 0 0] (n:=w.heap.size+1) (by simp));obtain⟨LA,L,rfl,U⟩:=zj.form C;clear h q K C;generalize zP l s=t at*;go_enter func16,ntmps16
 go_upto_region 1 with fail
 generalize (w.alloc _).alloc _=M at*;obtain⟨X,D,Y,E,p2,F,p3,G,p4,H,p5,I,pl⟩:=k.out.d6;go_wp2_with fail
 refine(O _ f).mono ?_;rintro e N ⟨v,rfl,⟨v1,v2,rfl,z,A⟩,a⟩;have u:=hid (zC f a);have d:=hid (c.below a c.lt);have V:w.heap.size+1<M.heap.size:=c.lt;have x:=hid z;have y:=hid A;obtain⟨P,R,rfl,-,-,-⟩:=z.form;obtain⟨Q,T,rfl,-,-,-⟩:=A.form;clear z A a X Y p2 p3 p4 p5 D E F G H I pl k c f;obtain⟨q0,aa,q1,ab,q2,ac,ql⟩:=d.out.d3;go_wp2_with fail
 refine bodyPost_ret (zFK rfl rfl rfl (zDf (Tryz.aVerd _) (Tryz.sVerd _) (((d.set_ 0 _).set_ 1 _).set_ 2 _).at0 (((d.set_ 0 _).set_ 1 _).set_ 2 _).at1 (((d.set_ 0 _).set_ 1 _).set_ 2 _).at2)) rfl ?_;have o:zA (λb=>M.heap.size<=b) N (((N.setCell ⟨w.heap.size+1,0,none⟩ (.int .i64 t.1.kind)).setCell ⟨w.heap.size+1,1,none⟩ (.slice P t.1.forbids.length R)).setCell ⟨w.heap.size+1,2,none⟩ (.slice Q t.1.blocks.length T)):=(((zA.refl _ _).setCell (λ_ h=>by simp at h;omega) _).setCell (λ_ h=>by simp at h;omega) _).setCell (λ_ h=>by simp at h;omega) _;exact⟨_,rfl,⟨_,_,rfl,(x.keep o).mono λb a=>by omega,(y.keep o).mono λb a=>by omega⟩,((u.setCell (by simp) _).setCell (by simp) _).setCell (by simp) _⟩
theorem zQi(s:ByteArray)(w:World)(F:s.size<=140737488355328):
  Calls prog 57 #[.string s] w λe w'=>e= .returned (.bool (zAy s))/\Bw w w':=by
 have y:=hid (zPR s w F);have o:=hid (@zMO s);have z:=hid (λt e=> @zKj s t e);go_enter func57,ntmps57
 go_wp2_with fail
 refine y.mono ?_;unfold zF0;rintro e M ⟨v,rfl,c,i⟩;obtain⟨g,n,C⟩:∃x,x=zCg s:=⟨_,rfl⟩;generalize k:zCg s=L at*;obtain⟨g,n,C⟩:=L;dsimp only at*;obtain⟨A,B,rfl,q,G,a⟩:=Row.of_own c (by decide);by_cases m:n=0
 ·subst m;by_cases h:g.length=1
  ·obtain⟨t,rfl⟩:∃t,g=[t]:=by
    cases g with
    |nil=>simp at h
    |cons t r=>cases r with
     |nil=>exact⟨t,rfl⟩
     |cons _ _=>simp at h
   have d:=hid (z _ _ rfl);obtain⟨b,I,rfl,K,f⟩:=a (by simp[Tok.cells]);obtain⟨J,c1,c2,c3⟩:=zEQ (λj u H=>f j u (by simpa[Tok.cells]using H));clear f k a c;simp only[List.length_cons,List.length_nil,Nat.zero_add]at*;go_wp2;all_goals(go_ret;exact⟨zI (by rw[d.out];first|(simp_all;done)|(rw[zBK];simp_all)),i⟩)
  have d:=hid (o (.inr h));have D:((g.length:Int)==1)=false:=by simp;omega
  clear h k;go_wp2;go_ret;exact⟨zI (by rw[d.out]),i⟩
 have d:=hid (o (.inl m));have E:(n==0)=false:=by simp[m]
 clear k;go_wp2;go_ret;exact⟨zI (by rw[d.out]),i⟩
theorem zHb{base g n cap:Nat}{cur:Array Value}(a:base<=g)(c:Blk w g e cur)(f:n<=cap)(d:cap<=maxLen)(h:cur.size=cap)(i:xs.length=n)(b:∀j,j<n->cur[j]? =xs[j]?):
  w.ownsRow base e 1 (.slice (some ⟨g,0,none⟩) n cap) n xs:=by
 refine⟨by omega,.inr ⟨g,cap,cur,rfl,a,c,f,d,by omega,?_⟩⟩;apply List.ext_getElem?;intro j;rw[List.getElem?_take,Nat.mul_one];split
 ·rename_i hj;rw[Array.getElem?_toList,b j hj]
 rw[List.getElem?_eq_none (by omega)]
theorem zJ0{l:List Value}{x:Value}(hi:i<=l.length):(l.take i++x::l.drop i)[j]? =if j<i then l[j]? else if j=i then some x else l[j-1]? :=by
 have a:(l.take i).length =i:=by rw[List.length_take];omega
 rw[List.getElem?_append,a];split
 ·rename_i hj;rw[List.getElem?_take,if_pos hj]
 rename_i hj;split
 ·rename_i he;subst he;simp
 rename_i he;rw[show j-i=(j-1-i)+1 from by omega,List.getElem?_cons_succ,List.getElem?_drop];congr 1;omega
theorem zC6:∀(a:List Value)(o:Nat)(c:Array Value),(zC0 c a o).size =c.size
 |[],_,_=>rfl
 |v::r,o,c=>by unfold zC0;rw[zC6 r];simp
theorem zMf{t:TypeId}{cs:Array Value}(h:Blk w g t cs):w.shape? g=some (t,cs.size):=by
 have a:w.heap[g]? =some (.cells cs t (0,0)):=h;unfold World.shape?;rw[a]
theorem zHG:(Value.int .i64 0).cells.size =1:=rfl
theorem zQj{base vb:Nat}(h:w.ownsRow base 3 1 v l.length (l.map (.int .i64)))(hi:i<=l.length)(hl:l.length<=1000000)(B:Blk w vb 3 #[.int .i64 x])(X:v.ownBlock≠some vb)(k:base<=w.heap.size):
  Calls prog 103 #[v,.int .i64 i,.slice (some ⟨vb,0,none⟩) 1 1] w λe w'=>∃U,e= .returned U/\w'.ownsRow base 3 1 U (l.length+1) ((l.take i++x::l.drop i).map (.int .i64))/\(U.ownBlock=v.ownBlock\/U.ownBlock=some w.heap.size)/\zA (λb=>v.ownBlock≠some b) w w':=by
 have H:∀u∈([.int .i64 x]:List Value),u.oneCell'=true:=by simp[Value.oneCell']
 have I:∀u∈(l.map (Value.int .i64)),u.oneCell'=true:=λu D=>by obtain⟨a,_,rfl⟩:=List.mem_map.1 D;rfl
 have y:∀(j:Nat)(u:Value),([.int .i64 x]:List Value)[j]? =some u->w.cell? ⟨vb,0+j,none⟩=some u:=λj u D=>by
  rw[Nat.zero_add,B.cell j];simpa using D
 have M:(l.take i++x::l.drop i).map (Value.int .i64)=(l.map (.int .i64)).take i++(.int .i64 x)::(l.map (.int .i64)).drop i:=by
  rw[List.map_append,List.map_take,List.map_cons,List.map_drop]
 have o:((l.map (Value.int .i64)).take i++(Value.int .i64 x)::(l.map (.int .i64)).drop i).length =l.length+1:=by
  rw[List.length_append,List.length_take,List.length_cons,List.length_drop,List.length_map];omega
 rw[M];have d:(l.map (Value.int .i64)).length =l.length:=List.length_map _;rcases h.2 with⟨rfl,h0⟩|⟨g,cap,cur,rfl,hb,hg,hn,hm,hsz,htk⟩
 ·have W:i=0:=by omega
  have N:l=[]:=List.eq_nil_of_length_eq_zero h0;subst W N;refine(Tryz.slices_Insert_int_end_grow none 0 0 vb 0 1 1 [] [.int .i64 x] w (by omega) (by omega) (by omega) (by omega) rfl rfl (λ_=>rfl) (λa e=>by cases e) y H).mono ?_;rintro e w' ⟨rfl,rfl⟩;refine⟨_,rfl,?_,.inr rfl,((zA.refl _ _).drew).alloc _⟩;refine zHb (cur:=(([]++[.int .i64 x]:List Value).toArray ++Builtin.zeroCells (Value.int .i64 0).cells (grownCap w (0+1) 0 3-(0+1)))) k (Blk.newE w.drew _ _ rfl) (grownCap_ge _ _ _ _) (grownCap_le_maxLen _ _ _ _ (by unfold maxLen;omega)) ?_ (by simp) ?_
  ·have:=grownCap_ge w (0+1) 0 3;simp only[Nat.zero_add]at this;simp[size_zeroCells,zHG];omega
  intro j s;have:j=0:=by simp at s;omega
  subst this;rw[Array.getElem?_append_left (by simp)];simp
 have m:Blk w g 3 cur:=hg
 have q:∀j,j<l.length->cur[j]? =(l.map (Value.int .i64))[j]? :=λj s=>by
  have e1:(cur.toList.take (l.length*1))[j]? =(l.map (Value.int .i64))[j]? :=by rw[htk]
  rwa[List.getElem?_take,if_pos (by omega),Array.getElem?_toList]at e1
 have E:∀(j:Nat)(u:Value),(l.map (Value.int .i64))[j]? =some u->w.cell? ⟨g,0+j,none⟩=some u:=λj u D=>by
  have s:j<l.length:=by rw[<-d];exact(List.getElem?_eq_some_iff.1 D).1
  rw[Nat.zero_add,m.cell j,q j s,D]
 have O:∀j,j<cap->(w.cell? ⟨g,j,none⟩).isSome =true:=λj s=>by
  rw[m.cell j,Array.getElem?_eq_getElem (by omega)];rfl
 have K:cap<=9223372036854775807:=by simpa[maxLen]using hm
 have V:vb≠g:=λe=>X (by rw[e];rfl)
 by_cases f:l.length+1<=cap
 ·by_cases G:i<l.length
  ·refine(Tryz.slices_Insert_int_shift g 0 l.length cap i vb 0 1 1 (l.map (.int .i64)) [.int .i64 x] w G (by omega) f K V d rfl E (λj s=>by rw[Nat.zero_add];exact O j (by omega)) (λj _=>m.frozen _) y I H _ _ 1 cur.size (zMf B) (zMf m) (by omega) (B.frozen _) (B.frozen _)).mono ?_;rintro e w' ⟨rfl,rfl⟩;refine⟨_,rfl,?_,.inl rfl,?_⟩
   ·refine zHb hb (((show Blk w.drew g 3 cur from m).setCells _ _ _ _).setCells _ _ _ _) f hm (by rw[zC6,zC6];omega) o ?_;intro j s;rw[zCJ _ _ _ (by rw[zC6];simp;omega),zJ0 (by omega)];simp only[List.length_cons,List.length_nil,Nat.zero_add];by_cases c:j=i
    ·subst c;simp
    rw[if_neg (by omega),zCJ _ _ _ (by rw[List.length_drop,d];omega)];by_cases A:j<i
    ·rw[if_neg (by omega),if_pos A,q j (by omega)]
    rw[if_pos (by rw[List.length_drop,d];omega),if_neg A,if_neg c,List.getElem?_drop];congr 1;omega
   obtain⟨P,Q,R,T⟩:=size_setCells g ([.int .i64 x]:List Value) (0+i) (w.drew.setCells g (0+(i+1)) ((l.map (Value.int .i64)).drop i));obtain⟨Z,t2,t3,t4⟩:=size_setCells g ((l.map (Value.int .i64)).drop i) (0+(i+1)) w.drew;exact⟨Q.trans t2,R.trans t3,T.trans t4,by rw[P,Z];exact Nat.le_refl _,λb _ z=>(zAN _ _ _ _ _ (λe=>z (by rw[e];rfl))).trans (zAN _ _ _ _ _ (λe=>z (by rw[e];rfl)))⟩
  have F:i=l.length:=by omega
  subst F;refine(Tryz.slices_Insert_int_end_room g 0 l.length cap vb 0 1 1 [.int .i64 x] w (by omega) f K rfl (λj s=>O _ (by omega)) (λj _=>m.frozen _) y H).mono ?_;rintro e w' ⟨rfl,rfl⟩;refine⟨_,rfl,?_,.inl rfl,?_⟩
  ·refine zHb hb (m.setCells _ _ _ _) f hm (by rw[zC6];omega) o ?_;intro j s;rw[zCJ _ _ _ (by simp;omega),zJ0 (by omega)];simp only[List.length_cons,List.length_nil,Nat.zero_add];by_cases c:j=l.length
   ·subst c;simp
   rw[if_neg (by omega),if_pos (by omega),q j (by omega)]
  obtain⟨P,Q,R,T⟩:=size_setCells g ([.int .i64 x]:List Value) (0+l.length) w;exact⟨Q,R,T,by rw[P];exact Nat.le_refl _,λb _ z=>zAN _ _ _ _ _ (λe=>z (by rw[e];rfl))⟩
 have C:(l.length+1)*8<=140737488355328:=by omega
 have L:=grownCap_ge w (l.length+1) cap 3;by_cases G:i<l.length
 ·refine(Tryz.slices_Insert_int_grow g 0 l.length cap i vb 0 1 1 (l.map (.int .i64)) [.int .i64 x] w G (by omega) hn (by omega) C d rfl E y I H).mono ?_;rintro e w' ⟨rfl,rfl⟩;have Y:=Blk.newE w 3 ((((l.map (Value.int .i64)).take i).toArray ++Builtin.zeroCells (Value.int .i64 0).cells (l.length+1-i)++Builtin.zeroCells (Value.int .i64 0).cells (grownCap w (l.length+1) cap 3-(l.length+1)))) (n:=w.heap.size) rfl
  have t:((((l.map (Value.int .i64)).take i).toArray ++Builtin.zeroCells (Value.int .i64 0).cells (l.length+1-i)++Builtin.zeroCells (Value.int .i64 0).cells (grownCap w (l.length+1) cap 3-(l.length+1)))).size =grownCap w (l.length+1) cap 3:=by
   simp[size_zeroCells,zHG];omega
  refine⟨_,rfl,?_,.inr rfl,?_⟩
  ·refine zHb k (Blk.setCells _ _ _ _ (Blk.setCells [.int .i64 x] i _ _ Y)) L (grownCap_le_maxLen _ _ _ _ (by unfold maxLen;omega)) (by rw[zC6,zC6,t]) o ?_;intro j s;rw[zCJ _ _ _ (by rw[zC6,t,List.length_drop,d];omega),zJ0 (by omega)];by_cases c:i+1<=j
   ·rw[if_pos (by rw[List.length_drop,d];omega),if_neg (by omega),if_neg (by omega),List.getElem?_drop];congr 1;omega
   rw[if_neg (by omega),zCJ _ _ _ (by rw[t];simp;omega)];simp only[List.length_cons,List.length_nil,Nat.zero_add];by_cases A:j=i
   ·subst A;simp
   rw[if_neg (by omega),if_pos (by omega),Array.getElem?_append_left (by simp[size_zeroCells,zHG];omega),Array.getElem?_append_left (by simp;omega)];simp[List.getElem?_take];intro;omega
  obtain⟨P,Q,R,T⟩:=size_setCells w.heap.size ((l.map (Value.int .i64)).drop i) (i+1) (((w.alloc (.cells ((((l.map (Value.int .i64)).take i).toArray ++Builtin.zeroCells (Value.int .i64 0).cells (l.length+1-i)++Builtin.zeroCells (Value.int .i64 0).cells (grownCap w (l.length+1) cap 3-(l.length+1)))) 3)).drew.setCells w.heap.size i [.int .i64 x]).drew);obtain⟨Z,t2,t3,t4⟩:=size_setCells w.heap.size ([.int .i64 x]:List Value) i (w.alloc (.cells ((((l.map (Value.int .i64)).take i).toArray ++Builtin.zeroCells (Value.int .i64 0).cells (l.length+1-i)++Builtin.zeroCells (Value.int .i64 0).cells (grownCap w (l.length+1) cap 3-(l.length+1)))) 3)).drew;exact⟨Q.trans t2,R.trans t3,T.trans t4,by have e:=P.trans Z;rw[e];simp,λb J _=>(zAN _ _ _ _ _ (by omega)).trans ((zAN _ _ _ _ _ (by omega)).trans (heap_alloc_old w _ J))⟩
 have F:i=l.length:=by omega
 subst F;refine(Tryz.slices_Insert_int_end_grow (some ⟨g,0,none⟩) l.length cap vb 0 1 1 (l.map (.int .i64)) [.int .i64 x] w (by omega) hn (by omega) C d rfl (λe=>by cases e) (λa e j u D=>by injection e with e;subst e;rw[show(⟨g,0,none⟩:Addr).add j=⟨g,0+j,none⟩ from by unfold Addr.add;split<;>simp_all];exact E j u D) y H).mono ?_;rintro e w' ⟨rfl,rfl⟩;refine⟨_,rfl,?_,.inr rfl,((zA.refl _ _).drew).alloc _⟩;refine zHb (cur:=((l.map (Value.int .i64)++[Value.int .i64 x]).toArray ++Builtin.zeroCells (Value.int .i64 0).cells (grownCap w (l.length+1) cap 3-(l.length+1)))) k (Blk.newE w.drew _ _ rfl) L (grownCap_le_maxLen _ _ _ _ (by unfold maxLen;omega)) ?_ o ?_
 ·simp[size_zeroCells,zHG];omega
 intro j s;rw[Array.getElem?_append_left (by simp;omega),zJ0 (by omega)];simp only[List.getElem?_toArray];rw[List.getElem?_append,d];by_cases c:j<l.length
 ·rw[if_pos c,if_pos c]
 rw[if_neg c,if_neg c,if_pos (by omega),show j-l.length=0 from by omega];rfl
theorem zJP{x:Int}:∀{l:List Int},l.Pairwise (· < ·)->x∈l->zDA l x=l
 |[],_,h=>by simp at h
 |y::r,hs,h=>by
  rw[List.pairwise_cons]at hs;unfold zDA;rcases List.mem_cons.1 h with rfl|h
  ·rw[if_neg (by omega),if_pos rfl]
  have:=hs.1 x h;rw[if_neg (by omega),if_neg (by omega),zJP hs.2 h]
theorem zOz:∀{l:List Int},(∀y∈l,x<y)->l.countP (· <x)=0
 |l,h=>by
  rw[List.countP_eq_zero];intro y a;have:=h y a;simp;omega
theorem zKT{x:Int}:∀{l:List Int},l.Pairwise (· < ·)->x∉l->zDA l x=l.take (l.countP (· <x))++x::l.drop (l.countP (· <x))
 |[],_,_=>rfl
 |y::r,hs,h=>by
  rw[List.pairwise_cons]at hs;simp only[List.mem_cons,not_or]at h;unfold zDA;by_cases a:x<y
  ·rw[if_pos a,zOz (λz b=>by rcases List.mem_cons.1 b with rfl|b;exact a;have:=hs.1 z b;omega)];rfl
  rw[if_neg a,if_neg h.1,zKT hs.2 h.2,List.countP_cons,if_pos (by simp;omega)];rfl
theorem zPA(a:l.Pairwise (· < ·)):(zDA l x).length <=l.length+1:=by
 by_cases h:x∈l
 ·rw[zJP a h];omega
 rw[zKT a h,List.length_append,List.length_cons,List.length_take,List.length_drop];omega
def zEZ(w:World)(X:Nat)(F:Nat->Prop)(l:List Int):Prop:=
 ∃v,Blk w X 111 #[v]/\w.ownsRow (X+1) 3 1 v l.length (l.map (.int .i64))/\l.Pairwise (· < ·)/\∀k,v.ownBlock=some k->¬F k
theorem zEZ.keep{w w':World}{F F':Nat->Prop}(h:zEZ w X F l)(d:Bw w w')(i:∀b,b<w.heap.size->F' b->F b):zEZ w' X F' l:=by
 obtain⟨v,a,c,f,g⟩:=h;exact⟨v,a.below d a.lt,zXL c (zA.of_below (Z:=λ_=>True) d) λ_ _=>trivial,f,λk e hF=>g k e (i k (c.lt k e).2 hF)⟩
theorem zUS(h:w.ownsRow base 3 1 v l.length (l.map (.int .i64)))(b:l.Pairwise (· < ·))(c:l.length<=1000000):
  Calls prog 102 #[v,.int .i64 x] w λe w'=>e= .returned (.tuple #[.int .i64 ((l.countP (· <x):Nat):Int),.bool (l.contains x)])/\zA (λ_=>True) w w':=by
 rcases h.2 with⟨rfl,h0⟩|⟨g,cap,cur,rfl,hb,hg,hn,hm,hsz,htk⟩
 ·have:l=[]:=List.eq_nil_of_length_eq_zero h0;subst this;refine(Tryz.slices_BinarySearch_int_empty none 0 x w).mono ?_;rintro e w' ⟨rfl,rfl⟩;exact⟨rfl,zA.refl _ _⟩
 refine(Tryz.slices_BinarySearch_int g 0 l.length cap l x w (Nat.le_refl _) (by omega) (λj a=> ?_) (by rw[List.take_length];exact b.imp λh=>Int.le_of_lt h)).mono ?_
 ·have:=h.cells (g:=g) rfl j (.int .i64 (l.getD j 0)) (by rw[List.getElem?_map,List.getD_eq_getElem?_getD,List.getElem?_eq_getElem a];rfl);rwa[show(⟨g,0,none⟩:Addr).add j=⟨g,0+j,none⟩ from by unfold Addr.add;split<;>simp_all]at this
 rintro e w' ⟨rfl,q,rfl⟩;rw[List.take_length];exact⟨rfl,(zA.refl _ _).drewN q⟩
theorem zPZ(X:Nat)(F:Nat->Prop)(l:List Int)(x:Int)(w:World)(h:zEZ w X F l)(Y:l.length<=1000000)(hF:∀b,F b->b<w.heap.size/\b≠X):
  Calls prog 59 #[.pointer (some ⟨X,0,none⟩),.int .i64 x] w λe w'=>e= .returned (.tuple #[])/\zEZ w' X F (zDA l x)/\zA F w w':=by
 obtain⟨v,D,R,T,hv⟩:=h;have s:=hid (zUS (x:=x) R T Y);have N:=hid hv;have V:=hid hF;have I:=hid T;have O:=hid D;have HO:=hid R;have aa:=D.lt;have J:=D.at0;have j:=D.frozen 0;clear hv hF T R D;go_enter func59,ntmps59
 go_wp2_with fail
 refine s.mono ?_;rintro e U ⟨rfl,a⟩;have L:=hid a;have c:=hid (O.keep a trivial);have f:=hid (zXL HO a λ_ _=>trivial);have W:=c.lt;clear a J j s;by_cases q:x∈l
 ·have d:l.contains x=true:=List.contains_iff_mem.2 q;have t:=hid (zJP I q);rw[d];clear q d;go_wp2_with fail
  go_end0;refine⟨rfl,⟨v,c.out,?_,?_,N⟩,L.mono λ_ _ _=>trivial⟩
  ·rw[t.out];exact f.out
  rw[t.out];exact I.out
 have d:l.contains x=false:=by rw[Bool.eq_false_iff];exact λe=>q (List.contains_iff_mem.1 e)
 have t:=hid (zKT I q);have K:=hid (zII (x:=x) I);have G:l.countP (λy=>decide (y<x))<=l.length:=List.countP_le_length;rw[d];generalize l.countP (λy=>decide (y<x))=i at*;clear q d;have J:=c.at0;have j:=c.frozen 0;have z:=hid (f.alloc (.cells #[.int .i64 x] 3));have C:=hid (c.alloc (.cells #[.int .i64 x] 3));have u:=hid (Blk.newE U 3 #[.int .i64 x] (n:=U.heap.size) rfl);go_wp2_with fail
 refine(zQj (vb:=U.heap.size) z G Y u (λe=>by have:=(f.lt _ e).2;omega) (by simp;omega)).mono ?_;rintro e w3 ⟨v',rfl,o,E,m⟩;have Q:v.ownBlock≠some X:=λe=>by have:=(f.lt _ e).1;omega
 have g:=hid (C.keep m Q);have A:=hid o
 have B:=hid (show ∀k,v'.ownBlock=some k->X+1<=k/\¬F k from λk a=>⟨(o.lt k a).1,by
  rcases E with e|e
  ·exact N k (e▸a)
  intro P;have h1:=(V k P).1;have h2:=L.size;rw[e]at a;injection a with a;simp at a
  omega⟩)
 have M:=hid (show zA F w w3 from((L.mono λ_ _ _=>trivial).alloc _).trans (m.mono λb _ hb e=>N b e hb));clear m E o C z u J j;have J:=g.at0;have j:=g.frozen 0;have ab:=g.lt;obtain⟨A3,c3,rfl,-⟩:=Row.of_own A (by decide);go_wp2_with fail
 go_end0;refine⟨rfl,⟨_,g.set_ 0 _,?_,K.out,λk a=>(B k a).2⟩,M.setCell (λ_ hx=>(V _ hx).2 rfl) _⟩
 have H:(zDA l x).length =l.length+1:=by
  rw[t.out,List.length_append,List.length_cons,List.length_take,List.length_drop];omega
 rw[H];rw[t.out];exact zXL (Z:=λb=>b≠X) A ((zA.refl _ _).setCell (p:=⟨X,0,none⟩) (λ_ h=>h rfl) _) (λk a=>by have:=(B k a).1;omega)
theorem zLU(h:l.Pairwise (· < ·)):(zBI z l d).Pairwise (· < ·):=by
 unfold zBI;split
 ·exact zII h
 exact h
theorem zNA(h:l.Pairwise (· < ·)):(zBI z l d).length <=l.length+1:=by
 unfold zBI;split
 ·exact zPA h
 omega
theorem zPB{z:zp}:∀{ds l:List Int},l.Pairwise (· < ·)->(ds.foldl (zBI z) l).Pairwise (· < ·)
 |[],_,h=>h
 |d::r,l,h=>zPB (ds:=r) (zLU h)
theorem zES{z:zp}:∀{ds l:List Int},l.Pairwise (· < ·)->(ds.foldl (zBI z) l).length <=l.length+ds.length
 |[],_,_=>by simp
 |d::r,l,h=>by
  rw[List.foldl_cons,List.length_cons];have a:=zES (z:=z) (ds:=r) (l:=zBI z l d) (zLU h);have b:=zNA (z:=z) (d:=d) h;omega
theorem zQk(Z:zD)(X:Nat)(F:Nat->Prop)(P:Value)(z:zp)(y H:Nat)(ds l:List Int)(w:World)(hz:zB4 Z w P z)(h:zEZ w X F l)(hl:l.length+ds.length<=1000000)(hF:∀b,F b->b<w.heap.size/\b≠X)(hZ:∀b,Z b->F b)
  (hd:∀j u,(ds.map (Value.int .i64))[j]? =some u->w.cell? ⟨y,0+j,none⟩=some u)(A:F y):
  Calls prog 62 #[.agg #[P],.func (.func 59) #[.pointer (some ⟨X,0,none⟩)] #[],.slice (some ⟨y,0,none⟩) ds.length H] w λe w'=>e= .returned (.tuple #[])/\zEZ w' X F (ds.foldl (zBI z) l)/\zA F w w':=by
 have T:=hid (λ(o:Int) W(N:zA (λb=>F b\/b=w.heap.size) (w.alloc (.cells #[P] 100)) W)=>zHn Z P z o W (hz.keep (((zA.refl _ _).alloc _).trans (N.mono λb _ c=> .inl (hZ b c)))) (λb c=>by have:=(hF b (hZ b c)).1;have:=N.size;simp at this;omega));obtain⟨B,a,rfl,ak⟩:=hz.form;have HD:=hid (λk(O:k<ds.length)=>(show w.cell? ⟨y,0+k,none⟩=some (.int .i64 ds[k]) from hd k _ (by rw[List.getElem?_map,List.getElem?_eq_getElem O];rfl)));have HF:=hid hF;have ai:=(hF y A).1;have Y:=hid A;have ae:=hid (h.keep (zG w (.cells #[.slice B z.length a] 100)) (F':=λb=>F b\/b=w.heap.size) λb c hx=>hx.resolve_right (by omega));have C:=hid (Blk.newE w 100 #[.slice B z.length a] (n:=w.heap.size) rfl)
 have V:=hid (show ∀b,(F b\/b=w.heap.size)->b<(w.alloc (.cells #[.slice B z.length a] 100)).heap.size /\b≠X from λb c=>by
  obtain⟨v,M,-⟩:=h;rcases c with c|c
  ·have:=hF b c;simp;omega
  have:=M.lt;simp;omega)
 have Q:=hid (show l.Pairwise (· < ·) from by obtain⟨v,_,_,h3,_⟩:=h;exact h3);have U:=hid (λk(O:k<ds.length)=>(show(w.alloc (.cells #[.slice B z.length a] 100)).cell? ⟨y,0+k,none⟩=some (.int .i64 ds[k]) from((zA.refl (λ_=>True) w).alloc _).cell trivial (HD k O)));have aa:=hid ((zA.refl F w).alloc (.cells #[.slice B z.length a] 100));clear hz h hF hZ hd A HD;go_enter func62,ntmps62
 go_upto_region 1 with fail
 generalize w.alloc _=w1 at*;go_wp2_with fail
 go_loopw[7,8,9,12,16] (λ_ _ _ i _ wr=>∃(k:Nat),k<=ds.length/\i= .int .i64 k/\Hid (zEZ wr X (λb=>F b\/b=w.heap.size) ((ds.take k).foldl (zBI z) l))/\zA (λb=>F b\/b=w.heap.size) w1 wr) (λ_ _ _ i _ _=>ds.length-(intOf i).toNat);case atStart=>exact⟨0,Nat.zero_le _,rfl,ae.out,zA.refl _ _⟩
 case round=>
  obtain⟨k,O,rfl,q,d⟩:=hrel;by_cases K:k<ds.length
  ·have hc:=d.cell (p:=⟨y,_,none⟩) (.inl Y) (U k K);have ag:=lt_of_cell hc;rw[Nat.zero_add]at hc;have G:=hid (show(ds.take (k+1)).foldl (zBI z) l=zBI z ((ds.take k).foldl (zBI z) l) ds[k] from by rw[zXN K,List.foldl_append];rfl)
   have ac:=hid (show((ds.take k).foldl (zBI z) l).length <=1000000 from by
    have:=zES (z:=z) (ds:=ds.take k) Q.out;rw[List.length_take]at this
    omega)
   have af:=(C.keep d (.inr rfl)).at0;have I:=(C.keep d (.inr rfl)).lt;(have aj:(k:Int)<(ds.length:Int):=by omega);have m:=hid d;have f:=hid q.out;have E:=hid (show zBI z ((ds.take k).foldl (zBI z) l) ds[k]=if(zA4 z ds[k]).2=0 then zDA ((ds.take k).foldl (zBI z) l) (zA4 z ds[k]).1 else(ds.take k).foldl (zBI z) l from rfl);clear d q;generalize (ds.take k).foldl (zBI z) l=lk at*;have R:=hid (λW N=>T ds[k] W N);generalize ds[k]=o at*;(go_wp2_with fail);refine(R _ m).mono ?_;rintro e w3 ⟨rfl,c⟩;have x:=hid (m.trans (.of_below c));have D:=hid (f.keep c (F':=λb=>F b\/b=w.heap.size) λ_ _ h=>h);clear c hc ag af I m f;generalize (zA4 z o).1=t at*;generalize (zA4 z o).2=er at*;by_cases g:er=0
   ·have s:=hid g;(have ah:((er:Int)==0)=true:=by simp[g]);clear g;(go_wp2_with fail);refine(zPZ X (λb=>F b\/b=w.heap.size) lk t w3 D ac (λb c=>by have:=V b c;have:=x.size;omega)).mono ?_;rintro e w4 ⟨rfl,L,J⟩;have ad:=hid L;have ab:=hid (x.trans J);clear L J;(go_wp2_with fail);go_roundw;(case rel=>exact⟨k+1,by omega,by go_num,by rw[G.out,E.out,if_pos s.out];exact ad.out,ab⟩);case measure=>simp[intOf];omega
   have s:=hid g;(have ah:((er:Int)==0)=false:=by simp[g]);clear g;(go_wp2_with fail);go_roundw;(case rel=>exact⟨k+1,by omega,by go_num,by rw[G.out,E.out,if_neg s.out];exact D.out,x⟩);case measure=>simp[intOf];omega
  obtain rfl:k=ds.length:=by omega
  have f:=hid q.out;have m:=hid d;clear q d;go_wp2_with fail
  go_end0;refine⟨rfl,?_,aa.trans (m.mono λb _ c=> .inl c)⟩;have M:=f.out;rw[List.take_length]at M;exact M.keep (Below.refl _ _) λb _ c=> .inl c
theorem zQl{b f n a:Nat}(h:w.ownsRow b e a v n xs)(m:f<=b):w.ownsRow f e a v n xs:=by
 refine⟨h.1,?_⟩;rcases h.2 with i|⟨g,c,d,e,k,j⟩
 ·exact .inl i
 exact .inr ⟨g,c,d,e,by omega,j⟩
theorem zI2{l:List ByteArray}{x:ByteArray}(a:j<placeOf l x)(b:j<l.length):l[j]≠x:=by
 have:=List.not_of_lt_findIdx (xs:=l) (p:=λy=>decide (y=x)) a;exact of_decide_eq_false (by simpa using this)
theorem zSD(l:List ByteArray)(x:ByteArray):Lib.idxOfS l x=if placeOf l x<l.length then((placeOf l x:Nat):Int)else-1:=by
 have b:l.take l.length=l:=List.take_length;split
 ·rename_i h
  have:=Lib.idxOfS_hit l l.length (placeOf l x) x h (Nat.le_refl _) (by rw[List.getD_eq_getElem?_getD,List.getElem?_eq_getElem h];exact zJs h rfl) (λj a=>by
   rw[List.getD_eq_getElem?_getD,List.getElem?_eq_getElem (by omega)];exact zI2 a (by omega))
  rwa[b]at this
 rename_i h
 have:=Lib.idxOfS_miss l l.length x (λj a=>by
  rw[List.getD_eq_getElem?_getD,List.getElem?_eq_getElem a];exact zI2 (by omega) a)
 rwa[b]at this
theorem zOI(Z:zD)(v:Value)(l:List ByteArray)(x:ByteArray)(w:World)(h:Names Z w v l):
  Calls prog 60 #[v,.string x] w λe w'=>e= .returned (.int .i64 (if placeOf l x<l.length then((placeOf l x:Nat):Int)else-1))/\w'=w:=by
 rw[<-zSD];have m:=λk(q:k<l.length)=>Names.at_ (A:=h.is.choose) (n:=l.length) (cap:=h.is.choose_spec.choose) (by rw[<-h.is.choose_spec.choose_spec.1];exact h) q
 obtain⟨A,c,rfl,f,u,t⟩:=h.form
 cases l with
 |nil=>exact(Tryz.slices_Index_string_empty A c x w).mono λe w' h=>h
 |cons a r=>
 obtain⟨b,d,rfl,_,_,_⟩:=Names.at_ h (k:=0) (by simp)
 have:=Tryz.slices_Index_string b d (a::r).length c (a::r) x w (Nat.le_refl _) (by omega) (λj g=>by
  obtain⟨s,i,e,_,_,o⟩:=Names.at_ h g;injection e with e;injection e with e1 e2;subst e1 e2
  rw[List.getD_eq_getElem?_getD,List.getElem?_eq_getElem g];exact o)
 rw[List.take_length]at this;exact this
theorem zTE(Z:zD)(A:Option Addr)(n cap:Nat)(l:List ByteArray)(x:ByteArray)(k:Nat)(w:World)(h:Names Z w (.slice A n cap) l)(g:k<=l.length)(m:l.length<=1000):
  Calls prog 58 #[.slice A k cap,.string x] w λe w'=>e= .returned (.bool (decide (x∈l.take k)))/\w'=w:=by
 cases k with
 |zero=>
  refine(Tryz.slices_Contains_string_empty A cap x w).mono ?_;rintro e w' ⟨rfl,rfl⟩;exact⟨by simp,rfl⟩
 |succ k=>
 obtain⟨b,a,rfl,_,_,_⟩:=Names.at_ h (k:=0) (by omega)
 have:=Tryz.slices_Contains_string b a (k+1) cap l x w g (by omega) (λj c=>by
  obtain⟨i,d,e,_,_,f⟩:=Names.at_ h c;injection e with e;injection e with e1 e2;subst e1 e2
  rw[List.getD_eq_getElem?_getD,List.getElem?_eq_getElem c];exact f)
 refine this.mono ?_;rintro e w' ⟨rfl,rfl⟩;refine⟨?_,rfl⟩;congr 2;rw[Bool.eq_iff_iff,Lib.containsS_iff,decide_eq_true_eq]
theorem zOJ{auths:List ByteArray}{zs:List zp}{l:List zF}{a:List Int}(b:k<l.length):zBS auths zs (l.drop k) a=if placeOf auths l[k].auth <auths.length then(if zCD l[k]=false then([],1)else zBS auths zs (l.drop (k+1)) ((zDa l[k]).foldl (zBI (zA5 zs (placeOf auths l[k].auth))) a))else zBS auths zs (l.drop (k+1)) a:=by
 rw[List.drop_eq_getElem_cons b];rfl
theorem zEZ.asc(h:zEZ w X F l):l.Pairwise (· < ·):=by obtain⟨v,_,_,a,_⟩:=h;exact a
theorem zEZ.lt(h:zEZ w X F l):X<w.heap.size:=by obtain⟨v,a,_⟩:=h;exact a.lt
theorem zSE:(List.range n).all p=true↔∀j,j<n->p j=true:=by simp[List.all_eq_true,List.mem_range]
theorem zTt(a:k<n)(h:p k=false):(List.range n).all p=false:=by
 rw[Bool.eq_false_iff];intro e;rw[zSE.1 e k a]at h;cases h
theorem Tryz.eIntE:zC2 prog 3 1 8:=zDH (z:= .int .i64 0) (by kernel_rfl) rfl (by decide)
theorem zPC(Z:zD)(vl va vz:Value)(l:List zF)(auths:List ByteArray)(zs:List zp)(w:World)(hl:zn Z w vl l)(ha:Names Z w va auths)(bx:zCy Z w vz zs)(hz:∀b,Z b->b<w.heap.size):
  Calls prog 28 #[vl,va,vz] w λe w'=>∃v,e= .returned (.tuple #[v,.int .i64 (zBd l auths zs).2])/\w'.ownsRow w.heap.size 3 1 v (zBd l auths zs).1.length ((zBd l auths zs).1.map (.int .i64))/\Bw w w':=by
 have ee:∀(fn:Fn)(first bs:Array Value)(w:World),(Instr.makeFunc fn first bs).run prog w= .ok (.func fn first bs) w:=λ_ _ _ _=>rfl
 have b0:=hid (λW(hW:Bw w W)=>ha.keep (.of_below_lt hW λb _ c=>hz b c));obtain⟨LA,dw,rfl,ed⟩:=zj.form hl;obtain⟨AA,ca,rfl,ea,eb,d8⟩:=ha.form;obtain⟨ZA,dx,rfl,ej⟩:=bx.form;have cr:=hid (λk(hk:k<l.length)=>zn.cells hl (P:=λb=>b<w.heap.size) hz hk);have b4:=hid (λk(hk:k<auths.length)=>Names.at_ ha hk);have cv:=hid ha.fit;have b9:=hid (λk(hk:k<zs.length)=>zCy.at_ bx hk);have HZ:=hid hz;have HE:=hid (show zBd l auths zs=if 200<l.length\/6<auths.length then([],2)else if auths.length≠zs.length then([],1)else if(List.range auths.length).all (zCV auths zs)=false then([],1)else zBS auths zs l [0] from rfl);clear hl ha bx hz;generalize zBd l auths zs=R at*;go_enter func28,ntmps28
 have dh:200<l.length\/(¬200<l.length/\6<auths.length)\/(¬200<l.length/\¬6<auths.length):=by omega
 rcases dh with h1|⟨h1,h2⟩|⟨h1,h2⟩
 ·have cg:200<(l.length:Int):=by omega
  have HR:=hid (HE.trans (if_pos (.inl h1)));go_wp2_with fail
  go_ret2;rw[HR.out];exact⟨_,rfl,zBi _ _ _ _,Below.refl _ _⟩
 ·have cg:¬200<(l.length:Int):=by omega
  have de:6<(auths.length:Int):=by omega
  have HR:=hid (HE.trans (if_pos (.inr h2)));go_wp2_with fail
  go_ret2;rw[HR.out];exact⟨_,rfl,zBi _ _ _ _,Below.refl _ _⟩
 have cg:¬200<(l.length:Int):=by omega
 have de:¬6<(auths.length:Int):=by omega
 have bo:=hid (HE.trans (if_neg (by omega)));clear HE;by_cases aw:auths.length≠zs.length
 ·have dv:((auths.length:Int)!=(zs.length:Int))=true:=by simp;omega
  have HR:=hid (bo.trans (if_pos aw));go_wp2_with fail
  go_ret2;rw[HR.out];exact⟨_,rfl,zBi _ _ _ _,Below.refl _ _⟩
 have aw:=Decidable.not_not.1 aw;have bp:=hid (bo.trans (if_neg (by omega)));clear bo;have br:=hid aw;have cp:((auths.length:Int)!=(zs.length:Int))=false:=by simp;omega
 clear aw;go_wp2_with fail
 clear cp;go_loopw[8,9,30] (λ_ _ i wr=>∃(k:Nat),k<=auths.length/\i= .int .i64 k/\Hid (∀j,j<k->zCV auths zs j=true)/\Bw w wr) (λ_ _ i _=>auths.length-(intOf i).toNat);case atStart=>exact⟨0,Nat.zero_le _,rfl,λj hj=>absurd hj (Nat.not_lt_zero j),Below.refl _ _⟩
 case round=>
  obtain⟨k,hk,rfl,bf,d⟩:=hrel;by_cases C:k<auths.length
  ·obtain⟨b,dl,rfl,ei,bu,hc⟩:=b4 k C;obtain⟨zb,zo,db,dn,rfl,cq,av,dz,ae⟩:=b9 k (by rw[<-br.out];exact C)
   have ax:=hid (show zCV auths zs k=(zAy auths[k]&&zBn (zA5 zs k)&& !(decide (auths[k]∈auths.take k))) from by
    unfold zCV;rw[List.getD_eq_getElem?_getD,List.getElem?_eq_getElem C];rfl)
   have cy:=hid (λ(h:zCV auths zs k=true) j(hj:j<k+1)=>(show zCV auths zs j=true from by
    by_cases e:j=k
    ·subst e;exact h
    exact bf j (by omega)))
   have ah:=hid (λ(h:zCV auths zs k=false)=>bp.trans (if_pos (zTt C h)));have ci:=brd d hc bu;have di:=lt_of_cell ci;have bt:=brd d dz av;have cf:=lt_of_cell bt;have cu:=hid (λW=>zQi auths[k] W (cv _ (List.getElem_mem C)));have da:=hid (λW(hW:Bw w W)=>zGG Z _ _ W (ae.keep (.of_below_lt hW λb _ c=>HZ b c)));have ct:=hid (λW(hW:Bw w W)=>zTE Z _ _ _ auths auths[k] k W (b0 W hW) (by omega) (by omega));(have dj:(k:Int)<(auths.length:Int):=by omega);(have bw:(k:Int)<=(ca:Int):=by omega);have E:=hid d;clear d hc dz ae bf;generalize zBn (zA5 zs k)=bz at*;generalize (zA5 zs k).length =ek at*;generalize decide (auths[k]∈auths.take k)=bm at*;generalize zCV auths zs k=ba at*;generalize zAy auths[k]=bi at*;generalize auths[k]=nm at*;(go_wp2_with fail);refine(cu _).mono ?_;rintro e w2 ⟨rfl,c⟩;have aa:=hid (zC E c);have Y:=brd c bt cf;have cj:=lt_of_cell Y;clear c ci di bt cf E;cases bi
   ·(go_wp2_with fail);go_ret2;rw[ah (by rw[ax.out];rfl)];exact⟨_,rfl,zBi _ _ _ _,aa⟩
   (go_wp2_with fail);refine(da _ aa).mono ?_;rintro e w3 ⟨rfl,c⟩;have ay:=hid (zC aa c);clear c Y cj aa;cases bz
   ·(go_wp2_with fail);go_ret2;rw[ah (by rw[ax.out];rfl)];exact⟨_,rfl,zBi _ _ _ _,ay⟩
   (go_wp2_with fail);refine(ct _ ay).mono ?_;rintro e w4 ⟨rfl,rfl⟩;cases bm
   ·(go_wp2_with fail);go_roundw;(case rel=>exact⟨k+1,by omega,by go_num,cy (by rw[ax.out];rfl),ay⟩);case measure=>simp[intOf];omega
   (go_wp2_with fail);go_ret2;rw[ah (by rw[ax.out];rfl)];exact⟨_,rfl,zBi _ _ _ _,ay⟩
  obtain rfl:k=auths.length:=by omega
  have b3:=hid (bp.trans (if_neg (by rw[zSE.2 bf.out];simp)));have E:=hid d;clear bf d bp b4;have df:wr.heap.size=wr.heap.size:=rfl;have bj:=hid (E.alloc E.size (.cells #[.slice none 0 0] 111));have al:=hid (show zEZ (wr.alloc (.cells #[.slice none 0 0] 111)) wr.heap.size (λb=>b<wr.heap.size) [] from⟨_,Blk.newE wr _ _ rfl,zBi _ _ _ _,.nil,λk hk=>by simp[Value.ownBlock]at hk⟩);have eh:w.heap.size<=wr.heap.size:=E.size;clear E df;go_upto_region 12 with fail
  have du:wr.heap.size<(wr.alloc (.cells #[.slice none 0 0] 111)).heap.size :=by simp
  generalize wr.alloc _=w1 at*;generalize wr.heap.size=X at*;go_wp2_with fail
  refine(zPZ X (λb=>b<X) [] 0 w1 al (by simp) (λb c=>by omega)).mono ?_;rintro e w2 ⟨rfl,cl,bw⟩;have aa:=hid (bj.trans (z8 (bw.mono λb _ c=>(show b<X by omega)) bj.size));have cw:=hid (show zEZ w2 X (λb=>b<X) [0] from cl);clear cl bw bj al;go_wp2_with fail
  go_loopw[12,13,14,57] (λ_ _ _ i wr=>∃(k:Nat)(lk:List Int),k<=l.length/\i= .int .i64 k/\Hid (zEZ wr X (λb=>b<X) lk)/\Hid (zBS auths zs l [0]=zBS auths zs (l.drop k) lk)/\lk.length<=1+3*k/\Bw w wr) (λ_ _ _ i _=>l.length-(intOf i).toNat);case atStart=>exact⟨0,[0],Nat.zero_le _,rfl,cw.out,hid rfl,by simp,aa⟩
  case round=>
   obtain⟨k,lk,hk,rfl,ad,bc,ec,d⟩:=hrel;by_cases C:k<l.length
   ·obtain⟨b,dl,FA,s,rfl,bu,dc⟩:=cr k C;obtain⟨c0,c1,c2,c3,c4,c5,c6,c7,c8,c9,cb,cc⟩:=zBQ (λj u hu=>(d.cell (p:=⟨b,_,none⟩) bu).trans (dc j u hu));have dg:=lt_of_cell c0;have aj:=hid (bc.trans (zOJ C));have b2:=hid (λa0 a1 a3 a4 a5 a6 a7 a8 W=>zLE a0 a1 a3 a4 a5 a6 a7 a8 l[k] W);have bn:=hid (show zDa l[k]=if 0<=l[k].until_ then[l[k].from_,l[k].from_ +l[k].wind,l[k].until_]else[l[k].from_,l[k].from_ +l[k].wind] from rfl)
    have b8:=hid (λ(h:zCD l[k]=true)=>(show 0<=l[k].from_ /\l[k].from_ <=100000/\0<=l[k].wind /\l[k].wind <=400 from by
     unfold zCD at h;simp only[Bool.and_eq_true,decide_eq_true_eq,zEM]at h
     omega))
    clear dc bc;have b7:=hid (λW(hW:Bw w W)=>zOI Z _ auths l[k].auth W (b0 W hW));generalize zDa l[k]=d5 at*;generalize zCD l[k]=dt at*;generalize l[k]=m at*;obtain⟨id,au,af,tg,⟨op,nm,cm,nu,kids⟩,a,un,f⟩:=m;simp only[Fm.op,Fm.name,Fm.cmp,Fm.num,Fm.kids]at aj b2 bn b8 b7 c0 c1 c2 c3 c4 c5 c6 c7 c8 c9 cb cc;generalize kids.length=kl at*;generalize placeOf auths au=pc at*;(have dj:(k:Int)<(l.length:Int):=by omega);have bg:=hid (d.alloc d.size (.cells #[.string id,.string au,.int .i64 af,.string tg,.int .i64 op,.string nm,.int .i64 cm,.int .i64 nu,.slice FA kl s,.int .i64 a,.int .i64 un,.int .i64 f] 54));have a9:=hid (Blk.new wr 54 #[.string id,.string au,.int .i64 af,.string tg,.int .i64 op,.string nm,.int .i64 cm,.int .i64 nu,.slice FA kl s,.int .i64 a,.int .i64 un,.int .i64 f]);have b5:=hid (ad.keep ((Below.refl wr.heap.size wr).alloc (Nat.le_refl _) (.cells #[.string id,.string au,.int .i64 af,.string tg,.int .i64 op,.string nm,.int .i64 cm,.int .i64 nu,.slice FA kl s,.int .i64 a,.int .i64 un,.int .i64 f] 54)) (F':=λb=>b<X\/wr.heap.size<=b) λb c h=>h.resolve_right (by omega));have d7:X<wr.heap.size:=ad.lt;have al:=hid ad.out;clear d ad;(go_upto_region 16 with fail);clear c0 c1 c2 c3 c4 c5 c6 c7 c8 c9 cb cc dg;(have dq:wr.heap.size<(wr.alloc (.cells #[.string id,.string au,.int .i64 af,.string tg,.int .i64 op,.string nm,.int .i64 cm,.int .i64 nu,.slice FA kl s,.int .i64 a,.int .i64 un,.int .i64 f] 54)).heap.size :=by simp);have dy:=hid ((Below.refl wr.heap.size wr).alloc (Nat.le_refl _) (.cells #[.string id,.string au,.int .i64 af,.string tg,.int .i64 op,.string nm,.int .i64 cm,.int .i64 nu,.slice FA kl s,.int .i64 a,.int .i64 un,.int .i64 f] 54));generalize wr.alloc _=w5 at*;obtain⟨p0,H,p1,I,p2,J,p3,K,p4,L,p5,M,p6,N,p7,O,p8,Q,p9,T,F,o,G,q,pl⟩:=a9.d12;(go_wp2_with fail);refine(b7 _ bg).mono ?_;rintro e w6 ⟨rfl,rfl⟩;by_cases hp:pc<auths.length
    ·rw[if_pos hp];have U:=hid (aj.trans (if_pos hp));(have ef:¬((pc:Int)<0):=by omega);(go_wp2_with fail);refine(b2 _ _ _ _ _ _ _ _ _).mono ?_;rintro e y ⟨rfl,c⟩;have ab:=hid (zC bg c);have ao:=hid (a9.below c a9.lt);have b6:=hid (b5.keep c (F':=λb=>b<X\/wr.heap.size<=b) λ_ _ h=>h);have dr:=c.size;clear c p0 p1 p2 p3 p4 p5 p6 p7 p8 p9 F G H I J K L M N O Q T o q pl a9;cases dt
     ·have V:=hid (U.trans (if_pos rfl));(go_wp2_with fail);go_ret2;rw[b3.out,V.out];exact⟨_,rfl,zBi _ _ _ _,ab⟩
     have V:=hid (U.trans (if_neg (by simp)));obtain⟨r1,r2,r3,r4⟩:=b8 rfl;obtain⟨zb,zo,db,dn,rfl,cq,av,dz,ae⟩:=b9 pc (by rw[<-br.out];exact hp);have d0:=hid ae;have ap:=brd ab dz av;(have eg:(pc:Int)<(zs.length:Int):=by rw[<-br.out];omega);have b1:=hid (λbd ce ds W hW=>zQk Z X (λb=>b<X\/(wr.heap.size<=b/\b<W.heap.size)) _ _ bd ce ds lk W (ae.keep (.of_below_lt hW λb _ c=>HZ b c)));clear dz ae;obtain⟨p0,H,p1,I,p2,J,p3,K,p4,L,p5,M,p6,N,p7,O,p8,Q,p9,T,F,o,G,q,pl⟩:=ao.d12;have t:=lt_of_cell ap;by_cases co:0<=un
     ·have ai:=hid (bn.trans (if_pos co));have az:=hid (Blk.newE y 3 #[.int .i64 a,.int .i64 (a+f)] (n:=y.heap.size) rfl);have bb:=hid (ao.alloc (.cells #[.int .i64 a,.int .i64 (a+f)] 3));have a2:=hid (b6.keep ((Below.refl y.heap.size y).alloc (Nat.le_refl _) (.cells #[.int .i64 a,.int .i64 (a+f)] 3)) (F':=λb=>b<X\/wr.heap.size<=b) λ_ _ h=>h);have ac:=hid (ab.alloc ab.size (.cells #[.int .i64 a,.int .i64 (a+f)] 3));have aq:=((zA.refl (λ_=>True) y).alloc (.cells #[.int .i64 a,.int .i64 (a+f)] 3)).cell (p:=⟨zb,zo+pc,none⟩) trivial ap;(go_upto_region 21 with fail);clear p0 p1 p2 p3 p4 p5 p6 p7 p8 p9 F G H I J K L M N O Q T o q pl ao t ap;(have cn:y.heap.size+1=(y.alloc (.cells #[.int .i64 a,.int .i64 (a+f)] 3)).heap.size :=by simp);generalize y.alloc _=w8 at*;generalize y.heap.size=X8 at*;obtain⟨p0,H,p1,I,p2,J,p3,K,p4,L,p5,M,p6,N,p7,O,p8,Q,p9,T,F,o,G,q,pl⟩:=bb.d12;have t:=lt_of_cell aq;have bq:=hid ((zHb (base:=X8) (Nat.le_refl _) az (cap:=2) (n:=2) (xs:=[.int .i64 a,.int .i64 (a+f)]) (by omega) (by decide) rfl rfl (λj _=>by simp)).alloc (.cells #[.int .i64 un] 3));(go_upto_region 23 with(at_builtin;refine zh rfl (.tmp 81) (.tmp 84) _ rfl underlying33 Tryz.eIntE rfl bq rfl (news:=[.int .i64 un]) rfl (one_cell (by simp)) (by simp[Value.oneCell']) (by unfold maxLen;omega) (by omega) (by simp;omega) ?_;intro v9 w9 x bv ch));have dk:=bv.size;simp only[World.size_alloc]at dk;have A:Below X8 w8 w9:=(((Below.refl X8 w8).alloc (by omega) (.cells #[.int .i64 un] 3)).grown bv (by simp;omega) (λkk e=>(bq.lt kk e).1));have bh:=hid (ac.trans (A.mono (by omega)))
      have cx:=hid (show zEZ w9 X (λb=>b<X\/wr.heap.size<=b) lk from by
       obtain⟨v,q1,q2,q3,q4⟩:=a2.out;have q5:=q1.lt
       exact⟨v,q1.below A (by omega),zXL (Z:=λb=>b<X8) q2 (zFb A) (λkk ck=>by have:=(q2.lt kk ck).2;have:=q4 kk ck;omega),q3,q4⟩)
      have dd:=brd A aq (by show zb<X8;omega);obtain⟨g9,cd,rfl⟩:=zBc x
      have bk:=hid (λj u(hu:([.int .i64 a,.int .i64 (a+f),.int .i64 un]:List Value)[j]? =some u)=>(show w9.cell? ⟨g9,0+j,none⟩=some u from by
       have:=x.cells (g:=g9) rfl j u hu
       rwa[show(⟨g9,0,none⟩:Addr).add j=⟨g9,0+j,none⟩ from by unfold Addr.add;split<;>simp_all]at this))
      have dp:=x.lt g9 rfl;clear A bv ch x a2 ac bb az bq p0 p1 p2 p3 p4 p5 p6 p7 p8 p9 F G H I J K L M N O Q T o q pl t aq;have t:=lt_of_cell dd;(go_wp2_with fail);refine(b1 g9 cd [a,a+f,un] w9 bh (cx.keep (Below.refl _ _) λb _ c=>by rcases c with c|c;exact .inl c;exact .inr c.1) (by simp;omega) (λb c=>by omega) (λb c=> .inl (by have:=HZ b c;omega)) bk (.inr (by omega))).mono ?_;rintro e dm ⟨rfl,D,B⟩;have ak:=hid (D.keep (F':=λb=>b<X) (Below.refl _ _) λb _ c=> .inl c);have ag:=hid (bh.trans (z8 (B.mono λb _ c=> .inl (show b<X by omega)) bh.size));have ar:=al.asc;clear D B;(go_wp2_with fail);go_roundw;(case rel=>exact⟨k+1,_,by omega,by go_num,ak.out,hid (by rw[V.out,ai.out]),by have:=zES (z:=zA5 zs pc) (ds:=[a,a+f,un]) ar;simp only[List.length_cons,List.length_nil]at this;omega,ag⟩);case measure=>simp[intOf];omega
     have ai:=hid (bn.trans (if_neg co));have az:=hid (Blk.newE y 3 #[.int .i64 a,.int .i64 (a+f)] (n:=y.heap.size) rfl);have bb:=hid (ao.alloc (.cells #[.int .i64 a,.int .i64 (a+f)] 3));have a2:=hid (b6.keep ((Below.refl y.heap.size y).alloc (Nat.le_refl _) (.cells #[.int .i64 a,.int .i64 (a+f)] 3)) (F':=λb=>b<X\/wr.heap.size<=b) λ_ _ h=>h);have ac:=hid (ab.alloc ab.size (.cells #[.int .i64 a,.int .i64 (a+f)] 3));have aq:=((zA.refl (λ_=>True) y).alloc (.cells #[.int .i64 a,.int .i64 (a+f)] 3)).cell (p:=⟨zb,zo+pc,none⟩) trivial ap;(go_upto_region 21 with fail);clear p0 p1 p2 p3 p4 p5 p6 p7 p8 p9 F G H I J K L M N O Q T o q pl ao t ap;(have cn:y.heap.size+1=(y.alloc (.cells #[.int .i64 a,.int .i64 (a+f)] 3)).heap.size :=by simp);generalize y.alloc _=w8 at*;generalize y.heap.size=X8 at*;obtain⟨p0,H,p1,I,p2,J,p3,K,p4,L,p5,M,p6,N,p7,O,p8,Q,p9,T,F,o,G,q,pl⟩:=bb.d12;have t:=lt_of_cell aq
     have bk:=hid (λj u(hu:([.int .i64 a,.int .i64 (a+f)]:List Value)[j]? =some u)=>(show w8.cell? ⟨X8,0+j,none⟩=some u from by
      rw[Nat.zero_add,az.cell j];simpa using hu))
     (go_wp2_with fail);refine(b1 X8 2 [a,a+f] w8 ac (a2.keep (Below.refl _ _) λb _ c=>by rcases c with c|c;exact .inl c;exact .inr c.1) (by simp;omega) (λb c=>by omega) (λb c=> .inl (by have:=HZ b c;omega)) bk (.inr (by omega))).mono ?_;rintro e dm ⟨rfl,D,B⟩;have ak:=hid (D.keep (F':=λb=>b<X) (Below.refl _ _) λb _ c=> .inl c);have ag:=hid (ac.trans (z8 (B.mono λb _ c=> .inl (show b<X by omega)) ac.size));have ar:=al.asc;clear D B;(go_wp2_with fail);go_roundw;(case rel=>exact⟨k+1,_,by omega,by go_num,ak.out,hid (by rw[V.out,ai.out]),by have:=zES (z:=zA5 zs pc) (ds:=[a,a+f]) ar;simp only[List.length_cons,List.length_nil]at this;omega,ag⟩);case measure=>simp[intOf];omega
    rw[if_neg hp];have U:=hid (aj.trans (if_neg hp));(go_wp2_with fail);go_roundw;(case rel=>exact⟨k+1,lk,by omega,by go_num,b5.keep (Below.refl _ _) λb _ c=> .inl c,U.out,by omega,bg⟩);case measure=>simp[intOf];omega
   (obtain rfl:k=l.length:=by omega);have aj:=hid (show zBS auths zs l [0]=(lk,0) from by rw[bc.out,List.drop_length];rfl);have cz:=hid ad.out;have cs:=hid d;clear ad d bc;obtain⟨v,q1,q2,-,-⟩:=cz.out;have q0:=q1.at0;have qf:=q1.frozen 0;have ql:=q1.lt;have HQ:=hid q2;clear q1 q2;(go_wp2_with fail);go_ret2;rw[b3.out,aj.out];exact⟨_,rfl,zQl HQ (by omega),cs⟩
end Go.Proofs.YtommaegelgilnaaGreatDoor
