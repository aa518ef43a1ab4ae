/- Lemmas. -/
import Derived.Test.YtommaegelgilnaaGreatDoorM34
import Derived.Test.YtommaegelgilnaaGreatDoorM33
set_option linter.all false
namespace Go.Proofs.YtommaegelgilnaaGreatDoor
open Go.RowKit Go.Proofs.Tryz
set_option maxHeartbeats 8000000
set_option maxRecDepth 100000
variable {B b base k n:Nat}{P:Program}{Z:zD}{l xs ys:List ByteArray}{t:TypeId}{u v:Value}{w w':World}{x:ByteArray}{κ:Type}
theorem zLR{ds:List zE}:∀{l:List zF}{k:Nat}(b:k<l.length),(∀j(a:j<l.length),j<k->zBA ds l[j]=0)->zBA ds l[k]≠0->zC9 ds l=zBA ds l[k]
 |m::r,0,_,_,h=>by unfold zC9;rw[if_neg (show ¬zBA ds m=0 from h)];rfl
 |m::r,k+1,b,h0,h=>by
  unfold zC9;rw[if_pos (show zBA ds m=0 from h0 0 (by simp) (by omega))];exact zLR (l:=r) (k:=k) (by simpa using b) (λj a c=>h0 (j+1) (by simpa using a) (by omega)) h
theorem zQc:(!decide (l++[x]).Nodup)=(!decide l.Nodup||decide (x∈l)):=by
 rw[Bool.eq_iff_iff];simp only[Bool.not_eq_true',decide_eq_false_iff_not,Bool.or_eq_true,decide_eq_true_eq,List.nodup_append];constructor
 ·intro h;by_cases c:l.Nodup
  ·right;apply Classical.byContradiction;intro f;exact h ⟨c,by simp,λa g b d e=>by rw[List.mem_singleton]at d;subst d;subst e;exact f g⟩
  exact .inl c
 rintro(h|h) ⟨c,_,h3⟩
 ·exact h c
 exact h3 x h x (by simp) rfl
theorem zQd(Z:zD)(vl vd va vz vc:Value)(l:List zF)(s:zM)(w:World)(hl:zn Z w vl l)(h:zBq Z w vd va vz vc s)(H:∀b,Z b->b<w.heap.size)(hs:∀m∈l,zH m.when_<=1000000):
  Calls prog 92 #[vl,.agg #[vd,va,vz,vc,.int .i64 s.signed,.int .i64 s.now]] w λe w'=>e= .returned (.int .i64 (zDc l s))/\Bw w w':=by
 have al:=hid (λW(G:Bw w W)=>zJr Z vd va vz vc s W (h.keep (.of_below_lt G λb _ c=>H b c)) (λb c=>Nat.lt_of_lt_of_le (H b c) G.size));have bw:=hid (λW(G:Bw w W)=>h.d.keep (.of_below_lt G λb _ c=>H b c));have a8:=hid (λ(m:zF)(cs:List Value)(hm:zBs Z w cs m)(hf:zH m.when_<=1000000) W(G:Bw w W)=>zQb Z m cs vd s.dom W (hm.keep (.of_below_lt G λb _ c=>H b c)) (h.d.keep (.of_below_lt G λb _ c=>H b c)) hf (λb c=>Nat.lt_of_lt_of_le (H b c) G.size));obtain⟨LA,bv,rfl,b1⟩:=zj.form hl;have a6:=hid (λk(hk:k<l.length)=>zj.at_ hl hk);have a7:=hid hs;have HZ:=hid H;have HE:=hid (show zDc l s=(if zCR s=false then 1 else if 200<l.length then 2 else if zC9 s.dom l≠0 then zC9 s.dom l else if(l.map zF.id).Nodup then 0 else 9) from rfl);obtain⟨DA,n,rfl⟩:∃A2 v,vd= .slice A2 s.dom.length v:=by obtain⟨⟨A2,v,e,_⟩,_⟩:=h.d;exact⟨A2,v,e⟩
 have b2:= @run_makeMap prog;have HB:=hid (zG w (.cells #[.slice DA s.dom.length n,va,vz,vc,.int .i64 s.signed,.int .i64 s.now] 30));have HX:=hid (Blk.new w 30 #[.slice DA s.dom.length n,va,vz,vc,.int .i64 s.signed,.int .i64 s.now]);clear h H hs hl;generalize zDc l s=R at*;generalize zCR s=pb at*;go_enter func92,ntmps92
 go_upto_region 1 with fail
 generalize w.alloc _=w1 at*;obtain⟨p0,aa,p1,ab,p2,ac,p3,ad,p4,ae,p5,af,pl⟩:=HX.out.d6;go_wp2_with fail
 refine(al _ HB).mono ?_;rintro e w2 ⟨rfl,c⟩;have q:=hid (zC HB c);have U:=hid (HX.below c HX.lt);clear c p0 p1 p2 p3 p4 p5 aa ab ac ad ae af pl HB HX al;cases pb
 ·go_wp2_with fail
  go_ret;exact⟨by rw[HE.out];rfl,q⟩
 by_cases F:200<l.length
 ·have V:200<(l.length:Int):=by omega
  go_wp2_with fail
  go_ret;exact⟨zAz (by rw[HE.out,if_neg (by simp),if_pos F]),q⟩
 have V:¬200<(l.length:Int):=by omega
 have L:=hid (show R=if zC9 s.dom l≠0 then zC9 s.dom l else if(l.map zF.id).Nodup then 0 else 9 from by rw[HE.out,if_neg (by simp),if_neg F]);go_wp2_with fail
 have Q:=hid (zS.made w2 encS);have ag:=hid (q.alloc q.size (.map #[] 0));have aq:=hid (U.alloc (.map #[] 0));obtain⟨M,hM⟩:∃M,w2.heap.size=M:=⟨_,rfl⟩;have ax:w.heap.size<M:=by have:=U.lt;omega
 rw[hM]at Q⊢;generalize w2.alloc (.map #[] 0)=w4 at*;clear q U HE hM;go_loopw[6,8,9,19] (λv6 v8 v9 i wr=>∃(k:Nat)(kv:List (ByteArray × Value))(I:Bool),k<=l.length/\i= .int .i64 k/\v6= .bool I/\zS encS wr M kv/\Blk wr w.heap.size 30 #[.slice DA s.dom.length n,va,vz,vc,.int .i64 s.signed,.int .i64 s.now]/\Bw w wr/\Hid (∀j(hj:j<l.length),j<k->zBA s.dom l[j]=0)/\Hid (zDZ kv ((l.take k).map zF.id))/\Hid (I= !decide ((l.take k).map zF.id).Nodup)) (λ_ _ _ i _=>l.length-(intOf i).toNat);case atStart=>exact⟨0,[],false,Nat.zero_le _,rfl,rfl,Q.out,aq.out,ag.out,λj _ h=>absurd h (Nat.not_lt_zero j),λx=>⟨λh=>by simp at h,λ_=>rfl⟩,by simp[Hid]⟩
 case round=>
  obtain⟨k,kv,I,hk,rfl,rfl,o,a1,a,D,f,E⟩:=hrel;clear Q ag aq;by_cases C:k<l.length
  ·obtain⟨b,b3,cs,rfl,bh,dc,X⟩:=a6 k C;have ay:=a7 l[k] (List.getElem_mem C);have z:=hid (λ(h:zBA s.dom l[k]≠0)=>zLR C D h)
   have ba:=hid (λ(h:zBA s.dom l[k]=0) j(hj:j<l.length)(bz:j<k+1)=>(show zBA s.dom l[j]=0 from by
    by_cases e:j=k
    ·subst e;exact h
    exact D j hj (by omega)))
   have a3:=zXN C;have ao:=hid (f.add l[k].id);have T:=hid (show(l.take (k+1)).map zF.id=(l.take k).map zF.id++[l[k].id] from by rw[a3,List.map_append];rfl);have a2:=f.look l[k].id;have O:=hid (a8 l[k] cs X ay);obtain⟨FA,g,rfl,-⟩:=X.form;have bc:b<w.heap.size:=HZ b bh;obtain⟨c0,c1,c2,c3,c4,c5,c6,c7,c8,c9,av,aw⟩:=zBQ (λj u hu=>(a.cell (p:=⟨b,_,none⟩) bc).trans (dc j u hu));have bd:=lt_of_cell c0;clear dc X ay a3;generalize zBA s.dom l[k]=mv at*;generalize l[k]=m at*;obtain⟨id,au,kd,tg,⟨op,nm,cm,nu,kids⟩,fr,un,wi⟩:=m;simp only[Fm.op,Fm.name,Fm.cmp,Fm.num,Fm.kids]at O ao T a2 c0 c1 c2 c3 c4 c5 c6 c7 c8 c9 av aw;generalize kids.length=kl at*;obtain⟨sb,a0,y⟩:=a2
   have a9:=hid (show(!decide ((l.take k).map zF.id++[id]).Nodup)=(I||sb) from by
    rw[zQc,<-E.out];congr 1
    cases sb<;>simp at y⊢ <;>simpa using y)
   have ai:=hid o;(have b0:(k:Int)<(l.length:Int):=by omega);(go_upto_region 9 with fail);have J:=hid (a.alloc a.size (.cells #[.string id,.string au,.int .i64 kd,.string tg,.int .i64 op,.string nm,.int .i64 cm,.int .i64 nu,.slice FA kl g,.int .i64 fr,.int .i64 un,.int .i64 wi] 54));have A:=hid (a1.alloc (.cells #[.string id,.string au,.int .i64 kd,.string tg,.int .i64 op,.string nm,.int .i64 cm,.int .i64 nu,.slice FA kl g,.int .i64 fr,.int .i64 un,.int .i64 wi] 54));have N:=hid (ai.of_block (Below.heap_alloc _ (.cells #[.string id,.string au,.int .i64 kd,.string tg,.int .i64 op,.string nm,.int .i64 cm,.int .i64 nu,.slice FA kl g,.int .i64 fr,.int .i64 un,.int .i64 wi] 54) _ o.lt));have B:=hid (Blk.new wr 54 #[.string id,.string au,.int .i64 kd,.string tg,.int .i64 op,.string nm,.int .i64 cm,.int .i64 nu,.slice FA kl g,.int .i64 fr,.int .i64 un,.int .i64 wi]);have bu:w.heap.size<=wr.heap.size:=a.size;have bx:=o.lt;clear c0 c1 c2 c3 c4 c5 c6 c7 c8 c9 av aw bd a1 o a y ai f E;generalize wr.alloc _=w5 at*;generalize wr.heap.size=X5 at*;obtain⟨p0,aa,p1,ab,p2,ac,p3,ad,p4,ae,p5,af,p6,bk,p7,bm,p8,bn,p9,bo,bi,a4,bj,a5,pl⟩:=B.d12;obtain⟨q0,bp,ql⟩:=A.out.d1;(go_wp2_with fail);refine(O _ J).mono ?_;rintro e w6 ⟨rfl,c⟩;have K:=hid (zC J c);have bb:=hid (A.below c A.lt);have ah:=hid (N.of_block (c.block M N.lt));have ar:=hid (B.below c B.lt);clear c p0 p1 p2 p3 p4 p5 p6 p7 p8 p9 bi bj aa ab ac ad ae af bk bm bn bo a4 a5 pl q0 bp ql J A N B O;by_cases Y:mv=0
   ·subst Y
    have bf:(Instr.lookup 95 (.map (some M)) (.string id) false).run prog w6= .ok (.bool sb) w6:=by
     have:=zS.look (w:=w6) ah (zAK (P:=prog) (k:=9) underlying9) (t:=95) (e:=4) underlying95 (Tryz.zero4 _) id false;simpa[encS,a0]using this
    clear a0;have p0:=ar.at0;have pl:=ar.lt;have ak:=hid (show Hid ((I||sb)= !decide ((l.take (k+1)).map zF.id).Nodup) from by rw[T.out];exact a9.symm);cases I
    all_goals
     go_wp2_with(at_mapUpdate;refine zA6 rfl (.tmp 37) (.tmp 39) _ rfl (zAK (P:=prog) (k:=9) underlying9) (e:=4) underlying95 rfl ah id rfl ?_;intro w9 bg az bt bq br);go_roundw
     case rel=>
      exact⟨k+1,_,_,by omega,by go_num,rfl,bg,bb.keep az (Nat.ne_of_lt ax),zAG K az (Nat.le_of_lt ax) K.size,ba (by first|exact rfl|trivial),by rw[T.out];exact ao.out,ak⟩
     case measure=>simp[intOf];omega
   (have bs:((mv:Int)!=(0:Int))=true:=by simp[Y]);have aj:=hid Y;(go_wp2_with fail);go_ret;have h1:=z aj.out;exact⟨zAz (by rw[L.out,h1,if_pos aj.out]),K⟩
  obtain rfl:k=l.length:=by omega
  have z:=hid (show zC9 s.dom l=0 from zFG.2 λm hm=>by
   obtain⟨j,hj,rfl⟩:=List.getElem_of_mem hm
   exact D j hj hj)
  have ap:=hid (show I= !decide (l.map zF.id).Nodup from by have:=E.out;rwa[List.take_length]at this);clear E f D;cases I
  ·(go_wp2_with fail);go_ret
   exact⟨zAz (by
    have h1:=ap.out
    rw[L.out,z.out,if_neg (by simp),if_pos (by simpa using h1)]),a⟩
  go_wp2_with fail
  go_ret
  exact⟨zAz (by
   have h1:=ap.out
   rw[L.out,z.out,if_neg (by simp),if_neg (by simpa using h1)]),a⟩
theorem Tryz.eMeas:zC2 prog 54 12 144:=zDH (z:= .agg #[.string ⟨#[]⟩,.string ⟨#[]⟩,.int .i64 0,.string ⟨#[]⟩,.int .i64 0,.string ⟨#[]⟩,.int .i64 0,.int .i64 0,.slice none 0 0,.int .i64 0,.int .i64 0,.int .i64 0]) (by kernel_rfl) rfl (by decide)
theorem Tryz.zInt(w:World):(zeroValue 3).run prog w= .ok (.int .i64 0) w:=by kernel_rfl
theorem zOE{l:List zF}{csl:List (List Value)}(h:w.ownsRow base t 12 v l.length csl.flatten)(he:zB7 (zBs Z w) 12 l csl)(c:l.length<=5864062014805)(e:∀b,v.ownBlock=some b->Z b):zn Z w v l:=by
 have a:=h.1;rcases h.2 with⟨rfl,h0⟩|⟨g,cap,cur,rfl,hb,hg,hn,hm,hsz,htk⟩
 ·have:l=[]:=List.eq_nil_of_length_eq_zero h0;subst this;exact zj.nil
 refine⟨some ⟨g,0,none⟩,cap,rfl,hn,by simpa[maxLen]using hm,c,zB7.rows (e g rfl) he λj u d=> ?_⟩;have:=h.cells (g:=g) rfl j u d;rwa[show(⟨g,0,none⟩:Addr).add j=⟨g,0+j,none⟩ from by unfold Addr.add;split<;>simp_all]at this
theorem zFp{cs:List Value}(h:Blk w b t cs.toArray):∀j x,cs[j]? =some x->w.cell? ⟨b,0+j,none⟩=some x:=λj x a=>by
 rw[Nat.zero_add,h.cell j];simpa using a
theorem zOv{l:List zF}{s:zM}{kd:Int}(a:k<l.length):(l.take (k+1)).filter (z1 s kd)=(l.take k).filter (z1 s kd)++(if z1 s kd l[k]=true then[l[k]]else[]):=by
 rw[zXN a,List.filter_append];congr 1;simp only[List.filter];cases z1 s kd l[k]<;>rfl
theorem zM8{L:List zF}{x:zF}{c:List Value}(h:zBs Z w c x)(a:c.length=12):∀cs,zB7 (zBs Z w) 12 L cs->zB7 (zBs Z w) 12 (L++[x]) (cs++[c]):=λ_ b=>b.append (zB7.one h a)
theorem zQe(Z:zD)(B0 B9 B4 M:Nat)(vl vd va vz vc:Value)(l:List zF)(s:zM)(kd:Int)(kv:List (ByteArray × Value))(w:World)(hl:zn Z w vl l)(h:zBq Z w vd va vz vc s)(hz:∀b,Z b->b<w.heap.size)(hs:∀m∈l,zH m.when_<=1000000)(hn:l.length<=200)
  (bb:s.zones.length=s.auths.length)(ay:s.cases.length=s.auths.length)
  (g:Blk w B0 22 #[vl])(ax:Blk w B9 142 #[.map (some M)])(aw:Blk w B4 30 #[vd,va,vz,vc,.int .i64 s.signed,.int .i64 s.now])
  (hM:zS encS w M kv)(bw:∀x,zAA kv x=if placeOf s.auths x<s.auths.length then some (.int .i64 ((placeOf s.auths x:Nat):Int))else none):
  Calls prog 93 #[.int .i64 kd,.pointer (some ⟨B0,0,none⟩),.pointer (some ⟨B9,0,none⟩),.pointer (some ⟨B4,0,none⟩)] w λe w'=>∃v,e= .returned v/\zn (λb=>Z b\/w.heap.size<=b) w' v (l.filter (z1 s kd))/\Bw w w':=by
 have bd:=hid (λ(m:zF)(a0 a1 a3 a4 a5 a6 a7 a8:Value)(v:Value)(z:zp)(hv:zB4 Z w v z) W(hW:Bw w W)=>zJC Z a0 a1 a3 a4 a5 a6 a7 a8 m v z s.signed s.now W (hv.keep (.of_below_lt hW λb _ D=>hz b D)) (λb D=>Nat.lt_of_lt_of_le (hz b D) hW.size));have bk:=hid (λ(m:zF)(cs:List Value)(hf:FmR Z w m.when_ cs)(az:zH m.when_<=1000000)(aq:Value)(c:List Int)(hc:zO Z w aq c) W(hW:Bw w W)=>zR5 Z vd aq s.dom c m.when_ cs W (FmR.keep (.of_below_lt hW λb _ D=>hz b D) _ _ hf) (h.d.keep (.of_below_lt hW λb _ D=>hz b D)) (hc.keep (.of_below_lt hW λb _ D=>hz b D)) (by omega) (λb D=>Nat.lt_of_lt_of_le (hz b D) hW.size));obtain⟨LA,dd,rfl,dk⟩:=zj.form hl;obtain⟨ZA,b5,rfl,b4⟩:=h.z.form;obtain⟨CA,bp,rfl,bs⟩:=h.c.form;obtain⟨DA,bq,rfl⟩:∃A2 ai,vd= .slice A2 s.dom.length ai:=by obtain⟨⟨A2,ai,e,_⟩,_⟩:=h.d;exact⟨A2,ai,e⟩
 have b7:=hid (λk(hk:k<l.length)=>zj.at_ hl hk);have ch:=hid (λk(hk:k<s.zones.length)=>zCy.at_ h.z hk);have b8:=hid (λk(hk:k<s.cases.length)=>zDK.at_ h.c hk);have ca:=hid hs;have HZ:=hid hz;have cd:=hid bw;have bm:=hid (And.intro bb ay);have dg:=hid g;have bg:=hid ax;have bf:=hid aw;have ce:=hid hM;have dj:=g.lt;have bx:=ax.lt;have cu:=aw.lt;have cv:=hM.lt;rw[bb,ay]at bf;have e0:=g.at0;clear h hz hs hl bb ay bw ax aw hM b4 bs;go_enter func93,ntmps93
 go_wp2_with fail
 go_loopw[6,8,9,10,13] (λv6 v8 v9 d0 i wr=>∃(k:Nat)(T:List (List Value)),k<=l.length/\i= .int .i64 k/\wr.ownsRow w.heap.size 54 12 v6 ((l.take k).filter (z1 s kd)).length T.flatten/\zB7 (zBs Z w) 12 ((l.take k).filter (z1 s kd)) T/\Bw w wr) (λ_ _ _ _ i _=>l.length-(intOf i).toNat);case atStart=>exact⟨0,[],Nat.zero_le _,rfl,zBi _ _ _ _,trivial,Below.refl _ _⟩
 case round=>
  obtain⟨k,T,hk,rfl,ak,ab,G⟩:=hrel;clear e0;by_cases a2:k<l.length
  ·obtain⟨b,dn,cs,rfl,cw,dc,a9⟩:=b7 k a2;have cf:=hid a9;have az:=ca l[k] (List.getElem_mem a2);have J:=hid (zOv (s:=s) (kd:=kd) a2);have aj:z1 s kd l[k]=(decide (placeOf s.auths l[k].auth <s.auths.length)&&decide (l[k].kind =kd)&&zD2 l[k] (zA5 s.zones (placeOf s.auths l[k].auth)) s.signed s.now&&zFl s.dom (zDb s (placeOf s.auths l[k].auth)) l[k].when_):=rfl;have ad:=cd l[k].auth;have db:((l.take k).filter (z1 s kd)).length <=k:=Nat.le_trans (List.length_filter_le _ _) (by rw[List.length_take];omega);obtain⟨FA,C,rfl,bv,-⟩:=a9.form;have ag:=hid (λaq c hc W hW=>bk l[k] _ bv az aq c hc W hW);have af:=hid (bd l[k]);have cq:b<w.heap.size:=HZ b cw;obtain⟨O,c1,c2,c3,c4,c5,c6,c7,c8,c9,bn,bo⟩:=zBQ (λj u hu=>(G.cell (p:=⟨b,_,none⟩) cq).trans (dc j u hu));have cr:=lt_of_cell O;generalize ((l.take k).filter (z1 s kd))=L at*;have bi:=hid (zM8 (L:=L) cf rfl);obtain⟨cn,bt⟩:∃cn,z1 s kd l[k]=cn:=⟨_,rfl⟩;rw[bt]at aj J;have F:=hid aj;clear dc a9 az bv bt aj;obtain⟨pc,b2⟩:∃pc,placeOf s.auths l[k].auth =pc:=⟨_,rfl⟩;rw[b2]at F ad;clear b2;generalize l[k]=m at*;obtain⟨id,au,H,tg,⟨op,nm,cm,nu,kids⟩,fr,un,wi⟩:=m;simp only[Fm.op,Fm.name,Fm.cmp,Fm.num,Fm.kids]at ag af bi F ad O c1 c2 c3 c4 c5 c6 c7 c8 c9 bn bo;generalize kids.length=kl at*;(have di:(k:Int)<(l.length:Int):=by omega);(go_upto_region 5 with fail);have B:=hid (G.alloc G.size (.cells #[.string id,.string au,.int .i64 H,.string tg,.int .i64 op,.string nm,.int .i64 cm,.int .i64 nu,.slice FA kl C,.int .i64 fr,.int .i64 un,.int .i64 wi] 54));have al:=hid (Blk.new wr 54 #[.string id,.string au,.int .i64 H,.string tg,.int .i64 op,.string nm,.int .i64 cm,.int .i64 nu,.slice FA kl C,.int .i64 fr,.int .i64 un,.int .i64 wi]);have ah:=hid (ak.alloc (.cells #[.string id,.string au,.int .i64 H,.string tg,.int .i64 op,.string nm,.int .i64 cm,.int .i64 nu,.slice FA kl C,.int .i64 fr,.int .i64 un,.int .i64 wi] 54));have dm:w.heap.size<=wr.heap.size:=G.size;have dh:=hid ak;clear O c1 c2 c3 c4 c5 c6 c7 c8 c9 bn bo cr G ak;generalize wr.alloc _=q at*;generalize wr.heap.size=X5 at*;have x1:=al.at1;have xl:=al.lt;have f0:=(bg.below B bx).at0;have fl:=(bg.below B bx).lt;have b1:zS encS q M kv:=ce.of_block (B.block M cv);have ac:=zS.look (w:=q) b1 (zAK (P:=prog) (k:=9) underlying9) (t:=142) (e:=3) underlying142 (Tryz.zInt _) au true;rw[ad]at ac;clear ad b1;by_cases hp:pc<s.auths.length
   ·rw[if_pos hp]at ac;simp only[encS,Option.getD_some,Option.isSome_some]at ac;have HP:=hid hp;obtain⟨zb,zo,ci,cx,rfl,-,av,dz,b3⟩:=ch pc (by rw[bm.1];exact hp);obtain⟨cb,co,b6,cj,rfl,-,ar,dc,bu⟩:=b8 pc (by rw[bm.2];exact hp);have bc:=hid (λx(hx:zA (λ_=>True) q x)=>af (.string id) (.string au) (.string tg) (.int .i64 op) (.string nm) (.int .i64 cm) (.int .i64 nu) (.slice FA kl C) _ _ b3 x (zC B hx.below));have bj:=hid (λx(hx:zA (λ_=>True) q x)=>ag _ _ bu x (zC B hx.below));have cz:=brd B dz av;have cc:=brd B dc ar;have b0:=lt_of_cell cz;have bz:=lt_of_cell cc;have br:s.cases.getD pc []=zDb s pc:=rfl;rw[br]at cc bj;clear dz dc b3 bu av ar br;generalize (zA5 s.zones pc).length =cy at*;generalize (zDb s pc).length =ck at*
    have R:=hid (λ(W:World)(hW:zA (λ_=>True) q W)=>(show(W.cell? ⟨X5,0,none⟩=some (.string id)/\W.cell? ⟨X5,1,none⟩=some (.string au)/\W.cell? ⟨X5,2,none⟩=some (.int .i64 H)/\W.cell? ⟨X5,3,none⟩=some (.string tg)/\W.cell? ⟨X5,4,none⟩=some (.int .i64 op)/\W.cell? ⟨X5,5,none⟩=some (.string nm)/\W.cell? ⟨X5,6,none⟩=some (.int .i64 cm)/\W.cell? ⟨X5,7,none⟩=some (.int .i64 nu)/\W.cell? ⟨X5,8,none⟩=some (.slice FA kl C)/\W.cell? ⟨X5,9,none⟩=some (.int .i64 fr)/\W.cell? ⟨X5,10,none⟩=some (.int .i64 un)/\W.cell? ⟨X5,11,none⟩=some (.int .i64 wi)/\X5<W.heap.size)/\(W.cell? ⟨B4,0,none⟩=some (.slice DA s.dom.length bq)/\W.cell? ⟨B4,1,none⟩=some (va)/\W.cell? ⟨B4,2,none⟩=some (.slice (some ⟨zb,zo,none⟩) s.auths.length b5)/\W.cell? ⟨B4,3,none⟩=some (.slice (some ⟨cb,co,none⟩) s.auths.length bp)/\W.cell? ⟨B4,4,none⟩=some (.int .i64 s.signed)/\W.cell? ⟨B4,5,none⟩=some (.int .i64 s.now)/\B4<W.heap.size)/\W.cell? ⟨zb,zo+pc,none⟩=some (.slice ci cy cx)/\zb<W.heap.size/\W.cell? ⟨cb,co+pc,none⟩=some (.slice b6 ck cj)/\cb<W.heap.size from by
     have U:=al.keep hW trivial;have h2:=(bf.below B cu).keep hW trivial
     exact⟨⟨U.at0,U.at1,U.at2,U.at3,U.at4,U.cell 5,U.cell 6,U.cell 7,U.cell 8,U.cell 9,U.cell 10,U.cell 11,U.lt⟩,⟨h2.at0,h2.at1,h2.at2,h2.at3,h2.at4,h2.cell 5,h2.lt⟩,hW.cell trivial cz,Nat.lt_of_lt_of_le b0 hW.size,hW.cell trivial cc,Nat.lt_of_lt_of_le bz hW.size⟩))
    (have dl:(pc:Int)<(s.auths.length:Int):=by omega);generalize zD2 _ (zA5 s.zones pc) s.signed s.now=ap at*;generalize zFl s.dom (zDb s pc) _=hh at*;clear cz cc b0 bz hp;(go_upto_region 6 with fail);clear ac x1 xl f0 fl;by_cases ae:H=kd
    ·have A:=hid ae;have aa:=hid (show(H==kd)=true from by simp[ae]);clear ae;cases ap
     ·skip
      refine zY 31 (λW=>zA (λ_=>True) q W) (by kernel_rfl) ?_;have a:(λW:World=>zA (λ_=>True) q W) q.drew:=(zA.refl _ _).drew;have g:zA (λ_=>True) q q.drew:=(zA.refl _ _).drew;generalize q.drew=x0 at*
      (refine tkQ 0 a ?_;simp only[nr])
      try simp only[nq]
      (refine tkQ 1 a ?_;simp only[nr])
      try simp only[nq]
      (refine tkQ 2 a ?_;simp only[nr])
      try simp only[nq]
      (refine tkC 3 [5,6,7,18,20,31] ?_ a ?_ ?_;rotate_left;intro w f;obtain⟨⟨V,X,Y,p3,p4,p5,p6,p7,p8,p9,n,o,pl⟩,⟨s0,s1,s2,s3,s4,s5,sl⟩,z0,zl,O,cl⟩:=R _ f;clear f;go_simp;(try with_reducible rfl);simp only[nr])
      try simp only[nq]
      (refine tkQ 4 a ?_;simp only[nr])
      (try simp only[nq]);refine tkZ 5 (.bool true) a (λW=> ?_) ?_
      ·go_simp;first|exact aa.out|exact A.out|(rw[aa.out])|simp[A.out]
      (try simp only[nr])
      (refine tkQ 6 a ?_;simp only[nr])
      try simp only[nq]
      (refine tkQ 7 a ?_;simp only[nr])
      try simp only[nq]
      (refine tkC 8 [18,20,31] ?_ a ?_ ?_;rotate_left;intro w f;obtain⟨⟨V,X,Y,p3,p4,p5,p6,p7,p8,p9,n,o,pl⟩,⟨s0,s1,s2,s3,s4,s5,sl⟩,z0,zl,O,cl⟩:=R _ f;clear f;go_simp;(try with_reducible rfl);simp only[nr])
      try simp only[nq]
      (refine tkQ 9 a ?_;simp only[nr])
      try simp only[nq]
      (refine tkC 10 [12,13,18,20,31] ?_ a ?_ ?_;rotate_left;intro w f;obtain⟨⟨V,X,Y,p3,p4,p5,p6,p7,p8,p9,n,o,pl⟩,⟨s0,s1,s2,s3,s4,s5,sl⟩,z0,zl,O,cl⟩:=R _ f;clear f;go_simp;(try with_reducible rfl);simp only[nr])
      try simp only[nq]
      (refine tkQ 11 a ?_;simp only[nr])
      try simp only[nq]
      (refine tkQ 12 a ?_;simp only[nr])
      try simp only[nq]
      (refine tkC 13 [18,20,31] ?_ a ?_ ?_;rotate_left;intro w f;obtain⟨⟨V,X,Y,p3,p4,p5,p6,p7,p8,p9,n,o,pl⟩,⟨s0,s1,s2,s3,s4,s5,sl⟩,z0,zl,O,cl⟩:=R _ f;clear f;go_simp;(try with_reducible rfl);simp only[nr])
      try simp only[nq]
      (refine tkQ 14 a ?_;simp only[nr])
      try simp only[nq]
      (refine tkC 15 [18,20,31] ?_ a ?_ ?_;rotate_left;intro w f;obtain⟨⟨V,X,Y,p3,p4,p5,p6,p7,p8,p9,n,o,pl⟩,⟨s0,s1,s2,s3,s4,s5,sl⟩,z0,zl,O,cl⟩:=R _ f;clear f;go_simp;(try with_reducible rfl);simp only[nr])
      try simp only[nq]
      (refine tkQ 16 a ?_;simp only[nr])
      try simp only[nq]
      (refine tkC 17 [18,20,31] ?_ a ?_ ?_;rotate_left;intro w f;obtain⟨⟨V,X,Y,p3,p4,p5,p6,p7,p8,p9,n,o,pl⟩,⟨s0,s1,s2,s3,s4,s5,sl⟩,z0,zl,O,cl⟩:=R _ f;clear f;go_simp;(try with_reducible rfl);simp only[nr])
      (try simp only[nq]);clear a;refine wSG 18 (λK Q=> ?_);(go_wp2_with fail);refine(bc x0 g).mono ?_;rintro e x1 ⟨rfl,D⟩;have N:zA (λ_=>True) q x1:=g.trans (.of_below D);refine Q _ _ (Or.inr N) ?_;clear Q K D
      (try simp only[nr])
      have a:(λW:World=>zA (λ_=>True) q W) x1:=N
      (refine tkQ 19 a ?_;simp only[nr])
      try simp only[nq]
      (refine tkQ 20 a ?_;simp only[nr])
      (try simp only[nq]);refine tkN 21 a ?_;(try simp only[nq]);refine tkN 22 a ?_;(try simp only[nq]);refine tkN 23 a ?_;(try simp only[nq]);refine tkN 24 a ?_;(try simp only[nq]);refine tkN 25 a ?_;(try simp only[nq]);refine tkN 26 a ?_;(try simp only[nq]);refine tkN 27 a ?_;(try simp only[nq]);refine tkN 28 a ?_;(try simp only[nq]);refine tkN 29 a ?_;(try simp only[nq]);refine tkN 30 a ?_;(try simp only[nq]);clear a;refine wS1 31 (λK Q=> ?_);(go_wp2_with fail);refine Q _ _ (Or.inl rfl) ?_;clear Q K;(try simp only[nq]);refine wSd ?_ _;have y:=hid N;clear g N;have I:=hid (zXL (Z:=λ_=>True) ah y λ_ _=>trivial);have E:=hid (zC B y.below);(go_wp2_with fail);go_roundw;(case rel=>exact⟨k+1,T,by omega,by go_num,by rw[J.out,F.out];simpa[A.out]using I.out,by rw[J.out,F.out];simpa[A.out]using ab,E⟩);case measure=>simp[intOf];omega
     skip
     refine zY 31 (λW=>zA (λ_=>True) q W) (by kernel_rfl) ?_;have a:(λW:World=>zA (λ_=>True) q W) q.drew:=(zA.refl _ _).drew;have g:zA (λ_=>True) q q.drew:=(zA.refl _ _).drew;generalize q.drew=x0 at*
     (refine tkQ 0 a ?_;simp only[nr])
     try simp only[nq]
     (refine tkQ 1 a ?_;simp only[nr])
     try simp only[nq]
     (refine tkQ 2 a ?_;simp only[nr])
     try simp only[nq]
     (refine tkC 3 [5,6,7,18,20,31] ?_ a ?_ ?_;rotate_left;intro w f;obtain⟨⟨V,X,Y,p3,p4,p5,p6,p7,p8,p9,n,o,pl⟩,⟨s0,s1,s2,s3,s4,s5,sl⟩,z0,zl,O,cl⟩:=R _ f;clear f;go_simp;(try with_reducible rfl);simp only[nr])
     try simp only[nq]
     (refine tkQ 4 a ?_;simp only[nr])
     (try simp only[nq]);refine tkZ 5 (.bool true) a (λW=> ?_) ?_
     ·go_simp;first|exact aa.out|exact A.out|(rw[aa.out])|simp[A.out]
     (try simp only[nr])
     (refine tkQ 6 a ?_;simp only[nr])
     try simp only[nq]
     (refine tkQ 7 a ?_;simp only[nr])
     try simp only[nq]
     (refine tkC 8 [18,20,31] ?_ a ?_ ?_;rotate_left;intro w f;obtain⟨⟨V,X,Y,p3,p4,p5,p6,p7,p8,p9,n,o,pl⟩,⟨s0,s1,s2,s3,s4,s5,sl⟩,z0,zl,O,cl⟩:=R _ f;clear f;go_simp;(try with_reducible rfl);simp only[nr])
     try simp only[nq]
     (refine tkQ 9 a ?_;simp only[nr])
     try simp only[nq]
     (refine tkC 10 [12,13,18,20,31] ?_ a ?_ ?_;rotate_left;intro w f;obtain⟨⟨V,X,Y,p3,p4,p5,p6,p7,p8,p9,n,o,pl⟩,⟨s0,s1,s2,s3,s4,s5,sl⟩,z0,zl,O,cl⟩:=R _ f;clear f;go_simp;(try with_reducible rfl);simp only[nr])
     try simp only[nq]
     (refine tkQ 11 a ?_;simp only[nr])
     try simp only[nq]
     (refine tkQ 12 a ?_;simp only[nr])
     try simp only[nq]
     (refine tkC 13 [18,20,31] ?_ a ?_ ?_;rotate_left;intro w f;obtain⟨⟨V,X,Y,p3,p4,p5,p6,p7,p8,p9,n,o,pl⟩,⟨s0,s1,s2,s3,s4,s5,sl⟩,z0,zl,O,cl⟩:=R _ f;clear f;go_simp;(try with_reducible rfl);simp only[nr])
     try simp only[nq]
     (refine tkQ 14 a ?_;simp only[nr])
     try simp only[nq]
     (refine tkC 15 [18,20,31] ?_ a ?_ ?_;rotate_left;intro w f;obtain⟨⟨V,X,Y,p3,p4,p5,p6,p7,p8,p9,n,o,pl⟩,⟨s0,s1,s2,s3,s4,s5,sl⟩,z0,zl,O,cl⟩:=R _ f;clear f;go_simp;(try with_reducible rfl);simp only[nr])
     try simp only[nq]
     (refine tkQ 16 a ?_;simp only[nr])
     try simp only[nq]
     (refine tkC 17 [18,20,31] ?_ a ?_ ?_;rotate_left;intro w f;obtain⟨⟨V,X,Y,p3,p4,p5,p6,p7,p8,p9,n,o,pl⟩,⟨s0,s1,s2,s3,s4,s5,sl⟩,z0,zl,O,cl⟩:=R _ f;clear f;go_simp;(try with_reducible rfl);simp only[nr])
     (try simp only[nq]);clear a;refine wSG 18 (λK Q=> ?_);(go_wp2_with fail);refine(bc x0 g).mono ?_;rintro e x1 ⟨rfl,D⟩;have N:zA (λ_=>True) q x1:=g.trans (.of_below D);refine Q _ _ (Or.inr N) ?_;clear Q K D
     (try simp only[nr])
     have a:(λW:World=>zA (λ_=>True) q W) x1:=N
     (refine tkQ 19 a ?_;simp only[nr])
     try simp only[nq]
     (refine tkQ 20 a ?_;simp only[nr])
     try simp only[nq]
     (refine tkQ 21 a ?_;simp only[nr])
     try simp only[nq]
     (refine tkC 22 [30,31] ?_ a ?_ ?_;rotate_left;intro w f;obtain⟨⟨V,X,Y,p3,p4,p5,p6,p7,p8,p9,n,o,pl⟩,⟨s0,s1,s2,s3,s4,s5,sl⟩,z0,zl,O,cl⟩:=R _ f;clear f;go_simp;(try with_reducible rfl);simp only[nr])
     try simp only[nq]
     (refine tkQ 23 a ?_;simp only[nr])
     try simp only[nq]
     (refine tkC 24 [30,31] ?_ a ?_ ?_;rotate_left;intro w f;obtain⟨⟨V,X,Y,p3,p4,p5,p6,p7,p8,p9,n,o,pl⟩,⟨s0,s1,s2,s3,s4,s5,sl⟩,z0,zl,O,cl⟩:=R _ f;clear f;go_simp;(try with_reducible rfl);simp only[nr])
     try simp only[nq]
     (refine tkQ 25 a ?_;simp only[nr])
     try simp only[nq]
     (refine tkC 26 [28,29,30,31] ?_ a ?_ ?_;rotate_left;intro w f;obtain⟨⟨V,X,Y,p3,p4,p5,p6,p7,p8,p9,n,o,pl⟩,⟨s0,s1,s2,s3,s4,s5,sl⟩,z0,zl,O,cl⟩:=R _ f;clear f;go_simp;(try with_reducible rfl);simp only[nr])
     try simp only[nq]
     (refine tkQ 27 a ?_;simp only[nr])
     try simp only[nq]
     (refine tkQ 28 a ?_;simp only[nr])
     try simp only[nq]
     (refine tkC 29 [30,31] ?_ a ?_ ?_;rotate_left;intro w f;obtain⟨⟨V,X,Y,p3,p4,p5,p6,p7,p8,p9,n,o,pl⟩,⟨s0,s1,s2,s3,s4,s5,sl⟩,z0,zl,O,cl⟩:=R _ f;clear f;go_simp;(try with_reducible rfl);simp only[nr])
     (try simp only[nq]);clear a;refine wSG 30 (λK Q=> ?_);(go_wp2_with fail);refine(bj x1 N).mono ?_;rintro e x2 ⟨rfl,D⟩;have ao:zA (λ_=>True) q x2:=N.trans (.of_below D);refine Q _ _ (Or.inr ao) ?_;clear Q K D
     (try simp only[nr])
     have a:(λW:World=>zA (λ_=>True) q W) x2:=ao;clear a;refine wS1 31 (λK Q=> ?_);(go_wp2_with fail);refine Q _ _ (Or.inl rfl) ?_;clear Q K;(try simp only[nq]);refine wSd ?_ _;have y:=hid ao;clear g N ao;cases hh
     ·skip
      have I:=hid (zXL (Z:=λ_=>True) ah y λ_ _=>trivial);have E:=hid (zC B y.below);(go_wp2_with fail);go_roundw;(case rel=>exact⟨k+1,T,by omega,by go_num,by rw[J.out,F.out];simpa[A.out]using I.out,by rw[J.out,F.out];simpa[A.out]using ab,E⟩);case measure=>simp[intOf];omega
     have I:=hid (zXL (Z:=λ_=>True) ah y λ_ _=>trivial);have E:=hid (zC B y.below);have cp:=al.keep y trivial;obtain⟨V,dp,X,dq,Y,dr,p3,ds,p4,dt,p5,du,p6,dv,p7,dw,p8,dx,p9,dy,n,de,o,df,pl⟩:=cp.d12;go_wp2_with(at_builtin;refine zh rfl (.tmp 56) (.tmp 58) _ rfl underlying22 Tryz.eMeas rfl (I.alloc _) rfl (news:=[.string id,.string au,.int .i64 H,.string tg,.int .i64 op,.string nm,.int .i64 cm,.int .i64 nu,.slice FA kl C,.int .i64 fr,.int .i64 un,.int .i64 wi]) rfl (zFp (Blk.new _ _ _)) (by simp[Value.oneCell']) (by unfold maxLen;omega) (by omega) (by have:=E.size;simp;omega) ?_;intro v9 w9 ba ct da);go_roundw
     case rel=>
      (have hT:(l.take (k+1)).filter (z1 s kd)=L++[⟨id,au,H,tg,.mk op nm cm nu kids,fr,un,wi⟩]:=by rw[J.out,F.out];simp[A.out,HP.out]);exact⟨k+1,T++[[.string id,.string au,.int .i64 H,.string tg,.int .i64 op,.string nm,.int .i64 cm,.int .i64 nu,.slice FA kl C,.int .i64 fr,.int .i64 un,.int .i64 wi]],by omega,by go_num,by rw[hT,List.length_append];simpa using ba,by rw[hT];exact bi _ ab,zAs (E.alloc E.size _) (I.alloc _) ct (by have:=E.size;simp;omega) (Nat.le_refl _)⟩
     case measure=>simp[intOf];omega
    have A:=hid ae;have aa:=hid (show(H==kd)=false from by simp[ae]);clear ae;refine zY 31 (λW=>zA (λ_=>True) q W) (by kernel_rfl) ?_;have a:(λW:World=>zA (λ_=>True) q W) q.drew:=(zA.refl _ _).drew;have g:zA (λ_=>True) q q.drew:=(zA.refl _ _).drew;generalize q.drew=x0 at*
    (refine tkQ 0 a ?_;simp only[nr])
    try simp only[nq]
    (refine tkQ 1 a ?_;simp only[nr])
    try simp only[nq]
    (refine tkQ 2 a ?_;simp only[nr])
    try simp only[nq]
    (refine tkC 3 [5,6,7,18,20,31] ?_ a ?_ ?_;rotate_left;intro w f;obtain⟨⟨V,X,Y,p3,p4,p5,p6,p7,p8,p9,n,o,pl⟩,⟨s0,s1,s2,s3,s4,s5,sl⟩,z0,zl,O,cl⟩:=R _ f;clear f;go_simp;(try with_reducible rfl);simp only[nr])
    try simp only[nq]
    (refine tkQ 4 a ?_;simp only[nr])
    (try simp only[nq]);refine tkZ 5 (.bool false) a (λW=> ?_) ?_
    ·go_simp;first|exact aa.out|exact A.out|(rw[aa.out])|simp[A.out]
    (try simp only[nr])
    (refine tkQ 6 a ?_;simp only[nr])
    try simp only[nq]
    (refine tkQ 7 a ?_;simp only[nr])
    (try simp only[nq]);refine tkN 8 a ?_;(try simp only[nq]);refine tkN 9 a ?_;(try simp only[nq]);refine tkN 10 a ?_;(try simp only[nq]);refine tkN 11 a ?_;(try simp only[nq]);refine tkN 12 a ?_;(try simp only[nq]);refine tkN 13 a ?_;(try simp only[nq]);refine tkN 14 a ?_;(try simp only[nq]);refine tkN 15 a ?_;(try simp only[nq]);refine tkN 16 a ?_;(try simp only[nq]);refine tkN 17 a ?_;(try simp only[nq]);refine tkN 18 a ?_;try simp only[nq]
    (refine tkQ 19 a ?_;simp only[nr])
    try simp only[nq]
    (refine tkQ 20 a ?_;simp only[nr])
    (try simp only[nq]);refine tkN 21 a ?_;(try simp only[nq]);refine tkN 22 a ?_;(try simp only[nq]);refine tkN 23 a ?_;(try simp only[nq]);refine tkN 24 a ?_;(try simp only[nq]);refine tkN 25 a ?_;(try simp only[nq]);refine tkN 26 a ?_;(try simp only[nq]);refine tkN 27 a ?_;(try simp only[nq]);refine tkN 28 a ?_;(try simp only[nq]);refine tkN 29 a ?_;(try simp only[nq]);refine tkN 30 a ?_;(try simp only[nq]);clear a;refine wS1 31 (λK Q=> ?_);(go_wp2_with fail);refine Q _ _ (Or.inl rfl) ?_;clear Q K;(try simp only[nq]);refine wSd ?_ _;have y:=hid g;clear g;have I:=hid (zXL (Z:=λ_=>True) ah y λ_ _=>trivial);have E:=hid (zC B y.below);(go_wp2_with fail);go_roundw;(case rel=>exact⟨k+1,T,by omega,by go_num,by rw[J.out,F.out];simpa[A.out]using I.out,by rw[J.out,F.out];simpa[A.out]using ab,E⟩);case measure=>simp[intOf];omega
   rw[if_neg hp]at ac;simp only[encS,Option.getD_none,Option.isSome_none]at ac;have HP:=hid hp;clear hp;(go_upto_region 6 with fail);clear ac x1 xl f0 fl;refine zY 31 (λW=>zA (λ_=>True) q W) (by kernel_rfl) ?_;have a:(λW:World=>zA (λ_=>True) q W) q.drew:=(zA.refl _ _).drew;have g:zA (λ_=>True) q q.drew:=(zA.refl _ _).drew;generalize q.drew=x0 at*
   (refine tkQ 0 a ?_;simp only[nr])
   try simp only[nq]
   (refine tkQ 1 a ?_;simp only[nr])
   (try simp only[nq]);refine tkN 2 a ?_;(try simp only[nq]);refine tkN 3 a ?_;(try simp only[nq]);refine tkN 4 a ?_;(try simp only[nq]);refine tkN 5 a ?_;try simp only[nq]
   (refine tkQ 6 a ?_;simp only[nr])
   try simp only[nq]
   (refine tkQ 7 a ?_;simp only[nr])
   (try simp only[nq]);refine tkN 8 a ?_;(try simp only[nq]);refine tkN 9 a ?_;(try simp only[nq]);refine tkN 10 a ?_;(try simp only[nq]);refine tkN 11 a ?_;(try simp only[nq]);refine tkN 12 a ?_;(try simp only[nq]);refine tkN 13 a ?_;(try simp only[nq]);refine tkN 14 a ?_;(try simp only[nq]);refine tkN 15 a ?_;(try simp only[nq]);refine tkN 16 a ?_;(try simp only[nq]);refine tkN 17 a ?_;(try simp only[nq]);refine tkN 18 a ?_;try simp only[nq]
   (refine tkQ 19 a ?_;simp only[nr])
   try simp only[nq]
   (refine tkQ 20 a ?_;simp only[nr])
   (try simp only[nq]);refine tkN 21 a ?_;(try simp only[nq]);refine tkN 22 a ?_;(try simp only[nq]);refine tkN 23 a ?_;(try simp only[nq]);refine tkN 24 a ?_;(try simp only[nq]);refine tkN 25 a ?_;(try simp only[nq]);refine tkN 26 a ?_;(try simp only[nq]);refine tkN 27 a ?_;(try simp only[nq]);refine tkN 28 a ?_;(try simp only[nq]);refine tkN 29 a ?_;(try simp only[nq]);refine tkN 30 a ?_;(try simp only[nq]);clear a;refine wS1 31 (λK Q=> ?_);(go_wp2_with fail);refine Q _ _ (Or.inl rfl) ?_;clear Q K;(try simp only[nq]);refine wSd ?_ _;have y:=hid g;clear g;have I:=hid (zXL (Z:=λ_=>True) ah y λ_ _=>trivial);have E:=hid (zC B y.below);(go_wp2_with fail);go_roundw;(case rel=>exact⟨k+1,T,by omega,by go_num,by rw[J.out,F.out];simpa[HP.out]using I.out,by rw[J.out,F.out];simpa[HP.out]using ab,E⟩);case measure=>simp[intOf];omega
  obtain rfl:k=l.length:=by omega
  have cg:=hid ak;have b9:=hid ab;have bh:=hid G;clear ak ab G;go_wp2_with fail
  go_ret;refine⟨_,rfl,?_,bh⟩;have U:=cg.out;have h2:=b9.out;rw[List.take_length]at U h2;refine zOE U (h2.imp λcs x hx=>(hx.keep (.of_below_lt bh λb _ D=>HZ b D)).mono λb D=> .inl D) (Nat.le_trans (List.length_filter_le _ _) (by omega)) (λb D=> .inr (U.lt b D).1)
def zE9(p:ByteArray × ByteArray):Value:= .agg #[.string p.1,.string p.2]
theorem zTA:∃f0 f1:Field,prog.underlying 148=some (.struct #[f0,f1])/\f0.name≠ "_" /\f1.name≠ "_" /\f0.type=9/\f1.type=9/\f0.offset=0/\f1.offset=1:=
 ⟨_,_,underlying148,by decide,by decide,rfl,rfl,rfl,rfl⟩
theorem zKR(w:World)(x y:ByteArray × ByteArray):(Op.equal 148 (zE9 x) (zE9 y)).run prog w= .ok (decide (x=y)) w:=by
 obtain⟨m,n,s,t,u,B,C,v,z⟩:=zTA;have hF:prog.underlying 148=some (.struct (prog.fieldsOf 148)):=by kernel_rfl
 have f:prog.fieldsOf 148=#[m,n]:=by
  have a:=Option.some.inj (s.symm.trans hF);exact(TypeDesc.struct.inj a).symm
 have i:prog.plainKey 9=true:=by simp[Program.plainKey,underlying9]
 have A:∀p:ByteArray × ByteArray,(part 9 #[.string p.1,.string p.2] 0).run prog w= .ok (.string p.1) w:=λp=>run_part_plain w i rfl
 have j:∀p:ByteArray × ByteArray,(part 9 #[.string p.1,.string p.2] 1).run prog w= .ok (.string p.2) w:=λp=>run_part_plain w i rfl
 have o:∀d:Nat,(Op.equalIn (d+1) 9 (.string x.1) (.string y.1)).run prog w= .ok (x.1==y.1) w:=λd=>by simp[Op.equalIn,run_underlying underlying9]
 have q:∀d:Nat,(Op.equalIn (d+1) 9 (.string x.2) (.string y.2)).run prog w= .ok (x.2==y.2) w:=λd=>by simp[Op.equalIn,run_underlying underlying9]
 have k:(Op.equalIn 9999 9 (.string x.1) (.string y.1)).run prog w= .ok (x.1==y.1) w:=o 9998;have g:(Op.equalIn 9999 9 (.string x.2) (.string y.2)).run prog w= .ok (x.2==y.2) w:=q 9998;unfold Op.equal zE9;rw[show Op.maxDepth=9999+1 from rfl,run_equalIn_struct w 9999 148 _ _ hF (by kernel_rfl),f];simp only[Op.eqFields,t,u,B,C,v,z,ne_eq,not_false_eq_true,if_true,Sem.run_bind,A,j,k,g,Result.andThen_ok];have h:=MapKept.bytes_beq x.1 y.1;by_cases a:x.1=y.1
 ·rw[h.2 a];simp only[Bool.not_true,Bool.false_eq_true,if_false,Sem.run_bind,j,g,Result.andThen_ok];by_cases c:x.2=y.2
  ·have b:(x.2==y.2)=true:=(MapKept.bytes_beq x.2 y.2).2 c;rw[b];simp[a,c,Prod.ext_iff]
  have b:(x.2==y.2)=false:=by
   cases e:(x.2==y.2)with
   |false=>rfl
   |true=>exact absurd ((MapKept.bytes_beq x.2 y.2).1 e) c
  rw[b];simp[c,Prod.ext_iff]
 have b:(x.1==y.1)=false:=by
  cases e:(x.1==y.1)with
  |false=>rfl
  |true=>exact absurd (h.1 e) a
 rw[b];simp[a,Prod.ext_iff]
theorem zJL:zFP prog 148 zE9 where
 check:=λw t x=>by unfold zE9;kernel_rfl
 find w x b a h:=by
  have d:∀(b:List MapEntry)(a:List ((ByteArray × ByteArray) × Value))(j:Nat),b.map (λe=>(e.key,e.val))=a.map (λp=>(zE9 p.1,p.2))->(Instr.findAsking 148 (zE9 x) b j).run prog w= .ok (zBu a x j) w:=by
   intro b
   induction b with
   |nil=>intro a j h;cases a with
    |nil=>simp[Instr.findAsking,zBu]
    |cons p a=>simp at h
   |cons e' b ih=>intro a j h;cases a with
    |nil=>simp at h
    |cons p a=>
    simp only[List.map_cons,List.cons.injEq,Prod.mk.injEq]at h;obtain⟨⟨m,n⟩,o⟩:=h;have q:=zKR w x p.1;unfold Instr.findAsking zBu;rw[m];simp only[Sem.run_bind,q,Result.andThen_ok];by_cases g:x=p.1
    ·simp[g,n]
    simp[g,ih a (j+1) o]
  obtain⟨f,c⟩:∃f,prog.underlying 148=some (.struct f):=⟨_,underlying148⟩
  cases b with
  |nil=>
   cases a with
   |nil=>simp[Instr.findKey,run_underlying c,Instr.findNow,zBu]
   |cons p a=>simp at h
  |cons e' b=>
  have k:=h
  cases a with
  |nil=>simp at h
  |cons p a=>
  simp only[List.map_cons,List.cons.injEq,Prod.mk.injEq]at h
  have s:Instr.findNow (.struct f) (zE9 x) (e'::b) 0=none:=by
   unfold Instr.findNow;rw[h.1.1];simp[Instr.sameNow]
  simp only[Instr.findKey,Sem.run_bind,run_underlying c,Result.andThen_ok,s];exact d _ _ 0 k
 stays w x:=by
  have h:=(MapKept.bytes_beq x.1 x.1).2 rfl;have i:=(MapKept.bytes_beq x.2 x.2).2 rfl;simp[Instr.keyThatStays,zE9,Instr.sameBits,h,i]
def zFI{κ:Type}[DecidableEq κ](kv:List (κ × Value))(p:κ->Bool):Prop:=∀x,zAA kv x=if p x=true then some (.bool true)else none
theorem zFI.add[DecidableEq κ]{a:List (κ × Value)}{p q:κ->Bool}(h:zFI a p)(x:κ)(c:∀y,q y=(p y||decide (x=y))):zFI (zAq a x (.bool true)) q:=λy=>by
 rw[c];by_cases e:y=x
 ·subst e;rw[zF6];simp
 rw[zDr e,h y];have:decide (x=y)=false:=by simp;exact λb=>e b.symm
 rw[this,Bool.or_false]
theorem zFI.look[DecidableEq κ]{a:List (κ × Value)}{p:κ->Bool}(h:zFI a p)(x:κ):(zAA a x).getD (.bool false)= .bool (p x):=by
 rw[h x];cases p x<;>rfl
def AtK(kv:List (ByteArray × Value))(l:List ByteArray)(k:Nat):Prop:=∀x,zAA kv x=if placeOf l x<k then some (.int .i64 ((placeOf l x:Nat):Int))else none
theorem zQf(b:k<l.length)(a:l[k]∉l.take k):placeOf l l[k]=k:=by
 unfold placeOf;rw[List.findIdx_eq b];refine⟨by simp,λj c=> ?_⟩;simp only[decide_eq_false_iff_not];intro e;apply a;rw[<-e];exact List.mem_take_iff_getElem.2 ⟨j,by omega,rfl⟩
theorem zJs(a:k<l.length)(h:placeOf l x=k):l[k]=x:=by
 subst h;exact of_decide_eq_true (List.findIdx_getElem (xs:=l) (w:=a))
theorem AtK.add{c:List (ByteArray × Value)}(h:AtK c l k)(b:k<l.length)(f:l[k]∉l.take k):AtK (zAq c l[k] (.int .i64 (k:Int))) l (k+1):=λx=>by
 by_cases e:x=l[k]
 ·subst e;rw[zF6,zQf b f,if_pos (by omega)]
 rw[zDr e,h x];have:placeOf l x≠k:=λd=>e (zJs b d).symm
 by_cases a:placeOf l x<k
 ·rw[if_pos a,if_pos (by omega)]
 rw[if_neg a,if_neg (by omega)]
structure Two (B:Nat) (w:World) (u v:Value) (xs ys:List ByteArray):Prop where
 a:w.ownsRow B 9 1 u xs.length (xs.map .string)
 b:w.ownsRow B 9 1 v ys.length (ys.map .string)
 d:∀k,u.ownBlock=some k->v.ownBlock≠some k
theorem zM9{base n a:Nat}{e:TypeId}{xs:List Value}{row:Option Nat}(h:w.ownsRow base e a v n xs)(d:w.grownBy w' row)(c:∀k,v.ownBlock=some k->row≠some k):w'.ownsRow base e a v n xs:=
 zXL (Z:=λb=>row≠some b) h ((zA.refl _ _).grown d λ_ f _ g=>g f) c
theorem Two.keep(h:Two B w u v xs ys)(c:zA (λb=>u.ownBlock=some b\/v.ownBlock=some b) w w'):Two B w' u v xs ys:=
 ⟨zXL h.a c λ_ h=> .inl h,zXL h.b c λ_ h=> .inr h,h.d⟩
theorem Two.fst{u v c:Value}(h:Two B w u v xs ys)(i:w.grownBy w' u.ownBlock)(j:w'.ownsRow B 9 1 c (xs.length+1) (xs.map .string ++[.string x]))(f:c.ownBlock=u.ownBlock\/c.ownBlock=some w.heap.size):Two B w' c v (xs++[x]) ys:=
 ⟨by simpa using j,zM9 h.b i λk a m=>h.d k m a,λk a g=>by
  rcases f with e|e
  ·exact h.d k (e▸a) g
  have:=(h.b.lt k g).2;rw[e]at a;injection a with a
  omega⟩
theorem Two.snd{u v f:Value}(h:Two B w u v xs ys)(i:w.grownBy w' v.ownBlock)(j:w'.ownsRow B 9 1 f (ys.length+1) (ys.map .string ++[.string x]))(g:f.ownBlock=v.ownBlock\/f.ownBlock=some w.heap.size):Two B w' u f xs (ys++[x]):=
 ⟨zM9 h.a i λk b m=>h.d k b m,by simpa using j,λk b c=>by
  rcases g with e|e
  ·exact h.d k b (e▸c)
  have:=(h.a.lt k b).2;rw[e]at c;injection c with c
  omega⟩
theorem Two.lt(h:Two B w u v xs ys):∀k,(u.ownBlock=some k\/v.ownBlock=some k)->B<=k/\k<w.heap.size:=λk c=>by
 rcases c with c|c
 ·exact h.a.lt k c
 exact h.b.lt k c
theorem zMa(h:w.ownsRow B 9 1 v n (l.map .string))(a:n=l.length)(e:l.length<=8796093022208)(c:∀x∈l,zB2 x):Names (λb=>B<=b) w v l:=by
 subst a;refine⟨?_,c⟩;rcases h.2 with⟨rfl,h0⟩|⟨g,cap,cur,rfl,hb,hg,a,hm,hsz,htk⟩
 ·have:l=[]:=List.eq_nil_of_length_eq_zero h0;subst this;exact⟨none,0,rfl,Nat.le_refl _,by omega,by simp,λh=>absurd rfl h⟩
 refine⟨some ⟨g,0,none⟩,cap,rfl,a,by simpa[maxLen]using hm,by omega,λ_=>⟨g,0,rfl,hb,λj u d=> ?_⟩⟩;have:=h.cells (g:=g) rfl j u d;rwa[show(⟨g,0,none⟩:Addr).add j=⟨g,0+j,none⟩ from by unfold Addr.add;split<;>simp_all]at this
def zFJ(Z:zD)(w:World)(v:Value)(d:zGL):Prop:=∃v1 v2,v= .agg #[.int .i64 d.kind,v1,v2]/\Names Z w v1 d.forbids/\Names Z w v2 d.blocks
theorem Blk.newE(w:World)(t:TypeId)(cs:Array Value)(h:n=w.heap.size):Blk (w.alloc (.cells cs t)) n t cs:=by subst h;exact Blk.new w t cs
theorem zn.cells{A:Option Addr}{n cap:Nat}{l:List zF}{P:Nat->Prop}(h:zn Z w (.slice A n cap) l)(o:∀b,Z b->P b)(i:k<l.length):
  ∃b c d a,A=some ⟨b,c,none⟩/\P b/\∀j u,([.string l[k].id,.string l[k].auth,.int .i64 l[k].kind,.string l[k].target,.int .i64 l[k].when_.op,.string l[k].when_.name,.int .i64 l[k].when_.cmp,.int .i64 l[k].when_.num,.slice d l[k].when_.kids.length a,.int .i64 l[k].from_,.int .i64 l[k].until_,.int .i64 l[k].wind]:List Value)[j]? =some u->w.cell? ⟨b,c+k*12+j,none⟩=some u:=by
 obtain⟨b,c,q,e,f,g,m⟩:=zj.at_ h i;obtain⟨d,a,rfl,-⟩:=m.form;exact⟨b,c,d,a,e,o b f,g⟩
theorem Names.nil:Names Z w (.slice none 0 0) []:=⟨⟨none,0,rfl,Nat.le_refl _,by omega,by simp,λh=>absurd rfl h⟩,by simp⟩
theorem zDf{x y z:Value}(e:(isAgg t).run P w= .ok true w)(f:(sizeOf t).run P w= .ok 3 w)(a:w.cell? ⟨b,0,none⟩=some x)(c:w.cell? ⟨b,1,none⟩=some y)(d:w.cell? ⟨b,2,none⟩=some z):
  (loadVar t ⟨b,0,none⟩).run P w= .ok (.agg #[x,y,z]) w:=by
 simp[loadVar,Sem.run_bind,e,f,loadCells,loadCellsFrom,load,Sem.run,a,c,d,Addr.add,Result.andThen]
theorem zFK{d:Func}{p q:Tmp}(h:d.results=#[.cell p t,.tmp q]){tmps:Array Value}{a:Addr}{x y:Value}(f:tmps.getD p undef= .pointer (some a))(g:tmps.getD q undef=y)
  (e:(loadVar t a).run P w= .ok x w):(results d tmps).run P w= .ok (.tuple #[x,y]) w:=by
 have b:tmps[p]?.getD undef= .pointer (some a):=by simpa using f
 have c:tmps[q]?.getD undef=y:=by simpa using g
 simp only[results,h];simp[Sem.run_bind,Result.andThen,b,c,asAddr,e]
theorem Tryz.eStrE:zC2 prog 9 1 16:=zDH (z:= .string ⟨#[]⟩) (by kernel_rfl) rfl (by decide)
theorem Tryz.aVerd(w:World):(isAgg 36).run prog w= .ok true w:=by kernel_rfl
theorem Tryz.sVerd(w:World):(sizeOf 36).run prog w= .ok 3 w:=by kernel_rfl
end Go.Proofs.YtommaegelgilnaaGreatDoor
