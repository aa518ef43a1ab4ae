/- Texts TF5. -/
import Derived.Test.YthpocbeoanipbaaGreatDoorM27
set_option linter.all false
namespace Go.Proofs.YthpocbeoanipbaaGreatDoor
open Go.RowKit Go.Proofs.Tryz
set_option maxHeartbeats 4000000
set_option maxRecDepth 100000
variable{A DA:Option Addr}{R cap dcap k:Nat}{d:List zC}{f:zC}{fin kw:Int}{r ts:List Tok}{s tx:ByteArray}{t:Tok}{tmps:Array Value}{w x:World}
theorem zAt.live{Z:zE}(h:zAt Z w A cap ts):zAt (λb=>Z b/\b<w.heap.size) w A cap ts:=
 ⟨λa=>by
  obtain⟨b,c,e,g,d⟩:=h.row a;obtain⟨u,r,f⟩:=List.exists_cons_of_ne_nil a
  exact⟨b,c,e,⟨g,lt_of_cell (d 0 u (by rw[f];rfl))⟩,d⟩,h.le,h.max,h.few⟩
def zJx:List (ByteArray × Value):=zAU (zAU [] zKS (.int .i64 1)) zGi (.int .i64 2)
def zKX(R:Nat):List (Int × Value):=zAU (zAU [] 1 (.func (.func 82) #[.pointer (some ⟨R,0,none⟩)] #[])) 2 (.func (.func 83) #[.pointer (some ⟨R,0,none⟩)] #[])
theorem zHi{fin k:Int}(h:zB7 fin k tx ts= .ok (t,r)):t∈ts/\∀x∈r,x∈ts:=by
 cases ts with
 |nil=>cases h
 |cons a l=>
  simp only[zB7]at h;by_cases b:a.kind≠k\/(tx≠za/\a.text≠tx)
  ·rw[if_pos b]at h;cases h
  ·rw[if_neg b]at h;injection h with h;injection h with h1 h2;subst h1 h2;exact⟨by simp,λx c=>by simp[c]⟩
theorem zA3{α β:Type}{x:Except Flt α}{f:α->Except Flt β}{b:β}(h:zj x f= .ok b):∃a,x= .ok a/\f a= .ok b:=by
 cases x with
 |error e=>cases h
 |ok a=>exact⟨a,rfl,h⟩
theorem zES{fin k:Int}{p:Tok × List Tok}(h:zB7 fin k tx ts= .ok p):p.2.length<ts.length:=by
 cases ts with
 |nil=>cases h
 |cons a l=>
  simp only[zB7]at h;by_cases b:a.kind≠k\/(tx≠za/\a.text≠tx)
  ·rw[if_pos b]at h;cases h
  ·rw[if_neg b]at h;injection h with h;subst h;simp
theorem zQE{p:(Int × Int) × List Tok}(h:zFS fin kw ts= .ok p):p.2.length<=ts.length:=by
 unfold zFS at h;split at h
 ·injection h with h;subst h;exact Nat.le_refl _
 ·unfold zMI at h;obtain⟨a,d,h⟩:=zA3 h;obtain⟨_,_,h⟩:=zA3 h;obtain⟨b,e,h⟩:=zA3 h;obtain⟨c,f,h⟩:=zA3 h;obtain⟨_,_,h⟩:=zA3 h;injection h with h;subst h;have g:=zES d;have i:=zES e;have j:=zES f;show c.2.length<=ts.length;omega
theorem zRx(h:zKU fin d ts= .ok (f,r)):r.length<ts.length:=by
 unfold zKU at h;obtain⟨a,g,h⟩:=zA3 h;obtain⟨_,_,h⟩:=zA3 h;obtain⟨_,_,h⟩:=zA3 h;obtain⟨b,i,h⟩:=zA3 h;obtain⟨_,_,h⟩:=zA3 h;obtain⟨c,j,h⟩:=zA3 h;obtain⟨e,he,h⟩:=zA3 h;injection h with h;injection h with _ h;subst h;have k:=zES g;have m:=zES i;have n:=zQE j;have o:=zES he;omega
theorem zEM.i64(h:zEM s t):I64 t.num:=⟨by have:=h.num;omega,by have:=h.num;omega⟩
theorem zRy{lo hi:Int}(h:zFS fin kw ts= .ok ((lo,hi),r))(d:∀t∈ts,zEM s t):I64 lo/\I64 hi:=by
 unfold zFS at h;split at h
 ·injection h with h;injection h with h _;injection h with h1 h2;subst h1 h2;exact⟨by unfold I64;omega,by unfold I64;omega⟩
 ·unfold zMI at h;obtain⟨a,i,h⟩:=zA3 h;obtain⟨_,_,h⟩:=zA3 h;obtain⟨b,j,h⟩:=zA3 h;obtain⟨c,k,h⟩:=zA3 h;obtain⟨_,_,h⟩:=zA3 h;injection h with h;injection h with h _;injection h with h1 h2;subst h1 h2;obtain⟨e,f⟩:=zHi (t:=a.1) (r:=a.2) i;obtain⟨m,g⟩:=zHi (t:=b.1) (r:=b.2) j;obtain⟨c1,_⟩:=zHi (t:=c.1) (r:=c.2) k;exact⟨(d _ e).i64,(d _ (f _ (g _ c1))).i64⟩
theorem zQF(s:ByteArray):zEP s=0\/zEP s=1\/zEP s=2:=by
 unfold zEP;split
 ·exact .inr (.inl rfl)
 ·split
  ·exact .inr (.inr rfl)
  ·exact .inl rfl
theorem zTR(v:Value)(w:World):Calls prog 82 #[v] w λe w'=>e= .returned (zKW (0,1))/\w'=w:=by
 go_enter func82,ntmps82
 go_wp2;go_ret2;exact⟨rfl,rfl⟩
theorem zQG(h:kw=1\/kw=2):∃g:FuncId,(if false=true then Value.tuple #[(zg (zKX R) kw).getD .nilFunc,.bool (zg (zKX R) kw).isSome]else(zg (zKX R) kw).getD .nilFunc)= .func (.func g) #[.pointer (some ⟨R,0,none⟩)] #[]/\
  (∀args w,(callFunc g args).run prog w= .ok (.enter g args) w)/\
  ∀(W:World)(A:Option Addr)(cap:Nat)(ts:List Tok)(fin:Int)(j:Nat),RdF W R A cap ts j fin->zAt (λc=>c≠R) W A cap ts->j<=ts.length->Calls prog g #[.pointer (some ⟨R,0,none⟩)] W (zDt R A cap ts fin zKW W (zFS fin kw (ts.drop j))):=by
 rcases h with rfl|rfl
 ·refine⟨82,by rw[if_neg (by simp)];rfl,enters_of func82 (by kernel_rfl) rfl,λW A cap ts fin j b _ a=>(zTR _ W).mono ?_⟩;rintro e f ⟨rfl,rfl⟩;exact⟨zA.refl _ _,rfl,j,rfl,a,b⟩
 ·refine⟨83,by rw[if_neg (by simp)];rfl,enters_of func83 (by kernel_rfl) rfl,λW A cap ts fin j b d a=> ?_⟩;exact zTD R A cap ts fin j W b d a
theorem zRz(s:ByteArray):(if false=true then Value.tuple #[(zg zJx s).getD (.int .i64 0),.bool (zg zJx s).isSome]else(zg zJx s).getD (.int .i64 0))= .int .i64 (zEP s):=by
 rw[if_neg (by simp)];have a:zGi≠zKS:=by decide
 unfold zJx zEP;by_cases b:s=zKS
 ·subst b;simp[zAU,zg,a]
 ·by_cases c:s=zGi
  ·subst c;simp[zAU,zg,a]
  ·simp[zAU,zg,a,b,c]
structure FSt (w wr:World) (R:Nat) (A:Option Addr) (cap:Nat) (ts:List Tok) (fin:Int) (k:Nat) (d:List zC) (DA:Option Addr) (dcap:Nat):Prop where
 box:Blk wr w.heap.size 24 #[.slice DA d.length dcap]
 own:wr.ownsRow (R+1+1+1) 67 4 (.slice DA d.length dcap) d.length (d.flatMap zC.cells)
 err:Blk wr (w.heap.size+1) 32 #[.int .i64 0]
 at_:Blk wr (w.heap.size+1+1) 3 #[.int .i64 0]
 rd:RdF wr R A cap ts k fin
 tok:zAt (λc=>w.heap.size+1+1<c/\c<R) wr A cap ts
 km:zW encS wr (R+1) zJx
 mr:zW encI wr (R+1+1) (zKX R)
 be:Bw w wr
 lim:w.heap.size+1+1<R
 fit:∀f∈d,f.fit
 le:d.length<=60
 k:k<=ts.length
section
variable {w wr x:World} {R:Nat} {A:Option Addr} {cap:Nat} {ts:List Tok} {fin:Int} {k k':Nat} {d:List zC} {DA:Option Addr} {dcap:Nat}
theorem FSt.top(h:FSt w wr R A cap ts fin k d DA dcap):R+1+1<wr.heap.size:=h.mr.lt
theorem FSt.rows(h:FSt w wr R A cap ts fin k d DA dcap){b:Nat}(a:(Value.slice DA d.length dcap).ownBlock =some b):R+1+1+1<=b:=(h.own.lt b a).1
theorem FSt.step(h:FSt w wr R A cap ts fin k d DA dcap)(a:zA (λc=>c≠R) wr x)(i:RdF x R A cap ts k' fin)(f:k'<=ts.length):FSt w x R A cap ts fin k' d DA dcap:=by
 have g:=h.lim
 exact⟨h.box.keep a (by omega),zX (Z:=λc=>c≠R) h.own a (λb e=>by have:=(h.own.lt b e).1;show b≠R;omega),h.err.keep a (by omega),h.at_.keep a (by omega),i,
  (h.tok.keep (a.mono λb _ e=>by show b≠R;omega)),h.km.of_block (a.block _ h.km.lt (by show R+1≠R;omega)),h.mr.of_block (a.block _ h.mr.lt (by show R+1+1≠R;omega)),
  ⟨a.os.trans h.be.os,a.tape.trans h.be.tape,a.output.trans h.be.output,Nat.le_trans h.be.size a.size,λb e=>(a.block b (by have:=h.top;omega) (by omega)).trans (h.be.block b e)⟩,h.lim,h.fit,h.le,f⟩
theorem FSt.below(h:FSt w wr R A cap ts fin k d DA dcap)(a:Bw wr x):FSt w x R A cap ts fin k d DA dcap:=
 h.step (.of_below a) (Blk.below h.rd a (Blk.lt h.rd)) h.k
theorem FSt.ends(h:FSt w wr R A cap ts fin k d DA dcap):FSt w (((wr.setCell ⟨w.heap.size,0,none⟩ (.slice DA d.length dcap)).setCell ⟨w.heap.size+1,0,none⟩ (.int .i64 0)).setCell ⟨w.heap.size+1+1,0,none⟩ (.int .i64 0)) R A cap ts fin k d DA dcap:=by
 have f:=h.lim
 have a:zA (λc=>w.heap.size+1+1<c) wr (((wr.setCell ⟨w.heap.size,0,none⟩ (.slice DA d.length dcap)).setCell ⟨w.heap.size+1,0,none⟩ (.int .i64 0)).setCell ⟨w.heap.size+1+1,0,none⟩ (.int .i64 0)):=
  (((zA.refl _ _).setCell (p:=⟨w.heap.size,0,none⟩) (λ_(h:w.heap.size+1+1<w.heap.size)=>by omega) _).setCell (p:=⟨w.heap.size+1,0,none⟩) (λ_(h:w.heap.size+1+1<w.heap.size+1)=>by omega) _).setCell (p:=⟨w.heap.size+1+1,0,none⟩) (λ_(h:w.heap.size+1+1<w.heap.size+1+1)=>by omega) _
 refine⟨((h.box.set_ 0 _).far (p:=⟨w.heap.size+1,0,none⟩) (by show w.heap.size≠w.heap.size+1;omega) _).far (p:=⟨w.heap.size+1+1,0,none⟩) (by show w.heap.size≠w.heap.size+1+1;omega) _,
  zX (Z:=λc=>w.heap.size+1+1<c) h.own a (λb e=>by have:=(h.own.lt b e).1;show w.heap.size+1+1<b;omega),
  ((h.err.far (p:=⟨w.heap.size,0,none⟩) (by show w.heap.size+1≠w.heap.size;omega) _).set_ 0 _).far (p:=⟨w.heap.size+1+1,0,none⟩) (by show w.heap.size+1≠w.heap.size+1+1;omega) _,
  ((h.at_.far (p:=⟨w.heap.size,0,none⟩) (by show w.heap.size+1+1≠w.heap.size;omega) _).far (p:=⟨w.heap.size+1,0,none⟩) (by show w.heap.size+1+1≠w.heap.size+1;omega) _).set_ 0 _,
  Blk.keep h.rd a f,h.tok.keep (a.mono λb _ e=>e.1),h.km.of_block (a.block _ h.km.lt (by omega)),h.mr.of_block (a.block _ h.mr.lt (by omega)),
  ((h.be.setCell (p:=⟨w.heap.size,0,none⟩) (Nat.le_refl _) _).setCell (p:=⟨w.heap.size+1,0,none⟩) (by show w.heap.size<=w.heap.size+1;omega) _).setCell (p:=⟨w.heap.size+1+1,0,none⟩) (by show w.heap.size<=w.heap.size+1+1;omega) _,h.lim,h.fit,h.le,h.k⟩
theorem FSt.aside(h:FSt w wr R A cap ts fin k d DA dcap){B:Nat}(a:zA (λc=>c≠B) wr x)(i:R+1+1<B)(g:(Value.slice DA d.length dcap).ownBlock ≠some B):FSt w x R A cap ts fin k d DA dcap:=by
 have j:=h.lim
 exact⟨h.box.keep a (by omega),zX (Z:=λc=>c≠B) h.own a (λb f e=>g (e▸f)),h.err.keep a (by omega),h.at_.keep a (by omega),Blk.keep h.rd a (by show R≠B;omega),
  (h.tok.keep (a.mono λb _ f=>by show b≠B;omega)),h.km.of_block (a.block _ h.km.lt (by show R+1≠B;omega)),h.mr.of_block (a.block _ h.mr.lt (by show R+1+1≠B;omega)),
  ⟨a.os.trans h.be.os,a.tape.trans h.be.tape,a.output.trans h.be.output,Nat.le_trans h.be.size a.size,λb f=>(a.block b (by have:=h.top;omega) (by omega)).trans (h.be.block b f)⟩,h.lim,h.fit,h.le,h.k⟩
theorem FSt.push(h:FSt w wr R A cap ts fin k d DA dcap)(u:f.fit)(z:d.length≠60){o:Obj}{i:Option Addr}{a:Nat}(t:x.ownsRow (R+1+1+1) 67 4 (.slice i (d.length+1) a) (d.length+1) (d.flatMap zC.cells++f.cells))(j:(wr.alloc o).grownBy x (Value.slice DA d.length dcap).ownBlock):
  zA (λc=>c<=R+1+1) wr x/\FSt w (x.setCell ⟨w.heap.size,0,none⟩ (.slice i (d.length+1) a)) R A cap ts fin k (d++[f]) i a:=by
 have s:=h.lim;have v:=h.le;have e:zA (λc=>c<=R+1+1) wr x:=((zA.refl _ wr).alloc o).grown j (λb m _ y=>by have:=h.rows m;have:b<=R+1+1:=y;omega);have n:zA (λc=>c≠w.heap.size) x (x.setCell ⟨w.heap.size,0,none⟩ (.slice i (d.length+1) a)):=(zA.refl _ _).setCell (λ_ h=>h rfl) _
 refine⟨e,?_,?_,(h.err.keep e (by show w.heap.size+1<=R+1+1;omega)).keep n (by show w.heap.size+1≠w.heap.size;omega),(h.at_.keep e (by show w.heap.size+1+1<=R+1+1;omega)).keep n (by show w.heap.size+1+1≠w.heap.size;omega),Blk.keep (Blk.keep h.rd e (by show R<=R+1+1;omega)) n (by show R≠w.heap.size;omega),
  (h.tok.keep (e.mono λb _ m=>by show b<=R+1+1;omega)).keep (n.mono λb _ m=>by show b≠w.heap.size;omega),(h.km.of_block (e.block _ h.km.lt (by show R+1<=R+1+1;omega))).of_block (n.block _ (by have:=h.km.lt;have:=e.size;omega) (by show R+1≠w.heap.size;omega)),
  (h.mr.of_block (e.block _ h.mr.lt (Nat.le_refl _))).of_block (n.block _ (by have:=h.mr.lt;have:=e.size;omega) (by show R+1+1≠w.heap.size;omega)),?_,h.lim,?_,by simp;omega,h.k⟩
 ·have:=(h.box.keep e (by show w.heap.size<=R+1+1;omega)).set_ 0 (.slice i (d.length+1) a);rw[List.length_append,List.length_singleton];exact this
 ·rw[List.length_append,List.length_singleton,List.flatMap_append];have:=zX (Z:=λc=>c≠w.heap.size) t n (λb m=>by have:=(t.lt b m).1;show b≠w.heap.size;omega);simpa using this
 ·have q:Bw w x:=⟨e.os.trans h.be.os,e.tape.trans h.be.tape,e.output.trans h.be.output,Nat.le_trans h.be.size e.size,λb m=>(e.block b (by have:=h.top;omega) (by show b<=R+1+1;omega)).trans (h.be.block b m)⟩;exact q.setCell (p:=⟨w.heap.size,0,none⟩) (Nat.le_refl _) _
 ·intro g j;rcases List.mem_append.1 j with j|j
  ·exact h.fit g j
  ·simp only[List.mem_singleton]at j;subst j;exact u
theorem FSt.toks(h:FSt w wr R A cap ts fin k d DA dcap):zAt (λc=>c≠R) wr A cap ts:=h.tok.mono λb a=>by omega
theorem FSt.facts(h:FSt w wr R A cap ts fin k d DA dcap):Facts (λb=>b<wr.heap.size/\w.heap.size+1+1<b) wr (.slice DA d.length dcap) d:=
 zTL h.own h.fit (by have:=h.le;omega) (λb a=>by have:=h.own.lt b a;have:=h.lim;omega)
end
theorem zDN{w wr x:World}(g:FSt w wr R A cap ts fin k d DA dcap)(h:zA (λc=>c≠R) wr x){f:Flt}(m:zBB s=([],f.1,f.2))
  (t:tmps[2]?.getD undef= .pointer (some ⟨w.heap.size,0,none⟩))(u:tmps[3]?.getD undef= .pointer (some ⟨w.heap.size+1,0,none⟩))(y:tmps[4]?.getD undef= .pointer (some ⟨w.heap.size+1+1,0,none⟩)):
  Leaves prog Tryz.f50 tmps (zF2 s w) [{target:= .fn (.func 79) #[.pointer (some ⟨w.heap.size,0,none⟩),.pointer (some ⟨w.heap.size+1,0,none⟩),.pointer (some ⟨w.heap.size+1+1,0,none⟩)],args:=#[]}] (.panicking [{v:=zB1 198 f,recovered:=false}]) x:=by
 refine leaves_cons (f:=79) (args:=#[.pointer (some ⟨w.heap.size,0,none⟩),.pointer (some ⟨w.heap.size+1,0,none⟩),.pointer (some ⟨w.heap.size+1+1,0,none⟩)]) (by simp) (by simp[go_sem]) ?_;have C:=g.lim;have a:Bw w x:=⟨h.os.trans g.be.os,h.tape.trans g.be.tape,h.output.trans g.be.output,Nat.le_trans g.be.size h.size,λb j=>(h.block b (by have:=g.be.size;omega) (by omega)).trans (g.be.block b j)⟩;refine(zRr w.heap.size (w.heap.size+1) (w.heap.size+1+1) f _ 0 0 x (g.box.keep h (by omega)) (g.err.keep h (by omega)) (g.at_.keep h (by omega)) (by omega) (by omega) (by omega)).mono ?_;rintro e D E ⟨rfl,rfl,B,he,z,i⟩;have o:=B.at0;have q:=he.at0;have n:=z.at0;refine⟨.tuple #[.agg #[.slice none 0 0],.int .i64 f.1,.int .i64 f.2],by simp[results,results50,go_sem,t,u,y,o,q,n],none,0,by rw[m];rfl,by rw[m];exact zHh _ _,?_⟩;exact⟨i.os.trans a.os,i.tape.trans a.tape,i.output.trans a.output,Nat.le_trans a.size i.size,λb j=>(i.block b (by have:=a.size;omega) (by omega)).trans (a.block b j)⟩
theorem zUX(a:FSt w x R A cap ts fin k d DA dcap)(c:zBB s=(d,0,0))
  (j:tmps[2]?.getD undef= .pointer (some ⟨w.heap.size,0,none⟩))(m:tmps[3]?.getD undef= .pointer (some ⟨w.heap.size+1,0,none⟩))(n:tmps[4]?.getD undef= .pointer (some ⟨w.heap.size+1+1,0,none⟩)):
  Leaves prog Tryz.f50 tmps (zF2 s w) [{target:= .fn (.func 79) #[.pointer (some ⟨w.heap.size,0,none⟩),.pointer (some ⟨w.heap.size+1,0,none⟩),.pointer (some ⟨w.heap.size+1+1,0,none⟩)],args:=#[]}] .returning x:=by
 refine leaves_cons (f:=79) (args:=#[.pointer (some ⟨w.heap.size,0,none⟩),.pointer (some ⟨w.heap.size+1,0,none⟩),.pointer (some ⟨w.heap.size+1+1,0,none⟩)]) (by simp) (by simp[go_sem]) ?_;refine(zQB w.heap.size (w.heap.size+1) (w.heap.size+1+1) x).mono ?_;rintro e q t ⟨rfl,rfl,rfl⟩;have h:=a.box.at0;have i:=a.err.at0;have g:=a.at_.at0;exact⟨.tuple #[.agg #[.slice DA d.length dcap],.int .i64 0,.int .i64 0],by simp[results,results50,go_sem,j,m,n,h,i,g],DA,dcap,by rw[c],by rw[c];exact a.facts.mono λb o=>by omega,a.be⟩
theorem zQH(s:ByteArray)(w:World)(hs:s.size<=140737488355328)(h0:(zJ s).2.1=0):Calls prog 50 #[.string s] w (zF2 s w):=by
 have HL:=hid (λW=>zEs s W hs);have D:=hid (show zBB s=(if(zJ s).2.1≠0 then([],(zJ s).2.1,(zJ s).2.2)else match zFT s.size ((zJ s).1.length +1) [] (zJ s).1 with| .error e=>([],e.1,e.2)| .ok d=>(d,0,0)) from rfl);have ds:∀(fn:Fn)(first cap:Array Value)(w:World),(Instr.makeFunc fn first cap).run prog w= .ok (.func fn first cap) w:=λ_ _ _ _=>rfl
 have dt:= @run_makeMap prog;go_enter_defers func50,ntmps50
 go_wp2_with fail
 refine(HL.out _).mono ?_;rintro e w1 ⟨v,rfl,az,ae⟩;obtain⟨A,cap,rfl,a6⟩:=zAt.of_own az;have hd:=(((Blk.new w 24 #[.slice none 0 0]).alloc (.cells #[.int .i64 0] 32)).alloc (.cells #[.int .i64 0] 3)).below ae (by simp;omega);have he:=((zBv w (.cells #[.slice none 0 0] 24) 32 #[.int .i64 0]).alloc (.cells #[.int .i64 0] 3)).below ae (by simp);have ha:=(Blk.new' ((w.alloc (.cells #[.slice none 0 0] 24)).alloc (.cells #[.int .i64 0] 32)) 3 #[.int .i64 0] (n:=w.heap.size+1+1) (by simp)).below ae (by simp);have m:Bw w w1:=(((zF w (.cells #[.slice none 0 0] 24)).alloc (by simp) (.cells #[.int .i64 0] 32)).alloc (by simp;omega) (.cells #[.int .i64 0] 3)).trans (ae.mono (by simp;omega));have cg:zAt (λb=>w.heap.size+1+1<b) w1 A cap (zJ s).1:=a6.mono λb h=>by simp at h;omega
 clear ae az a6 HL;have e0:=he.at0;have ef:=he.frozen 0;have el:=he.lt;have a0:=ha.at0;have af:=ha.frozen 0;have al:=ha.lt;have HD:=hid hd;have HE:=hid he;have HA:=hid ha;have HB:=hid m;have HT:=hid cg;clear hd he ha m cg;obtain⟨L,hL⟩:∃L,L=zJ s:=⟨_,rfl⟩;have ab:=hid (λ(h:(zJ s).2.1=0)=>And.intro (zIe h) (zId h));rw[<-hL]at D HT ab h0⊢;clear hL;obtain⟨ts,er,dp⟩:=L;dsimp only at*;subst h0;obtain⟨⟨cj,ci⟩,rfl⟩:=ab.out rfl;have b0:=hid (D.out.trans (if_neg (by simp)));have bz:=hid cj;clear D ab cj ci;have ag:Blk ((w1.setCell ⟨w.heap.size+1,0,none⟩ (.int .i64 0)).setCell ⟨w.heap.size+1+1,0,none⟩ (.int .i64 0)) w.heap.size 24 #[.slice none 0 0]:=(HD.out.far (p:=⟨w.heap.size+1,0,none⟩) (by show w.heap.size≠w.heap.size+1;omega) _).far (p:=⟨w.heap.size+1+1,0,none⟩) (by show w.heap.size≠w.heap.size+1+1;omega) _;have ah:Blk ((w1.setCell ⟨w.heap.size+1,0,none⟩ (.int .i64 0)).setCell ⟨w.heap.size+1+1,0,none⟩ (.int .i64 0)) (w.heap.size+1) 32 #[.int .i64 0]:=(HE.out.set_ 0 _).far (p:=⟨w.heap.size+1+1,0,none⟩) (by show w.heap.size+1≠w.heap.size+1+1;omega) _;have V:Blk ((w1.setCell ⟨w.heap.size+1,0,none⟩ (.int .i64 0)).setCell ⟨w.heap.size+1+1,0,none⟩ (.int .i64 0)) (w.heap.size+1+1) 3 #[.int .i64 0]:=(HA.out.far (p:=⟨w.heap.size+1,0,none⟩) (by show w.heap.size+1+1≠w.heap.size+1;omega) _).set_ 0 _;have aq:Bw w ((w1.setCell ⟨w.heap.size+1,0,none⟩ (.int .i64 0)).setCell ⟨w.heap.size+1+1,0,none⟩ (.int .i64 0)):=(HB.out.setCell (by show w.heap.size<=w.heap.size+1;omega) _).setCell (by show w.heap.size<=w.heap.size+1+1;omega) _;have aw:zAt (λb=>w.heap.size+1+1<b) ((w1.setCell ⟨w.heap.size+1,0,none⟩ (.int .i64 0)).setCell ⟨w.heap.size+1+1,0,none⟩ (.int .i64 0)) A cap ts:=HT.out.keep (((zA.refl _ _).setCell (p:=⟨w.heap.size+1,0,none⟩) (λ_(h:w.heap.size+1+1<w.heap.size+1)=>by omega) _).setCell (p:=⟨w.heap.size+1+1,0,none⟩) (λ_(h:w.heap.size+1+1<w.heap.size+1+1)=>by omega) _);have H2:=hid (And.intro ag (And.intro ah (And.intro V (And.intro aq aw))));clear ag ah V aq aw HD HE HA HB HT;go_upto_region 5 with fail
 clear e0 ef a0 af el al;generalize (w1.setCell ⟨w.heap.size+1,0,none⟩ (.int .i64 0)).setCell ⟨w.heap.size+1+1,0,none⟩ (.int .i64 0)=O at*;have bt:=hid (Blk.new O 153 #[.slice A ts.length cap,.int .i64 0,.int .i64 (s.size:Int)])
 have bq:zW encS ((O.alloc (.cells #[.slice A ts.length cap,.int .i64 0,.int .i64 (s.size:Int)] 153)).alloc (.map #[] 0)) (O.heap.size+1) []:=by
  have:=zW.made (O.alloc (.cells #[.slice A ts.length cap,.int .i64 0,.int .i64 (s.size:Int)] 153)) encS;rwa[World.size_alloc]at this
 go_upto_region 7 with(first|(refine zDa rfl (.tmp 29) (.const (.string ⟨#[110,117,109,98,101,114]⟩)) _ rfl (zBb (P:=prog) (k:=9) underlying9) (e:=3) underlying154 rfl cb ⟨#[110,117,109,98,101,114]⟩ rfl (v:= .int .i64 2) rfl ?_;intro w4 av bc cf ct cx)|(refine zDa rfl (.tmp 29) (.const (.string ⟨#[102,108,97,103]⟩)) _ rfl (zBb (P:=prog) (k:=9) underlying9) (e:=3) underlying154 rfl bq ⟨#[102,108,97,103]⟩ rfl (v:= .int .i64 1) rfl ?_;intro w3 cb bb ce cs cw))
 have a2:w4.heap.size=O.heap.size+1+1:=by rw[cf,ce];simp
 have br:zW encI (w4.alloc (.map #[] 0)) (O.heap.size+1+1) []:=by
  have:=zW.made w4 encI;rwa[a2]at this
 go_wp2_with(first|(refine zDa rfl (.tmp 31) (.const (.int .i64 2)) _ rfl (zGI (P:=prog) (k:=3) underlying3) (e:=155) underlying156 rfl cc 2 rfl (v:= .func (.func 83) #[.pointer (some ⟨O.heap.size,0,none⟩)] #[]) rfl ?_;intro w6 ai au dg cv cz)|(refine zDa rfl (.tmp 31) (.const (.int .i64 1)) _ rfl (zGI (P:=prog) (k:=3) underlying3) (e:=155) underlying156 rfl br 1 rfl (v:= .func (.func 82) #[.pointer (some ⟨O.heap.size,0,none⟩)] #[]) rfl ?_;intro w5 cc ar de cu cy))
 have X:Bw O w6:=by
  have a1:Bw O ((O.alloc (.cells #[.slice A ts.length cap,.int .i64 0,.int .i64 (s.size:Int)] 153)).alloc (.map #[] 0)):=(zF O _).alloc (by simp) _;have a3:=zd a1 bb (by omega) (by simp;omega);have a4:=zd a3 bc (by omega) a3.size;have a5:=zd (a4.alloc a4.size (.map #[] 0)) ar (by omega) (a4.alloc a4.size (.map #[] 0)).size;exact zd a5 au (by omega) a5.size
 have HF:FSt w w6 O.heap.size A cap ts (s.size:Int) 0 [] none 0:=by
  obtain⟨ag,ah,V,aq,aw⟩:=H2.out;refine⟨ag.below X ag.lt,World.ownsRow_nil _ _ _ _,ah.below X ah.lt,V.below X V.lt,?_,?_,?_,ai,zD aq X,V.lt,by simp,by simp,Nat.zero_le _⟩
  ·have r3:=(bt.out.alloc (.map #[] 0)).keep bb (by omega);have r4:=r3.keep bc (by omega);have r5:=(r4.alloc (.map #[] 0)).keep ar (by omega);exact r5.keep au (by omega)
  ·exact aw.live.keep ((zFw X).mono λb _ h=>h.2)
  ·have m5:=(av.of_block (Below.heap_alloc w4 (.map #[] 0) _ av.lt)).of_block (ar.block _ (by have:=av.lt;simp;omega) (by omega));exact m5.of_block (au.block _ m5.lt (by omega))
 have bv:=hid (show zFT (s.size:Int) (ts.length+1) [] (ts.drop 0)=zFT (s.size:Int) (ts.length+1) [] ts from rfl);generalize dk:zFT (s.size:Int) (ts.length+1) [] ts=a9 at*;have cl:=hid HF;have rl:O.heap.size<w6.heap.size:=by have:=HF.top;omega
 generalize O.heap.size=R at*;clear bb ce cs cw bc cf ct cx ar de cu cy au dg cv cz cb av cc ai bq br a2 X bt H2 HF;go_loopg[] (ts.length+1) (λkx wr=>∃(k:Nat)(d:List zC)(DA:Option Addr)(dcap kn:Nat),kn=kx/\Hid (FSt w wr R A cap ts (s.size:Int) k d DA dcap)/\Hid (zFT (s.size:Int) kn d (ts.drop k)=a9)/\Hid (ts.length<k+kn));case atStart=>exact⟨0,[],none,0,ts.length+1,rfl,cl,bv,hid (by omega)⟩
 case round=>
  obtain⟨k,d,DA,dcap,kn,b7,F,aj,bf⟩:=hrel;have co:=hid b7;clear b7;have r0:wr.cell? ⟨R,0,none⟩=some (.slice A ts.length cap):=Blk.at0 F.out.rd;have r1:wr.cell? ⟨R,1,none⟩=some (.int .i64 (k:Int)):=Blk.at1 F.out.rd;have dj:=Blk.lt F.out.rd;by_cases bd:k<ts.length
  ·obtain⟨bg,rfl⟩:∃n',kn=n'+1:=⟨kn-1,by have:=bf.out;have:=F.out.k;omega⟩
   have bx:=hid (show zj (zKU (s.size:Int) d (ts.drop k)) (λx=>zFT (s.size:Int) bg (d++[x.1]) x.2)=a9 from by
    have:=aj.out;rw[List.drop_eq_getElem_cons bd]at this⊢
    exact this)
   have I:=hid (λ(f:Flt)(h:zKU (s.size:Int) d (ts.drop k)= .error f)=>show zBB s=([],f.1,f.2) from by rw[b0.out,<-bx.out,h];rfl)
   have D:=hid (show zKU (s.size:Int) d (ts.drop k)=(zj (zB7 (s.size:Int) 1 ⟨#[]⟩ (ts.drop k)) λnm=>
    zj (chk (decide (0<=zA1 d nm.1.text)) 9 nm.1) λ_=>
    zj (chk (decide (d.length=60)) 2 nm.1) λ_=>
    zj (zB7 (s.size:Int) 1 ⟨#[]⟩ nm.2) λwd=>
    zj (chk (decide (zEP wd.1.text=0)) 5 wd.1) λ_=>
    zj (zFS (s.size:Int) (zEP wd.1.text) wd.2) λp=>
    zj (zB7 (s.size:Int) 4 ⟨#[59]⟩ p.2) λz=> .ok (⟨nm.1.text,zEP wd.1.text,p.1.1,p.1.2⟩,z.2)) from rfl)
   have HT:=hid (λ(W:World)(j:Nat)(h:FSt w W R A cap ts (s.size:Int) j d DA dcap)(ch:Int)(tx:ByteArray)=>zN8 R A cap ts (s.size:Int) j ch tx W h.rd h.toks h.k);have cn:=hid (λ(W:World)(j:Nat)(h:FSt w W R A cap ts (s.size:Int) j d DA dcap)(nm:ByteArray)=>zGV _ _ d nm W h.facts);(have q1:(k:Int)<(ts.length:Int):=by omega);clear aj bd;(go_wp2_with fail);refine(HT.out wr k F.out 1 ⟨#[]⟩).mono ?_;intro e x1 c;have a8:=hid (λ(t:Tok)(r:List Tok)(h:zB7 (s.size:Int) 1 ⟨#[]⟩ (ts.drop k)= .ok (t,r))=>bz.out t (List.mem_of_mem_drop (zHi h).1));generalize zB7 (s.size:Int) 1 ⟨#[]⟩ (ts.drop k)=T at*
   cases T with
   |error f=>
    obtain⟨a,rfl⟩:=c.error_;go_wp2;exact zDN F.out a (I.out f D.out) rfl rfl rfl
   |ok p=>
    obtain⟨a,rfl,k1,hr,c6,o⟩:=c.ok_;obtain⟨⟨nk,np,nn,q⟩,rr⟩:=p;have db:=(a8.out _ _ rfl).fin;have dc:=(a8.out _ _ rfl).pos;dsimp only[zAS,Tok.cells]at*;(have dd:q.size<=140737488355328:=by omega);clear db dc a8;subst hr;simp only[zAc]at D;have H1:=hid (F.out.step a o c6);clear c a o r0 r1 dj F;(go_upto_region 10 with fail);have HN:=hid (Blk.new x1 102 #[.int .i64 nk,.int .i64 np,.int .i64 nn,.string q]);have H2:=hid (H1.out.below (zF x1 (.cells #[.int .i64 nk,.int .i64 np,.int .i64 nn,.string q] 102)));(have du:R<x1.heap.size:=by have:=H1.out.top;omega);clear H1;generalize x1.alloc (.cells #[.int .i64 nk,.int .i64 np,.int .i64 nn,.string q] 102)=y1 at*;generalize x1.heap.size=NB at*
    have HC:=hid (λ(W:World)(hW:Bw y1 W)=>(show W.cell? ⟨w.heap.size,0,none⟩=some (.slice DA d.length dcap)/\W.cell? ⟨NB,0,none⟩=some (.int .i64 nk)/\W.cell? ⟨NB,1,none⟩=some (.int .i64 np)/\W.cell? ⟨NB,2,none⟩=some (.int .i64 nn)/\W.cell? ⟨NB,3,none⟩=some (.string q)/\w.heap.size<W.heap.size/\NB<W.heap.size from by
     have h1:=(H2.out.below hW).box;have h2:=HN.out.below hW HN.out.lt
     exact⟨h1.at0,h2.at0,h2.at1,h2.at2,h2.at3,h1.lt,h2.lt⟩))
    refine zL 6 (λW=>Bw y1 W) (by kernel_rfl) ?_;have ac:Bw y1 y1.drew:=(Below.refl _ _).drew;have hS:(λW=>Bw y1 W) y1.drew:=ac;generalize y1.drew=z0 at*
    (refine tkC 0 [3,4,6] ?_ hS ?_ ?_ (hQ:=by exact λ_ _ _ h=>zBD rfl (by decide) h);rotate_left;intro w y;obtain⟨d0,n0,n1,n2,n3,dl,nl⟩:=HC.out _ y;clear y;go_simp;(try with_reducible rfl);simp only[nr])
    try simp only[nq]
    (refine tkZ 1 ?_ hS ?_ ?_ (hQ:=by exact λ_ _ _ h=>zBD rfl (by decide) h);rotate_left;intro w;go_simp;(try with_reducible rfl);simp only[nr])
    try simp only[nq]
    (refine tkC 2 [3,4,6] ?_ hS ?_ ?_ (hQ:=by exact λ_ _ _ h=>zBD rfl (by decide) h);rotate_left;intro w y;obtain⟨d0,n0,n1,n2,n3,dl,nl⟩:=HC.out _ y;clear y;go_simp;(try with_reducible rfl);simp only[nr])
    try simp only[nq]
    (refine tkS 5 ?_ hS ?_ ?_ (hQ:=by exact λ_ _ _ h=>zBD rfl (by decide) h);rotate_left;intro w y;obtain⟨d0,n0,n1,n2,n3,dl,nl⟩:=HC.out _ y;clear y;go_simp;(try with_reducible rfl);simp only[nr])
    (try simp only[nq]);clear hS;refine wS1 3 (λK hK=> ?_);(go_wp2_with fail);refine(cn.out z0 k1 (H2.out.below ac) q).mono ?_;rintro e z1 ⟨rfl,m⟩;have ad:Bw y1 z1:=ac.trans (m.mono ac.size);refine hK _ _ (Or.inr ad) ?_;clear hK K m;(try simp only[nq]);have hS:(λW=>Bw y1 W) z1:=ad
    (refine tkZ 4 ?_ hS ?_ ?_ (hQ:=by exact λ_ _ _ h=>zBD rfl (by decide) h);rotate_left;intro w;go_simp;(try with_reducible rfl);simp only[nr])
    (try simp only[nq]);clear hS;refine wS1 6 (λK hK=> ?_);(go_wp2_with fail);refine(zFY (decide (0<=zA1 d q)) 9 ⟨nk,np,nn,q⟩ z1).mono ?_;intro e z2 c;obtain⟨m,c⟩:=c;have ap:Bw y1 z2:=ad.trans (m.mono ad.size);generalize chk (decide (0<=zA1 d q)) 9 ⟨nk,np,nn,q⟩=C at*
    cases C with
    |error f=>
     obtain rfl:e= .panicked [{v:=zB1 198 f,recovered:=false}]:=c;exact zDN H2.out (zA.of_below ap) (I.out f D.out) rfl rfl rfl
    |ok u=>
     obtain rfl:e= .returned (.tuple #[]):=c;simp only[zAc]at D;refine hK _ _ (Or.inl rfl) ?_;clear hK K;(try simp only[nq]);refine wSd ?_ _;have H3:=hid (H2.out.below ap);have H:=hid (HN.out.below ap HN.out.lt);clear ap ad ac m HC H2 HN;have d0:=H3.out.box.at0;have dl:=H3.out.box.lt;have n0:=H.out.at0;have n1:=H.out.at1;have n2:=H.out.at2;have n3:=H.out.at3;have nl:=H.out.lt;have aa:=hid (λ(b:Bool)(m:b=decide (d.length=60))=>show Calls prog 85 #[.bool b,.int .i64 2,.agg #[.int .i64 nk,.int .i64 np,.int .i64 nn,.string q]] z2 (zKV z2 (chk (decide (d.length=60)) 2 ⟨nk,np,nn,q⟩)) from m▸zFY b 2 ⟨nk,np,nn,q⟩ z2);(go_wp2_with fail);refine(aa.out _ (by rw[Bool.eq_iff_iff];simp;omega)).mono ?_;intro e z3 c;obtain⟨m,c⟩:=c;have bo:=hid (show chk (decide (d.length=60)) 2 ⟨nk,np,nn,q⟩= .ok ()->d.length≠60 from λh e=>by rw[show decide (d.length=60)=true from by simp[e]]at h;cases h);generalize chk (decide (d.length=60)) 2 ⟨nk,np,nn,q⟩=C at*
     cases C with
     |error f=>
      obtain rfl:e= .panicked [{v:=zB1 198 f,recovered:=false}]:=c;go_wp2;exact zDN H3.out (zA.of_below m) (I.out f D.out) rfl rfl rfl
     |ok u=>
      obtain rfl:e= .returned (.tuple #[]):=c;simp only[zAc]at D;have b8:=bo.out rfl;have H4:=hid (H3.out.below m);have bs:=hid (H.out.below m H.out.lt);clear m H3 H aa d0 dl n0 n1 n2 n3 nl;(go_wp2_with fail);refine(HT.out z3 k1 H4.out 1 ⟨#[]⟩).mono ?_;intro e x2 c;generalize zB7 (s.size:Int) 1 ⟨#[]⟩ (ts.drop k1)=T at*
      cases T with
      |error f=>
       obtain⟨a,rfl⟩:=c.error_;go_wp2;exact zDN H4.out a (I.out f D.out) rfl rfl rfl
      |ok p=>
       obtain⟨a,rfl,k2,hr,c8,o⟩:=c.ok_;obtain⟨⟨wk,wp,wn,Y⟩,rr⟩:=p;dsimp only[zAS,Tok.cells]at*;subst hr;simp only[zAc]at D;have H5:=hid (H4.out.step a o c8);have ao:=hid (bs.out.keep a (by omega));clear c a o H4 bs;(go_upto_region 13 with fail);have HW:=hid (Blk.new x2 102 #[.int .i64 wk,.int .i64 wp,.int .i64 wn,.string Y]);have M:=zF x2 (.cells #[.int .i64 wk,.int .i64 wp,.int .i64 wn,.string Y] 102);have H6:=hid (H5.out.below M);have Q:=hid (ao.out.below M ao.out.lt);(have dw:R<x2.heap.size:=by have:=H5.out.top;omega);have dv:NB<x2.heap.size:=ao.out.lt;clear H5 ao M;generalize x2.alloc (.cells #[.int .i64 wk,.int .i64 wp,.int .i64 wn,.string Y] 102)=y2 at*;generalize x2.heap.size=WB at*;have ai:=H6.out.km;have n0:=Q.out.at0;have n1:=Q.out.at1;have n2:=Q.out.at2;have n3:=Q.out.at3;have nl:=Q.out.lt;have w0:=HW.out.at0;have bh:=HW.out.at1;have bi:=HW.out.at2;have bj:=HW.out.at3;have wl:=HW.out.lt;(have di:∀W:World,(zeroValue 3).run prog W= .ok (.int .i64 0) W:=λ_=>by kernel_rfl);have bn:=hid (zRz Y);have a7:=hid (zQF Y);generalize y:zEP Y=kw at*;clear y;(go_upto_region 14 with(refine zIH rfl (.tmp 63) (.tmp 65) false rfl (zBb (P:=prog) (k:=9) underlying9) (e:=3) underlying154 (di _) rfl ai Y rfl (v:= .int .i64 kw) bn.out ?_));have cp:=hid (λb(m:(Value.slice DA d.length dcap).ownBlock =some b)=>(H6.out.own.lt b m).2);have c0:R+1+1<y2.heap.size:=H6.out.top;have HF:=hid (Blk.new y2 67 #[.string q,.int .i64 kw,.int .i64 0,.int .i64 0]);have M:=zF y2 (.cells #[.string q,.int .i64 kw,.int .i64 0,.int .i64 0] 67);have H7:=hid (H6.out.below M);have U:=hid (HW.out.below M HW.out.lt);have dq:WB<y2.heap.size:=HW.out.lt;clear H6 Q HW M ai n0 n1 n2 n3 nl w0 bh bi bj wl bn;generalize y2.alloc (.cells #[.string q,.int .i64 kw,.int .i64 0,.int .i64 0] 67)=y3 at*;generalize y2.heap.size=Z at*;have f0:=HF.out.at0;have f1:=HF.out.at1;have fl:=HF.out.lt;have w0:=U.out.at0;have bh:=U.out.at1;have bi:=U.out.at2;have bj:=U.out.at3;have wl:=U.out.lt;have aa:=hid (λ(b:Bool)(m:b=decide (kw=0))=>show Calls prog 85 #[.bool b,.int .i64 5,.agg #[.int .i64 wk,.int .i64 wp,.int .i64 wn,.string Y]] y3 (zKV y3 (chk (decide (kw=0)) 5 ⟨wk,wp,wn,Y⟩)) from m▸zFY b 5 ⟨wk,wp,wn,Y⟩ y3);(go_wp2_with fail);refine(aa.out _ (by rw[Bool.eq_iff_iff];simp)).mono ?_;intro e z4 c;obtain⟨m,c⟩:=c;have bk:=hid (show chk (decide (kw=0)) 5 ⟨wk,wp,wn,Y⟩= .ok ()->kw≠0 from λh e=>by rw[e]at h;cases h);generalize chk (decide (kw=0)) 5 ⟨wk,wp,wn,Y⟩=C at*
       cases C with
       |error f=>
        obtain rfl:e= .panicked [{v:=zB1 198 f,recovered:=false}]:=c;go_wp2;exact zDN H7.out (zA.of_below m) (I.out f D.out) rfl rfl rfl
       |ok u=>
        obtain rfl:e= .returned (.tuple #[]):=c;simp only[zAc]at D;have b5:kw≠0:=bk.out rfl;have H8:=hid (H7.out.below m);have J:=hid (HF.out.below m HF.out.lt);clear m H7 HF U aa bk f0 f1 fl w0 bh bi bj wl;obtain⟨g,b4,eg,b3⟩:=zQG (R:=R) (a7.out.resolve_left b5);have bm:=hid (a7.out.resolve_left b5);have bl:=hid b4;have bu:=hid (λ(W:World)(h:FSt w W R A cap ts (s.size:Int) k2 d DA dcap)=>b3 W A cap ts (s.size:Int) k2 h.rd h.toks h.k);have cd:=H8.out.mr;(have dh:∀W:World,(zeroValue 155).run prog W= .ok .nilFunc W:=λ_=>by kernel_rfl);have f0:=J.out.at0;have f1:=J.out.at1;have f2:=J.out.at2;have f3:=J.out.at3;have fl:=J.out.lt;clear b4 b3 a7;go_wp2_with(refine zIH rfl (.tmp 74) (.tmp 76) false rfl (zGI (P:=prog) (k:=3) underlying3) (e:=155) underlying156 (dh _) rfl cd kw rfl (v:= .func (.func g) #[.pointer (some ⟨R,0,none⟩)] #[]) bl.out ?_);refine(bu.out z4 H8.out).mono ?_;intro e x3 c;have bw:=hid (λ(lo hi:Int)(r:List Tok)(h:zFS (s.size:Int) kw (ts.drop k2)= .ok ((lo,hi),r))=>zRy h (λt ht=>bz.out t (List.mem_of_mem_drop ht)));generalize zFS (s.size:Int) kw (ts.drop k2)=T at*
        cases T with
        |error f=>
         obtain⟨a,rfl⟩:=c.error_;go_wp2;exact zDN H8.out a (I.out f D.out) rfl rfl rfl
        |ok p=>
         obtain⟨a,rfl,k3,hr,c9,o⟩:=c.ok_;obtain⟨⟨lo,hi⟩,rr⟩:=p;have ca:=bw.out lo hi rr rfl;dsimp only[zKW]at*;subst hr;simp only[zAc]at D;have bp:=hid ca;have H9:=hid (H8.out.step a o c9);have E:=hid (J.out.keep a (by omega));clear c a o ca bw bu H8 J cd f0 f1 f2 f3 fl bl;have f0:=E.out.at0;have f1:=E.out.at1;have f2:=E.out.at2;have f3:=E.out.at3;have fl:=E.out.lt;have g2:=E.out.frozen 2;have g3:=E.out.frozen 3;(go_upto_region 16 with fail);have ax:=hid (show Blk ((x3.setCell ⟨Z,2,none⟩ (.int .i64 lo)).setCell ⟨Z,3,none⟩ (.int .i64 hi)) Z 67 #[.string q,.int .i64 kw,.int .i64 lo,.int .i64 hi] from(E.out.set_ 2 _).set_ 3 _);have ak:=hid (H9.out.aside (x:=(x3.setCell ⟨Z,2,none⟩ (.int .i64 lo)).setCell ⟨Z,3,none⟩ (.int .i64 hi)) (B:=Z) (((zA.refl _ _).setCell (p:=⟨Z,2,none⟩) (λ_ h=>h rfl) _).setCell (p:=⟨Z,3,none⟩) (λ_ h=>h rfl) _) c0 (λe=>by have:=cp.out Z e;omega));clear f0 f1 f2 f3 fl g2 g3 H9 E;generalize (x3.setCell ⟨Z,2,none⟩ (.int .i64 lo)).setCell ⟨Z,3,none⟩ (.int .i64 hi)=x4 at*;(go_wp2_with fail);refine(HT.out x4 k3 ak.out 4 ⟨#[59]⟩).mono ?_;intro e x5 c;generalize zB7 (s.size:Int) 4 ⟨#[59]⟩ (ts.drop k3)=T at*
         cases T with
         |error f=>
          obtain⟨a,rfl⟩:=c.error_;go_wp2;exact zDN ak.out a (I.out f D.out) rfl rfl rfl
         |ok p=>
          obtain⟨a,rfl,k4,hr,da,o⟩:=c.ok_;obtain⟨⟨sk,sp,sn,st⟩,rr⟩:=p;dsimp only[zAS,Tok.cells]at*;subst hr;simp only[zAc]at D;have i:=hid (ak.out.step a o da);have G:=hid (ax.out.keep a (by omega));clear c a o ak ax;have d0:=i.out.box.at0;have dl:=i.out.box.lt;have f0:=G.out.at0;have f1:=G.out.at1;have f2:=G.out.at2;have f3:=G.out.at3;have fl:=G.out.lt;have ay:zC.fit ⟨q,kw,lo,hi⟩:=⟨dd,show I64 kw from by rcases bm.out with h|h<;>(rw[h];unfold I64;omega),bp.out.1,bp.out.2⟩;have cm:=hid ay;have dr:=i.out.le;have dn:=i.out.top;clear ay;go_wp2_with(at_builtin;refine z6 rfl (.tmp 86) (.tmp 88) _ rfl underlying22 Tryz.eFact rfl (i.out.own.alloc _) rfl (news:=[.string q,.int .i64 kw,.int .i64 lo,.int .i64 hi]) rfl (zCn (Blk.new _ _ _)) (by simp[Value.oneCell']) (by unfold maxLen;omega) (by omega) (by simp;omega) ?_;intro v1 x6 N b2 b1;obtain⟨ck,ba,rfl,-⟩:=Row.of_own N (by decide);have HP:=hid (i.out.push cm.out b8 N b2);have d0:=(i.out.box.keep HP.out.1 (by show w.heap.size<=R+1+1;have:=i.out.lim;omega)).at0;have df:=(i.out.box.keep HP.out.1 (by show w.heap.size<=R+1+1;have:=i.out.lim;omega)).frozen 0;have dl:=(i.out.box.keep HP.out.1 (by show w.heap.size<=R+1+1;have:=i.out.lim;omega)).lt;clear N b2 b1);have b9:(ts.drop k4).length <(ts.drop k).length :=zRx D.out;simp only[List.length_drop]at b9;have dm:=bf.out;(go_roundg bg);(case measure=>have:=co.out;omega);exact⟨k4,d++[⟨q,kw,lo,hi⟩],ck,ba,bg,rfl,hid HP.out.2,hid (by have:=bx.out;rw[D.out]at this;exact this),hid (by omega)⟩
  ·(have b6:k=ts.length:=by have:=F.out.k;omega);have q1:¬((k:Int)<(ts.length:Int)):=by omega
   have cq:=hid (show a9= .ok d from by
    obtain⟨n',rfl⟩:∃n',kn=n'+1:=⟨kn-1,by have:=bf.out;omega⟩
    rw[<-aj.out,b6,List.drop_length];rfl)
   have cr:=hid (show zBB s=(d,0,0) from by rw[b0.out,cq.out]);have d0:=F.out.box.at0;have df:=F.out.box.frozen 0;have dl:=F.out.box.lt;have e0:=F.out.err.at0;have ef:=F.out.err.frozen 0;have el:=F.out.err.lt;have a0:=F.out.at_.at0;have af:=F.out.at_.frozen 0;have al:=F.out.at_.lt;clear bd b6;go_wp2;exact zUX F.out.ends cr.out rfl rfl rfl
theorem zSA(s:ByteArray)(w:World)(b:s.size<=140737488355328):Calls prog 50 #[.string s] w (zF2 s w):=by
 by_cases a:(zJ s).2.1=0
 ·exact zQH s w b a
 ·exact zRs s w b a
end Go.Proofs.YthpocbeoanipbaaGreatDoor
