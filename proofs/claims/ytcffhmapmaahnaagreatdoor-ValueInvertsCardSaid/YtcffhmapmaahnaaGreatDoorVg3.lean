/-
  Lemmas for the claim.
-/
import Derived.Test.YtcffhmapmaahnaaGreatDoorVg2
set_option linter.all false
set_option maxHeartbeats 4000000
set_option maxRecDepth 100000
namespace Go.Sw
open Go.RowKit (Below)
abbrev Bks:=Nat→Prop
def plusB (V:Bks) (B:Nat):Bks:=fun b=>V b∨b=B∨b=B+1
structure LW7 (V V':Bks) (w w':World):Prop where
 os:w'.os=w.os
 tape:w'.tape=w.tape
 output:w'.output=w.output
 size:w.heap.size≤w'.heap.size
 block:∀ b,b < w.heap.size→¬ V b→w'.heap[b]?=w.heap[b]?
 new:∀ b,V' b→V b∨w.heap.size≤b
theorem LW7.of {V:Bks} {w w':World} (e:Ext w w'):LW7 V V w w':=⟨e.os,e.tape,e.output,e.size,fun b hb _=>e.block b hb,fun b h => .inl h⟩
theorem LW7.more {V V':Bks} {w w':World} (e:Ext w w') (h:∀ b,V' b→V b∨w.heap.size≤b):LW7 V V' w w':=⟨e.os,e.tape,e.output,e.size,fun b hb _=>e.block b hb,h⟩
theorem LW7.trans {V V' V'':Bks} {a b c:World} (h:LW7 V V' a b) (g:LW7 V' V'' b c):LW7 V V'' a c:=⟨g.os.trans h.os,g.tape.trans h.tape,g.output.trans h.output,Nat.le_trans h.size g.size,fun k hk hv=>(g.block k (Nat.lt_of_lt_of_le hk h.size) fun hv'=>by
 rcases h.new k hv' with h1 | h1
 · exact hv h1
 · omega).trans (h.block k hk hv),fun k hk=>by
 rcases g.new k hk with h1 | h1
 · exact h.new k h1
 · exact .inr (Nat.le_trans h.size h1)⟩
theorem LW7.put {V:Bks} {w:World} {l:Nat} (hl:V l) (o:Obj):LW7 V V w (w.putObj l o):=⟨rfl,rfl,rfl,by simp,fun b _ hv=>World.putObj_heap_other (fun e=>hv (by rw [e];exact hl)),fun b h => .inl h⟩
theorem LW7.cell {V:Bks} {w:World} {l:Nat} (hl:V l) (o:Nat) (v:Value):LW7 V V w (w.setCell ⟨l,o,none⟩ v):=⟨rfl,rfl,rfl,by simp,fun b _ hv=>heap_setE (fun e=>hv (by rw [e];exact hl)),fun b h => .inl h⟩
def Lasts7 (I:Bks→World→Prop):Prop:=∀ V V' w w',LW7 V V' w w'→I V w→I V' w'
theorem Lasts7.ext {I:Bks→World→Prop} (h:Lasts7 I) {V:Bks} {w w':World} (hI:I V w) (e:Ext w w'):I V w':=h _ _ _ _ (.of e) hI
theorem Lasts7.put {I:Bks→World→Prop} (h:Lasts7 I) {V:Bks} {w:World} {l:Nat} (hl:V l) (hI:I V w) (o:Obj):I V (w.putObj l o):=h _ _ _ _ (.put hl o) hI
theorem Lasts7.busied {I:Bks→World→Prop} (h:Lasts7 I) {V:Bks} {w w':World} {l:Nat} (hb:Busied l w w') (hl:V l) (hI:I V w):I V w':=by
 obtain ⟨r,hr,rfl⟩:=hb
 exact h.put hl hI _
theorem Lasts7.and {I J:Bks→World→Prop} (h:Lasts7 I) (k:Lasts7 J):Lasts7 (fun V w=>I V w∧J V w):=fun V V' w w' hl hh=>⟨h _ _ _ _ hl hh.1,k _ _ _ _ hl hh.2⟩
theorem Lasts7.ex {α:Sort _} {I:α→Bks→World→Prop} (h:∀ x,Lasts7 (I x)):Lasts7 (fun V w=>∃ x,I x V w):=fun V V' w w' hl ⟨x,hx⟩=>⟨x,h x _ _ _ _ hl hx⟩
theorem Lasts7.const (p:Prop):Lasts7 (fun _ _=>p):=fun _ _ _ _ _ h=>h
theorem Lasts7.has {b:Nat} {o:Obj}:Lasts7 (fun V w=>¬ V b∧w.heap[b]?=some o):=fun V V' w w' hl ⟨h1,h2⟩=>by
 have hb:=(Array.getElem?_eq_some_iff.1 h2).1
 refine ⟨fun hv=>?_,(hl.block b hb h1).trans h2⟩
 rcases hl.new b hv with h | h
 · exact h1 h
 · omega
theorem Lasts7.from {A:World}:Lasts7 (fun V w=>Ext A w∧∀ b,V b→A.heap.size≤b):=fun V V' w w' hl ⟨e,h⟩=>⟨⟨hl.os.trans e.os,hl.tape.trans e.tape,hl.output.trans e.output,Nat.le_trans e.size hl.size,fun k hk=>(hl.block k (Nat.lt_of_lt_of_le hk e.size) fun hv=>by have:=h k hv;omega).trans (e.block k hk)⟩,fun b hb=>by
 rcases hl.new b hb with h1 | h1
 · exact h b h1
 · exact Nat.le_trans e.size h1⟩
theorem Lasts7.own {α:Type} {base n:Nat} {T:TypeId} {enc:α→List Value} {v:Value} {l:List α}:Lasts7 (fun V w=>OwnE w base T n enc v l∧∀ g,v.ownBlock=some g→¬ V g):=fun V V' w w' hl ⟨h,hn⟩=>by
 obtain ⟨h1,h2⟩:=h
 rcases h2 with h2 | ⟨g,cap,cur,hv,a1,a2,a3⟩
 · exact ⟨⟨h1,.inl h2⟩,fun g hg=>by rw [h2.1] at hg;cases hg⟩
 · have hg:v.ownBlock=some g:=by rw [hv];rfl
   have hb:=(Array.getElem?_eq_some_iff.1 a2).1
   refine ⟨⟨h1,.inr ⟨g,cap,cur,hv,a1,(hl.block g hb (hn g hg)).trans a2,a3⟩⟩,fun g' hg' hv'=>?_⟩
   rw [hg] at hg'
   injection hg' with hg'
   subst hg'
   rcases hl.new g hv' with h | h
   · exact hn g hg h
   · omega
structure KR7 (V:Bks) (w w':World):Prop where
 size:w.heap.size≤w'.heap.size
 loop:∀ (b:Nat) (r:Loop),w.heap[b]?=some (.loop r)→∃ st p,w'.heap[b]?=some (.loop { r with state:=st,pending:=p })
 defer:∀ (b:Nat),w.heap[b]?=some (.deferred (some []))→w'.heap[b]?=some (.deferred (some []))
 keep:∀ b,V b→b < w.heap.size→(∀ r,w.heap[b]?≠some (.loop r))→w'.heap[b]?=w.heap[b]?
section
variable {V:Bks} {w w1 w2:World}
theorem KR7.of (e:Ext w w1):KR7 V w w1:=⟨e.size,fun b r h=>⟨r.state,r.pending,e.obj h⟩,fun _ h=>e.obj h,fun b _ hb _=>e.block b hb⟩
theorem KR7.refl (V:Bks) (w:World):KR7 V w w := .of (Ext.refl w)
theorem KR7.sub {V':Bks} (h:KR7 V w w1) (hs:∀ b,V' b→V b):KR7 V' w w1:=⟨h.size,h.loop,h.defer,fun b hv=>h.keep b (hs b hv)⟩
theorem KR7.setCell (h:KR7 V w w1) (b o:Nat) (v:Value) (hb:¬ V b∨w.heap.size≤b):KR7 V w (w1.setCell ⟨b,o,none⟩ v):=⟨by simpa using h.size,fun b r hb=>by
 obtain ⟨st,p,h1⟩:=h.loop b r hb
 exact ⟨st,p,(KeepsOthers.setCell w1 _ v).same _ _ h1 rfl⟩,fun b hb=>(KeepsOthers.setCell w1 _ v).same _ _ (h.defer b hb) rfl,fun b' hv hb' hr=>by
 have:b'≠b:=by
  rintro rfl
  rcases hb with hb | hb
  · exact hb hv
  · omega
 rw [heap_setE this];exact h.keep b' hv hb' hr⟩
theorem KR7.free (h:KR7 V w w1) {F:Bks} (hs:w1.heap.size≤w2.heap.size) (hk:∀ b,b < w1.heap.size→¬ F b→w2.heap[b]?=w1.heap[b]?) (hF:∀ b,F b→¬ V b∨w.heap.size≤b) (hc:∀ b,F b→(∀ r,w1.heap[b]?≠some (.loop r))∧∀ d,w1.heap[b]?≠some (.deferred d)):KR7 V w w2:=⟨Nat.le_trans h.size hs,fun b r hb=>by
 obtain ⟨st,p,h1⟩:=h.loop b r hb
 exact ⟨st,p,(hk b (Array.getElem?_eq_some_iff.1 h1).1 fun hf=>(hc b hf).1 _ h1).trans h1⟩,fun b hb=>by
 have h1:=h.defer b hb
 exact (hk b (Array.getElem?_eq_some_iff.1 h1).1 fun hf=>(hc b hf).2 _ h1).trans h1,fun b hv hb hr=>by
 rw [hk b (Nat.lt_of_lt_of_le hb h.size) fun hf=>by
  rcases hF b hf with h1 | h1
  · exact h1 hv
  · omega]
 exact h.keep b hv hb hr⟩
theorem KR7.turn {l:Nat} {r:Loop} (hl:w.heap[l]?=some (.loop r)) (st:LoopState) (p:Option Code):KR7 V w (w.putObj l (.loop { r with state:=st,pending:=p })):=⟨by simp,fun b r' hb=>by
 by_cases e:b=l
 · subst e
   rw [hl] at hb;injection hb with hb;injection hb with hb;subst hb
   exact ⟨st,p,World.putObj_heap_same (Array.getElem?_eq_some_iff.1 hl).1⟩
 · rw [World.putObj_heap_other e];exact ⟨r'.state,r'.pending,hb⟩,fun b hb=>by
 by_cases e:b=l
 · subst e;rw [hl] at hb;cases hb
 · rw [World.putObj_heap_other e];exact hb,fun b _ _ hr=>by
 by_cases e:b=l
 · subst e;exact absurd hl (hr _)
 · rw [World.putObj_heap_other e]⟩
theorem KR7.busied {l:Nat} (h:Busied l w w1):KR7 V w w1:=by
 obtain ⟨r,hr,rfl⟩:=h
 exact KR7.turn hr .busy r.pending
end
def Firm7 (V:Bks) (R:World→Prop):Prop:=∀ w w',KR7 V w w'→R w→R w'
theorem RecAt.firm7 (rec:Loop) (V:Bks) (b:Nat):Firm7 V (RecAt rec b):=fun w w' h ⟨h1,st,p,h2⟩=>by
 obtain ⟨st',p',h3⟩:=h.loop _ _ h2
 exact ⟨h.defer _ h1,st',p',h3⟩
theorem Firm7.and {V:Bks} {R S:World→Prop} (h:Firm7 V R) (k:Firm7 V S):Firm7 V (fun w=>R w∧S w):=fun w w' e hh=>⟨h _ _ e hh.1,k _ _ e hh.2⟩
theorem Firm7.sub {V V':Bks} {R:World→Prop} (h:Firm7 V R) (hs:∀ b,V b→V' b):Firm7 V' R:=fun w w' e=>h w w' (e.sub hs)
theorem Firm7.has {V:Bks} {b:Nat} {o:Obj} (hb:V b) (ho:∀ r,o ≠ .loop r):Firm7 V (fun w=>w.heap[b]?=some o):=fun w w' h k=>by
 show w'.heap[b]?=some o
 rw [h.keep b hb (Array.getElem?_eq_some_iff.1 k).1 fun r e=>by rw [k] at e;injection e with e;exact ho r e];exact k
theorem plus_lasts {I:Bks→World→Prop} (h:Lasts7 I) (B:Nat):Lasts7 (fun V w=>I (plusB V B) w):=fun V V' w w' hl hI=>h _ _ _ _ ⟨hl.os,hl.tape,hl.output,hl.size,fun b hb hv=>hl.block b hb fun h=>hv (.inl h),fun b hb=>by
 rcases hb with hb | hb
 · exact (hl.new b hb).imp_left .inl
 · exact .inl (.inr hb)⟩ hI
def SeqIt8 (P:Program) (f:FuncId) (caps:Array Value) (n:Nat) (Y:Nat→Nat→Value→Bks→World→Prop) (V0:Bks) (Pre FP:World→Prop):Prop :=
 ∀ (yv:Value) (J:Nat→Bks→World→Prop) (Jx:Bks→World→Prop) (Jp:List PanicEntry→Bks→World→Prop) (w:World),yv.oneCell'=true→Pre w→(∀ k V w,J k V w→FP w)→(∀ k,Lasts7 (J k))→Lasts7 Jx→(∀ ch,Lasts7 (Jp ch)) →
  (∀ k,k < n→∀ x V w',Y w.heap.size k x V w'→(∀ b,V b→V0 b∨w.heap.size≤b)→∀ Rk,Firm7 V Rk→J k V w'→Rk w'→callV P yv #[x] (fun ch w''=>Rk w''∧Jp ch V w'') w' (fun v w''=>Rk w''∧((v = .bool true∧J (k+1) V w'')∨(v = .bool false∧Jx V w''))))→J 0 V0 w →
  Calls P f (#[yv]++caps) w (fun e w'=>match e with
   | .returned _=>∃ V,J n V w'∨Jx V w'
   | .panicked ch=>∃ V,Jp ch V w'
   | .outgrown=>False)
def rangeN8 (P:Program) (fv:Value) (ds:List Deferred) (body:Nat→Value→World→(World→Prop)→(Nat→World→Prop)→(List PanicEntry→World→Prop)→Prop) (QP:List PanicEntry→List Deferred→World→Prop) (w:World)
 (k:List Deferred→World→Prop) (kx:List (List Deferred→World→Prop)):Prop :=
 ∃ (f:FuncId) (caps:Array Value) (n:Nat) (Y:Nat→Nat→Value→Bks→World→Prop) (V0:Bks) (Pre FP:World→Prop) (I:Nat→Bks→World→Prop) (Ix:Nat→Bks→World→Prop) (Ip:List PanicEntry→Bks→World→Prop),
  fv = .func (.func f) #[] caps∧Callable P f∧SeqIt8 P f caps n Y V0 Pre FP∧(∀ w',Ext w w'→Pre w')∧(∀ b,V0 b→b < w.heap.size)∧I 0 V0 w∧(∀ k V w,I k V w→FP w)∧(∀ k,Lasts7 (I k))∧(∀ c,Lasts7 (Ix c))∧(∀ ch,Lasts7 (Ip ch)) ∧
  (∀ (Rk:World→Prop) (V:Bks),Firm7 (plusB V w.heap.size) Rk→(∀ b,V b→V0 b∨w.heap.size+1+1≤b)→∀ (j:Nat) (x:Value) (w':World),j < n→Y (w.heap.size+1+1) j x V w'→I j (plusB V w.heap.size) w'→Rk w'→w.heap.size+1 < w'.heap.size→ReadyAt (w.heap.size+1) w' →
   body (w.heap.size+1) x w' (fun w''=>Rk w''∧I (j+1) (plusB V w.heap.size) w'') (fun c w''=>Rk w''∧Ix c (plusB V w.heap.size) w'') (fun ch w''=>Rk w''∧Ip ch (plusB V w.heap.size) w'')) ∧
  (∀ V w',I n V w'→MarkAt w.heap.size w'→k (mark w.heap.size::ds) w') ∧
  (∀ c V w',Ix c V w'→MarkAt w.heap.size w'→nthK kx c (mark w.heap.size::ds) w') ∧
  (∀ ch V w',Ip ch V w'→MarkAt w.heap.size w'→QP ch (mark w.heap.size::ds) w')
section
variable {P:Program} {N:Nat}
theorem sim_range8 {g:Operand} {p:Nat} {asg body:Code} {Q:K} {QP:KP} {ρ:Env} {ds:List Deferred} {w:World} {fv:Value} {nbody:Nat→Value→World→(World→Prop)→(Nat→World→Prop)→(List PanicEntry→World→Prop)→Prop} {QPn:List PanicEntry→List Deferred→World→Prop}
 {k:List Deferred→World→Prop} {kx:List (List Deferred→World→Prop)} (js:List Code) (h:rangeN8 P fv ds nbody QPn w k kx) (hg:ev ρ g=fv)
 (hbody:∀ l x w K X QPr,nbody l x w K X QPr→den P N (some l) asg (thenK (fun ρ' ds' w'=>ds'=[]∧busyK l w' (fun w''=>den P N (some l) body (roundK js K X) (roundQP QPr) ρ' [] w'')) (fun _ _ _ _=>False)) (fun _ _ _ _=>False) (put N ρ (some p) x) [] w)
 (hk:∀ ds w,k ds w→Q .normal ρ ds w) (hx:∀ c ds w,nthK kx c ds w→∃ code,js[c]?=some code∧((code = .ret∧Q .ret ρ ds w)∨(∃ id,code = .exit id∧Q (.exit id) ρ ds w))) (hp:∀ ch ds w,QPn ch ds w→QP ch ρ ds w) :
 den P N none (.rangeFunc g #[p] asg body) Q QP ρ ds w:=by
 intro a ha hds
 subst hds
 obtain ⟨f,caps,n,Y,V0,Pre,FP,I,Ix,Ip,hfv,hcal,hseq,hPre,hV0,h0,hFP,hL,hLx,hLp,hround,hend,hjump,hpan⟩:=h
 refine wpV_rangeFunc fun fn hfn=>?_
 obtain ⟨rec,hrec⟩:∃ rec:Loop,rec={ state := .ready,pending:=none,fn,tmps:=a.tmps,params := #[p],assign:=asg,body,defers:=w.heap.size }:=⟨_,rfl⟩
 obtain ⟨W1,hW1⟩:∃ W1,(w.alloc (.deferred (some []))).alloc (.loop rec)=W1:=⟨_,rfl⟩
 have hE1:Ext w W1:=by rw [← hW1];exact ((Ext.refl w).alloc _).alloc _
 have hW1s:W1.heap.size=w.heap.size+1+1:=by rw [← hW1];simp
 have hL1:W1.heap[w.heap.size+1]?=some (.loop rec):=by
  rw [← hW1];have:=World.alloc_heap_new (w.alloc (.deferred (some []))) (.loop rec);rwa [World.size_alloc] at this
 have hK1:MarkAt w.heap.size W1:=by
  rw [← hW1];exact MarkAt.alloc (World.alloc_heap_new w _) _
 have hev:a.eval g=fv:=by rw [ha.eval];exact hg
 refine ⟨w.heap.size+1,[mark w.heap.size],W1,{ target := .fn (.func f) caps,args := #[.func (.yield (w.heap.size+1)) #[] #[]] },W1,f,#[.func (.yield (w.heap.size+1)) #[] #[]]++caps,W1,?_,?_,?_,?_⟩
 · rw [← hW1,hrec];exact run_enterLoop_outer _ _ _ _ _
 · simp only [resolve,hev,hfv]
   simp [go_sem]
 · simp only [invoke]
   exact callFunc_run hcal _ _
 · refine Calls.mono (hseq (.func (.yield (w.heap.size+1)) #[] #[]) (fun j V w'=>I j (plusB V w.heap.size) w'∧((¬ V w.heap.size∧w'.heap[w.heap.size]?=some (.deferred (some [])))∧(¬ V (w.heap.size+1)∧w'.heap[w.heap.size+1]?=some (.loop { rec with state := .ready,pending:=none }))))
    (fun V w'=>(¬ V w.heap.size∧w'.heap[w.heap.size]?=some (.deferred (some [])))∧∃ c code,Ix c (plusB V w.heap.size) w'∧(js[c]?=some code∧(¬ V (w.heap.size+1)∧w'.heap[w.heap.size+1]?=some (.loop { rec with state := .done,pending:=some code }))))
    (fun ch V w'=>(¬ V w.heap.size∧w'.heap[w.heap.size]?=some (.deferred (some [])))∧Ip ch (plusB V w.heap.size) w') W1 rfl (hPre _ hE1) (fun j V w' hj=>hFP j _ w' hj.1) (fun j=>(plus_lasts (hL j) _).and (Lasts7.has.and Lasts7.has))
    (Lasts7.has.and (.ex fun c => .ex fun code=>(plus_lasts (hLx c) _).and ((Lasts7.const _).and Lasts7.has))) (fun ch=>Lasts7.has.and (plus_lasts (hLp ch) _)) ?_ ⟨hL 0 _ _ _ _ (.more hE1 fun b hb=>hb.imp id (fun h=>by omega)) h0,⟨fun hv=>by have:=hV0 _ hv;omega,hK1⟩,fun hv=>by have:=hV0 _ hv;omega,by rw [hL1,hrec]⟩) ?_
   · rintro j hj x V w' hY hVn Rk hF ⟨hi,⟨hnB,hm⟩,hnB1,hl⟩ hR
     have hlt:w.heap.size+1 < w'.heap.size:=(Array.getElem?_eq_some_iff.1 hl).1
     have hy:=run_yield (P:=P) (args := #[x]) hl (by rw [hrec];rfl)
     show onNext P _ _ _ _
     have hcs:callS (.func (.yield (w.heap.size+1)) #[] #[]) #[x]=Instr.yield (w.heap.size+1) #[x]:=by
      simp [callS,Deferred.ofValue,invoke,go_sem,bind,pure,Sem.bind]
     rw [hcs,hy]
     have key:∀ R,wpV (some (w.heap.size+1)) P asg (Exit.then (fun a₁ w₁=>∃ w₂,(Instr.beginRound (w.heap.size+1)).run P w₁ = .ok () w₂∧wpV (some (w.heap.size+1)) P body (endV P (w.heap.size+1) R) a₁ w₂) (fun _ _ _=>False)) { tmps:=((#[p].zip #[x]).foldl (fun tmps (t,a)=>tmps.setIfInBounds t a) a.tmps),defers:=[] } w' →
      RoundV P (w.heap.size+1) rec.fn ((rec.params.zip #[x]).foldl (fun tmps (t,a)=>tmps.setIfInBounds t a) rec.tmps) rec.assign rec.body w' R:=by
      intro R h;rw [hrec];exact roundV_of_wpV hfn h
     refine key _ ?_
     have hb:=hbody _ _ _ _ _ _ (hround _ V ((RecAt.firm7 rec _ w.heap.size).and (hF.sub fun b hb => .inl hb)) (by rw [hW1s] at hVn;exact hVn) j x w' hj (by rw [hW1s] at hY;exact hY) hi ⟨⟨hm,_,_,hl⟩,hR⟩ hlt ⟨_,hl,rfl⟩)
     have hagr:Agrees N ({ tmps:=((#[p].zip #[x]).foldl (fun tmps (t,a)=>tmps.setIfInBounds t a) a.tmps),defers:=[] }:Act) (put N ρ (some p) x):=by
      have:=(Agrees.defers ha []).put (some p) x
      simpa [Act.put] using this
     refine wpV_mono (den_sound asg _ _ _ _ _ hagr hb) ?_
     intro e a1 w1 hl1
     cases e with
     | panic ch=>obtain ⟨_,_,hf⟩:=hl1;exact hf.elim
     | outgrown=>exact hl1
     | exit id=>obtain ⟨_,_,_,hf⟩:=hl1;exact hf.elim
     | goto l=>obtain ⟨_,_,_,hf⟩:=hl1;exact hf.elim
     | ret=>obtain ⟨_,_,_,hf⟩:=hl1;exact hf.elim
     | normal =>
      obtain ⟨ρ1,ha1,_,hd1,hbz⟩:=hl1
      obtain ⟨⟨r,hr1,hr2⟩,hbz⟩:=hbz
      refine ⟨_,run_beginRound hr1 hr2,?_⟩
      rw [show a1={ a1 with defers:=[] } by rw [← hd1]]
      refine wpV_mono (den_sound body _ _ _ _ _ (Agrees.defers ha1 []) (hbz _ ⟨_,hr1,rfl⟩)) ?_
      have fin:∀ (jump:Option Code) (w2:World),RecAt rec w.heap.size w2→(Instr.endRound (w.heap.size+1) jump).run P w2 = .ok (.bool jump.isNone) (w2.putObj (w.heap.size+1) (.loop { rec with state:=if jump.isNone then .ready else .done,pending:=jump })) ∧
       (w2.putObj (w.heap.size+1) (.loop { rec with state:=if jump.isNone then .ready else .done,pending:=jump })).heap[w.heap.size+1]?=some (.loop { rec with state:=if jump.isNone then .ready else .done,pending:=jump }) ∧
       MarkAt w.heap.size (w2.putObj (w.heap.size+1) (.loop { rec with state:=if jump.isNone then .ready else .done,pending:=jump })):=by
       rintro jump w2 ⟨hm2,st,q,hq⟩
       refine ⟨by have:=run_endRound (P:=P) jump hq;exact this,World.putObj_heap_same (Array.getElem?_eq_some_iff.1 hq).1,?_⟩
       unfold MarkAt
       rw [World.putObj_heap_other (by omega)];exact hm2
      intro e a2 w2 hl2
      cases e with
      | normal =>
       obtain ⟨_,_,_,_,⟨hrec2,hR2⟩,hi2⟩:=hl2
       obtain ⟨f1,f2,f3⟩:=fin none w2 hrec2
       obtain ⟨_,st,q,hq⟩:=hrec2
       exact ⟨_,_,f1,hF _ _ (KR7.turn hq _ _) hR2,.inl ⟨rfl,(hL _).put (.inr (.inr rfl)) hi2 _,⟨hnB,f3⟩,hnB1,f2⟩⟩
      | ret =>
       obtain ⟨_,_,_,_,c,hc,⟨hrec2,hR2⟩,hi2⟩:=hl2
       obtain ⟨f1,f2,f3⟩:=fin (some .ret) w2 hrec2
       obtain ⟨_,st,q,hq⟩:=hrec2
       exact ⟨_,_,f1,hF _ _ (KR7.turn hq _ _) hR2,.inr ⟨rfl,⟨hnB,f3⟩,c,_,(hLx _).put (.inr (.inr rfl)) hi2 _,hc,hnB1,f2⟩⟩
      | exit id =>
       obtain ⟨_,_,_,_,c,hc,⟨hrec2,hR2⟩,hi2⟩:=hl2
       obtain ⟨f1,f2,f3⟩:=fin (some (.exit id)) w2 hrec2
       obtain ⟨_,st,q,hq⟩:=hrec2
       exact ⟨_,_,f1,hF _ _ (KR7.turn hq _ _) hR2,.inr ⟨rfl,⟨hnB,f3⟩,c,_,(hLx _).put (.inr (.inr rfl)) hi2 _,hc,hnB1,f2⟩⟩
      | panic ch =>
       obtain ⟨_,_,hd2,⟨hrec2,hR2⟩,hi2⟩:=hl2
       exact ⟨hd2,hR2,⟨hnB,hrec2.1⟩,hi2⟩
      | goto l=>obtain ⟨_,_,_,hf⟩:=hl2;exact hf.elim
      | outgrown=>exact hl2
   · have hagr:Agrees N ({ a with defers:=[mark w.heap.size]++a.defers }:Act) ρ:=ha
     have exh:∀ (st:LoopState) (q:Option Code) (w':World),w'.heap[w.heap.size+1]?=some (.loop { rec with state:=st,pending:=q })→st ≠ .busy→MarkAt w.heap.size w' →
      (Instr.endLoop (w.heap.size+1)).run P w' = .ok q (w'.putObj (w.heap.size+1) (.loop { rec with state := .exhausted,pending:=q }))∧MarkAt w.heap.size (w'.putObj (w.heap.size+1) (.loop { rec with state := .exhausted,pending:=q })):=by
      intro st q w' hq hne hm
      refine ⟨by have:=run_endLoop (P:=P) hq hne;exact this,?_⟩
      unfold MarkAt
      rw [World.putObj_heap_other (by omega)];exact hm
     rintro e w' he
     cases e with
     | returned v =>
      rcases he with ⟨V,⟨hi,⟨_,hm⟩,_,hl⟩ | ⟨⟨_,hm⟩,c,code,hi,hc,_,hl⟩⟩
      · obtain ⟨e1,e2⟩:=exh _ _ w' hl (by simp) hm
        exact ⟨none,_,e1,hagr,hk _ _ (hend _ _ ((hL _).put (.inr (.inr rfl)) hi _) e2)⟩
      · obtain ⟨e1,e2⟩:=exh _ _ w' hl (by simp) hm
        refine ⟨some code,_,e1,?_⟩
        obtain ⟨code',hc',hden⟩:=hx c _ _ (hjump c _ _ ((hLx _).put (.inr (.inr rfl)) hi _) e2)
        rw [hc] at hc';cases hc'
        rcases hden with ⟨rfl,hq⟩ | ⟨id,rfl,hq⟩
        · exact wpV_ret ⟨hagr,hq⟩
        · exact wpV_exit ⟨hagr,hq⟩
     | panicked ch=>obtain ⟨V,⟨_,hm⟩,hi⟩:=he;exact ⟨hagr,hp _ _ _ (hpan ch _ _ hi hm)⟩
     | outgrown=>exact he.elim
end
def SeqIt7 (P:Program) (f:FuncId) (caps:Array Value) (n:Nat) (Y:Nat→Nat→Value→Value→Bks→World→Prop) (V0:Bks) (Pre FP:World→Prop):Prop :=
 ∀ (yv:Value) (J:Nat→Bks→World→Prop) (Jx:Bks→World→Prop) (Jp:List PanicEntry→Bks→World→Prop) (w:World),yv.oneCell'=true→Pre w→(∀ k V w,J k V w→FP w)→(∀ V w,Jx V w→FP w)→(∀ k,Lasts7 (J k))→Lasts7 Jx→(∀ ch,Lasts7 (Jp ch)) →
  (∀ k,k < n→∀ x y V w',Y w.heap.size k x y V w'→(∀ b,V b→V0 b∨w.heap.size≤b)→∀ Rk,Firm7 V Rk→J k V w'→Rk w'→callV P yv #[x,y] (fun ch w''=>Rk w''∧Jp ch V w'') w' (fun v w''=>Rk w''∧((v = .bool true∧J (k+1) V w'')∨(v = .bool false∧Jx V w''))))→J 0 V0 w →
  Calls P f (#[yv]++caps) w (fun e w'=>match e with
   | .returned _=>∃ V,J n V w'∨Jx V w'
   | .panicked ch=>∃ V,Jp ch V w'
   | .outgrown=>False)
def rangeN7 (P:Program) (fv:Value) (ds:List Deferred) (body:Nat→Value→Value→World→(World→Prop)→(Nat→World→Prop)→(List PanicEntry→World→Prop)→Prop) (QP:List PanicEntry→List Deferred→World→Prop) (w:World)
 (k:List Deferred→World→Prop) (kx:List (List Deferred→World→Prop)):Prop :=
 ∃ (f:FuncId) (caps:Array Value) (n:Nat) (Y:Nat→Nat→Value→Value→Bks→World→Prop) (V0:Bks) (Pre FP:World→Prop) (I:Nat→Bks→World→Prop) (Ix:Nat→Bks→World→Prop) (Ip:List PanicEntry→Bks→World→Prop),
  fv = .func (.func f) #[] caps∧Callable P f∧SeqIt7 P f caps n Y V0 Pre FP∧(∀ w',Ext w w'→Pre w')∧(∀ b,V0 b→b < w.heap.size)∧I 0 V0 w∧(∀ k V w,I k V w→FP w)∧(∀ c V w,Ix c V w→FP w)∧(∀ k,Lasts7 (I k))∧(∀ c,Lasts7 (Ix c))∧(∀ ch,Lasts7 (Ip ch)) ∧
  (∀ (Rk:World→Prop) (V:Bks),Firm7 (plusB V w.heap.size) Rk→(∀ b,V b→V0 b∨w.heap.size+1+1≤b)→∀ (j:Nat) (x y:Value) (w':World),j < n→Y (w.heap.size+1+1) j x y V w'→I j (plusB V w.heap.size) w'→Rk w'→w.heap.size+1 < w'.heap.size→ReadyAt (w.heap.size+1) w' →
   body (w.heap.size+1) x y w' (fun w''=>Rk w''∧I (j+1) (plusB V w.heap.size) w'') (fun c w''=>Rk w''∧Ix c (plusB V w.heap.size) w'') (fun ch w''=>Rk w''∧Ip ch (plusB V w.heap.size) w'')) ∧
  (∀ V w',I n V w'→MarkAt w.heap.size w'→k (mark w.heap.size::ds) w') ∧
  (∀ c V w',Ix c V w'→MarkAt w.heap.size w'→nthK kx c (mark w.heap.size::ds) w') ∧
  (∀ ch V w',Ip ch V w'→MarkAt w.heap.size w'→QP ch (mark w.heap.size::ds) w')
section
variable {P:Program} {N:Nat}
theorem sim_range7 {g:Operand} {p p2:Nat} {asg body:Code} {Q:K} {QP:KP} {ρ:Env} {ds:List Deferred} {w:World} {fv:Value} {nbody:Nat→Value→Value→World→(World→Prop)→(Nat→World→Prop)→(List PanicEntry→World→Prop)→Prop} {QPn:List PanicEntry→List Deferred→World→Prop}
 {k:List Deferred→World→Prop} {kx:List (List Deferred→World→Prop)} (js:List Code) (h:rangeN7 P fv ds nbody QPn w k kx) (hg:ev ρ g=fv)
 (hbody:∀ l x y w K X QPr,nbody l x y w K X QPr→den P N (some l) asg (thenK (fun ρ' ds' w'=>ds'=[]∧busyK l w' (fun w''=>den P N (some l) body (roundK js K X) (roundQP QPr) ρ' [] w'')) (fun _ _ _ _=>False)) (fun _ _ _ _=>False) (put N (put N ρ (some p) x) (some p2) y) [] w)
 (hk:∀ ds w,k ds w→Q .normal ρ ds w) (hx:∀ c ds w,nthK kx c ds w→∃ code,js[c]?=some code∧((code = .ret∧Q .ret ρ ds w)∨(∃ id,code = .exit id∧Q (.exit id) ρ ds w))) (hp:∀ ch ds w,QPn ch ds w→QP ch ρ ds w) :
 den P N none (.rangeFunc g #[p,p2] asg body) Q QP ρ ds w:=by
 intro a ha hds
 subst hds
 obtain ⟨f,caps,n,Y,V0,Pre,FP,I,Ix,Ip,hfv,hcal,hseq,hPre,hV0,h0,hFP,hFPx,hL,hLx,hLp,hround,hend,hjump,hpan⟩:=h
 refine wpV_rangeFunc fun fn hfn=>?_
 obtain ⟨rec,hrec⟩:∃ rec:Loop,rec={ state := .ready,pending:=none,fn,tmps:=a.tmps,params := #[p,p2],assign:=asg,body,defers:=w.heap.size }:=⟨_,rfl⟩
 obtain ⟨W1,hW1⟩:∃ W1,(w.alloc (.deferred (some []))).alloc (.loop rec)=W1:=⟨_,rfl⟩
 have hE1:Ext w W1:=by rw [← hW1];exact ((Ext.refl w).alloc _).alloc _
 have hW1s:W1.heap.size=w.heap.size+1+1:=by rw [← hW1];simp
 have hL1:W1.heap[w.heap.size+1]?=some (.loop rec):=by
  rw [← hW1];have:=World.alloc_heap_new (w.alloc (.deferred (some []))) (.loop rec);rwa [World.size_alloc] at this
 have hK1:MarkAt w.heap.size W1:=by
  rw [← hW1];exact MarkAt.alloc (World.alloc_heap_new w _) _
 have hev:a.eval g=fv:=by rw [ha.eval];exact hg
 refine ⟨w.heap.size+1,[mark w.heap.size],W1,{ target := .fn (.func f) caps,args := #[.func (.yield (w.heap.size+1)) #[] #[]] },W1,f,#[.func (.yield (w.heap.size+1)) #[] #[]]++caps,W1,?_,?_,?_,?_⟩
 · rw [← hW1,hrec];exact run_enterLoop_outer _ _ _ _ _
 · simp only [resolve,hev,hfv]
   simp [go_sem]
 · simp only [invoke]
   exact callFunc_run hcal _ _
 · refine Calls.mono (hseq (.func (.yield (w.heap.size+1)) #[] #[]) (fun j V w'=>I j (plusB V w.heap.size) w'∧((¬ V w.heap.size∧w'.heap[w.heap.size]?=some (.deferred (some [])))∧(¬ V (w.heap.size+1)∧w'.heap[w.heap.size+1]?=some (.loop { rec with state := .ready,pending:=none }))))
    (fun V w'=>(¬ V w.heap.size∧w'.heap[w.heap.size]?=some (.deferred (some [])))∧∃ c code,Ix c (plusB V w.heap.size) w'∧(js[c]?=some code∧(¬ V (w.heap.size+1)∧w'.heap[w.heap.size+1]?=some (.loop { rec with state := .done,pending:=some code }))))
    (fun ch V w'=>(¬ V w.heap.size∧w'.heap[w.heap.size]?=some (.deferred (some [])))∧Ip ch (plusB V w.heap.size) w') W1 rfl (hPre _ hE1) (fun j V w' hj=>hFP j _ w' hj.1) (fun V w' hj=>by obtain ⟨_,c,_,hx,_⟩:=hj;exact hFPx c _ w' hx) (fun j=>(plus_lasts (hL j) _).and (Lasts7.has.and Lasts7.has))
    (Lasts7.has.and (.ex fun c => .ex fun code=>(plus_lasts (hLx c) _).and ((Lasts7.const _).and Lasts7.has))) (fun ch=>Lasts7.has.and (plus_lasts (hLp ch) _)) ?_ ⟨hL 0 _ _ _ _ (.more hE1 fun b hb=>hb.imp id (fun h=>by omega)) h0,⟨fun hv=>by have:=hV0 _ hv;omega,hK1⟩,fun hv=>by have:=hV0 _ hv;omega,by rw [hL1,hrec]⟩) ?_
   · rintro j hj x y V w' hY hVn Rk hF ⟨hi,⟨hnB,hm⟩,hnB1,hl⟩ hR
     have hlt:w.heap.size+1 < w'.heap.size:=(Array.getElem?_eq_some_iff.1 hl).1
     have hy:=run_yield (P:=P) (args := #[x,y]) hl (by rw [hrec];rfl)
     show onNext P _ _ _ _
     have hcs:callS (.func (.yield (w.heap.size+1)) #[] #[]) #[x,y]=Instr.yield (w.heap.size+1) #[x,y]:=by
      simp [callS,Deferred.ofValue,invoke,go_sem,bind,pure,Sem.bind]
     rw [hcs,hy]
     have key:∀ R,wpV (some (w.heap.size+1)) P asg (Exit.then (fun a₁ w₁=>∃ w₂,(Instr.beginRound (w.heap.size+1)).run P w₁ = .ok () w₂∧wpV (some (w.heap.size+1)) P body (endV P (w.heap.size+1) R) a₁ w₂) (fun _ _ _=>False)) { tmps:=((#[p,p2].zip #[x,y]).foldl (fun tmps (t,a)=>tmps.setIfInBounds t a) a.tmps),defers:=[] } w' →
      RoundV P (w.heap.size+1) rec.fn ((rec.params.zip #[x,y]).foldl (fun tmps (t,a)=>tmps.setIfInBounds t a) rec.tmps) rec.assign rec.body w' R:=by
      intro R h;rw [hrec];exact roundV_of_wpV hfn h
     refine key _ ?_
     have hb:=hbody _ _ _ _ _ _ _ (hround _ V ((RecAt.firm7 rec _ w.heap.size).and (hF.sub fun b hb => .inl hb)) (by rw [hW1s] at hVn;exact hVn) j x y w' hj (by rw [hW1s] at hY;exact hY) hi ⟨⟨hm,_,_,hl⟩,hR⟩ hlt ⟨_,hl,rfl⟩)
     have hagr:Agrees N ({ tmps:=((#[p,p2].zip #[x,y]).foldl (fun tmps (t,a)=>tmps.setIfInBounds t a) a.tmps),defers:=[] }:Act) (put N (put N ρ (some p) x) (some p2) y):=by
      have:=((Agrees.defers ha []).put (some p) x).put (some p2) y
      simpa [Act.put] using this
     refine wpV_mono (den_sound asg _ _ _ _ _ hagr hb) ?_
     intro e a1 w1 hl1
     cases e with
     | panic ch=>obtain ⟨_,_,hf⟩:=hl1;exact hf.elim
     | outgrown=>exact hl1
     | exit id=>obtain ⟨_,_,_,hf⟩:=hl1;exact hf.elim
     | goto l=>obtain ⟨_,_,_,hf⟩:=hl1;exact hf.elim
     | ret=>obtain ⟨_,_,_,hf⟩:=hl1;exact hf.elim
     | normal =>
      obtain ⟨ρ1,ha1,_,hd1,hbz⟩:=hl1
      obtain ⟨⟨r,hr1,hr2⟩,hbz⟩:=hbz
      refine ⟨_,run_beginRound hr1 hr2,?_⟩
      rw [show a1={ a1 with defers:=[] } by rw [← hd1]]
      refine wpV_mono (den_sound body _ _ _ _ _ (Agrees.defers ha1 []) (hbz _ ⟨_,hr1,rfl⟩)) ?_
      have fin:∀ (jump:Option Code) (w2:World),RecAt rec w.heap.size w2→(Instr.endRound (w.heap.size+1) jump).run P w2 = .ok (.bool jump.isNone) (w2.putObj (w.heap.size+1) (.loop { rec with state:=if jump.isNone then .ready else .done,pending:=jump })) ∧
       (w2.putObj (w.heap.size+1) (.loop { rec with state:=if jump.isNone then .ready else .done,pending:=jump })).heap[w.heap.size+1]?=some (.loop { rec with state:=if jump.isNone then .ready else .done,pending:=jump }) ∧
       MarkAt w.heap.size (w2.putObj (w.heap.size+1) (.loop { rec with state:=if jump.isNone then .ready else .done,pending:=jump })):=by
       rintro jump w2 ⟨hm2,st,q,hq⟩
       refine ⟨by have:=run_endRound (P:=P) jump hq;exact this,World.putObj_heap_same (Array.getElem?_eq_some_iff.1 hq).1,?_⟩
       unfold MarkAt
       rw [World.putObj_heap_other (by omega)];exact hm2
      intro e a2 w2 hl2
      cases e with
      | normal =>
       obtain ⟨_,_,_,_,⟨hrec2,hR2⟩,hi2⟩:=hl2
       obtain ⟨f1,f2,f3⟩:=fin none w2 hrec2
       obtain ⟨_,st,q,hq⟩:=hrec2
       exact ⟨_,_,f1,hF _ _ (KR7.turn hq _ _) hR2,.inl ⟨rfl,(hL _).put (.inr (.inr rfl)) hi2 _,⟨hnB,f3⟩,hnB1,f2⟩⟩
      | ret =>
       obtain ⟨_,_,_,_,c,hc,⟨hrec2,hR2⟩,hi2⟩:=hl2
       obtain ⟨f1,f2,f3⟩:=fin (some .ret) w2 hrec2
       obtain ⟨_,st,q,hq⟩:=hrec2
       exact ⟨_,_,f1,hF _ _ (KR7.turn hq _ _) hR2,.inr ⟨rfl,⟨hnB,f3⟩,c,_,(hLx _).put (.inr (.inr rfl)) hi2 _,hc,hnB1,f2⟩⟩
      | exit id =>
       obtain ⟨_,_,_,_,c,hc,⟨hrec2,hR2⟩,hi2⟩:=hl2
       obtain ⟨f1,f2,f3⟩:=fin (some (.exit id)) w2 hrec2
       obtain ⟨_,st,q,hq⟩:=hrec2
       exact ⟨_,_,f1,hF _ _ (KR7.turn hq _ _) hR2,.inr ⟨rfl,⟨hnB,f3⟩,c,_,(hLx _).put (.inr (.inr rfl)) hi2 _,hc,hnB1,f2⟩⟩
      | panic ch =>
       obtain ⟨_,_,hd2,⟨hrec2,hR2⟩,hi2⟩:=hl2
       exact ⟨hd2,hR2,⟨hnB,hrec2.1⟩,hi2⟩
      | goto l=>obtain ⟨_,_,_,hf⟩:=hl2;exact hf.elim
      | outgrown=>exact hl2
   · have hagr:Agrees N ({ a with defers:=[mark w.heap.size]++a.defers }:Act) ρ:=ha
     have exh:∀ (st:LoopState) (q:Option Code) (w':World),w'.heap[w.heap.size+1]?=some (.loop { rec with state:=st,pending:=q })→st ≠ .busy→MarkAt w.heap.size w' →
      (Instr.endLoop (w.heap.size+1)).run P w' = .ok q (w'.putObj (w.heap.size+1) (.loop { rec with state := .exhausted,pending:=q }))∧MarkAt w.heap.size (w'.putObj (w.heap.size+1) (.loop { rec with state := .exhausted,pending:=q })):=by
      intro st q w' hq hne hm
      refine ⟨by have:=run_endLoop (P:=P) hq hne;exact this,?_⟩
      unfold MarkAt
      rw [World.putObj_heap_other (by omega)];exact hm
     rintro e w' he
     cases e with
     | returned v =>
      rcases he with ⟨V,⟨hi,⟨_,hm⟩,_,hl⟩ | ⟨⟨_,hm⟩,c,code,hi,hc,_,hl⟩⟩
      · obtain ⟨e1,e2⟩:=exh _ _ w' hl (by simp) hm
        exact ⟨none,_,e1,hagr,hk _ _ (hend _ _ ((hL _).put (.inr (.inr rfl)) hi _) e2)⟩
      · obtain ⟨e1,e2⟩:=exh _ _ w' hl (by simp) hm
        refine ⟨some code,_,e1,?_⟩
        obtain ⟨code',hc',hden⟩:=hx c _ _ (hjump c _ _ ((hLx _).put (.inr (.inr rfl)) hi _) e2)
        rw [hc] at hc';cases hc'
        rcases hden with ⟨rfl,hq⟩ | ⟨id,rfl,hq⟩
        · exact wpV_ret ⟨hagr,hq⟩
        · exact wpV_exit ⟨hagr,hq⟩
     | panicked ch=>obtain ⟨V,⟨_,hm⟩,hi⟩:=he;exact ⟨hagr,hp _ _ _ (hpan ch _ _ hi hm)⟩
     | outgrown=>exact he.elim
end
end Go.Sw
namespace Go.Proofs.YtcffhmapmaahnaaGreatDoor
open Sw
def n11c1 (t0 t6 t69 t76:Value) (Kr9:World→Prop) (Qr9:List PanicEntry→World→Prop) (Xr9:Nat→World→Prop) (R:RT) (w:World):Prop :=
 pickK t69 (.bool true) t76 fun t77 =>
 condP t77 (
 opU Pg (Instr.storeAt 4 t0 (.bool false)) Qr9 w fun w =>
 Xr9 0 w) (
 opV Pg (Instr.loadAt 3 t6) Qr9 w fun t78 w =>
 opV Pg (binS .add 3 true t78 (.int .i64 1)) Qr9 w fun t79 w =>
 opU Pg (Instr.storeAt 3 t6 t79) Qr9 w fun w =>
 Kr9 w)
def n11c2 (t0 t5 t6 t64:Value) (Kr9:World→Prop) (Qr9:List PanicEntry→World→Prop) (Xr9:Nat→World→Prop) (R:RT) (w:World):Prop :=
 opV Pg (Instr.loadAt 3 t6) Qr9 w fun t66 w =>
 opV Pg (Instr.loadAt 65 t5) Qr9 w fun t67 w =>
 opV Pg (Builtin.len_ #[65] 3 #[t67]) Qr9 w fun t68 w =>
 opV Pg (binS .geq 3 false t66 t68) Qr9 w fun t69 w =>
 joinK (fun (t76:Value) (w:World) =>
 n11c1 t0 t6 t69 t76 Kr9 Qr9 Xr9 R w) fun K10 =>
 guardP t69 false (
 opV Pg (Instr.loadAt 65 t5) Qr9 w fun t72 w =>
 opV Pg (Instr.loadAt 3 t6) Qr9 w fun t73 w =>
 opV Pg (Instr.indexAt 65 t72 t73) Qr9 w fun t74 w =>
 opV Pg (Instr.loadAt 9 t74) Qr9 w fun t75 w =>
 opV Pg (binS .neq 9 false t64 t75) Qr9 w fun t76 w =>
 K10 t76 w) (
 K10 undef w)
def n11c3 (t0 t99 t101:Value) (ds:List Deferred) (R:RT) (w:World):Prop :=
 pickK t99 t101 (.bool false) fun t102 =>
 joinK (fun (t104:Value) (w:World) =>
 pickK t102 t104 (.bool false) fun t105 =>
 opU Pg (Instr.storeAt 4 t0 t105) (outQ Pg ds [(some 4,t0)] R) w fun w =>
 outX Pg ds [(some 4,t0)] R w) fun K17 =>
 guardP t102 true (
 callK Pg 36 #[(.string { data := #[97,40,98,32,32,99,41] })] (outQ Pg ds [(some 4,t0)] R) w fun t104 w =>
 K17 t104 w) (
 K17 undef w)
def n11c4 (t0 t96 t98:Value) (ds:List Deferred) (R:RT) (w:World):Prop :=
 pickK t96 t98 (.bool false) fun t99 =>
 joinK (fun (t101:Value) (w:World) =>
 n11c3 t0 t99 t101 ds R w) fun K16 =>
 guardP t99 true (
 callK Pg 36 #[(.string { data := #[97,35,48,65] })] (outQ Pg ds [(some 4,t0)] R) w fun t101 w =>
 K16 t101 w) (
 K16 undef w)
def n11c5 (t0 t93 t95:Value) (ds:List Deferred) (R:RT) (w:World):Prop :=
 pickK t93 t95 (.bool false) fun t96 =>
 joinK (fun (t98:Value) (w:World) =>
 n11c4 t0 t96 t98 ds R w) fun K15 =>
 guardP t96 true (
 callK Pg 36 #[(.string { data := #[97,61,48] })] (outQ Pg ds [(some 4,t0)] R) w fun t98 w =>
 K15 t98 w) (
 K15 undef w)
def n11c6 (t0 t90 t92:Value) (ds:List Deferred) (R:RT) (w:World):Prop :=
 pickK t90 t92 (.bool false) fun t93 =>
 joinK (fun (t95:Value) (w:World) =>
 n11c5 t0 t93 t95 ds R w) fun K14 =>
 guardP t93 true (
 callK Pg 35 #[(.string { data := #[97,40,98,41] }),(.string { data := #[97,40,98,32,98,41] })] (outQ Pg ds [(some 4,t0)] R) w fun t95 w =>
 K14 t95 w) (
 K14 undef w)
def n11c7 (t0 t87 t89:Value) (ds:List Deferred) (R:RT) (w:World):Prop :=
 pickK t87 t89 (.bool false) fun t90 =>
 joinK (fun (t92:Value) (w:World) =>
 n11c6 t0 t90 t92 ds R w) fun K13 =>
 guardP t90 true (
 callK Pg 35 #[(.string { data := #[97,35,48,48] }),(.string { data := #[97,61,49] })] (outQ Pg ds [(some 4,t0)] R) w fun t92 w =>
 K13 t92 w) (
 K13 undef w)
def n11c8 (t0 t83 t86:Value) (ds:List Deferred) (R:RT) (w:World):Prop :=
 pickK t83 t86 (.bool false) fun t87 =>
 joinK (fun (t89:Value) (w:World) =>
 n11c7 t0 t87 t89 ds R w) fun K12 =>
 guardP t87 true (
 callK Pg 35 #[(.string { data := #[97] }),(.string { data := #[97,61,49] })] (outQ Pg ds [(some 4,t0)] R) w fun t89 w =>
 K12 t89 w) (
 K12 undef w)
def n11c9 (t0 t85:Value) (K11:KV) (ds:List Deferred) (R:RT) (w:World):Prop :=
 opV Pg (binS .eql 9 true t85 (.string { data := #[109,40,97,61,53,32,108,40,121,32,120,41,32,104,91,52,49,58,54,50,54,51,93,41] })) (outQ Pg ds [(some 4,t0)] R) w fun t86 w =>
 K11 t86 w
def n11c10 (t0 t5 t6:Value) (ds:List Deferred) (R:RT) (w:World):Prop :=
 opV Pg (Instr.loadAt 3 t6) (outQ Pg ds [(some 4,t0)] R) w fun t80 w =>
 opV Pg (Instr.loadAt 65 t5) (outQ Pg ds [(some 4,t0)] R) w fun t81 w =>
 opV Pg (Builtin.len_ #[65] 3 #[t81]) (outQ Pg ds [(some 4,t0)] R) w fun t82 w =>
 opV Pg (binS .eql 3 false t80 t82) (outQ Pg ds [(some 4,t0)] R) w fun t83 w =>
 joinK (fun (t86:Value) (w:World) =>
 n11c8 t0 t83 t86 ds R w) fun K11 =>
 guardP t83 true (
 callK Pg 34 #[(.string { data := #[109,40,97,61,53,32,108,40,120,35,48,97,32,120,41,32,104,91,52,49,58,54,50,54,51,93,41] }),(.string { data := #[108,46,120] }),(.string { data := #[121] })] (outQ Pg ds [(some 4,t0)] R) w fun t85 w =>
 n11c9 t0 t85 K11 ds R w) (
 K11 undef w)
def n11c11 (t0 t5 t6 t60:Value) (ds:List Deferred) (R:RT) (w:World):Prop :=
 Sw.rangeN7 Pg t60 ds (fun l9 t64 t65 w Kr9 Xr9 Qr9 =>
 busyK l9 w fun w =>
 n11c2 t0 t5 t6 t64 Kr9 Qr9 Xr9 R w) (fun ch ds w=>outQ Pg ds [(some 4,t0)] R ch w) w (fun ds w =>
 n11c10 t0 t5 t6 ds R w) [fun ds w =>
 outX Pg ds [(some 4,t0)] R w]
def n11c12 (t0 t5 t6 t60:Value) (ds:List Deferred) (R:RT) (w:World):Prop :=
 opV Pg (binS .eql 43 true t60 .nilFunc) (outQ Pg ds [(some 4,t0)] R) w fun t62 w =>
 condP t62 (
 opU Pg (Instr.storeAt 4 t0 (.bool false)) (outQ Pg ds [(some 4,t0)] R) w fun w =>
 outX Pg ds [(some 4,t0)] R w) (
 n11c11 t0 t5 t6 t60 ds R w)
def n11c13 (t0 t1:Value) (ds:List Deferred) (R:RT) (w:World):Prop :=
 opV Pg (Instr.buildSlice 65 6 #[(0,(.string { data := #[] })),(1,(.string { data := #[97] })),(2,(.string { data := #[108] })),(3,(.string { data := #[108,46,120] })),(4,(.string { data := #[108,46,120,58,49] })),(5,(.string { data := #[104] }))]) (outQ Pg ds [(some 4,t0)] R) w fun t58 w =>
 opV Pg (Instr.alloc 65 true (.tuple #[])) (outQ Pg ds [(some 4,t0)] R) w fun t5 w =>
 opU Pg (Instr.storeAt 65 t5 t58) (outQ Pg ds [(some 4,t0)] R) w fun w =>
 opV Pg (Instr.alloc 3 true (.tuple #[])) (outQ Pg ds [(some 4,t0)] R) w fun t6 w =>
 opU Pg (Instr.storeAt 3 t6 (.int .i64 0)) (outQ Pg ds [(some 4,t0)] R) w fun w =>
 opV Pg (Instr.loadAt 26 t1) (outQ Pg ds [(some 4,t0)] R) w fun t59 w =>
 callK Pg 22 #[t59] (outQ Pg ds [(some 4,t0)] R) w fun t60 w =>
 n11c12 t0 t5 t6 t60 ds R w
def n11c14 (t0 t1 t52 t56:Value) (ds:List Deferred) (R:RT) (w:World):Prop :=
 pickK t52 (.bool true) t56 fun t57 =>
 condP t57 (
 opU Pg (Instr.storeAt 4 t0 (.bool false)) (outQ Pg ds [(some 4,t0)] R) w fun w =>
 outX Pg ds [(some 4,t0)] R w) (
 n11c13 t0 t1 ds R w)
def n11c15 (t0 t1 t47 t51:Value) (ds:List Deferred) (R:RT) (w:World):Prop :=
 pickK t47 (.bool true) t51 fun t52 =>
 joinK (fun (t56:Value) (w:World) =>
 n11c14 t0 t1 t52 t56 ds R w) fun K8 =>
 guardP t52 false (
 opV Pg (Instr.loadAt 26 t1) (outQ Pg ds [(some 4,t0)] R) w fun t54 w =>
 callK Pg 33 #[t54,(.string { data := #[108,46,120,58,48] }),(.string { data := #[] }),(.int .i64 6)] (outQ Pg ds [(some 4,t0)] R) w fun t55 w =>
 opV Pg (Op.unary .not t55) (outQ Pg ds [(some 4,t0)] R) w fun t56 w =>
 K8 t56 w) (
 K8 undef w)
def n11c16 (t0 t1 t42 t46:Value) (ds:List Deferred) (R:RT) (w:World):Prop :=
 pickK t42 (.bool true) t46 fun t47 =>
 joinK (fun (t51:Value) (w:World) =>
 n11c15 t0 t1 t47 t51 ds R w) fun K7 =>
 guardP t47 false (
 opV Pg (Instr.loadAt 26 t1) (outQ Pg ds [(some 4,t0)] R) w fun t49 w =>
 callK Pg 33 #[t49,(.string { data := #[108,46,46,120] }),(.string { data := #[] }),(.int .i64 6)] (outQ Pg ds [(some 4,t0)] R) w fun t50 w =>
 opV Pg (Op.unary .not t50) (outQ Pg ds [(some 4,t0)] R) w fun t51 w =>
 K7 t51 w) (
 K7 undef w)
def n11c17 (t0 t1 t37 t41:Value) (ds:List Deferred) (R:RT) (w:World):Prop :=
 pickK t37 (.bool true) t41 fun t42 =>
 joinK (fun (t46:Value) (w:World) =>
 n11c16 t0 t1 t42 t46 ds R w) fun K6 =>
 guardP t42 false (
 opV Pg (Instr.loadAt 26 t1) (outQ Pg ds [(some 4,t0)] R) w fun t44 w =>
 callK Pg 33 #[t44,(.string { data := #[108,46,120,58,50] }),(.string { data := #[] }),(.int .i64 9)] (outQ Pg ds [(some 4,t0)] R) w fun t45 w =>
 opV Pg (Op.unary .not t45) (outQ Pg ds [(some 4,t0)] R) w fun t46 w =>
 K6 t46 w) (
 K6 undef w)
def n11c18 (t0 t1 t32 t36:Value) (ds:List Deferred) (R:RT) (w:World):Prop :=
 pickK t32 (.bool true) t36 fun t37 =>
 joinK (fun (t41:Value) (w:World) =>
 n11c17 t0 t1 t37 t41 ds R w) fun K5 =>
 guardP t37 false (
 opV Pg (Instr.loadAt 26 t1) (outQ Pg ds [(some 4,t0)] R) w fun t39 w =>
 callK Pg 33 #[t39,(.string { data := #[97] }),(.string { data := #[97,61,53] }),(.int .i64 0)] (outQ Pg ds [(some 4,t0)] R) w fun t40 w =>
 opV Pg (Op.unary .not t40) (outQ Pg ds [(some 4,t0)] R) w fun t41 w =>
 K5 t41 w) (
 K5 undef w)
def n11c19 (t0 t1 t27 t31:Value) (ds:List Deferred) (R:RT) (w:World):Prop :=
 pickK t27 (.bool true) t31 fun t32 =>
 joinK (fun (t36:Value) (w:World) =>
 n11c18 t0 t1 t32 t36 ds R w) fun K4 =>
 guardP t32 false (
 opV Pg (Instr.loadAt 26 t1) (outQ Pg ds [(some 4,t0)] R) w fun t34 w =>
 callK Pg 33 #[t34,(.string { data := #[108,46,120,58,49] }),(.string { data := #[120] }),(.int .i64 0)] (outQ Pg ds [(some 4,t0)] R) w fun t35 w =>
 opV Pg (Op.unary .not t35) (outQ Pg ds [(some 4,t0)] R) w fun t36 w =>
 K4 t36 w) (
 K4 undef w)
def n11c20 (t0 t1 t23 t26:Value) (ds:List Deferred) (R:RT) (w:World):Prop :=
 pickK t23 (.bool true) t26 fun t27 =>
 joinK (fun (t31:Value) (w:World) =>
 n11c19 t0 t1 t27 t31 ds R w) fun K3 =>
 guardP t27 false (
 opV Pg (Instr.loadAt 26 t1) (outQ Pg ds [(some 4,t0)] R) w fun t29 w =>
 callK Pg 28 #[t29] (outQ Pg ds [(some 4,t0)] R) w fun t30 w =>
 opV Pg (binS .neq 3 true t30 (.int .i64 6)) (outQ Pg ds [(some 4,t0)] R) w fun t31 w =>
 K3 t31 w) (
 K3 undef w)
def n11c21 (t0 t1 t16 t19 t22:Value) (ds:List Deferred) (R:RT) (w:World):Prop :=
 pickK t19 (.bool true) t22 fun t23 =>
 joinK (fun (t26:Value) (w:World) =>
 n11c20 t0 t1 t23 t26 ds R w) fun K2 =>
 guardP t23 false (
 opV Pg (binS .neq 9 true t16 (.string { data := #[109,40,97,61,53,32,108,40,120,35,48,97,32,120,41,32,104,91,52,49,58,54,50,54,51,93,41] })) (outQ Pg ds [(some 4,t0)] R) w fun t26 w =>
 K2 t26 w) (
 K2 undef w)
def n11c22 (t0 t1 t12 t15:Value) (ds:List Deferred) (R:RT) (w:World):Prop :=
 opV Pg (Instr.extract t15 0) (outQ Pg ds [(some 4,t0)] R) w fun t16 w =>
 opV Pg (Instr.extract t15 1) (outQ Pg ds [(some 4,t0)] R) w fun t17 w =>
 opV Pg (binS .neq 33 true t12 (.int .i64 0)) (outQ Pg ds [(some 4,t0)] R) w fun t19 w =>
 joinK (fun (t22:Value) (w:World) =>
 n11c21 t0 t1 t16 t19 t22 ds R w) fun K1 =>
 guardP t19 false (
 opV Pg (binS .neq 33 true t17 (.int .i64 0)) (outQ Pg ds [(some 4,t0)] R) w fun t22 w =>
 K1 t22 w) (
 K1 undef w)
def n11c23 (t0 t10:Value) (ds:List Deferred) (R:RT) (w:World):Prop :=
 opV Pg (Instr.extract t10 0) (outQ Pg ds [(some 4,t0)] R) w fun t11 w =>
 opV Pg (Instr.extract t10 1) (outQ Pg ds [(some 4,t0)] R) w fun t12 w =>
 opV Pg (Instr.alloc 26 true (.tuple #[])) (outQ Pg ds [(some 4,t0)] R) w fun t1 w =>
 opU Pg (Instr.storeAt 26 t1 t11) (outQ Pg ds [(some 4,t0)] R) w fun w =>
 opV Pg (Instr.loadAt 26 t1) (outQ Pg ds [(some 4,t0)] R) w fun t14 w =>
 callK Pg 26 #[t14] (outQ Pg ds [(some 4,t0)] R) w fun t15 w =>
 n11c22 t0 t1 t12 t15 ds R w
def n11 (R:RT) (w:World):Prop :=
 (fun (ds:List Deferred) =>
 opV Pg (Instr.alloc 4 true (.tuple #[])) (outQ Pg ds [(some 4,undef)] R) w fun t0 w =>
 callK Pg 18 #[(.string { data := #[109,40,97,61,53,32,108,40,120,35,48,97,32,120,41,32,104,91,52,49,58,54,50,54,51,93,41] })] (outQ Pg ds [(some 4,t0)] R) w fun t10 w =>
 n11c23 t0 t10 ds R w) []
set_option maxHeartbeats 40000000 in
theorem n11s {R:RT} {w:World} (h:n11 R w):Calls Pg 11 #[] w R:=by
 refine yE Tryz.func11 ?_
 unfold n11 at h
 dsimp only at h
 refine zs<|zr<|yv h fun _ w h=>zn<|zk<|zs<|zr<|yc h c18 fun _ w h=>zm<|yv h fun _ w h=>yv h fun _ w h=>yv h fun _ w h=>yu h fun w h=>zm<|zn ?_
 refine zk<|zs<|zr<|yv h fun _ w h=>yc h c26 fun _ w h=>zm<|yv h fun _ w h=>yv h fun _ w h=>zm<|zm<|zn<|zk<|zs<|zs<|sim_regionG ?_
 refine yG 3<|zm<|yb h fun _ w h=>zm<|zn<|yg1 2 2 false [21,22] 22 h (fun _ T hT h=>?_) fun σ w h=>?_
 · refine zm<|yb h fun _ w h=>zn ?_
   exact zt hT h
 refine yG 2<|yp h fun _ h=>zm<|zn<|yg1 2 6 false [25,26] 26 h (fun _ T hT h=>?_) fun σ w h=>?_
 · refine zm<|yb h fun _ w h=>zn ?_
   exact zt hT h
 refine yG 2<|yp h fun _ h=>zm<|zn<|yg1 3 10 false [29,30,31] 31 h (fun _ T hT h=>?_) fun σ w h=>?_
 · refine yv h fun _ w h=>yc h c28 fun _ w h=>yb h fun _ w h=>zn ?_
   exact zt hT h
 refine yG 2<|yp h fun _ h=>zm<|zn<|yg1 3 15 false [34,35,36] 36 h (fun _ T hT h=>?_) fun σ w h=>?_
 · refine yv h fun _ w h=>yc h c33 fun _ w h=>yv h fun _ w h=>zn ?_
   exact zt hT h
 refine yG 2<|yp h fun _ h=>zm<|zn<|yg1 3 20 false [39,40,41] 41 h (fun _ T hT h=>?_) fun σ w h=>?_
 · refine yv h fun _ w h=>yc h c33 fun _ w h=>yv h fun _ w h=>zn ?_
   exact zt hT h
 refine yG 2<|yp h fun _ h=>zm<|zn<|yg1 3 25 false [44,45,46] 46 h (fun _ T hT h=>?_) fun σ w h=>?_
 · refine yv h fun _ w h=>yc h c33 fun _ w h=>yv h fun _ w h=>zn ?_
   exact zt hT h
 refine yG 2<|yp h fun _ h=>zm<|zn<|yg1 3 30 false [49,50,51] 51 h (fun _ T hT h=>?_) fun σ w h=>?_
 · refine yv h fun _ w h=>yc h c33 fun _ w h=>yv h fun _ w h=>zn ?_
   exact zt hT h
 refine yG 2<|yp h fun _ h=>zm<|zn<|yg1 3 35 false [54,55,56] 56 h (fun _ T hT h=>?_) fun σ w h=>?_
 · refine yv h fun _ w h=>yc h c33 fun _ w h=>yv h fun _ w h=>zn ?_
   exact zt hT h
 refine yG 1<|yp h fun _ h=>zn<|sim_end<|zk<|yC h (fun h=>zs<|zr<|yu h fun w h=>zn<|zk<|sim_ret<|sim_then_ret<|bodyM_ret rfl h) fun h=>sim_skip<|zk<|zs<|zr<|yS h fun _ w h=>yv h fun _ w h=>yu h fun w h=>zn ?_
 refine zk<|zs<|zr<|yv h fun _ w h=>yu h fun w h=>zn<|zk<|zs<|zr<|yv h fun _ w h=>yc h c22 fun _ w h=>zm<|zn<|zk<|zs ?_
 refine zs<|zr<|zm<|yb h fun _ w h=>zn<|zk<|yC h (fun h=>zs<|zr<|yu h fun w h=>zn<|zk<|sim_ret<|sim_then_ret<|bodyM_ret rfl h) fun h=>sim_skip<|zk<|zs<|zs<|zr<|zm<|zn ?_
 refine zk<|sim_block<|sim_range7 [.ret] h rfl (fun l9 t64 t65 w Kr9 Xr9 Qr9 h=>?_) (fun ds w h=>?_) (fun c ds w h=>?_) (fun ch ds w h=>outQ_of rfl h)
 · refine zr<|zm<|zn<|zk ?_
   obtain ⟨hr,h⟩:=h
   refine ⟨rfl,hr,fun w hb=>?_⟩
   have h:=h w hb
   refine sim_block<|zs<|zs<|sim_regionG<|yG 5<|yv h fun _ w h=>yv h fun _ w h=>yx h fun _ w h=>yb h fun _ w h=>zm<|zn<|yg1 6 4 false [71,72,73,74,75,76] 76 h (fun _ T hT h=>?_) fun σ w h=>?_
   · refine zm<|yv h fun _ w h=>yv h fun _ w h=>yv h fun _ w h=>yv h fun _ w h=>yb h fun _ w h=>zn ?_
     exact zt hT h
   refine yG 1<|yp h fun _ h=>zn<|sim_end<|zk<|yC h (fun h=>zs<|zr<|yu h fun w h=>zn<|zk<|sim_ret<|sim_then_ret<|sim_block_ret<|⟨rfl,0,rfl,h⟩) fun h=>sim_skip<|zk<|zr<|yv h fun _ w h=>yb h fun _ w h=>yu h fun w h=>zn<|sim_block_normal ?_
   exact ⟨rfl,h⟩
 · refine sim_block_normal<|zk<|zs<|sim_regionG<|yG 5<|yv h fun _ w h=>yv h fun _ w h=>yx h fun _ w h=>yb h fun _ w h=>zm<|zn<|yg1 2 4 true [85,86] 86 h (fun _ T hT h=>?_) fun σ w h=>?_
   · refine yc h c34 fun _ w h=>yb h fun _ w h=>zn ?_
     exact zt hT h
   refine yG 2<|yp h fun _ h=>zm<|zn<|yg1 1 8 true [89] 89 h (fun _ T hT h=>?_) fun σ w h=>?_
   · refine yc h c35 fun _ w h=>zn ?_
     exact zt hT h
   refine yG 2<|yp h fun _ h=>zm<|zn<|yg1 1 11 true [92] 92 h (fun _ T hT h=>?_) fun σ w h=>?_
   · refine yc h c35 fun _ w h=>zn ?_
     exact zt hT h
   refine yG 2<|yp h fun _ h=>zm<|zn<|yg1 1 14 true [95] 95 h (fun _ T hT h=>?_) fun σ w h=>?_
   · refine yc h c35 fun _ w h=>zn ?_
     exact zt hT h
   refine yG 2<|yp h fun _ h=>zm<|zn<|yg1 1 17 true [98] 98 h (fun _ T hT h=>?_) fun σ w h=>?_
   · refine yc h c36 fun _ w h=>zn ?_
     exact zt hT h
   refine yG 2<|yp h fun _ h=>zm<|zn<|yg1 1 20 true [101] 101 h (fun _ T hT h=>?_) fun σ w h=>?_
   · refine yc h c36 fun _ w h=>zn ?_
     exact zt hT h
   refine yG 2<|yp h fun _ h=>zm<|zn<|yg1 1 23 true [104] 104 h (fun _ T hT h=>?_) fun σ w h=>?_
   · refine yc h c36 fun _ w h=>zn ?_
     exact zt hT h
   exact yG 2<|yp h fun _ h=>yu h fun w h=>zn<|sim_end<|zk<|sim_ret<|bodyM_ret rfl h
 rcases c with _ | c
 · refine ⟨_,rfl,.inl ⟨rfl,?_⟩⟩
   exact sim_block_ret<|sim_then_ret<|bodyM_ret rfl h
 exact h.elim
def n39 (t0 t1:Value) (R:RT) (w:World):Prop :=
 opV Pg (Instr.box 26 t0) (panK R) w fun t2 w =>
 opV Pg (Instr.box 26 t1) (panK R) w fun t3 w =>
 opV Pg (Instr.loadAt 26 t2) (panK R) w fun t5 w =>
 opV Pg (Instr.loadAt 26 t3) (panK R) w fun t6 w =>
 callK Pg 14 #[t5,t6] (panK R) w fun t7 w =>
 opV Pg (binS .eql 3 true t7 (.int .i64 0)) (panK R) w fun t8 w =>
 R (.returned t8) w
theorem n39s {t0 t1:Value} {R:RT} {w:World} (h:n39 t0 t1 R w):Calls Pg 12 #[t0,t1] w R:=by
 refine yD Tryz.func12 ?_
 refine zs<|zr<|yv h fun _ w h=>yv h fun _ w h=>zm<|zn<|zk<|zs<|zr<|yv h fun _ w h=>yv h fun _ w h=>yc h c14 fun _ w h=>yb h fun _ w h=>zm<|zn ?_
 exact zk<|sim_ret<|body_ret1 rfl rfl h
def n37c1 (t2 t3:Value) (R:RT) (w:World):Prop :=
 opV Pg (Instr.fieldAt 26 t2 4) (panK R) w fun t31 w =>
 opV Pg (Instr.loadAt 24 t31) (panK R) w fun t32 w =>
 opV Pg (Instr.fieldAt 26 t3 4) (panK R) w fun t33 w =>
 opV Pg (Instr.loadAt 24 t33) (panK R) w fun t34 w =>
 callK Pg 43 #[t32,t34,(.func (.func 14) #[] #[])] (panK R) w fun t35 w =>
 R (.returned t35) w
def n37c2 (t2 t3 t26:Value) (C1:World→Prop) (R:RT) (w:World):Prop :=
 callK Pg 37 #[t26] (panK R) w fun t27 w =>
 C1 w∧(
 opV Pg (binS .neq 3 true t27 (.int .i64 0)) (panK R) w fun t29 w =>
 condP t29 (
 R (.returned t27) w) (
 n37c1 t2 t3 R w))
def n37c3 (t2 t3 t10 t15 t20 t22 t24:Value) (C1:World→Prop) (R:RT) (w:World):Prop :=
 callK Pg 41 #[t22,t24,(.func (.func 42) #[] #[])] (panK R) w fun t25 w =>
 C1 w∧(
 opV Pg (Instr.buildSlice 107 4 #[(0,t10),(1,t15),(2,t20),(3,t25)]) (panK R) w fun t26 w =>
 C1 w∧(
 n37c2 t2 t3 t26 C1 R w))
def n37c4 (t2 t3 t10 t12 t14 t17 t19 t22 t24:Value) (C1:World→Prop) (R:RT) (w:World):Prop :=
 C1 w∧(
 callK Pg 39 #[t12,t14] (panK R) w fun t15 w =>
 C1 w∧(
 callK Pg 40 #[t17,t19] (panK R) w fun t20 w =>
 C1 w∧(
 n37c3 t2 t3 t10 t15 t20 t22 t24 C1 R w)))
def n37c5 (t2 t3:Value) (C1:World→Prop) (R:RT) (w:World):Prop :=
 qV Pg C1 (Instr.fieldAt 26 t2 0) fun t6 =>
 qV Pg C1 (Instr.loadAt 9 t6) fun t7 =>
 qV Pg C1 (Instr.fieldAt 26 t3 0) fun t8 =>
 qV Pg C1 (Instr.loadAt 9 t8) fun t9 =>
 qV Pg C1 (Instr.fieldAt 26 t2 1) fun t11 =>
 qV Pg C1 (Instr.loadAt 3 t11) fun t12 =>
 qV Pg C1 (Instr.fieldAt 26 t3 1) fun t13 =>
 qV Pg C1 (Instr.loadAt 3 t13) fun t14 =>
 qV Pg C1 (Instr.fieldAt 26 t2 2) fun t16 =>
 qV Pg C1 (Instr.loadAt 22 t16) fun t17 =>
 qV Pg C1 (Instr.fieldAt 26 t3 2) fun t18 =>
 qV Pg C1 (Instr.loadAt 22 t18) fun t19 =>
 qV Pg C1 (Instr.fieldAt 26 t2 3) fun t21 =>
 qV Pg C1 (Instr.loadAt 23 t21) fun t22 =>
 qV Pg C1 (Instr.fieldAt 26 t3 3) fun t23 =>
 qV Pg C1 (Instr.loadAt 23 t23) fun t24 =>
 callK Pg 38 #[t7,t9] (panK R) w fun t10 w =>
 n37c4 t2 t3 t10 t12 t14 t17 t19 t22 t24 C1 R w
def n37 (t0 t1:Value) (R:RT) (w:World):Prop :=
 opV Pg (Instr.box 26 t0) (panK R) w fun t2 w =>
 opV Pg (Instr.box 26 t1) (panK R) w fun t3 w =>
 drawK w fun C1 w =>
 n37c5 t2 t3 C1 R w
theorem n37s {t0 t1:Value} {R:RT} {w:World} (h:n37 t0 t1 R w):Calls Pg 14 #[t0,t1] w R:=by
 refine yD Tryz.func14 ?_
 refine zs<|zr<|yv h fun _ w h=>yv h fun _ w h=>zm<|zn<|zk<|zs<|yh [5,6,7,8,9,10,11,12,13,14,15,16,17,18,19,20,21,22,23,24,25,26,27] h fun C hC h=>ye 0 hC h fun _ h=>?_
 refine ye 1 hC h fun _ h=>?_
 refine ye 2 hC h fun _ h=>?_
 refine ye 3 hC h fun _ h=>?_
 refine ye 5 hC h fun _ h=>?_
 refine ye 6 hC h fun _ h=>?_
 refine ye 7 hC h fun _ h=>?_
 refine ye 8 hC h fun _ h=>?_
 refine ye 10 hC h fun _ h=>?_
 refine ye 11 hC h fun _ h=>?_
 refine ye 12 hC h fun _ h=>?_
 refine ye 13 hC h fun _ h=>?_
 refine ye 15 hC h fun _ h=>?_
 refine ye 16 hC h fun _ h=>?_
 refine ye 17 hC h fun _ h=>?_
 refine ye 18 hC h fun _ h=>?_
 refine yo 4 ?_
 refine yc h c38 fun _ w h=>zn ?_
 obtain ⟨hC,h⟩:=h
 refine ⟨hC,?_⟩
 refine yo 9 ?_
 refine yc h c39 fun _ w h=>zn ?_
 obtain ⟨hC,h⟩:=h
 refine ⟨hC,?_⟩
 refine yo 14 ?_
 refine yc h c40 fun _ w h=>zn ?_
 obtain ⟨hC,h⟩:=h
 refine ⟨hC,?_⟩
 refine yo 19 ?_
 refine yc h c41 fun _ w h=>zn ?_
 obtain ⟨hC,h⟩:=h
 refine ⟨hC,?_⟩
 refine yo 20 ?_
 refine yS h fun _ w h=>zn ?_
 obtain ⟨hC,h⟩:=h
 refine ⟨hC,?_⟩
 refine yo 21 ?_
 refine yc h c37 fun _ w h=>zn ?_
 obtain ⟨hC,h⟩:=h
 refine ⟨hC,?_⟩
 refine yw 22 hC ?_
 refine yz<|zk<|zs<|zs<|zr<|zm<|yb h fun _ w h=>zn<|zk<|yC h (fun h=>zs<|zr<|zm<|zm<|zn<|zk<|sim_ret<|sim_then_ret<|body_ret1 rfl rfl h) fun h=>sim_skip<|zk<|zs<|zr ?_
 exact yv h fun _ w h=>yv h fun _ w h=>yv h fun _ w h=>yv h fun _ w h=>yc h c43 fun _ w h=>zm<|zn<|zk<|sim_ret<|body_ret1 rfl rfl h
open Go.RowKit (intOf Below)
def listsC {α β:Type} (f:α→β→Int):List α→List β→Int
 | a::l,b::m=>if f a b=0 then listsC f l m else f a b
 | [],[]=>0
 | [],_::_ => -1
 | _::_,[]=>1
theorem listsC_end {α β:Type} (f:α→β→Int) {a:List α} {b:List β} (h:a=[]∨b=[]):listsC f a b=Go.Lib.compareInt a.length b.length:=by
 unfold Go.Lib.compareInt
 cases a with
 | nil =>
  cases b with
  | nil=>simp [listsC]
  | cons y b=>simp [listsC]
 | cons x a =>
  rcases h with h | rfl
  · cases h
  · simp [listsC];omega
theorem listsC_map {α β γ:Type} (f:α→β→Int) (g:γ→α):∀ (a:List γ) (b:List β),listsC f (a.map g) b=listsC (fun x y=>f (g x) y) a b
 | [],[]=>rfl
 | [],_::_=>rfl
 | _::_,[]=>rfl
 | x::a,y::b=>by simp only [List.map_cons,listsC,listsC_map f g a b]
def cmpS (a b:ByteArray):Int:=Go.Lib.compareBytes a.data.toList b.data.toList
def cmpH (a b:ByteArray×ByteArray):Int:=orI [cmpS a.1 b.1,cmpS a.2 b.2]
def cmpN (a b:Nd):Int:=orI [cmpS a.name b.name,Go.Lib.compareInt a.int b.int,Go.Lib.compareBytes a.bytes b.bytes,listsC cmpH a.hdrs b.hdrs]
noncomputable def cmpT:Tr→Tr→Int:=Tr.fold fun n _ rs b=>if cmpN n b.nd=0 then listsC (fun (g:Tr→Int) y=>g y) rs b.ps else cmpN n b.nd
theorem cmpT_mk (n:Nd) (ps:List Tr) (b:Tr):cmpT (.mk n ps) b=if cmpN n b.nd=0 then listsC cmpT ps b.ps else cmpN n b.nd:=by
 unfold cmpT
 rw [Tr.fold_mk,listsC_map]
theorem headers_ret (w0:World) (a b:ByteArray×ByteArray):Ret Pg 42 #[hdrVal a,hdrVal b] w0 fun r w'=>r = .int .i64 (cmpH a b)∧Ext w0 w':=by
 unfold hdrVal
 refine n53s (R:=retR _) ?_;unfold n53
 rw [op_boxA]
 have h0:=heap_new w0 #[.string a.1,.string a.2] 74
 have e0:Ext w0 (w0.alloc (.cells #[.string a.1,.string a.2] 74)):=ee
 generalize (w0.alloc (.cells #[.string a.1,.string a.2] 74))=X at h0 e0 ⊢
 generalize w0.heap.size=p1 at h0 ⊢
 rw [op_boxA]
 have h1:=heap_new X #[.string b.1,.string b.2] 74
 have e1:Ext X (X.alloc (.cells #[.string b.1,.string b.2] 74)):=ee
 generalize (X.alloc (.cells #[.string b.1,.string b.2] 74))=W at h1 e1 ⊢
 generalize X.heap.size=p2 at h1 ⊢
 have h0:=e1.obj h0
 have E1:=e0.trans e1
 refine drawK_intro ?_
 have eD:Ext W W.drew:=(Ext.refl W).drew
 have h0:=eD.obj h0
 have h1:=eD.obj h1
 have E2:=E1.trans eD
 change n53c2 _ _ (EC W.drew) _ W.drew
 generalize W.drew=D at *
 unfold n53c2
 simp (disch:=try exact DI) only [↓PR,QR,simprocAttr,(cells_of_heap h0).1,(cells_of_heap h1).1]
 refine zcr (strCompare_ret D a.1 b.1) fun w1 f1=>?_
 refine ⟨f1,?_⟩
 unfold n53c1
 refine zcr (strCompare_ret w1 a.2 b.2) fun w2 f2=>?_
 have f12:=f1.trans f2
 refine ⟨f12,?_⟩
 simp (disch:=try exact DI) only [↓PR,QR,simprocAttr]
 refine ⟨ee,callK_ret (Or_ret _ _ [cmpS a.1 b.1,cmpS a.2 b.2] (SliceOf.new1 (fun n => .int .i64 n) (fun _ _=>rfl) w2 [cmpS a.1 b.1,cmpS a.2 b.2] 3 (show (2:Nat)≤_ by decide))) ?_⟩
 rintro _ w3 ⟨rfl,f3⟩
 have f4:Ext D w3:=(f12.alloc _).trans f3
 exact ⟨f4,_,rfl,rfl,E2.trans f4⟩
theorem lists_step {α β:Type} (f:α→β→Int) {a:List α} {b:List β} {k:Nat} {x:α} {y:β} (hx:a[k]?=some x) (hy:b[k]?=some y):listsC f (a.drop k) (b.drop k)=if f x y=0 then listsC f (a.drop (k+1)) (b.drop (k+1)) else f x y:=by
 have hdr:a.drop k=x::a.drop (k+1):=by
  obtain ⟨hk,rfl⟩:=List.getElem?_eq_some_iff.1 hx
  exact List.drop_eq_getElem_cons hk
 have hdq:b.drop k=y::b.drop (k+1):=by
  obtain ⟨hk,rfl⟩:=List.getElem?_eq_some_iff.1 hy
  exact List.drop_eq_getElem_cons hk
 rw [hdr,hdq]
 rfl
theorem lists_stop {α β:Type} (f:α→β→Int) {a:List α} {b:List β} {k:Nat} (hk:k≤a.length) (hl:k≤b.length) (h:k=a.length∨k=b.length):listsC f (a.drop k) (b.drop k)=Go.Lib.compareInt a.length b.length:=by
 rw [listsC_end f (h.imp (fun h=>List.drop_of_length_le (by omega)) fun h=>List.drop_of_length_le (by omega)),List.length_drop,List.length_drop]
 unfold Go.Lib.compareInt
 simp only [Int.ofNat_lt,gt_iff_lt]
 split<;>split<;>first | rfl | (split<;>first | rfl | omega) | omega
theorem lists_Header_ret (w0:World) (u v:Value) (a b:List (ByteArray×ByteArray)) (ha:HdrsOf w0 u a) (hb:HdrsOf w0 v b):Ret Pg 41 #[u,v,.func (.func 42) #[] #[]] w0 fun r w'=>r = .int .i64 (listsC cmpH a b)∧Ext w0 w':=by
 obtain ⟨A,c,rfl,hlc,hcm,hlm,hel⟩:=SliceOf.open ha
 obtain ⟨B,d,rfl,hld,hdm,hlm2,hel2⟩:=SliceOf.open hb
 obtain ⟨m,hm⟩:∃ m:Nat,m=min a.length b.length:=⟨_,rfl⟩
 have hmi:(if (b.length:Int) < (a.length:Int) then (b.length:Int) else (a.length:Int))=(m:Int):=by split<;>omega
 refine n56s (R:=retR _) ?_;unfold n56
 simp (disch:=try exact DI) only [↓PR,QR,simprocAttr]
 rw [hmi]
 refine loop1_intro (fun i w=>∃ k:Nat,i = .int .i64 k∧k≤m∧Ext w0 w∧listsC cmpH (a.drop k) (b.drop k)=listsC cmpH a b) (fun i _=>m - (intOf i).toNat) ⟨0,rfl,by omega,Ext.refl _,rfl⟩ ?_
 rintro _ w ⟨k,rfl,hk,e,hI⟩
 unfold n56c4
 by_cases hlt:k < m
 case neg =>
  obtain rfl:k=m:=by omega
  have hdc:decide ((k:Int) < (k:Int))=false:=decide_eq_false (by omega)
  simp (disch:=try exact DI) only [↓PR,QR,simprocAttr,hdc,↓n56c1,↓n56c2,↓n56c3,↓n56c4]
  refine zcr (intCompare_ret _ _ _) fun w1 e1=>?_
  simp (disch:=try exact DI) only [↓PR,QR,simprocAttr]
  exact ⟨by rw [← hI,lists_stop cmpH (by omega) (by omega) (by omega)],e.trans e1⟩
 obtain ⟨x,hx⟩:=getElem?_lt (l:=a) (k:=k) (by omega)
 obtain ⟨y,hy⟩:=getElem?_lt (l:=b) (k:=k) (by omega)
 obtain ⟨b1,o1,cs1,rfl,hl1,hA1,rfl⟩:=hel k x hx
 obtain ⟨b2,o2,cs2,rfl,hl2,hA2,rfl⟩:=hel2 k y hy
 have hdc:decide ((k:Int) < (m:Int))=true:=decide_eq_true (by omega)
 have dk1:(k:Int) < (a.length:Int):=by omega
 have dk2:(k:Int) < (b.length:Int):=by omega
 have hw:IntKind.i64.wrap ((k:Int)+1)=((k+1:Nat):Int):=by rw [wrap_ok (by omega) (by omega)];omega
 simp (disch:=try exact DI) only [↓PR,QR,simprocAttr,hdc]
 refine drawK_intro ?_
 have eD:Ext w0 w.drew:=e.trans (Ext.refl w).drew
 change n56c2 _ _ _ _ (EC w.drew) _ _ w.drew
 generalize w.drew=D at *
 unfold n56c2
 simp (disch:=try exact DI) only [↓PR,QR,simprocAttr,dk1,dk2,hA1.c2 eD,hA2.c2 eD]
 rw [callV_func c42]
 simp only [Array.empty_append]
 refine zcr (headers_ret D x y) fun w1 e1=>?_
 refine ⟨e1,?_⟩
 rw [lists_step cmpH hx hy] at hI
 by_cases h0:cmpH x y=0
 · rw [if_pos h0] at hI
   have d0:(cmpH x y != 0)=false:=by simp [h0]
   simp (disch:=try exact DI) only [↓PR,QR,simprocAttr,↓n56c1,↓n56c2,↓n56c3,↓n56c4,d0,hw]
   exact ⟨⟨k+1,rfl,by omega,eD.trans e1,hI⟩,meas_lt (kd := .i64) hlt⟩
 · rw [if_neg h0] at hI
   have d0:(cmpH x y != 0)=true:=by simp [h0]
   simp (disch:=try exact DI) only [↓PR,QR,simprocAttr,↓n56c1,↓n56c2,↓n56c3,↓n56c4,d0]
   exact ⟨by rw [hI],eD.trans e1⟩
theorem lists_Value_ret (w0:World) (u v:Value) (a b:List Tr) (ha:TrsOf w0 u a) (hb:TrsOf w0 v b) (ih:∀ x∈a,∀ (W:World) (vx vy:Value) (y:Tr),ValAt W vx x→ValAt W vy y→Ret Pg 14 #[vx,vy] W fun r w'=>r = .int .i64 (cmpT x y)∧Ext W w'):Ret Pg 43 #[u,v,.func (.func 14) #[] #[]] w0 fun r w'=>r = .int .i64 (listsC cmpT a b)∧Ext w0 w':=by
 obtain ⟨A,c,rfl,hlc,hcm,hlm,hel⟩:=SliceOf.open ha
 obtain ⟨B,d,rfl,hld,hdm,hlm2,hel2⟩:=SliceOf.open hb
 obtain ⟨m,hm⟩:∃ m:Nat,m=min a.length b.length:=⟨_,rfl⟩
 have hmi:(if (b.length:Int) < (a.length:Int) then (b.length:Int) else (a.length:Int))=(m:Int):=by split<;>omega
 refine n57s (R:=retR _) ?_;unfold n57
 simp (disch:=try exact DI) only [↓PR,QR,simprocAttr]
 rw [hmi]
 refine loop1_intro (fun i w=>∃ k:Nat,i = .int .i64 k∧k≤m∧Ext w0 w∧listsC cmpT (a.drop k) (b.drop k)=listsC cmpT a b) (fun i _=>m - (intOf i).toNat) ⟨0,rfl,by omega,Ext.refl _,rfl⟩ ?_
 rintro _ w ⟨k,rfl,hk,e,hI⟩
 unfold n57c4
 by_cases hlt:k < m
 case neg =>
  obtain rfl:k=m:=by omega
  have hdc:decide ((k:Int) < (k:Int))=false:=decide_eq_false (by omega)
  simp (disch:=try exact DI) only [↓PR,QR,simprocAttr,hdc,↓n57c1,↓n57c2,↓n57c3,↓n57c4]
  refine zcr (intCompare_ret _ _ _) fun w1 e1=>?_
  simp (disch:=try exact DI) only [↓PR,QR,simprocAttr]
  exact ⟨by rw [← hI,lists_stop cmpT (by omega) (by omega) (by omega)],e.trans e1⟩
 obtain ⟨x,hx⟩:=getElem?_lt (l:=a) (k:=k) (by omega)
 obtain ⟨y,hy⟩:=getElem?_lt (l:=b) (k:=k) (by omega)
 obtain ⟨b1,o1,cs1,rfl,hl1,hA1,hE1⟩:=hel k x hx
 obtain ⟨b2,o2,cs2,rfl,hl2,hA2,hE2⟩:=hel2 k y hy
 obtain ⟨bv1,hv1,pv1,rfl,f1,f2,f3,f4,f5,f6⟩:=hE1.op
 obtain ⟨bv2,hv2,pv2,rfl,g1,g2,g3,g4,g5,g6⟩:=hE2.op
 have hdc:decide ((k:Int) < (m:Int))=true:=decide_eq_true (by omega)
 have dk1:(k:Int) < (a.length:Int):=by omega
 have dk2:(k:Int) < (b.length:Int):=by omega
 have hw:IntKind.i64.wrap ((k:Int)+1)=((k+1:Nat):Int):=by rw [wrap_ok (by omega) (by omega)];omega
 simp (disch:=try exact DI) only [↓PR,QR,simprocAttr,hdc]
 refine drawK_intro ?_
 have eD:Ext w0 w.drew:=e.trans (Ext.refl w).drew
 change n57c2 _ _ _ _ (EC w.drew) _ _ w.drew
 generalize w.drew=D at *
 unfold n57c2
 simp (disch:=try exact DI) only [↓PR,QR,simprocAttr,dk1,dk2,hA1.c5 eD,hA2.c5 eD]
 rw [callV_func c14]
 simp only [Array.empty_append]
 refine zcr (ih x (List.mem_of_getElem? hx) D _ _ y (ValAt.ext ⟨bv1,hv1,pv1,rfl,f1,f2,f3⟩ eD) (ValAt.ext ⟨bv2,hv2,pv2,rfl,g1,g2,g3⟩ eD)) fun w1 e1=>?_
 refine ⟨e1,?_⟩
 rw [lists_step cmpT hx hy] at hI
 by_cases h0:cmpT x y=0
 · rw [if_pos h0] at hI
   have d0:(cmpT x y != 0)=false:=by simp [h0]
   simp (disch:=try exact DI) only [↓PR,QR,simprocAttr,↓n57c1,↓n57c2,↓n57c3,↓n57c4,d0,hw]
   exact ⟨⟨k+1,rfl,by omega,eD.trans e1,hI⟩,meas_lt (kd := .i64) hlt⟩
 · rw [if_neg h0] at hI
   have d0:(cmpT x y != 0)=true:=by simp [h0]
   simp (disch:=try exact DI) only [↓PR,QR,simprocAttr,↓n57c1,↓n57c2,↓n57c3,↓n57c4,d0]
   exact ⟨by rw [hI],eD.trans e1⟩
theorem Compare_ret (t:Tr):∀ (w0:World) (u v:Value) (s:Tr),ValAt w0 u t→ValAt w0 v s→Ret Pg 14 #[u,v] w0 fun r w'=>r = .int .i64 (cmpT t s)∧Ext w0 w':=by
 refine Tr.ind (p:=fun t=>∀ (w0:World) (u v:Value) (s:Tr),ValAt w0 u t→ValAt w0 v s→Ret Pg 14 #[u,v] w0 fun r w'=>r = .int .i64 (cmpT t s)∧Ext w0 w') ?_ t
 intro n ps ih w0 u v s hu hv
 obtain ⟨bv1,hv1,pv1,rfl,f1,f2,f3,f4,f5,f6⟩:=hu.op
 obtain ⟨bv2,hv2,pv2,rfl,g1,g2,g3,g4,g5,g6⟩:=hv.op
 simp only [Tr.nd,Tr.ps] at f1 f2 f3
 rw [cmpT_mk]
 show Ret _ _ #[.agg (trCells n bv1 hv1 pv1).toArray,_] _ _
 refine n37s (R:=retR _) ?_;unfold n37
 rw [op_boxA]
 have h0:=heap_new w0 (trCells n bv1 hv1 pv1).toArray 26
 have e0:Ext w0 (w0.alloc (.cells (trCells n bv1 hv1 pv1).toArray 26)):=ee
 generalize (w0.alloc (.cells (trCells n bv1 hv1 pv1).toArray 26))=X at h0 e0 ⊢
 generalize w0.heap.size=p1 at h0 ⊢
 rw [op_boxA]
 have h1:=heap_new X (trCells s.nd bv2 hv2 pv2).toArray 26
 have e1:Ext X (X.alloc (.cells (trCells s.nd bv2 hv2 pv2).toArray 26)):=ee
 generalize (X.alloc (.cells (trCells s.nd bv2 hv2 pv2).toArray 26))=W at h1 e1 ⊢
 generalize X.heap.size=p2 at h1 ⊢
 have h0:=e1.obj h0
 have E1:=e0.trans e1
 refine drawK_intro ?_
 have eD:Ext W W.drew:=(Ext.refl W).drew
 have h0:=eD.obj h0
 have h1:=eD.obj h1
 have E2:=E1.trans eD
 change n37c5 _ _ (EC W.drew) _ W.drew
 generalize W.drew=D at *
 unfold n37c5
 simp (disch:=try exact DI) only [↓PR,QR,simprocAttr,(cells_of_heap h0).1,(cells_of_heap h1).1]
 refine zcr (strCompare_ret D n.name s.nd.name) fun w1 d1=>?_
 unfold n37c4
 refine ⟨d1,callK_ret (intCompare_ret w1 n.int s.nd.int) ?_⟩
 rintro _ w2 ⟨rfl,d2⟩
 have D2:=d1.trans d2
 refine ⟨D2,callK_ret (bytesCompare_ret w2 _ _ n.bytes s.nd.bytes (f1.ext (E2.trans D2)) (g1.ext (E2.trans D2))) ?_⟩
 rintro _ w3 ⟨rfl,d3⟩
 have D3:=D2.trans d3
 refine ⟨D3,?_⟩
 unfold n37c3
 refine zcr (lists_Header_ret w3 _ _ n.hdrs s.nd.hdrs (f2.ext (E2.trans D3)) (g2.ext (E2.trans D3))) fun w4 d4=>?_
 have D4:=D3.trans d4
 refine ⟨D4,?_⟩
 simp (disch:=try exact DI) only [↓PR,QR,simprocAttr]
 refine ⟨ee,?_⟩
 unfold n37c2
 refine zcr (Or_ret _ _ [cmpS n.name s.nd.name,Go.Lib.compareInt n.int s.nd.int,Go.Lib.compareBytes n.bytes s.nd.bytes,listsC cmpH n.hdrs s.nd.hdrs] (SliceOf.new1 (fun n => .int .i64 n) (fun _ _=>rfl) w4 [cmpS n.name s.nd.name,Go.Lib.compareInt n.int s.nd.int,Go.Lib.compareBytes n.bytes s.nd.bytes,listsC cmpH n.hdrs s.nd.hdrs] 3 (show (4:Nat)≤_ by decide))) fun w5 d5=>?_
 have D5:Ext D w5:=(D4.alloc _).trans d5
 refine ⟨D5,?_⟩
 change opV _ (binS _ _ _ (.int .i64 (cmpN n s.nd)) _) _ _ _
 by_cases hz:cmpN n s.nd=0
 · have dz:(cmpN n s.nd != 0)=false:=by simp [hz]
   simp (disch:=try exact DI) only [↓PR,QR,simprocAttr,dz,↓n37c1,↓n37c2,↓n37c3,↓n37c4,↓n37c5,(cells_of_heap (D5.obj h0)).1,(cells_of_heap (D5.obj h1)).1]
   refine zcr (lists_Value_ret w5 _ _ ps s.ps (f3.ext (E2.trans D5)) (g3.ext (E2.trans D5)) ih) fun w6 d6=>?_
   simp (disch:=try exact DI) only [↓PR,QR,simprocAttr]
   exact ⟨by rw [if_pos hz],E2.trans (D5.trans d6)⟩
 · have dz:(cmpN n s.nd != 0)=true:=by simp [hz]
   simp (disch:=try exact DI) only [↓PR,QR,simprocAttr,dz]
   exact ⟨by rw [if_neg hz];rfl,E2.trans D5⟩
theorem Equal_ret (w0:World) (u v:Value) (t s:Tr) (hu:ValAt w0 u t) (hv:ValAt w0 v s):Ret Pg 12 #[u,v] w0 fun r w'=>r = .bool (decide (cmpT t s=0))∧Ext w0 w':=by
 obtain ⟨bv1,hv1,pv1,rfl,f1,f2,f3,f4,f5,f6⟩:=hu.op
 obtain ⟨bv2,hv2,pv2,rfl,g1,g2,g3,g4,g5,g6⟩:=hv.op
 refine n39s (R:=retR _) ?_;unfold n39
 rw [op_boxA]
 have h0:=heap_new w0 (trCells t.nd bv1 hv1 pv1).toArray 26
 have e0:Ext w0 (w0.alloc (.cells (trCells t.nd bv1 hv1 pv1).toArray 26)):=ee
 generalize (w0.alloc (.cells (trCells t.nd bv1 hv1 pv1).toArray 26))=X at h0 e0 ⊢
 generalize w0.heap.size=p1 at h0 ⊢
 rw [op_boxA]
 have h1:=heap_new X (trCells s.nd bv2 hv2 pv2).toArray 26
 have e1:Ext X (X.alloc (.cells (trCells s.nd bv2 hv2 pv2).toArray 26)):=ee
 generalize (X.alloc (.cells (trCells s.nd bv2 hv2 pv2).toArray 26))=W at h1 e1 ⊢
 generalize X.heap.size=p2 at h1 ⊢
 have h0:=e1.obj h0
 have E1:=e0.trans e1
 simp (disch:=try exact DI) only [↓PR,QR,simprocAttr,(cells_of_heap h0).1,(cells_of_heap h1).1]
 refine zcr (Compare_ret t W _ _ s (ValAt.ext ⟨bv1,hv1,pv1,rfl,f1,f2,f3⟩ E1) (ValAt.ext ⟨bv2,hv2,pv2,rfl,g1,g2,g3⟩ E1)) fun w1 e2=>?_
 simp (disch:=try exact DI) only [↓PR,QR,simprocAttr]
 exact ⟨by by_cases h:cmpT t s=0<;>simp [h],E1.trans e2⟩
def n23 (t0:Value) (R:RT) (w:World):Prop :=
 opV Pg (binS .eql 22 true t0 (Value.slice none 0 0)) (panK R) w fun t4 w =>
 condP t4 (
 R (.returned (Value.slice none 0 0)) w) (
 opV Pg (Instr.buildSlice 22 0 #[]) (panK R) w fun t5 w =>
 opV Pg (Builtin.append_ #[22,22] 22 #[t5,t0]) (panK R) w fun t7 w =>
 R (.returned t7) w)
theorem n23s {t0:Value} {R:RT} {w:World} (h:n23 t0 R w):Calls Pg 47 #[t0] w R:=by
 refine yD Tryz.func47 ?_
 refine zs<|zr<|zm<|zn<|zk<|zs<|zs<|zr<|zm<|yb h fun _ w h=>zn<|zk<|yC h (fun h=>zs<|zr<|zm<|zn<|zk<|sim_ret<|sim_then_ret<|body_ret1 rfl rfl h) fun h=>sim_skip ?_
 exact zk<|zs<|zr<|yS h fun _ w h=>zm<|yx h fun _ w h=>zm<|zn<|zk<|sim_ret<|body_ret1 rfl rfl h
def n21 (t0:Value) (R:RT) (w:World):Prop :=
 opV Pg (binS .eql 23 true t0 (Value.slice none 0 0)) (panK R) w fun t4 w =>
 condP t4 (
 R (.returned (Value.slice none 0 0)) w) (
 opV Pg (Instr.buildSlice 23 0 #[]) (panK R) w fun t5 w =>
 opV Pg (Builtin.append_ #[23,23] 23 #[t5,t0]) (panK R) w fun t7 w =>
 R (.returned t7) w)
theorem n21s {t0:Value} {R:RT} {w:World} (h:n21 t0 R w):Calls Pg 48 #[t0] w R:=by
 refine yD Tryz.func48 ?_
 refine zs<|zr<|zm<|zn<|zk<|zs<|zs<|zr<|zm<|yb h fun _ w h=>zn<|zk<|yC h (fun h=>zs<|zr<|zm<|zn<|zk<|sim_ret<|sim_then_ret<|body_ret1 rfl rfl h) fun h=>sim_skip ?_
 exact zk<|zs<|zr<|yS h fun _ w h=>zm<|yx h fun _ w h=>zm<|zn<|zk<|sim_ret<|body_ret1 rfl rfl h
def n22 (t0:Value) (R:RT) (w:World):Prop :=
 opV Pg (binS .eql 24 true t0 (Value.slice none 0 0)) (panK R) w fun t4 w =>
 condP t4 (
 R (.returned (Value.slice none 0 0)) w) (
 opV Pg (Instr.buildSlice 24 0 #[]) (panK R) w fun t5 w =>
 opV Pg (Builtin.append_ #[24,24] 24 #[t5,t0]) (panK R) w fun t7 w =>
 R (.returned t7) w)
theorem n22s {t0:Value} {R:RT} {w:World} (h:n22 t0 R w):Calls Pg 49 #[t0] w R:=by
 refine yD Tryz.func49 ?_
 refine zs<|zr<|zm<|zn<|zk<|zs<|zs<|zr<|zm<|yb h fun _ w h=>zn<|zk<|yC h (fun h=>zs<|zr<|zm<|zn<|zk<|sim_ret<|sim_then_ret<|body_ret1 rfl rfl h) fun h=>sim_skip ?_
 exact zk<|zs<|zr<|yS h fun _ w h=>zm<|yx h fun _ w h=>zm<|zn<|zk<|sim_ret<|body_ret1 rfl rfl h
def n43c1 (t0 t1 t11:Value) (K1:World→Prop) (R:RT) (w:World):Prop :=
 opV Pg (Instr.build 26 #[]) (panK R) w fun t16 w =>
 opU Pg (Instr.storeAt 26 t0 t16) (panK R) w fun w =>
 opU Pg (Instr.storeAt 33 t1 t11) (panK R) w fun w =>
 K1 w
def n43c2 (t0 t1 t5:Value) (K1:World→Prop) (R:RT) (w:World):Prop :=
 opV Pg (Instr.typeAssert t5 20 33 true) (panK R) w fun t10 w =>
 opV Pg (Instr.extract t10 0) (panK R) w fun t11 w =>
 opV Pg (Instr.extract t10 1) (panK R) w fun t12 w =>
 opV Pg (Op.unary .not t12) (panK R) w fun t14 w =>
 condP t14 (
 opV Pg (Instr.panic t5) (panK R) w fun _ w =>
 False) (
 n43c1 t0 t1 t11 K1 R w)
def n43 (t0 t1 t5:Value) (R:RT) (w:World):Prop :=
 opV Pg (binS .neq 20 true t5 .nilIface) (panK R) w fun t7 w =>
 joinK (fun (w:World) =>
 R (.returned (.tuple #[])) w) fun K1 =>
 condP t7 (
 n43c2 t0 t1 t5 K1 R w) (
 K1 w)
theorem n43s {t0 t1:Value} {u:FrameMode} {R:Ending→FrameMode→World→Prop} {w:World} (h:n43 t0 t1 (Sw.recM u).1 (fun e w=>R e (Sw.recM u).2 w) w):CallsDIn Fence.wide 0 Pg 50 #[t0,t1] u w R:=by
 refine calls_of_denR (args:=[t0,t1]) (d:=5) Tryz.func50 rfl (Nat.le_of_ble_eq_true rfl) rfl rfl rfl rfl ?_
 generalize (recM u).1=t5 at h ⊢
 generalize hR:(fun e w=>R e (recM u).2 w)=R' at h ⊢
 clear hR
 revert h
 generalize R'=R
 intro h
 unfold n43 at h
 refine zm<|zn<|zs<|zr<|zm<|yb h fun _ w h=>zn<|zk<|yJ0 [3,4,8,9,10,11,12,13,14,15,16,17] h (fun _ _ hkK1 h=>?_) fun σ w h=>?_
 · refine yC h (fun h=>?_) fun h=>?_
   · refine zs<|zr<|zm<|yv h fun _ w h=>zm<|yv h fun _ w h=>yv h fun _ w h=>zm<|zm<|zn<|zk<|zs<|zs<|zr<|zm ?_
     refine yv h fun _ w h=>zn<|zk<|yC h (fun h=>zr<|zm<|yv h fun _ w h=>zn<|h.elim) fun h=>sim_skip<|zk<|zr<|yB h fun _ w h=>zm<|yu h fun w h=>yu h fun w h=>zn<|zk ?_
     exact zt hkK1 h
   refine sim_skip<|zk ?_
   exact zt hkK1 h
 exact body_normal<|body_ret0 rfl h
def n65c1 (t0:Value) (next3:World→Prop) (R:RT) (w:World):Prop :=
 opN Pg (nilN t0) (panK R) w fun t71 w =>
 opV Pg (Instr.fieldAt 85 t71 0) (panK R) w fun t72 w =>
 callK Pg 74 #[t72,(.int .u8 93)] (panK R) w fun t73 w =>
 callK Pg 52 #[t73] (panK R) w fun t74 w =>
 next3 w
def n65c2 (t0 t2 t61 t67:Value) (C4:World→Prop) (next3:World→Prop) (R:RT) (w:World):Prop :=
 opV Pg (Builtin.append_ #[23,23] 23 #[t61,t67]) (panK R) w fun t68 w =>
 C4 w∧(
 qV Pg C4 (Instr.fieldAt 26 t2 3) fun t69 =>
 opU Pg (Instr.storeAt 23 t69 t68) (panK R) w fun w =>
 turnK w fun C5 w =>
 n65c1 t0 next3 R w)
def n65c3 (t0 t2 t54 t61 t65:Value) (C4:World→Prop) (next3:World→Prop) (R:RT) (w:World):Prop :=
 qV Pg C4 (Instr.build 74 #[(0,t54),(1,t65)]) fun t66 =>
 opV Pg (Instr.buildSlice 23 1 #[(0,t66)]) (panK R) w fun t67 w =>
 C4 w∧(
 n65c2 t0 t2 t61 t67 C4 next3 R w)
def n65c4 (t0 t2 t54:Value) (C4:World→Prop) (next3:World→Prop) (R:RT) (w:World):Prop :=
 qV Pg C4 (Instr.fieldAt 26 t2 3) fun t60 =>
 qV Pg C4 (Instr.loadAt 23 t60) fun t61 =>
 callK Pg 77 #[t0] (panK R) w fun t64 w =>
 C4 w∧(
 opV Pg (Go.convert 22 9 t64) (panK R) w fun t65 w =>
 C4 w∧(
 n65c3 t0 t2 t54 t61 t65 C4 next3 R w))
def n65c5 (t0 t2 t53:Value) (next3:World→Prop) (R:RT) (w:World):Prop :=
 opV Pg (Go.convert 22 9 t53) (panK R) w fun t54 w =>
 opN Pg (nilN t0) (panK R) w fun t56 w =>
 opV Pg (Instr.fieldAt 85 t56 0) (panK R) w fun t57 w =>
 callK Pg 74 #[t57,(.int .u8 58)] (panK R) w fun t58 w =>
 callK Pg 52 #[t58] (panK R) w fun t59 w =>
 drawK w fun C4 w =>
 n65c4 t0 t2 t54 C4 next3 R w
def n65c6 (t0 t2:Value) (R:RT) (w:World):Prop :=
 opN Pg (nilN t0) (panK R) w fun t103 w =>
 opV Pg (Instr.fieldAt 85 t103 1) (panK R) w fun t104 w =>
 opV Pg (Instr.loadAt 3 t104) (panK R) w fun t105 w =>
 opV Pg (binS .sub 3 true t105 (.int .i64 1)) (panK R) w fun t106 w =>
 opN Pg (nilN t0) (panK R) w fun t107 w =>
 opV Pg (Instr.fieldAt 85 t107 1) (panK R) w fun t108 w =>
 opU Pg (Instr.storeAt 3 t108 t106) (panK R) w fun w =>
 opV Pg (Instr.loadAt 26 t2) (panK R) w fun t109 w =>
 opU Pg (Instr.storeAt 26 t2 t109) (panK R) w fun w =>
 qW Pg 26 t2 w fun r0 =>
 R (.returned r0) w
def n65c7 (t2 t91 t94:Value) (C10:World→Prop) (next9:World→Prop) (R:RT) (w:World):Prop :=
 opV Pg (Builtin.append_ #[24,24] 24 #[t91,t94]) (panK R) w fun t95 w =>
 C10 w∧(
 qV Pg C10 (Instr.fieldAt 26 t2 4) fun t96 =>
 opU Pg (Instr.storeAt 24 t96 t95) (panK R) w fun w =>
 turnK w fun C11 w =>
 next9 w)
def n65c8 (t0 t2:Value) (C10:World→Prop) (next9:World→Prop) (R:RT) (w:World):Prop :=
 qV Pg C10 (Instr.fieldAt 26 t2 4) fun t90 =>
 qV Pg C10 (Instr.loadAt 24 t90) fun t91 =>
 callK Pg 51 #[t0] (panK R) w fun t93 w =>
 C10 w∧(
 opV Pg (Instr.buildSlice 24 1 #[(0,t93)]) (panK R) w fun t94 w =>
 C10 w∧(
 n65c7 t2 t91 t94 C10 next9 R w))
def n65c9 (t0:Value) (K6:World→Prop) (R:RT) (w:World):Prop :=
 opN Pg (nilN t0) (panK R) w fun t98 w =>
 opV Pg (Instr.fieldAt 85 t98 0) (panK R) w fun t99 w =>
 callK Pg 74 #[t99,(.int .u8 41)] (panK R) w fun t100 w =>
 callK Pg 52 #[t100] (panK R) w fun t101 w =>
 K6 w
def n65c10 (t0 t2:Value) (K6:World→Prop) (next9:World→Prop) (R:RT) (w:World):Prop :=
 opN Pg (nilN t0) (panK R) w fun t87 w =>
 opV Pg (Instr.fieldAt 85 t87 0) (panK R) w fun t88 w =>
 callK Pg 74 #[t88,(.int .u8 32)] (panK R) w fun t89 w =>
 condP t89 (
 drawK w fun C10 w =>
 n65c8 t0 t2 C10 next9 R w) (
 n65c9 t0 K6 R w)
def n65c11 (t0 t2 t84:Value) (C7:World→Prop) (K6:World→Prop) (R:RT) (w:World):Prop :=
 qV Pg C7 (Instr.fieldAt 26 t2 4) fun t85 =>
 opU Pg (Instr.storeAt 24 t85 t84) (panK R) w fun w =>
 turnK w fun C8 w =>
 loop0 (fun w next9 =>
 n65c10 t0 t2 K6 next9 R w) w
def n65c12 (t0 t2 t80 t82:Value) (C7:World→Prop) (K6:World→Prop) (R:RT) (w:World):Prop :=
 opV Pg (Instr.buildSlice 24 1 #[(0,t82)]) (panK R) w fun t83 w =>
 C7 w∧(
 opV Pg (Builtin.append_ #[24,24] 24 #[t80,t83]) (panK R) w fun t84 w =>
 C7 w∧(
 n65c11 t0 t2 t84 C7 K6 R w))
def n65c13 (t0 t2:Value) (C7:World→Prop) (K6:World→Prop) (R:RT) (w:World):Prop :=
 qV Pg C7 (Instr.fieldAt 26 t2 4) fun t79 =>
 qV Pg C7 (Instr.loadAt 24 t79) fun t80 =>
 callK Pg 51 #[t0] (panK R) w fun t82 w =>
 C7 w∧(
 n65c12 t0 t2 t80 t82 C7 K6 R w)
def n65c14 (t0 t2:Value) (R:RT) (w:World):Prop :=
 opN Pg (nilN t0) (panK R) w fun t76 w =>
 opV Pg (Instr.fieldAt 85 t76 0) (panK R) w fun t77 w =>
 callK Pg 74 #[t77,(.int .u8 40)] (panK R) w fun t78 w =>
 joinK (fun (w:World) =>
 n65c6 t0 t2 R w) fun K6 =>
 condP t78 (
 drawK w fun C7 w =>
 n65c13 t0 t2 C7 K6 R w) (
 K6 w)
def n65c15 (t0 t2:Value) (next3:World→Prop) (R:RT) (w:World):Prop :=
 opN Pg (nilN t0) (panK R) w fun t49 w =>
 opV Pg (Instr.fieldAt 85 t49 0) (panK R) w fun t50 w =>
 callK Pg 74 #[t50,(.int .u8 91)] (panK R) w fun t51 w =>
 condP t51 (
 callK Pg 77 #[t0] (panK R) w fun t53 w =>
 n65c5 t0 t2 t53 next3 R w) (
 n65c14 t0 t2 R w)
def n65c16 (t0 t2 t44:Value) (R:RT) (w:World):Prop :=
 joinK (fun (w:World) =>
 loop0 (fun w next3 =>
 n65c15 t0 t2 next3 R w) w) fun K2 =>
 condP t44 (
 callK Pg 77 #[t0] (panK R) w fun t46 w =>
 opV Pg (Instr.fieldAt 26 t2 2) (panK R) w fun t47 w =>
 opU Pg (Instr.storeAt 22 t47 t46) (panK R) w fun w =>
 K2 w) (
 K2 w)
def n65c17 (t0 t2:Value) (R:RT) (w:World):Prop :=
 opN Pg (nilN t0) (panK R) w fun t42 w =>
 opV Pg (Instr.fieldAt 85 t42 0) (panK R) w fun t43 w =>
 callK Pg 74 #[t43,(.int .u8 35)] (panK R) w fun t44 w =>
 n65c16 t0 t2 t44 R w
def n65c18 (t2 t33:Value) (K1:World→Prop) (R:RT) (w:World):Prop :=
 opV Pg (Instr.extract t33 0) (panK R) w fun t34 w =>
 opV Pg (Instr.extract t33 1) (panK R) w fun t35 w =>
 opV Pg (binS .eql 113 true t35 .nilIface) (panK R) w fun t37 w =>
 callK Pg 52 #[t37] (panK R) w fun t38 w =>
 opV Pg (Instr.fieldAt 26 t2 1) (panK R) w fun t40 w =>
 opU Pg (Instr.storeAt 3 t40 t34) (panK R) w fun w =>
 K1 w
def n65c19 (t0 t2:Value) (K1:World→Prop) (R:RT) (w:World):Prop :=
 opN Pg (nilN t0) (panK R) w fun t30 w =>
 opV Pg (Instr.fieldAt 85 t30 0) (panK R) w fun t31 w =>
 callK Pg 71 #[t31,(.func (.func 76) #[] #[])] (panK R) w fun t32 w =>
 callK Pg 75 #[t32] (panK R) w fun t33 w =>
 n65c18 t2 t33 K1 R w
def n65c20 (t0 t2 t22:Value) (R:RT) (w:World):Prop :=
 opV Pg (Instr.fieldAt 26 t2 0) (panK R) w fun t23 w =>
 opU Pg (Instr.storeAt 9 t23 t22) (panK R) w fun w =>
 opN Pg (nilN t0) (panK R) w fun t25 w =>
 opV Pg (Instr.fieldAt 85 t25 0) (panK R) w fun t26 w =>
 callK Pg 74 #[t26,(.int .u8 61)] (panK R) w fun t27 w =>
 joinK (fun (w:World) =>
 n65c17 t0 t2 R w) fun K1 =>
 condP t27 (
 n65c19 t0 t2 K1 R w) (
 K1 w)
def n65c21 (t0 t2:Value) (R:RT) (w:World):Prop :=
 opN Pg (nilN t0) (panK R) w fun t20 w =>
 opV Pg (Instr.fieldAt 85 t20 0) (panK R) w fun t21 w =>
 callK Pg 71 #[t21,(.func (.func 72) #[] #[])] (panK R) w fun t22 w =>
 n65c20 t0 t2 t22 R w
def n65 (t0:Value) (R:RT) (w:World):Prop :=
 opV Pg (Instr.alloc 26 true (.tuple #[])) (panK R) w fun t2 w =>
 opN Pg (nilN t0) (panK R) w fun t7 w =>
 opV Pg (Instr.fieldAt 85 t7 1) (panK R) w fun t8 w =>
 opV Pg (Instr.loadAt 3 t8) (panK R) w fun t9 w =>
 opV Pg (binS .add 3 true t9 (.int .i64 1)) (panK R) w fun t10 w =>
 opN Pg (nilN t0) (panK R) w fun t11 w =>
 opV Pg (Instr.fieldAt 85 t11 1) (panK R) w fun t12 w =>
 opU Pg (Instr.storeAt 3 t12 t10) (panK R) w fun w =>
 opN Pg (nilN t0) (panK R) w fun t14 w =>
 opV Pg (Instr.fieldAt 85 t14 1) (panK R) w fun t15 w =>
 opV Pg (Instr.loadAt 3 t15) (panK R) w fun t16 w =>
 opV Pg (binS .leq 3 true t16 (.int .i64 40)) (panK R) w fun t17 w =>
 callK Pg 52 #[t17] (panK R) w fun t18 w =>
 n65c21 t0 t2 R w
set_option maxHeartbeats 40000000 in
theorem n65s {t0:Value} {R:RT} {w:World} (h:n65 t0 R w):Calls Pg 51 #[t0] w R:=by
 refine yD Tryz.func51 ?_
 refine zs<|zr<|yv h fun _ w h=>zn<|zk<|zs<|zr<|zm<|yN h fun _ w h=>yv h fun _ w h=>yv h fun _ w h=>yb h fun _ w h=>yN h fun _ w h=>yv h fun _ w h=>yu h fun w h=>?_
 refine zn<|zk<|zs<|zr<|zm<|yN h fun _ w h=>yv h fun _ w h=>yv h fun _ w h=>yb h fun _ w h=>yc h c52 fun _ w h=>zn<|zk<|zs<|zr<|zm ?_
 refine yN h fun _ w h=>yv h fun _ w h=>yc h c71 fun _ w h=>yv h fun _ w h=>yu h fun w h=>zn<|zk<|zs<|zs<|zr<|zm<|yN h fun _ w h=>yv h fun _ w h=>yc h c74 fun _ w h=>zn ?_
 refine zk<|yJ0 [3,4,28,29,30,31,32,33,34,35,36,37,38,39,40] h (fun _ _ hkK1 h=>?_) fun σ w h=>?_
 · refine yC h (fun h=>?_) fun h=>?_
   · refine zs<|zr<|zm<|yN h fun _ w h=>yv h fun _ w h=>yc h c71 fun _ w h=>yc h c75 fun _ w h=>zm<|yv h fun _ w h=>yv h fun _ w h=>zm<|zm<|zn<|zk<|zs ?_
     refine zr<|zm<|yb h fun _ w h=>yc h c52 fun _ w h=>zn<|zk<|zr<|zm<|yv h fun _ w h=>yu h fun w h=>zn<|zk ?_
     exact zt hkK1 h
   refine sim_skip<|zk ?_
   exact zt hkK1 h
 refine zk<|zs<|zs<|zr<|zm<|yN h fun _ w h=>yv h fun _ w h=>yc h c74 fun _ w h=>zn<|zk<|yJ0 [45,46,47] h (fun _ _ hkK2 h=>?_) fun σ w h=>?_
 · refine yC h (fun h=>?_) fun h=>?_
   · refine zr<|zm<|yc h c77 fun _ w h=>yv h fun _ w h=>yu h fun w h=>zn<|zk ?_
     exact zt hkK2 h
   refine sim_skip<|zk ?_
   exact zt hkK2 h
 refine zk<|zs<|sim_block<|yl0 [5,48,49,50,51,52,53,54,55,56,57,58,59,60,61,62,63,64,65,66,67,68,69,70,71,72,73,74] h fun σ w next h=>zs<|zs<|zr<|zm<|yN h fun _ w h=>yv h fun _ w h=>yc h c74 fun _ w h=>zn<|zk<|yC h (fun h=>?_) fun h=>?_
 · refine sim_skip<|zk<|sim_block<|zs<|zr<|zm<|yc h c77 fun _ w h=>yv h fun _ w h=>zm<|zn<|zk<|zs<|zr<|zm<|yN h fun _ w h=>?_
   refine yv h fun _ w h=>yc h c74 fun _ w h=>yc h c52 fun _ w h=>zn<|zk<|zs<|yh [60,61,62,63,64,65,66,67,68,69] h fun C hC h=>ye 0 hC h fun _ h=>?_
   refine ye 1 hC h fun _ h=>?_
   refine yw 2 hC ?_
   refine yw 3 hC ?_
   refine yo 4 ?_
   refine yc h c77 fun _ w h=>zn ?_
   obtain ⟨hC,h⟩:=h
   refine ⟨hC,?_⟩
   refine yo 5 ?_
   refine yv h fun _ w h=>zn ?_
   obtain ⟨hC,h⟩:=h
   refine ⟨hC,?_⟩
   refine ye 6 hC h fun _ h=>?_
   refine yo 7 ?_
   refine yS h fun _ w h=>zn ?_
   obtain ⟨hC,h⟩:=h
   refine ⟨hC,?_⟩
   refine yo 8 ?_
   refine yx h fun _ w h=>zn ?_
   obtain ⟨hC,h⟩:=h
   refine ⟨hC,?_⟩
   refine ye 9 hC h fun _ h=>?_
   refine yq 10 1 ?_
   refine yu h fun w h=>zn ?_
   obtain ⟨C5,hC,h⟩:=h
   refine ⟨C5,hC,?_⟩
   exact yz<|zk<|zr<|zm<|yN h fun _ w h=>yv h fun _ w h=>yc h c74 fun _ w h=>yc h c52 fun _ w h=>zn<|sim_block_normal<|zk<|⟨rfl,h⟩
 refine sim_exit<|sim_then_exit<|sim_then_exit<|sim_block_hit<|zk<|zs<|zs<|zr<|zm<|yN h fun _ w h=>yv h fun _ w h=>yc h c74 fun _ w h=>zn<|zk<|yJ0 [79,80,81,82,83,84,85,86,87,88,89,90,91,92,93,94,95,96,97,98,99,100,101] h (fun _ _ hkK6 h=>?_) fun σ w h=>?_
 · refine yC h (fun h=>?_) fun h=>?_
   · refine zs<|yh [79,80,81,82,83,84,85] h fun C hC h=>ye 0 hC h fun _ h=>?_
     refine ye 1 hC h fun _ h=>?_
     refine yw 2 hC ?_
     refine yo 3 ?_
     refine yc h c51 fun _ w h=>zn ?_
     obtain ⟨hC,h⟩:=h
     refine ⟨hC,?_⟩
     refine yo 4 ?_
     refine yS h fun _ w h=>zn ?_
     obtain ⟨hC,h⟩:=h
     refine ⟨hC,?_⟩
     refine yo 5 ?_
     refine yx h fun _ w h=>zn ?_
     obtain ⟨hC,h⟩:=h
     refine ⟨hC,?_⟩
     refine ye 6 hC h fun _ h=>?_
     refine yq 7 1 ?_
     refine yu h fun w h=>zn ?_
     obtain ⟨C8,hC,h⟩:=h
     refine ⟨C8,hC,?_⟩
     refine yz<|zk<|zs<|sim_block<|yl0 [86,87,88,89,90,91,92,93,94,95,96] h fun σ w next h=>zs<|zs<|zr<|zm<|yN h fun _ w h=>yv h fun _ w h=>yc h c74 fun _ w h=>zn<|zk<|yC h (fun h=>?_) fun h=>?_
     · refine sim_skip<|zk<|sim_block<|yh [90,91,92,93,94,95,96] h fun C hC h=>ye 0 hC h fun _ h=>?_
       refine ye 1 hC h fun _ h=>?_
       refine yw 2 hC ?_
       refine yo 3 ?_
       refine yc h c51 fun _ w h=>zn ?_
       obtain ⟨hC,h⟩:=h
       refine ⟨hC,?_⟩
       refine yo 4 ?_
       refine yS h fun _ w h=>zn ?_
       obtain ⟨hC,h⟩:=h
       refine ⟨hC,?_⟩
       refine yo 5 ?_
       refine yx h fun _ w h=>zn ?_
       obtain ⟨hC,h⟩:=h
       refine ⟨hC,?_⟩
       refine ye 6 hC h fun _ h=>?_
       refine yq 7 1 ?_
       refine yu h fun w h=>zn ?_
       obtain ⟨C11,hC,h⟩:=h
       refine ⟨C11,hC,?_⟩
       exact yz<|sim_block_normal<|zk<|⟨rfl,h⟩
     refine sim_exit<|sim_then_exit<|sim_then_exit<|sim_block_hit<|zk<|zr<|zm<|yN h fun _ w h=>yv h fun _ w h=>yc h c74 fun _ w h=>yc h c52 fun _ w h=>zn<|zk ?_
     exact zt hkK6 h
   refine sim_skip<|zk ?_
   exact zt hkK6 h
 refine zk<|zs<|zr<|zm<|yN h fun _ w h=>yv h fun _ w h=>yv h fun _ w h=>yb h fun _ w h=>yN h fun _ w h=>yv h fun _ w h=>yu h fun w h=>zn<|zk<|zs<|zr ?_
 exact yv h fun _ w h=>yu h fun w h=>zn<|zk<|sim_ret<|body_retC rfl rfl h
def n58 (t0:Value) (R:RT) (w:World):Prop :=
 opV Pg (Op.unary .not t0) (panK R) w fun t3 w =>
 condP t3 (
 opV Pg (Instr.makeInterface 33 (.int .i64 6)) (panK R) w fun t4 w =>
 opV Pg (Instr.panic t4) (panK R) w fun _ w =>
 False) (
 R (.returned (.tuple #[])) w)
theorem n58s {t0:Value} {R:RT} {w:World} (h:n58 t0 R w):Calls Pg 52 #[t0] w R:=by
 refine yD Tryz.func52 ?_
 exact zs<|zr<|zm<|yv h fun _ w h=>zn<|zk<|yC h (fun h=>zr<|yv h fun _ w h=>yv h fun _ w h=>zn<|h.elim) fun h=>sim_skip<|body_normal<|body_ret0 rfl h
def n38c1 (t19 t23 t30:Value) (C6:World→Prop) (next5:KV) (R:RT) (w:World):Prop :=
 qV Pg C6 (Instr.indexAt 24 t23 t19) fun t31 =>
 opU Pg (Instr.storeAt 26 t31 t30) (panK R) w fun w =>
 turnK w fun C7 w =>
 opV Pg (binS .add 3 true t19 (.int .i64 1)) (panK R) w fun t32 w =>
 next5 t32 w
def n38c2 (t1 t19:Value) (C6:World→Prop) (next5:KV) (R:RT) (w:World):Prop :=
 qV Pg C6 (Instr.fieldAt 26 t1 4) fun t22 =>
 qV Pg C6 (Instr.loadAt 24 t22) fun t23 =>
 qV Pg C6 (Instr.fieldAt 26 t1 4) fun t25 =>
 qV Pg C6 (Instr.loadAt 24 t25) fun t26 =>
 qV Pg C6 (Instr.indexAt 24 t26 t19) fun t28 =>
 qV Pg C6 (Instr.loadAt 26 t28) fun t29 =>
 callK Pg 16 #[t29] (panK R) w fun t30 w =>
 C6 w∧(
 n38c1 t19 t23 t30 C6 next5 R w)
def n38c3 (t1 t2 t18 t19:Value) (next5:KV) (R:RT) (w:World):Prop :=
 opV Pg (binS .lss 3 false t19 t18) (panK R) w fun t20 w =>
 condP t20 (
 drawK w fun C6 w =>
 n38c2 t1 t19 C6 next5 R w) (
 opV Pg (Instr.loadAt 26 t1) (panK R) w fun t33 w =>
 opU Pg (Instr.storeAt 26 t2 t33) (panK R) w fun w =>
 qW Pg 26 t2 w fun r0 =>
 R (.returned r0) w)
def n38c4 (t1 t2:Value) (R:RT) (w:World):Prop :=
 opV Pg (Instr.fieldAt 26 t1 4) (panK R) w fun t16 w =>
 opV Pg (Instr.loadAt 24 t16) (panK R) w fun t17 w =>
 opV Pg (Builtin.len_ #[24] 3 #[t17]) (panK R) w fun t18 w =>
 loop1 (fun t19 w next5 =>
 n38c3 t1 t2 t18 t19 next5 R w) (.int .i64 0) w
def n38c5 (t1 t2 t9 t12:Value) (C2:World→Prop) (R:RT) (w:World):Prop :=
 qV Pg C2 (Instr.fieldAt 26 t1 3) fun t14 =>
 opU Pg (Instr.storeAt 23 t14 t9) (panK R) w fun w =>
 turnK w fun C3 w =>
 qV Pg C3 (Instr.fieldAt 26 t1 4) fun t15 =>
 opU Pg (Instr.storeAt 24 t15 t12) (panK R) w fun w =>
 turnK w fun C4 w =>
 n38c4 t1 t2 R w
def n38c6 (t1 t2 t6 t9 t11 t13:Value) (C1:World→Prop) (R:RT) (w:World):Prop :=
 C1 w∧(
 callK Pg 49 #[t11] (panK R) w fun t12 w =>
 C1 w∧(
 opU Pg (Instr.storeAt 22 t13 t6) (panK R) w fun w =>
 turnK w fun C2 w =>
 n38c5 t1 t2 t9 t12 C2 R w))
def n38c7 (t1 t2:Value) (C1:World→Prop) (R:RT) (w:World):Prop :=
 qV Pg C1 (Instr.fieldAt 26 t1 2) fun t4 =>
 qV Pg C1 (Instr.loadAt 22 t4) fun t5 =>
 qV Pg C1 (Instr.fieldAt 26 t1 3) fun t7 =>
 qV Pg C1 (Instr.loadAt 23 t7) fun t8 =>
 qV Pg C1 (Instr.fieldAt 26 t1 4) fun t10 =>
 qV Pg C1 (Instr.loadAt 24 t10) fun t11 =>
 callK Pg 47 #[t5] (panK R) w fun t6 w =>
 C1 w∧(
 qV Pg C1 (Instr.fieldAt 26 t1 2) fun t13 =>
 callK Pg 48 #[t8] (panK R) w fun t9 w =>
 n38c6 t1 t2 t6 t9 t11 t13 C1 R w)
def n38 (t0:Value) (R:RT) (w:World):Prop :=
 opV Pg (Instr.box 26 t0) (panK R) w fun t1 w =>
 opV Pg (Instr.alloc 26 true (.tuple #[])) (panK R) w fun t2 w =>
 drawK w fun C1 w =>
 n38c7 t1 t2 C1 R w
theorem n38s {t0:Value} {R:RT} {w:World} (h:n38 t0 R w):Calls Pg 16 #[t0] w R:=by
 refine yD Tryz.func16 ?_
 refine zs<|zr<|yv h fun _ w h=>yv h fun _ w h=>zn<|zk<|zs<|yh [4,5,6,7,8,9,10,11,12,13,14,15] h fun C hC h=>ye 0 hC h fun _ h=>?_
 refine ye 1 hC h fun _ h=>?_
 refine ye 3 hC h fun _ h=>?_
 refine ye 4 hC h fun _ h=>?_
 refine ye 6 hC h fun _ h=>?_
 refine ye 7 hC h fun _ h=>?_
 refine yo 2 ?_
 refine yc h c47 fun _ w h=>zn ?_
 obtain ⟨hC,h⟩:=h
 refine ⟨hC,?_⟩
 refine ye 9 hC h fun _ h=>?_
 refine yo 5 ?_
 refine yc h c48 fun _ w h=>zn ?_
 obtain ⟨hC,h⟩:=h
 refine ⟨hC,?_⟩
 refine yo 8 ?_
 refine yc h c49 fun _ w h=>zn ?_
 obtain ⟨hC,h⟩:=h
 refine ⟨hC,?_⟩
 refine yq 10 2 ?_
 refine yu h fun w h=>zn ?_
 obtain ⟨C2,hC,h⟩:=h
 refine ⟨C2,hC,?_⟩
 refine ye 11 hC h fun _ h=>?_
 refine yq 12 2 ?_
 refine yu h fun w h=>zn ?_
 obtain ⟨C3,hC,h⟩:=h
 refine ⟨C3,hC,?_⟩
 refine ye 13 hC h fun _ h=>?_
 refine yq 14 1 ?_
 refine yu h fun w h=>zn ?_
 obtain ⟨C4,hC,h⟩:=h
 refine ⟨C4,hC,?_⟩
 refine yz<|zk<|zs<|zs<|zr<|yv h fun _ w h=>yv h fun _ w h=>yx h fun _ w h=>zm<|zn<|zk<|sim_block<|yl1 [3,19,20,21,22,23,24,25,26,27,28,29,30,31,32] 19 h fun σ w next h=>zs<|zr ?_
 refine yb h fun _ w h=>zn<|zk<|zs<|yC h (fun h=>?_) fun h=>?_
 · refine sim_skip<|zk<|zs<|sim_block<|zs<|zr<|zm<|zm<|zn<|zk<|yh [22,23,24,25,26,27,28,29,30,31] h fun C hC h=>ye 0 hC h fun _ h=>?_
   refine ye 1 hC h fun _ h=>?_
   refine yw 2 hC ?_
   refine ye 3 hC h fun _ h=>?_
   refine ye 4 hC h fun _ h=>?_
   refine yw 5 hC ?_
   refine ye 6 hC h fun _ h=>?_
   refine ye 7 hC h fun _ h=>?_
   refine yo 8 ?_
   refine yc h c16 fun _ w h=>zn ?_
   obtain ⟨hC,h⟩:=h
   refine ⟨hC,?_⟩
   refine ye 9 hC h fun _ h=>?_
   refine yq 10 1 ?_
   refine yu h fun w h=>zn ?_
   obtain ⟨C7,hC,h⟩:=h
   refine ⟨C7,hC,?_⟩
   exact yz<|sim_block_normal<|zk<|zr<|yb h fun _ w h=>zm<|zn<|zk<|⟨rfl,h⟩
 exact sim_exit<|sim_then_exit<|sim_then_exit<|sim_block_hit<|zk<|zs<|zr<|yv h fun _ w h=>yu h fun w h=>zn<|zk<|sim_ret<|body_retC rfl rfl h
def n42c1 (t2 t3:Value) (ds:List Deferred) (R:RT) (w:World):Prop :=
 opV Pg (Instr.loadAt 26 t2) (outQ Pg ds [(some 26,t2),(some 33,t3)] R) w fun t25 w =>
 opU Pg (Instr.storeAt 26 t2 t25) (outQ Pg ds [(some 26,t2),(some 33,t3)] R) w fun w =>
 opU Pg (Instr.storeAt 33 t3 (.int .i64 0)) (outQ Pg ds [(some 26,t2),(some 33,t3)] R) w fun w =>
 outX Pg ds [(some 26,t2),(some 33,t3)] R w
def n42c2 (t0 t2 t3 t14:Value) (ds:List Deferred) (R:RT) (w:World):Prop :=
 opV Pg (Instr.extract t14 0) (outQ Pg ds [(some 26,t2),(some 33,t3)] R) w fun t15 w =>
 opV Pg (Instr.extract t14 1) (outQ Pg ds [(some 26,t2),(some 33,t3)] R) w fun t16 w =>
 opV Pg (binS .eql 33 true t16 (.int .i64 0)) (outQ Pg ds [(some 26,t2),(some 33,t3)] R) w fun t18 w =>
 joinK (fun (t22:Value) (w:World) =>
 pickK t18 t22 (.bool false) fun t23 =>
 callK Pg 52 #[t23] (outQ Pg ds [(some 26,t2),(some 33,t3)] R) w fun t24 w =>
 n42c1 t2 t3 ds R w) fun K1 =>
 guardP t18 true (
 opV Pg (binS .eql 9 false t15 t0) (outQ Pg ds [(some 26,t2),(some 33,t3)] R) w fun t22 w =>
 K1 t22 w) (
 K1 undef w)
def n42c3 (t0 t2 t3 t11:Value) (ds:List Deferred) (R:RT) (w:World):Prop :=
 opU Pg (Instr.storeAt 26 t2 t11) (outQ Pg ds [(some 26,t2),(some 33,t3)] R) w fun w =>
 opV Pg (Instr.loadAt 26 t2) (outQ Pg ds [(some 26,t2),(some 33,t3)] R) w fun t13 w =>
 callK Pg 26 #[t13] (outQ Pg ds [(some 26,t2),(some 33,t3)] R) w fun t14 w =>
 n42c2 t0 t2 t3 t14 ds R w
def n42 (t0:Value) (R:RT) (w:World):Prop :=
 (fun (ds:List Deferred) =>
 opV Pg (Instr.alloc 26 true (.tuple #[])) (outQ Pg ds [(some 26,undef),(some 33,undef)] R) w fun t2 w =>
 opV Pg (Instr.alloc 33 true (.tuple #[])) (outQ Pg ds [(some 26,t2),(some 33,undef)] R) w fun t3 w =>
 opV Pg (Instr.makeFunc (.func 50) #[] #[t2,t3]) (outQ Pg ds [(some 26,t2),(some 33,t3)] R) w fun t7 w =>
 defK Pg t7 #[] ds w fun ds w =>
 opV Pg (Instr.build 83 #[(0,t0)]) (outQ Pg ds [(some 26,t2),(some 33,t3)] R) w fun t9 w =>
 opV Pg (Instr.build 85 #[(0,t9)]) (outQ Pg ds [(some 26,t2),(some 33,t3)] R) w fun t10 w =>
 opV Pg (Instr.alloc 85 true (.tuple #[])) (outQ Pg ds [(some 26,t2),(some 33,t3)] R) w fun t4 w =>
 opU Pg (Instr.storeAt 85 t4 t10) (outQ Pg ds [(some 26,t2),(some 33,t3)] R) w fun w =>
 callK Pg 51 #[t4] (outQ Pg ds [(some 26,t2),(some 33,t3)] R) w fun t11 w =>
 n42c3 t0 t2 t3 t11 ds R w) []
theorem n42s {t0:Value} {R:RT} {w:World} (h:n42 t0 R w):Calls Pg 18 #[t0] w R:=by
 refine yE Tryz.func18 ?_
 unfold n42 at h
 dsimp only at h
 refine zs<|zr<|yv h fun _ w h=>yv h fun _ w h=>zn<|zk<|zs<|zr<|yF h fun _ w h=>?_
 refine sim_defer h rfl rfl ?_;intro ds w h
 refine zn<|zk<|zs<|zr<|zm<|yB h fun _ w h=>yB h fun _ w h=>yv h fun _ w h=>yu h fun w h=>zn<|zk<|zs<|zr<|yc h c51 fun _ w h=>yu h fun w h=>?_
 refine zn<|zk<|zs<|zr<|yv h fun _ w h=>yc h c26 fun _ w h=>zm<|yv h fun _ w h=>yv h fun _ w h=>zm<|zm<|zn<|zk<|zs<|sim_regionG ?_
 refine yG 3<|zm<|yb h fun _ w h=>zm<|zn<|yg1 3 2 true [20,21,22] 22 h (fun _ T hT h=>?_) fun σ w h=>?_
 · refine zm<|zm<|yb h fun _ w h=>zn ?_
   exact zt hT h
 exact yG 2<|yp h fun _ h=>yc h c52 fun _ w h=>zn<|sim_end<|zk<|zs<|zr<|yv h fun _ w h=>yu h fun w h=>yu h fun w h=>zn<|zk<|sim_ret<|bodyM_ret rfl h
theorem push_list:∀ (l:List UInt8) (r:ByteArray),(l.map fun c=>(c.toNat:Int)).foldl (fun r n=>r.push (UInt8.ofNat n.toNat)) r=⟨r.data++l.toArray⟩
 | [],r=>by simp
 | c::l,r=>by
  rw [List.map_cons,List.foldl_cons,push_list l]
  apply ByteArray.ext
  show (r.data.push (UInt8.ofNat ((c.toNat:Int)).toNat))++l.toArray=_
  rw [Int.toNat_natCast,UInt8.ofNat_toNat]
  simp
theorem op_bytesStr {w:World} {QP:List PanicEntry→World→Prop} {k:Value→World→Prop} {v:Value} {l:List UInt8} (h:BytesOf w v l):opV Pg (Go.convert 22 9 v) QP w k=k (.string ⟨l.toArray⟩) w:=by
 refine opV_ok ?_
 obtain ⟨A,c,rfl,_,_,_,hel⟩:=SliceOf.open h
 rw [run_convert_bytes_string w _ _ 5 _ _ _ Tryz.underlying22 Tryz.underlying5 Tryz.underlying9]
 cases l with
 | nil =>
  cases A with
  | none=>rfl
  | some a =>
   have:=run_bytesToString (P:=Pg) w a 0 c [] rfl
   exact this
 | cons x l =>
  obtain ⟨b,o,cs,rfl,_,_,_⟩:=hel 0 x rfl
  have hl:=run_loadCells_list (P:=Pg) (w:=w) ⟨b,o,none⟩ ((x::l).map fun c=>Value.int .u8 (c.toNat:Int)) fun j y hy=>by
   rw [List.getElem?_map] at hy
   obtain ⟨z,hz,rfl⟩:=Option.map_eq_some_iff.1 hy
   obtain ⟨b',o',cs',hA,_,hE,rfl⟩:=hel j z hz
   injection hA with hA
   injection hA with h1 h2
   subst h1 h2
   have:=hE 0 (.int .u8 z.toNat) rfl
   rw [Addr.add_lit]
   simpa using this
  have:=run_bytesToString (P:=Pg) w ⟨b,o,none⟩ (x::l).length c ((x::l).map fun c=>(c.toNat:Int)) (by
   rw [List.map_map]
   rw [List.length_map] at hl
   exact hl)
  rw [this,push_list]
  congr 2
  apply ByteArray.ext
  show (#[]:Array UInt8)++_=_
  simp
def shortN (n:Nd):Bool:=decide (n.name.size≤1000000000)&&decide (n.bytes.length≤1000000000)&&n.hdrs.all fun x=>decide (x.1.size≤1000000000)&&decide (x.2.size≤1000000000)
noncomputable def shortT:Tr→Bool:=allT shortN
theorem lasts2_marks {B:Nat} {bs:List Nat} (h:∀ b∈bs,b < B):Lasts2 B (fun w=>∀ b∈bs,MarkAt b w):=fun w w' hl hm b hb=>Lasts2.low (h b hb) _ w w' hl (hm b hb)
theorem outs_lasts {B:Nat} {Q:World→Prop} (hQ:Lasts2 B Q) {L:List (Option TypeId×Value)} {R:RT} {bs:List Nat} (hk:∀ w,Q w→outX Pg [] L R w):∀ {w:World},bs.Nodup→(∀ b∈bs,MarkAt b w)→(∀ b∈bs,B≤b)→Q w→outX Pg (bs.map Sw.mark) L R w:=by
 induction bs with
 | nil=>exact fun _ _ _ h=>hk _ h
 | cons b bs ih =>
  intro w hn hm hB h
  obtain ⟨hb,hn'⟩:=List.nodup_cons.1 hn
  have hmb:=hm b (List.mem_cons_self ..)
  refine outX_mark hmb (ih hn' (fun c hc=>?_) (fun c hc=>hB c (List.mem_cons_of_mem _ hc)) (hQ.mark (hB b (List.mem_cons_self ..)) h hmb _))
  exact (World.putObj_heap_other (fun (e:c=b)=>hb (by rw [← e];exact hc))).trans (hm c (List.mem_cons_of_mem _ hc))
theorem outq_lasts {B:Nat} {Q:World→Prop} (hQ:Lasts2 B Q) {L:List (Option TypeId×Value)} {R:RT} {ch:List PanicEntry} {bs:List Nat} (hk:∀ w,Q w→R (.panicked ch) w):∀ {w:World},bs.Nodup→(∀ b∈bs,MarkAt b w)→(∀ b∈bs,B≤b)→Q w→outQ Pg (bs.map Sw.mark) L R ch w:=by
 induction bs with
 | nil=>intro w _ _ _ h;rw [List.map_nil,outQ_nil];exact hk _ h
 | cons b bs ih =>
  intro w hn hm hB h
  obtain ⟨hb,hn'⟩:=List.nodup_cons.1 hn
  have hmb:=hm b (List.mem_cons_self ..)
  refine outQ_mark hmb (ih hn' (fun c hc=>?_) (fun c hc=>hB c (List.mem_cons_of_mem _ hc)) (hQ.mark (hB b (List.mem_cons_self ..)) h hmb _))
  exact (World.putObj_heap_other (fun (e:c=b)=>hb (by rw [← e];exact hc))).trans (hm c (List.mem_cons_of_mem _ hc))
def offL {α:Type _} (LL:List (List α)) (k:Nat):Nat:=((LL.take k).map List.length).sum
theorem offL_succ {α:Type _} {LL:List (List α)} {k:Nat} {l:List α} (h:LL[k]?=some l):offL LL (k+1)=offL LL k+l.length:=by
 unfold offL
 rw [List.take_add_one,h]
 simp
theorem offL_all {α:Type _} (LL:List (List α)):offL LL LL.length=LL.flatten.length:=by
 unfold offL
 rw [List.take_length,List.length_flatten]
theorem flat_at {α:Type _}:∀ {LL:List (List α)} {k:Nat} {l:List α} {j:Nat},LL[k]?=some l→j < l.length→LL.flatten[offL LL k+j]?=l[j]?
 | [],k,l,j,h,_=>by simp at h
 | a::LL,0,l,j,h,hj=>by
  simp only [List.getElem?_cons_zero,Option.some.injEq] at h
  subst h
  simp [offL,List.getElem?_append_left hj]
 | a::LL,k+1,l,j,h,hj=>by
  have:=flat_at (LL:=LL) (k:=k) (l:=l) (j:=j) (by simpa using h) hj
  unfold offL at this ⊢
  rw [List.take_succ_cons,List.map_cons,List.sum_cons,List.flatten_cons,Nat.add_assoc,List.getElem?_append_right (by omega),Nat.add_sub_cancel_left]
  exact this
theorem offL_le {α:Type _} {LL:List (List α)} {k:Nat} {l:List α} (h:LL[k]?=some l):offL LL k+l.length≤LL.flatten.length:=by
 rw [← offL_succ h,← offL_all]
 unfold offL
 have hk:k < LL.length:=(List.getElem?_eq_some_iff.1 h).1
 rw [List.take_length]
 have:(LL.map List.length).sum=((LL.take (k+1)).map List.length).sum+((LL.drop (k+1)).map List.length).sum:=by
  rw [← List.sum_append_nat,← List.map_append,List.take_append_drop]
 omega
theorem offL_congr {α β:Type _} {A:List (List α)} {B:List (List β)} (h:A.map List.length=B.map List.length) (k:Nat):offL A k=offL B k:=by
 unfold offL
 rw [List.map_take,List.map_take,h]
def xsE (L:List (Nat×Tr)) (k:Nat):Value:=match L[k]? with
 | some x => .int .i64 (x.1:Int)
 | none => .int .i64 0
def ysE (vs:List Value) (k:Nat):Value:=(vs[k]?).getD (.int .i64 0)
theorem xsE_congr {L L':List (Nat×Tr)} {k k':Nat} (h:L[k]?=L'[k']?):xsE L k=xsE L' k':=by unfold xsE;rw [h]
theorem ysE_congr {L L':List Value} {k k':Nat} (h:L[k]?=L'[k']?):ysE L k=ysE L' k':=by unfold ysE;rw [h]
def Hold (W:World) (vs:List Value) (L:List (Nat×Tr)):Prop:=vs.length=L.length∧∀ (k:Nat) (v:Value) (x:Nat×Tr),vs[k]?=some v→L[k]?=some x→ValAt W v x.2
theorem Hold.at {W:World} {vs:List Value} {L:List (Nat×Tr)} (h:Hold W vs L) {k:Nat} (hk:k < L.length):∃ x,L[k]?=some x∧xsE L k = .int .i64 (x.1:Int)∧ValAt W (ysE vs k) x.2:=by
 obtain ⟨x,hx⟩:=getElem?_lt hk
 obtain ⟨v,hv⟩:=getElem?_lt (l:=vs) (k:=k) (by rw [h.1];exact hk)
 refine ⟨x,hx,by unfold xsE;rw [hx],?_⟩
 unfold ysE
 rw [hv]
 exact h.2 k v x hv hx
theorem Hold.cons {W:World} {v:Value} {t:Tr} {a:Nat} {vss:List (List Value)} {LL:List (List (Nat×Tr))} (h:ValAt W v t) (hl:vss.length=LL.length) (hH:∀ (k:Nat) (vs:List Value) (L:List (Nat×Tr)),vss[k]?=some vs→LL[k]?=some L→Hold W vs L):Hold W (v::vss.flatten) ((a,t)::LL.flatten):=by
 have key:∀ (vss:List (List Value)) (LL:List (List (Nat×Tr))),vss.length=LL.length→(∀ (k:Nat) (vs:List Value) (L:List (Nat×Tr)),vss[k]?=some vs→LL[k]?=some L→Hold W vs L)→Hold W vss.flatten LL.flatten:=by
  intro vss
  induction vss with
  | nil =>
   intro LL hl _
   have:LL=[]:=List.eq_nil_of_length_eq_zero (by simpa using hl.symm)
   subst this
   exact ⟨rfl,fun k v x hv=>by cases hv⟩
  | cons vs vss ih =>
   intro LL hl hH
   cases LL with
   | nil=>cases hl
   | cons L LL =>
    have h0:=hH 0 vs L rfl rfl
    have h1:=ih LL (by simpa using hl) fun k a b ha hb=>hH (k+1) a b (by simpa using ha) (by simpa using hb)
    refine ⟨by rw [List.flatten_cons,List.flatten_cons,List.length_append,List.length_append,h0.1,h1.1],fun k v x hv hx=>?_⟩
    rw [List.flatten_cons] at hv hx
    rcases Nat.lt_or_ge k L.length with hk | hk
    · rw [List.getElem?_append_left (by rw [h0.1];exact hk)] at hv
      rw [List.getElem?_append_left hk] at hx
      exact h0.2 k v x hv hx
    · rw [List.getElem?_append_right (by rw [h0.1];exact hk),h0.1] at hv
      rw [List.getElem?_append_right hk] at hx
      exact h1.2 _ v x hv hx
 have h1:=key vss LL hl hH
 refine ⟨by rw [List.length_cons,List.length_cons,h1.1],fun k u x hv hx=>?_⟩
 cases k with
 | zero =>
  simp only [List.getElem?_cons_zero,Option.some.injEq] at hv hx
  subst hv hx
  exact h
 | succ k=>exact h1.2 k u x (by simpa using hv) (by simpa using hx)
def EaAt (W:World) (p1 p2 a:Nat) (cs:Array Value) (w:World):Prop:=Ext W w∧w.heap[p1]?=some (.cells #[.int .i64 (a:Int)] 3 (0,0))∧w.heap[p2]?=some (.cells cs 26 (0,0))
def EachSeq (W:World) (v:Value) (t:Tr) (a:Nat) (vs:List Value):Prop:=∀ p1 p2 cs,v = .agg cs→SeqIt2 Pg 85 #[.pointer (some ⟨p1,0,none⟩),.pointer (some ⟨p2,0,none⟩)] (eachT t a).length (xsE (eachT t a)) (ysE vs) (EaAt W p1 p2 a cs)
def n68c1 (t4 t9:Value) (Kr1:World→Prop) (Qr1:List PanicEntry→World→Prop) (R:RT) (w:World):Prop :=
 opV Pg (Instr.loadAt 120 t4) Qr1 w fun t51 w =>
 opV Pg (Instr.loadAt 106 t9) Qr1 w fun t52 w =>
 opV Pg (Instr.buildSlice 120 1 #[(0,t52)]) Qr1 w fun t53 w =>
 opV Pg (Builtin.append_ #[120,120] 120 #[t51,t53]) Qr1 w fun t54 w =>
 opU Pg (Instr.storeAt 120 t4 t54) Qr1 w fun w =>
 Kr1 w
def n68c2 (t2 t3 t4 t9 t49:Value) (Kr1:World→Prop) (Qr1:List PanicEntry→World→Prop) (Xr1:Nat→World→Prop) (R:RT) (w:World):Prop :=
 opV Pg (Op.unary .not t49) Qr1 w fun t50 w =>
 condP t50 (
 opU Pg (Instr.storeAt 120 t2 (Value.slice none 0 0)) Qr1 w fun w =>
 opU Pg (Instr.storeAt 4 t3 (.bool false)) Qr1 w fun w =>
 Xr1 0 w) (
 n68c1 t4 t9 Kr1 Qr1 R w)
def n68c3 (t9 t41:Value) (K2:World→Prop) (Qr1:List PanicEntry→World→Prop) (R:RT) (w:World):Prop :=
 opV Pg (Instr.extract t41 0) Qr1 w fun t42 w =>
 opV Pg (Instr.extract t41 1) Qr1 w fun t43 w =>
 opV Pg (binS .eql 113 true t43 .nilIface) Qr1 w fun t45 w =>
 condP t45 (
 opV Pg (Instr.fieldAt 106 t9 1) Qr1 w fun t47 w =>
 opU Pg (Instr.storeAt 3 t47 t42) Qr1 w fun w =>
 K2 w) (
 K2 w)
def n68c4 (t9 t21:Value) (K2:World→Prop) (Qr1:List PanicEntry→World→Prop) (R:RT) (w:World):Prop :=
 opV Pg (Instr.fieldAt 106 t9 1) Qr1 w fun t38 w =>
 opU Pg (Instr.storeAt 3 t38 (.int .i64 65536)) Qr1 w fun w =>
 callK Pg 75 #[t21] Qr1 w fun t41 w =>
 n68c3 t9 t41 K2 Qr1 R w
def n68c5 (t2 t3 t9 t21 t32 t36:Value) (K2:World→Prop) (Qr1:List PanicEntry→World→Prop) (Xr1:Nat→World→Prop) (R:RT) (w:World):Prop :=
 pickK t32 (.bool true) t36 fun t37 =>
 condP t37 (
 opU Pg (Instr.storeAt 120 t2 (Value.slice none 0 0)) Qr1 w fun w =>
 opU Pg (Instr.storeAt 4 t3 (.bool false)) Qr1 w fun w =>
 Xr1 0 w) (
 n68c4 t9 t21 K2 Qr1 R w)
def n68c6 (t2 t3 t9 t21 t28 t31:Value) (K2:World→Prop) (Qr1:List PanicEntry→World→Prop) (Xr1:Nat→World→Prop) (R:RT) (w:World):Prop :=
 pickK t28 (.bool true) t31 fun t32 =>
 joinK (fun (t36:Value) (w:World) =>
 n68c5 t2 t3 t9 t21 t32 t36 K2 Qr1 Xr1 R w) fun K4 =>
 guardP t32 false (
 opV Pg (Instr.index 9 t21 (.int .i64 0)) Qr1 w fun t35 w =>
 opV Pg (binS .eql 5 true t35 (.int .u8 48)) Qr1 w fun t36 w =>
 K4 t36 w) (
 K4 undef w)
def n68c7 (t2 t3 t9 t21 t27:Value) (K2:World→Prop) (Qr1:List PanicEntry→World→Prop) (Xr1:Nat→World→Prop) (R:RT) (w:World):Prop :=
 opV Pg (binS .neq 9 true t27 (.string { data := #[] })) Qr1 w fun t28 w =>
 joinK (fun (t31:Value) (w:World) =>
 n68c6 t2 t3 t9 t21 t28 t31 K2 Qr1 Xr1 R w) fun K3 =>
 guardP t28 false (
 opV Pg (binS .eql 9 true t21 (.string { data := #[] })) Qr1 w fun t31 w =>
 K3 t31 w) (
 K3 undef w)
def n68c8 (t2 t3 t4 t19:Value) (Kr1:World→Prop) (Qr1:List PanicEntry→World→Prop) (Xr1:Nat→World→Prop) (R:RT) (w:World):Prop :=
 opV Pg (Instr.extract t19 0) Qr1 w fun t20 w =>
 opV Pg (Instr.extract t19 1) Qr1 w fun t21 w =>
 opV Pg (Instr.extract t19 2) Qr1 w fun t22 w =>
 opV Pg (Instr.build 106 #[(0,t20)]) Qr1 w fun t24 w =>
 opV Pg (Instr.alloc 106 true (.tuple #[])) Qr1 w fun t9 w =>
 opU Pg (Instr.storeAt 106 t9 t24) Qr1 w fun w =>
 joinK (fun (w:World) =>
 callK Pg 73 #[t20] Qr1 w fun t49 w =>
 n68c2 t2 t3 t4 t9 t49 Kr1 Qr1 Xr1 R w) fun K2 =>
 condP t22 (
 callK Pg 108 #[t21,(.string { data := #[48,49,50,51,52,53,54,55,56,57] })] Qr1 w fun t27 w =>
 n68c7 t2 t3 t9 t21 t27 K2 Qr1 Xr1 R w) (
 K2 w)
def n68c9 (t2 t3 t4:Value) (ds:List Deferred) (R:RT) (w:World):Prop :=
 opV Pg (Instr.loadAt 120 t4) (outQ Pg ds [(some 120,t2),(some 4,t3)] R) w fun t55 w =>
 opU Pg (Instr.storeAt 120 t2 t55) (outQ Pg ds [(some 120,t2),(some 4,t3)] R) w fun w =>
 opU Pg (Instr.storeAt 4 t3 (.bool true)) (outQ Pg ds [(some 120,t2),(some 4,t3)] R) w fun w =>
 outX Pg ds [(some 120,t2),(some 4,t3)] R w
def n68c10 (t2 t3 t4 t15:Value) (ds:List Deferred) (R:RT) (w:World):Prop :=
 Sw.rangeN8 Pg t15 ds (fun l1 t16 w Kr1 Xr1 Qr1 =>
 busyK l1 w fun w =>
 callK Pg 107 #[t16,(.string { data := #[58] })] Qr1 w fun t19 w =>
 n68c8 t2 t3 t4 t19 Kr1 Qr1 Xr1 R w) (fun ch ds w=>outQ Pg ds [(some 120,t2),(some 4,t3)] R ch w) w (fun ds w =>
 n68c9 t2 t3 t4 ds R w) [fun ds w =>
 outX Pg ds [(some 120,t2),(some 4,t3)] R w]
def n68c11 (t2 t3:Value) (ds:List Deferred) (R:RT) (w:World):Prop :=
 opU Pg (Instr.storeAt 120 t2 (Value.slice none 0 0)) (outQ Pg ds [(some 120,t2),(some 4,t3)] R) w fun w =>
 opU Pg (Instr.storeAt 4 t3 (.bool true)) (outQ Pg ds [(some 120,t2),(some 4,t3)] R) w fun w =>
 outX Pg ds [(some 120,t2),(some 4,t3)] R w
def n68c12 (t0 t2 t3:Value) (ds:List Deferred) (R:RT) (w:World):Prop :=
 opV Pg (Instr.alloc 120 true (.tuple #[])) (outQ Pg ds [(some 120,t2),(some 4,t3)] R) w fun t4 w =>
 callK Pg 106 #[t0,(.string { data := #[46] })] (outQ Pg ds [(some 120,t2),(some 4,t3)] R) w fun t15 w =>
 n68c10 t2 t3 t4 t15 ds R w
def n68 (t0:Value) (R:RT) (w:World):Prop :=
 (fun (ds:List Deferred) =>
 opV Pg (Instr.alloc 120 true (.tuple #[])) (outQ Pg ds [(some 120,undef),(some 4,undef)] R) w fun t2 w =>
 opV Pg (Instr.alloc 4 true (.tuple #[])) (outQ Pg ds [(some 120,t2),(some 4,undef)] R) w fun t3 w =>
 opV Pg (binS .eql 9 true t0 (.string { data := #[] })) (outQ Pg ds [(some 120,t2),(some 4,t3)] R) w fun t13 w =>
 condP t13 (
 n68c11 t2 t3 ds R w) (
 n68c12 t0 t2 t3 ds R w)) []
set_option maxHeartbeats 40000000 in
theorem n68s {t0:Value} {R:RT} {w:World} (h:n68 t0 R w):Calls Pg 81 #[t0] w R:=by
 refine yE Tryz.func81 ?_
 unfold n68 at h
 dsimp only at h
 refine zs<|zr<|yv h fun _ w h=>yv h fun _ w h=>zn<|zk<|zs<|zs<|zr<|zm<|yb h fun _ w h=>zn<|zk<|yC h (fun h=>zs<|zr<|yu h fun w h=>yu h fun w h=>zn<|zk<|sim_ret<|sim_then_ret<|bodyM_ret rfl h) fun h=>?_
 refine sim_skip<|zk<|zs<|zr<|yv h fun _ w h=>zn<|zk<|zs<|zs<|zr<|zm<|yc h c106 fun _ w h=>zn<|zk<|sim_block ?_
 refine sim_range8 [.ret] h rfl (fun l1 t16 w Kr1 Xr1 Qr1 h=>?_) (fun ds w h=>?_) (fun c ds w h=>?_) (fun ch ds w h=>outQ_of rfl h)
 · refine zr<|zm<|zn<|zk ?_
   obtain ⟨hr,h⟩:=h
   refine ⟨rfl,hr,fun w hb=>?_⟩
   have h:=h w hb
   refine sim_block<|zs<|zr<|zm<|yc h c107 fun _ w h=>zm<|yv h fun _ w h=>yv h fun _ w h=>yv h fun _ w h=>zm<|zm<|zm<|zn<|zk<|zs ?_
   refine zr<|zm<|yB h fun _ w h=>yv h fun _ w h=>yu h fun w h=>zn<|zk<|zs<|zs<|zr<|zm<|zn<|zk<|yJ0 [10,11,26,27,28,29,30,31,32,33,34,35,36,37,38,39,40,41,42,43,44,45,46,47] h (fun _ _ hkK2 h=>?_) fun σ w h=>?_
   · refine yC h (fun h=>?_) fun h=>?_
     · refine zs<|zs<|sim_regionG<|yG 4<|zm<|yc h c108 fun _ w h=>yb h fun _ w h=>zm<|zn<|yg1 2 3 false [30,31] 31 h (fun _ T hT h=>?_) fun σ w h=>?_
       · refine zm<|yb h fun _ w h=>zn ?_
         exact zt hT h
       refine yG 2<|yp h fun _ h=>zm<|zn<|yg1 3 7 false [34,35,36] 36 h (fun _ T hT h=>?_) fun σ w h=>?_
       · refine zm<|yv h fun _ w h=>yb h fun _ w h=>zn ?_
         exact zt hT h
       refine yG 1<|yp h fun _ h=>zn<|sim_end<|zk<|yC h (fun h=>zs<|zr<|yu h fun w h=>yu h fun w h=>zn<|zk<|sim_ret<|sim_then_ret<|sim_then_ret<|sim_then_ret<|sim_block_ret<|⟨rfl,0,rfl,h⟩) fun h=>sim_skip<|zk<|zs<|zr<|yv h fun _ w h=>yu h fun w h=>zn<|zk ?_
       refine zs<|zr<|zm<|yc h c75 fun _ w h=>zm<|yv h fun _ w h=>yv h fun _ w h=>zm<|zm<|zn<|zk<|zs<|zr<|zm<|yb h fun _ w h=>?_
       refine zn<|zk<|yC h (fun h=>?_) fun h=>?_
       · refine zr<|zm<|yv h fun _ w h=>yu h fun w h=>zn<|zk ?_
         exact zt hkK2 h
       refine sim_skip<|zk ?_
       exact zt hkK2 h
     refine sim_skip<|zk ?_
     exact zt hkK2 h
   refine zk<|zs<|zs<|zr<|zm<|yc h c73 fun _ w h=>yv h fun _ w h=>zn<|zk<|yC h (fun h=>zs<|zr<|yu h fun w h=>yu h fun w h=>zn<|zk<|sim_ret<|sim_then_ret<|sim_block_ret<|⟨rfl,0,rfl,h⟩) fun h=>sim_skip<|zk<|zr<|yv h fun _ w h=>?_
   exact yv h fun _ w h=>yS h fun _ w h=>yx h fun _ w h=>yu h fun w h=>zn<|sim_block_normal<|⟨rfl,h⟩
 · exact sim_block_normal<|zk<|zs<|zr<|yv h fun _ w h=>yu h fun w h=>yu h fun w h=>zn<|zk<|sim_ret<|bodyM_ret rfl h
 rcases c with _ | c
 · refine ⟨_,rfl,.inl ⟨rfl,?_⟩⟩
   exact sim_block_ret<|sim_then_ret<|bodyM_ret rfl h
 exact h.elim
def n70c1 (t3 t10 t52:Value) (Kr5:World→Prop) (Qr5:List PanicEntry→World→Prop) (Xr5:Nat→World→Prop) (R:RT) (w:World):Prop :=
 opV Pg (Instr.loadAt 97 t3) Qr5 w fun t54 w =>
 opV Pg (Instr.loadAt 26 t10) Qr5 w fun t56 w =>
 callV Pg t54 #[t52,t56] Qr5 w fun t57 w =>
 opV Pg (Op.unary .not t57) Qr5 w fun t58 w =>
 condP t58 (
 Xr5 0 w) (
 Kr5 w)
def n70c2 (t3 t52 t53:Value) (Kr5:World→Prop) (Qr5:List PanicEntry→World→Prop) (Xr5:Nat→World→Prop) (l5:Nat) (R:RT) (w:World):Prop :=
 opV Pg (Instr.alloc 26 true (.tuple #[])) (fun _ _=>False) w fun t10 w =>
 opU Pg (Instr.storeAt 26 t10 t53) (fun _ _=>False) w fun w =>
 busyK l5 w fun w =>
 n70c1 t3 t10 t52 Kr5 Qr5 Xr5 R w
def n70c3 (t3 t21 t51:Value) (next2:List Deferred→Value→World→Prop) (ds:List Deferred) (R:RT) (w:World):Prop :=
 Sw.rangeN7 Pg t51 ds (fun l5 t52 t53 w Kr5 Xr5 Qr5 =>
 n70c2 t3 t52 t53 Kr5 Qr5 Xr5 l5 R w) (fun ch ds w=>outQ Pg ds [] R ch w) w (fun ds w =>
 opV Pg (binS .add 3 true t21 (.int .i64 1)) (outQ Pg ds [] R) w fun t59 w =>
 next2 ds t59 w) [fun ds w =>
 outX Pg ds [] R w]
def n70c4 (t1 t7:Value) (K4:KV) (ds:List Deferred) (R:RT) (w:World):Prop :=
 opV Pg (Instr.loadAt 9 t1) (outQ Pg ds [] R) w fun t45 w =>
 opV Pg (binS .add 9 true t45 (.string { data := #[46] })) (outQ Pg ds [] R) w fun t46 w =>
 opV Pg (binS .add 9 false t46 t7) (outQ Pg ds [] R) w fun t48 w =>
 K4 t48 w
def n70c5 (t1 t3 t6 t7 t17 t21:Value) (next2:List Deferred→Value→World→Prop) (ds:List Deferred) (R:RT) (w:World):Prop :=
 opV Pg (Instr.fieldAt 26 t6 0) (outQ Pg ds [] R) w fun t39 w =>
 opV Pg (Instr.loadAt 9 t39) (outQ Pg ds [] R) w fun t40 w =>
 opV Pg (Instr.lookup 123 t17 t40 false) (outQ Pg ds [] R) w fun t41 w =>
 opV Pg (binS .add 3 true t41 (.int .i64 1)) (outQ Pg ds [] R) w fun t42 w =>
 opU Pg (Instr.mapUpdate 123 t17 t40 t42) (outQ Pg ds [] R) w fun w =>
 opV Pg (Instr.loadAt 9 t1) (outQ Pg ds [] R) w fun t43 w =>
 opV Pg (binS .neq 9 true t43 (.string { data := #[] })) (outQ Pg ds [] R) w fun t44 w =>
 joinK (fun (t7:Value) (w:World) =>
 opV Pg (Instr.loadAt 26 t6) (outQ Pg ds [] R) w fun t49 w =>
 callK Pg 59 #[t49,t7] (outQ Pg ds [] R) w fun t51 w =>
 n70c3 t3 t21 t51 next2 ds R w) fun K4 =>
 condP t44 (
 n70c4 t1 t7 K4 ds R w) (
 K4 t7 w)
def n70c6 (t26 t35:Value) (K3:KV) (ds:List Deferred) (R:RT) (w:World):Prop :=
 opV Pg (binS .add 9 true (.string { data := #[58] }) t35) (outQ Pg ds [] R) w fun t36 w =>
 opV Pg (binS .add 9 false t26 t36) (outQ Pg ds [] R) w fun t37 w =>
 K3 t37 w
def n70c7 (t1 t3 t17 t19 t21:Value) (next2:List Deferred→Value→World→Prop) (ds:List Deferred) (R:RT) (w:World):Prop :=
 opV Pg (Instr.indexAt 24 t19 t21) (outQ Pg ds [] R) w fun t23 w =>
 opV Pg (Instr.loadAt 26 t23) (outQ Pg ds [] R) w fun t24 w =>
 opV Pg (Instr.alloc 26 true (.tuple #[])) (outQ Pg ds [] R) w fun t6 w =>
 opU Pg (Instr.storeAt 26 t6 t24) (outQ Pg ds [] R) w fun w =>
 opV Pg (Instr.fieldAt 26 t6 0) (outQ Pg ds [] R) w fun t25 w =>
 opV Pg (Instr.loadAt 9 t25) (outQ Pg ds [] R) w fun t26 w =>
 opV Pg (Instr.fieldAt 26 t6 0) (outQ Pg ds [] R) w fun t28 w =>
 opV Pg (Instr.loadAt 9 t28) (outQ Pg ds [] R) w fun t29 w =>
 opV Pg (Instr.lookup 123 t17 t29 false) (outQ Pg ds [] R) w fun t30 w =>
 opV Pg (binS .gtr 3 true t30 (.int .i64 0)) (outQ Pg ds [] R) w fun t32 w =>
 joinK (fun (t7:Value) (w:World) =>
 n70c5 t1 t3 t6 t7 t17 t21 next2 ds R w) fun K3 =>
 condP t32 (
 callK Pg 83 #[t30] (outQ Pg ds [] R) w fun t35 w =>
 n70c6 t26 t35 K3 ds R w) (
 K3 t26 w)
def n70c8 (t1 t2 t3:Value) (ds:List Deferred) (R:RT) (w:World):Prop :=
 opV Pg (Instr.makeMap 123 none) (outQ Pg ds [] R) w fun t17 w =>
 opV Pg (Instr.fieldAt 26 t2 4) (outQ Pg ds [] R) w fun t18 w =>
 opV Pg (Instr.loadAt 24 t18) (outQ Pg ds [] R) w fun t19 w =>
 opV Pg (Builtin.len_ #[24] 3 #[t19]) (outQ Pg ds [] R) w fun t20 w =>
 loopM1 (fun ds t21 w next2 =>
 opV Pg (binS .lss 3 false t21 t20) (outQ Pg ds [] R) w fun t22 w =>
 condP t22 (
 n70c7 t1 t3 t17 t19 t21 next2 ds R w) (
 outX Pg ds [] R w)) ds (.int .i64 0) w
def n70c9 (t1 t2 t3 t11 t12 t14:Value) (C1:World→Prop) (ds:List Deferred) (R:RT) (w:World):Prop :=
 callV Pg t11 #[t12,t14] (outQ Pg ds [] R) w fun t15 w =>
 C1 w∧(
 qV Pg C1 (Op.unary .not t15) fun t16 =>
 condP t16 (
 outX Pg ds [] R w) (
 n70c8 t1 t2 t3 ds R w))
def n70c10 (t1 t2 t3:Value) (C1:World→Prop) (ds:List Deferred) (R:RT) (w:World):Prop :=
 qV Pg C1 (Instr.loadAt 97 t3) fun t11 =>
 qV Pg C1 (Instr.loadAt 9 t1) fun t12 =>
 qV Pg C1 (Instr.loadAt 26 t2) fun t13 =>
 callK Pg 16 #[t13] (outQ Pg ds [] R) w fun t14 w =>
 C1 w∧(
 n70c9 t1 t2 t3 t11 t12 t14 C1 ds R w)
def n70 (t0 t1 t2:Value) (R:RT) (w:World):Prop :=
 (fun (ds:List Deferred) =>
 opV Pg (Instr.box 97 t0) (outQ Pg ds [] R) w fun t3 w =>
 drawK w fun C1 w =>
 n70c10 t1 t2 t3 C1 ds R w) []
set_option maxHeartbeats 40000000 in
theorem n70s {t0 t1 t2:Value} {R:RT} {w:World} (h:n70 t0 t1 t2 R w):Calls Pg 82 #[t0,t1,t2] w R:=by
 refine yE Tryz.func82 ?_
 unfold n70 at h
 dsimp only at h
 refine zs<|zr<|yv h fun _ w h=>zn<|zk<|sim_scope<|zs<|zs<|yh [11,12,13,14,15,16] h fun C hC h=>ye 0 hC h fun _ h=>?_
 refine ye 1 hC h fun _ h=>?_
 refine ye 2 hC h fun _ h=>?_
 refine yo 3 ?_
 refine yc h c16 fun _ w h=>zn ?_
 obtain ⟨hC,h⟩:=h
 refine ⟨hC,?_⟩
 refine yo 4 ?_
 refine yV h fun _ w h=>zn ?_
 obtain ⟨hC,h⟩:=h
 refine ⟨hC,?_⟩
 refine ye 5 hC h fun _ h=>?_
 refine yz<|zk<|yC h (fun h=>sim_ret<|sim_then_ret<|bodyM_ret rfl h) fun h=>sim_skip<|zk<|zs<|zr<|yv h fun _ w h=>zm<|zn<|zk<|zs<|sim_label<|zk ?_
 refine zs<|zr<|yv h fun _ w h=>yv h fun _ w h=>yx h fun _ w h=>zm<|zn<|zk<|sim_block<|yL1 [6,7,8,21,22,23,24,25,26,27,28,29,30,31,32,33,34,35,36,37,38,39,40,41,42,43,44,45,46,47,48,49,50,51,59] 21 h fun σ ds w next h=>zs<|zr<|yb h fun _ w h=>zn<|zk ?_
 refine zs<|yC h (fun h=>?_) fun h=>?_
 · refine sim_skip<|zk<|zs<|sim_block<|zs<|zr<|yv h fun _ w h=>yv h fun _ w h=>yv h fun _ w h=>yu h fun w h=>zn<|zk<|zs<|zr<|yv h fun _ w h=>?_
   refine yv h fun _ w h=>zm<|zn<|zk<|zs<|zs<|zr<|zm<|yv h fun _ w h=>yv h fun _ w h=>yv h fun _ w h=>zm<|zn<|zk<|zs ?_
   refine zr<|zm<|yb h fun _ w h=>zn<|zk<|yJ1 [7,33,34,35,36,37] 7 h (fun _ _ hkK3 h=>?_) fun σ w h=>?_
   · refine yC h (fun h=>?_) fun h=>?_
     · refine zr<|zm<|zm<|yc h c83 fun _ w h=>yb h fun _ w h=>yb h fun _ w h=>zm<|zn<|zk ?_
       exact zt hkK3 h
     refine sim_skip<|zk ?_
     exact zt hkK3 h
   refine zk<|zs<|zs<|zr<|zm<|yv h fun _ w h=>yv h fun _ w h=>yv h fun _ w h=>yb h fun _ w h=>yu h fun w h=>zn<|zk<|zs<|zr<|yv h fun _ w h=>?_
   refine yb h fun _ w h=>zn<|zk<|yJ1 [7,45,46,47,48] 7 h (fun _ _ hkK4 h=>?_) fun σ w h=>?_
   · refine yC h (fun h=>?_) fun h=>?_
     · refine zr<|yv h fun _ w h=>yb h fun _ w h=>zm<|yb h fun _ w h=>zm<|zn<|zk ?_
       exact zt hkK4 h
     refine sim_skip<|zk ?_
     exact zt hkK4 h
   refine zk<|zs<|zr<|yv h fun _ w h=>zm<|yc h c59 fun _ w h=>zn<|zk<|sim_block<|sim_range7 [.exit 0] h rfl (fun l5 t52 t53 w Kr5 Xr5 Qr5 h=>?_) (fun ds w h=>?_) (fun c ds w h=>?_) (fun ch ds w h=>outQ_of rfl h)
   · refine zs<|zr<|zm<|zn<|zk<|zr<|yv h fun _ w h=>yu h fun w h=>zn<|zk ?_
     obtain ⟨hr,h⟩:=h
     refine ⟨rfl,hr,fun w hb=>?_⟩
     have h:=h w hb
     exact sim_block<|zs<|zr<|yv h fun _ w h=>zm<|yv h fun _ w h=>yV h fun _ w h=>yv h fun _ w h=>zn<|zk<|yC h (fun h=>sim_exit<|sim_block_miss rfl<|⟨rfl,0,rfl,h⟩) fun h=>sim_skip<|sim_block_normal<|⟨rfl,h⟩
   · exact sim_block_normal<|sim_block_normal<|zk<|zr<|yb h fun _ w h=>zm<|zn<|zk<|h
   rcases c with _ | c
   · refine ⟨_,rfl,.inr ⟨_,rfl,?_⟩⟩
     exact sim_block_miss rfl<|sim_block_miss rfl<|sim_then_exit<|sim_then_exit<|sim_block_hit<|bodyM_normal<|bodyM_ret rfl h
   exact h.elim
 exact sim_exit<|sim_then_exit<|sim_then_exit<|sim_block_hit<|bodyM_normal<|bodyM_ret rfl h
def n50c1 (t3 t7 t24:Value) (Kr2:World→Prop) (Qr2:List PanicEntry→World→Prop) (Xr2:Nat→World→Prop) (R:RT) (w:World):Prop :=
 opV Pg (Instr.loadAt 124 t3) Qr2 w fun t26 w =>
 opV Pg (Instr.loadAt 26 t7) Qr2 w fun t28 w =>
 callV Pg t26 #[t24,t28] Qr2 w fun t29 w =>
 opV Pg (Op.unary .not t29) Qr2 w fun t30 w =>
 condP t30 (
 Xr2 0 w) (
 Kr2 w)
def n50c2 (t3 t24 t25:Value) (Kr2:World→Prop) (Qr2:List PanicEntry→World→Prop) (Xr2:Nat→World→Prop) (l2:Nat) (R:RT) (w:World):Prop :=
 opV Pg (Instr.alloc 26 true (.tuple #[])) (fun _ _=>False) w fun t7 w =>
 opU Pg (Instr.storeAt 26 t7 t25) (fun _ _=>False) w fun w =>
 busyK l2 w fun w =>
 n50c1 t3 t7 t24 Kr2 Qr2 Xr2 R w
def n50c3 (t3 t16 t23:Value) (next1:List Deferred→Value→World→Prop) (ds:List Deferred) (R:RT) (w:World):Prop :=
 rangeN2 Pg t23 ds (fun l2 t24 t25 w Kr2 Xr2 Qr2 =>
 n50c2 t3 t24 t25 Kr2 Qr2 Xr2 l2 R w) (fun ch ds w=>outQ Pg ds [] R ch w) w (fun ds w =>
 opV Pg (binS .add 3 true t16 (.int .i64 1)) (outQ Pg ds [] R) w fun t31 w =>
 next1 ds t31 w) [fun ds w =>
 outX Pg ds [] R w]
def n50c4 (t1 t3 t14 t16:Value) (next1:List Deferred→Value→World→Prop) (ds:List Deferred) (R:RT) (w:World):Prop :=
 opV Pg (Instr.indexAt 24 t14 t16) (outQ Pg ds [] R) w fun t18 w =>
 opV Pg (Instr.loadAt 26 t18) (outQ Pg ds [] R) w fun t19 w =>
 opV Pg (Instr.alloc 26 true (.tuple #[])) (outQ Pg ds [] R) w fun t5 w =>
 opU Pg (Instr.storeAt 26 t5 t19) (outQ Pg ds [] R) w fun w =>
 opV Pg (Instr.loadAt 26 t5) (outQ Pg ds [] R) w fun t20 w =>
 opV Pg (Instr.loadAt 3 t1) (outQ Pg ds [] R) w fun t21 w =>
 opV Pg (binS .add 3 true t21 (.int .i64 1)) (outQ Pg ds [] R) w fun t22 w =>
 callK Pg 64 #[t20,t22] (outQ Pg ds [] R) w fun t23 w =>
 n50c3 t3 t16 t23 next1 ds R w
def n50c5 (t1 t2 t3:Value) (ds:List Deferred) (R:RT) (w:World):Prop :=
 opV Pg (Instr.fieldAt 26 t2 4) (outQ Pg ds [] R) w fun t13 w =>
 opV Pg (Instr.loadAt 24 t13) (outQ Pg ds [] R) w fun t14 w =>
 opV Pg (Builtin.len_ #[24] 3 #[t14]) (outQ Pg ds [] R) w fun t15 w =>
 loopM1 (fun ds t16 w next1 =>
 opV Pg (binS .lss 3 false t16 t15) (outQ Pg ds [] R) w fun t17 w =>
 condP t17 (
 n50c4 t1 t3 t14 t16 next1 ds R w) (
 outX Pg ds [] R w)) ds (.int .i64 0) w
def n50 (t0 t1 t2:Value) (R:RT) (w:World):Prop :=
 (fun (ds:List Deferred) =>
 opV Pg (Instr.box 124 t0) (outQ Pg ds [] R) w fun t3 w =>
 opV Pg (Instr.loadAt 124 t3) (outQ Pg ds [] R) w fun t8 w =>
 opV Pg (Instr.loadAt 3 t1) (outQ Pg ds [] R) w fun t9 w =>
 opV Pg (Instr.loadAt 26 t2) (outQ Pg ds [] R) w fun t10 w =>
 callV Pg t8 #[t9,t10] (outQ Pg ds [] R) w fun t11 w =>
 opV Pg (Op.unary .not t11) (outQ Pg ds [] R) w fun t12 w =>
 condP t12 (
 outX Pg ds [] R w) (
 n50c5 t1 t2 t3 ds R w)) []
theorem n50s {t0 t1 t2:Value} {R:RT} {w:World} (h:n50 t0 t1 t2 R w):Calls Pg 85 #[t0,t1,t2] w R:=by
 refine yE Tryz.func85 ?_
 unfold n50 at h
 dsimp only at h
 refine zs<|zr<|yv h fun _ w h=>zn<|zk<|sim_scope<|zs<|zs<|zr<|yv h fun _ w h=>yv h fun _ w h=>yv h fun _ w h=>yV h fun _ w h=>yv h fun _ w h=>zn ?_
 refine zk<|yC h (fun h=>sim_ret<|sim_then_ret<|bodyM_ret rfl h) fun h=>sim_skip<|zk<|zs<|sim_label<|zk<|zs<|zr<|yv h fun _ w h=>yv h fun _ w h=>yx h fun _ w h=>zm<|zn ?_
 refine zk<|sim_block<|yL1 [5,16,17,18,19,20,21,22,23,31] 16 h fun σ ds w next h=>zs<|zr<|yb h fun _ w h=>zn<|zk<|zs<|yC h (fun h=>?_) fun h=>?_
 · refine sim_skip<|zk<|zs<|sim_block<|zs<|zr<|yv h fun _ w h=>yv h fun _ w h=>yv h fun _ w h=>yu h fun w h=>zn<|zk<|zs<|zr<|yv h fun _ w h=>?_
   refine yv h fun _ w h=>yb h fun _ w h=>yc h c64 fun _ w h=>zn<|zk<|sim_block<|sim_range2 [.exit 0] h rfl (fun l2 t24 t25 w Kr2 Xr2 Qr2 h=>?_) (fun ds w h=>?_) (fun c ds w h=>?_) (fun ch ds w h=>outQ_of rfl h)
   · refine zs<|zr<|zm<|zn<|zk<|zr<|yv h fun _ w h=>yu h fun w h=>zn<|zk ?_
     obtain ⟨hr,h⟩:=h
     refine ⟨rfl,hr,fun w hb=>?_⟩
     have h:=h w hb
     exact sim_block<|zs<|zr<|yv h fun _ w h=>zm<|yv h fun _ w h=>yV h fun _ w h=>yv h fun _ w h=>zn<|zk<|yC h (fun h=>sim_exit<|sim_block_miss rfl<|⟨rfl,0,rfl,h⟩) fun h=>sim_skip<|sim_block_normal<|⟨rfl,h⟩
   · exact sim_block_normal<|sim_block_normal<|zk<|zr<|yb h fun _ w h=>zm<|zn<|zk<|h
   rcases c with _ | c
   · refine ⟨_,rfl,.inr ⟨_,rfl,?_⟩⟩
     exact sim_block_miss rfl<|sim_block_miss rfl<|sim_then_exit<|sim_then_exit<|sim_block_hit<|bodyM_normal<|bodyM_ret rfl h
   exact h.elim
 exact sim_exit<|sim_then_exit<|sim_then_exit<|sim_block_hit<|bodyM_normal<|bodyM_ret rfl h
theorem each_parts {W:World} {v:Value} {n:Nd} {ps:List Tr} {a:Nat} {vss:List (List Value)} {pv bv hv:Value} (hv0:v = .agg (trCells n bv hv pv).toArray) (hB:BytesOf W bv n.bytes) (hH:HdrsOf W hv n.hdrs) (hT:TrsOf W pv ps) (hl:vss.length=ps.length) (ha:a+1≤4611686018427387904)
 (hk:∀ (k:Nat) (x:Tr) (vs:List Value),ps[k]?=some x→vss[k]?=some vs→Hold W vs (eachT x (a+1))∧∃ b o cs c,pv = .slice (some ⟨b,o,none⟩) ps.length c∧cs.length=5∧ElemAt W b (o+k*5) cs∧ETr W cs x∧EachSeq W (.agg cs.toArray) x (a+1) vs):EachSeq W v (.mk n ps) a (v::vss.flatten):=by
 have o1:=SliceOf.oneCell hB
 have o2:=SliceOf.oneCell hH
 have o3:=SliceOf.oneCell hT
 obtain ⟨LL,hLL⟩:∃ LL:List (List (Nat×Tr)),LL=ps.map fun p=>eachT p (a+1):=⟨_,rfl⟩
 have hLk:∀ (k:Nat) (x:Tr),ps[k]?=some x→LL[k]?=some (eachT x (a+1)):=fun k x hx=>by rw [hLL,List.getElem?_map,hx];rfl
 have hlen:vss.map List.length=LL.map List.length:=by
  refine List.ext_getElem? fun k=>?_
  rw [List.getElem?_map,List.getElem?_map]
  rcases Nat.lt_or_ge k ps.length with h | h
  · obtain ⟨x,hx⟩:=getElem?_lt h
    obtain ⟨vs,hvs⟩:=getElem?_lt (l:=vss) (k:=k) (by omega)
    rw [hvs,hLk k x hx]
    show some vs.length=some _
    rw [(hk k x vs hx hvs).1.1]
  · rw [List.getElem?_eq_none (by omega),List.getElem?_eq_none (by rw [hLL,List.length_map];omega)]
    rfl
 have hL:eachT (.mk n ps) a=(a,.mk n ps)::LL.flatten:=by rw [eachT_mk,hLL,List.flatMap_def]
 intro p1 p2 cs0 hcs yv J Jx Jp w hy hFP hJl hJx hJp hstep h0
 rw [hL] at hstep ⊢
 rw [hv0] at hcs
 injection hcs with hcs
 obtain ⟨E0,c1,c2⟩:=hFP 0 w h0
 rw [← hcs] at c2 hFP
 refine n50s (t0:=yv) ?_
 unfold n50
 simp (disch:=try exact DI) only [↓PR,QR,simprocAttr]
 simp only [cells_one hy]
 have eW:Ext w (w.alloc (.cells #[yv] 124)):=ee
 have oW:=heap_new w #[yv] 124
 have JW:=(hJl 0).ext h0 eW
 generalize (w.alloc (.cells #[yv] 124))=Z at eW oW JW ⊢
 have sZ:=eW.size
 have hyZ:=(Array.getElem?_eq_some_iff.1 oW).1
 simp (disch:=try exact DI) only [↓PR,QR,simprocAttr,(cells_of_heap oW).1,(cells_of_heap (eW.obj c1)).1,(cells_of_heap (eW.obj c2)).1]
 have hs:=hstep 0 (by simp) (fun u=>u.heap[w.heap.size]?=some (.cells #[yv] 124 (0,0))) (Firm.has (Nat.le_refl _) (by simp)) Z JW oW
 rw [show xsE ((a,Tr.mk n ps)::LL.flatten) 0 = .int .i64 (a:Int) from rfl,show ysE (v::vss.flatten) 0=v from rfl,hv0] at hs
 refine callV_mono hs (fun ch w h=>h.2) ?_
 rintro q w1 ⟨oW1,⟨rfl,J1⟩ | ⟨rfl,J1⟩⟩
 case inr =>
  simp (disch:=try exact DI) only [↓PR,QR,simprocAttr,outX_nil,retV,resOne]
  exact .inr J1
 obtain ⟨E1,d1,d2⟩:=hFP 1 w1 J1
 simp (disch:=try exact DI) only [↓PR,QR,simprocAttr]
 unfold n50c5
 obtain ⟨A,c,rfl,hlc,hcm,hlm,hel⟩:=SliceOf.open hT
 simp (disch:=try exact DI) only [↓PR,QR,simprocAttr,(cells_of_heap d2).1]
 have s1:=E1.size
 have hz1:=(Array.getElem?_eq_some_iff.1 oW1).1
 have hvl:(v::vss.flatten).length=((a,Tr.mk n ps)::LL.flatten).length:=by
  rw [List.length_cons,List.length_cons,List.length_flatten,List.length_flatten,hlen]
 have hoff:∀ k,offL vss k=offL LL k:=fun k=>offL_congr hlen k
 have hfin:∀ (bs:List Nat) (w2:World),bs.Nodup→(∀ b∈bs,MarkAt b w2)→(∀ b∈bs,w.heap.size≤b)→(J ((a,Tr.mk n ps)::LL.flatten).length w2∨Jx w2)→outX Pg (bs.map Sw.mark) [] (fun e w'=>match e with
  | .returned _=>J ((a,Tr.mk n ps)::LL.flatten).length w'∨Jx w'
  | .panicked ch=>Jp ch w'
  | .outgrown=>False) w2:=fun bs w2 hn hm hB h=>outs_lasts (B:=w.heap.size) (Q:=fun w=>J ((a,Tr.mk n ps)::LL.flatten).length w∨Jx w) (fun w w' hl h=>h.imp (hJl _ w w' hl) (hJx w w' hl)) (fun w h=>by
   simp (disch:=try exact DI) only [↓PR,QR,simprocAttr,outX_nil,retV,resOne]
   exact h) hn hm hB h
 have hfinP:∀ (ch:List PanicEntry) (bs:List Nat) (w2:World),bs.Nodup→(∀ b∈bs,MarkAt b w2)→(∀ b∈bs,w.heap.size≤b)→Jp ch w2→outQ Pg (bs.map Sw.mark) [] (fun e w'=>match e with
  | .returned _=>J ((a,Tr.mk n ps)::LL.flatten).length w'∨Jx w'
  | .panicked ch=>Jp ch w'
  | .outgrown=>False) ch w2:=fun ch bs w2 hn hm hB h=>outq_lasts (B:=w.heap.size) (hJp ch) (fun w h=>h) hn hm hB h
 refine loopM1_intro (fun ds a w'=>∃ (k:Nat) (bs:List Nat),a = .int .i64 k∧k≤ps.length∧J (offL LL k+1) w'∧w'.heap[w.heap.size]?=some (.cells #[yv] 124 (0,0))∧ds=bs.map Sw.mark∧bs.Nodup∧(∀ b∈bs,MarkAt b w')∧∀ b∈bs,w.heap.size≤b) (fun a _=>ps.length - (intOf a).toNat) ⟨0,[],rfl,by omega,J1,oW1,rfl,List.nodup_nil,by simp,by simp⟩ ?_
 rintro ds _ w2 ⟨k,bs,rfl,hkl,J2,oW2,rfl,hnd,hbm,hbs⟩
 obtain ⟨E2,b1,b2⟩:=hFP _ w2 J2
 by_cases hlt:k < ps.length
 case neg =>
  obtain rfl:k=ps.length:=by omega
  have d:decide ((ps.length:Int) < (ps.length:Int))=false:=decide_eq_false (by omega)
  simp (disch:=try exact DI) only [↓PR,QR,simprocAttr,d]
  refine hfin bs w2 hnd hbm hbs (.inl ?_)
  have:offL LL ps.length=LL.flatten.length:=by rw [← offL_all,hLL,List.length_map]
  rw [this] at J2
  exact J2
 have d:decide ((k:Int) < (ps.length:Int))=true:=decide_eq_true (by omega)
 obtain ⟨x,hx⟩:=getElem?_lt hlt
 obtain ⟨vs,hvs⟩:=getElem?_lt (l:=vss) (k:=k) (by omega)
 obtain ⟨hHold,b,o,cs,c',hpv,h5,hA,hE,hSeq⟩:=hk k x vs hx hvs
 injection hpv with hpv _ _
 subst hpv
 obtain ⟨bv',hv',pv',rfl,hB',hH',hT',q1,q2,q3⟩:=hE.op
 have hVx:ValAt W (.agg (trCells x.nd bv' hv' pv').toArray) x:=⟨_,_,_,rfl,hB',hH',hT'⟩
 have dk:(k:Int) < (ps.length:Int):=by omega
 have hwa:IntKind.i64.wrap ((a:Int)+1)=((a+1:Nat):Int):=by rw [wrap_ok (by omega) (by omega)];omega
 simp (disch:=try exact DI) only [↓PR,QR,simprocAttr,d]
 unfold n50c4
 simp (disch:=try exact DI) only [↓PR,QR,simprocAttr,dk,hA.c5 E2,fun o=>(cells_of_heap (((Ext.refl w2).alloc o).obj b1)).1,hwa]
 generalize hY:World.alloc w2 _=Y
 have eY:Ext w2 Y:=by rw [← hY];exact (Ext.refl w2).alloc _
 clear hY
 have JY:=(hJl _).ext J2 eY
 have oY:=eY.obj oW2
 have b1Y:=eY.obj b1
 have hbY:∀ b∈bs,MarkAt b Y:=fun b hb=>(hbm b hb).ext eY
 have EY:=E2.trans eY
 refine callK_ret (each_ret _ _ x (a+1) (hVx.ext EY)) ?_
 rintro _ w3 ⟨⟨cs3,h31,rfl,m1,m2⟩,e3,s3⟩
 injection h31 with h31
 subst h31
 unfold n50c3
 have s2:=E2.size
 have hz2:=(Array.getElem?_eq_some_iff.1 oY).1
 have oY3:=e3.obj oY
 have J3:=(hJl _).ext JY e3
 have E3:=EY.trans e3
 have hb3:∀ b∈bs,MarkAt b w3:=fun b hb=>(hbY b hb).ext e3
 have hbl:∀ b∈bs,b < w3.heap.size:=fun b hb=>(Array.getElem?_eq_some_iff.1 (hb3 b hb)).1
 have hLk':=hLk k x hx
 have hoK:=offL_le hLk'
 have hwk:IntKind.i64.wrap ((k:Int)+1)=((k+1:Nat):Int):=by rw [wrap_ok (by omega) (by omega)];omega
 have hzw3:w.heap.size≤w3.heap.size:=by omega
 let I:Nat→World→Prop:=fun j u=>J (offL LL k+1+j) u∧u.heap[Y.heap.size+1]?=some (.cells #[.int .i64 ((a+1:Nat):Int)] 3 (0,0))∧u.heap[Y.heap.size]?=some (.cells #[.string x.nd.name,.int .i64 x.nd.int,bv',hv',pv'] 26 (0,0))∧u.heap[w.heap.size]?=some (.cells #[yv] 124 (0,0))∧∀ b∈bs,MarkAt b u
 let Ix:Nat→World→Prop:=fun c u=>c=0∧Jx u∧∀ b∈bs,MarkAt b u
 let Ip:List PanicEntry→World→Prop:=fun ch u=>Jp ch u∧∀ b∈bs,MarkAt b u
 have hLI:∀ j,Lasts2 w3.heap.size (I j):=fun j=>((hJl _).mono hzw3).and ((Lasts2.has _ (by simp) (by simp)).and ((Lasts2.has _ (by simp) (by simp)).and ((Lasts2.has _ (by simp) (by simp)).and (lasts2_marks hbl))))
 have hLX:∀ c,Lasts2 w3.heap.size (Ix c):=fun c=>(Lasts2.const _ _).and ((hJx.mono hzw3).and (lasts2_marks hbl))
 have hLP:∀ ch,Lasts2 w3.heap.size (Ip ch):=fun ch=>((hJp ch).mono hzw3).and (lasts2_marks hbl)
 refine ⟨_,_,(eachT x (a+1)).length,xsE (eachT x (a+1)),ysE vs,EaAt W (Y.heap.size+1) Y.heap.size (a+1) #[.string x.nd.name,.int .i64 x.nd.int,bv',hv',pv'],I,Ix,Ip,rfl,c85,hSeq _ _ _ rfl,⟨J3,m2,m1,oY3,hb3⟩,fun j u h=>⟨(hFP _ u h.1).1,h.2.1,h.2.2.1⟩,hLI,hLX,hLP,?_,?_,?_,?_⟩
 · intro Rk hRk j u hj hIu hRu hltu hready
   obtain ⟨y,hyj,hxs,hVy⟩:=hHold.at hj
   obtain ⟨yb,yh,yp,hyv,_,_,_,r1,r2,r3⟩:=hVy.op
   have hcx:xsE ((a,Tr.mk n ps)::LL.flatten) (offL LL k+1+j) = .int .i64 (y.1:Int):=by
    rw [← hxs]
    refine xsE_congr ?_
    rw [show offL LL k+1+j=(offL LL k+j)+1 by omega,List.getElem?_cons_succ]
    exact flat_at hLk' hj
   have hcy:ysE (v::vss.flatten) (offL LL k+1+j) = .agg (trCells y.2.nd yb yh yp).toArray:=by
    rw [← hyv]
    refine ysE_congr ?_
    rw [show offL LL k+1+j=(offL vss k+j)+1 by rw [hoff];omega,List.getElem?_cons_succ]
    exact flat_at hvs (by rw [hHold.1];exact hj)
   rw [hxs,hyv]
   unfold n50c2
   simp (disch:=try exact DI) only [↓PR,QR,simprocAttr]
   change busyK _ (u.alloc (.cells #[.string y.2.nd.name,.int .i64 y.2.nd.int,yb,yh,yp] 26)) _
   have eA:Ext u (u.alloc (.cells #[.string y.2.nd.name,.int .i64 y.2.nd.int,yb,yh,yp] 26)):=ee
   have oA:=heap_new u #[.string y.2.nd.name,.int .i64 y.2.nd.int,yb,yh,yp] 26
   generalize (u.alloc (.cells #[.string y.2.nd.name,.int .i64 y.2.nd.int,yb,yh,yp] 26))=U at eA oA ⊢
   generalize hpu:u.heap.size=pu at oA ⊢
   refine ⟨by obtain ⟨r,h1,h2⟩:=hready;exact ⟨r,eA.obj h1,h2⟩,fun w5 hbz=>?_⟩
   have hR5:=hRk _ _ (KR.busied hbz) (hRk _ _ (KR.of eA) hRu)
   obtain ⟨J5,n1,n2,n3,n4⟩:=(hLI j).busied hbz (Nat.le_succ _) ((hLI j).ext hIu eA)
   have qA:w5.heap[pu]?=some (.cells #[.string y.2.nd.name,.int .i64 y.2.nd.int,yb,yh,yp] 26 (0,0)):=(Lasts2.has w3.heap.size (by simp) (by simp)).busied hbz (Nat.le_succ _) oA
   unfold n50c1
   simp (disch:=try exact DI) only [↓PR,QR,simprocAttr,(cells_of_heap n3).1,(cells_of_heap qA).1]
   have hs:=hstep (offL LL k+1+j) (by rw [List.length_cons];omega) (fun u=>Rk u∧(u.heap[Y.heap.size+1]?=some (.cells #[.int .i64 ((a+1:Nat):Int)] 3 (0,0))∧(u.heap[Y.heap.size]?=some (.cells #[.string x.nd.name,.int .i64 x.nd.int,bv',hv',pv'] 26 (0,0))∧(u.heap[w.heap.size]?=some (.cells #[yv] 124 (0,0))∧∀ b∈bs,MarkAt b u)))) ((hRk.mono (by omega)).and ((Firm.has (by omega) (by simp)).and ((Firm.has (by omega) (by simp)).and ((Firm.has (Nat.le_refl _) (by simp)).and fun w w' h hm b hb=>h.2.2.1 b (hm b hb))))) w5 J5 ⟨hR5,n1,n2,n3,n4⟩
   rw [hcx,hcy] at hs
   refine callV_mono hs (fun ch w h=>⟨h.1.1,h.2,h.1.2.2.2.2⟩) ?_
   rintro q w6 ⟨⟨hR6,k1,k2,k3,k4⟩,⟨rfl,J6⟩ | ⟨rfl,J6⟩⟩
   · simp (disch:=try exact DI) only [↓PR,QR,simprocAttr]
     exact ⟨hR6,by rw [← Nat.add_assoc];exact J6,k1,k2,k3,k4⟩
   · simp (disch:=try exact DI) only [↓PR,QR,simprocAttr]
     exact ⟨hR6,rfl,J6,k4⟩
 · rintro u ⟨J4,_,_,o4,m4⟩ hmk
   simp (disch:=try exact DI) only [↓PR,QR,simprocAttr,hwk]
   refine ⟨⟨k+1,w3.heap.size::bs,rfl,by omega,?_,o4,rfl,List.nodup_cons.2 ⟨fun h=>absurd (hbl _ h) (Nat.lt_irrefl _),hnd⟩,fun b hb=>?_,fun b hb=>?_⟩,meas_lt (kd := .i64) hlt⟩
   · rw [offL_succ hLk',Nat.add_right_comm]
     exact J4
   · rcases List.mem_cons.1 hb with rfl | hb
     · exact hmk
     · exact m4 b hb
   · rcases List.mem_cons.1 hb with rfl | hb
     · exact hzw3
     · exact hbs b hb
 · rintro c u ⟨rfl,J4,m4⟩ hmk
   refine hfin (w3.heap.size::bs) u (List.nodup_cons.2 ⟨fun h=>absurd (hbl _ h) (Nat.lt_irrefl _),hnd⟩) (fun b hb=>?_) (fun b hb=>?_) (.inr J4)
   · rcases List.mem_cons.1 hb with rfl | hb
     · exact hmk
     · exact m4 b hb
   · rcases List.mem_cons.1 hb with rfl | hb
     · exact hzw3
     · exact hbs b hb
 · rintro ch u ⟨J4,m4⟩ hmk
   refine hfinP ch (w3.heap.size::bs) u (List.nodup_cons.2 ⟨fun h=>absurd (hbl _ h) (Nat.lt_irrefl _),hnd⟩) (fun b hb=>?_) (fun b hb=>?_) J4
   · rcases List.mem_cons.1 hb with rfl | hb
     · exact hmk
     · exact m4 b hb
   · rcases List.mem_cons.1 hb with rfl | hb
     · exact hzw3
     · exact hbs b hb
theorem each_seq (t:Tr):∀ (W:World) (v:Value) (a:Nat),ValAt W v t→a+heightT t≤4611686018427387904→∃ vs,Hold W vs (eachT t a)∧EachSeq W v t a vs:=by
 refine Tr.ind (p:=fun t=>∀ (W:World) (v:Value) (a:Nat),ValAt W v t→a+heightT t≤4611686018427387904→∃ vs,Hold W vs (eachT t a)∧EachSeq W v t a vs) ?_ t
 intro n ps ih W v a h ha
 obtain ⟨bv,hv,pv,rfl,hB,hH,hT⟩:=h
 simp only [Tr.nd,Tr.ps] at hB hH hT ⊢
 rw [heightT_mk] at ha
 obtain ⟨A,c,rfl,hlc,hcm,hlm,hel⟩:=SliceOf.open hT
 have hex:∀ k,∃ vs:List Value,∀ x,ps[k]?=some x→Hold W vs (eachT x (a+1))∧∃ b o cs c',Value.slice A ps.length c = .slice (some ⟨b,o,none⟩) ps.length c'∧cs.length=5∧ElemAt W b (o+k*5) cs∧ETr W cs x∧EachSeq W (.agg cs.toArray) x (a+1) vs:=by
  intro k
  cases hx:ps[k]? with
  | none=>exact ⟨[],fun x h=>by cases h⟩
  | some x =>
   obtain ⟨b,o,cs,rfl,h5,hA,hE⟩:=hel k x hx
   have hm:=(foldr_max_le (l:=ps.map heightT) (m:=(ps.map heightT).foldr max 0)).1 (Nat.le_refl _) _ (List.mem_map_of_mem (List.mem_of_getElem? hx))
   obtain ⟨bv',hv',pv',rfl,e1,e2,e3,_⟩:=hE.op
   obtain ⟨vs,g1,g2⟩:=ih x (List.mem_of_getElem? hx) W (.agg (trCells x.nd bv' hv' pv').toArray) (a+1) ⟨_,_,_,rfl,e1,e2,e3⟩ (by omega)
   exact ⟨vs,fun y hy=>by injection hy with hy;subst hy;exact ⟨g1,b,o,_,c,rfl,h5,hA,hE,g2⟩⟩
 let f:=fun k=>Classical.choose (hex k)
 have hf:∀ k x,ps[k]?=some x→_:=fun k=>Classical.choose_spec (hex k)
 have hfk:∀ (k:Nat) (x:Tr) (vs:List Value),ps[k]?=some x→((List.range ps.length).map f)[k]?=some vs→vs=f k:=by
  intro k x vs hx hvs
  have hk:=(List.getElem?_eq_some_iff.1 hx).1
  rw [List.getElem?_map,List.getElem?_range hk] at hvs
  injection hvs with hvs
  exact hvs.symm
 refine ⟨_,?_,each_parts (vss:=(List.range ps.length).map f) rfl hB hH hT (by simp) (by omega) fun k x vs hx hvs=>?_⟩
 · rw [eachT_mk,List.flatMap_def]
   refine Hold.cons ⟨_,_,_,rfl,hB,hH,hT⟩ (by simp) fun k vs L hvs hL=>?_
   rw [List.getElem?_map] at hL
   obtain ⟨x,hx,rfl⟩:=Option.map_eq_some_iff.1 hL
   rw [hfk k x vs hx hvs]
   exact (hf k x hx).1
 · rw [hfk k x vs hx hvs]
   exact hf k x hx
def n41c1 (t2:Value) (Kr1:World→Prop) (Qr1:List PanicEntry→World→Prop) (l1:Nat) (R:RT) (w:World):Prop :=
 busyK l1 w fun w =>
 opV Pg (Instr.loadAt 3 t2) Qr1 w fun t7 w =>
 opV Pg (binS .add 3 true t7 (.int .i64 1)) Qr1 w fun t8 w =>
 opU Pg (Instr.storeAt 3 t2 t8) Qr1 w fun w =>
 Kr1 w
def n41c2 (t2:Value) (ds:List Deferred) (R:RT) (w:World):Prop :=
 opV Pg (Instr.loadAt 3 t2) (outQ Pg ds [(some 3,t2)] R) w fun t9 w =>
 opU Pg (Instr.storeAt 3 t2 t9) (outQ Pg ds [(some 3,t2)] R) w fun w =>
 outX Pg ds [(some 3,t2)] R w
def n41 (t0:Value) (R:RT) (w:World):Prop :=
 (fun (ds:List Deferred) =>
 opV Pg (Instr.box 26 t0) (outQ Pg ds [(some 3,undef)] R) w fun t1 w =>
 opV Pg (Instr.alloc 3 true (.tuple #[])) (outQ Pg ds [(some 3,undef)] R) w fun t2 w =>
 opV Pg (Instr.loadAt 26 t1) (outQ Pg ds [(some 3,t2)] R) w fun t3 w =>
 callK Pg 64 #[t3,(.int .i64 1)] (outQ Pg ds [(some 3,t2)] R) w fun t4 w =>
 rangeN2 Pg t4 ds (fun l1 t5 t6 w Kr1 Xr1 Qr1 =>
 n41c1 t2 Kr1 Qr1 l1 R w) (fun ch ds w=>outQ Pg ds [(some 3,t2)] R ch w) w (fun ds w =>
 n41c2 t2 ds R w) []) []
theorem n41s {t0:Value} {R:RT} {w:World} (h:n41 t0 R w):Calls Pg 28 #[t0] w R:=by
 refine yE Tryz.func28 ?_
 unfold n41 at h
 dsimp only at h
 refine zs<|zr<|yv h fun _ w h=>yv h fun _ w h=>zn<|zk<|zs<|zs<|zr<|yv h fun _ w h=>yc h c64 fun _ w h=>zn<|zk<|sim_block<|sim_range2 [] h rfl (fun l1 t5 t6 w Kr1 Xr1 Qr1 h=>?_) (fun ds w h=>?_) (fun c ds w h=>?_) (fun ch ds w h=>outQ_of rfl h)
 · refine sim_skip<|zk ?_
   obtain ⟨hr,h⟩:=h
   refine ⟨rfl,hr,fun w hb=>?_⟩
   have h:=h w hb
   exact sim_block<|zr<|yv h fun _ w h=>yb h fun _ w h=>yu h fun w h=>zn<|sim_block_normal<|⟨rfl,h⟩
 · exact sim_block_normal<|zk<|zs<|zr<|yv h fun _ w h=>yu h fun w h=>zn<|zk<|sim_ret<|bodyM_ret rfl h
 exact h.elim
def n12c1 (t2 t5:Value) (K4:KV) (R:RT) (w:World):Prop :=
 opV Pg (Instr.fieldAt 26 t2 3) (panK R) w fun t41 w =>
 opV Pg (Instr.loadAt 23 t41) (panK R) w fun t42 w =>
 opV Pg (Instr.indexAt 23 t42 t5) (panK R) w fun t44 w =>
 opV Pg (Instr.fieldAt 74 t44 1) (panK R) w fun t45 w =>
 opV Pg (Instr.loadAt 9 t45) (panK R) w fun t46 w =>
 opV Pg (Builtin.len_ #[9] 3 #[t46]) (panK R) w fun t47 w =>
 opV Pg (binS .gtr 3 true t47 (.int .i64 200)) (panK R) w fun t48 w =>
 K4 t48 w
def n12c2 (t2 t6 t1001:Value) (next5:KW) (R:RT) (w:World):Prop :=
 opV Pg (Instr.fieldAt 26 t2 4) (panK R) w fun t61 w =>
 opV Pg (Instr.loadAt 24 t61) (panK R) w fun t62 w =>
 opV Pg (Instr.indexAt 24 t62 t6) (panK R) w fun t64 w =>
 opV Pg (Instr.loadAt 26 t64) (panK R) w fun t65 w =>
 callK Pg 32 #[t65,t1001] (panK R) w fun t67 w =>
 opV Pg (binS .add 3 true t6 (.int .i64 1)) (panK R) w fun t60 w =>
 next5 t67 t60 w
def n12c3 (t2 t6 t1001:Value) (next5:KW) (R:RT) (w:World):Prop :=
 opV Pg (Instr.fieldAt 26 t2 4) (panK R) w fun t51 w =>
 opV Pg (Instr.loadAt 24 t51) (panK R) w fun t52 w =>
 opV Pg (Builtin.len_ #[24] 3 #[t52]) (panK R) w fun t53 w =>
 opV Pg (binS .lss 3 false t6 t53) (panK R) w fun t54 w =>
 joinK (fun (t57:Value) (w:World) =>
 pickK t54 t57 (.bool false) fun t58 =>
 condP t58 (
 n12c2 t2 t6 t1001 next5 R w) (
 R (.returned t1001) w)) fun K6 =>
 guardP t54 true (
 opV Pg (binS .geq 3 true t1001 (.int .i64 0)) (panK R) w fun t57 w =>
 K6 t57 w) (
 K6 undef w)
def n12c4 (t2 t5:Value) (next3:KV) (R:RT) (w:World):Prop :=
 opV Pg (Instr.fieldAt 26 t2 3) (panK R) w fun t32 w =>
 opV Pg (Instr.loadAt 23 t32) (panK R) w fun t33 w =>
 opV Pg (Instr.indexAt 23 t33 t5) (panK R) w fun t35 w =>
 opV Pg (Instr.fieldAt 74 t35 0) (panK R) w fun t36 w =>
 opV Pg (Instr.loadAt 9 t36) (panK R) w fun t37 w =>
 opV Pg (Builtin.len_ #[9] 3 #[t37]) (panK R) w fun t38 w =>
 opV Pg (binS .gtr 3 true t38 (.int .i64 200)) (panK R) w fun t39 w =>
 joinK (fun (t48:Value) (w:World) =>
 pickK t39 (.bool true) t48 fun t49 =>
 condP t49 (
 R (.returned (.int .i64 (-1))) w) (
 opV Pg (binS .add 3 true t5 (.int .i64 1)) (panK R) w fun t31 w =>
 next3 t31 w)) fun K4 =>
 guardP t39 false (
 n12c1 t2 t5 K4 R w) (
 K4 undef w)
def n12c5 (t2 t5 t8:Value) (next3:KV) (R:RT) (w:World):Prop :=
 opV Pg (Instr.fieldAt 26 t2 3) (panK R) w fun t26 w =>
 opV Pg (Instr.loadAt 23 t26) (panK R) w fun t27 w =>
 opV Pg (Builtin.len_ #[23] 3 #[t27]) (panK R) w fun t28 w =>
 opV Pg (binS .lss 3 false t5 t28) (panK R) w fun t29 w =>
 condP t29 (
 n12c4 t2 t5 next3 R w) (
 loop2 (fun t1001 t6 w next5 =>
 n12c3 t2 t6 t1001 next5 R w) t8 (.int .i64 0) w)
def n12c6 (t2 t8 t12 t17:Value) (R:RT) (w:World):Prop :=
 pickK t12 (.bool true) t17 fun t18 =>
 joinK (fun (t23:Value) (w:World) =>
 pickK t18 (.bool true) t23 fun t24 =>
 condP t24 (
 R (.returned (.int .i64 (-1))) w) (
 loop1 (fun t5 w next3 =>
 n12c5 t2 t5 t8 next3 R w) (.int .i64 0) w)) fun K2 =>
 guardP t18 false (
 opV Pg (Instr.fieldAt 26 t2 3) (panK R) w fun t20 w =>
 opV Pg (Instr.loadAt 23 t20) (panK R) w fun t21 w =>
 opV Pg (Builtin.len_ #[23] 3 #[t21]) (panK R) w fun t22 w =>
 opV Pg (binS .gtr 3 true t22 (.int .i64 110)) (panK R) w fun t23 w =>
 K2 t23 w) (
 K2 undef w)
def n12 (t0 t1:Value) (R:RT) (w:World):Prop :=
 opV Pg (Instr.box 26 t0) (panK R) w fun t2 w =>
 opV Pg (binS .sub 3 true t1 (.int .i64 1)) (panK R) w fun t8 w =>
 opV Pg (Instr.fieldAt 26 t2 0) (panK R) w fun t9 w =>
 opV Pg (Instr.loadAt 9 t9) (panK R) w fun t10 w =>
 opV Pg (Builtin.len_ #[9] 3 #[t10]) (panK R) w fun t11 w =>
 opV Pg (binS .gtr 3 true t11 (.int .i64 200)) (panK R) w fun t12 w =>
 joinK (fun (t17:Value) (w:World) =>
 n12c6 t2 t8 t12 t17 R w) fun K1 =>
 guardP t12 false (
 opV Pg (Instr.fieldAt 26 t2 2) (panK R) w fun t14 w =>
 opV Pg (Instr.loadAt 22 t14) (panK R) w fun t15 w =>
 opV Pg (Builtin.len_ #[22] 3 #[t15]) (panK R) w fun t16 w =>
 opV Pg (binS .gtr 3 true t16 (.int .i64 200)) (panK R) w fun t17 w =>
 K1 t17 w) (
 K1 undef w)
set_option maxHeartbeats 40000000 in
theorem n12s {t0 t1:Value} {R:RT} {w:World} (h:n12 t0 t1 R w):Calls Pg 32 #[t0,t1] w R:=by
 refine yD Tryz.func32 ?_
 refine zs<|zr<|yv h fun _ w h=>zm<|zn<|zk<|zs<|zr<|zm<|yb h fun _ w h=>zm<|zn<|zk<|zs<|zs ?_
 refine sim_regionG<|yG 5<|yv h fun _ w h=>yv h fun _ w h=>yx h fun _ w h=>yb h fun _ w h=>zm<|zn<|yg1 4 4 false [14,15,16,17] 17 h (fun _ T hT h=>?_) fun σ w h=>?_
 · refine yv h fun _ w h=>yv h fun _ w h=>yx h fun _ w h=>yb h fun _ w h=>zn ?_
   exact zt hT h
 refine yG 2<|yp h fun _ h=>zm<|zn<|yg1 4 10 false [20,21,22,23] 23 h (fun _ T hT h=>?_) fun σ w h=>?_
 · refine yv h fun _ w h=>yv h fun _ w h=>yx h fun _ w h=>yb h fun _ w h=>zn ?_
   exact zt hT h
 refine yG 1<|yp h fun _ h=>zn<|sim_end<|zk<|yC h (fun h=>zs<|zr<|zm<|zn<|zk<|sim_ret<|sim_then_ret<|body_ret1 rfl rfl h) fun h=>sim_skip<|zk<|zs<|zs<|zr<|zm<|zn<|zk ?_
 refine sim_block<|yl1 [4,5,25,26,27,28,29,30,31,32,33,34,35,36,37,38,39,40,41,42,43,44,45,46,47,48,49] 5 h fun σ w next h=>zs<|zs<|zr<|zm<|yv h fun _ w h=>yv h fun _ w h=>yx h fun _ w h=>yb h fun _ w h=>zn<|zk<|yC h (fun h=>?_) fun h=>?_
 · refine sim_skip<|zk<|zs<|sim_block<|zs<|sim_regionG<|yG 9<|yv h fun _ w h=>yv h fun _ w h=>zm<|yv h fun _ w h=>yv h fun _ w h=>yv h fun _ w h=>yx h fun _ w h=>yb h fun _ w h=>?_
   refine zm<|zn<|yg1 8 8 false [41,42,43,44,45,46,47,48] 48 h (fun _ T hT h=>?_) fun σ w h=>?_
   · refine yv h fun _ w h=>yv h fun _ w h=>zm<|yv h fun _ w h=>yv h fun _ w h=>yv h fun _ w h=>yx h fun _ w h=>yb h fun _ w h=>zn ?_
     exact zt hT h
   refine yG 1<|yp h fun _ h=>zn<|sim_end<|zk<|yC h (fun h=>zs<|zr<|zm<|zn<|zk<|sim_ret<|sim_block_ret<|sim_then_ret<|sim_then_ret<|sim_block_ret<|sim_then_ret<|body_ret1 rfl rfl h) fun h=>sim_skip<|sim_block_normal<|zk<|zr<|zm<|yb h fun _ w h=>zm<|zn ?_
   exact zk<|⟨rfl,h⟩
 refine sim_exit<|sim_then_exit<|sim_then_exit<|sim_block_hit<|zk<|zs<|zs<|zr<|zm<|zn<|zk<|sim_block<|yl2 [1,6,50,51,52,53,54,55,56,57,58,59,60,61,62,63,64,65,66,67] 1 6 h fun σ w next h=>zs<|zs ?_
 refine sim_regionG<|yG 6<|zm<|yv h fun _ w h=>yv h fun _ w h=>yx h fun _ w h=>yb h fun _ w h=>zm<|zn<|yg1 2 5 true [56,57] 57 h (fun _ T hT h=>?_) fun σ w h=>?_
 · refine zm<|yb h fun _ w h=>zn ?_
   exact zt hT h
 refine yG 1<|yp h fun _ h=>zn<|sim_end<|zk<|yC h (fun h=>?_) fun h=>?_
 · refine sim_skip<|zk<|zs<|sim_block<|zr<|yv h fun _ w h=>yv h fun _ w h=>zm<|yv h fun _ w h=>yv h fun _ w h=>zm<|yc h c32 fun _ w h=>zm<|zn<|sim_block_normal ?_
   exact zk<|zr<|zm<|yb h fun _ w h=>zm<|zn<|zk<|⟨rfl,h⟩
 exact sim_exit<|sim_then_exit<|sim_then_exit<|sim_block_hit<|zk<|zs<|zr<|zm<|zm<|zn<|zk<|sim_ret<|body_ret1 rfl rfl h
def n10c1 (t2 t32 t35 t38:Value) (R:RT) (w:World):Prop :=
 pickK t35 t38 (.bool false) fun t39 =>
 joinK (fun (t43:Value) (w:World) =>
 pickK t39 t43 (.bool false) fun t44 =>
 R (.returned t44) w) fun K3 =>
 guardP t39 true (
 opV Pg (binS .eql 9 false t32 t2) (panK R) w fun t43 w =>
 K3 t43 w) (
 K3 undef w)
def n10c2 (t2 t18 t31:Value) (R:RT) (w:World):Prop :=
 opV Pg (Instr.extract t31 0) (panK R) w fun t32 w =>
 opV Pg (Instr.extract t31 1) (panK R) w fun t33 w =>
 opV Pg (binS .eql 33 true t18 (.int .i64 0)) (panK R) w fun t35 w =>
 joinK (fun (t38:Value) (w:World) =>
 n10c1 t2 t32 t35 t38 R w) fun K2 =>
 guardP t35 true (
 opV Pg (binS .eql 33 true t33 (.int .i64 0)) (panK R) w fun t38 w =>
 K2 t38 w) (
 K2 undef w)
def n10c3 (t3 t9 t18:Value) (R:RT) (w:World):Prop :=
 opV Pg (binS .eql 33 false t18 t3) (panK R) w fun t23 w =>
 joinK (fun (t27:Value) (w:World) =>
 pickK t23 t27 (.bool false) fun t28 =>
 R (.returned t28) w) fun K1 =>
 guardP t23 true (
 opV Pg (Instr.loadAt 26 t9) (panK R) w fun t25 w =>
 opV Pg (Instr.build 26 #[]) (panK R) w fun t26 w =>
 callK Pg 12 #[t25,t26] (panK R) w fun t27 w =>
 K1 t27 w) (
 K1 undef w)
def n10c4 (t2 t3 t16:Value) (R:RT) (w:World):Prop :=
 opV Pg (Instr.extract t16 0) (panK R) w fun t17 w =>
 opV Pg (Instr.extract t16 1) (panK R) w fun t18 w =>
 opV Pg (Instr.alloc 26 true (.tuple #[])) (panK R) w fun t9 w =>
 opU Pg (Instr.storeAt 26 t9 t17) (panK R) w fun w =>
 opV Pg (binS .neq 33 true t3 (.int .i64 0)) (panK R) w fun t20 w =>
 condP t20 (
 n10c3 t3 t9 t18 R w) (
 opV Pg (Instr.loadAt 26 t9) (panK R) w fun t30 w =>
 callK Pg 26 #[t30] (panK R) w fun t31 w =>
 n10c2 t2 t18 t31 R w)
def n10 (t0 t1 t2 t3:Value) (R:RT) (w:World):Prop :=
 opV Pg (Instr.box 26 t0) (panK R) w fun t4 w =>
 opV Pg (Instr.loadAt 26 t4) (panK R) w fun t14 w =>
 callK Pg 27 #[t14,t1] (panK R) w fun t16 w =>
 n10c4 t2 t3 t16 R w
theorem n10s {t0 t1 t2 t3:Value} {R:RT} {w:World} (h:n10 t0 t1 t2 t3 R w):Calls Pg 33 #[t0,t1,t2,t3] w R:=by
 refine yD Tryz.func33 ?_
 refine zs<|zr<|yv h fun _ w h=>zm<|zn<|zk<|zs<|zr<|yv h fun _ w h=>zm<|yc h c27 fun _ w h=>zm<|yv h fun _ w h=>yv h fun _ w h=>yv h fun _ w h=>?_
 refine yu h fun w h=>zm<|zn<|zk<|zs<|zs<|zr<|zm<|yb h fun _ w h=>zn<|zk<|yC h (fun h=>?_) fun h=>?_
 · refine zs<|sim_regionG<|yG 4<|zm<|zm<|yb h fun _ w h=>zm<|zn<|yg1 3 3 true [25,26,27] 27 h (fun _ T hT h=>?_) fun σ w h=>?_
   · refine yv h fun _ w h=>yB h fun _ w h=>yc h c12 fun _ w h=>zn ?_
     exact zt hT h
   exact yG 2<|yp h fun _ h=>zm<|zn<|sim_end<|zk<|sim_ret<|sim_then_ret<|body_ret1 rfl rfl h
 refine sim_skip<|zk<|zs<|zr<|yv h fun _ w h=>yc h c26 fun _ w h=>zm<|yv h fun _ w h=>yv h fun _ w h=>zm<|zm<|zn<|zk<|zs<|sim_regionG ?_
 refine yG 3<|zm<|yb h fun _ w h=>zm<|zn<|yg1 2 2 true [37,38] 38 h (fun _ T hT h=>?_) fun σ w h=>?_
 · refine zm<|yb h fun _ w h=>zn ?_
   exact zt hT h
 refine yG 2<|yp h fun _ h=>zm<|zn<|yg1 3 6 true [41,42,43] 43 h (fun _ T hT h=>?_) fun σ w h=>?_
 · refine zm<|zm<|yb h fun _ w h=>zn ?_
   exact zt hT h
 exact yG 2<|yp h fun _ h=>zm<|zn<|sim_end<|zk<|sim_ret<|body_ret1 rfl rfl h
def n44c1 (t6:Value) (R:RT) (w:World):Prop :=
 opV Pg (Instr.build 26 #[]) (panK R) w fun t38 w =>
 opU Pg (Instr.storeAt 26 t6 t38) (panK R) w fun w =>
 qW Pg 26 t6 w fun r0 =>
 R (.returned (.tuple #[r0,(.int .i64 3)])) w
def n44c2 (t6 t8:Value) (R:RT) (w:World):Prop :=
 opV Pg (Instr.loadAt 26 t8) (panK R) w fun t39 w =>
 opU Pg (Instr.storeAt 26 t6 t39) (panK R) w fun w =>
 qW Pg 26 t6 w fun r0 =>
 R (.returned (.tuple #[r0,(.int .i64 0)])) w
def n44c3 (t6 t8 t25 t33:Value) (R:RT) (w:World):Prop :=
 opN Pg (nilN t25) (panK R) w fun t34 w =>
 opU Pg (Instr.storeAt 26 t34 t33) (panK R) w fun w =>
 opV Pg (Instr.loadAt 26 t8) (panK R) w fun t35 w =>
 callK Pg 25 #[t35] (panK R) w fun t36 w =>
 opV Pg (Op.unary .not t36) (panK R) w fun t37 w =>
 condP t37 (
 n44c1 t6 R w) (
 n44c2 t6 t8 R w)
def n44c4 (t5 t6 t8 t24:Value) (R:RT) (w:World):Prop :=
 opV Pg (Instr.extract t24 0) (panK R) w fun t25 w =>
 opV Pg (Instr.extract t24 1) (panK R) w fun t26 w =>
 opV Pg (binS .neq 33 true t26 (.int .i64 0)) (panK R) w fun t28 w =>
 condP t28 (
 opV Pg (Instr.build 26 #[]) (panK R) w fun t29 w =>
 opU Pg (Instr.storeAt 26 t6 t29) (panK R) w fun w =>
 qW Pg 26 t6 w fun r0 =>
 R (.returned (.tuple #[r0,t26])) w) (
 opV Pg (Instr.loadAt 26 t5) (panK R) w fun t32 w =>
 callK Pg 16 #[t32] (panK R) w fun t33 w =>
 n44c3 t6 t8 t25 t33 R w)
def n44c5 (t1 t5 t6 t21:Value) (R:RT) (w:World):Prop :=
 opV Pg (Instr.alloc 26 true (.tuple #[])) (panK R) w fun t8 w =>
 opU Pg (Instr.storeAt 26 t8 t21) (panK R) w fun w =>
 callK Pg 55 #[t8,t1] (panK R) w fun t24 w =>
 n44c4 t5 t6 t8 t24 R w
def n44c6 (t6:Value) (R:RT) (w:World):Prop :=
 opV Pg (Instr.build 26 #[]) (panK R) w fun t19 w =>
 opU Pg (Instr.storeAt 26 t6 t19) (panK R) w fun w =>
 qW Pg 26 t6 w fun r0 =>
 R (.returned (.tuple #[r0,(.int .i64 2)])) w
def n44c7 (t1 t3 t5 t6 t13 t17:Value) (R:RT) (w:World):Prop :=
 pickK t13 (.bool true) t17 fun t18 =>
 condP t18 (
 n44c6 t6 R w) (
 opV Pg (Instr.loadAt 26 t3) (panK R) w fun t20 w =>
 callK Pg 16 #[t20] (panK R) w fun t21 w =>
 n44c5 t1 t5 t6 t21 R w)
def n44c8 (t1 t3 t5 t6 t12:Value) (R:RT) (w:World):Prop :=
 opV Pg (Op.unary .not t12) (panK R) w fun t13 w =>
 joinK (fun (t17:Value) (w:World) =>
 n44c7 t1 t3 t5 t6 t13 t17 R w) fun K1 =>
 guardP t13 false (
 opV Pg (Instr.loadAt 26 t5) (panK R) w fun t15 w =>
 callK Pg 25 #[t15] (panK R) w fun t16 w =>
 opV Pg (Op.unary .not t16) (panK R) w fun t17 w =>
 K1 t17 w) (
 K1 undef w)
def n44 (t0 t1 t2:Value) (R:RT) (w:World):Prop :=
 opV Pg (Instr.box 26 t0) (panK R) w fun t3 w =>
 opV Pg (Instr.box 26 t2) (panK R) w fun t5 w =>
 opV Pg (Instr.alloc 26 true (.tuple #[])) (panK R) w fun t6 w =>
 opV Pg (Instr.loadAt 26 t3) (panK R) w fun t11 w =>
 callK Pg 25 #[t11] (panK R) w fun t12 w =>
 n44c8 t1 t3 t5 t6 t12 R w
theorem n44s {t0 t1 t2:Value} {R:RT} {w:World} (h:n44 t0 t1 t2 R w):Calls Pg 20 #[t0,t1,t2] w R:=by
 refine yD Tryz.func20 ?_
 refine zs<|zr<|yv h fun _ w h=>yv h fun _ w h=>yv h fun _ w h=>zm<|zn<|zk<|zs<|zs<|sim_regionG<|yG 4<|yv h fun _ w h=>yc h c25 fun _ w h=>yv h fun _ w h=>?_
 refine zm<|zn<|yg1 3 3 false [15,16,17] 17 h (fun _ T hT h=>?_) fun σ w h=>?_
 · refine yv h fun _ w h=>yc h c25 fun _ w h=>yv h fun _ w h=>zn ?_
   exact zt hT h
 refine yG 1<|yp h fun _ h=>zn<|sim_end<|zk<|yC h (fun h=>zs<|zr<|yB h fun _ w h=>yu h fun w h=>zm<|zn<|zk<|sim_ret<|sim_then_ret<|body_retCT rfl rfl rfl h) fun h=>sim_skip<|zk<|zs<|zr<|yv h fun _ w h=>yc h c16 fun _ w h=>yv h fun _ w h=>yu h fun w h=>?_
 refine zn<|zk<|zs<|zr<|zm<|yc h c55 fun _ w h=>zm<|yv h fun _ w h=>yv h fun _ w h=>zm<|zm<|zn<|zk<|zs<|zs ?_
 refine zr<|zm<|yb h fun _ w h=>zn<|zk<|yC h (fun h=>zs<|zr<|yB h fun _ w h=>zm<|yu h fun w h=>zm<|zn<|zk<|sim_ret<|sim_then_ret<|body_retCT rfl rfl rfl h) fun h=>sim_skip<|zk<|zs<|zs<|zr<|zm<|yv h fun _ w h=>yc h c16 fun _ w h=>?_
 refine yN h fun _ w h=>yu h fun w h=>zn<|zk<|zs<|zr<|yv h fun _ w h=>yc h c25 fun _ w h=>yv h fun _ w h=>zn<|zk<|yC h (fun h=>zs<|zr<|yB h fun _ w h=>yu h fun w h=>zm<|zn<|zk<|sim_ret<|sim_then_ret<|body_retCT rfl rfl rfl h) fun h=>sim_skip<|zk ?_
 exact zs<|zr<|yv h fun _ w h=>yu h fun w h=>zm<|zn<|zk<|sim_ret<|body_retCT rfl rfl rfl h
def n47c1 (t1:Value) (R:RT) (w:World):Prop :=
 opV Pg (Instr.loadAt 26 t1) (panK R) w fun t6 w =>
 callK Pg 16 #[t6] (panK R) w fun t7 w =>
 callK Pg 59 #[t7,(.string { data := #[] })] (panK R) w fun t8 w =>
 R (.returned t8) w
def n47 (t0:Value) (R:RT) (w:World):Prop :=
 opV Pg (Instr.box 26 t0) (panK R) w fun t1 w =>
 opV Pg (Instr.loadAt 26 t1) (panK R) w fun t3 w =>
 callK Pg 25 #[t3] (panK R) w fun t4 w =>
 opV Pg (Op.unary .not t4) (panK R) w fun t5 w =>
 condP t5 (
 R (.returned (.func (.func 58) #[] #[])) w) (
 n47c1 t1 R w)
theorem n47s {t0:Value} {R:RT} {w:World} (h:n47 t0 R w):Calls Pg 22 #[t0] w R:=by
 refine yD Tryz.func22 ?_
 refine zs<|zr<|yv h fun _ w h=>zm<|zn<|zk<|zs<|zs<|zr<|yv h fun _ w h=>yc h c25 fun _ w h=>yv h fun _ w h=>zn<|zk<|yC h (fun h=>zs<|zr<|zm<|zn<|zk<|sim_ret<|sim_then_ret<|body_ret1 rfl rfl h) fun h=>?_
 exact sim_skip<|zk<|zs<|zr<|yv h fun _ w h=>yc h c16 fun _ w h=>yc h c59 fun _ w h=>zm<|zn<|zk<|sim_ret<|body_ret1 rfl rfl h
def n46c1 (t2 t5 t13 t16:Value) (Kr1:World→Prop) (Qr1:List PanicEntry→World→Prop) (Xr1:Nat→World→Prop) (R:RT) (w:World):Prop :=
 pickK t13 (.bool true) t16 fun t17 =>
 joinK (fun (t21:Value) (w:World) =>
 pickK t17 (.bool true) t21 fun t22 =>
 condP t22 (
 opU Pg (Instr.storeAt 4 t2 (.bool false)) Qr1 w fun w =>
 Xr1 0 w) (
 Kr1 w)) fun K3 =>
 guardP t17 false (
 opV Pg (Instr.loadAt 26 t5) Qr1 w fun t19 w =>
 callK Pg 65 #[t19] Qr1 w fun t20 w =>
 opV Pg (Op.unary .not t20) Qr1 w fun t21 w =>
 K3 t21 w) (
 K3 undef w)
def n46c2 (t2 t3 t5 t8:Value) (Kr1:World→Prop) (Qr1:List PanicEntry→World→Prop) (Xr1:Nat→World→Prop) (R:RT) (w:World):Prop :=
 opV Pg (Instr.loadAt 3 t3) Qr1 w fun t10 w =>
 opV Pg (binS .add 3 true t10 (.int .i64 1)) Qr1 w fun t11 w =>
 opU Pg (Instr.storeAt 3 t3 t11) Qr1 w fun w =>
 opV Pg (Instr.loadAt 3 t3) Qr1 w fun t12 w =>
 opV Pg (binS .gtr 3 true t12 (.int .i64 65536)) Qr1 w fun t13 w =>
 joinK (fun (t16:Value) (w:World) =>
 n46c1 t2 t5 t13 t16 Kr1 Qr1 Xr1 R w) fun K2 =>
 guardP t13 false (
 opV Pg (binS .gtr 3 true t8 (.int .i64 40)) Qr1 w fun t16 w =>
 K2 t16 w) (
 K2 undef w)
def n46c3 (t2 t3 t8 t9:Value) (Kr1:World→Prop) (Qr1:List PanicEntry→World→Prop) (Xr1:Nat→World→Prop) (l1:Nat) (R:RT) (w:World):Prop :=
 opV Pg (Instr.alloc 26 true (.tuple #[])) (fun _ _=>False) w fun t5 w =>
 opU Pg (Instr.storeAt 26 t5 t9) (fun _ _=>False) w fun w =>
 busyK l1 w fun w =>
 n46c2 t2 t3 t5 t8 Kr1 Qr1 Xr1 R w
def n46c4 (t2 t3 t7:Value) (ds:List Deferred) (R:RT) (w:World):Prop :=
 rangeN2 Pg t7 ds (fun l1 t8 t9 w Kr1 Xr1 Qr1 =>
 n46c3 t2 t3 t8 t9 Kr1 Qr1 Xr1 l1 R w) (fun ch ds w=>outQ Pg ds [(some 4,t2)] R ch w) w (fun ds w =>
 opU Pg (Instr.storeAt 4 t2 (.bool true)) (outQ Pg ds [(some 4,t2)] R) w fun w =>
 outX Pg ds [(some 4,t2)] R w) [fun ds w =>
 outX Pg ds [(some 4,t2)] R w]
def n46 (t0:Value) (R:RT) (w:World):Prop :=
 (fun (ds:List Deferred) =>
 opV Pg (Instr.box 26 t0) (outQ Pg ds [(some 4,undef)] R) w fun t1 w =>
 opV Pg (Instr.alloc 4 true (.tuple #[])) (outQ Pg ds [(some 4,undef)] R) w fun t2 w =>
 opV Pg (Instr.alloc 3 true (.tuple #[])) (outQ Pg ds [(some 4,t2)] R) w fun t3 w =>
 opU Pg (Instr.storeAt 3 t3 (.int .i64 0)) (outQ Pg ds [(some 4,t2)] R) w fun w =>
 opV Pg (Instr.loadAt 26 t1) (outQ Pg ds [(some 4,t2)] R) w fun t6 w =>
 callK Pg 64 #[t6,(.int .i64 1)] (outQ Pg ds [(some 4,t2)] R) w fun t7 w =>
 n46c4 t2 t3 t7 ds R w) []
theorem n46s {t0:Value} {R:RT} {w:World} (h:n46 t0 R w):Calls Pg 25 #[t0] w R:=by
 refine yE Tryz.func25 ?_
 unfold n46 at h
 dsimp only at h
 refine zs<|zr<|yv h fun _ w h=>yv h fun _ w h=>zn<|zk<|zs<|zr<|yv h fun _ w h=>yu h fun w h=>zn<|zk<|zs<|zs<|zr ?_
 refine yv h fun _ w h=>yc h c64 fun _ w h=>zn<|zk<|sim_block<|sim_range2 [.ret] h rfl (fun l1 t8 t9 w Kr1 Xr1 Qr1 h=>?_) (fun ds w h=>?_) (fun c ds w h=>?_) (fun ch ds w h=>outQ_of rfl h)
 · refine zs<|zr<|zm<|zn<|zk<|zr<|yv h fun _ w h=>yu h fun w h=>zn<|zk ?_
   obtain ⟨hr,h⟩:=h
   refine ⟨rfl,hr,fun w hb=>?_⟩
   have h:=h w hb
   refine sim_block<|zs<|zr<|yv h fun _ w h=>yb h fun _ w h=>yu h fun w h=>zn<|zk<|zs<|sim_regionG<|yG 3<|yv h fun _ w h=>yb h fun _ w h=>zm<|zn ?_
   refine yg1 2 2 false [15,16] 16 h (fun _ T hT h=>?_) fun σ w h=>?_
   · refine zm<|yb h fun _ w h=>zn ?_
     exact zt hT h
   refine yG 2<|yp h fun _ h=>zm<|zn<|yg1 3 6 false [19,20,21] 21 h (fun _ T hT h=>?_) fun σ w h=>?_
   · refine yv h fun _ w h=>yc h c65 fun _ w h=>yv h fun _ w h=>zn ?_
     exact zt hT h
   exact yG 1<|yp h fun _ h=>zn<|sim_end<|zk<|yC h (fun h=>zs<|zr<|yu h fun w h=>zn<|zk<|sim_ret<|sim_block_ret<|⟨rfl,0,rfl,h⟩) fun h=>sim_skip<|sim_block_normal<|⟨rfl,h⟩
 · exact sim_block_normal<|zk<|zs<|zr<|yu h fun w h=>zn<|zk<|sim_ret<|bodyM_ret rfl h
 rcases c with _ | c
 · refine ⟨_,rfl,.inl ⟨rfl,?_⟩⟩
   exact sim_block_ret<|sim_then_ret<|bodyM_ret rfl h
 exact h.elim
def n45c1 (t1:Value) (R:RT) (w:World):Prop :=
 opV Pg (Instr.loadAt 26 t1) (panK R) w fun t7 w =>
 callK Pg 66 #[(Value.slice none 0 0),t7] (panK R) w fun t8 w =>
 opV Pg (Go.convert 22 9 t8) (panK R) w fun t9 w =>
 R (.returned (.tuple #[t9,(.int .i64 0)])) w
def n45 (t0:Value) (R:RT) (w:World):Prop :=
 opV Pg (Instr.box 26 t0) (panK R) w fun t1 w =>
 opV Pg (Instr.loadAt 26 t1) (panK R) w fun t4 w =>
 callK Pg 25 #[t4] (panK R) w fun t5 w =>
 opV Pg (Op.unary .not t5) (panK R) w fun t6 w =>
 condP t6 (
 R (.returned (.tuple #[(.string { data := #[] }),(.int .i64 2)])) w) (
 n45c1 t1 R w)
theorem n45s {t0:Value} {R:RT} {w:World} (h:n45 t0 R w):Calls Pg 26 #[t0] w R:=by
 refine yD Tryz.func26 ?_
 refine zs<|zr<|yv h fun _ w h=>zm<|zm<|zn<|zk<|zs<|zs<|zr<|yv h fun _ w h=>yc h c25 fun _ w h=>yv h fun _ w h=>zn<|zk ?_
 exact yC h (fun h=>zs<|zr<|zm<|zm<|zn<|zk<|sim_ret<|sim_then_ret<|body_ret2 rfl rfl rfl h) fun h=>sim_skip<|zk<|zs<|zr<|yv h fun _ w h=>yc h c66 fun _ w h=>yv h fun _ w h=>zm<|zm<|zn<|zk<|sim_ret<|body_ret2 rfl rfl rfl h
def n40c1 (t4 t15:Value) (R:RT) (w:World):Prop :=
 opN Pg (nilN t15) (panK R) w fun t22 w =>
 opV Pg (Instr.loadAt 26 t22) (panK R) w fun t23 w =>
 callK Pg 16 #[t23] (panK R) w fun t24 w =>
 opU Pg (Instr.storeAt 26 t4 t24) (panK R) w fun w =>
 qW Pg 26 t4 w fun r0 =>
 R (.returned (.tuple #[r0,(.int .i64 0)])) w
def n40c2 (t4 t14:Value) (R:RT) (w:World):Prop :=
 opV Pg (Instr.extract t14 0) (panK R) w fun t15 w =>
 opV Pg (Instr.extract t14 1) (panK R) w fun t16 w =>
 opV Pg (binS .neq 33 true t16 (.int .i64 0)) (panK R) w fun t18 w =>
 condP t18 (
 opV Pg (Instr.build 26 #[]) (panK R) w fun t19 w =>
 opU Pg (Instr.storeAt 26 t4 t19) (panK R) w fun w =>
 qW Pg 26 t4 w fun r0 =>
 R (.returned (.tuple #[r0,t16])) w) (
 n40c1 t4 t15 R w)
def n40c3 (t4:Value) (R:RT) (w:World):Prop :=
 opV Pg (Instr.build 26 #[]) (panK R) w fun t11 w =>
 opU Pg (Instr.storeAt 26 t4 t11) (panK R) w fun w =>
 qW Pg 26 t4 w fun r0 =>
 R (.returned (.tuple #[r0,(.int .i64 2)])) w
def n40 (t0 t1:Value) (R:RT) (w:World):Prop :=
 opV Pg (Instr.box 26 t0) (panK R) w fun t2 w =>
 opV Pg (Instr.alloc 26 true (.tuple #[])) (panK R) w fun t4 w =>
 opV Pg (Instr.loadAt 26 t2) (panK R) w fun t8 w =>
 callK Pg 25 #[t8] (panK R) w fun t9 w =>
 opV Pg (Op.unary .not t9) (panK R) w fun t10 w =>
 condP t10 (
 n40c3 t4 R w) (
 callK Pg 55 #[t2,t1] (panK R) w fun t14 w =>
 n40c2 t4 t14 R w)
theorem n40s {t0 t1:Value} {R:RT} {w:World} (h:n40 t0 t1 R w):Calls Pg 27 #[t0,t1] w R:=by
 refine yD Tryz.func27 ?_
 refine zs<|zr<|yv h fun _ w h=>yv h fun _ w h=>zm<|zn<|zk<|zs<|zs<|zr<|yv h fun _ w h=>yc h c25 fun _ w h=>yv h fun _ w h=>zn<|zk ?_
 refine yC h (fun h=>zs<|zr<|yB h fun _ w h=>yu h fun w h=>zm<|zn<|zk<|sim_ret<|sim_then_ret<|body_retCT rfl rfl rfl h) fun h=>sim_skip<|zk<|zs<|zr<|zm<|yc h c55 fun _ w h=>zm<|yv h fun _ w h=>yv h fun _ w h=>zm<|zm<|zn<|zk ?_
 refine zs<|zs<|zr<|zm<|yb h fun _ w h=>zn<|zk<|yC h (fun h=>zs<|zr<|yB h fun _ w h=>zm<|yu h fun w h=>zm<|zn<|zk<|sim_ret<|sim_then_ret<|body_retCT rfl rfl rfl h) fun h=>sim_skip<|zk<|zs<|zr<|zm<|yN h fun _ w h=>?_
 exact yv h fun _ w h=>yc h c16 fun _ w h=>yu h fun w h=>zm<|zn<|zk<|sim_ret<|body_retCT rfl rfl rfl h
theorem height_le (t:Tr):heightT t≤nodesT t:=by
 refine Tr.ind (p:=fun t=>heightT t≤nodesT t) ?_ t
 intro n ps ih
 rw [heightT_mk,nodesT_mk]
 have:(ps.map heightT).foldr max 0≤(ps.map nodesT).sum:=by
  clear n
  induction ps with
  | nil=>exact Nat.le_refl _
  | cons p ps ih2 =>
   rw [List.map_cons,List.map_cons,List.foldr_cons,List.sum_cons]
   have h1:=ih p (List.mem_cons_self ..)
   have h2:=ih2 fun x hx=>ih x (List.mem_cons_of_mem _ hx)
   omega
 omega
theorem Nodes_ret (w0:World) (v:Value) (t:Tr) (h:ValAt w0 v t) (hb:nodesT t≤1000000000):Ret Pg 28 #[v] w0 fun r w'=>r = .int .i64 (nodesT t:Int)∧Ext w0 w':=by
 have hh:=height_le t
 obtain ⟨bv,hv,pv,rfl,hB,hH,hT,o1,o2,o3⟩:=h.op
 refine n41s (R:=retR _) ?_;unfold n41
 show opV _ _ _ _ _
 rw [op_boxA]
 have hx:=heap_new w0 (trCells t.nd bv hv pv).toArray 26
 have eX:Ext w0 (w0.alloc (.cells (trCells t.nd bv hv pv).toArray 26)):=ee
 generalize (w0.alloc (.cells (trCells t.nd bv hv pv).toArray 26))=X at hx eX ⊢
 generalize hp1:w0.heap.size=p1 at hx ⊢
 simp (disch:=try exact DI) only [↓PR,QR,simprocAttr,fun o=>(cells_of_heap (((Ext.refl X).alloc o).obj hx)).1]
 have eW:Ext X (X.alloc (.cells #[.int .i64 0] 3)):=ee
 have oW:=heap_new X #[.int .i64 0] 3
 generalize (X.alloc (.cells #[.int .i64 0] 3))=W at eW oW ⊢
 have sX:=eX.size
 generalize hp2:X.heap.size=p2 at oW sX ⊢
 have EW:=eX.trans eW
 refine callK_ret (each_ret _ _ t 1 (ValAt.ext ⟨bv,hv,pv,rfl,hB,hH,hT⟩ EW)) ?_
 rintro _ w1 ⟨⟨cs3,h31,rfl,m1,m2⟩,e1,s1⟩
 have E1:=EW.trans e1
 have q1:=e1.obj oW
 have z1:=(Array.getElem?_eq_some_iff.1 q1).1
 have hV:ValAt w0 (.agg (trCells t.nd bv hv pv).toArray) t:=⟨bv,hv,pv,rfl,hB,hH,hT⟩
 obtain ⟨vs,hHold,hSeq⟩:=each_seq t w0 _ 1 hV (by omega)
 have hL:=eachT_len t 1
 have zX:=(Array.getElem?_eq_some_iff.1 hx).1
 have zW:=(Array.getElem?_eq_some_iff.1 oW).1
 injection h31 with h31
 let I:Nat→World→Prop:=fun j u=>Ext w0 u∧u.heap[p2]?=some (.cells #[.int .i64 (j:Int)] 3 (0,0))∧u.heap[W.heap.size+1]?=some (.cells #[.int .i64 ((1:Nat):Int)] 3 (0,0))∧u.heap[W.heap.size]?=some (.cells cs3 26 (0,0))
 have hLI:∀ j,Lasts2 w1.heap.size (I j):=fun j=>(Lasts2.from (by omega)).and ((Lasts2.has _ (by simp) (by simp)).and ((Lasts2.has _ (by simp) (by simp)).and (Lasts2.has _ (by simp) (by simp))))
 refine ⟨_,_,(eachT t 1).length,xsE (eachT t 1),ysE vs,EaAt w0 (W.heap.size+1) W.heap.size 1 cs3,I,fun _ _=>False,fun _ _=>False,rfl,c85,hSeq _ _ _ (congrArg Value.agg h31),⟨E1,q1,m2,m1⟩,fun j u h=>⟨h.1,h.2.2.1,h.2.2.2⟩,hLI,fun _=>Lasts2.const _ _,fun _=>Lasts2.const _ _,?_,?_,?_,?_⟩
 · intro Rk hRk j u hj hIu hRu hltu hready
   unfold n41c1
   refine ⟨hready,fun w5 hbz=>?_⟩
   have hR5:=hRk _ _ (KR.busied hbz) hRu
   obtain ⟨e5,n1,n2,n3⟩:=(hLI j).busied hbz (Nat.le_succ _) hIu
   have hw:IntKind.i64.wrap ((j:Int)+1)=((j+1:Nat):Int):=by rw [wrap_ok (by omega) (by omega)];omega
   simp (disch:=try exact DI) only [↓PR,QR,simprocAttr,(cells_of_heap n1).1,(cells_of_heap n1).2,hw]
   refine ⟨hRk _ _ (KR.setCell (KR.refl _ w5) p2 0 _ (.inl (by omega))) hR5,e5.setCell (by show w0.heap.size≤p2;omega) _,by simpa using heap_set (o:=0) n1 (.int .i64 ((j+1:Nat):Int)),?_,?_⟩
   · exact (Only.setCell w5 p2 0 _ _ (by omega)).trans n2
   · exact (Only.setCell w5 p2 0 _ _ (by omega)).trans n3
 · rintro u ⟨e,n1,_,_⟩ hmk
   unfold n41c2
   rw [hL] at n1
   simp (disch:=try exact DI) only [↓PR,QR,simprocAttr,(cells_of_heap n1).1,(cells_of_heap n1).2]
   refine outX_mark (hmk.setCell _ _) ?_
   have n2:((u.setCell ⟨p2,0,none⟩ (.int .i64 (nodesT t:Int))).putObj w1.heap.size (.deferred none)).heap[p2]?=some (.cells #[.int .i64 (nodesT t:Int)] 3 (0,0)):=(World.putObj_heap_other (by omega)).trans (by simpa using heap_set (o:=0) n1 (.int .i64 (nodesT t:Int)))
   have e2:=(e.setCell (p:=⟨p2,0,none⟩) (by show w0.heap.size≤p2;omega) (.int .i64 (nodesT t:Int))).putObj (l:=w1.heap.size) (by omega) (.deferred none)
   simp (disch:=try exact DI) only [↓PR,QR,simprocAttr,outX_nil,retV,resOne,(cells_of_heap n2).1]
   exact ⟨by trivial,e2⟩
 · rintro c u h
   exact h.elim
 · rintro ch u h
   exact h.elim
theorem validT_iff (t:Tr):validT t=true↔∀ (k:Nat) (x:Nat×Tr),(eachT t 1)[k]?=some x→k+1≤65536∧x.1≤40∧nodeB x.2.nd=true:=by
 rw [validT_each,Bool.and_eq_true,decide_eq_true_iff,List.all_eq_true]
 constructor
 · rintro ⟨h1,h2⟩ k x hx
   have:=h2 x (List.mem_of_getElem? hx)
   rw [Bool.and_eq_true,decide_eq_true_iff] at this
   have hk:=(List.getElem?_eq_some_iff.1 hx).1
   exact ⟨by omega,this⟩
 · intro h
   refine ⟨?_,fun x hx=>?_⟩
   · rcases Nat.eq_zero_or_pos (eachT t 1).length with h0 | h0
     · omega
     · obtain ⟨x,hx⟩:=getElem?_lt (l:=eachT t 1) (k:=(eachT t 1).length - 1) (by omega)
       have:=(h _ x hx).1
       omega
   · obtain ⟨k,hk⟩:=List.getElem?_of_mem hx
     have:=h k x hk
     rw [Bool.and_eq_true,decide_eq_true_iff]
     exact this.2
theorem Valid_ret (w0:World) (v:Value) (t:Tr) (h:ValAt w0 v t) (hb:nodesT t≤1000000000):Ret Pg 25 #[v] w0 fun r w'=>r = .bool (validT t)∧Ext w0 w':=by
 have hh:=height_le t
 obtain ⟨bv,hv,pv,rfl,hB,hH,hT,o1,o2,o3⟩:=h.op
 refine n46s (R:=retR _) ?_;unfold n46
 show opV _ _ _ _ _
 rw [op_boxA]
 have hx:=heap_new w0 (trCells t.nd bv hv pv).toArray 26
 have eX:Ext w0 (w0.alloc (.cells (trCells t.nd bv hv pv).toArray 26)):=ee
 generalize (w0.alloc (.cells (trCells t.nd bv hv pv).toArray 26))=X at hx eX ⊢
 generalize hp1:w0.heap.size=p1 at hx ⊢
 simp (disch:=try exact DI) only [↓PR,QR,simprocAttr,fun o o'=>(cells_of_heap ((((Ext.refl X).alloc o).alloc o').obj hx)).1]
 generalize hA:World.alloc X _=A
 have eA:Ext X A:=by rw [← hA];exact (Ext.refl X).alloc _
 have oA:A.heap[X.heap.size]?=some (.cells #[.bool false] 4 (0,0)):=by rw [← hA];exact heap_new _ _ _
 have sA:A.heap.size=X.heap.size+1:=by rw [← hA];exact World.size_alloc ..
 clear hA
 have eW:Ext A (A.alloc (.cells #[.int .i64 0] 3)):=ee
 have oW:=heap_new A #[.int .i64 0] 3
 rw [sA] at oW
 simp only [World.size_alloc]
 generalize (A.alloc (.cells #[.int .i64 0] 3))=W at eW oW ⊢
 have sX:=eX.size
 have EW:=eX.trans (eA.trans eW)
 have r1:=eW.obj oA
 refine callK_ret (each_ret _ _ t 1 (ValAt.ext ⟨bv,hv,pv,rfl,hB,hH,hT⟩ EW)) ?_
 rintro _ w1 ⟨⟨cs3,h31,rfl,m1,m2⟩,e1,s1⟩
 have E1:=EW.trans e1
 have q1:=e1.obj oW
 have q2:=e1.obj r1
 have zX:=(Array.getElem?_eq_some_iff.1 hx).1
 have zW:=(Array.getElem?_eq_some_iff.1 oW).1
 have hV:ValAt w0 (.agg (trCells t.nd bv hv pv).toArray) t:=⟨bv,hv,pv,rfl,hB,hH,hT⟩
 obtain ⟨vs,hHold,hSeq⟩:=each_seq t w0 _ 1 hV (by omega)
 have hL:=eachT_len t 1
 injection h31 with h31
 generalize hp2:X.heap.size=p2 at *
 let I:Nat→World→Prop:=fun j u=>Ext w0 u∧u.heap[p2+1]?=some (.cells #[.int .i64 (j:Int)] 3 (0,0))∧u.heap[p2]?=some (.cells #[.bool false] 4 (0,0))∧u.heap[W.heap.size+1]?=some (.cells #[.int .i64 ((1:Nat):Int)] 3 (0,0))∧u.heap[W.heap.size]?=some (.cells cs3 26 (0,0))∧∀ (k:Nat) (x:Nat×Tr),k < j→(eachT t 1)[k]?=some x→k+1≤65536∧x.1≤40∧nodeB x.2.nd=true
 let Ix:Nat→World→Prop:=fun c u=>c=0∧Ext w0 u∧u.heap[p2]?=some (.cells #[.bool false] 4 (0,0))∧validT t=false
 have hLI:∀ j,Lasts2 w1.heap.size (I j):=fun j=>(Lasts2.from (by omega)).and ((Lasts2.has _ (by simp) (by simp)).and ((Lasts2.has _ (by simp) (by simp)).and ((Lasts2.has _ (by simp) (by simp)).and ((Lasts2.has _ (by simp) (by simp)).and (Lasts2.const _ _)))))
 have hLX:∀ c,Lasts2 w1.heap.size (Ix c):=fun c=>(Lasts2.const _ _).and ((Lasts2.from (by omega)).and ((Lasts2.has _ (by simp) (by simp)).and (Lasts2.const _ _)))
 have hout:∀ (u:World) (b:Bool),Ext w0 u→u.heap[p2]?=some (.cells #[.bool b] 4 (0,0))→MarkAt w1.heap.size u→validT t=b→outX Pg [Sw.mark w1.heap.size] [(some 4,.pointer (some ⟨p2,0,none⟩))] (retR fun r w'=>r = .bool (validT t)∧Ext w0 w') u:=by
  intro u b e n1 hmk hb'
  refine outX_mark hmk ?_
  have n2:(u.putObj w1.heap.size (.deferred none)).heap[p2]?=some (.cells #[.bool b] 4 (0,0)):=(World.putObj_heap_other (by omega)).trans n1
  have e2:=e.putObj (l:=w1.heap.size) (by omega) (.deferred none)
  simp (disch:=try exact DI) only [↓PR,QR,simprocAttr,outX_nil,retV,resOne,(cells_of_heap n2).1]
  exact ⟨by rw [hb'],e2⟩
 unfold n46c4
 refine ⟨_,_,(eachT t 1).length,xsE (eachT t 1),ysE vs,EaAt w0 (W.heap.size+1) W.heap.size 1 cs3,I,Ix,fun _ _=>False,rfl,c85,hSeq _ _ _ (congrArg Value.agg h31),⟨E1,q1,q2,m2,m1,fun k x h=>absurd h (Nat.not_lt_zero _)⟩,fun j u h=>⟨h.1,h.2.2.2.1,h.2.2.2.2.1⟩,hLI,hLX,fun _=>Lasts2.const _ _,?_,?_,?_,?_⟩
 · intro Rk hRk j u hj hIu hRu hltu hready
   obtain ⟨y,hyj,hxs,hVy⟩:=hHold.at hj
   obtain ⟨yb,yh,yp,hyv,g1,g2,g3,f1,f2,f3⟩:=hVy.op
   rw [hxs,hyv]
   unfold n46c3
   simp (disch:=try exact DI) only [↓PR,QR,simprocAttr]
   change busyK _ (u.alloc (.cells #[.string y.2.nd.name,.int .i64 y.2.nd.int,yb,yh,yp] 26)) _
   have eU:Ext u (u.alloc (.cells #[.string y.2.nd.name,.int .i64 y.2.nd.int,yb,yh,yp] 26)):=ee
   have oU:=heap_new u #[.string y.2.nd.name,.int .i64 y.2.nd.int,yb,yh,yp] 26
   generalize (u.alloc (.cells #[.string y.2.nd.name,.int .i64 y.2.nd.int,yb,yh,yp] 26))=U at eU oU ⊢
   generalize hpu:u.heap.size=pu at oU ⊢
   refine ⟨by obtain ⟨r,h1,h2⟩:=hready;exact ⟨r,eU.obj h1,h2⟩,fun w5 hbz=>?_⟩
   have hR5:=hRk _ _ (KR.busied hbz) (hRk _ _ (KR.of eU) hRu)
   obtain ⟨e5,n1,n2,n3,n4,n5⟩:=(hLI j).busied hbz (Nat.le_succ _) ((hLI j).ext hIu eU)
   have qU:w5.heap[pu]?=some (.cells #[.string y.2.nd.name,.int .i64 y.2.nd.int,yb,yh,yp] 26 (0,0)):=(Lasts2.has w1.heap.size (by simp) (by simp)).busied hbz (Nat.le_succ _) oU
   have hw:IntKind.i64.wrap ((j:Int)+1)=((j+1:Nat):Int):=by rw [wrap_ok (by omega) (by omega)];omega
   have hR6:=hRk _ _ (KR.setCell (KR.refl _ w5) (p2+1) 0 (.int .i64 ((j+1:Nat):Int)) (.inl (by omega))) hR5
   have e6:=e5.setCell (p:=⟨p2+1,0,none⟩) (by show w0.heap.size≤p2+1;omega) (.int .i64 ((j+1:Nat):Int))
   have k1:(w5.setCell ⟨p2+1,0,none⟩ (.int .i64 ((j+1:Nat):Int))).heap[p2+1]?=some (.cells #[.int .i64 ((j+1:Nat):Int)] 3 (0,0)):=by simpa using heap_set (o:=0) n1 (.int .i64 ((j+1:Nat):Int))
   have k2:=(Only.setCell w5 (p2+1) 0 (.int .i64 ((j+1:Nat):Int)) _ (by omega)).trans n2
   have k3:=(Only.setCell w5 (p2+1) 0 (.int .i64 ((j+1:Nat):Int)) _ (by omega)).trans n3
   have k4:=(Only.setCell w5 (p2+1) 0 (.int .i64 ((j+1:Nat):Int)) _ (by omega)).trans n4
   have kU:=(Only.setCell w5 (p2+1) 0 (.int .i64 ((j+1:Nat):Int)) _ (by omega)).trans qU
   unfold n46c2
   simp (disch:=try exact DI) only [↓PR,QR,simprocAttr,(cells_of_heap n1).1,(cells_of_heap n1).2,hw]
   generalize (w5.setCell ⟨p2+1,0,none⟩ (.int .i64 ((j+1:Nat):Int)))=w6 at hR6 e6 k1 k2 k3 k4 kU ⊢
   have bad:¬ (j+1≤65536∧y.1≤40∧nodeB y.2.nd=true)→validT t=false:=fun hn=>by
    cases hv:validT t with
    | false=>rfl
    | true=>exact absurd ((validT_iff t).1 hv j y hyj) hn
   have stop:∀ w7,Rk w7→Ext w0 w7→w7.heap[p2]?=some (.cells #[.bool false] 4 (0,0))→¬ (j+1≤65536∧y.1≤40∧nodeB y.2.nd=true)→Rk (w7.setCell ⟨p2,0,none⟩ (.bool false))∧Ix 0 (w7.setCell ⟨p2,0,none⟩ (.bool false)):=fun w7 hR7 e7 k7 hn=>⟨hRk _ _ (KR.setCell (KR.refl _ w7) p2 0 _ (.inl (by omega))) hR7,rfl,e7.setCell (by show w0.heap.size≤p2;omega) _,by simpa using heap_set (o:=0) k7 (.bool false),bad hn⟩
   by_cases h1:j+1≤65536
   case neg =>
    have d1:decide (((j+1:Nat):Int) > 65536)=true:=decide_eq_true (by omega)
    simp (disch:=try exact DI) only [↓PR,QR,simprocAttr,(cells_of_heap k1).1,d1,↓n46c1,↓n46c2,↓n46c3,↓n46c4,(cells_of_heap k2).1,(cells_of_heap k2).2]
    exact stop _ hR6 e6 k2 (fun h=>h1 h.1)
   have d1:decide (((j+1:Nat):Int) > 65536)=false:=decide_eq_false (by omega)
   by_cases h2:y.1≤40
   case neg =>
    have d2:decide ((y.1:Int) > 40)=true:=decide_eq_true (by omega)
    simp (disch:=try exact DI) only [↓PR,QR,simprocAttr,(cells_of_heap k1).1,d1,d2,↓n46c1,↓n46c2,↓n46c3,↓n46c4,(cells_of_heap k2).1,(cells_of_heap k2).2]
    exact stop _ hR6 e6 k2 (fun h=>h2 h.2.1)
   have d2:decide ((y.1:Int) > 40)=false:=decide_eq_false (by omega)
   simp (disch:=try exact DI) only [↓PR,QR,simprocAttr,(cells_of_heap k1).1,d1,d2,↓n46c1,↓n46c2,↓n46c3,↓n46c4,(cells_of_heap kU).1]
   refine zcr (node_ret _ _ y.2 (ValAt.ext ⟨yb,yh,yp,rfl,g1,g2,g3⟩ e6)) fun w7 e7=>?_
   have hR7:=hRk _ _ (KR.of e7) hR6
   have k2':=e7.obj k2
   cases hnd:nodeB y.2.nd with
   | false =>
    simp (disch:=try exact DI) only [↓PR,QR,simprocAttr,↓n46c1,↓n46c2,↓n46c3,↓n46c4,(cells_of_heap k2').1,(cells_of_heap k2').2]
    exact stop _ hR7 (e6.trans e7) k2' (fun h=>by rw [hnd] at h;exact absurd h.2.2 (by simp))
   | true =>
    simp (disch:=try exact DI) only [↓PR,QR,simprocAttr,↓n46c1,↓n46c2,↓n46c3,↓n46c4]
    refine ⟨hR7,e6.trans e7,e7.obj k1,k2',e7.obj k3,e7.obj k4,fun k x hk hx=>?_⟩
    by_cases hkj:k=j
    · subst hkj
      rw [hyj] at hx
      injection hx with hx
      subst hx
      exact ⟨h1,h2,hnd⟩
    · exact n5 k x (by omega) hx
 · rintro u ⟨e,n1,n2,_,_,n5⟩ hmk
   have hv:validT t=true:=(validT_iff t).2 fun k x hx=>n5 k x (List.getElem?_eq_some_iff.1 hx).1 hx
   simp (disch:=try exact DI) only [↓PR,QR,simprocAttr,(cells_of_heap n2).1,(cells_of_heap n2).2]
   exact hout _ true (e.setCell (by show w0.heap.size≤p2;omega) _) (by simpa using heap_set (o:=0) n2 (.bool true)) (hmk.setCell _ _) hv
 · rintro c u ⟨rfl,e,n2,hv⟩ hmk
   exact hout _ false e n2 hmk hv
 · rintro ch u h
   exact h.elim
def n61c1 (t0:Value) (R:RT) (w:World):Prop :=
 opN Pg (nilN t0) (panK R) w fun t29 w =>
 opV Pg (Instr.fieldAt 83 t29 1) (panK R) w fun t30 w =>
 opV Pg (Instr.loadAt 3 t30) (panK R) w fun t31 w =>
 opV Pg (binS .add 3 true t31 (.int .i64 1)) (panK R) w fun t32 w =>
 opN Pg (nilN t0) (panK R) w fun t33 w =>
 opV Pg (Instr.fieldAt 83 t33 1) (panK R) w fun t34 w =>
 opU Pg (Instr.storeAt 3 t34 t32) (panK R) w fun w =>
 R (.returned (.bool true)) w
def n61c2 (t0 t1:Value) (C1:World→Prop) (R:RT) (w:World):Prop :=
 qN Pg C1 (nilN t0) fun t6 =>
 qV Pg C1 (Instr.fieldAt 83 t6 1) fun t7 =>
 qV Pg C1 (Instr.loadAt 3 t7) fun t8 =>
 qN Pg C1 (nilN t0) fun t10 =>
 qV Pg C1 (Instr.fieldAt 83 t10 0) fun t11 =>
 qV Pg C1 (Instr.loadAt 9 t11) fun t12 =>
 qV Pg C1 (Builtin.len_ #[9] 3 #[t12]) fun t13 =>
 qV Pg C1 (binS .eql 3 false t8 t13) fun t14 =>
 joinK (fun (t26:Value) (w:World) =>
 pickK t14 (.bool true) t26 fun t27 =>
 condP t27 (
 R (.returned (.bool false)) w) (
 n61c1 t0 R w)) fun K2 =>
 guardP t14 false (
 qN Pg C1 (nilN t0) fun t17 =>
 qV Pg C1 (Instr.fieldAt 83 t17 0) fun t18 =>
 qV Pg C1 (Instr.loadAt 9 t18) fun t19 =>
 qN Pg C1 (nilN t0) fun t21 =>
 qV Pg C1 (Instr.fieldAt 83 t21 1) fun t22 =>
 qV Pg C1 (Instr.loadAt 3 t22) fun t23 =>
 qV Pg C1 (Instr.index 9 t19 t23) fun t24 =>
 qV Pg C1 (binS .neq 5 false t24 t1) fun t26 =>
 K2 t26 w) (
 K2 undef w)
def n61 (t0 t1:Value) (R:RT) (w:World):Prop :=
 drawK w fun C1 w =>
 n61c2 t0 t1 C1 R w
theorem n61s {t0 t1:Value} {R:RT} {w:World} (h:n61 t0 t1 R w):Calls Pg 74 #[t0,t1] w R:=by
 refine yD Tryz.func74 ?_
 refine zs<|zr<|zm<|zn<|zk<|zs<|zs<|yh [5,6,7,8,9,10,11,12,13,14,15,16,17,18,19,20,21,22,23,24,25,26,27] h fun C hC h=>yw 0 hC ?_
 refine yn 1 hC h fun _ h=>?_
 refine ye 2 hC h fun _ h=>?_
 refine ye 3 hC h fun _ h=>?_
 refine yw 4 hC ?_
 refine yn 5 hC h fun _ h=>?_
 refine ye 6 hC h fun _ h=>?_
 refine ye 7 hC h fun _ h=>?_
 refine ye 8 hC h fun _ h=>?_
 refine ye 9 hC h fun _ h=>?_
 refine yw 10 hC ?_
 refine yj1 1 [21,20,19,18,17,16,15,14,13,12,11,10,9,8,7,6,5,4,3,2,1,0] [16,17,18,19,20,21,22,23,24,25,26] 26 h (fun _ hT hb h=>?_) (fun _ hT hb h=>?_) fun σ w hC h=>?_
 · refine yw 11 hC ?_
   refine yn 12 hC h fun _ h=>?_
   refine ye 13 hC h fun _ h=>?_
   refine ye 14 hC h fun _ h=>?_
   refine yw 15 hC ?_
   refine yn 16 hC h fun _ h=>?_
   refine ye 17 hC h fun _ h=>?_
   refine ye 18 hC h fun _ h=>?_
   refine ye 19 hC h fun _ h=>?_
   refine yw 20 hC ?_
   refine ye 21 hC h fun _ h=>?_
   exact yt hT hC h
 · refine yi 11 hC ?_
   refine yi 12 hC ?_
   refine yi 13 hC ?_
   refine yi 14 hC ?_
   refine yi 15 hC ?_
   refine yi 16 hC ?_
   refine yi 17 hC ?_
   refine yi 18 hC ?_
   refine yi 19 hC ?_
   refine yi 20 hC ?_
   refine yi 21 hC ?_
   exact yt hT hC h
 refine yP 22 hC h fun _ h=>?_
 refine yz<|zk<|yC h (fun h=>zs<|zr<|zm<|zn<|zk<|sim_ret<|sim_then_ret<|body_ret1 rfl rfl h) fun h=>sim_skip<|zk<|zs<|zr<|zm<|yN h fun _ w h=>yv h fun _ w h=>yv h fun _ w h=>yb h fun _ w h=>yN h fun _ w h=>yv h fun _ w h=>?_
 exact yu h fun w h=>zn<|zk<|zs<|zr<|zm<|zn<|zk<|sim_ret<|body_ret1 rfl rfl h
def n67 (t0:Value) (R:RT) (w:World):Prop :=
 opV Pg (binS .geq 5 true t0 (.int .u8 48)) (panK R) w fun t4 w =>
 joinK (fun (t7:Value) (w:World) =>
 pickK t4 t7 (.bool false) fun t8 =>
 R (.returned t8) w) fun K1 =>
 guardP t4 true (
 opV Pg (binS .leq 5 true t0 (.int .u8 57)) (panK R) w fun t7 w =>
 K1 t7 w) (
 K1 undef w)
theorem n67s {t0:Value} {R:RT} {w:World} (h:n67 t0 R w):Calls Pg 76 #[t0] w R:=by
 refine yD Tryz.func76 ?_
 refine zs<|zr<|zm<|zn<|zk<|zs<|sim_regionG<|yG 3<|zm<|yb h fun _ w h=>zm<|zn<|yg1 2 2 true [6,7] 7 h (fun _ T hT h=>?_) fun σ w h=>?_
 · refine zm<|yb h fun _ w h=>zn ?_
   exact zt hT h
 exact yG 2<|yp h fun _ h=>zm<|zn<|sim_end<|zk<|sim_ret<|body_ret1 rfl rfl h
def n63c1 (t18 t21 t31 t37:Value) (C2:World→Prop) (next1:KV) (R:RT) (w:World):Prop :=
 qV Pg C2 (binS .or 3 false t31 t37) fun t38 =>
 qV Pg C2 (Go.convert 3 5 t38) fun t39 =>
 qV Pg C2 (Instr.indexAt 22 t18 t21) fun t40 =>
 opU Pg (Instr.storeAt 5 t40 t39) (panK R) w fun w =>
 turnK w fun C3 w =>
 opV Pg (binS .add 3 true t21 (.int .i64 1)) (panK R) w fun t41 w =>
 next1 t41 w
def n63c2 (t18 t21 t30 t36:Value) (C2:World→Prop) (next1:KV) (R:RT) (w:World):Prop :=
 qV Pg C2 (binS .shl 3 true t30 (.int .u64 4)) fun t31 =>
 callK Pg 102 #[(.string { data := #[48,49,50,51,52,53,54,55,56,57,97,98,99,100,101,102] }),t36] (panK R) w fun t37 w =>
 C2 w∧(
 n63c1 t18 t21 t31 t37 C2 next1 R w)
def n63c3 (t9 t18 t21:Value) (C2:World→Prop) (next1:KV) (R:RT) (w:World):Prop :=
 qV Pg C2 (binS .mul 3 true (.int .i64 2) t21) fun t28 =>
 qV Pg C2 (Instr.index 9 t9 t28) fun t29 =>
 qV Pg C2 (binS .mul 3 true (.int .i64 2) t21) fun t34 =>
 qV Pg C2 (binS .add 3 true t34 (.int .i64 1)) fun t35 =>
 qV Pg C2 (Instr.index 9 t9 t35) fun t36 =>
 callK Pg 102 #[(.string { data := #[48,49,50,51,52,53,54,55,56,57,97,98,99,100,101,102] }),t29] (panK R) w fun t30 w =>
 C2 w∧(
 n63c2 t18 t21 t30 t36 C2 next1 R w)
def n63c4 (t9:Value) (R:RT) (w:World):Prop :=
 opV Pg (Builtin.len_ #[9] 3 #[t9]) (panK R) w fun t16 w =>
 opV Pg (binS .quo 3 true t16 (.int .i64 2)) (panK R) w fun t17 w =>
 opV Pg (Instr.makeSlice 22 t17 t17) (panK R) w fun t18 w =>
 opV Pg (Builtin.len_ #[22] 3 #[t18]) (panK R) w fun t20 w =>
 loop1 (fun t21 w next1 =>
 opV Pg (binS .lss 3 false t21 t20) (panK R) w fun t22 w =>
 condP t22 (
 drawK w fun C2 w =>
 n63c3 t9 t18 t21 C2 next1 R w) (
 R (.returned t18) w)) (.int .i64 0) w
def n63c5 (t9:Value) (R:RT) (w:World):Prop :=
 opV Pg (Builtin.len_ #[9] 3 #[t9]) (panK R) w fun t11 w =>
 opV Pg (binS .rem 3 true t11 (.int .i64 2)) (panK R) w fun t12 w =>
 opV Pg (binS .eql 3 true t12 (.int .i64 0)) (panK R) w fun t13 w =>
 callK Pg 52 #[t13] (panK R) w fun t14 w =>
 n63c4 t9 R w
def n63 (t0:Value) (R:RT) (w:World):Prop :=
 opN Pg (nilN t0) (panK R) w fun t7 w =>
 opV Pg (Instr.fieldAt 85 t7 0) (panK R) w fun t8 w =>
 callK Pg 71 #[t8,(.func (.func 101) #[] #[])] (panK R) w fun t9 w =>
 n63c5 t9 R w
theorem n63s {t0:Value} {R:RT} {w:World} (h:n63 t0 R w):Calls Pg 77 #[t0] w R:=by
 refine yD Tryz.func77 ?_
 refine zs<|zr<|zm<|zn<|zk<|zs<|zr<|zm<|yN h fun _ w h=>yv h fun _ w h=>yc h c71 fun _ w h=>zm<|zn<|zk<|zs ?_
 refine zr<|zm<|yx h fun _ w h=>yb h fun _ w h=>yb h fun _ w h=>yc h c52 fun _ w h=>zn<|zk<|zs<|zr<|zm<|yx h fun _ w h=>yb h fun _ w h=>yv h fun _ w h=>zm ?_
 refine zn<|zk<|zs<|zs<|zr<|zm<|yx h fun _ w h=>zm<|zn<|zk<|sim_block<|yl1 [5,21,22,23,24,25,26,27,28,29,30,31,32,33,34,35,36,37,38,39,40,41] 21 h fun σ w next h=>zs<|zr<|yb h fun _ w h=>?_
 refine zn<|zk<|zs<|yC h (fun h=>?_) fun h=>?_
 · refine sim_skip<|zk<|zs<|sim_block<|zs<|zr<|zm<|zm<|zn<|zk<|yh [24,25,26,27,28,29,30,31,32,33,34,35,36,37,38,39,40] h fun C hC h=>yw 0 hC ?_
   refine yw 1 hC ?_
   refine yw 2 hC ?_
   refine yw 3 hC ?_
   refine ye 4 hC h fun _ h=>?_
   refine ye 5 hC h fun _ h=>?_
   refine yw 8 hC ?_
   refine yw 9 hC ?_
   refine ye 10 hC h fun _ h=>?_
   refine ye 11 hC h fun _ h=>?_
   refine ye 12 hC h fun _ h=>?_
   refine yo 6 ?_
   refine yc h c102 fun _ w h=>zn ?_
   obtain ⟨hC,h⟩:=h
   refine ⟨hC,?_⟩
   refine ye 7 hC h fun _ h=>?_
   refine yo 13 ?_
   refine yc h c102 fun _ w h=>zn ?_
   obtain ⟨hC,h⟩:=h
   refine ⟨hC,?_⟩
   refine ye 14 hC h fun _ h=>?_
   refine ye 15 hC h fun _ h=>?_
   refine ye 16 hC h fun _ h=>?_
   refine yq 17 1 ?_
   refine yu h fun w h=>zn ?_
   obtain ⟨C3,hC,h⟩:=h
   refine ⟨C3,hC,?_⟩
   exact yz<|sim_block_normal<|zk<|zr<|yb h fun _ w h=>zm<|zn<|zk<|⟨rfl,h⟩
 exact sim_exit<|sim_then_exit<|sim_then_exit<|sim_block_hit<|zk<|zs<|zr<|zm<|zm<|zn<|zk<|sim_ret<|body_ret1 rfl rfl h
def n14 (t0:Value) (R:RT) (w:World):Prop :=
 opV Pg (Instr.box 26 t0) (panK R) w fun t1 w =>
 opV Pg (Instr.loadAt 26 t1) (panK R) w fun t3 w =>
 callK Pg 32 #[t3,(.int .i64 200)] (panK R) w fun t4 w =>
 opV Pg (binS .geq 3 true t4 (.int .i64 0)) (panK R) w fun t5 w =>
 R (.returned t5) w
theorem n14s {t0:Value} {R:RT} {w:World} (h:n14 t0 R w):Calls Pg 10 #[t0] w R:=by
 refine yD Tryz.func10 ?_
 refine zs<|zr<|yv h fun _ w h=>zm<|zn<|zk<|zs<|zr<|yv h fun _ w h=>yc h c32 fun _ w h=>yb h fun _ w h=>zm<|zn<|zk<|sim_ret ?_
 exact body_ret1 rfl rfl h
def smallH (x:ByteArray×ByteArray):Bool:=decide (x.1.size≤200)&&decide (x.2.size≤200)
def smallN (n:Nd):Bool:=decide (n.name.size≤200)&&(decide (n.bytes.length≤200)&&(decide (n.hdrs.length≤110)&&n.hdrs.all smallH))
def goF {α:Type} (f:α→Int→Int):List α→Int→Int
 | [],z=>z
 | x::l,z=>if 0≤z then goF f l (f x z) else z
theorem goF_map {α β:Type} (f:β→Int→Int) (g:α→β):∀ (l:List α) (z:Int),goF f (l.map g) z=goF (fun x=>f (g x)) l z
 | [],z=>rfl
 | x::l,z=>by simp only [List.map_cons,goF,goF_map f g l]
theorem goF_neg {α:Type} (f:α→Int→Int):∀ (l:List α) (z:Int),¬ 0≤z→goF f l z=z
 | [],z,_=>rfl
 | x::l,z,h=>by rw [goF,if_neg h]
noncomputable def leftT:Tr→Int→Int:=Tr.fold fun n _ rs k=>if smallN n then goF (fun (g:Int→Int) z=>g z) rs (k - 1) else -1
theorem leftT_mk (n:Nd) (ps:List Tr) (k:Int):leftT (.mk n ps) k=if smallN n then goF leftT ps (k - 1) else -1:=by
 unfold leftT
 rw [Tr.fold_mk,goF_map]
theorem left_le (t:Tr):∀ k:Int,0≤k→leftT t k≤k - 1 ∧ -1≤leftT t k∧(0≤leftT t k→leftT t k=k - nodesT t∧allT smallN t=true):=by
 refine Tr.ind (p:=fun t=>∀ k:Int,0≤k→leftT t k≤k - 1 ∧ -1≤leftT t k∧(0≤leftT t k→leftT t k=k - nodesT t∧allT smallN t=true)) ?_ t
 intro n ps ih k hk
 rw [leftT_mk,nodesT_mk,allT_mk]
 cases hs:smallN n with
 | false=>simp;omega
 | true =>
  simp only [if_true,Bool.true_and]
  have key:∀ (l:List Tr) (z:Int),(∀ x∈l,∀ k:Int,0≤k→leftT x k≤k - 1 ∧ -1≤leftT x k∧(0≤leftT x k→leftT x k=k - nodesT x∧allT smallN x=true)) → -1≤z→goF leftT l z≤z ∧ -1≤goF leftT l z∧(0≤goF leftT l z→goF leftT l z=z - ((l.map nodesT).sum:Nat)∧l.all (allT smallN)=true):=by
   intro l
   induction l with
   | nil=>intro z _ hz;exact ⟨Int.le_refl _,hz,fun _=>by simp [goF]⟩
   | cons x l ih2 =>
    intro z hx hz
    rw [goF]
    by_cases h0:0≤z
    · rw [if_pos h0]
      obtain ⟨a1,a2,a3⟩:=hx x (List.mem_cons_self ..) z h0
      obtain ⟨b1,b2,b3⟩:=ih2 (leftT x z) (fun y hy=>hx y (List.mem_cons_of_mem _ hy)) a2
      refine ⟨by omega,b2,fun h=>?_⟩
      obtain ⟨c1,c2⟩:=b3 h
      obtain ⟨d1,d2⟩:=a3 (by omega)
      rw [List.map_cons,List.sum_cons,List.all_cons,c2,d2]
      exact ⟨by omega,rfl⟩
    · rw [if_neg h0]
      exact ⟨Int.le_refl _,hz,fun h=>absurd h h0⟩
  obtain ⟨a1,a2,a3⟩:=key ps (k - 1) ih (by omega)
  refine ⟨a1,a2,fun h=>?_⟩
  obtain ⟨b1,b2⟩:=a3 h
  exact ⟨by omega,b2⟩
theorem goF_step {α:Type} (f:α→Int→Int) {l:List α} {k:Nat} {x:α} (h:l[k]?=some x) {z:Int} (hz:0≤z):goF f (l.drop k) z=goF f (l.drop (k+1)) (f x z):=by
 have hdr:l.drop k=x::l.drop (k+1):=by
  obtain ⟨hk,rfl⟩:=List.getElem?_eq_some_iff.1 h
  exact List.drop_eq_getElem_cons hk
 rw [hdr,goF,if_pos hz]
theorem left_ret (t:Tr):∀ (w0:World) (v:Value) (k:Int),ValAt w0 v t→0≤k→k≤1000000→Ret Pg 32 #[v,.int .i64 k] w0 fun r w'=>r = .int .i64 (leftT t k)∧Ext w0 w':=by
 refine Tr.ind (p:=fun t=>∀ (w0:World) (v:Value) (k:Int),ValAt w0 v t→0≤k→k≤1000000→Ret Pg 32 #[v,.int .i64 k] w0 fun r w'=>r = .int .i64 (leftT t k)∧Ext w0 w') ?_ t
 intro n ps ih w0 v m hval hm0 hm1
 obtain ⟨bv,hv,pv,rfl,f1,f2,f3,f4,f5,f6⟩:=hval.op
 simp only [Tr.nd,Tr.ps] at f1 f2 f3 ⊢
 obtain ⟨A0,c0,rfl,_,_,_,_⟩:=SliceOf.open f1
 obtain ⟨A2,c2,rfl,_,_,_,hel2⟩:=SliceOf.open f2
 obtain ⟨A,c,rfl,_,_,_,hel⟩:=SliceOf.open f3
 rw [leftT_mk]
 have hwm:IntKind.i64.wrap (m - 1)=m - 1:=by rw [wrap_ok (by omega) (by omega)]
 refine n12s (R:=retR _) ?_;unfold n12
 rw [op_boxA]
 have h0:=heap_new w0 (trCells n (.slice A0 n.bytes.length c0) (.slice A2 n.hdrs.length c2) (.slice A ps.length c)).toArray 26
 have e0:Ext w0 (w0.alloc (.cells (trCells n (.slice A0 n.bytes.length c0) (.slice A2 n.hdrs.length c2) (.slice A ps.length c)).toArray 26)):=ee
 generalize (w0.alloc (.cells (trCells n (.slice A0 n.bytes.length c0) (.slice A2 n.hdrs.length c2) (.slice A ps.length c)).toArray 26))=X at h0 e0 ⊢
 generalize w0.heap.size=p1 at h0 ⊢
 unfold smallN
 by_cases q1:n.name.size≤200
 case neg =>
  have d:decide ((n.name.size:Int) > 200)=true:=decide_eq_true (by omega)
  simp (disch:=try exact DI) only [↓PR,QR,simprocAttr,hwm,(cells_of_heap h0).1,d,↓n12c6]
  exact ⟨by simp [q1],e0⟩
 have d1:decide ((n.name.size:Int) > 200)=false:=decide_eq_false (by omega)
 by_cases q2:n.bytes.length≤200
 case neg =>
  have d:decide ((n.bytes.length:Int) > 200)=true:=decide_eq_true (by omega)
  simp (disch:=try exact DI) only [↓PR,QR,simprocAttr,hwm,(cells_of_heap h0).1,d1,d,↓n12c6]
  exact ⟨by simp [q2],e0⟩
 have d2:decide ((n.bytes.length:Int) > 200)=false:=decide_eq_false (by omega)
 by_cases q3:n.hdrs.length≤110
 case neg =>
  have d:decide ((n.hdrs.length:Int) > 110)=true:=decide_eq_true (by omega)
  simp (disch:=try exact DI) only [↓PR,QR,simprocAttr,hwm,(cells_of_heap h0).1,d1,d2,d,↓n12c6]
  exact ⟨by simp [q3],e0⟩
 have d3:decide ((n.hdrs.length:Int) > 110)=false:=decide_eq_false (by omega)
 simp (disch:=try exact DI) only [↓PR,QR,simprocAttr,hwm,(cells_of_heap h0).1,d1,d2,d3,↓n12c6]
 simp only [q1,q2,q3,decide_true,Bool.true_and]
 refine loop1_intro (fun i w=>∃ k:Nat,i = .int .i64 k∧k≤n.hdrs.length∧Ext X w∧(n.hdrs.drop k).all smallH=n.hdrs.all smallH) (fun i _=>n.hdrs.length - (intOf i).toNat) ⟨0,rfl,by omega,Ext.refl _,rfl⟩ ?_
 rintro _ w ⟨k,rfl,hk,e,hI⟩
 have h4:=e.obj h0
 unfold n12c5
 have E:=e0.trans e
 by_cases hlt:k < n.hdrs.length
 case pos =>
  have d:decide ((k:Int) < (n.hdrs.length:Int))=true:=decide_eq_true (by omega)
  have dk:(k:Int) < (n.hdrs.length:Int):=by omega
  obtain ⟨x,hx⟩:=getElem?_lt hlt
  obtain ⟨b,o,cs,rfl,hl',hA,rfl⟩:=hel2 k x hx
  have hdr:n.hdrs.drop k=x::n.hdrs.drop (k+1):=by
   obtain ⟨hk,rfl⟩:=List.getElem?_eq_some_iff.1 hx
   exact List.drop_eq_getElem_cons hk
  rw [hdr,List.all_cons] at hI
  have hw:IntKind.i64.wrap ((k:Int)+1)=((k+1:Nat):Int):=by rw [wrap_ok (by omega) (by omega)];omega
  by_cases r1:x.1.size≤200
  case neg =>
   have t1:decide ((x.1.size:Int) > 200)=true:=decide_eq_true (by omega)
   simp (disch:=try exact DI) only [↓PR,QR,simprocAttr,d,(cells_of_heap h4).1,↓n12c4,dk,hA.c2 E,t1]
   exact ⟨by rw [← hI];unfold smallH;simp [r1],E⟩
  have t1:decide ((x.1.size:Int) > 200)=false:=decide_eq_false (by omega)
  by_cases r2:x.2.size≤200
  case neg =>
   have t2:decide ((x.2.size:Int) > 200)=true:=decide_eq_true (by omega)
   simp (disch:=try exact DI) only [↓PR,QR,simprocAttr,d,(cells_of_heap h4).1,↓n12c4,↓n12c1,dk,hA.c2 E,t1,t2]
   exact ⟨by rw [← hI];unfold smallH;simp [r2],E⟩
  have t2:decide ((x.2.size:Int) > 200)=false:=decide_eq_false (by omega)
  simp (disch:=try exact DI) only [↓PR,QR,simprocAttr,d,(cells_of_heap h4).1,↓n12c4,↓n12c1,dk,hA.c2 E,t1,t2,hw]
  refine ⟨⟨k+1,rfl,by omega,e,?_⟩,meas_lt (kd := .i64) hlt⟩
  rw [← hI]
  unfold smallH
  simp [r1,r2]
 have d:decide ((k:Int) < (n.hdrs.length:Int))=false:=decide_eq_false (by omega)
 rw [List.drop_of_length_le (by omega)] at hI
 rw [← hI]
 simp only [List.all_nil,if_true]
 simp (disch:=try exact DI) only [↓PR,QR,simprocAttr,d,(cells_of_heap h4).1]
 refine loop2_intro (fun s i w'=>∃ (z:Int) (k:Nat),s = .int .i64 z∧i = .int .i64 k∧k≤ps.length∧Ext w w' ∧ -1≤z∧z≤1000000∧goF leftT (ps.drop k) z=goF leftT ps (m - 1)) (fun _ i _=>ps.length - (intOf i).toNat) ⟨m - 1,0,congrArg (Value.int .i64) hwm,rfl,by omega,Ext.refl _,by omega,by omega,rfl⟩ ?_
 rintro _ _ w5 ⟨z,j,rfl,rfl,hj,e5,hz0,hz1,hJ⟩
 have E5:=E.trans e5
 have h5:=e5.obj h4
 unfold n12c3
 by_cases hlt:j < ps.length
 case neg =>
  have d:decide ((j:Int) < (ps.length:Int))=false:=decide_eq_false (by omega)
  simp (disch:=try exact DI) only [↓PR,QR,simprocAttr,d,(cells_of_heap h5).1]
  exact ⟨by rw [← hJ,List.drop_of_length_le (by omega)];rfl,E5⟩
 have d:decide ((j:Int) < (ps.length:Int))=true:=decide_eq_true (by omega)
 by_cases hz:0≤z
 case neg =>
  have dz:decide (z≥0)=false:=decide_eq_false (by omega)
  simp (disch:=try exact DI) only [↓PR,QR,simprocAttr,d,dz,(cells_of_heap h5).1]
  exact ⟨by rw [← hJ,goF_neg _ _ _ hz],E5⟩
 have dz:decide (z≥0)=true:=decide_eq_true (by omega)
 have dk:(j:Int) < (ps.length:Int):=by omega
 obtain ⟨x,hx⟩:=getElem?_lt hlt
 obtain ⟨b,o,cs,rfl,hl,hA,hE⟩:=hel j x hx
 obtain ⟨xb,xh,xp,rfl,x1,x2,x3,x4,x5,x6⟩:=hE.op
 have hw:IntKind.i64.wrap ((j:Int)+1)=((j+1:Nat):Int):=by rw [wrap_ok (by omega) (by omega)];omega
 rw [goF_step leftT hx hz] at hJ
 have hb:=left_le x z hz
 simp (disch:=try exact DI) only [↓PR,QR,simprocAttr,d,dz,(cells_of_heap h5).1,↓n12c2,dk,hA.c5 E5]
 refine zcr (ih x (List.mem_of_getElem? hx) w5 _ z (ValAt.ext ⟨xb,xh,xp,rfl,x1,x2,x3⟩ E5) hz hz1) fun w6 e6=>?_
 simp (disch:=try exact DI) only [↓PR,QR,simprocAttr,hw]
 exact ⟨⟨leftT x z,j+1,rfl,rfl,by omega,e5.trans e6,by omega,by omega,hJ⟩,meas_lt (kd := .i64) hlt⟩
noncomputable def smallT (t:Tr):Bool:=decide (0≤leftT t 200)
theorem small_facts {t:Tr} (h:smallT t=true):nodesT t≤200∧allT smallN t=true:=by
 obtain ⟨_,_,h3⟩:=left_le t 200 (by omega)
 have h:=of_decide_eq_true h
 obtain ⟨a,b⟩:=h3 h
 exact ⟨by omega,b⟩
theorem vsmall_ret (w0:World) (v:Value) (t:Tr) (h:ValAt w0 v t):Ret Pg 10 #[v] w0 fun r w'=>r = .bool (smallT t)∧Ext w0 w':=by
 obtain ⟨bv,hv,pv,rfl,hB,hH,hT,o1,o2,o3⟩:=h.op
 refine n14s (R:=retR _) ?_;unfold n14
 rw [op_boxA]
 have h0:=heap_new w0 (trCells t.nd bv hv pv).toArray 26
 have e0:Ext w0 (w0.alloc (.cells (trCells t.nd bv hv pv).toArray 26)):=ee
 generalize (w0.alloc (.cells (trCells t.nd bv hv pv).toArray 26))=X at h0 e0 ⊢
 generalize w0.heap.size=p1 at h0 ⊢
 simp (disch:=try exact DI) only [↓PR,QR,simprocAttr,(cells_of_heap h0).1]
 refine zcr (left_ret t X _ 200 (ValAt.ext ⟨bv,hv,pv,rfl,hB,hH,hT⟩ e0) (by omega) (by omega)) fun w1 e1=>?_
 simp (disch:=try exact DI) only [↓PR,QR,simprocAttr]
 exact ⟨by unfold smallT;rfl,e0.trans e1⟩
theorem Clone_byte_ret (w0:World) (v:Value) (css:List (Cs 1)) (hs:SliceOf w0 1 (fun _ cs x=>cs=x.1) v css) (h1:∀ x∈css,∀ u∈x.1,u.oneCell'=true) (hb:css.length≤1048576) :
 Ret Pg 47 #[v] w0 fun r w'=>OwnE w' w0.heap.size 5 1 Subtype.val r css∧Ext w0 w':=by
 obtain ⟨A,c,rfl,hlc,hcm,hlm,hel⟩:=SliceOf.open hs
 refine n23s (R:=retR _) ?_;unfold n23
 simp (disch:=try exact DI) only [↓PR,QR,simprocAttr]
 cases A with
 | none =>
  have:css=[]:=by
   cases css with
   | nil=>rfl
   | cons x l=>obtain ⟨_,_,_,h,_⟩:=hel 0 x rfl;cases h
  subst this
  simp only [Option.isNone_none]
  simp (disch:=try exact DI) only [↓PR,QR,simprocAttr]
  exact ⟨OwnE.nil _ _ _ _ _,ee⟩
 | some a =>
  simp only [Option.isNone_some]
  simp (disch:=try exact DI) only [↓PR,QR,simprocAttr]
  have hO:=OwnE.new w0 5 1 (Subtype.val:Cs 1→List Value) [] (fun x=>x.2) (by simp)
  simp only [List.flatMap_nil,List.length_nil] at hO
  have eW:Ext w0 (w0.alloc (.cells #[] 5)):=ee
  have hsz:w0.heap.size≤(w0.alloc (.cells #[] 5)).heap.size:=eW.size
  generalize w0.alloc (.cells #[] 5)=W at hO eW hsz ⊢
  cases hcs:css with
  | nil =>
   subst hcs
   simp only [List.length_nil]
   rw [op_append0 Tryz.underlying22 ty5 _ _ _ _ _ (Nat.le_refl 0)]
   simp (disch:=try exact DI) only [↓PR,QR,simprocAttr]
   exact ⟨hO,eW⟩
  | cons x0 l0 =>
   obtain ⟨b,o,_,hA,_⟩:=hel 0 x0 (by rw [hcs];rfl)
   injection hA with hA
   subst hA
   rw [← hcs]
   refine op_appendE Tryz.underlying22 ty5 rfl (by decide) (fun x=>x.2) h1 hO (fun j x hx=>?_) hsz ?_ (by simp;omega) ?_
   · obtain ⟨b',o',cs,hA',hl',hE,rfl⟩:=hel j x hx
     injection hA' with hA'
     injection hA' with h3 h4
     subst h3 h4
     exact hE.ext eW
   · have:=by5
     rw [List.length_nil,Nat.zero_add]
     exact Nat.le_trans (Nat.mul_le_mul hb this) (by decide)
   · intro v' w' ho hg
     simp (disch:=try exact DI) only [↓PR,QR,simprocAttr]
     refine ⟨ho,eW.grown hg ?_⟩
     intro k hk
     have h:=hO.lt k hk
     exact h.1
theorem Clone_Header_ret (w0:World) (v:Value) (css:List (Cs 2)) (hs:SliceOf w0 2 (fun _ cs x=>cs=x.1) v css) (h1:∀ x∈css,∀ u∈x.1,u.oneCell'=true) (hb:css.length≤1048576) :
 Ret Pg 48 #[v] w0 fun r w'=>OwnE w' w0.heap.size 74 2 Subtype.val r css∧Ext w0 w':=by
 obtain ⟨A,c,rfl,hlc,hcm,hlm,hel⟩:=SliceOf.open hs
 refine n21s (R:=retR _) ?_;unfold n21
 simp (disch:=try exact DI) only [↓PR,QR,simprocAttr]
 cases A with
 | none =>
  have:css=[]:=by
   cases css with
   | nil=>rfl
   | cons x l=>obtain ⟨_,_,_,h,_⟩:=hel 0 x rfl;cases h
  subst this
  simp only [Option.isNone_none]
  simp (disch:=try exact DI) only [↓PR,QR,simprocAttr]
  exact ⟨OwnE.nil _ _ _ _ _,ee⟩
 | some a =>
  simp only [Option.isNone_some]
  simp (disch:=try exact DI) only [↓PR,QR,simprocAttr]
  have hO:=OwnE.new w0 74 2 (Subtype.val:Cs 2→List Value) [] (fun x=>x.2) (by simp)
  simp only [List.flatMap_nil,List.length_nil] at hO
  have eW:Ext w0 (w0.alloc (.cells #[] 74)):=ee
  have hsz:w0.heap.size≤(w0.alloc (.cells #[] 74)).heap.size:=eW.size
  generalize w0.alloc (.cells #[] 74)=W at hO eW hsz ⊢
  cases hcs:css with
  | nil =>
   subst hcs
   simp only [List.length_nil]
   rw [op_append0 Tryz.underlying23 ty74 _ _ _ _ _ (Nat.le_refl 0)]
   simp (disch:=try exact DI) only [↓PR,QR,simprocAttr]
   exact ⟨hO,eW⟩
  | cons x0 l0 =>
   obtain ⟨b,o,_,hA,_⟩:=hel 0 x0 (by rw [hcs];rfl)
   injection hA with hA
   subst hA
   rw [← hcs]
   refine op_appendE Tryz.underlying23 ty74 rfl (by decide) (fun x=>x.2) h1 hO (fun j x hx=>?_) hsz ?_ (by simp;omega) ?_
   · obtain ⟨b',o',cs,hA',hl',hE,rfl⟩:=hel j x hx
     injection hA' with hA'
     injection hA' with h3 h4
     subst h3 h4
     exact hE.ext eW
   · have:=by74
     rw [List.length_nil,Nat.zero_add]
     exact Nat.le_trans (Nat.mul_le_mul hb this) (by decide)
   · intro v' w' ho hg
     simp (disch:=try exact DI) only [↓PR,QR,simprocAttr]
     refine ⟨ho,eW.grown hg ?_⟩
     intro k hk
     have h:=hO.lt k hk
     exact h.1
theorem Clone_Value_ret (w0:World) (v:Value) (css:List (Cs 5)) (hs:SliceOf w0 5 (fun _ cs x=>cs=x.1) v css) (h1:∀ x∈css,∀ u∈x.1,u.oneCell'=true) (hb:css.length≤1048576) :
 Ret Pg 49 #[v] w0 fun r w'=>OwnE w' w0.heap.size 26 5 Subtype.val r css∧Ext w0 w':=by
 obtain ⟨A,c,rfl,hlc,hcm,hlm,hel⟩:=SliceOf.open hs
 refine n22s (R:=retR _) ?_;unfold n22
 simp (disch:=try exact DI) only [↓PR,QR,simprocAttr]
 cases A with
 | none =>
  have:css=[]:=by
   cases css with
   | nil=>rfl
   | cons x l=>obtain ⟨_,_,_,h,_⟩:=hel 0 x rfl;cases h
  subst this
  simp only [Option.isNone_none]
  simp (disch:=try exact DI) only [↓PR,QR,simprocAttr]
  exact ⟨OwnE.nil _ _ _ _ _,ee⟩
 | some a =>
  simp only [Option.isNone_some]
  simp (disch:=try exact DI) only [↓PR,QR,simprocAttr]
  have hO:=OwnE.new w0 26 5 (Subtype.val:Cs 5→List Value) [] (fun x=>x.2) (by simp)
  simp only [List.flatMap_nil,List.length_nil] at hO
  have eW:Ext w0 (w0.alloc (.cells #[] 26)):=ee
  have hsz:w0.heap.size≤(w0.alloc (.cells #[] 26)).heap.size:=eW.size
  generalize w0.alloc (.cells #[] 26)=W at hO eW hsz ⊢
  cases hcs:css with
  | nil =>
   subst hcs
   simp only [List.length_nil]
   rw [op_append0 Tryz.underlying24 ty26 _ _ _ _ _ (Nat.le_refl 0)]
   simp (disch:=try exact DI) only [↓PR,QR,simprocAttr]
   exact ⟨hO,eW⟩
  | cons x0 l0 =>
   obtain ⟨b,o,_,hA,_⟩:=hel 0 x0 (by rw [hcs];rfl)
   injection hA with hA
   subst hA
   rw [← hcs]
   refine op_appendE Tryz.underlying24 ty26 rfl (by decide) (fun x=>x.2) h1 hO (fun j x hx=>?_) hsz ?_ (by simp;omega) ?_
   · obtain ⟨b',o',cs,hA',hl',hE,rfl⟩:=hel j x hx
     injection hA' with hA'
     injection hA' with h3 h4
     subst h3 h4
     exact hE.ext eW
   · have:=by26
     rw [List.length_nil,Nat.zero_add]
     exact Nat.le_trans (Nat.mul_le_mul hb this) (by decide)
   · intro v' w' ho hg
     simp (disch:=try exact DI) only [↓PR,QR,simprocAttr]
     refine ⟨ho,eW.grown hg ?_⟩
     intro k hk
     have h:=hO.lt k hk
     exact h.1
def encB (c:UInt8):List Value:=[.int .u8 (c.toNat:Int)]
def encH (x:ByteArray×ByteArray):List Value:=[.string x.1,.string x.2]
def ChainG {α:Type _} (O:α→Nat→Nat→List Value→Prop):List α→Nat→Nat→List (Cs 5)→Prop
 | [],m,hi,[]=>m≤hi
 | r::l,m,hi,c::css=>∃ m',m≤m'∧O r m m' c.1∧ChainG O l m' hi css
 | [],_,_,_::_=>False
 | _::_,_,_,[]=>False
theorem ChainG_map {α β:Type _} (O:β→Nat→Nat→List Value→Prop) (g:α→β):∀ (l:List α) (m hi:Nat) (css:List (Cs 5)),ChainG O (l.map g) m hi css↔ChainG (fun x=>O (g x)) l m hi css
 | [],m,hi,[]=>Iff.rfl
 | [],m,hi,_::_=>Iff.rfl
 | _::_,m,hi,[]=>Iff.rfl
 | x::l,m,hi,c::css=>by
  simp only [List.map_cons,ChainG]
  exact exists_congr fun m'=>and_congr_right fun _=>and_congr_right fun _=>ChainG_map O g l m' hi css
theorem ChainG_imp {α:Type _} {O O':α→Nat→Nat→List Value→Prop}:∀ {l:List α} {m hi:Nat} {css:List (Cs 5)},(∀ x∈l,∀ a b cs,m≤a→b≤hi→O x a b cs→O' x a b cs)→ChainG O l m hi css→ChainG O' l m hi css∧m≤hi
 | [],m,hi,[],_,h=>⟨h,h⟩
 | [],m,hi,_::_,_,h=>h.elim
 | _::_,m,hi,[],_,h=>h.elim
 | x::l,m,hi,c::css,hO,⟨m',h1,h2,h3⟩=>by
  obtain ⟨_,g2⟩:=ChainG_imp (O':=fun _ _ _ _=>True) (fun _ _ _ _ _ _ _ _=>trivial) h3
  obtain ⟨k1,k2⟩:=ChainG_imp (fun y hy a b cs ha hb=>hO y (List.mem_cons_of_mem _ hy) a b cs (Nat.le_trans h1 ha) hb) h3
  exact ⟨⟨m',h1,hO x (List.mem_cons_self ..) m m' c.1 (Nat.le_refl _) g2 h2,k1⟩,Nat.le_trans h1 g2⟩
noncomputable def OwnT (w:World):Tr→Nat→Nat→List Value→Prop:=Tr.fold fun n _ rs lo hi cs=>∃ bv hv pv m css,cs=trCells n bv hv pv∧OwnR w lo m 5 1 encB bv n.bytes∧OwnR w lo m 74 2 encH hv n.hdrs∧OwnR w lo m 26 5 (Subtype.val:Cs 5→List Value) pv css∧lo≤m∧ChainG (fun (r:Nat→Nat→List Value→Prop)=>r) rs m hi css
theorem OwnT_mk {w:World} {n:Nd} {ps:List Tr} {lo hi:Nat} {cs:List Value}:OwnT w (.mk n ps) lo hi cs↔∃ bv hv pv m css,cs=trCells n bv hv pv∧OwnR w lo m 5 1 encB bv n.bytes∧OwnR w lo m 74 2 encH hv n.hdrs∧OwnR w lo m 26 5 (Subtype.val:Cs 5→List Value) pv css∧lo≤m∧ChainG (OwnT w) ps m hi css:=by
 unfold OwnT
 rw [Tr.fold_mk]
 simp only [ChainG_map]
theorem OwnT.ext {w w':World} {t:Tr} {lo hi:Nat} {cs:List Value} (h:OwnT w t lo hi cs) (e:Ext w w'):OwnT w' t lo hi cs:=by
 revert lo hi cs
 refine Tr.ind (p:=fun t=>∀ {lo hi:Nat} {cs:List Value},OwnT w t lo hi cs→OwnT w' t lo hi cs) ?_ t
 intro n ps ih lo hi cs h
 obtain ⟨bv,hv,pv,m,css,h0,h1,h2,h3,h4,h5⟩:=OwnT_mk.1 h
 exact OwnT_mk.2 ⟨bv,hv,pv,m,css,h0,h1.ext e,h2.ext e,h3.ext e,h4,(ChainG_imp (fun x hx a b cs _ _ h=>ih x hx h) h5).1⟩
theorem ChainG_le {α:Type _} {O:α→Nat→Nat→List Value→Prop} {l:List α} {m hi:Nat} {css:List (Cs 5)} (h:ChainG O l m hi css):m≤hi:=(ChainG_imp (O':=fun _ _ _ _=>True) (fun _ _ _ _ _ _ _ _=>trivial) h).2
theorem OwnT.le {w:World} {t:Tr} {lo hi:Nat} {cs:List Value} (h:OwnT w t lo hi cs):lo≤hi:=by
 cases t
 obtain ⟨_,_,_,m,_,_,_,_,_,h4,h5⟩:=OwnT_mk.1 h
 exact Nat.le_trans h4 (ChainG_le h5)
theorem OwnT.only {w w':World} {bk:Nat} (ho:Only bk w w') {t:Tr} {lo hi:Nat} {cs:List Value} (h:OwnT w t lo hi cs) (hb:hi≤bk∨bk < lo):OwnT w' t lo hi cs:=by
 revert lo hi cs
 refine Tr.ind (p:=fun t=>∀ {lo hi:Nat} {cs:List Value},OwnT w t lo hi cs→hi≤bk∨bk < lo→OwnT w' t lo hi cs) ?_ t
 intro n ps ih lo hi cs h hb
 obtain ⟨bv,hv,pv,m,css,h0,h1,h2,h3,h4,h5⟩:=OwnT_mk.1 h
 have hmh:=ChainG_le h5
 have hm:m≤bk∨bk < lo∨False:=by omega
 have hk:m≤bk∨bk < lo:=by omega
 exact OwnT_mk.2 ⟨bv,hv,pv,m,css,h0,h1.only ho (hk.imp id .inl),h2.only ho (hk.imp id .inl),h3.only ho (hk.imp id .inl),h4,(ChainG_imp (fun x hx a b cs ha hb' h=>ih x hx h (by omega)) h5).1⟩
theorem chain_mates {w:World}:∀ {ps:List Tr} {m hi:Nat} {css:List (Cs 5)},(∀ x∈ps,∀ a b cs,OwnT w x a b cs→ETr w cs x)→ChainG (OwnT w) ps m hi css→Mates 5 (ETr w) css ps
 | [],m,hi,[],_,_=>⟨rfl,fun k x cs hx _=>by cases hx⟩
 | [],m,hi,_::_,_,h=>h.elim
 | _::_,m,hi,[],_,h=>h.elim
 | x::l,m,hi,c::css,hO,⟨m',_,h2,h3⟩=>by
  obtain ⟨g1,g2⟩:=chain_mates (fun y hy=>hO y (List.mem_cons_of_mem _ hy)) h3
  refine ⟨by rw [List.length_cons,List.length_cons,g1],fun k y cs hy hc=>?_⟩
  cases k with
  | zero =>
   simp only [List.getElem?_cons_zero,Option.some.injEq] at hy hc
   subst hy hc
   exact hO _ (List.mem_cons_self ..) _ _ _ h2
  | succ k=>exact g2 k y cs (by simpa using hy) (by simpa using hc)
theorem OwnT.read {w:World} {t:Tr} {lo hi:Nat} {cs:List Value} (h:OwnT w t lo hi cs):ETr w cs t:=by
 revert lo hi cs
 refine Tr.ind (p:=fun t=>∀ {lo hi:Nat} {cs:List Value},OwnT w t lo hi cs→ETr w cs t) ?_ t
 intro n ps ih lo hi cs h
 obtain ⟨bv,hv,pv,m,css,h0,h1,h2,h3,h4,h5⟩:=OwnT_mk.1 h
 exact ETr_mk.2 ⟨bv,hv,pv,h0,h1.1.slice (fun _=>rfl) (fun _ _=>rfl),h2.1.slice (fun _=>rfl) (fun _ _=>rfl),h3.1.reads (chain_mates (fun x hx a b cs h=>ih x hx h) h5)⟩
theorem raw_bytes {w:World} {v:Value} {l:List UInt8} (h:BytesOf w v l):SliceOf w 1 (fun _ cs (x:Cs 1)=>cs=x.1) v (l.map fun c=>⟨encB c,rfl⟩):=(slice_map (E:=fun _ cs (x:Cs 1)=>cs=x.1) (F:=EByte) (g:=fun c=>⟨encB c,rfl⟩) fun _ _=>Iff.rfl).2 h
theorem raw_hdrs {w:World} {v:Value} {l:List (ByteArray×ByteArray)} (h:HdrsOf w v l):SliceOf w 2 (fun _ cs (x:Cs 2)=>cs=x.1) v (l.map fun c=>⟨encH c,rfl⟩):=(slice_map (E:=fun _ cs (x:Cs 2)=>cs=x.1) (F:=EHdr) (g:=fun c=>⟨encH c,rfl⟩) fun _ _=>Iff.rfl).2 h
theorem own_map {α:Type} {w:World} {base n:Nat} {T:TypeId} {enc:α→List Value} (hn:∀ x,(enc x).length=n) {v:Value} {l:List α} (h:OwnE w base T n (Subtype.val:Cs n→List Value) v (l.map fun x=>⟨enc x,hn x⟩)):OwnE w base T n enc v l:=by
 unfold OwnE at h ⊢
 rw [List.length_map,List.flatMap_map] at h
 exact h
theorem CloneB_ret (w0:World) (v:Value) (l:List UInt8) (hs:BytesOf w0 v l) (hb:l.length≤1048576):Ret Pg 47 #[v] w0 fun r w'=>OwnE w' w0.heap.size 5 1 encB r l∧Ext w0 w':=by
 refine (Clone_byte_ret w0 v _ (raw_bytes hs) (by simp [encB,Value.oneCell']) (by simpa using hb)).mono ?_
 rintro r w' ⟨h1,h2⟩
 exact ⟨own_map (enc:=encB) (n:=1) (fun _=>rfl) h1,h2⟩
theorem CloneH_ret (w0:World) (v:Value) (l:List (ByteArray×ByteArray)) (hs:HdrsOf w0 v l) (hb:l.length≤1048576):Ret Pg 48 #[v] w0 fun r w'=>OwnE w' w0.heap.size 74 2 encH r l∧Ext w0 w':=by
 refine (Clone_Header_ret w0 v _ (raw_hdrs hs) (fun x hx u hu=>by
  obtain ⟨y,_,rfl⟩:=List.mem_map.1 hx
  simp only [encH,List.mem_cons,List.not_mem_nil,or_false] at hu
  rcases hu with rfl | rfl<;>rfl) (by simpa using hb)).mono ?_
 rintro r w' ⟨h1,h2⟩
 exact ⟨own_map (enc:=encH) (n:=2) (fun _=>rfl) h1,h2⟩
theorem ETr.cells5 {w:World} {cs:List Value} {t:Tr} (h:ETr w cs t):∀ u∈cs,u.oneCell'=true:=by
 obtain ⟨bv,hv,pv,rfl,_,_,_,h1,h2,h3⟩:=h.op
 intro u hu
 simp only [trCells,List.mem_cons,List.not_mem_nil,or_false] at hu
 rcases hu with rfl | rfl | rfl | rfl | rfl
 · rfl
 · rfl
 · exact h1
 · exact h2
 · exact h3
theorem CloneV_ret {W:World} (w0:World) (e:Ext W w0) (v:Value) (l:List Tr) (hs:TrsOf W v l) (hb:l.length≤1048576):Ret Pg 49 #[v] w0 fun r w'=>(∃ css:List (Cs 5),OwnE w' w0.heap.size 26 5 Subtype.val r css∧Mates 5 (ETr W) css l)∧Ext w0 w':=by
 obtain ⟨css,h1,h2⟩:=SliceOf.raw hs
 refine (Clone_Value_ret w0 v css (SliceOf.ext keptRaw h1 e) (fun x hx=>by
  obtain ⟨t,_,ht⟩:=h2.mem hx
  exact ht.cells5) (by rw [h2.1];exact hb)).mono ?_
 rintro r w' ⟨h3,h4⟩
 exact ⟨⟨css,h3,h2⟩,h4⟩
theorem scOnly {b:Nat}:∀ (vs:List Value) (o:Nat) (w:World),Only b w (setCells w b o vs)
 | [],_,_=>fun _ _=>rfl
 | v::vs,o,w=>fun g hg=>(scOnly vs (o+1) (w.setCell ⟨b,o,none⟩ v) g hg).trans (Only.setCell w b o v g hg)
theorem scExt {W:World} {b:Nat} (hb:W.heap.size≤b):∀ (vs:List Value) (o:Nat) {w:World},Ext W w→Ext W (setCells w b o vs)
 | [],_,_,e=>e
 | v::vs,o,w,e=>scExt hb vs (o+1) (e.setCell (by exact hb) v)
theorem scStore {P:Program} {QP:List PanicEntry→World→Prop} {w:World} {T n m:Nat} {z:Value} {ku:World→Prop} (h:TyInfo P T true n m z) {b:Nat} {cur:Array Value} {T':TypeId} (hc:w.heap[b]?=some (.cells cur T' (0,0))) (o:Nat) (vs:List Value) (ho:o+n≤cur.size) (hn:vs.length=n) (hv:∀ v∈vs,v.oneCell'=true) :
 opU P (Instr.storeAt T (.pointer (some ⟨b,o,none⟩)) (.agg vs.toArray)) QP w ku=ku (setCells w b o vs):=by
 refine opU_ok (u:=()) ?_
 have:=run_storeCellsA (P:=P) b o vs 0 w (fun j hj=>⟨cur[o+(0+j)]'(by omega),by rw [(cells_of_heap hc).1];exact Array.getElem?_eq_getElem (by omega)⟩) (fun j hj=>(cells_of_heap hc).2 _) hv
 simp [Instr.storeAt,Instr.sureAddr,storeVar,Sw.run_sizeOf h,cells_agg,hn,this]
theorem ChainG_hi {α:Type _} {O:α→Nat→Nat→List Value→Prop} {hi hi':Nat} (h2:hi≤hi'):∀ {l:List α} {m:Nat} {css:List (Cs 5)},ChainG O l m hi css→ChainG O l m hi' css
 | [],m,[],h=>Nat.le_trans h h2
 | [],m,_::_,h=>h.elim
 | _::_,m,[],h=>h.elim
 | x::l,m,c::css,⟨m',k1,k2,k3⟩=>⟨m',k1,k2,ChainG_hi h2 k3⟩
theorem OwnT.mono {w:World} {t:Tr} {lo hi lo' hi':Nat} {cs:List Value} (h:OwnT w t lo hi cs) (h1:lo'≤lo) (h2:hi≤hi'):OwnT w t lo' hi' cs:=by
 cases t with
 | mk n ps =>
  obtain ⟨bv,hv,pv,m,css,h0,a1,a2,a3,h4,h5⟩:=OwnT_mk.1 h
  refine OwnT_mk.2 ⟨bv,hv,pv,m,css,h0,a1.mono h1 (Nat.le_refl _),a2.mono h1 (Nat.le_refl _),a3.mono h1 (Nat.le_refl _),by omega,?_⟩
  exact ChainG_hi h2 h5
theorem ChainG_snoc {α:Type _} {O:α→Nat→Nat→List Value→Prop} {x:α} {c:Cs 5} {b hi:Nat} (hO:∀ a,a≤b→O x a hi c.1) (hb:b≤hi):∀ {l:List α} {m:Nat} {css:List (Cs 5)},ChainG O l m b css→ChainG O (l++[x]) m hi (css++[c])
 | [],m,[],h=>⟨hi,Nat.le_trans h hb,hO m h,Nat.le_refl _⟩
 | [],m,_::_,h=>h.elim
 | _::_,m,[],h=>h.elim
 | y::l,m,d::css,⟨m',h1,h2,h3⟩=>⟨m',h1,h2,ChainG_snoc hO hb h3⟩
theorem ChainG_len {α:Type _} {O:α→Nat→Nat→List Value→Prop}:∀ {l:List α} {m hi:Nat} {css:List (Cs 5)},ChainG O l m hi css→css.length=l.length
 | [],m,hi,[],_=>rfl
 | [],m,hi,_::_,h=>h.elim
 | _::_,m,hi,[],h=>h.elim
 | _::l,m,hi,_::css,⟨_,_,_,h⟩=>by rw [List.length_cons,List.length_cons,ChainG_len h]
theorem set_one {css:List (Cs 5)} {k:Nat} {c:Cs 5} (h:css[k]?=some c) (d:Cs 5):(css.set k d)[k]?=some d:=by
 have:=(List.getElem?_eq_some_iff.1 h).1
 rw [List.getElem?_set_self this]
theorem OwnE.setAll {w:World} {lo g cap len:Nat} {T:TypeId} {css:List (Cs 5)} (h:OwnE w lo T 5 Subtype.val (.slice (some ⟨g,0,none⟩) len cap) css) {k:Nat} {c:Cs 5} (hk:css[k]?=some c) (d:Cs 5):OwnE (setCells w g (k*5) d.1) lo T 5 Subtype.val (.slice (some ⟨g,0,none⟩) len cap) (css.set k d):=by
 obtain ⟨d,hd⟩:=d
 match d,hd with
 | [d0,d1,d2,d3,d4],hd =>
  have h0:=h.set hk (j:=0) (by omega) d0
  have h1:=h0.set (set_one hk _) (j:=1) (by omega) d1
  have h2:=h1.set (set_one (set_one hk _) _) (j:=2) (by omega) d2
  have h3:=h2.set (set_one (set_one (set_one hk _) _) _) (j:=3) (by omega) d3
  have h4:=h3.set (set_one (set_one (set_one (set_one hk _) _) _) _) (j:=4) (by omega) d4
  simp only [List.set_set] at h4
  obtain ⟨c,hc⟩:=c
  match c,hc with
  | [c0,c1,c2,c3,c4],hc=>exact h4
theorem mem_nodes {n:Nd} {ps:List Tr} {x:Tr} (h:x∈ps):nodesT x+1≤nodesT (.mk n ps):=by
 rw [nodesT_mk]
 have:∀ {l:List Nat} {a:Nat},a∈l→a≤l.sum:=by
  intro l
  induction l with
  | nil=>intro a h;cases h
  | cons b l ih =>
   intro a h
   rw [List.sum_cons]
   rcases List.mem_cons.1 h with rfl | h
   · omega
   · have:=ih h;omega
 have:=this (List.mem_map_of_mem (f:=nodesT) h)
 omega
theorem parts_nodes {n:Nd} {ps:List Tr}:ps.length+1≤nodesT (.mk n ps):=by
 rw [nodesT_mk]
 have:∀ {l:List Tr},l.length≤(l.map nodesT).sum:=by
  intro l
  induction l with
  | nil=>exact Nat.le_refl _
  | cons a l ih =>
   rw [List.map_cons,List.sum_cons,List.length_cons]
   have:1≤nodesT a:=by cases a;rw [nodesT_mk];omega
   omega
 have:=this (l:=ps)
 omega
def fitN (n:Nd):Bool:=decide (n.bytes.length≤1048576)&&decide (n.hdrs.length≤1048576)
noncomputable def fitT (t:Tr):Bool:=allT fitN t&&decide (nodesT t≤1000000)
theorem fitT_mk {n:Nd} {ps:List Tr} (h:fitT (.mk n ps)=true):n.bytes.length≤1048576∧n.hdrs.length≤1048576∧ps.length≤1048576∧∀ x∈ps,fitT x=true:=by
 unfold fitT at h
 rw [allT_mk] at h
 simp only [Bool.and_eq_true,decide_eq_true_eq,fitN,List.all_eq_true] at h
 have:=parts_nodes (n:=n) (ps:=ps)
 refine ⟨h.1.1.1,h.1.1.2,by omega,fun x hx=>?_⟩
 unfold fitT
 rw [Bool.and_eq_true,decide_eq_true_eq]
 have:=mem_nodes (n:=n) hx
 exact ⟨h.1.2 x hx,by omega⟩
structure CpS (w0 w3:World) (p1 p2 m base:Nat) (n:Nd) (ps:List Tr) (rb rh rv:Value) (css:List (Cs 5)) (k:Nat) (w:World):Prop where
 ex:Ext w0 w
 b1:w.heap[p1]?=some (.cells #[.string n.name,.int .i64 n.int,rb,rh,rv] 26 (0,0))
 b2:w.heap[p2]?=some (.cells #[.string ByteArray.empty,.int .i64 0,.slice none 0 0,.slice none 0 0,.slice none 0 0] 26 (0,0))
 ob:OwnR w w0.heap.size m 5 1 encB rb n.bytes
 oh:OwnR w w0.heap.size m 74 2 encH rh n.hdrs
 ov:∃ css':List (Cs 5),OwnR w base m 26 5 (Subtype.val:Cs 5→List Value) rv css'∧ChainG (OwnT w) (ps.take k) m w.heap.size (css'.take k)∧css'.length=ps.length∧∀ j,k≤j→css'[j]?=css[j]?
theorem take_snoc' {α:Type _} {l:List α} {k:Nat} {x:α} (h:l[k]?=some x):l.take (k+1)=l.take k++[x]:=by rw [List.take_add_one,h];rfl
theorem CpS.ext {w0 w3:World} {p1 p2 m base:Nat} {n:Nd} {ps:List Tr} {rb rh rv:Value} {css:List (Cs 5)} {k:Nat} {w w':World} (h:CpS w0 w3 p1 p2 m base n ps rb rh rv css k w) (e:Ext w w'):CpS w0 w3 p1 p2 m base n ps rb rh rv css k w':=by
 obtain ⟨css',ov,hc,hl,hr⟩:=h.ov
 exact ⟨h.ex.trans e,e.obj h.b1,e.obj h.b2,h.ob.ext e,h.oh.ext e,css',ov.ext e,(ChainG_imp (fun y _ a b cs _ _ hy=>OwnT.ext hy e) (ChainG_hi e.size hc)).1,hl,hr⟩
theorem CpS.next {w0 w3:World} {p1 p2 m base:Nat} {n:Nd} {ps:List Tr} {rb rh:Value} {css:List (Cs 5)} {k:Nat} {w w':World} {g cap:Nat} (h:CpS w0 w3 p1 p2 m base n ps rb rh (.slice (some ⟨g,0,none⟩) ps.length cap) css k w) (e:Ext w w') (hb0:w0.heap.size≤base) (h1:p1 < base) (h2:p2 < base) (hm:m≤w.heap.size) {x:Tr} (hx:ps[k]?=some x) {cs:Cs 5} (hT:OwnT w' x w.heap.size w'.heap.size cs.1) (hg:base≤g∧g < m) :
 CpS w0 w3 p1 p2 m base n ps rb rh (.slice (some ⟨g,0,none⟩) ps.length cap) css (k+1) (setCells w' g (k*5) cs.1):=by
 obtain ⟨css',ov,hc,hl,hr⟩:=h.ov
 have hO:Only g w' (setCells w' g (k*5) cs.1):=setCells_only cs.1 w' (k*5)
 have hkl:=(List.getElem?_eq_some_iff.1 hx).1
 obtain ⟨c0,hc0⟩:=getElem?_lt (l:=css') (k:=k) (by omega)
 have ov':=ov.ext e
 have hta:TypeAt w' g 26:=by
  obtain ⟨g',cap',hv,_,_,ht,_⟩:=ov'.1.row (fun x=>x.2) (by omega)
  injection hv with hv
  injection hv with hv
  injection hv with hv
  rw [hv];exact ht
 have es:=e.size
 refine ⟨setCells_ext cs.1 w' (k*5) w0 (h.ex.trans e) (by omega),?_,?_,?_,?_,?_⟩
 · rw [setCells_only cs.1 w' (k*5) p1 (by omega)];exact e.obj h.b1
 · rw [setCells_only cs.1 w' (k*5) p2 (by omega)];exact e.obj h.b2
 · exact (h.ob.ext e).only hO (.inr (.inr ⟨_,hta,by decide⟩))
 · exact (h.oh.ext e).only hO (.inr (.inr ⟨_,hta,by decide⟩))
 · refine ⟨css'.set k cs,⟨OwnE.setAll ov'.1 hc0 cs,ov'.2⟩,?_,by rw [List.length_set];exact hl,fun j hj=>by rw [List.getElem?_set_ne (by omega)];exact hr j (by omega)⟩
   rw [setCells_size,take_snoc' hx,take_snoc' (set_one hc0 cs),List.take_set_of_le (Nat.le_refl k)]
   refine ChainG_snoc (b:=w.heap.size) (fun a ha=>?_) es ?_
   · by_cases hgm:a≤g
     · exact (OwnT.mono (hT.only hO (.inr (by omega))) ha (Nat.le_refl _))
     · exact (OwnT.mono (hT.only hO (.inr (by omega))) ha (Nat.le_refl _))
   · exact (ChainG_imp (fun y _ a b cs ha hb hy=>(OwnT.ext hy e).only hO (.inr (by omega))) hc).1
theorem Copy_ret (t:Tr):∀ (w0:World) (v:Value),ValAt w0 v t→fitT t=true→Ret Pg 16 #[v] w0 fun r w'=>(∃ cs:List Value,r = .agg cs.toArray∧OwnT w' t w0.heap.size w'.heap.size cs)∧Ext w0 w':=by
 refine Tr.ind (p:=fun t=>∀ (w0:World) (v:Value),ValAt w0 v t→fitT t=true→Ret Pg 16 #[v] w0 fun r w'=>(∃ cs:List Value,r = .agg cs.toArray∧OwnT w' t w0.heap.size w'.heap.size cs)∧Ext w0 w') ?_ t
 intro n ps ih w0 v hval hb
 obtain ⟨bv,hv,pv,rfl,f1,f2,f3,f4,f5,f6⟩:=hval.op
 obtain ⟨hl1,hl2,hl3,hfit⟩:=fitT_mk hb
 simp only [Tr.nd,Tr.ps] at f1 f2 f3
 show Ret _ _ #[.agg (trCells n bv hv pv).toArray] _ _
 refine n38s (R:=retR _) ?_;unfold n38
 rw [op_boxA]
 have h0:=heap_new w0 (trCells n bv hv pv).toArray 26
 have e0:Ext w0 (w0.alloc (.cells (trCells n bv hv pv).toArray 26)):=ee
 generalize (w0.alloc (.cells (trCells n bv hv pv).toArray 26))=X at h0 e0 ⊢
 have hq1:w0.heap.size≤w0.heap.size:=Nat.le_refl _
 generalize hp1:w0.heap.size=p1 at h0 ⊢
 simp (disch:=try exact DI) only [↓PR,QR,simprocAttr]
 generalize hY:World.alloc X _=Y
 have eY:Ext X Y:=by rw [← hY];exact (Ext.refl X).alloc _
 have h1:Y.heap[X.heap.size]?=some (.cells #[.string ByteArray.empty,.int .i64 0,.slice none 0 0,.slice none 0 0,.slice none 0 0] 26 (0,0)):=by rw [← hY];exact heap_new _ _ _
 clear hY
 have sX:=eY.size
 have zX:=(Array.getElem?_eq_some_iff.1 h0).1
 have zY:=(Array.getElem?_eq_some_iff.1 h1).1
 generalize hp2:X.heap.size=p2 at h1 zY ⊢
 have h0:=eY.obj h0
 have E1:=e0.trans eY
 refine drawK_intro ?_
 have eD:Ext Y Y.drew:=(Ext.refl Y).drew
 have h0:=eD.obj h0
 have h1:=eD.obj h1
 have E2:=E1.trans eD
 have sD:Y.heap.size≤Y.drew.heap.size:=eD.size
 change n38c7 _ _ (EC Y.drew) _ Y.drew
 generalize Y.drew=D at *
 unfold n38c7
 simp (disch:=try exact DI) only [↓PR,QR,simprocAttr,(cells_of_heap h0).1]
 refine callK_ret (CloneB_ret D _ n.bytes (f1.ext E2) hl1) ?_
 rintro rb w1 ⟨oB,d1⟩
 refine ⟨d1,?_⟩
 simp (disch:=try exact DI) only [↓PR,QR,simprocAttr]
 refine callK_ret (CloneH_ret w1 _ n.hdrs (f2.ext (E2.trans d1)) hl2) ?_
 rintro rh w2 ⟨oH,d2⟩
 have D2:=d1.trans d2
 unfold n38c6
 refine ⟨D2,callK_ret (CloneV_ret w2 (E2.trans D2) _ ps f3 hl3) ?_⟩
 rintro rv w3 ⟨⟨css,oV,hM⟩,d3⟩
 have D3:=D2.trans d3
 refine ⟨D3,?_⟩
 have k0:=D3.obj h0
 have k1:=D3.obj h1
 have s2:=D2.size
 have s3:=d3.size
 have s1:=d1.size
 have hE3:Ext w0 w3:=E2.trans D3
 have hrb:=SliceOf.oneCell (oB.slice (E:=EByte) (fun _=>rfl) (fun _ _=>rfl))
 have hrh:=SliceOf.oneCell (oH.slice (E:=EHdr) (fun _=>rfl) (fun _ _=>rfl))
 have hrv:=SliceOf.oneCell (oV.slice (E:=fun _ cs (x:Cs 5)=>cs=x.1) (fun x=>x.2) (fun _ _=>rfl))
 have g1:=heap_set (o:=2) k0 rb
 have g2:=heap_set (o:=3) g1 rh
 have g3:=heap_set (o:=4) g2 rv
 have u1:=Only.setCell w3 p1 2 rb
 have u2:Only p1 w3 ((w3.setCell ⟨p1,2,none⟩ rb).setCell ⟨p1,3,none⟩ rh):=fun g hg=>(Only.setCell _ p1 3 rh g hg).trans (u1 g hg)
 have u3:Only p1 w3 (((w3.setCell ⟨p1,2,none⟩ rb).setCell ⟨p1,3,none⟩ rh).setCell ⟨p1,4,none⟩ rv):=fun g hg=>(Only.setCell _ p1 4 rv g hg).trans (u2 g hg)
 have eF:Ext w0 (((w3.setCell ⟨p1,2,none⟩ rb).setCell ⟨p1,3,none⟩ rh).setCell ⟨p1,4,none⟩ rv):=((hE3.setCell (by exact hp1 ▸ Nat.le_refl _) _).setCell (by exact hp1 ▸ Nat.le_refl _) _).setCell (by exact hp1 ▸ Nat.le_refl _) _
 have sF:(((w3.setCell ⟨p1,2,none⟩ rb).setCell ⟨p1,3,none⟩ rh).setCell ⟨p1,4,none⟩ rv).heap.size=w3.heap.size:=by simp
 simp (disch:=try exact DI) only [↓PR,QR,simprocAttr,(cells_of_heap k0).1,(cells_of_heap k0).2]
 refine turnK_intro ?_
 unfold n38c5
 simp (disch:=try exact DI) only [↓PR,QR,simprocAttr,(cells_of_heap g1).1,(cells_of_heap g1).2]
 refine turnK_intro ?_
 simp (disch:=try exact DI) only [↓PR,QR,simprocAttr,(cells_of_heap g2).1,(cells_of_heap g2).2]
 refine turnK_intro ?_
 have hS:CpS w0 w3 p1 p2 w3.heap.size w2.heap.size n ps rb rh rv css 0 (((w3.setCell ⟨p1,2,none⟩ rb).setCell ⟨p1,3,none⟩ rh).setCell ⟨p1,4,none⟩ rv):=by
  have q1:=((oB.base (base':=p1) (by omega)).ext (d2.trans d3)).range
  have q2:=((oH.base (base':=p1) (by omega)).ext d3).range
  refine ⟨eF,g3,?_,?_,?_,css,?_,?_,hM.1,fun j _=>rfl⟩
  · rw [u3 p2 (by omega)];exact k1
  · rw [hp1]
    have hta:TypeAt w3 p1 26:=⟨_,_,k0⟩
    exact q1.only u3 (.inr (.inr ⟨_,hta,by decide⟩))
  · rw [hp1]
    have hta:TypeAt w3 p1 26:=⟨_,_,k0⟩
    exact q2.only u3 (.inr (.inr ⟨_,hta,by decide⟩))
  · exact oV.range.only u3 (.inr (.inl (by omega)))
  · rw [List.take_zero,List.take_zero,sF];exact Nat.le_refl _
 have hbp1:p1 < w2.heap.size:=by omega
 have hbp2:p2 < w2.heap.size:=by omega
 have hb0:w0.heap.size≤w2.heap.size:=by omega
 have hm0:w3.heap.size≤(((w3.setCell ⟨p1,2,none⟩ rb).setCell ⟨p1,3,none⟩ rh).setCell ⟨p1,4,none⟩ rv).heap.size:=by omega
 generalize (((w3.setCell ⟨p1,2,none⟩ rb).setCell ⟨p1,3,none⟩ rh).setCell ⟨p1,4,none⟩ rv)=F at hS hm0 ⊢
 generalize w2.heap.size=base at *
 generalize hm:w3.heap.size=m at *
 unfold n38c4
 obtain ⟨A,cap,rfl,hAg⟩:∃ A cap,rv = .slice A ps.length cap∧(0 < ps.length→∃ g,A=some ⟨g,0,none⟩∧base≤g∧g < m):=by
  rcases Nat.eq_zero_or_pos ps.length with h | h
  · rcases oV.2 with ⟨rfl,_⟩ | ⟨g,cap,cur,rfl,_⟩
    · exact ⟨none,0,by rw [h],fun h'=>by omega⟩
    · exact ⟨some ⟨g,0,none⟩,cap,by rw [hM.1],fun h'=>by omega⟩
  · obtain ⟨g,cap,rfl,hg0,hgm,hgt,hgf,hge⟩:=oV.row (fun x=>x.2) (by rw [hM.1];exact h)
    exact ⟨some ⟨g,0,none⟩,cap,by rw [hM.1],fun _=>⟨g,rfl,hg0,by omega⟩⟩
 simp (disch:=try exact DI) only [↓PR,QR,simprocAttr,(cells_of_heap hS.b1).1]
 refine loop1_intro (fun i w=>∃ k:Nat,i = .int .i64 k∧k≤ps.length∧CpS w0 w3 p1 p2 m base n ps rb rh (.slice A ps.length cap) css k w∧m≤w.heap.size) (fun i _=>ps.length - (intOf i).toNat) ⟨0,rfl,by omega,hS,hm0⟩ ?_
 rintro _ w ⟨k,rfl,hk,hS,hmw⟩
 unfold n38c3
 by_cases hlt:k < ps.length
 · obtain ⟨x,hx⟩:=getElem?_lt hlt
   obtain ⟨g,rfl,hg0,hgm⟩:=hAg (by omega)
   have hdec:decide ((k:Int) < (ps.length:Int))=true:=by simp;omega
   simp (disch:=try exact DI) only [↓PR,QR,simprocAttr,hdec]
   refine drawK_intro ?_
   have eD:Ext w (drew w):=(Ext.refl w).drew
   have hS:=hS.ext eD
   have hmw:m≤(drew w).heap.size:=hmw
   generalize drew w=D at *
   obtain ⟨css',ov,hc,hl,hr⟩:=hS.ov
   obtain ⟨c,hc0⟩:=getElem?_lt (l:=css) (k:=k) (by rw [hM.1];exact hlt)
   have hEx:=hM.2 k x c hx hc0
   obtain ⟨bv',hv',pv',hcs,q1,q2,q3,r1,r2,r3⟩:=hEx.op
   obtain ⟨g',cap',hv,hb1,hb2,ht,hf,he⟩:=ov.1.row (fun x=>x.2) (by omega)
   injection hv with hv _ hv2
   injection hv with hv
   injection hv with hv
   subst hv
   have hA:=he k c (by rw [hr k (Nat.le_refl _)];exact hc0)
   rw [hcs] at hA
   have dk:(k:Int) < (ps.length:Int):=by omega
   unfold n38c2
   simp (disch:=try exact DI) only [↓PR,QR,simprocAttr,dk,(cells_of_heap hS.b1).1,hA.c5 (Ext.refl _)]
   refine callK_ret (ih x (List.mem_of_getElem? hx) D (.agg (trCells x.nd bv' hv' pv').toArray) ⟨_,_,_,rfl,q1.ext hS.ex,q2.ext hS.ex,q3.ext hS.ex⟩ (hfit x (List.mem_of_getElem? hx))) ?_
   rintro _ w4 ⟨⟨cs,rfl,hT⟩,e4⟩
   refine ⟨e4,?_⟩
   have h5:cs.length=5:=by
    cases x
    obtain ⟨_,_,_,_,_,rfl,_⟩:=OwnT_mk.1 hT
    rfl
   have hcell:∀ u∈cs,u.oneCell'=true:=(hT.read).cells5
   obtain ⟨cur,hcur,hcl⟩:∃ cur,w4.heap[g]?=some (.cells cur 26 (0,0))∧k*5+5≤cur.size:=by
    rcases (ov.ext e4).1.2 with ⟨h0,_⟩ | ⟨g2,cap2,cur,hv,_,hg2,hcap,_,hsz,_⟩
    · cases h0
    · injection hv with hv
      injection hv with hv
      injection hv with hv
      subst hv
      exact ⟨cur,hg2,by omega⟩
   unfold n38c1
   simp (disch:=try exact DI) only [↓PR,QR,simprocAttr,dk]
   rw [scStore ty26 hcur _ _ hcl h5 hcell]
   refine turnK_intro ?_
   have hN:=hS.next e4 hb0 hbp1 hbp2 hmw hx (cs:=⟨cs,h5⟩) hT ⟨hg0,hgm⟩
   simp (disch:=try exact DI) only [↓PR,QR,simprocAttr]
   refine ⟨⟨k+1,rfl,by omega,hN,?_⟩,meas_lt (kd := .i64) hlt⟩
   show m≤(setCells w4 g (k*5) cs).heap.size
   rw [setCells_size]
   have:=e4.size
   omega
 · obtain rfl:k=ps.length:=by omega
   have hdec:decide ((ps.length:Int) < (ps.length:Int))=false:=by simp
   simp (disch:=try exact DI) only [↓PR,QR,simprocAttr,hdec,(cells_of_heap hS.b1).1,(cells_of_heap hS.b2).1,(cells_of_heap hS.b2).2]
   have z2:=heap_set (o:=4) (heap_set (o:=3) (heap_set (o:=2) (heap_set (o:=1) (heap_set (o:=0) hS.b2 (.string n.name)) (.int .i64 n.int)) rb) rh) (.slice A ps.length cap)
   have hU:Only p2 w (((((w.setCell ⟨p2,0,none⟩ (.string n.name)).setCell ⟨p2,1,none⟩ (.int .i64 n.int)).setCell ⟨p2,2,none⟩ rb).setCell ⟨p2,3,none⟩ rh).setCell ⟨p2,4,none⟩ (.slice A ps.length cap)):=setCells_only [.string n.name,.int .i64 n.int,rb,rh,.slice A ps.length cap] w 0
   have hZ:(((((w.setCell ⟨p2,0,none⟩ (.string n.name)).setCell ⟨p2,1,none⟩ (.int .i64 n.int)).setCell ⟨p2,2,none⟩ rb).setCell ⟨p2,3,none⟩ rh).setCell ⟨p2,4,none⟩ (.slice A ps.length cap)).heap.size=w.heap.size:=setCells_size [.string n.name,.int .i64 n.int,rb,rh,.slice A ps.length cap] w 0
   have hX:Ext w0 (((((w.setCell ⟨p2,0,none⟩ (.string n.name)).setCell ⟨p2,1,none⟩ (.int .i64 n.int)).setCell ⟨p2,2,none⟩ rb).setCell ⟨p2,3,none⟩ rh).setCell ⟨p2,4,none⟩ (.slice A ps.length cap)):=setCells_ext [.string n.name,.int .i64 n.int,rb,rh,.slice A ps.length cap] w 0 w0 hS.ex (by omega)
   generalize (((((w.setCell ⟨p2,0,none⟩ (.string n.name)).setCell ⟨p2,1,none⟩ (.int .i64 n.int)).setCell ⟨p2,2,none⟩ rb).setCell ⟨p2,3,none⟩ rh).setCell ⟨p2,4,none⟩ (.slice A ps.length cap))=F' at hU hZ hX ⊢
   obtain ⟨css',ov,hc,hl,hr⟩:=hS.ov
   rw [List.take_length,List.take_of_length_le (by omega)] at hc
   have hta:TypeAt w p2 26:=⟨_,_,hS.b2⟩
   refine ⟨⟨_,rfl,OwnT_mk.2 ⟨rb,rh,_,m,css',rfl,?_,?_,?_,by omega,?_⟩⟩,hX⟩
   · have:=hS.ob
     rw [hp1] at this
     exact this.only hU (.inr (.inr ⟨_,hta,by decide⟩))
   · have:=hS.oh
     rw [hp1] at this
     exact this.only hU (.inr (.inr ⟨_,hta,by decide⟩))
   · exact (ov.only hU (.inr (.inl hbp2))).mono (by omega) (Nat.le_refl _)
   · exact (ChainG_imp (fun y _ a b cs ha _ hy=>OwnT.only hU hy (.inr (by omega))) hc).1
def AlikeV (k:Nat) (u v:Value):Prop:=u=v∨(∃ kd a b,u = .int kd a∧v = .int kd b)∨∃ a b,u = .string a∧v = .string b∧b.size≤a.size+k
structure Soft (k lo hi:Nat) (w w':World):Prop where
 os:w'.os=w.os
 tape:w'.tape=w.tape
 output:w'.output=w.output
 size:w.heap.size≤w'.heap.size
 out:∀ b,b < w.heap.size→(b < lo∨hi≤b)→w'.heap[b]?=w.heap[b]?
 inn:∀ (b:Nat) (cs:Array Value) (T:TypeId),w.heap[b]?=some (.cells cs T (0,0))→∃ cs':Array Value,w'.heap[b]?=some (.cells cs' T (0,0))∧∀ (j:Nat) (v:Value),cs[j]?=some v→∃ v',cs'[j]?=some v'∧AlikeV k v v'
 oth:∀ (b:Nat) (o:Obj),w.heap[b]?=some o→(∀ cs T,o ≠ .cells cs T (0,0))→w'.heap[b]?=some o
def RowIn (w:World) (lo hi:Nat) (T:TypeId) (n:Nat) (E:Nat→List Value→Prop) (len:Nat) (v:Value):Prop:=∃ A cap,v = .slice A len cap∧len≤cap∧∀ k,k < len→∃ b cur cs,A=some ⟨b,0,none⟩∧lo≤b∧b < hi∧w.heap[b]?=some (.cells cur T (0,0))∧cs.length=n∧(∀ (j:Nat) (u:Value),cs[j]?=some u→cur[k*n+j]?=some u)∧E k cs
noncomputable def InS (w:World) (lo hi B:Nat):Tr→List Value→Prop:=Tr.fold fun n _ rs cs=>∃ nm i bv hv pv,cs=[.string nm,.int .i64 i,bv,hv,pv]∧RowIn w lo hi 5 1 (fun _ cs=>∃ x,cs=[.int .u8 x]) n.bytes.length bv∧RowIn w lo hi 74 2 (fun _ cs=>∃ a b,cs=[.string a,.string b]∧a.size≤B) n.hdrs.length hv∧RowIn w lo hi 26 5 (fun k cs=>∃ r,rs[k]?=some r∧r cs) rs.length pv
theorem InS_mk {w:World} {lo hi B:Nat} {n:Nd} {ps:List Tr} {cs:List Value}:InS w lo hi B (.mk n ps) cs↔∃ nm i bv hv pv,cs=[.string nm,.int .i64 i,bv,hv,pv]∧RowIn w lo hi 5 1 (fun _ cs=>∃ x,cs=[.int .u8 x]) n.bytes.length bv∧RowIn w lo hi 74 2 (fun _ cs=>∃ a b,cs=[.string a,.string b]∧a.size≤B) n.hdrs.length hv∧RowIn w lo hi 26 5 (fun k cs=>∃ x,ps[k]?=some x∧InS w lo hi B x cs) ps.length pv:=by
 unfold InS
 rw [Tr.fold_mk]
 simp only [List.length_map,List.getElem?_map,Option.map_eq_some_iff]
 have key:∀ (k:Nat) (cs:List Value),(∃ r:List Value→Prop,(∃ a,ps[k]?=some a∧Tr.fold (fun n _ rs cs=>∃ nm i bv hv pv,cs=[.string nm,.int .i64 i,bv,hv,pv]∧RowIn w lo hi 5 1 (fun _ cs=>∃ x,cs=[.int .u8 x]) n.bytes.length bv∧RowIn w lo hi 74 2 (fun _ cs=>∃ a b,cs=[.string a,.string b]∧a.size≤B) n.hdrs.length hv∧RowIn w lo hi 26 5 (fun k cs=>∃ r,rs[k]?=some r∧r cs) rs.length pv) a=r)∧r cs)↔∃ x,ps[k]?=some x∧InS w lo hi B x cs:=by
  intro k cs
  constructor
  · rintro ⟨_,⟨a,h,rfl⟩,h2⟩;exact ⟨a,h,h2⟩
  · rintro ⟨a,h,h2⟩;exact ⟨_,⟨a,h,rfl⟩,h2⟩
 simp only [key]
 exact Iff.rfl
theorem RowIn.mono {w:World} {lo hi lo' hi' n len:Nat} {T:TypeId} {E E':Nat→List Value→Prop} {v:Value} (h:RowIn w lo hi T n E len v) (h1:lo'≤lo) (h2:hi≤hi') (hE:∀ k cs,E k cs→E' k cs):RowIn w lo' hi' T n E' len v:=by
 obtain ⟨A,c,rfl,hc,hk⟩:=h
 refine ⟨A,c,rfl,hc,fun k hk'=>?_⟩
 obtain ⟨b,cur,cs,a1,a2,a3,a4,a5,a6,a7⟩:=hk k hk'
 exact ⟨b,cur,cs,a1,by omega,by omega,a4,a5,a6,hE k cs a7⟩
theorem OwnR.rowIn {α:Type} {w:World} {lo hi n:Nat} {T:TypeId} {enc:α→List Value} {v:Value} {l:List α} {E:Nat→List Value→Prop} (h:OwnR w lo hi T n enc v l) (hn:∀ x,(enc x).length=n) (hE:∀ k x,l[k]?=some x→E k (enc x)):RowIn w lo hi T n E l.length v:=by
 rcases h.1.2 with ⟨rfl,h0⟩ | ⟨g,cap,cur,rfl,hb,hg,hc,hm,hs,ht⟩
 · exact ⟨none,0,by rw [h0],by omega,fun k hk=>by omega⟩
 · refine ⟨_,cap,rfl,hc,fun k hk=>?_⟩
   obtain ⟨x,hx⟩:=getElem?_lt hk
   refine ⟨g,cur,enc x,rfl,hb,h.2 g rfl,hg,hn x,fun j u hu=>?_,hE k x hx⟩
   have:=flatMap_get hn l k x j u hx hu
   rw [← ht,List.getElem?_take] at this
   split at this
   · simpa using this
   · cases this
noncomputable def hnT (B:Nat):Tr→Bool:=allT fun n=>n.hdrs.all fun h=>decide (h.1.size≤B)
theorem op_saddZ {w:World} {QP:List PanicEntry→World→Prop} {k:Value→World→Prop} (t:TypeId) (c:Bool) (a b:ByteArray) (h:a.size+b.size≤9223372036854775807):opV Pg (binS .add t c (.string a) (.string b)) QP w k=k (.string (a++b)) w :=
 @op_saddB Pg QP w t c a b a.size b.size ⟨Nat.le_refl _⟩ ⟨Nat.le_refl _⟩ (Nat.ble_eq_true_of_le h) k
noncomputable def hdrsT:Tr→Nat:=Tr.fold fun n _ rs=>n.hdrs.length+rs.sum
theorem hdrsT_mk (n:Nd) (ps:List Tr):hdrsT (.mk n ps)=n.hdrs.length+(ps.map hdrsT).sum:=Tr.fold_mk ..
structure Wr (base:Nat) (X w:World):Prop where
 below:Below base X w
 other:Go.Lib.OthersKept 5 none X w
theorem Wr.refl (base:Nat) (X:World):Wr base X X:=⟨Below.refl _ _,Go.Lib.OthersKept.refl _ _ _⟩
theorem Wr.trans {base:Nat} {X Y Z:World} (h:Wr base X Y) (g:Wr base Y Z):Wr base X Z:=⟨h.below.trans g.below,h.other.trans g.other⟩
theorem Wr.of {base:Nat} {X Y:World} (hb:base≤X.heap.size) (e:Ext X Y):Wr base X Y:=⟨⟨e.os,e.tape,e.output,e.size,fun k hk=>e.block k (by omega)⟩,fun k o h _ _=>e.obj h⟩
theorem Wr.size {base:Nat} {X Y:World} (h:Wr base X Y):X.heap.size≤Y.heap.size:=h.below.size
theorem Wr.from {base:Nat} {A X Y:World} (h:Wr base X Y) (e:Ext A X) (hA:A.heap.size≤base):Ext A Y:=⟨h.below.os.trans e.os,h.below.tape.trans e.tape,h.below.output.trans e.output,Nat.le_trans e.size h.size,fun k hk=>(h.below.block k (by omega)).trans (e.block k hk)⟩
theorem Wr.obj {base b:Nat} {X Y:World} (h:Wr base X Y) {cs:Array Value} {T:TypeId} {fr:Nat×Nat} (hc:X.heap[b]?=some (.cells cs T fr)) (hT:T≠5):Y.heap[b]?=some (.cells cs T fr):=h.other b _ hc (by simp) (fun c fz e=>by injection e with _ e _;exact hT e)
theorem Wr.grown {α:Type} {base n:Nat} {w w':World} {enc:α→List Value} {v:Value} {l:List α} (ho:OwnE w base 5 n enc v l) (hbase:base≤w.heap.size) (hg:w.grownBy w' v.ownBlock):Wr base w w':=by
 refine ⟨⟨hg.os,hg.tape,hg.output,hg.size,fun k hk=>hg.block k (by omega) (fun e=>?_)⟩,(Go.Lib.OthersKept.refl _ _ _).grown hg fun g h=>?_⟩
 · have:=(World.ownsRow.lt ho k e.symm).1
   omega
 · rcases ho.2 with ⟨rfl,_⟩ | ⟨g',cap,cur,rfl,_,hg',_⟩
   · cases h
   · injection h with h
     subst h
     exact ⟨_,_,hg'⟩
structure Gr (v:Value) (w:World) (v':Value) (w':World):Prop where
 size:w.heap.size≤w'.heap.size
 keep:∀ b,b < w.heap.size→v.ownBlock≠some b→w'.heap[b]?=w.heap[b]?
 blk:v'.ownBlock=v.ownBlock∨∀ g,v'.ownBlock=some g→w.heap.size≤g
theorem Gr.refl (v:Value) (w:World):Gr v w v w:=⟨Nat.le_refl _,fun _ _ _=>rfl,.inl rfl⟩
theorem Gr.ext {v:Value} {w w':World} (e:Ext w w'):Gr v w v w':=⟨e.size,fun b hb _=>e.block b hb,.inl rfl⟩
theorem Gr.trans {v v' v'':Value} {w w' w'':World} (h:Gr v w v' w') (g:Gr v' w' v'' w''):Gr v w v'' w'':=by
 refine ⟨Nat.le_trans h.size g.size,fun b hb hv=>?_,?_⟩
 · rw [← h.keep b hb hv]
   refine g.keep b (Nat.lt_of_lt_of_le hb h.size) fun e=>?_
   rcases h.blk with h1 | h1
   · rw [h1] at e;exact hv e
   · have:=h1 b e;omega
 · rcases g.blk with h2 | h2
   · rcases h.blk with h1 | h1
     · exact .inl (h2.trans h1)
     · exact .inr fun g hg=>h1 g (by rw [← h2];exact hg)
   · exact .inr fun g hg=>Nat.le_trans h.size (h2 g hg)
abbrev OwnB (w:World) (base:Nat) (v:Value) (l:List UInt8):Prop:=OwnE w base 5 1 encB v l
theorem app_bytes {w:World} {QP:List PanicEntry→World→Prop} {k:Value→World→Prop} {base:Nat} {v:Value} {l:List UInt8} (cs:List UInt8) {b c n:Nat} (hn:n=cs.length) (hne:cs≠[]) (hown:OwnB w base v l) (hc:∀ j x,cs[j]?=some x→w.cell? ⟨b,j,none⟩=some (.int .u8 (x.toNat:Int))) (hbase:base≤w.heap.size) (hl:l.length+cs.length≤140737488355328)
 (hk:∀ v' w',OwnB w' base v' (l++cs)→Wr base w w'→Gr v w v' w'→k v' w'):opV Pg (Builtin.append_ #[22,22] 22 #[v,.slice (some ⟨b,0,none⟩) n c]) QP w k:=by
 subst hn
 have hby:=by5
 refine op_appendL (l':=cs) Tryz.underlying22 ty5 rfl (by decide) (fun _=>rfl) (fun x _ u hu=>?_) hown (fun j y hy=>?_) hbase (List.length_pos_iff.2 hne) ?_ hl fun g cap w' ho hg hgb _=>hk _ w' (by rw [← List.length_append] at ho ⊢;exact ho) (Wr.grown hown hbase hg) ⟨hg.size,fun b hb hv=>hg.block b hb (fun e=>hv e.symm),?_⟩
 · simp only [encB,List.mem_singleton] at hu
   subst hu
   rfl
 · intro i u hu
   have:=hc j y hy
   rw [Nat.mul_one,Nat.zero_add]
   cases i with
   | zero =>
    simp only [encB,List.getElem?_cons_zero,Option.some.injEq] at hu
    subst hu
    exact this
   | succ i=>simp [encB] at hu
 · exact Nat.le_trans (Nat.mul_le_mul hl (Nat.le_of_eq rfl)) (by decide)
 · rcases hgb with h | h
   · exact .inl h.symm
   · exact .inr fun g' hg'=>by cases hg';exact Nat.le_of_eq h.symm
theorem encB_flat (l:List UInt8):l.flatMap encB=l.map fun b=>Value.int .u8 b.toNat:=by
 induction l with
 | nil=>rfl
 | cons a l ih=>rw [List.flatMap_cons,ih];rfl
theorem app_str {w:World} {QP:List PanicEntry→World→Prop} {k:Value→World→Prop} {base:Nat} {v:Value} {l:List UInt8} (s:ByteArray) (hown:OwnB w base v l) (hbase:base≤w.heap.size) (hl:l.length+s.size≤140737488355328)
 (hk:∀ v' w',OwnB w' base v' (l++s.data.toList)→Wr base w w'→k v' w'):opV Pg (Builtin.append_ #[22,9] 22 #[v,.string s]) QP w k:=by
 obtain ⟨⟨i,hi,hs,hby,hzz⟩,_⟩:=ty5
 obtain ⟨v',w',hr,ho,hg,_⟩:=Go.Lib.run_append_own_string (P:=Pg) (w:=w) base 22 9 22 5 i Tryz.underlying22 Tryz.underlying9 hi hzz hs hby v l.length (l.flatMap encB) hown s (by simp only [maxLen];omega) hl hbase
 rw [opV_ok hr]
 refine hk v' w' ?_ (Wr.grown hown hbase hg)
 unfold OwnB OwnE
 rw [List.flatMap_append,List.length_append,encB_flat s.data.toList]
 exact ho
theorem app_byte {w:World} {QP:List PanicEntry→World→Prop} {k:Value→World→Prop} {base:Nat} {v:Value} {l:List UInt8} (x:UInt8) {b:Nat} (hown:OwnB w base v l) (hc:w.heap[b]?=some (.cells #[.int .u8 (x.toNat:Int)] 5 (0,0))) (hbase:base≤w.heap.size) (hl:l.length+1≤140737488355328)
 (hk:∀ v' w',OwnB w' base v' (l++[x])→Wr base w w'→Gr v w v' w'→k v' w'):opV Pg (Builtin.append_ #[22,22] 22 #[v,.slice (some ⟨b,0,none⟩) 1 1]) QP w k:=app_bytes [x] rfl (by simp) hown (fun j y hy=>by
 rw [(cells_of_heap hc).1]
 cases j with
 | zero=>simp only [List.getElem?_cons_zero,Option.some.injEq] at hy;subst hy;rfl
 | succ j=>simp at hy) hbase hl hk
def KT (X:World) (base:Nat):World→Prop:=fun w=>Wr base X w
instance (X:World) (base:Nat):ClassNe (KT X base):=⟨⟨X,Wr.refl _ _⟩⟩
theorem drawK_introT {w:World} (base:Nat) (hb:base≤w.heap.size) {f:(World→Prop)→World→Prop} (h:f (KT w base) (drew w)):drawK w f:=⟨KT w base,Wr.of hb (Ext.refl w).drew,h⟩
theorem qT_load {X:World} {base:Nat} {T:TypeId} {n m:Nat} {z v:Value} {k:Value→Prop} {b o:Nat} (h:TyInfo Pg T false n m z) {cs:Array Value} {T':TypeId} (hc:X.heap[b]?=some (.cells cs T' (0,0))) (hT:T'≠5) (hv:cs[o]?=some v):qV Pg (KT X base) (Instr.loadAt T (.pointer (some ⟨b,o,none⟩))) k=k v :=
 qV_eqC fun w' e=>run_of_op (P:=Pg) (w:=w') (s:=Instr.loadAt T (.pointer (some ⟨b,o,none⟩))) (v:=v) (fun QP k=>op_load1 h (by rw [(cells_of_heap (e.obj hc hT)).1];exact hv))
theorem qT_loadA {X A:World} {base:Nat} {T:TypeId} {n m:Nat} {z v:Value} {k:Value→Prop} {b o:Nat} (h:TyInfo Pg T false n m z) (eA:Ext A X) (hA:A.heap.size≤base) (hc:A.cell? ⟨b,o,none⟩=some v):qV Pg (KT X base) (Instr.loadAt T (.pointer (some ⟨b,o,none⟩))) k=k v :=
 qV_eqC fun w' e=>run_of_op (P:=Pg) (w:=w') (s:=Instr.loadAt T (.pointer (some ⟨b,o,none⟩))) (v:=v) (fun QP k=>op_load1 h ((e.from eA hA).cell hc))
section
variable {QP:List PanicEntry→World→Prop} {w:World} {k:Value→World→Prop}
theorem op_shr4 (t:TypeId) (c:Bool) (x:UInt8):opV Pg (binS .shr t c (.int .u8 (x.toNat:Int)) (.int .u64 4)) QP w k=k (.int .u8 ((x.toNat / 16:Nat):Int)) w:=opV_ok (by
 simp [binS,go_sem])
theorem bits15 (x:UInt8):bits BinOp.and IntKind.u8 (x.toNat:Int) 15=((x.toNat % 16:Nat):Int):=by
 have key:∀ n:Fin 256,bits BinOp.and IntKind.u8 (n.val:Int) 15=((n.val % 16:Nat):Int):=by decide +kernel
 exact key ⟨x.toNat,x.toNat_lt⟩
theorem op_and15 (t:TypeId) (c:Bool) (x:UInt8):opV Pg (binS .and t c (.int .u8 (x.toNat:Int)) (.int .u8 15)) QP w k=k (.int .u8 ((x.toNat % 16:Nat):Int)) w:=opV_ok (by
 rw [run_bin_int _ _ _ _ _ _ rfl]
 have h15:=bits15 x
 generalize (x.toNat:Int)=y at h15 ⊢
 generalize ((x.toNat % 16:Nat):Int)=z at h15 ⊢
 simp [go_sem,h15])
abbrev hexT:ByteArray:=⟨#[48,49,50,51,52,53,54,55,56,57,97,98,99,100,101,102]⟩
theorem hexT_get (n:Nat) (h:n < 16):hexT.data.toList[n]?=some (hexD n):=by
 have key:∀ n:Fin 16,hexT.data.toList[n.val]?=some (hexD n.val):=by decide +kernel
 exact key ⟨n,h⟩
end
theorem hexL_snoc (l:List UInt8) (c:UInt8):hexL (l++[c])=hexL l++[hexD (c.toNat / 16),hexD (c.toNat % 16)]:=by simp [hexL,List.flatMap_append]
theorem hexL_len (l:List UInt8):(hexL l).length=2*l.length:=by
 induction l with
 | nil=>rfl
 | cons a l ih =>
  show (hexL (a::l)).length=_
  unfold hexL at ih ⊢
  rw [List.flatMap_cons,List.length_append,ih,List.length_cons,List.length_cons,List.length_cons,List.length_nil]
  omega
theorem hexS_ret (w0:World) (base:Nat) (v:Value) (l:List UInt8) (s:ByteArray) (hO:OwnB w0 base v l) (hb:base≤w0.heap.size) (hl:l.length+2*s.size≤140737488355328):Ret Pg 90 #[v,.string s] w0 fun r w'=>OwnB w' base r (l++hexL s.data.toList)∧Wr base w0 w'∧Gr v w0 r w':=by
 refine n55s (R:=retR _) ?_;unfold n55
 simp (disch:=try exact DI) only [↓PR,QR,simprocAttr]
 refine loop2_intro (fun u i w=>∃ k:Nat,i = .int .i64 k∧k≤s.size∧OwnB w base u (l++hexL (s.data.toList.take k))∧Wr base w0 w∧Gr v w0 u w) (fun _ i _=>s.size - (intOf i).toNat) ⟨0,rfl,by omega,by simpa [hexL] using hO,Wr.refl _ _,Gr.refl _ _⟩ ?_
 rintro u _ w ⟨k,rfl,hk,hO,hW,hG⟩
 have hsz:s.data.toList.length=s.size:=Array.length_toList
 have hbw:base≤w.heap.size:=Nat.le_trans hb hW.size
 by_cases hlt:k < s.size
 · have hdec:decide ((k:Int) < (s.size:Int))=true:=by simp;omega
   obtain ⟨c,hc⟩:=getElem?_lt (l:=s.data.toList) (k:=k) (by omega)
   simp (disch:=try exact DI) only [↓PR,QR,simprocAttr,hdec]
   refine drawK_introT base hbw ?_
   unfold n55c1
   have i1:=fun {QP:List PanicEntry→World→Prop} {w:World} {k':Value→World→Prop}=>op_indexS (P:=Pg) (QP:=QP) (w:=w) (k:=k') Tryz.underlying9 s .i64 k hc
   have i2:=fun {QP:List PanicEntry→World→Prop} {w:World} {k':Value→World→Prop}=>op_indexS (P:=Pg) (QP:=QP) (w:=w) (k:=k') Tryz.underlying9 hexT .u8 (c.toNat / 16) (hexT_get _ (by have:=c.toNat_lt;omega))
   have i3:=fun {QP:List PanicEntry→World→Prop} {w:World} {k':Value→World→Prop}=>op_indexS (P:=Pg) (QP:=QP) (w:=w) (k:=k') Tryz.underlying9 hexT .u8 (c.toNat % 16) (hexT_get _ (by omega))
   rw [qV_of fun QP w k=>i1,qV_of fun QP w k=>op_shr4 _ _ c,qV_of fun QP w k=>i2,qV_of fun QP w k=>i1,qV_of fun QP w k=>op_and15 _ _ c,qV_of fun QP w k=>i3]
   simp (disch:=try exact DI) only [↓PR,QR,simprocAttr]
   have eD:Ext w (drew w):=(Ext.refl w).drew
   have wD:Wr base w (drew w):=Wr.of hbw eD
   have gD:Gr v w0 u (drew w):=hG.trans (Gr.ext eD)
   have hO:=hO.ext eD
   have hDz:base≤(drew w).heap.size:=hbw
   show KT _ _ ((drew w).alloc _)∧opV _ (Builtin.append_ _ _ #[u,.slice (some ⟨(drew w).heap.size,0,none⟩) 2 2]) _ ((drew w).alloc _) _
   generalize drew w=D at *
   have o1:=heap_new D #[.int .u8 ((hexD (c.toNat / 16)).toNat:Int),.int .u8 ((hexD (c.toNat % 16)).toNat:Int)] 5
   have e1:Ext D (D.alloc (.cells #[.int .u8 ((hexD (c.toNat / 16)).toNat:Int),.int .u8 ((hexD (c.toNat % 16)).toNat:Int)] 5)):=ee
   generalize (D.alloc (.cells #[.int .u8 ((hexD (c.toNat / 16)).toNat:Int),.int .u8 ((hexD (c.toNat % 16)).toNat:Int)] 5))=E at o1 e1 ⊢
   have wE:=wD.trans (Wr.of hDz e1)
   have gE:=gD.trans (Gr.ext e1)
   have hO:=hO.ext e1
   have hEz:base≤E.heap.size:=Nat.le_trans hDz e1.size
   refine ⟨wE,app_bytes [hexD (c.toNat / 16),hexD (c.toNat % 16)] rfl (by simp) hO (fun j y hy=>?_) hEz ?_ fun v' w' hO' hW' hG'=>?_⟩
   · rw [(cells_of_heap o1).1]
     match j,hy with
     | 0,hy=>simp only [List.getElem?_cons_zero,Option.some.injEq] at hy;subst hy;rfl
     | 1,hy=>simp only [List.getElem?_cons_succ,List.getElem?_cons_zero,Option.some.injEq] at hy;subst hy;rfl
   · rw [List.length_append,hexL_len,List.length_take]
     show _+2≤_
     omega
   · refine ⟨wE.trans hW',?_⟩
     simp (disch:=try exact DI) only [↓PR,QR,simprocAttr]
     refine ⟨⟨k+1,rfl,by omega,?_,hW.trans (wE.trans hW'),gE.trans hG'⟩,meas_lt (kd := .i64) hlt⟩
     rw [take_snoc' hc,hexL_snoc,← List.append_assoc]
     exact hO'
 · have hk':k=s.size:=by omega
   subst hk'
   have hdec:decide ((s.size:Int) < (s.size:Int))=false:=by simp
   simp (disch:=try exact DI) only [↓PR,QR,simprocAttr,hdec]
   rw [← hsz,List.take_length] at hO
   exact ⟨hO,hW,hG⟩
theorem hexB_ret (A w0:World) (base:Nat) (v u:Value) (l s:List UInt8) (hO:OwnB w0 base v l) (hb:base≤w0.heap.size) (hA:Ext A w0) (hAb:A.heap.size≤base) (hs:BytesOf A u s) (hl:l.length+2*s.length≤140737488355328):Ret Pg 89 #[v,u] w0 fun r w'=>OwnB w' base r (l++hexL s)∧Wr base w0 w':=by
 obtain ⟨B,cap,rfl,_,_,_,hel⟩:=SliceOf.open hs
 refine n54s (R:=retR _) ?_;unfold n54
 simp (disch:=try exact DI) only [↓PR,QR,simprocAttr]
 refine loop2_intro (fun u i w=>∃ k:Nat,i = .int .i64 k∧k≤s.length∧OwnB w base u (l++hexL (s.take k))∧Wr base w0 w) (fun _ i _=>s.length - (intOf i).toNat) ⟨0,rfl,by omega,by simpa [hexL] using hO,Wr.refl _ _⟩ ?_
 rintro u _ w ⟨k,rfl,hk,hO,hW⟩
 have hbw:base≤w.heap.size:=Nat.le_trans hb hW.size
 by_cases hlt:k < s.length
 · have hdec:decide ((k:Int) < (s.length:Int))=true:=by simp;omega
   obtain ⟨c,hc⟩:=getElem?_lt (l:=s) (k:=k) (by omega)
   obtain ⟨b,o,cs,rfl,_,hE,hcs⟩:=hel k c hc
   have dk:(k:Int) < (s.length:Int):=by omega
   have hcell:A.cell? ⟨b,o+k*1,none⟩=some (.int .u8 (c.toNat:Int)):=hE 0 _ (by rw [hcs];rfl)
   simp (disch:=try exact DI) only [↓PR,QR,simprocAttr,hdec]
   refine drawK_introT base hbw ?_
   have eD:Ext w (drew w):=(Ext.refl w).drew
   have wD:Wr base w (drew w):=Wr.of hbw eD
   have hO:=hO.ext eD
   have hDz:base≤(drew w).heap.size:=hbw
   unfold n54c1
   have i2:=fun {QP:List PanicEntry→World→Prop} {w:World} {k':Value→World→Prop}=>op_indexS (P:=Pg) (QP:=QP) (w:=w) (k:=k') Tryz.underlying9 hexT .u8 (c.toNat / 16) (hexT_get _ (by have:=c.toNat_lt;omega))
   have i3:=fun {QP:List PanicEntry→World→Prop} {w:World} {k':Value→World→Prop}=>op_indexS (P:=Pg) (QP:=QP) (w:=w) (k:=k') Tryz.underlying9 hexT .u8 (c.toNat % 16) (hexT_get _ (by omega))
   have q1:=fun {k':Value→Prop}=>qT_loadA (X:=w) (A:=A) (base:=base) (k:=k') ty5 (hW.from hA hAb) hAb hcell
   simp (disch:=try exact DI) only [↓PR,QR,simprocAttr,dk]
   rw [q1,qV_of fun QP w k=>op_shr4 _ _ c,qV_of fun QP w k=>i2]
   simp (disch:=try exact DI) only [↓PR,QR,simprocAttr,dk]
   rw [q1,qV_of fun QP w k=>op_and15 _ _ c,qV_of fun QP w k=>i3]
   simp (disch:=try exact DI) only [↓PR,QR,simprocAttr]
   show KT _ _ ((drew w).alloc _)∧opV _ (Builtin.append_ _ _ #[u,.slice (some ⟨(drew w).heap.size,0,none⟩) 2 2]) _ ((drew w).alloc _) _
   generalize drew w=D at *
   have o1:=heap_new D #[.int .u8 ((hexD (c.toNat / 16)).toNat:Int),.int .u8 ((hexD (c.toNat % 16)).toNat:Int)] 5
   have e1:Ext D (D.alloc (.cells #[.int .u8 ((hexD (c.toNat / 16)).toNat:Int),.int .u8 ((hexD (c.toNat % 16)).toNat:Int)] 5)):=ee
   generalize (D.alloc (.cells #[.int .u8 ((hexD (c.toNat / 16)).toNat:Int),.int .u8 ((hexD (c.toNat % 16)).toNat:Int)] 5))=E at o1 e1 ⊢
   have wE:=wD.trans (Wr.of hDz e1)
   have hO:=hO.ext e1
   have hEz:base≤E.heap.size:=Nat.le_trans hDz e1.size
   refine ⟨wE,app_bytes [hexD (c.toNat / 16),hexD (c.toNat % 16)] rfl (by simp) hO (fun j y hy=>?_) hEz ?_ fun v' w' hO' hW' _=>?_⟩
   · rw [(cells_of_heap o1).1]
     match j,hy with
     | 0,hy=>simp only [List.getElem?_cons_zero,Option.some.injEq] at hy;subst hy;rfl
     | 1,hy=>simp only [List.getElem?_cons_succ,List.getElem?_cons_zero,Option.some.injEq] at hy;subst hy;rfl
   · rw [List.length_append,hexL_len,List.length_take]
     show _+2≤_
     omega
   · refine ⟨wE.trans hW',?_⟩
     simp (disch:=try exact DI) only [↓PR,QR,simprocAttr]
     refine ⟨⟨k+1,rfl,by omega,?_,hW.trans (wE.trans hW')⟩,meas_lt (kd := .i64) hlt⟩
     rw [take_snoc' hc,hexL_snoc,← List.append_assoc]
     exact hO'
 · have hk':k=s.length:=by omega
   subst hk'
   have hdec:decide ((s.length:Int) < (s.length:Int))=false:=by simp
   simp (disch:=try exact DI) only [↓PR,QR,simprocAttr,hdec]
   rw [List.take_length] at hO
   exact ⟨hO,hW⟩
end Go.Proofs.YtcffhmapmaahnaaGreatDoor
