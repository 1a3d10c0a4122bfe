/-
  Lemmas for the claim.
-/
import Derived.Test.YtcffhmapmaahnaaGreatDoorVf2
set_option linter.all false
set_option maxHeartbeats 4000000
set_option maxRecDepth 100000
namespace Go.Sw
open Go.RowKit (Below)
abbrev Bks:=Nat→Prop
def plusB (V:Bks) (B:Nat):Bks:=fun b=>V b∨b=B∨b=B+1
structure LW7 (V V':Bks) (w w':World):Prop where
 os:w'.os=w.os
 tape:w'.tape=w.tape
 output:w'.output=w.output
 size:w.heap.size≤w'.heap.size
 block:∀ b,b < w.heap.size→¬ V b→w'.heap[b]?=w.heap[b]?
 new:∀ b,V' b→V b∨w.heap.size≤b
theorem LW7.of {V:Bks} {w w':World} (e:Ext w w'):LW7 V V w w':=⟨e.os,e.tape,e.output,e.size,fun b hb _=>e.block b hb,fun b h => .inl h⟩
theorem LW7.more {V V':Bks} {w w':World} (e:Ext w w') (h:∀ b,V' b→V b∨w.heap.size≤b):LW7 V V' w w':=⟨e.os,e.tape,e.output,e.size,fun b hb _=>e.block b hb,h⟩
theorem LW7.trans {V V' V'':Bks} {a b c:World} (h:LW7 V V' a b) (g:LW7 V' V'' b c):LW7 V V'' a c:=⟨g.os.trans h.os,g.tape.trans h.tape,g.output.trans h.output,Nat.le_trans h.size g.size,fun k hk hv=>(g.block k (Nat.lt_of_lt_of_le hk h.size) fun hv'=>by
 rcases h.new k hv' with h1 | h1
 · exact hv h1
 · omega).trans (h.block k hk hv),fun k hk=>by
 rcases g.new k hk with h1 | h1
 · exact h.new k h1
 · exact .inr (Nat.le_trans h.size h1)⟩
theorem LW7.put {V:Bks} {w:World} {l:Nat} (hl:V l) (o:Obj):LW7 V V w (w.putObj l o):=⟨rfl,rfl,rfl,by simp,fun b _ hv=>World.putObj_heap_other (fun e=>hv (by rw [e];exact hl)),fun b h => .inl h⟩
theorem LW7.cell {V:Bks} {w:World} {l:Nat} (hl:V l) (o:Nat) (v:Value):LW7 V V w (w.setCell ⟨l,o,none⟩ v):=⟨rfl,rfl,rfl,by simp,fun b _ hv=>heap_setE (fun e=>hv (by rw [e];exact hl)),fun b h => .inl h⟩
def Lasts7 (I:Bks→World→Prop):Prop:=∀ V V' w w',LW7 V V' w w'→I V w→I V' w'
theorem Lasts7.ext {I:Bks→World→Prop} (h:Lasts7 I) {V:Bks} {w w':World} (hI:I V w) (e:Ext w w'):I V w':=h _ _ _ _ (.of e) hI
theorem Lasts7.put {I:Bks→World→Prop} (h:Lasts7 I) {V:Bks} {w:World} {l:Nat} (hl:V l) (hI:I V w) (o:Obj):I V (w.putObj l o):=h _ _ _ _ (.put hl o) hI
theorem Lasts7.busied {I:Bks→World→Prop} (h:Lasts7 I) {V:Bks} {w w':World} {l:Nat} (hb:Busied l w w') (hl:V l) (hI:I V w):I V w':=by
 obtain ⟨r,hr,rfl⟩:=hb
 exact h.put hl hI _
theorem Lasts7.and {I J:Bks→World→Prop} (h:Lasts7 I) (k:Lasts7 J):Lasts7 (fun V w=>I V w∧J V w):=fun V V' w w' hl hh=>⟨h _ _ _ _ hl hh.1,k _ _ _ _ hl hh.2⟩
theorem Lasts7.ex {α:Sort _} {I:α→Bks→World→Prop} (h:∀ x,Lasts7 (I x)):Lasts7 (fun V w=>∃ x,I x V w):=fun V V' w w' hl ⟨x,hx⟩=>⟨x,h x _ _ _ _ hl hx⟩
theorem Lasts7.const (p:Prop):Lasts7 (fun _ _=>p):=fun _ _ _ _ _ h=>h
theorem Lasts7.has {b:Nat} {o:Obj}:Lasts7 (fun V w=>¬ V b∧w.heap[b]?=some o):=fun V V' w w' hl ⟨h1,h2⟩=>by
 have hb:=(Array.getElem?_eq_some_iff.1 h2).1
 refine ⟨fun hv=>?_,(hl.block b hb h1).trans h2⟩
 rcases hl.new b hv with h | h
 · exact h1 h
 · omega
theorem Lasts7.from {A:World}:Lasts7 (fun V w=>Ext A w∧∀ b,V b→A.heap.size≤b):=fun V V' w w' hl ⟨e,h⟩=>⟨⟨hl.os.trans e.os,hl.tape.trans e.tape,hl.output.trans e.output,Nat.le_trans e.size hl.size,fun k hk=>(hl.block k (Nat.lt_of_lt_of_le hk e.size) fun hv=>by have:=h k hv;omega).trans (e.block k hk)⟩,fun b hb=>by
 rcases hl.new b hb with h1 | h1
 · exact h b h1
 · exact Nat.le_trans e.size h1⟩
theorem Lasts7.own {α:Type} {base n:Nat} {T:TypeId} {enc:α→List Value} {v:Value} {l:List α}:Lasts7 (fun V w=>OwnE w base T n enc v l∧∀ g,v.ownBlock=some g→¬ V g):=fun V V' w w' hl ⟨h,hn⟩=>by
 obtain ⟨h1,h2⟩:=h
 rcases h2 with h2 | ⟨g,cap,cur,hv,a1,a2,a3⟩
 · exact ⟨⟨h1,.inl h2⟩,fun g hg=>by rw [h2.1] at hg;cases hg⟩
 · have hg:v.ownBlock=some g:=by rw [hv];rfl
   have hb:=(Array.getElem?_eq_some_iff.1 a2).1
   refine ⟨⟨h1,.inr ⟨g,cap,cur,hv,a1,(hl.block g hb (hn g hg)).trans a2,a3⟩⟩,fun g' hg' hv'=>?_⟩
   rw [hg] at hg'
   injection hg' with hg'
   subst hg'
   rcases hl.new g hv' with h | h
   · exact hn g hg h
   · omega
structure KR7 (V:Bks) (w w':World):Prop where
 size:w.heap.size≤w'.heap.size
 loop:∀ (b:Nat) (r:Loop),w.heap[b]?=some (.loop r)→∃ st p,w'.heap[b]?=some (.loop { r with state:=st,pending:=p })
 defer:∀ (b:Nat),w.heap[b]?=some (.deferred (some []))→w'.heap[b]?=some (.deferred (some []))
 keep:∀ b,V b→b < w.heap.size→(∀ r,w.heap[b]?≠some (.loop r))→w'.heap[b]?=w.heap[b]?
section
variable {V:Bks} {w w1 w2:World}
theorem KR7.of (e:Ext w w1):KR7 V w w1:=⟨e.size,fun b r h=>⟨r.state,r.pending,e.obj h⟩,fun _ h=>e.obj h,fun b _ hb _=>e.block b hb⟩
theorem KR7.refl (V:Bks) (w:World):KR7 V w w := .of (Ext.refl w)
theorem KR7.sub {V':Bks} (h:KR7 V w w1) (hs:∀ b,V' b→V b):KR7 V' w w1:=⟨h.size,h.loop,h.defer,fun b hv=>h.keep b (hs b hv)⟩
theorem KR7.setCell (h:KR7 V w w1) (b o:Nat) (v:Value) (hb:¬ V b∨w.heap.size≤b):KR7 V w (w1.setCell ⟨b,o,none⟩ v):=⟨by simpa using h.size,fun b r hb=>by
 obtain ⟨st,p,h1⟩:=h.loop b r hb
 exact ⟨st,p,(KeepsOthers.setCell w1 _ v).same _ _ h1 rfl⟩,fun b hb=>(KeepsOthers.setCell w1 _ v).same _ _ (h.defer b hb) rfl,fun b' hv hb' hr=>by
 have:b'≠b:=by
  rintro rfl
  rcases hb with hb | hb
  · exact hb hv
  · omega
 rw [heap_setE this];exact h.keep b' hv hb' hr⟩
theorem KR7.free (h:KR7 V w w1) {F:Bks} (hs:w1.heap.size≤w2.heap.size) (hk:∀ b,b < w1.heap.size→¬ F b→w2.heap[b]?=w1.heap[b]?) (hF:∀ b,F b→¬ V b∨w.heap.size≤b) (hc:∀ b,F b→(∀ r,w1.heap[b]?≠some (.loop r))∧∀ d,w1.heap[b]?≠some (.deferred d)):KR7 V w w2:=⟨Nat.le_trans h.size hs,fun b r hb=>by
 obtain ⟨st,p,h1⟩:=h.loop b r hb
 exact ⟨st,p,(hk b (Array.getElem?_eq_some_iff.1 h1).1 fun hf=>(hc b hf).1 _ h1).trans h1⟩,fun b hb=>by
 have h1:=h.defer b hb
 exact (hk b (Array.getElem?_eq_some_iff.1 h1).1 fun hf=>(hc b hf).2 _ h1).trans h1,fun b hv hb hr=>by
 rw [hk b (Nat.lt_of_lt_of_le hb h.size) fun hf=>by
  rcases hF b hf with h1 | h1
  · exact h1 hv
  · omega]
 exact h.keep b hv hb hr⟩
theorem KR7.turn {l:Nat} {r:Loop} (hl:w.heap[l]?=some (.loop r)) (st:LoopState) (p:Option Code):KR7 V w (w.putObj l (.loop { r with state:=st,pending:=p })):=⟨by simp,fun b r' hb=>by
 by_cases e:b=l
 · subst e
   rw [hl] at hb;injection hb with hb;injection hb with hb;subst hb
   exact ⟨st,p,World.putObj_heap_same (Array.getElem?_eq_some_iff.1 hl).1⟩
 · rw [World.putObj_heap_other e];exact ⟨r'.state,r'.pending,hb⟩,fun b hb=>by
 by_cases e:b=l
 · subst e;rw [hl] at hb;cases hb
 · rw [World.putObj_heap_other e];exact hb,fun b _ _ hr=>by
 by_cases e:b=l
 · subst e;exact absurd hl (hr _)
 · rw [World.putObj_heap_other e]⟩
theorem KR7.busied {l:Nat} (h:Busied l w w1):KR7 V w w1:=by
 obtain ⟨r,hr,rfl⟩:=h
 exact KR7.turn hr .busy r.pending
end
def Firm7 (V:Bks) (R:World→Prop):Prop:=∀ w w',KR7 V w w'→R w→R w'
theorem RecAt.firm7 (rec:Loop) (V:Bks) (b:Nat):Firm7 V (RecAt rec b):=fun w w' h ⟨h1,st,p,h2⟩=>by
 obtain ⟨st',p',h3⟩:=h.loop _ _ h2
 exact ⟨h.defer _ h1,st',p',h3⟩
theorem Firm7.and {V:Bks} {R S:World→Prop} (h:Firm7 V R) (k:Firm7 V S):Firm7 V (fun w=>R w∧S w):=fun w w' e hh=>⟨h _ _ e hh.1,k _ _ e hh.2⟩
theorem Firm7.sub {V V':Bks} {R:World→Prop} (h:Firm7 V R) (hs:∀ b,V b→V' b):Firm7 V' R:=fun w w' e=>h w w' (e.sub hs)
theorem Firm7.has {V:Bks} {b:Nat} {o:Obj} (hb:V b) (ho:∀ r,o ≠ .loop r):Firm7 V (fun w=>w.heap[b]?=some o):=fun w w' h k=>by
 show w'.heap[b]?=some o
 rw [h.keep b hb (Array.getElem?_eq_some_iff.1 k).1 fun r e=>by rw [k] at e;injection e with e;exact ho r e];exact k
theorem plus_lasts {I:Bks→World→Prop} (h:Lasts7 I) (B:Nat):Lasts7 (fun V w=>I (plusB V B) w):=fun V V' w w' hl hI=>h _ _ _ _ ⟨hl.os,hl.tape,hl.output,hl.size,fun b hb hv=>hl.block b hb fun h=>hv (.inl h),fun b hb=>by
 rcases hb with hb | hb
 · exact (hl.new b hb).imp_left .inl
 · exact .inl (.inr hb)⟩ hI
def SeqIt8 (P:Program) (f:FuncId) (caps:Array Value) (n:Nat) (Y:Nat→Nat→Value→Bks→World→Prop) (V0:Bks) (Pre FP:World→Prop):Prop :=
 ∀ (yv:Value) (J:Nat→Bks→World→Prop) (Jx:Bks→World→Prop) (Jp:List PanicEntry→Bks→World→Prop) (w:World),yv.oneCell'=true→Pre w→(∀ k V w,J k V w→FP w)→(∀ k,Lasts7 (J k))→Lasts7 Jx→(∀ ch,Lasts7 (Jp ch)) →
  (∀ k,k < n→∀ x V w',Y w.heap.size k x V w'→(∀ b,V b→V0 b∨w.heap.size≤b)→∀ Rk,Firm7 V Rk→J k V w'→Rk w'→callV P yv #[x] (fun ch w''=>Rk w''∧Jp ch V w'') w' (fun v w''=>Rk w''∧((v = .bool true∧J (k+1) V w'')∨(v = .bool false∧Jx V w''))))→J 0 V0 w →
  Calls P f (#[yv]++caps) w (fun e w'=>match e with
   | .returned _=>∃ V,J n V w'∨Jx V w'
   | .panicked ch=>∃ V,Jp ch V w'
   | .outgrown=>False)
def rangeN8 (P:Program) (fv:Value) (ds:List Deferred) (body:Nat→Value→World→(World→Prop)→(Nat→World→Prop)→(List PanicEntry→World→Prop)→Prop) (QP:List PanicEntry→List Deferred→World→Prop) (w:World)
 (k:List Deferred→World→Prop) (kx:List (List Deferred→World→Prop)):Prop :=
 ∃ (f:FuncId) (caps:Array Value) (n:Nat) (Y:Nat→Nat→Value→Bks→World→Prop) (V0:Bks) (Pre FP:World→Prop) (I:Nat→Bks→World→Prop) (Ix:Nat→Bks→World→Prop) (Ip:List PanicEntry→Bks→World→Prop),
  fv = .func (.func f) #[] caps∧Callable P f∧SeqIt8 P f caps n Y V0 Pre FP∧(∀ w',Ext w w'→Pre w')∧(∀ b,V0 b→b < w.heap.size)∧I 0 V0 w∧(∀ k V w,I k V w→FP w)∧(∀ k,Lasts7 (I k))∧(∀ c,Lasts7 (Ix c))∧(∀ ch,Lasts7 (Ip ch)) ∧
  (∀ (Rk:World→Prop) (V:Bks),Firm7 (plusB V w.heap.size) Rk→(∀ b,V b→V0 b∨w.heap.size+1+1≤b)→∀ (j:Nat) (x:Value) (w':World),j < n→Y (w.heap.size+1+1) j x V w'→I j (plusB V w.heap.size) w'→Rk w'→w.heap.size+1 < w'.heap.size→ReadyAt (w.heap.size+1) w' →
   body (w.heap.size+1) x w' (fun w''=>Rk w''∧I (j+1) (plusB V w.heap.size) w'') (fun c w''=>Rk w''∧Ix c (plusB V w.heap.size) w'') (fun ch w''=>Rk w''∧Ip ch (plusB V w.heap.size) w'')) ∧
  (∀ V w',I n V w'→MarkAt w.heap.size w'→k (mark w.heap.size::ds) w') ∧
  (∀ c V w',Ix c V w'→MarkAt w.heap.size w'→nthK kx c (mark w.heap.size::ds) w') ∧
  (∀ ch V w',Ip ch V w'→MarkAt w.heap.size w'→QP ch (mark w.heap.size::ds) w')
section
variable {P:Program} {N:Nat}
theorem sim_range8 {g:Operand} {p:Nat} {asg body:Code} {Q:K} {QP:KP} {ρ:Env} {ds:List Deferred} {w:World} {fv:Value} {nbody:Nat→Value→World→(World→Prop)→(Nat→World→Prop)→(List PanicEntry→World→Prop)→Prop} {QPn:List PanicEntry→List Deferred→World→Prop}
 {k:List Deferred→World→Prop} {kx:List (List Deferred→World→Prop)} (js:List Code) (h:rangeN8 P fv ds nbody QPn w k kx) (hg:ev ρ g=fv)
 (hbody:∀ l x w K X QPr,nbody l x w K X QPr→den P N (some l) asg (thenK (fun ρ' ds' w'=>ds'=[]∧busyK l w' (fun w''=>den P N (some l) body (roundK js K X) (roundQP QPr) ρ' [] w'')) (fun _ _ _ _=>False)) (fun _ _ _ _=>False) (put N ρ (some p) x) [] w)
 (hk:∀ ds w,k ds w→Q .normal ρ ds w) (hx:∀ c ds w,nthK kx c ds w→∃ code,js[c]?=some code∧((code = .ret∧Q .ret ρ ds w)∨(∃ id,code = .exit id∧Q (.exit id) ρ ds w))) (hp:∀ ch ds w,QPn ch ds w→QP ch ρ ds w) :
 den P N none (.rangeFunc g #[p] asg body) Q QP ρ ds w:=by
 intro a ha hds
 subst hds
 obtain ⟨f,caps,n,Y,V0,Pre,FP,I,Ix,Ip,hfv,hcal,hseq,hPre,hV0,h0,hFP,hL,hLx,hLp,hround,hend,hjump,hpan⟩:=h
 refine wpV_rangeFunc fun fn hfn=>?_
 obtain ⟨rec,hrec⟩:∃ rec:Loop,rec={ state := .ready,pending:=none,fn,tmps:=a.tmps,params := #[p],assign:=asg,body,defers:=w.heap.size }:=⟨_,rfl⟩
 obtain ⟨W1,hW1⟩:∃ W1,(w.alloc (.deferred (some []))).alloc (.loop rec)=W1:=⟨_,rfl⟩
 have hE1:Ext w W1:=by rw [← hW1];exact ((Ext.refl w).alloc _).alloc _
 have hW1s:W1.heap.size=w.heap.size+1+1:=by rw [← hW1];simp
 have hL1:W1.heap[w.heap.size+1]?=some (.loop rec):=by
  rw [← hW1];have:=World.alloc_heap_new (w.alloc (.deferred (some []))) (.loop rec);rwa [World.size_alloc] at this
 have hK1:MarkAt w.heap.size W1:=by
  rw [← hW1];exact MarkAt.alloc (World.alloc_heap_new w _) _
 have hev:a.eval g=fv:=by rw [ha.eval];exact hg
 refine ⟨w.heap.size+1,[mark w.heap.size],W1,{ target := .fn (.func f) caps,args := #[.func (.yield (w.heap.size+1)) #[] #[]] },W1,f,#[.func (.yield (w.heap.size+1)) #[] #[]]++caps,W1,?_,?_,?_,?_⟩
 · rw [← hW1,hrec];exact run_enterLoop_outer _ _ _ _ _
 · simp only [resolve,hev,hfv]
   simp [go_sem]
 · simp only [invoke]
   exact callFunc_run hcal _ _
 · refine Calls.mono (hseq (.func (.yield (w.heap.size+1)) #[] #[]) (fun j V w'=>I j (plusB V w.heap.size) w'∧((¬ V w.heap.size∧w'.heap[w.heap.size]?=some (.deferred (some [])))∧(¬ V (w.heap.size+1)∧w'.heap[w.heap.size+1]?=some (.loop { rec with state := .ready,pending:=none }))))
    (fun V w'=>(¬ V w.heap.size∧w'.heap[w.heap.size]?=some (.deferred (some [])))∧∃ c code,Ix c (plusB V w.heap.size) w'∧(js[c]?=some code∧(¬ V (w.heap.size+1)∧w'.heap[w.heap.size+1]?=some (.loop { rec with state := .done,pending:=some code }))))
    (fun ch V w'=>(¬ V w.heap.size∧w'.heap[w.heap.size]?=some (.deferred (some [])))∧Ip ch (plusB V w.heap.size) w') W1 rfl (hPre _ hE1) (fun j V w' hj=>hFP j _ w' hj.1) (fun j=>(plus_lasts (hL j) _).and (Lasts7.has.and Lasts7.has))
    (Lasts7.has.and (.ex fun c => .ex fun code=>(plus_lasts (hLx c) _).and ((Lasts7.const _).and Lasts7.has))) (fun ch=>Lasts7.has.and (plus_lasts (hLp ch) _)) ?_ ⟨hL 0 _ _ _ _ (.more hE1 fun b hb=>hb.imp id (fun h=>by omega)) h0,⟨fun hv=>by have:=hV0 _ hv;omega,hK1⟩,fun hv=>by have:=hV0 _ hv;omega,by rw [hL1,hrec]⟩) ?_
   · rintro j hj x V w' hY hVn Rk hF ⟨hi,⟨hnB,hm⟩,hnB1,hl⟩ hR
     have hlt:w.heap.size+1 < w'.heap.size:=(Array.getElem?_eq_some_iff.1 hl).1
     have hy:=run_yield (P:=P) (args := #[x]) hl (by rw [hrec];rfl)
     show onNext P _ _ _ _
     have hcs:callS (.func (.yield (w.heap.size+1)) #[] #[]) #[x]=Instr.yield (w.heap.size+1) #[x]:=by
      simp [callS,Deferred.ofValue,invoke,go_sem,bind,pure,Sem.bind]
     rw [hcs,hy]
     have key:∀ R,wpV (some (w.heap.size+1)) P asg (Exit.then (fun a₁ w₁=>∃ w₂,(Instr.beginRound (w.heap.size+1)).run P w₁ = .ok () w₂∧wpV (some (w.heap.size+1)) P body (endV P (w.heap.size+1) R) a₁ w₂) (fun _ _ _=>False)) { tmps:=((#[p].zip #[x]).foldl (fun tmps (t,a)=>tmps.setIfInBounds t a) a.tmps),defers:=[] } w' →
      RoundV P (w.heap.size+1) rec.fn ((rec.params.zip #[x]).foldl (fun tmps (t,a)=>tmps.setIfInBounds t a) rec.tmps) rec.assign rec.body w' R:=by
      intro R h;rw [hrec];exact roundV_of_wpV hfn h
     refine key _ ?_
     have hb:=hbody _ _ _ _ _ _ (hround _ V ((RecAt.firm7 rec _ w.heap.size).and (hF.sub fun b hb => .inl hb)) (by rw [hW1s] at hVn;exact hVn) j x w' hj (by rw [hW1s] at hY;exact hY) hi ⟨⟨hm,_,_,hl⟩,hR⟩ hlt ⟨_,hl,rfl⟩)
     have hagr:Agrees N ({ tmps:=((#[p].zip #[x]).foldl (fun tmps (t,a)=>tmps.setIfInBounds t a) a.tmps),defers:=[] }:Act) (put N ρ (some p) x):=by
      have:=(Agrees.defers ha []).put (some p) x
      simpa [Act.put] using this
     refine wpV_mono (den_sound asg _ _ _ _ _ hagr hb) ?_
     intro e a1 w1 hl1
     cases e with
     | panic ch=>obtain ⟨_,_,hf⟩:=hl1;exact hf.elim
     | outgrown=>exact hl1
     | exit id=>obtain ⟨_,_,_,hf⟩:=hl1;exact hf.elim
     | goto l=>obtain ⟨_,_,_,hf⟩:=hl1;exact hf.elim
     | ret=>obtain ⟨_,_,_,hf⟩:=hl1;exact hf.elim
     | normal =>
      obtain ⟨ρ1,ha1,_,hd1,hbz⟩:=hl1
      obtain ⟨⟨r,hr1,hr2⟩,hbz⟩:=hbz
      refine ⟨_,run_beginRound hr1 hr2,?_⟩
      rw [show a1={ a1 with defers:=[] } by rw [← hd1]]
      refine wpV_mono (den_sound body _ _ _ _ _ (Agrees.defers ha1 []) (hbz _ ⟨_,hr1,rfl⟩)) ?_
      have fin:∀ (jump:Option Code) (w2:World),RecAt rec w.heap.size w2→(Instr.endRound (w.heap.size+1) jump).run P w2 = .ok (.bool jump.isNone) (w2.putObj (w.heap.size+1) (.loop { rec with state:=if jump.isNone then .ready else .done,pending:=jump })) ∧
       (w2.putObj (w.heap.size+1) (.loop { rec with state:=if jump.isNone then .ready else .done,pending:=jump })).heap[w.heap.size+1]?=some (.loop { rec with state:=if jump.isNone then .ready else .done,pending:=jump }) ∧
       MarkAt w.heap.size (w2.putObj (w.heap.size+1) (.loop { rec with state:=if jump.isNone then .ready else .done,pending:=jump })):=by
       rintro jump w2 ⟨hm2,st,q,hq⟩
       refine ⟨by have:=run_endRound (P:=P) jump hq;exact this,World.putObj_heap_same (Array.getElem?_eq_some_iff.1 hq).1,?_⟩
       unfold MarkAt
       rw [World.putObj_heap_other (by omega)];exact hm2
      intro e a2 w2 hl2
      cases e with
      | normal =>
       obtain ⟨_,_,_,_,⟨hrec2,hR2⟩,hi2⟩:=hl2
       obtain ⟨f1,f2,f3⟩:=fin none w2 hrec2
       obtain ⟨_,st,q,hq⟩:=hrec2
       exact ⟨_,_,f1,hF _ _ (KR7.turn hq _ _) hR2,.inl ⟨rfl,(hL _).put (.inr (.inr rfl)) hi2 _,⟨hnB,f3⟩,hnB1,f2⟩⟩
      | ret =>
       obtain ⟨_,_,_,_,c,hc,⟨hrec2,hR2⟩,hi2⟩:=hl2
       obtain ⟨f1,f2,f3⟩:=fin (some .ret) w2 hrec2
       obtain ⟨_,st,q,hq⟩:=hrec2
       exact ⟨_,_,f1,hF _ _ (KR7.turn hq _ _) hR2,.inr ⟨rfl,⟨hnB,f3⟩,c,_,(hLx _).put (.inr (.inr rfl)) hi2 _,hc,hnB1,f2⟩⟩
      | exit id =>
       obtain ⟨_,_,_,_,c,hc,⟨hrec2,hR2⟩,hi2⟩:=hl2
       obtain ⟨f1,f2,f3⟩:=fin (some (.exit id)) w2 hrec2
       obtain ⟨_,st,q,hq⟩:=hrec2
       exact ⟨_,_,f1,hF _ _ (KR7.turn hq _ _) hR2,.inr ⟨rfl,⟨hnB,f3⟩,c,_,(hLx _).put (.inr (.inr rfl)) hi2 _,hc,hnB1,f2⟩⟩
      | panic ch =>
       obtain ⟨_,_,hd2,⟨hrec2,hR2⟩,hi2⟩:=hl2
       exact ⟨hd2,hR2,⟨hnB,hrec2.1⟩,hi2⟩
      | goto l=>obtain ⟨_,_,_,hf⟩:=hl2;exact hf.elim
      | outgrown=>exact hl2
   · have hagr:Agrees N ({ a with defers:=[mark w.heap.size]++a.defers }:Act) ρ:=ha
     have exh:∀ (st:LoopState) (q:Option Code) (w':World),w'.heap[w.heap.size+1]?=some (.loop { rec with state:=st,pending:=q })→st ≠ .busy→MarkAt w.heap.size w' →
      (Instr.endLoop (w.heap.size+1)).run P w' = .ok q (w'.putObj (w.heap.size+1) (.loop { rec with state := .exhausted,pending:=q }))∧MarkAt w.heap.size (w'.putObj (w.heap.size+1) (.loop { rec with state := .exhausted,pending:=q })):=by
      intro st q w' hq hne hm
      refine ⟨by have:=run_endLoop (P:=P) hq hne;exact this,?_⟩
      unfold MarkAt
      rw [World.putObj_heap_other (by omega)];exact hm
     rintro e w' he
     cases e with
     | returned v =>
      rcases he with ⟨V,⟨hi,⟨_,hm⟩,_,hl⟩ | ⟨⟨_,hm⟩,c,code,hi,hc,_,hl⟩⟩
      · obtain ⟨e1,e2⟩:=exh _ _ w' hl (by simp) hm
        exact ⟨none,_,e1,hagr,hk _ _ (hend _ _ ((hL _).put (.inr (.inr rfl)) hi _) e2)⟩
      · obtain ⟨e1,e2⟩:=exh _ _ w' hl (by simp) hm
        refine ⟨some code,_,e1,?_⟩
        obtain ⟨code',hc',hden⟩:=hx c _ _ (hjump c _ _ ((hLx _).put (.inr (.inr rfl)) hi _) e2)
        rw [hc] at hc';cases hc'
        rcases hden with ⟨rfl,hq⟩ | ⟨id,rfl,hq⟩
        · exact wpV_ret ⟨hagr,hq⟩
        · exact wpV_exit ⟨hagr,hq⟩
     | panicked ch=>obtain ⟨V,⟨_,hm⟩,hi⟩:=he;exact ⟨hagr,hp _ _ _ (hpan ch _ _ hi hm)⟩
     | outgrown=>exact he.elim
end
def SeqIt7 (P:Program) (f:FuncId) (caps:Array Value) (n:Nat) (Y:Nat→Nat→Value→Value→Bks→World→Prop) (V0:Bks) (Pre FP:World→Prop):Prop :=
 ∀ (yv:Value) (J:Nat→Bks→World→Prop) (Jx:Bks→World→Prop) (Jp:List PanicEntry→Bks→World→Prop) (w:World),yv.oneCell'=true→Pre w→(∀ k V w,J k V w→FP w)→(∀ V w,Jx V w→FP w)→(∀ k,Lasts7 (J k))→Lasts7 Jx→(∀ ch,Lasts7 (Jp ch)) →
  (∀ k,k < n→∀ x y V w',Y w.heap.size k x y V w'→(∀ b,V b→V0 b∨w.heap.size≤b)→∀ Rk,Firm7 V Rk→J k V w'→Rk w'→callV P yv #[x,y] (fun ch w''=>Rk w''∧Jp ch V w'') w' (fun v w''=>Rk w''∧((v = .bool true∧J (k+1) V w'')∨(v = .bool false∧Jx V w''))))→J 0 V0 w →
  Calls P f (#[yv]++caps) w (fun e w'=>match e with
   | .returned _=>∃ V,J n V w'∨Jx V w'
   | .panicked ch=>∃ V,Jp ch V w'
   | .outgrown=>False)
def rangeN7 (P:Program) (fv:Value) (ds:List Deferred) (body:Nat→Value→Value→World→(World→Prop)→(Nat→World→Prop)→(List PanicEntry→World→Prop)→Prop) (QP:List PanicEntry→List Deferred→World→Prop) (w:World)
 (k:List Deferred→World→Prop) (kx:List (List Deferred→World→Prop)):Prop :=
 ∃ (f:FuncId) (caps:Array Value) (n:Nat) (Y:Nat→Nat→Value→Value→Bks→World→Prop) (V0:Bks) (Pre FP:World→Prop) (I:Nat→Bks→World→Prop) (Ix:Nat→Bks→World→Prop) (Ip:List PanicEntry→Bks→World→Prop),
  fv = .func (.func f) #[] caps∧Callable P f∧SeqIt7 P f caps n Y V0 Pre FP∧(∀ w',Ext w w'→Pre w')∧(∀ b,V0 b→b < w.heap.size)∧I 0 V0 w∧(∀ k V w,I k V w→FP w)∧(∀ c V w,Ix c V w→FP w)∧(∀ k,Lasts7 (I k))∧(∀ c,Lasts7 (Ix c))∧(∀ ch,Lasts7 (Ip ch)) ∧
  (∀ (Rk:World→Prop) (V:Bks),Firm7 (plusB V w.heap.size) Rk→(∀ b,V b→V0 b∨w.heap.size+1+1≤b)→∀ (j:Nat) (x y:Value) (w':World),j < n→Y (w.heap.size+1+1) j x y V w'→I j (plusB V w.heap.size) w'→Rk w'→w.heap.size+1 < w'.heap.size→ReadyAt (w.heap.size+1) w' →
   body (w.heap.size+1) x y w' (fun w''=>Rk w''∧I (j+1) (plusB V w.heap.size) w'') (fun c w''=>Rk w''∧Ix c (plusB V w.heap.size) w'') (fun ch w''=>Rk w''∧Ip ch (plusB V w.heap.size) w'')) ∧
  (∀ V w',I n V w'→MarkAt w.heap.size w'→k (mark w.heap.size::ds) w') ∧
  (∀ c V w',Ix c V w'→MarkAt w.heap.size w'→nthK kx c (mark w.heap.size::ds) w') ∧
  (∀ ch V w',Ip ch V w'→MarkAt w.heap.size w'→QP ch (mark w.heap.size::ds) w')
section
variable {P:Program} {N:Nat}
theorem sim_range7 {g:Operand} {p p2:Nat} {asg body:Code} {Q:K} {QP:KP} {ρ:Env} {ds:List Deferred} {w:World} {fv:Value} {nbody:Nat→Value→Value→World→(World→Prop)→(Nat→World→Prop)→(List PanicEntry→World→Prop)→Prop} {QPn:List PanicEntry→List Deferred→World→Prop}
 {k:List Deferred→World→Prop} {kx:List (List Deferred→World→Prop)} (js:List Code) (h:rangeN7 P fv ds nbody QPn w k kx) (hg:ev ρ g=fv)
 (hbody:∀ l x y w K X QPr,nbody l x y w K X QPr→den P N (some l) asg (thenK (fun ρ' ds' w'=>ds'=[]∧busyK l w' (fun w''=>den P N (some l) body (roundK js K X) (roundQP QPr) ρ' [] w'')) (fun _ _ _ _=>False)) (fun _ _ _ _=>False) (put N (put N ρ (some p) x) (some p2) y) [] w)
 (hk:∀ ds w,k ds w→Q .normal ρ ds w) (hx:∀ c ds w,nthK kx c ds w→∃ code,js[c]?=some code∧((code = .ret∧Q .ret ρ ds w)∨(∃ id,code = .exit id∧Q (.exit id) ρ ds w))) (hp:∀ ch ds w,QPn ch ds w→QP ch ρ ds w) :
 den P N none (.rangeFunc g #[p,p2] asg body) Q QP ρ ds w:=by
 intro a ha hds
 subst hds
 obtain ⟨f,caps,n,Y,V0,Pre,FP,I,Ix,Ip,hfv,hcal,hseq,hPre,hV0,h0,hFP,hFPx,hL,hLx,hLp,hround,hend,hjump,hpan⟩:=h
 refine wpV_rangeFunc fun fn hfn=>?_
 obtain ⟨rec,hrec⟩:∃ rec:Loop,rec={ state := .ready,pending:=none,fn,tmps:=a.tmps,params := #[p,p2],assign:=asg,body,defers:=w.heap.size }:=⟨_,rfl⟩
 obtain ⟨W1,hW1⟩:∃ W1,(w.alloc (.deferred (some []))).alloc (.loop rec)=W1:=⟨_,rfl⟩
 have hE1:Ext w W1:=by rw [← hW1];exact ((Ext.refl w).alloc _).alloc _
 have hW1s:W1.heap.size=w.heap.size+1+1:=by rw [← hW1];simp
 have hL1:W1.heap[w.heap.size+1]?=some (.loop rec):=by
  rw [← hW1];have:=World.alloc_heap_new (w.alloc (.deferred (some []))) (.loop rec);rwa [World.size_alloc] at this
 have hK1:MarkAt w.heap.size W1:=by
  rw [← hW1];exact MarkAt.alloc (World.alloc_heap_new w _) _
 have hev:a.eval g=fv:=by rw [ha.eval];exact hg
 refine ⟨w.heap.size+1,[mark w.heap.size],W1,{ target := .fn (.func f) caps,args := #[.func (.yield (w.heap.size+1)) #[] #[]] },W1,f,#[.func (.yield (w.heap.size+1)) #[] #[]]++caps,W1,?_,?_,?_,?_⟩
 · rw [← hW1,hrec];exact run_enterLoop_outer _ _ _ _ _
 · simp only [resolve,hev,hfv]
   simp [go_sem]
 · simp only [invoke]
   exact callFunc_run hcal _ _
 · refine Calls.mono (hseq (.func (.yield (w.heap.size+1)) #[] #[]) (fun j V w'=>I j (plusB V w.heap.size) w'∧((¬ V w.heap.size∧w'.heap[w.heap.size]?=some (.deferred (some [])))∧(¬ V (w.heap.size+1)∧w'.heap[w.heap.size+1]?=some (.loop { rec with state := .ready,pending:=none }))))
    (fun V w'=>(¬ V w.heap.size∧w'.heap[w.heap.size]?=some (.deferred (some [])))∧∃ c code,Ix c (plusB V w.heap.size) w'∧(js[c]?=some code∧(¬ V (w.heap.size+1)∧w'.heap[w.heap.size+1]?=some (.loop { rec with state := .done,pending:=some code }))))
    (fun ch V w'=>(¬ V w.heap.size∧w'.heap[w.heap.size]?=some (.deferred (some [])))∧Ip ch (plusB V w.heap.size) w') W1 rfl (hPre _ hE1) (fun j V w' hj=>hFP j _ w' hj.1) (fun V w' hj=>by obtain ⟨_,c,_,hx,_⟩:=hj;exact hFPx c _ w' hx) (fun j=>(plus_lasts (hL j) _).and (Lasts7.has.and Lasts7.has))
    (Lasts7.has.and (.ex fun c => .ex fun code=>(plus_lasts (hLx c) _).and ((Lasts7.const _).and Lasts7.has))) (fun ch=>Lasts7.has.and (plus_lasts (hLp ch) _)) ?_ ⟨hL 0 _ _ _ _ (.more hE1 fun b hb=>hb.imp id (fun h=>by omega)) h0,⟨fun hv=>by have:=hV0 _ hv;omega,hK1⟩,fun hv=>by have:=hV0 _ hv;omega,by rw [hL1,hrec]⟩) ?_
   · rintro j hj x y V w' hY hVn Rk hF ⟨hi,⟨hnB,hm⟩,hnB1,hl⟩ hR
     have hlt:w.heap.size+1 < w'.heap.size:=(Array.getElem?_eq_some_iff.1 hl).1
     have hy:=run_yield (P:=P) (args := #[x,y]) hl (by rw [hrec];rfl)
     show onNext P _ _ _ _
     have hcs:callS (.func (.yield (w.heap.size+1)) #[] #[]) #[x,y]=Instr.yield (w.heap.size+1) #[x,y]:=by
      simp [callS,Deferred.ofValue,invoke,go_sem,bind,pure,Sem.bind]
     rw [hcs,hy]
     have key:∀ R,wpV (some (w.heap.size+1)) P asg (Exit.then (fun a₁ w₁=>∃ w₂,(Instr.beginRound (w.heap.size+1)).run P w₁ = .ok () w₂∧wpV (some (w.heap.size+1)) P body (endV P (w.heap.size+1) R) a₁ w₂) (fun _ _ _=>False)) { tmps:=((#[p,p2].zip #[x,y]).foldl (fun tmps (t,a)=>tmps.setIfInBounds t a) a.tmps),defers:=[] } w' →
      RoundV P (w.heap.size+1) rec.fn ((rec.params.zip #[x,y]).foldl (fun tmps (t,a)=>tmps.setIfInBounds t a) rec.tmps) rec.assign rec.body w' R:=by
      intro R h;rw [hrec];exact roundV_of_wpV hfn h
     refine key _ ?_
     have hb:=hbody _ _ _ _ _ _ _ (hround _ V ((RecAt.firm7 rec _ w.heap.size).and (hF.sub fun b hb => .inl hb)) (by rw [hW1s] at hVn;exact hVn) j x y w' hj (by rw [hW1s] at hY;exact hY) hi ⟨⟨hm,_,_,hl⟩,hR⟩ hlt ⟨_,hl,rfl⟩)
     have hagr:Agrees N ({ tmps:=((#[p,p2].zip #[x,y]).foldl (fun tmps (t,a)=>tmps.setIfInBounds t a) a.tmps),defers:=[] }:Act) (put N (put N ρ (some p) x) (some p2) y):=by
      have:=((Agrees.defers ha []).put (some p) x).put (some p2) y
      simpa [Act.put] using this
     refine wpV_mono (den_sound asg _ _ _ _ _ hagr hb) ?_
     intro e a1 w1 hl1
     cases e with
     | panic ch=>obtain ⟨_,_,hf⟩:=hl1;exact hf.elim
     | outgrown=>exact hl1
     | exit id=>obtain ⟨_,_,_,hf⟩:=hl1;exact hf.elim
     | goto l=>obtain ⟨_,_,_,hf⟩:=hl1;exact hf.elim
     | ret=>obtain ⟨_,_,_,hf⟩:=hl1;exact hf.elim
     | normal =>
      obtain ⟨ρ1,ha1,_,hd1,hbz⟩:=hl1
      obtain ⟨⟨r,hr1,hr2⟩,hbz⟩:=hbz
      refine ⟨_,run_beginRound hr1 hr2,?_⟩
      rw [show a1={ a1 with defers:=[] } by rw [← hd1]]
      refine wpV_mono (den_sound body _ _ _ _ _ (Agrees.defers ha1 []) (hbz _ ⟨_,hr1,rfl⟩)) ?_
      have fin:∀ (jump:Option Code) (w2:World),RecAt rec w.heap.size w2→(Instr.endRound (w.heap.size+1) jump).run P w2 = .ok (.bool jump.isNone) (w2.putObj (w.heap.size+1) (.loop { rec with state:=if jump.isNone then .ready else .done,pending:=jump })) ∧
       (w2.putObj (w.heap.size+1) (.loop { rec with state:=if jump.isNone then .ready else .done,pending:=jump })).heap[w.heap.size+1]?=some (.loop { rec with state:=if jump.isNone then .ready else .done,pending:=jump }) ∧
       MarkAt w.heap.size (w2.putObj (w.heap.size+1) (.loop { rec with state:=if jump.isNone then .ready else .done,pending:=jump })):=by
       rintro jump w2 ⟨hm2,st,q,hq⟩
       refine ⟨by have:=run_endRound (P:=P) jump hq;exact this,World.putObj_heap_same (Array.getElem?_eq_some_iff.1 hq).1,?_⟩
       unfold MarkAt
       rw [World.putObj_heap_other (by omega)];exact hm2
      intro e a2 w2 hl2
      cases e with
      | normal =>
       obtain ⟨_,_,_,_,⟨hrec2,hR2⟩,hi2⟩:=hl2
       obtain ⟨f1,f2,f3⟩:=fin none w2 hrec2
       obtain ⟨_,st,q,hq⟩:=hrec2
       exact ⟨_,_,f1,hF _ _ (KR7.turn hq _ _) hR2,.inl ⟨rfl,(hL _).put (.inr (.inr rfl)) hi2 _,⟨hnB,f3⟩,hnB1,f2⟩⟩
      | ret =>
       obtain ⟨_,_,_,_,c,hc,⟨hrec2,hR2⟩,hi2⟩:=hl2
       obtain ⟨f1,f2,f3⟩:=fin (some .ret) w2 hrec2
       obtain ⟨_,st,q,hq⟩:=hrec2
       exact ⟨_,_,f1,hF _ _ (KR7.turn hq _ _) hR2,.inr ⟨rfl,⟨hnB,f3⟩,c,_,(hLx _).put (.inr (.inr rfl)) hi2 _,hc,hnB1,f2⟩⟩
      | exit id =>
       obtain ⟨_,_,_,_,c,hc,⟨hrec2,hR2⟩,hi2⟩:=hl2
       obtain ⟨f1,f2,f3⟩:=fin (some (.exit id)) w2 hrec2
       obtain ⟨_,st,q,hq⟩:=hrec2
       exact ⟨_,_,f1,hF _ _ (KR7.turn hq _ _) hR2,.inr ⟨rfl,⟨hnB,f3⟩,c,_,(hLx _).put (.inr (.inr rfl)) hi2 _,hc,hnB1,f2⟩⟩
      | panic ch =>
       obtain ⟨_,_,hd2,⟨hrec2,hR2⟩,hi2⟩:=hl2
       exact ⟨hd2,hR2,⟨hnB,hrec2.1⟩,hi2⟩
      | goto l=>obtain ⟨_,_,_,hf⟩:=hl2;exact hf.elim
      | outgrown=>exact hl2
   · have hagr:Agrees N ({ a with defers:=[mark w.heap.size]++a.defers }:Act) ρ:=ha
     have exh:∀ (st:LoopState) (q:Option Code) (w':World),w'.heap[w.heap.size+1]?=some (.loop { rec with state:=st,pending:=q })→st ≠ .busy→MarkAt w.heap.size w' →
      (Instr.endLoop (w.heap.size+1)).run P w' = .ok q (w'.putObj (w.heap.size+1) (.loop { rec with state := .exhausted,pending:=q }))∧MarkAt w.heap.size (w'.putObj (w.heap.size+1) (.loop { rec with state := .exhausted,pending:=q })):=by
      intro st q w' hq hne hm
      refine ⟨by have:=run_endLoop (P:=P) hq hne;exact this,?_⟩
      unfold MarkAt
      rw [World.putObj_heap_other (by omega)];exact hm
     rintro e w' he
     cases e with
     | returned v =>
      rcases he with ⟨V,⟨hi,⟨_,hm⟩,_,hl⟩ | ⟨⟨_,hm⟩,c,code,hi,hc,_,hl⟩⟩
      · obtain ⟨e1,e2⟩:=exh _ _ w' hl (by simp) hm
        exact ⟨none,_,e1,hagr,hk _ _ (hend _ _ ((hL _).put (.inr (.inr rfl)) hi _) e2)⟩
      · obtain ⟨e1,e2⟩:=exh _ _ w' hl (by simp) hm
        refine ⟨some code,_,e1,?_⟩
        obtain ⟨code',hc',hden⟩:=hx c _ _ (hjump c _ _ ((hLx _).put (.inr (.inr rfl)) hi _) e2)
        rw [hc] at hc';cases hc'
        rcases hden with ⟨rfl,hq⟩ | ⟨id,rfl,hq⟩
        · exact wpV_ret ⟨hagr,hq⟩
        · exact wpV_exit ⟨hagr,hq⟩
     | panicked ch=>obtain ⟨V,⟨_,hm⟩,hi⟩:=he;exact ⟨hagr,hp _ _ _ (hpan ch _ _ hi hm)⟩
     | outgrown=>exact he.elim
end
end Go.Sw
namespace Go.Proofs.YtcffhmapmaahnaaGreatDoor
open Sw
def n10c1 (t0 t6 t69 t76:Value) (Kr9:World→Prop) (Qr9:List PanicEntry→World→Prop) (Xr9:Nat→World→Prop) (R:RT) (w:World):Prop :=
 pickK t69 (.bool true) t76 fun t77 =>
 condP t77 (
 opU Pg (Instr.storeAt 4 t0 (.bool false)) Qr9 w fun w =>
 Xr9 0 w) (
 opV Pg (Instr.loadAt 3 t6) Qr9 w fun t78 w =>
 opV Pg (binS .add 3 true t78 (.int .i64 1)) Qr9 w fun t79 w =>
 opU Pg (Instr.storeAt 3 t6 t79) Qr9 w fun w =>
 Kr9 w)
def n10c2 (t0 t5 t6 t64:Value) (Kr9:World→Prop) (Qr9:List PanicEntry→World→Prop) (Xr9:Nat→World→Prop) (R:RT) (w:World):Prop :=
 opV Pg (Instr.loadAt 3 t6) Qr9 w fun t66 w =>
 opV Pg (Instr.loadAt 65 t5) Qr9 w fun t67 w =>
 opV Pg (Builtin.len_ #[65] 3 #[t67]) Qr9 w fun t68 w =>
 opV Pg (binS .geq 3 false t66 t68) Qr9 w fun t69 w =>
 joinK (fun (t76:Value) (w:World) =>
 n10c1 t0 t6 t69 t76 Kr9 Qr9 Xr9 R w) fun K10 =>
 guardP t69 false (
 opV Pg (Instr.loadAt 65 t5) Qr9 w fun t72 w =>
 opV Pg (Instr.loadAt 3 t6) Qr9 w fun t73 w =>
 opV Pg (Instr.indexAt 65 t72 t73) Qr9 w fun t74 w =>
 opV Pg (Instr.loadAt 9 t74) Qr9 w fun t75 w =>
 opV Pg (binS .neq 9 false t64 t75) Qr9 w fun t76 w =>
 K10 t76 w) (
 K10 undef w)
def n10c3 (t0 t99 t101:Value) (ds:List Deferred) (R:RT) (w:World):Prop :=
 pickK t99 t101 (.bool false) fun t102 =>
 joinK (fun (t104:Value) (w:World) =>
 pickK t102 t104 (.bool false) fun t105 =>
 opU Pg (Instr.storeAt 4 t0 t105) (outQ Pg ds [(some 4,t0)] R) w fun w =>
 outX Pg ds [(some 4,t0)] R w) fun K17 =>
 guardP t102 true (
 callK Pg 36 #[(.string { data := #[97,40,98,32,32,99,41] })] (outQ Pg ds [(some 4,t0)] R) w fun t104 w =>
 K17 t104 w) (
 K17 undef w)
def n10c4 (t0 t96 t98:Value) (ds:List Deferred) (R:RT) (w:World):Prop :=
 pickK t96 t98 (.bool false) fun t99 =>
 joinK (fun (t101:Value) (w:World) =>
 n10c3 t0 t99 t101 ds R w) fun K16 =>
 guardP t99 true (
 callK Pg 36 #[(.string { data := #[97,35,48,65] })] (outQ Pg ds [(some 4,t0)] R) w fun t101 w =>
 K16 t101 w) (
 K16 undef w)
def n10c5 (t0 t93 t95:Value) (ds:List Deferred) (R:RT) (w:World):Prop :=
 pickK t93 t95 (.bool false) fun t96 =>
 joinK (fun (t98:Value) (w:World) =>
 n10c4 t0 t96 t98 ds R w) fun K15 =>
 guardP t96 true (
 callK Pg 36 #[(.string { data := #[97,61,48] })] (outQ Pg ds [(some 4,t0)] R) w fun t98 w =>
 K15 t98 w) (
 K15 undef w)
def n10c6 (t0 t90 t92:Value) (ds:List Deferred) (R:RT) (w:World):Prop :=
 pickK t90 t92 (.bool false) fun t93 =>
 joinK (fun (t95:Value) (w:World) =>
 n10c5 t0 t93 t95 ds R w) fun K14 =>
 guardP t93 true (
 callK Pg 35 #[(.string { data := #[97,40,98,41] }),(.string { data := #[97,40,98,32,98,41] })] (outQ Pg ds [(some 4,t0)] R) w fun t95 w =>
 K14 t95 w) (
 K14 undef w)
def n10c7 (t0 t87 t89:Value) (ds:List Deferred) (R:RT) (w:World):Prop :=
 pickK t87 t89 (.bool false) fun t90 =>
 joinK (fun (t92:Value) (w:World) =>
 n10c6 t0 t90 t92 ds R w) fun K13 =>
 guardP t90 true (
 callK Pg 35 #[(.string { data := #[97,35,48,48] }),(.string { data := #[97,61,49] })] (outQ Pg ds [(some 4,t0)] R) w fun t92 w =>
 K13 t92 w) (
 K13 undef w)
def n10c8 (t0 t83 t86:Value) (ds:List Deferred) (R:RT) (w:World):Prop :=
 pickK t83 t86 (.bool false) fun t87 =>
 joinK (fun (t89:Value) (w:World) =>
 n10c7 t0 t87 t89 ds R w) fun K12 =>
 guardP t87 true (
 callK Pg 35 #[(.string { data := #[97] }),(.string { data := #[97,61,49] })] (outQ Pg ds [(some 4,t0)] R) w fun t89 w =>
 K12 t89 w) (
 K12 undef w)
def n10c9 (t0 t85:Value) (K11:KV) (ds:List Deferred) (R:RT) (w:World):Prop :=
 opV Pg (binS .eql 9 true t85 (.string { data := #[109,40,97,61,53,32,108,40,121,32,120,41,32,104,91,52,49,58,54,50,54,51,93,41] })) (outQ Pg ds [(some 4,t0)] R) w fun t86 w =>
 K11 t86 w
def n10c10 (t0 t5 t6:Value) (ds:List Deferred) (R:RT) (w:World):Prop :=
 opV Pg (Instr.loadAt 3 t6) (outQ Pg ds [(some 4,t0)] R) w fun t80 w =>
 opV Pg (Instr.loadAt 65 t5) (outQ Pg ds [(some 4,t0)] R) w fun t81 w =>
 opV Pg (Builtin.len_ #[65] 3 #[t81]) (outQ Pg ds [(some 4,t0)] R) w fun t82 w =>
 opV Pg (binS .eql 3 false t80 t82) (outQ Pg ds [(some 4,t0)] R) w fun t83 w =>
 joinK (fun (t86:Value) (w:World) =>
 n10c8 t0 t83 t86 ds R w) fun K11 =>
 guardP t83 true (
 callK Pg 34 #[(.string { data := #[109,40,97,61,53,32,108,40,120,35,48,97,32,120,41,32,104,91,52,49,58,54,50,54,51,93,41] }),(.string { data := #[108,46,120] }),(.string { data := #[121] })] (outQ Pg ds [(some 4,t0)] R) w fun t85 w =>
 n10c9 t0 t85 K11 ds R w) (
 K11 undef w)
def n10c11 (t0 t5 t6 t60:Value) (ds:List Deferred) (R:RT) (w:World):Prop :=
 Sw.rangeN7 Pg t60 ds (fun l9 t64 t65 w Kr9 Xr9 Qr9 =>
 busyK l9 w fun w =>
 n10c2 t0 t5 t6 t64 Kr9 Qr9 Xr9 R w) (fun ch ds w=>outQ Pg ds [(some 4,t0)] R ch w) w (fun ds w =>
 n10c10 t0 t5 t6 ds R w) [fun ds w =>
 outX Pg ds [(some 4,t0)] R w]
def n10c12 (t0 t5 t6 t60:Value) (ds:List Deferred) (R:RT) (w:World):Prop :=
 opV Pg (binS .eql 43 true t60 .nilFunc) (outQ Pg ds [(some 4,t0)] R) w fun t62 w =>
 condP t62 (
 opU Pg (Instr.storeAt 4 t0 (.bool false)) (outQ Pg ds [(some 4,t0)] R) w fun w =>
 outX Pg ds [(some 4,t0)] R w) (
 n10c11 t0 t5 t6 t60 ds R w)
def n10c13 (t0 t1:Value) (ds:List Deferred) (R:RT) (w:World):Prop :=
 opV Pg (Instr.buildSlice 65 6 #[(0,(.string { data := #[] })),(1,(.string { data := #[97] })),(2,(.string { data := #[108] })),(3,(.string { data := #[108,46,120] })),(4,(.string { data := #[108,46,120,58,49] })),(5,(.string { data := #[104] }))]) (outQ Pg ds [(some 4,t0)] R) w fun t58 w =>
 opV Pg (Instr.alloc 65 true (.tuple #[])) (outQ Pg ds [(some 4,t0)] R) w fun t5 w =>
 opU Pg (Instr.storeAt 65 t5 t58) (outQ Pg ds [(some 4,t0)] R) w fun w =>
 opV Pg (Instr.alloc 3 true (.tuple #[])) (outQ Pg ds [(some 4,t0)] R) w fun t6 w =>
 opU Pg (Instr.storeAt 3 t6 (.int .i64 0)) (outQ Pg ds [(some 4,t0)] R) w fun w =>
 opV Pg (Instr.loadAt 26 t1) (outQ Pg ds [(some 4,t0)] R) w fun t59 w =>
 callK Pg 22 #[t59] (outQ Pg ds [(some 4,t0)] R) w fun t60 w =>
 n10c12 t0 t5 t6 t60 ds R w
def n10c14 (t0 t1 t52 t56:Value) (ds:List Deferred) (R:RT) (w:World):Prop :=
 pickK t52 (.bool true) t56 fun t57 =>
 condP t57 (
 opU Pg (Instr.storeAt 4 t0 (.bool false)) (outQ Pg ds [(some 4,t0)] R) w fun w =>
 outX Pg ds [(some 4,t0)] R w) (
 n10c13 t0 t1 ds R w)
def n10c15 (t0 t1 t47 t51:Value) (ds:List Deferred) (R:RT) (w:World):Prop :=
 pickK t47 (.bool true) t51 fun t52 =>
 joinK (fun (t56:Value) (w:World) =>
 n10c14 t0 t1 t52 t56 ds R w) fun K8 =>
 guardP t52 false (
 opV Pg (Instr.loadAt 26 t1) (outQ Pg ds [(some 4,t0)] R) w fun t54 w =>
 callK Pg 33 #[t54,(.string { data := #[108,46,120,58,48] }),(.string { data := #[] }),(.int .i64 6)] (outQ Pg ds [(some 4,t0)] R) w fun t55 w =>
 opV Pg (Op.unary .not t55) (outQ Pg ds [(some 4,t0)] R) w fun t56 w =>
 K8 t56 w) (
 K8 undef w)
def n10c16 (t0 t1 t42 t46:Value) (ds:List Deferred) (R:RT) (w:World):Prop :=
 pickK t42 (.bool true) t46 fun t47 =>
 joinK (fun (t51:Value) (w:World) =>
 n10c15 t0 t1 t47 t51 ds R w) fun K7 =>
 guardP t47 false (
 opV Pg (Instr.loadAt 26 t1) (outQ Pg ds [(some 4,t0)] R) w fun t49 w =>
 callK Pg 33 #[t49,(.string { data := #[108,46,46,120] }),(.string { data := #[] }),(.int .i64 6)] (outQ Pg ds [(some 4,t0)] R) w fun t50 w =>
 opV Pg (Op.unary .not t50) (outQ Pg ds [(some 4,t0)] R) w fun t51 w =>
 K7 t51 w) (
 K7 undef w)
def n10c17 (t0 t1 t37 t41:Value) (ds:List Deferred) (R:RT) (w:World):Prop :=
 pickK t37 (.bool true) t41 fun t42 =>
 joinK (fun (t46:Value) (w:World) =>
 n10c16 t0 t1 t42 t46 ds R w) fun K6 =>
 guardP t42 false (
 opV Pg (Instr.loadAt 26 t1) (outQ Pg ds [(some 4,t0)] R) w fun t44 w =>
 callK Pg 33 #[t44,(.string { data := #[108,46,120,58,50] }),(.string { data := #[] }),(.int .i64 9)] (outQ Pg ds [(some 4,t0)] R) w fun t45 w =>
 opV Pg (Op.unary .not t45) (outQ Pg ds [(some 4,t0)] R) w fun t46 w =>
 K6 t46 w) (
 K6 undef w)
def n10c18 (t0 t1 t32 t36:Value) (ds:List Deferred) (R:RT) (w:World):Prop :=
 pickK t32 (.bool true) t36 fun t37 =>
 joinK (fun (t41:Value) (w:World) =>
 n10c17 t0 t1 t37 t41 ds R w) fun K5 =>
 guardP t37 false (
 opV Pg (Instr.loadAt 26 t1) (outQ Pg ds [(some 4,t0)] R) w fun t39 w =>
 callK Pg 33 #[t39,(.string { data := #[97] }),(.string { data := #[97,61,53] }),(.int .i64 0)] (outQ Pg ds [(some 4,t0)] R) w fun t40 w =>
 opV Pg (Op.unary .not t40) (outQ Pg ds [(some 4,t0)] R) w fun t41 w =>
 K5 t41 w) (
 K5 undef w)
def n10c19 (t0 t1 t27 t31:Value) (ds:List Deferred) (R:RT) (w:World):Prop :=
 pickK t27 (.bool true) t31 fun t32 =>
 joinK (fun (t36:Value) (w:World) =>
 n10c18 t0 t1 t32 t36 ds R w) fun K4 =>
 guardP t32 false (
 opV Pg (Instr.loadAt 26 t1) (outQ Pg ds [(some 4,t0)] R) w fun t34 w =>
 callK Pg 33 #[t34,(.string { data := #[108,46,120,58,49] }),(.string { data := #[120] }),(.int .i64 0)] (outQ Pg ds [(some 4,t0)] R) w fun t35 w =>
 opV Pg (Op.unary .not t35) (outQ Pg ds [(some 4,t0)] R) w fun t36 w =>
 K4 t36 w) (
 K4 undef w)
def n10c20 (t0 t1 t23 t26:Value) (ds:List Deferred) (R:RT) (w:World):Prop :=
 pickK t23 (.bool true) t26 fun t27 =>
 joinK (fun (t31:Value) (w:World) =>
 n10c19 t0 t1 t27 t31 ds R w) fun K3 =>
 guardP t27 false (
 opV Pg (Instr.loadAt 26 t1) (outQ Pg ds [(some 4,t0)] R) w fun t29 w =>
 callK Pg 28 #[t29] (outQ Pg ds [(some 4,t0)] R) w fun t30 w =>
 opV Pg (binS .neq 3 true t30 (.int .i64 6)) (outQ Pg ds [(some 4,t0)] R) w fun t31 w =>
 K3 t31 w) (
 K3 undef w)
def n10c21 (t0 t1 t16 t19 t22:Value) (ds:List Deferred) (R:RT) (w:World):Prop :=
 pickK t19 (.bool true) t22 fun t23 =>
 joinK (fun (t26:Value) (w:World) =>
 n10c20 t0 t1 t23 t26 ds R w) fun K2 =>
 guardP t23 false (
 opV Pg (binS .neq 9 true t16 (.string { data := #[109,40,97,61,53,32,108,40,120,35,48,97,32,120,41,32,104,91,52,49,58,54,50,54,51,93,41] })) (outQ Pg ds [(some 4,t0)] R) w fun t26 w =>
 K2 t26 w) (
 K2 undef w)
def n10c22 (t0 t1 t12 t15:Value) (ds:List Deferred) (R:RT) (w:World):Prop :=
 opV Pg (Instr.extract t15 0) (outQ Pg ds [(some 4,t0)] R) w fun t16 w =>
 opV Pg (Instr.extract t15 1) (outQ Pg ds [(some 4,t0)] R) w fun t17 w =>
 opV Pg (binS .neq 33 true t12 (.int .i64 0)) (outQ Pg ds [(some 4,t0)] R) w fun t19 w =>
 joinK (fun (t22:Value) (w:World) =>
 n10c21 t0 t1 t16 t19 t22 ds R w) fun K1 =>
 guardP t19 false (
 opV Pg (binS .neq 33 true t17 (.int .i64 0)) (outQ Pg ds [(some 4,t0)] R) w fun t22 w =>
 K1 t22 w) (
 K1 undef w)
def n10c23 (t0 t10:Value) (ds:List Deferred) (R:RT) (w:World):Prop :=
 opV Pg (Instr.extract t10 0) (outQ Pg ds [(some 4,t0)] R) w fun t11 w =>
 opV Pg (Instr.extract t10 1) (outQ Pg ds [(some 4,t0)] R) w fun t12 w =>
 opV Pg (Instr.alloc 26 true (.tuple #[])) (outQ Pg ds [(some 4,t0)] R) w fun t1 w =>
 opU Pg (Instr.storeAt 26 t1 t11) (outQ Pg ds [(some 4,t0)] R) w fun w =>
 opV Pg (Instr.loadAt 26 t1) (outQ Pg ds [(some 4,t0)] R) w fun t14 w =>
 callK Pg 26 #[t14] (outQ Pg ds [(some 4,t0)] R) w fun t15 w =>
 n10c22 t0 t1 t12 t15 ds R w
def n10 (R:RT) (w:World):Prop :=
 (fun (ds:List Deferred) =>
 opV Pg (Instr.alloc 4 true (.tuple #[])) (outQ Pg ds [(some 4,undef)] R) w fun t0 w =>
 callK Pg 18 #[(.string { data := #[109,40,97,61,53,32,108,40,120,35,48,97,32,120,41,32,104,91,52,49,58,54,50,54,51,93,41] })] (outQ Pg ds [(some 4,t0)] R) w fun t10 w =>
 n10c23 t0 t10 ds R w) []
set_option maxHeartbeats 40000000 in
theorem n10s {R:RT} {w:World} (h:n10 R w):Calls Pg 11 #[] w R:=by
 refine yE Tryz.func11 ?_
 unfold n10 at h
 dsimp only at h
 refine zs<|zr<|yv h fun _ w h=>zn<|zk<|zs<|zr<|yc h c18 fun _ w h=>zm<|yv h fun _ w h=>yv h fun _ w h=>yv h fun _ w h=>yu h fun w h=>zm<|zn ?_
 refine zk<|zs<|zr<|yv h fun _ w h=>yc h c26 fun _ w h=>zm<|yv h fun _ w h=>yv h fun _ w h=>zm<|zm<|zn<|zk<|zs<|zs<|sim_regionG ?_
 refine yG 3<|zm<|yb h fun _ w h=>zm<|zn<|yg1 2 2 false [21,22] 22 h (fun _ T hT h=>?_) fun σ w h=>?_
 · refine zm<|yb h fun _ w h=>zn ?_
   exact zt hT h
 refine yG 2<|yp h fun _ h=>zm<|zn<|yg1 2 6 false [25,26] 26 h (fun _ T hT h=>?_) fun σ w h=>?_
 · refine zm<|yb h fun _ w h=>zn ?_
   exact zt hT h
 refine yG 2<|yp h fun _ h=>zm<|zn<|yg1 3 10 false [29,30,31] 31 h (fun _ T hT h=>?_) fun σ w h=>?_
 · refine yv h fun _ w h=>yc h c28 fun _ w h=>yb h fun _ w h=>zn ?_
   exact zt hT h
 refine yG 2<|yp h fun _ h=>zm<|zn<|yg1 3 15 false [34,35,36] 36 h (fun _ T hT h=>?_) fun σ w h=>?_
 · refine yv h fun _ w h=>yc h c33 fun _ w h=>yv h fun _ w h=>zn ?_
   exact zt hT h
 refine yG 2<|yp h fun _ h=>zm<|zn<|yg1 3 20 false [39,40,41] 41 h (fun _ T hT h=>?_) fun σ w h=>?_
 · refine yv h fun _ w h=>yc h c33 fun _ w h=>yv h fun _ w h=>zn ?_
   exact zt hT h
 refine yG 2<|yp h fun _ h=>zm<|zn<|yg1 3 25 false [44,45,46] 46 h (fun _ T hT h=>?_) fun σ w h=>?_
 · refine yv h fun _ w h=>yc h c33 fun _ w h=>yv h fun _ w h=>zn ?_
   exact zt hT h
 refine yG 2<|yp h fun _ h=>zm<|zn<|yg1 3 30 false [49,50,51] 51 h (fun _ T hT h=>?_) fun σ w h=>?_
 · refine yv h fun _ w h=>yc h c33 fun _ w h=>yv h fun _ w h=>zn ?_
   exact zt hT h
 refine yG 2<|yp h fun _ h=>zm<|zn<|yg1 3 35 false [54,55,56] 56 h (fun _ T hT h=>?_) fun σ w h=>?_
 · refine yv h fun _ w h=>yc h c33 fun _ w h=>yv h fun _ w h=>zn ?_
   exact zt hT h
 refine yG 1<|yp h fun _ h=>zn<|sim_end<|zk<|yC h (fun h=>zs<|zr<|yu h fun w h=>zn<|zk<|sim_ret<|sim_then_ret<|bodyM_ret rfl h) fun h=>sim_skip<|zk<|zs<|zr<|yS h fun _ w h=>yv h fun _ w h=>yu h fun w h=>zn ?_
 refine zk<|zs<|zr<|yv h fun _ w h=>yu h fun w h=>zn<|zk<|zs<|zr<|yv h fun _ w h=>yc h c22 fun _ w h=>zm<|zn<|zk<|zs ?_
 refine zs<|zr<|zm<|yb h fun _ w h=>zn<|zk<|yC h (fun h=>zs<|zr<|yu h fun w h=>zn<|zk<|sim_ret<|sim_then_ret<|bodyM_ret rfl h) fun h=>sim_skip<|zk<|zs<|zs<|zr<|zm<|zn ?_
 refine zk<|sim_block<|sim_range7 [.ret] h rfl (fun l9 t64 t65 w Kr9 Xr9 Qr9 h=>?_) (fun ds w h=>?_) (fun c ds w h=>?_) (fun ch ds w h=>outQ_of rfl h)
 · refine zr<|zm<|zn<|zk ?_
   obtain ⟨hr,h⟩:=h
   refine ⟨rfl,hr,fun w hb=>?_⟩
   have h:=h w hb
   refine sim_block<|zs<|zs<|sim_regionG<|yG 5<|yv h fun _ w h=>yv h fun _ w h=>yx h fun _ w h=>yb h fun _ w h=>zm<|zn<|yg1 6 4 false [71,72,73,74,75,76] 76 h (fun _ T hT h=>?_) fun σ w h=>?_
   · refine zm<|yv h fun _ w h=>yv h fun _ w h=>yv h fun _ w h=>yv h fun _ w h=>yb h fun _ w h=>zn ?_
     exact zt hT h
   refine yG 1<|yp h fun _ h=>zn<|sim_end<|zk<|yC h (fun h=>zs<|zr<|yu h fun w h=>zn<|zk<|sim_ret<|sim_then_ret<|sim_block_ret<|⟨rfl,0,rfl,h⟩) fun h=>sim_skip<|zk<|zr<|yv h fun _ w h=>yb h fun _ w h=>yu h fun w h=>zn<|sim_block_normal ?_
   exact ⟨rfl,h⟩
 · refine sim_block_normal<|zk<|zs<|sim_regionG<|yG 5<|yv h fun _ w h=>yv h fun _ w h=>yx h fun _ w h=>yb h fun _ w h=>zm<|zn<|yg1 2 4 true [85,86] 86 h (fun _ T hT h=>?_) fun σ w h=>?_
   · refine yc h c34 fun _ w h=>yb h fun _ w h=>zn ?_
     exact zt hT h
   refine yG 2<|yp h fun _ h=>zm<|zn<|yg1 1 8 true [89] 89 h (fun _ T hT h=>?_) fun σ w h=>?_
   · refine yc h c35 fun _ w h=>zn ?_
     exact zt hT h
   refine yG 2<|yp h fun _ h=>zm<|zn<|yg1 1 11 true [92] 92 h (fun _ T hT h=>?_) fun σ w h=>?_
   · refine yc h c35 fun _ w h=>zn ?_
     exact zt hT h
   refine yG 2<|yp h fun _ h=>zm<|zn<|yg1 1 14 true [95] 95 h (fun _ T hT h=>?_) fun σ w h=>?_
   · refine yc h c35 fun _ w h=>zn ?_
     exact zt hT h
   refine yG 2<|yp h fun _ h=>zm<|zn<|yg1 1 17 true [98] 98 h (fun _ T hT h=>?_) fun σ w h=>?_
   · refine yc h c36 fun _ w h=>zn ?_
     exact zt hT h
   refine yG 2<|yp h fun _ h=>zm<|zn<|yg1 1 20 true [101] 101 h (fun _ T hT h=>?_) fun σ w h=>?_
   · refine yc h c36 fun _ w h=>zn ?_
     exact zt hT h
   refine yG 2<|yp h fun _ h=>zm<|zn<|yg1 1 23 true [104] 104 h (fun _ T hT h=>?_) fun σ w h=>?_
   · refine yc h c36 fun _ w h=>zn ?_
     exact zt hT h
   exact yG 2<|yp h fun _ h=>yu h fun w h=>zn<|sim_end<|zk<|sim_ret<|bodyM_ret rfl h
 rcases c with _ | c
 · refine ⟨_,rfl,.inl ⟨rfl,?_⟩⟩
   exact sim_block_ret<|sim_then_ret<|bodyM_ret rfl h
 exact h.elim
def n54 (t0 t1:Value) (R:RT) (w:World):Prop :=
 opV Pg (Instr.box 26 t0) (panK R) w fun t2 w =>
 opV Pg (Instr.box 26 t1) (panK R) w fun t3 w =>
 opV Pg (Instr.loadAt 26 t2) (panK R) w fun t5 w =>
 opV Pg (Instr.loadAt 26 t3) (panK R) w fun t6 w =>
 callK Pg 14 #[t5,t6] (panK R) w fun t7 w =>
 opV Pg (binS .eql 3 true t7 (.int .i64 0)) (panK R) w fun t8 w =>
 R (.returned t8) w
theorem n54s {t0 t1:Value} {R:RT} {w:World} (h:n54 t0 t1 R w):Calls Pg 12 #[t0,t1] w R:=by
 refine yD Tryz.func12 ?_
 refine zs<|zr<|yv h fun _ w h=>yv h fun _ w h=>zm<|zn<|zk<|zs<|zr<|yv h fun _ w h=>yv h fun _ w h=>yc h c14 fun _ w h=>yb h fun _ w h=>zm<|zn ?_
 exact zk<|sim_ret<|body_ret1 rfl rfl h
def n20 (t0 t1:Value) (R:RT) (w:World):Prop :=
 opV Pg (Instr.box 26 t0) (panK R) w fun t2 w =>
 opV Pg (Instr.box 26 t1) (panK R) w fun t3 w =>
 opV Pg (Instr.loadAt 26 t2) (panK R) w fun t5 w =>
 opV Pg (Instr.loadAt 26 t3) (panK R) w fun t6 w =>
 callK Pg 15 #[t5,t6] (panK R) w fun t7 w =>
 opV Pg (binS .eql 3 true t7 (.int .i64 0)) (panK R) w fun t8 w =>
 R (.returned t8) w
theorem n20s {t0 t1:Value} {R:RT} {w:World} (h:n20 t0 t1 R w):Calls Pg 13 #[t0,t1] w R:=by
 refine yD Tryz.func13 ?_
 refine zs<|zr<|yv h fun _ w h=>yv h fun _ w h=>zm<|zn<|zk<|zs<|zr<|yv h fun _ w h=>yv h fun _ w h=>yc h c15 fun _ w h=>yb h fun _ w h=>zm<|zn ?_
 exact zk<|sim_ret<|body_ret1 rfl rfl h
def n52c1 (t2 t3:Value) (R:RT) (w:World):Prop :=
 opV Pg (Instr.fieldAt 26 t2 4) (panK R) w fun t31 w =>
 opV Pg (Instr.loadAt 24 t31) (panK R) w fun t32 w =>
 opV Pg (Instr.fieldAt 26 t3 4) (panK R) w fun t33 w =>
 opV Pg (Instr.loadAt 24 t33) (panK R) w fun t34 w =>
 callK Pg 43 #[t32,t34,(.func (.func 14) #[] #[])] (panK R) w fun t35 w =>
 R (.returned t35) w
def n52c2 (t2 t3 t26:Value) (C1:World→Prop) (R:RT) (w:World):Prop :=
 callK Pg 37 #[t26] (panK R) w fun t27 w =>
 C1 w∧(
 opV Pg (binS .neq 3 true t27 (.int .i64 0)) (panK R) w fun t29 w =>
 condP t29 (
 R (.returned t27) w) (
 n52c1 t2 t3 R w))
def n52c3 (t2 t3 t10 t15 t20 t22 t24:Value) (C1:World→Prop) (R:RT) (w:World):Prop :=
 callK Pg 41 #[t22,t24,(.func (.func 42) #[] #[])] (panK R) w fun t25 w =>
 C1 w∧(
 opV Pg (Instr.buildSlice 107 4 #[(0,t10),(1,t15),(2,t20),(3,t25)]) (panK R) w fun t26 w =>
 C1 w∧(
 n52c2 t2 t3 t26 C1 R w))
def n52c4 (t2 t3 t10 t12 t14 t17 t19 t22 t24:Value) (C1:World→Prop) (R:RT) (w:World):Prop :=
 C1 w∧(
 callK Pg 39 #[t12,t14] (panK R) w fun t15 w =>
 C1 w∧(
 callK Pg 40 #[t17,t19] (panK R) w fun t20 w =>
 C1 w∧(
 n52c3 t2 t3 t10 t15 t20 t22 t24 C1 R w)))
def n52c5 (t2 t3:Value) (C1:World→Prop) (R:RT) (w:World):Prop :=
 qV Pg C1 (Instr.fieldAt 26 t2 0) fun t6 =>
 qV Pg C1 (Instr.loadAt 9 t6) fun t7 =>
 qV Pg C1 (Instr.fieldAt 26 t3 0) fun t8 =>
 qV Pg C1 (Instr.loadAt 9 t8) fun t9 =>
 qV Pg C1 (Instr.fieldAt 26 t2 1) fun t11 =>
 qV Pg C1 (Instr.loadAt 3 t11) fun t12 =>
 qV Pg C1 (Instr.fieldAt 26 t3 1) fun t13 =>
 qV Pg C1 (Instr.loadAt 3 t13) fun t14 =>
 qV Pg C1 (Instr.fieldAt 26 t2 2) fun t16 =>
 qV Pg C1 (Instr.loadAt 22 t16) fun t17 =>
 qV Pg C1 (Instr.fieldAt 26 t3 2) fun t18 =>
 qV Pg C1 (Instr.loadAt 22 t18) fun t19 =>
 qV Pg C1 (Instr.fieldAt 26 t2 3) fun t21 =>
 qV Pg C1 (Instr.loadAt 23 t21) fun t22 =>
 qV Pg C1 (Instr.fieldAt 26 t3 3) fun t23 =>
 qV Pg C1 (Instr.loadAt 23 t23) fun t24 =>
 callK Pg 38 #[t7,t9] (panK R) w fun t10 w =>
 n52c4 t2 t3 t10 t12 t14 t17 t19 t22 t24 C1 R w
def n52 (t0 t1:Value) (R:RT) (w:World):Prop :=
 opV Pg (Instr.box 26 t0) (panK R) w fun t2 w =>
 opV Pg (Instr.box 26 t1) (panK R) w fun t3 w =>
 drawK w fun C1 w =>
 n52c5 t2 t3 C1 R w
theorem n52s {t0 t1:Value} {R:RT} {w:World} (h:n52 t0 t1 R w):Calls Pg 14 #[t0,t1] w R:=by
 refine yD Tryz.func14 ?_
 refine zs<|zr<|yv h fun _ w h=>yv h fun _ w h=>zm<|zn<|zk<|zs<|yh [5,6,7,8,9,10,11,12,13,14,15,16,17,18,19,20,21,22,23,24,25,26,27] h fun C hC h=>ye 0 hC h fun _ h=>?_
 refine ye 1 hC h fun _ h=>?_
 refine ye 2 hC h fun _ h=>?_
 refine ye 3 hC h fun _ h=>?_
 refine ye 5 hC h fun _ h=>?_
 refine ye 6 hC h fun _ h=>?_
 refine ye 7 hC h fun _ h=>?_
 refine ye 8 hC h fun _ h=>?_
 refine ye 10 hC h fun _ h=>?_
 refine ye 11 hC h fun _ h=>?_
 refine ye 12 hC h fun _ h=>?_
 refine ye 13 hC h fun _ h=>?_
 refine ye 15 hC h fun _ h=>?_
 refine ye 16 hC h fun _ h=>?_
 refine ye 17 hC h fun _ h=>?_
 refine ye 18 hC h fun _ h=>?_
 refine yo 4 ?_
 refine yc h c38 fun _ w h=>zn ?_
 obtain ⟨hC,h⟩:=h
 refine ⟨hC,?_⟩
 refine yo 9 ?_
 refine yc h c39 fun _ w h=>zn ?_
 obtain ⟨hC,h⟩:=h
 refine ⟨hC,?_⟩
 refine yo 14 ?_
 refine yc h c40 fun _ w h=>zn ?_
 obtain ⟨hC,h⟩:=h
 refine ⟨hC,?_⟩
 refine yo 19 ?_
 refine yc h c41 fun _ w h=>zn ?_
 obtain ⟨hC,h⟩:=h
 refine ⟨hC,?_⟩
 refine yo 20 ?_
 refine yS h fun _ w h=>zn ?_
 obtain ⟨hC,h⟩:=h
 refine ⟨hC,?_⟩
 refine yo 21 ?_
 refine yc h c37 fun _ w h=>zn ?_
 obtain ⟨hC,h⟩:=h
 refine ⟨hC,?_⟩
 refine yw 22 hC ?_
 refine yz<|zk<|zs<|zs<|zr<|zm<|yb h fun _ w h=>zn<|zk<|yC h (fun h=>zs<|zr<|zm<|zm<|zn<|zk<|sim_ret<|sim_then_ret<|body_ret1 rfl rfl h) fun h=>sim_skip<|zk<|zs<|zr ?_
 exact yv h fun _ w h=>yv h fun _ w h=>yv h fun _ w h=>yv h fun _ w h=>yc h c43 fun _ w h=>zm<|zn<|zk<|sim_ret<|body_ret1 rfl rfl h
open Go.RowKit (intOf Below)
def listsC {α β:Type} (f:α→β→Int):List α→List β→Int
 | a::l,b::m=>if f a b=0 then listsC f l m else f a b
 | [],[]=>0
 | [],_::_ => -1
 | _::_,[]=>1
theorem listsC_end {α β:Type} (f:α→β→Int) {a:List α} {b:List β} (h:a=[]∨b=[]):listsC f a b=Go.Lib.compareInt a.length b.length:=by
 unfold Go.Lib.compareInt
 cases a with
 | nil =>
  cases b with
  | nil=>simp [listsC]
  | cons y b=>simp [listsC]
 | cons x a =>
  rcases h with h | rfl
  · cases h
  · simp [listsC];omega
theorem listsC_map {α β γ:Type} (f:α→β→Int) (g:γ→α):∀ (a:List γ) (b:List β),listsC f (a.map g) b=listsC (fun x y=>f (g x) y) a b
 | [],[]=>rfl
 | [],_::_=>rfl
 | _::_,[]=>rfl
 | x::a,y::b=>by simp only [List.map_cons,listsC,listsC_map f g a b]
def cmpS (a b:ByteArray):Int:=Go.Lib.compareBytes a.data.toList b.data.toList
def cmpH (a b:ByteArray×ByteArray):Int:=orI [cmpS a.1 b.1,cmpS a.2 b.2]
def cmpN (a b:Nd):Int:=orI [cmpS a.name b.name,Go.Lib.compareInt a.int b.int,Go.Lib.compareBytes a.bytes b.bytes,listsC cmpH a.hdrs b.hdrs]
noncomputable def cmpT:Tr→Tr→Int:=Tr.fold fun n _ rs b=>if cmpN n b.nd=0 then listsC (fun (g:Tr→Int) y=>g y) rs b.ps else cmpN n b.nd
theorem cmpT_mk (n:Nd) (ps:List Tr) (b:Tr):cmpT (.mk n ps) b=if cmpN n b.nd=0 then listsC cmpT ps b.ps else cmpN n b.nd:=by
 unfold cmpT
 rw [Tr.fold_mk,listsC_map]
theorem headers_ret (w0:World) (a b:ByteArray×ByteArray):Ret Pg 42 #[hdrVal a,hdrVal b] w0 fun r w'=>r = .int .i64 (cmpH a b)∧Ext w0 w':=by
 unfold hdrVal
 refine n69s (R:=retR _) ?_;unfold n69
 rw [op_boxA]
 have h0:=heap_new w0 #[.string a.1,.string a.2] 74
 have e0:Ext w0 (w0.alloc (.cells #[.string a.1,.string a.2] 74)):=ee
 generalize (w0.alloc (.cells #[.string a.1,.string a.2] 74))=X at h0 e0 ⊢
 generalize w0.heap.size=p1 at h0 ⊢
 rw [op_boxA]
 have h1:=heap_new X #[.string b.1,.string b.2] 74
 have e1:Ext X (X.alloc (.cells #[.string b.1,.string b.2] 74)):=ee
 generalize (X.alloc (.cells #[.string b.1,.string b.2] 74))=W at h1 e1 ⊢
 generalize X.heap.size=p2 at h1 ⊢
 have h0:=e1.obj h0
 have E1:=e0.trans e1
 refine drawK_intro ?_
 have eD:Ext W W.drew:=(Ext.refl W).drew
 have h0:=eD.obj h0
 have h1:=eD.obj h1
 have E2:=E1.trans eD
 change n69c2 _ _ (EC W.drew) _ W.drew
 generalize W.drew=D at *
 unfold n69c2
 simp (disch:=try exact DI) only [↓PR,QR,simprocAttr,(cells_of_heap h0).1,(cells_of_heap h1).1]
 refine zcr (strCompare_ret D a.1 b.1) fun w1 f1=>?_
 refine ⟨f1,?_⟩
 unfold n69c1
 refine zcr (strCompare_ret w1 a.2 b.2) fun w2 f2=>?_
 have f12:=f1.trans f2
 refine ⟨f12,?_⟩
 simp (disch:=try exact DI) only [↓PR,QR,simprocAttr]
 refine ⟨ee,callK_ret (Or_ret _ _ [cmpS a.1 b.1,cmpS a.2 b.2] (SliceOf.new1 (fun n => .int .i64 n) (fun _ _=>rfl) w2 [cmpS a.1 b.1,cmpS a.2 b.2] 3 (show (2:Nat)≤_ by decide))) ?_⟩
 rintro _ w3 ⟨rfl,f3⟩
 have f4:Ext D w3:=(f12.alloc _).trans f3
 exact ⟨f4,_,rfl,rfl,E2.trans f4⟩
theorem lists_step {α β:Type} (f:α→β→Int) {a:List α} {b:List β} {k:Nat} {x:α} {y:β} (hx:a[k]?=some x) (hy:b[k]?=some y):listsC f (a.drop k) (b.drop k)=if f x y=0 then listsC f (a.drop (k+1)) (b.drop (k+1)) else f x y:=by
 have hdr:a.drop k=x::a.drop (k+1):=by
  obtain ⟨hk,rfl⟩:=List.getElem?_eq_some_iff.1 hx
  exact List.drop_eq_getElem_cons hk
 have hdq:b.drop k=y::b.drop (k+1):=by
  obtain ⟨hk,rfl⟩:=List.getElem?_eq_some_iff.1 hy
  exact List.drop_eq_getElem_cons hk
 rw [hdr,hdq]
 rfl
theorem lists_stop {α β:Type} (f:α→β→Int) {a:List α} {b:List β} {k:Nat} (hk:k≤a.length) (hl:k≤b.length) (h:k=a.length∨k=b.length):listsC f (a.drop k) (b.drop k)=Go.Lib.compareInt a.length b.length:=by
 rw [listsC_end f (h.imp (fun h=>List.drop_of_length_le (by omega)) fun h=>List.drop_of_length_le (by omega)),List.length_drop,List.length_drop]
 unfold Go.Lib.compareInt
 simp only [Int.ofNat_lt,gt_iff_lt]
 split<;>split<;>first | rfl | (split<;>first | rfl | omega) | omega
theorem lists_Header_ret (w0:World) (u v:Value) (a b:List (ByteArray×ByteArray)) (ha:HdrsOf w0 u a) (hb:HdrsOf w0 v b):Ret Pg 41 #[u,v,.func (.func 42) #[] #[]] w0 fun r w'=>r = .int .i64 (listsC cmpH a b)∧Ext w0 w':=by
 obtain ⟨A,c,rfl,hlc,hcm,hlm,hel⟩:=SliceOf.open ha
 obtain ⟨B,d,rfl,hld,hdm,hlm2,hel2⟩:=SliceOf.open hb
 obtain ⟨m,hm⟩:∃ m:Nat,m=min a.length b.length:=⟨_,rfl⟩
 have hmi:(if (b.length:Int) < (a.length:Int) then (b.length:Int) else (a.length:Int))=(m:Int):=by split<;>omega
 refine n72s (R:=retR _) ?_;unfold n72
 simp (disch:=try exact DI) only [↓PR,QR,simprocAttr]
 rw [hmi]
 refine loop1_intro (fun i w=>∃ k:Nat,i = .int .i64 k∧k≤m∧Ext w0 w∧listsC cmpH (a.drop k) (b.drop k)=listsC cmpH a b) (fun i _=>m - (intOf i).toNat) ⟨0,rfl,by omega,Ext.refl _,rfl⟩ ?_
 rintro _ w ⟨k,rfl,hk,e,hI⟩
 unfold n72c4
 by_cases hlt:k < m
 case neg =>
  obtain rfl:k=m:=by omega
  have hdc:decide ((k:Int) < (k:Int))=false:=decide_eq_false (by omega)
  simp (disch:=try exact DI) only [↓PR,QR,simprocAttr,hdc,↓n72c1,↓n72c2,↓n72c3,↓n72c4]
  refine zcr (intCompare_ret _ _ _) fun w1 e1=>?_
  simp (disch:=try exact DI) only [↓PR,QR,simprocAttr]
  exact ⟨by rw [← hI,lists_stop cmpH (by omega) (by omega) (by omega)],e.trans e1⟩
 obtain ⟨x,hx⟩:=getElem?_lt (l:=a) (k:=k) (by omega)
 obtain ⟨y,hy⟩:=getElem?_lt (l:=b) (k:=k) (by omega)
 obtain ⟨b1,o1,cs1,rfl,hl1,hA1,rfl⟩:=hel k x hx
 obtain ⟨b2,o2,cs2,rfl,hl2,hA2,rfl⟩:=hel2 k y hy
 have hdc:decide ((k:Int) < (m:Int))=true:=decide_eq_true (by omega)
 have dk1:(k:Int) < (a.length:Int):=by omega
 have dk2:(k:Int) < (b.length:Int):=by omega
 have hw:IntKind.i64.wrap ((k:Int)+1)=((k+1:Nat):Int):=by rw [wrap_ok (by omega) (by omega)];omega
 simp (disch:=try exact DI) only [↓PR,QR,simprocAttr,hdc]
 refine drawK_intro ?_
 have eD:Ext w0 w.drew:=e.trans (Ext.refl w).drew
 change n72c2 _ _ _ _ (EC w.drew) _ _ w.drew
 generalize w.drew=D at *
 unfold n72c2
 simp (disch:=try exact DI) only [↓PR,QR,simprocAttr,dk1,dk2,hA1.c2 eD,hA2.c2 eD]
 rw [callV_func c42]
 simp only [Array.empty_append]
 refine zcr (headers_ret D x y) fun w1 e1=>?_
 refine ⟨e1,?_⟩
 rw [lists_step cmpH hx hy] at hI
 by_cases h0:cmpH x y=0
 · rw [if_pos h0] at hI
   have d0:(cmpH x y != 0)=false:=by simp [h0]
   simp (disch:=try exact DI) only [↓PR,QR,simprocAttr,↓n72c1,↓n72c2,↓n72c3,↓n72c4,d0,hw]
   exact ⟨⟨k+1,rfl,by omega,eD.trans e1,hI⟩,meas_lt (kd := .i64) hlt⟩
 · rw [if_neg h0] at hI
   have d0:(cmpH x y != 0)=true:=by simp [h0]
   simp (disch:=try exact DI) only [↓PR,QR,simprocAttr,↓n72c1,↓n72c2,↓n72c3,↓n72c4,d0]
   exact ⟨by rw [hI],eD.trans e1⟩
theorem lists_Value_ret (w0:World) (u v:Value) (a b:List Tr) (ha:TrsOf w0 u a) (hb:TrsOf w0 v b) (ih:∀ x∈a,∀ (W:World) (vx vy:Value) (y:Tr),ValAt W vx x→ValAt W vy y→Ret Pg 14 #[vx,vy] W fun r w'=>r = .int .i64 (cmpT x y)∧Ext W w'):Ret Pg 43 #[u,v,.func (.func 14) #[] #[]] w0 fun r w'=>r = .int .i64 (listsC cmpT a b)∧Ext w0 w':=by
 obtain ⟨A,c,rfl,hlc,hcm,hlm,hel⟩:=SliceOf.open ha
 obtain ⟨B,d,rfl,hld,hdm,hlm2,hel2⟩:=SliceOf.open hb
 obtain ⟨m,hm⟩:∃ m:Nat,m=min a.length b.length:=⟨_,rfl⟩
 have hmi:(if (b.length:Int) < (a.length:Int) then (b.length:Int) else (a.length:Int))=(m:Int):=by split<;>omega
 refine n73s (R:=retR _) ?_;unfold n73
 simp (disch:=try exact DI) only [↓PR,QR,simprocAttr]
 rw [hmi]
 refine loop1_intro (fun i w=>∃ k:Nat,i = .int .i64 k∧k≤m∧Ext w0 w∧listsC cmpT (a.drop k) (b.drop k)=listsC cmpT a b) (fun i _=>m - (intOf i).toNat) ⟨0,rfl,by omega,Ext.refl _,rfl⟩ ?_
 rintro _ w ⟨k,rfl,hk,e,hI⟩
 unfold n73c4
 by_cases hlt:k < m
 case neg =>
  obtain rfl:k=m:=by omega
  have hdc:decide ((k:Int) < (k:Int))=false:=decide_eq_false (by omega)
  simp (disch:=try exact DI) only [↓PR,QR,simprocAttr,hdc,↓n73c1,↓n73c2,↓n73c3,↓n73c4]
  refine zcr (intCompare_ret _ _ _) fun w1 e1=>?_
  simp (disch:=try exact DI) only [↓PR,QR,simprocAttr]
  exact ⟨by rw [← hI,lists_stop cmpT (by omega) (by omega) (by omega)],e.trans e1⟩
 obtain ⟨x,hx⟩:=getElem?_lt (l:=a) (k:=k) (by omega)
 obtain ⟨y,hy⟩:=getElem?_lt (l:=b) (k:=k) (by omega)
 obtain ⟨b1,o1,cs1,rfl,hl1,hA1,hE1⟩:=hel k x hx
 obtain ⟨b2,o2,cs2,rfl,hl2,hA2,hE2⟩:=hel2 k y hy
 obtain ⟨bv1,hv1,pv1,rfl,f1,f2,f3,f4,f5,f6⟩:=hE1.op
 obtain ⟨bv2,hv2,pv2,rfl,g1,g2,g3,g4,g5,g6⟩:=hE2.op
 have hdc:decide ((k:Int) < (m:Int))=true:=decide_eq_true (by omega)
 have dk1:(k:Int) < (a.length:Int):=by omega
 have dk2:(k:Int) < (b.length:Int):=by omega
 have hw:IntKind.i64.wrap ((k:Int)+1)=((k+1:Nat):Int):=by rw [wrap_ok (by omega) (by omega)];omega
 simp (disch:=try exact DI) only [↓PR,QR,simprocAttr,hdc]
 refine drawK_intro ?_
 have eD:Ext w0 w.drew:=e.trans (Ext.refl w).drew
 change n73c2 _ _ _ _ (EC w.drew) _ _ w.drew
 generalize w.drew=D at *
 unfold n73c2
 simp (disch:=try exact DI) only [↓PR,QR,simprocAttr,dk1,dk2,hA1.c5 eD,hA2.c5 eD]
 rw [callV_func c14]
 simp only [Array.empty_append]
 refine zcr (ih x (List.mem_of_getElem? hx) D _ _ y (ValAt.ext ⟨bv1,hv1,pv1,rfl,f1,f2,f3⟩ eD) (ValAt.ext ⟨bv2,hv2,pv2,rfl,g1,g2,g3⟩ eD)) fun w1 e1=>?_
 refine ⟨e1,?_⟩
 rw [lists_step cmpT hx hy] at hI
 by_cases h0:cmpT x y=0
 · rw [if_pos h0] at hI
   have d0:(cmpT x y != 0)=false:=by simp [h0]
   simp (disch:=try exact DI) only [↓PR,QR,simprocAttr,↓n73c1,↓n73c2,↓n73c3,↓n73c4,d0,hw]
   exact ⟨⟨k+1,rfl,by omega,eD.trans e1,hI⟩,meas_lt (kd := .i64) hlt⟩
 · rw [if_neg h0] at hI
   have d0:(cmpT x y != 0)=true:=by simp [h0]
   simp (disch:=try exact DI) only [↓PR,QR,simprocAttr,↓n73c1,↓n73c2,↓n73c3,↓n73c4,d0]
   exact ⟨by rw [hI],eD.trans e1⟩
theorem Compare_ret (t:Tr):∀ (w0:World) (u v:Value) (s:Tr),ValAt w0 u t→ValAt w0 v s→Ret Pg 14 #[u,v] w0 fun r w'=>r = .int .i64 (cmpT t s)∧Ext w0 w':=by
 refine Tr.ind (p:=fun t=>∀ (w0:World) (u v:Value) (s:Tr),ValAt w0 u t→ValAt w0 v s→Ret Pg 14 #[u,v] w0 fun r w'=>r = .int .i64 (cmpT t s)∧Ext w0 w') ?_ t
 intro n ps ih w0 u v s hu hv
 obtain ⟨bv1,hv1,pv1,rfl,f1,f2,f3,f4,f5,f6⟩:=hu.op
 obtain ⟨bv2,hv2,pv2,rfl,g1,g2,g3,g4,g5,g6⟩:=hv.op
 simp only [Tr.nd,Tr.ps] at f1 f2 f3
 rw [cmpT_mk]
 show Ret _ _ #[.agg (trCells n bv1 hv1 pv1).toArray,_] _ _
 refine n52s (R:=retR _) ?_;unfold n52
 rw [op_boxA]
 have h0:=heap_new w0 (trCells n bv1 hv1 pv1).toArray 26
 have e0:Ext w0 (w0.alloc (.cells (trCells n bv1 hv1 pv1).toArray 26)):=ee
 generalize (w0.alloc (.cells (trCells n bv1 hv1 pv1).toArray 26))=X at h0 e0 ⊢
 generalize w0.heap.size=p1 at h0 ⊢
 rw [op_boxA]
 have h1:=heap_new X (trCells s.nd bv2 hv2 pv2).toArray 26
 have e1:Ext X (X.alloc (.cells (trCells s.nd bv2 hv2 pv2).toArray 26)):=ee
 generalize (X.alloc (.cells (trCells s.nd bv2 hv2 pv2).toArray 26))=W at h1 e1 ⊢
 generalize X.heap.size=p2 at h1 ⊢
 have h0:=e1.obj h0
 have E1:=e0.trans e1
 refine drawK_intro ?_
 have eD:Ext W W.drew:=(Ext.refl W).drew
 have h0:=eD.obj h0
 have h1:=eD.obj h1
 have E2:=E1.trans eD
 change n52c5 _ _ (EC W.drew) _ W.drew
 generalize W.drew=D at *
 unfold n52c5
 simp (disch:=try exact DI) only [↓PR,QR,simprocAttr,(cells_of_heap h0).1,(cells_of_heap h1).1]
 refine zcr (strCompare_ret D n.name s.nd.name) fun w1 d1=>?_
 unfold n52c4
 refine ⟨d1,callK_ret (intCompare_ret w1 n.int s.nd.int) ?_⟩
 rintro _ w2 ⟨rfl,d2⟩
 have D2:=d1.trans d2
 refine ⟨D2,callK_ret (bytesCompare_ret w2 _ _ n.bytes s.nd.bytes (f1.ext (E2.trans D2)) (g1.ext (E2.trans D2))) ?_⟩
 rintro _ w3 ⟨rfl,d3⟩
 have D3:=D2.trans d3
 refine ⟨D3,?_⟩
 unfold n52c3
 refine zcr (lists_Header_ret w3 _ _ n.hdrs s.nd.hdrs (f2.ext (E2.trans D3)) (g2.ext (E2.trans D3))) fun w4 d4=>?_
 have D4:=D3.trans d4
 refine ⟨D4,?_⟩
 simp (disch:=try exact DI) only [↓PR,QR,simprocAttr]
 refine ⟨ee,?_⟩
 unfold n52c2
 refine zcr (Or_ret _ _ [cmpS n.name s.nd.name,Go.Lib.compareInt n.int s.nd.int,Go.Lib.compareBytes n.bytes s.nd.bytes,listsC cmpH n.hdrs s.nd.hdrs] (SliceOf.new1 (fun n => .int .i64 n) (fun _ _=>rfl) w4 [cmpS n.name s.nd.name,Go.Lib.compareInt n.int s.nd.int,Go.Lib.compareBytes n.bytes s.nd.bytes,listsC cmpH n.hdrs s.nd.hdrs] 3 (show (4:Nat)≤_ by decide))) fun w5 d5=>?_
 have D5:Ext D w5:=(D4.alloc _).trans d5
 refine ⟨D5,?_⟩
 change opV _ (binS _ _ _ (.int .i64 (cmpN n s.nd)) _) _ _ _
 by_cases hz:cmpN n s.nd=0
 · have dz:(cmpN n s.nd != 0)=false:=by simp [hz]
   simp (disch:=try exact DI) only [↓PR,QR,simprocAttr,dz,↓n52c1,↓n52c2,↓n52c3,↓n52c4,↓n52c5,(cells_of_heap (D5.obj h0)).1,(cells_of_heap (D5.obj h1)).1]
   refine zcr (lists_Value_ret w5 _ _ ps s.ps (f3.ext (E2.trans D5)) (g3.ext (E2.trans D5)) ih) fun w6 d6=>?_
   simp (disch:=try exact DI) only [↓PR,QR,simprocAttr]
   exact ⟨by rw [if_pos hz],E2.trans (D5.trans d6)⟩
 · have dz:(cmpN n s.nd != 0)=true:=by simp [hz]
   simp (disch:=try exact DI) only [↓PR,QR,simprocAttr,dz]
   exact ⟨by rw [if_neg hz];rfl,E2.trans D5⟩
theorem Equal_ret (w0:World) (u v:Value) (t s:Tr) (hu:ValAt w0 u t) (hv:ValAt w0 v s):Ret Pg 12 #[u,v] w0 fun r w'=>r = .bool (decide (cmpT t s=0))∧Ext w0 w':=by
 obtain ⟨bv1,hv1,pv1,rfl,f1,f2,f3,f4,f5,f6⟩:=hu.op
 obtain ⟨bv2,hv2,pv2,rfl,g1,g2,g3,g4,g5,g6⟩:=hv.op
 refine n54s (R:=retR _) ?_;unfold n54
 rw [op_boxA]
 have h0:=heap_new w0 (trCells t.nd bv1 hv1 pv1).toArray 26
 have e0:Ext w0 (w0.alloc (.cells (trCells t.nd bv1 hv1 pv1).toArray 26)):=ee
 generalize (w0.alloc (.cells (trCells t.nd bv1 hv1 pv1).toArray 26))=X at h0 e0 ⊢
 generalize w0.heap.size=p1 at h0 ⊢
 rw [op_boxA]
 have h1:=heap_new X (trCells s.nd bv2 hv2 pv2).toArray 26
 have e1:Ext X (X.alloc (.cells (trCells s.nd bv2 hv2 pv2).toArray 26)):=ee
 generalize (X.alloc (.cells (trCells s.nd bv2 hv2 pv2).toArray 26))=W at h1 e1 ⊢
 generalize X.heap.size=p2 at h1 ⊢
 have h0:=e1.obj h0
 have E1:=e0.trans e1
 simp (disch:=try exact DI) only [↓PR,QR,simprocAttr,(cells_of_heap h0).1,(cells_of_heap h1).1]
 refine zcr (Compare_ret t W _ _ s (ValAt.ext ⟨bv1,hv1,pv1,rfl,f1,f2,f3⟩ E1) (ValAt.ext ⟨bv2,hv2,pv2,rfl,g1,g2,g3⟩ E1)) fun w1 e2=>?_
 simp (disch:=try exact DI) only [↓PR,QR,simprocAttr]
 exact ⟨by by_cases h:cmpT t s=0<;>simp [h],E1.trans e2⟩
def n26c1 (t5 t6:Value) (next1:KV) (R:RT) (w:World):Prop :=
 opV Pg (binS .neq 3 true t6 (.int .i64 0)) (panK R) w fun t44 w =>
 condP t44 (
 R (.returned t6) w) (
 opV Pg (binS .add 3 true t5 (.int .i64 1)) (panK R) w fun t18 w =>
 next1 t18 w)
def n26c2 (t0 t1 t5:Value) (C5:World→Prop) (K4:KV) (R:RT) (w:World):Prop :=
 qV Pg C5 (Instr.indexAt 23 t0 t5) fun t34 =>
 qV Pg C5 (Instr.fieldAt 74 t34 1) fun t35 =>
 qV Pg C5 (Instr.loadAt 9 t35) fun t36 =>
 qV Pg C5 (Instr.indexAt 23 t1 t5) fun t39 =>
 qV Pg C5 (Instr.fieldAt 74 t39 1) fun t40 =>
 qV Pg C5 (Instr.loadAt 9 t40) fun t41 =>
 callK Pg 44 #[t36,t41] (panK R) w fun t42 w =>
 C5 w∧(
 K4 t42 w)
def n26c3 (t0 t1 t5 t29:Value) (next1:KV) (R:RT) (w:World):Prop :=
 opV Pg (binS .eql 3 true t29 (.int .i64 0)) (panK R) w fun t31 w =>
 joinK (fun (t6:Value) (w:World) =>
 n26c1 t5 t6 next1 R w) fun K4 =>
 condP t31 (
 drawK w fun C5 w =>
 n26c2 t0 t1 t5 C5 K4 R w) (
 K4 t29 w)
def n26c4 (t0 t1 t5:Value) (C3:World→Prop) (next1:KV) (R:RT) (w:World):Prop :=
 qV Pg C3 (Instr.indexAt 23 t0 t5) fun t21 =>
 qV Pg C3 (Instr.fieldAt 74 t21 0) fun t22 =>
 qV Pg C3 (Instr.loadAt 9 t22) fun t23 =>
 qV Pg C3 (Instr.indexAt 23 t1 t5) fun t26 =>
 qV Pg C3 (Instr.fieldAt 74 t26 0) fun t27 =>
 qV Pg C3 (Instr.loadAt 9 t27) fun t28 =>
 callK Pg 44 #[t23,t28] (panK R) w fun t29 w =>
 C3 w∧(
 n26c3 t0 t1 t5 t29 next1 R w)
def n26c5 (t0 t1:Value) (R:RT) (w:World):Prop :=
 opV Pg (Builtin.len_ #[23] 3 #[t0]) (panK R) w fun t47 w =>
 opV Pg (Builtin.len_ #[23] 3 #[t1]) (panK R) w fun t49 w =>
 callK Pg 45 #[t47,t49] (panK R) w fun t50 w =>
 R (.returned t50) w
def n26c6 (t0 t1 t5:Value) (next1:KV) (R:RT) (w:World):Prop :=
 opV Pg (Builtin.len_ #[23] 3 #[t0]) (panK R) w fun t9 w =>
 opV Pg (binS .lss 3 false t5 t9) (panK R) w fun t10 w =>
 joinK (fun (t15:Value) (w:World) =>
 pickK t10 t15 (.bool false) fun t16 =>
 condP t16 (
 drawK w fun C3 w =>
 n26c4 t0 t1 t5 C3 next1 R w) (
 n26c5 t0 t1 R w)) fun K2 =>
 guardP t10 true (
 opV Pg (Builtin.len_ #[23] 3 #[t1]) (panK R) w fun t14 w =>
 opV Pg (binS .lss 3 false t5 t14) (panK R) w fun t15 w =>
 K2 t15 w) (
 K2 undef w)
def n26 (t0 t1:Value) (R:RT) (w:World):Prop :=
 loop1 (fun t5 w next1 =>
 n26c6 t0 t1 t5 next1 R w) (.int .i64 0) w
theorem n26s {t0 t1:Value} {R:RT} {w:World} (h:n26 t0 t1 R w):Calls Pg 46 #[t0,t1] w R:=by
 refine yD Tryz.func46 ?_
 refine zs<|zr<|zm<|zn<|zk<|zs<|zs<|zr<|zm<|zn<|zk<|sim_block<|yl1 [4,5,6,7,8,9,10,11,12,13,14,15,16,17,18,19,20,21,22,23,24,25,26,27,28,29,30,31,32,33,34,35,36,37,38,39,40,41,42,43,44,45] 5 h fun σ w next h=>zs<|zs ?_
 refine sim_regionG<|yG 5<|zm<|zm<|yx h fun _ w h=>yb h fun _ w h=>zm<|zn<|yg1 4 4 true [12,13,14,15] 15 h (fun _ T hT h=>?_) fun σ w h=>?_
 · refine zm<|zm<|yx h fun _ w h=>yb h fun _ w h=>zn ?_
   exact zt hT h
 refine yG 1<|yp h fun _ h=>zn<|sim_end<|zk<|yC h (fun h=>?_) fun h=>?_
 · refine sim_skip<|zk<|zs<|sim_block<|zs<|yh [6,19,20,21,22,23,24,25,26,27,28,29] h fun C hC h=>yw 0 hC ?_
   refine yw 1 hC ?_
   refine ye 2 hC h fun _ h=>?_
   refine ye 3 hC h fun _ h=>?_
   refine ye 4 hC h fun _ h=>?_
   refine yw 5 hC ?_
   refine yw 6 hC ?_
   refine ye 7 hC h fun _ h=>?_
   refine ye 8 hC h fun _ h=>?_
   refine ye 9 hC h fun _ h=>?_
   refine yo 10 ?_
   refine yc h c44 fun _ w h=>zn ?_
   obtain ⟨hC,h⟩:=h
   refine ⟨hC,?_⟩
   refine yw 11 hC ?_
   refine yz<|zk<|zs<|zs<|zr<|zm<|yb h fun _ w h=>zn<|zk<|yJ1 [6,32,33,34,35,36,37,38,39,40,41,42] 6 h (fun _ _ hkK4 h=>?_) fun σ w h=>?_
   · refine yC h (fun h=>?_) fun h=>?_
     · refine yh [6,32,33,34,35,36,37,38,39,40,41,42] h fun C hC h=>yw 0 hC ?_
       refine yw 1 hC ?_
       refine ye 2 hC h fun _ h=>?_
       refine ye 3 hC h fun _ h=>?_
       refine ye 4 hC h fun _ h=>?_
       refine yw 5 hC ?_
       refine yw 6 hC ?_
       refine ye 7 hC h fun _ h=>?_
       refine ye 8 hC h fun _ h=>?_
       refine ye 9 hC h fun _ h=>?_
       refine yo 10 ?_
       refine yc h c44 fun _ w h=>zn ?_
       obtain ⟨hC,h⟩:=h
       refine ⟨hC,?_⟩
       refine yw 11 hC ?_
       refine yz<|zk ?_
       exact zt hkK4 h
     refine sim_skip<|zk ?_
     exact zt hkK4 h
   refine zk<|zs<|zr<|zm<|yb h fun _ w h=>zn<|zk<|yC h (fun h=>zs<|zr<|zm<|zm<|zn<|zk<|sim_ret<|sim_block_ret<|sim_then_ret<|sim_then_ret<|sim_block_ret<|sim_then_ret<|body_ret1 rfl rfl h) fun h=>sim_skip<|sim_block_normal<|zk<|zr<|zm<|yb h fun _ w h=>?_
   exact zm<|zn<|zk<|⟨rfl,h⟩
 refine sim_exit<|sim_then_exit<|sim_then_exit<|sim_block_hit<|zk<|zs<|zr<|zm<|yx h fun _ w h=>zm<|yx h fun _ w h=>yc h c45 fun _ w h=>zm<|zn<|zk ?_
 exact sim_ret<|body_ret1 rfl rfl h
def n38 (t0:Value) (R:RT) (w:World):Prop :=
 opV Pg (binS .eql 22 true t0 (Value.slice none 0 0)) (panK R) w fun t4 w =>
 condP t4 (
 R (.returned (Value.slice none 0 0)) w) (
 opV Pg (Instr.buildSlice 22 0 #[]) (panK R) w fun t5 w =>
 opV Pg (Builtin.append_ #[22,22] 22 #[t5,t0]) (panK R) w fun t7 w =>
 R (.returned t7) w)
theorem n38s {t0:Value} {R:RT} {w:World} (h:n38 t0 R w):Calls Pg 47 #[t0] w R:=by
 refine yD Tryz.func47 ?_
 refine zs<|zr<|zm<|zn<|zk<|zs<|zs<|zr<|zm<|yb h fun _ w h=>zn<|zk<|yC h (fun h=>zs<|zr<|zm<|zn<|zk<|sim_ret<|sim_then_ret<|body_ret1 rfl rfl h) fun h=>sim_skip ?_
 exact zk<|zs<|zr<|yS h fun _ w h=>zm<|yx h fun _ w h=>zm<|zn<|zk<|sim_ret<|body_ret1 rfl rfl h
def n36 (t0:Value) (R:RT) (w:World):Prop :=
 opV Pg (binS .eql 23 true t0 (Value.slice none 0 0)) (panK R) w fun t4 w =>
 condP t4 (
 R (.returned (Value.slice none 0 0)) w) (
 opV Pg (Instr.buildSlice 23 0 #[]) (panK R) w fun t5 w =>
 opV Pg (Builtin.append_ #[23,23] 23 #[t5,t0]) (panK R) w fun t7 w =>
 R (.returned t7) w)
theorem n36s {t0:Value} {R:RT} {w:World} (h:n36 t0 R w):Calls Pg 48 #[t0] w R:=by
 refine yD Tryz.func48 ?_
 refine zs<|zr<|zm<|zn<|zk<|zs<|zs<|zr<|zm<|yb h fun _ w h=>zn<|zk<|yC h (fun h=>zs<|zr<|zm<|zn<|zk<|sim_ret<|sim_then_ret<|body_ret1 rfl rfl h) fun h=>sim_skip ?_
 exact zk<|zs<|zr<|yS h fun _ w h=>zm<|yx h fun _ w h=>zm<|zn<|zk<|sim_ret<|body_ret1 rfl rfl h
def n37 (t0:Value) (R:RT) (w:World):Prop :=
 opV Pg (binS .eql 24 true t0 (Value.slice none 0 0)) (panK R) w fun t4 w =>
 condP t4 (
 R (.returned (Value.slice none 0 0)) w) (
 opV Pg (Instr.buildSlice 24 0 #[]) (panK R) w fun t5 w =>
 opV Pg (Builtin.append_ #[24,24] 24 #[t5,t0]) (panK R) w fun t7 w =>
 R (.returned t7) w)
theorem n37s {t0:Value} {R:RT} {w:World} (h:n37 t0 R w):Calls Pg 49 #[t0] w R:=by
 refine yD Tryz.func49 ?_
 refine zs<|zr<|zm<|zn<|zk<|zs<|zs<|zr<|zm<|yb h fun _ w h=>zn<|zk<|yC h (fun h=>zs<|zr<|zm<|zn<|zk<|sim_ret<|sim_then_ret<|body_ret1 rfl rfl h) fun h=>sim_skip ?_
 exact zk<|zs<|zr<|yS h fun _ w h=>zm<|yx h fun _ w h=>zm<|zn<|zk<|sim_ret<|body_ret1 rfl rfl h
def n58c1 (t0 t1 t11:Value) (K1:World→Prop) (R:RT) (w:World):Prop :=
 opV Pg (Instr.build 26 #[]) (panK R) w fun t16 w =>
 opU Pg (Instr.storeAt 26 t0 t16) (panK R) w fun w =>
 opU Pg (Instr.storeAt 33 t1 t11) (panK R) w fun w =>
 K1 w
def n58c2 (t0 t1 t5:Value) (K1:World→Prop) (R:RT) (w:World):Prop :=
 opV Pg (Instr.typeAssert t5 20 33 true) (panK R) w fun t10 w =>
 opV Pg (Instr.extract t10 0) (panK R) w fun t11 w =>
 opV Pg (Instr.extract t10 1) (panK R) w fun t12 w =>
 opV Pg (Op.unary .not t12) (panK R) w fun t14 w =>
 condP t14 (
 opV Pg (Instr.panic t5) (panK R) w fun _ w =>
 False) (
 n58c1 t0 t1 t11 K1 R w)
def n58 (t0 t1 t5:Value) (R:RT) (w:World):Prop :=
 opV Pg (binS .neq 20 true t5 .nilIface) (panK R) w fun t7 w =>
 joinK (fun (w:World) =>
 R (.returned (.tuple #[])) w) fun K1 =>
 condP t7 (
 n58c2 t0 t1 t5 K1 R w) (
 K1 w)
theorem n58s {t0 t1:Value} {u:FrameMode} {R:Ending→FrameMode→World→Prop} {w:World} (h:n58 t0 t1 (Sw.recM u).1 (fun e w=>R e (Sw.recM u).2 w) w):CallsDIn Fence.wide 0 Pg 50 #[t0,t1] u w R:=by
 refine calls_of_denR (args:=[t0,t1]) (d:=5) Tryz.func50 rfl (Nat.le_of_ble_eq_true rfl) rfl rfl rfl rfl ?_
 generalize (recM u).1=t5 at h ⊢
 generalize hR:(fun e w=>R e (recM u).2 w)=R' at h ⊢
 clear hR
 revert h
 generalize R'=R
 intro h
 unfold n58 at h
 refine zm<|zn<|zs<|zr<|zm<|yb h fun _ w h=>zn<|zk<|yJ0 [3,4,8,9,10,11,12,13,14,15,16,17] h (fun _ _ hkK1 h=>?_) fun σ w h=>?_
 · refine yC h (fun h=>?_) fun h=>?_
   · refine zs<|zr<|zm<|yv h fun _ w h=>zm<|yv h fun _ w h=>yv h fun _ w h=>zm<|zm<|zn<|zk<|zs<|zs<|zr<|zm ?_
     refine yv h fun _ w h=>zn<|zk<|yC h (fun h=>zr<|zm<|yv h fun _ w h=>zn<|h.elim) fun h=>sim_skip<|zk<|zr<|yB h fun _ w h=>zm<|yu h fun w h=>yu h fun w h=>zn<|zk ?_
     exact zt hkK1 h
   refine sim_skip<|zk ?_
   exact zt hkK1 h
 exact body_normal<|body_ret0 rfl h
def n81c1 (t0:Value) (next3:World→Prop) (R:RT) (w:World):Prop :=
 opN Pg (nilN t0) (panK R) w fun t71 w =>
 opV Pg (Instr.fieldAt 85 t71 0) (panK R) w fun t72 w =>
 callK Pg 74 #[t72,(.int .u8 93)] (panK R) w fun t73 w =>
 callK Pg 52 #[t73] (panK R) w fun t74 w =>
 next3 w
def n81c2 (t0 t2 t61 t67:Value) (C4:World→Prop) (next3:World→Prop) (R:RT) (w:World):Prop :=
 opV Pg (Builtin.append_ #[23,23] 23 #[t61,t67]) (panK R) w fun t68 w =>
 C4 w∧(
 qV Pg C4 (Instr.fieldAt 26 t2 3) fun t69 =>
 opU Pg (Instr.storeAt 23 t69 t68) (panK R) w fun w =>
 turnK w fun C5 w =>
 n81c1 t0 next3 R w)
def n81c3 (t0 t2 t54 t61 t65:Value) (C4:World→Prop) (next3:World→Prop) (R:RT) (w:World):Prop :=
 qV Pg C4 (Instr.build 74 #[(0,t54),(1,t65)]) fun t66 =>
 opV Pg (Instr.buildSlice 23 1 #[(0,t66)]) (panK R) w fun t67 w =>
 C4 w∧(
 n81c2 t0 t2 t61 t67 C4 next3 R w)
def n81c4 (t0 t2 t54:Value) (C4:World→Prop) (next3:World→Prop) (R:RT) (w:World):Prop :=
 qV Pg C4 (Instr.fieldAt 26 t2 3) fun t60 =>
 qV Pg C4 (Instr.loadAt 23 t60) fun t61 =>
 callK Pg 77 #[t0] (panK R) w fun t64 w =>
 C4 w∧(
 opV Pg (Go.convert 22 9 t64) (panK R) w fun t65 w =>
 C4 w∧(
 n81c3 t0 t2 t54 t61 t65 C4 next3 R w))
def n81c5 (t0 t2 t53:Value) (next3:World→Prop) (R:RT) (w:World):Prop :=
 opV Pg (Go.convert 22 9 t53) (panK R) w fun t54 w =>
 opN Pg (nilN t0) (panK R) w fun t56 w =>
 opV Pg (Instr.fieldAt 85 t56 0) (panK R) w fun t57 w =>
 callK Pg 74 #[t57,(.int .u8 58)] (panK R) w fun t58 w =>
 callK Pg 52 #[t58] (panK R) w fun t59 w =>
 drawK w fun C4 w =>
 n81c4 t0 t2 t54 C4 next3 R w
def n81c6 (t0 t2:Value) (R:RT) (w:World):Prop :=
 opN Pg (nilN t0) (panK R) w fun t103 w =>
 opV Pg (Instr.fieldAt 85 t103 1) (panK R) w fun t104 w =>
 opV Pg (Instr.loadAt 3 t104) (panK R) w fun t105 w =>
 opV Pg (binS .sub 3 true t105 (.int .i64 1)) (panK R) w fun t106 w =>
 opN Pg (nilN t0) (panK R) w fun t107 w =>
 opV Pg (Instr.fieldAt 85 t107 1) (panK R) w fun t108 w =>
 opU Pg (Instr.storeAt 3 t108 t106) (panK R) w fun w =>
 opV Pg (Instr.loadAt 26 t2) (panK R) w fun t109 w =>
 opU Pg (Instr.storeAt 26 t2 t109) (panK R) w fun w =>
 qW Pg 26 t2 w fun r0 =>
 R (.returned r0) w
def n81c7 (t2 t91 t94:Value) (C10:World→Prop) (next9:World→Prop) (R:RT) (w:World):Prop :=
 opV Pg (Builtin.append_ #[24,24] 24 #[t91,t94]) (panK R) w fun t95 w =>
 C10 w∧(
 qV Pg C10 (Instr.fieldAt 26 t2 4) fun t96 =>
 opU Pg (Instr.storeAt 24 t96 t95) (panK R) w fun w =>
 turnK w fun C11 w =>
 next9 w)
def n81c8 (t0 t2:Value) (C10:World→Prop) (next9:World→Prop) (R:RT) (w:World):Prop :=
 qV Pg C10 (Instr.fieldAt 26 t2 4) fun t90 =>
 qV Pg C10 (Instr.loadAt 24 t90) fun t91 =>
 callK Pg 51 #[t0] (panK R) w fun t93 w =>
 C10 w∧(
 opV Pg (Instr.buildSlice 24 1 #[(0,t93)]) (panK R) w fun t94 w =>
 C10 w∧(
 n81c7 t2 t91 t94 C10 next9 R w))
def n81c9 (t0:Value) (K6:World→Prop) (R:RT) (w:World):Prop :=
 opN Pg (nilN t0) (panK R) w fun t98 w =>
 opV Pg (Instr.fieldAt 85 t98 0) (panK R) w fun t99 w =>
 callK Pg 74 #[t99,(.int .u8 41)] (panK R) w fun t100 w =>
 callK Pg 52 #[t100] (panK R) w fun t101 w =>
 K6 w
def n81c10 (t0 t2:Value) (K6:World→Prop) (next9:World→Prop) (R:RT) (w:World):Prop :=
 opN Pg (nilN t0) (panK R) w fun t87 w =>
 opV Pg (Instr.fieldAt 85 t87 0) (panK R) w fun t88 w =>
 callK Pg 74 #[t88,(.int .u8 32)] (panK R) w fun t89 w =>
 condP t89 (
 drawK w fun C10 w =>
 n81c8 t0 t2 C10 next9 R w) (
 n81c9 t0 K6 R w)
def n81c11 (t0 t2 t84:Value) (C7:World→Prop) (K6:World→Prop) (R:RT) (w:World):Prop :=
 qV Pg C7 (Instr.fieldAt 26 t2 4) fun t85 =>
 opU Pg (Instr.storeAt 24 t85 t84) (panK R) w fun w =>
 turnK w fun C8 w =>
 loop0 (fun w next9 =>
 n81c10 t0 t2 K6 next9 R w) w
def n81c12 (t0 t2 t80 t82:Value) (C7:World→Prop) (K6:World→Prop) (R:RT) (w:World):Prop :=
 opV Pg (Instr.buildSlice 24 1 #[(0,t82)]) (panK R) w fun t83 w =>
 C7 w∧(
 opV Pg (Builtin.append_ #[24,24] 24 #[t80,t83]) (panK R) w fun t84 w =>
 C7 w∧(
 n81c11 t0 t2 t84 C7 K6 R w))
def n81c13 (t0 t2:Value) (C7:World→Prop) (K6:World→Prop) (R:RT) (w:World):Prop :=
 qV Pg C7 (Instr.fieldAt 26 t2 4) fun t79 =>
 qV Pg C7 (Instr.loadAt 24 t79) fun t80 =>
 callK Pg 51 #[t0] (panK R) w fun t82 w =>
 C7 w∧(
 n81c12 t0 t2 t80 t82 C7 K6 R w)
def n81c14 (t0 t2:Value) (R:RT) (w:World):Prop :=
 opN Pg (nilN t0) (panK R) w fun t76 w =>
 opV Pg (Instr.fieldAt 85 t76 0) (panK R) w fun t77 w =>
 callK Pg 74 #[t77,(.int .u8 40)] (panK R) w fun t78 w =>
 joinK (fun (w:World) =>
 n81c6 t0 t2 R w) fun K6 =>
 condP t78 (
 drawK w fun C7 w =>
 n81c13 t0 t2 C7 K6 R w) (
 K6 w)
def n81c15 (t0 t2:Value) (next3:World→Prop) (R:RT) (w:World):Prop :=
 opN Pg (nilN t0) (panK R) w fun t49 w =>
 opV Pg (Instr.fieldAt 85 t49 0) (panK R) w fun t50 w =>
 callK Pg 74 #[t50,(.int .u8 91)] (panK R) w fun t51 w =>
 condP t51 (
 callK Pg 77 #[t0] (panK R) w fun t53 w =>
 n81c5 t0 t2 t53 next3 R w) (
 n81c14 t0 t2 R w)
def n81c16 (t0 t2 t44:Value) (R:RT) (w:World):Prop :=
 joinK (fun (w:World) =>
 loop0 (fun w next3 =>
 n81c15 t0 t2 next3 R w) w) fun K2 =>
 condP t44 (
 callK Pg 77 #[t0] (panK R) w fun t46 w =>
 opV Pg (Instr.fieldAt 26 t2 2) (panK R) w fun t47 w =>
 opU Pg (Instr.storeAt 22 t47 t46) (panK R) w fun w =>
 K2 w) (
 K2 w)
def n81c17 (t0 t2:Value) (R:RT) (w:World):Prop :=
 opN Pg (nilN t0) (panK R) w fun t42 w =>
 opV Pg (Instr.fieldAt 85 t42 0) (panK R) w fun t43 w =>
 callK Pg 74 #[t43,(.int .u8 35)] (panK R) w fun t44 w =>
 n81c16 t0 t2 t44 R w
def n81c18 (t2 t33:Value) (K1:World→Prop) (R:RT) (w:World):Prop :=
 opV Pg (Instr.extract t33 0) (panK R) w fun t34 w =>
 opV Pg (Instr.extract t33 1) (panK R) w fun t35 w =>
 opV Pg (binS .eql 113 true t35 .nilIface) (panK R) w fun t37 w =>
 callK Pg 52 #[t37] (panK R) w fun t38 w =>
 opV Pg (Instr.fieldAt 26 t2 1) (panK R) w fun t40 w =>
 opU Pg (Instr.storeAt 3 t40 t34) (panK R) w fun w =>
 K1 w
def n81c19 (t0 t2:Value) (K1:World→Prop) (R:RT) (w:World):Prop :=
 opN Pg (nilN t0) (panK R) w fun t30 w =>
 opV Pg (Instr.fieldAt 85 t30 0) (panK R) w fun t31 w =>
 callK Pg 71 #[t31,(.func (.func 76) #[] #[])] (panK R) w fun t32 w =>
 callK Pg 75 #[t32] (panK R) w fun t33 w =>
 n81c18 t2 t33 K1 R w
def n81c20 (t0 t2 t22:Value) (R:RT) (w:World):Prop :=
 opV Pg (Instr.fieldAt 26 t2 0) (panK R) w fun t23 w =>
 opU Pg (Instr.storeAt 9 t23 t22) (panK R) w fun w =>
 opN Pg (nilN t0) (panK R) w fun t25 w =>
 opV Pg (Instr.fieldAt 85 t25 0) (panK R) w fun t26 w =>
 callK Pg 74 #[t26,(.int .u8 61)] (panK R) w fun t27 w =>
 joinK (fun (w:World) =>
 n81c17 t0 t2 R w) fun K1 =>
 condP t27 (
 n81c19 t0 t2 K1 R w) (
 K1 w)
def n81c21 (t0 t2:Value) (R:RT) (w:World):Prop :=
 opN Pg (nilN t0) (panK R) w fun t20 w =>
 opV Pg (Instr.fieldAt 85 t20 0) (panK R) w fun t21 w =>
 callK Pg 71 #[t21,(.func (.func 72) #[] #[])] (panK R) w fun t22 w =>
 n81c20 t0 t2 t22 R w
def n81 (t0:Value) (R:RT) (w:World):Prop :=
 opV Pg (Instr.alloc 26 true (.tuple #[])) (panK R) w fun t2 w =>
 opN Pg (nilN t0) (panK R) w fun t7 w =>
 opV Pg (Instr.fieldAt 85 t7 1) (panK R) w fun t8 w =>
 opV Pg (Instr.loadAt 3 t8) (panK R) w fun t9 w =>
 opV Pg (binS .add 3 true t9 (.int .i64 1)) (panK R) w fun t10 w =>
 opN Pg (nilN t0) (panK R) w fun t11 w =>
 opV Pg (Instr.fieldAt 85 t11 1) (panK R) w fun t12 w =>
 opU Pg (Instr.storeAt 3 t12 t10) (panK R) w fun w =>
 opN Pg (nilN t0) (panK R) w fun t14 w =>
 opV Pg (Instr.fieldAt 85 t14 1) (panK R) w fun t15 w =>
 opV Pg (Instr.loadAt 3 t15) (panK R) w fun t16 w =>
 opV Pg (binS .leq 3 true t16 (.int .i64 40)) (panK R) w fun t17 w =>
 callK Pg 52 #[t17] (panK R) w fun t18 w =>
 n81c21 t0 t2 R w
set_option maxHeartbeats 40000000 in
theorem n81s {t0:Value} {R:RT} {w:World} (h:n81 t0 R w):Calls Pg 51 #[t0] w R:=by
 refine yD Tryz.func51 ?_
 refine zs<|zr<|yv h fun _ w h=>zn<|zk<|zs<|zr<|zm<|yN h fun _ w h=>yv h fun _ w h=>yv h fun _ w h=>yb h fun _ w h=>yN h fun _ w h=>yv h fun _ w h=>yu h fun w h=>?_
 refine zn<|zk<|zs<|zr<|zm<|yN h fun _ w h=>yv h fun _ w h=>yv h fun _ w h=>yb h fun _ w h=>yc h c52 fun _ w h=>zn<|zk<|zs<|zr<|zm ?_
 refine yN h fun _ w h=>yv h fun _ w h=>yc h c71 fun _ w h=>yv h fun _ w h=>yu h fun w h=>zn<|zk<|zs<|zs<|zr<|zm<|yN h fun _ w h=>yv h fun _ w h=>yc h c74 fun _ w h=>zn ?_
 refine zk<|yJ0 [3,4,28,29,30,31,32,33,34,35,36,37,38,39,40] h (fun _ _ hkK1 h=>?_) fun σ w h=>?_
 · refine yC h (fun h=>?_) fun h=>?_
   · refine zs<|zr<|zm<|yN h fun _ w h=>yv h fun _ w h=>yc h c71 fun _ w h=>yc h c75 fun _ w h=>zm<|yv h fun _ w h=>yv h fun _ w h=>zm<|zm<|zn<|zk<|zs ?_
     refine zr<|zm<|yb h fun _ w h=>yc h c52 fun _ w h=>zn<|zk<|zr<|zm<|yv h fun _ w h=>yu h fun w h=>zn<|zk ?_
     exact zt hkK1 h
   refine sim_skip<|zk ?_
   exact zt hkK1 h
 refine zk<|zs<|zs<|zr<|zm<|yN h fun _ w h=>yv h fun _ w h=>yc h c74 fun _ w h=>zn<|zk<|yJ0 [45,46,47] h (fun _ _ hkK2 h=>?_) fun σ w h=>?_
 · refine yC h (fun h=>?_) fun h=>?_
   · refine zr<|zm<|yc h c77 fun _ w h=>yv h fun _ w h=>yu h fun w h=>zn<|zk ?_
     exact zt hkK2 h
   refine sim_skip<|zk ?_
   exact zt hkK2 h
 refine zk<|zs<|sim_block<|yl0 [5,48,49,50,51,52,53,54,55,56,57,58,59,60,61,62,63,64,65,66,67,68,69,70,71,72,73,74] h fun σ w next h=>zs<|zs<|zr<|zm<|yN h fun _ w h=>yv h fun _ w h=>yc h c74 fun _ w h=>zn<|zk<|yC h (fun h=>?_) fun h=>?_
 · refine sim_skip<|zk<|sim_block<|zs<|zr<|zm<|yc h c77 fun _ w h=>yv h fun _ w h=>zm<|zn<|zk<|zs<|zr<|zm<|yN h fun _ w h=>?_
   refine yv h fun _ w h=>yc h c74 fun _ w h=>yc h c52 fun _ w h=>zn<|zk<|zs<|yh [60,61,62,63,64,65,66,67,68,69] h fun C hC h=>ye 0 hC h fun _ h=>?_
   refine ye 1 hC h fun _ h=>?_
   refine yw 2 hC ?_
   refine yw 3 hC ?_
   refine yo 4 ?_
   refine yc h c77 fun _ w h=>zn ?_
   obtain ⟨hC,h⟩:=h
   refine ⟨hC,?_⟩
   refine yo 5 ?_
   refine yv h fun _ w h=>zn ?_
   obtain ⟨hC,h⟩:=h
   refine ⟨hC,?_⟩
   refine ye 6 hC h fun _ h=>?_
   refine yo 7 ?_
   refine yS h fun _ w h=>zn ?_
   obtain ⟨hC,h⟩:=h
   refine ⟨hC,?_⟩
   refine yo 8 ?_
   refine yx h fun _ w h=>zn ?_
   obtain ⟨hC,h⟩:=h
   refine ⟨hC,?_⟩
   refine ye 9 hC h fun _ h=>?_
   refine yq 10 1 ?_
   refine yu h fun w h=>zn ?_
   obtain ⟨C5,hC,h⟩:=h
   refine ⟨C5,hC,?_⟩
   exact yz<|zk<|zr<|zm<|yN h fun _ w h=>yv h fun _ w h=>yc h c74 fun _ w h=>yc h c52 fun _ w h=>zn<|sim_block_normal<|zk<|⟨rfl,h⟩
 refine sim_exit<|sim_then_exit<|sim_then_exit<|sim_block_hit<|zk<|zs<|zs<|zr<|zm<|yN h fun _ w h=>yv h fun _ w h=>yc h c74 fun _ w h=>zn<|zk<|yJ0 [79,80,81,82,83,84,85,86,87,88,89,90,91,92,93,94,95,96,97,98,99,100,101] h (fun _ _ hkK6 h=>?_) fun σ w h=>?_
 · refine yC h (fun h=>?_) fun h=>?_
   · refine zs<|yh [79,80,81,82,83,84,85] h fun C hC h=>ye 0 hC h fun _ h=>?_
     refine ye 1 hC h fun _ h=>?_
     refine yw 2 hC ?_
     refine yo 3 ?_
     refine yc h c51 fun _ w h=>zn ?_
     obtain ⟨hC,h⟩:=h
     refine ⟨hC,?_⟩
     refine yo 4 ?_
     refine yS h fun _ w h=>zn ?_
     obtain ⟨hC,h⟩:=h
     refine ⟨hC,?_⟩
     refine yo 5 ?_
     refine yx h fun _ w h=>zn ?_
     obtain ⟨hC,h⟩:=h
     refine ⟨hC,?_⟩
     refine ye 6 hC h fun _ h=>?_
     refine yq 7 1 ?_
     refine yu h fun w h=>zn ?_
     obtain ⟨C8,hC,h⟩:=h
     refine ⟨C8,hC,?_⟩
     refine yz<|zk<|zs<|sim_block<|yl0 [86,87,88,89,90,91,92,93,94,95,96] h fun σ w next h=>zs<|zs<|zr<|zm<|yN h fun _ w h=>yv h fun _ w h=>yc h c74 fun _ w h=>zn<|zk<|yC h (fun h=>?_) fun h=>?_
     · refine sim_skip<|zk<|sim_block<|yh [90,91,92,93,94,95,96] h fun C hC h=>ye 0 hC h fun _ h=>?_
       refine ye 1 hC h fun _ h=>?_
       refine yw 2 hC ?_
       refine yo 3 ?_
       refine yc h c51 fun _ w h=>zn ?_
       obtain ⟨hC,h⟩:=h
       refine ⟨hC,?_⟩
       refine yo 4 ?_
       refine yS h fun _ w h=>zn ?_
       obtain ⟨hC,h⟩:=h
       refine ⟨hC,?_⟩
       refine yo 5 ?_
       refine yx h fun _ w h=>zn ?_
       obtain ⟨hC,h⟩:=h
       refine ⟨hC,?_⟩
       refine ye 6 hC h fun _ h=>?_
       refine yq 7 1 ?_
       refine yu h fun w h=>zn ?_
       obtain ⟨C11,hC,h⟩:=h
       refine ⟨C11,hC,?_⟩
       exact yz<|sim_block_normal<|zk<|⟨rfl,h⟩
     refine sim_exit<|sim_then_exit<|sim_then_exit<|sim_block_hit<|zk<|zr<|zm<|yN h fun _ w h=>yv h fun _ w h=>yc h c74 fun _ w h=>yc h c52 fun _ w h=>zn<|zk ?_
     exact zt hkK6 h
   refine sim_skip<|zk ?_
   exact zt hkK6 h
 refine zk<|zs<|zr<|zm<|yN h fun _ w h=>yv h fun _ w h=>yv h fun _ w h=>yb h fun _ w h=>yN h fun _ w h=>yv h fun _ w h=>yu h fun w h=>zn<|zk<|zs<|zr ?_
 exact yv h fun _ w h=>yu h fun w h=>zn<|zk<|sim_ret<|body_retC rfl rfl h
def n74 (t0:Value) (R:RT) (w:World):Prop :=
 opV Pg (Op.unary .not t0) (panK R) w fun t3 w =>
 condP t3 (
 opV Pg (Instr.makeInterface 33 (.int .i64 6)) (panK R) w fun t4 w =>
 opV Pg (Instr.panic t4) (panK R) w fun _ w =>
 False) (
 R (.returned (.tuple #[])) w)
theorem n74s {t0:Value} {R:RT} {w:World} (h:n74 t0 R w):Calls Pg 52 #[t0] w R:=by
 refine yD Tryz.func52 ?_
 exact zs<|zr<|zm<|yv h fun _ w h=>zn<|zk<|yC h (fun h=>zr<|yv h fun _ w h=>yv h fun _ w h=>zn<|h.elim) fun h=>sim_skip<|body_normal<|body_ret0 rfl h
theorem rints_ret (w0:World) (x y:Int):Ret Pg 45 #[.int .i64 x,.int .i64 y] w0 fun r w'=>r = .int .i64 (Go.Lib.compareInt x y)∧Ext w0 w':=by
 refine n27s (R:=retR _) ?_;unfold n27
 unfold Go.Lib.compareInt
 by_cases h1:x < y
 · simp (disch:=try exact DI) only [↓PR,QR,simprocAttr,h1,decide_true]
   exact ⟨by simp,Ext.refl _⟩
 · by_cases h2:x > y
   · simp (disch:=try exact DI) only [↓PR,QR,simprocAttr,h1,h2,decide_true,decide_false]
     exact ⟨by simp,Ext.refl _⟩
   · simp (disch:=try exact DI) only [↓PR,QR,simprocAttr,h1,h2,decide_false]
     exact ⟨by simp,Ext.refl _⟩
theorem cmpB_end {a b:List UInt8} (h:a=[]∨b=[]):Go.Lib.compareBytes a b=Go.Lib.compareInt a.length b.length:=by
 unfold Go.Lib.compareInt
 cases a with
 | nil=>cases b<;>simp [Go.Lib.compareBytes]
 | cons x a =>
  rcases h with h | rfl
  · cases h
  · simp [Go.Lib.compareBytes];omega
theorem cmpB_stop {a b:List UInt8} {k:Nat} (hk:k≤a.length) (hl:k≤b.length) (h:k=a.length∨k=b.length):Go.Lib.compareBytes (a.drop k) (b.drop k)=Go.Lib.compareInt a.length b.length:=by
 rw [cmpB_end (h.imp (fun h=>List.drop_of_length_le (by omega)) fun h=>List.drop_of_length_le (by omega)),List.length_drop,List.length_drop]
 unfold Go.Lib.compareInt
 simp only [Int.ofNat_lt,gt_iff_lt]
 split<;>split<;>first | rfl | (split<;>first | rfl | omega) | omega
theorem cmpB_step {a b:List UInt8} {k:Nat} {x y:UInt8} (hx:a[k]?=some x) (hy:b[k]?=some y):Go.Lib.compareBytes (a.drop k) (b.drop k)=if (x.toNat:Int) < (y.toNat:Int) then -1 else if (y.toNat:Int) < (x.toNat:Int) then 1 else Go.Lib.compareBytes (a.drop (k+1)) (b.drop (k+1)):=by
 have hdr:a.drop k=x::a.drop (k+1):=by
  obtain ⟨hk,rfl⟩:=List.getElem?_eq_some_iff.1 hx
  exact List.drop_eq_getElem_cons hk
 have hdq:b.drop k=y::b.drop (k+1):=by
  obtain ⟨hk,rfl⟩:=List.getElem?_eq_some_iff.1 hy
  exact List.drop_eq_getElem_cons hk
 rw [hdr,hdq]
 simp only [Go.Lib.compareBytes,UInt8.lt_iff_toNat_lt,Int.ofNat_lt]
theorem rtexts_ret (w0:World) (a b:ByteArray) (hsa:a.size≤1000000000) (hsb:b.size≤1000000000):Ret Pg 44 #[.string a,.string b] w0 fun r w'=>r = .int .i64 (cmpS a b)∧Ext w0 w':=by
 have la:a.data.toList.length=a.size:=by rw [Array.length_toList];rfl
 have lb:b.data.toList.length=b.size:=by rw [Array.length_toList];rfl
 unfold cmpS
 refine n30s (R:=retR _) ?_;unfold n30
 refine loop1_intro (fun i w=>∃ k:Nat,i = .int .i64 k∧k≤a.size∧k≤b.size∧Ext w0 w∧Go.Lib.compareBytes (a.data.toList.drop k) (b.data.toList.drop k)=Go.Lib.compareBytes a.data.toList b.data.toList) (fun i _=>a.size - (intOf i).toNat) ⟨0,rfl,by omega,by omega,Ext.refl _,rfl⟩ ?_
 rintro _ w ⟨k,rfl,hk,hl,e,hI⟩
 unfold n30c4
 have stop:(k=a.size∨k=b.size)→n30c3 (.string a) (.string b) (retR fun r w'=>r = .int .i64 (Go.Lib.compareBytes a.data.toList b.data.toList)∧Ext w0 w') w:=by
  intro h
  unfold n30c3
  simp (disch:=try exact DI) only [↓PR,QR,simprocAttr]
  refine zcr (rints_ret _ _ _) fun w1 e1=>?_
  simp (disch:=try exact DI) only [↓PR,QR,simprocAttr]
  refine ⟨?_,e.trans e1⟩
  rw [← hI,cmpB_stop (by omega) (by omega) (by omega),la,lb]
 by_cases h1:k < a.size
 case neg =>
  have d1:decide ((k:Int) < (a.size:Int))=false:=decide_eq_false (by omega)
  simp (disch:=try exact DI) only [↓PR,QR,simprocAttr,d1]
  exact stop (by omega)
 have d1:decide ((k:Int) < (a.size:Int))=true:=decide_eq_true (by omega)
 by_cases h2:k < b.size
 case neg =>
  have d2:decide ((k:Int) < (b.size:Int))=false:=decide_eq_false (by omega)
  simp (disch:=try exact DI) only [↓PR,QR,simprocAttr,d1,d2]
  exact stop (by omega)
 have d2:decide ((k:Int) < (b.size:Int))=true:=decide_eq_true (by omega)
 obtain ⟨x,hx⟩:=getElem?_lt (l:=a.data.toList) (k:=k) (by omega)
 obtain ⟨y,hy⟩:=getElem?_lt (l:=b.data.toList) (k:=k) (by omega)
 have qx:∀ (C:World→Prop) [ClassNe C] (K:Value→Prop),qV Pg C (Instr.index 9 (.string a) (.int .i64 (k:Int))) K=K (.int .u8 (x.toNat:Int)):=fun C _ K=>qV_of fun QP w kk=>op_indexS (k:=kk) Tryz.underlying9 a .i64 k hx
 have qy:∀ (C:World→Prop) [ClassNe C] (K:Value→Prop),qV Pg C (Instr.index 9 (.string b) (.int .i64 (k:Int))) K=K (.int .u8 (y.toNat:Int)):=fun C _ K=>qV_of fun QP w kk=>op_indexS (k:=kk) Tryz.underlying9 b .i64 k hy
 have hw:IntKind.i64.wrap ((k:Int)+1)=((k+1:Nat):Int):=by rw [wrap_ok (by omega) (by omega)];omega
 rw [cmpB_step hx hy] at hI
 simp (disch:=try exact DI) only [↓PR,QR,simprocAttr,d1,d2]
 refine drawK_intro ?_
 have eD:Ext w0 w.drew:=e.trans (Ext.refl w).drew
 change n30c2 _ _ _ (EC w.drew) _ _ w.drew
 generalize w.drew=D at *
 unfold n30c2
 by_cases h3:(x.toNat:Int) < (y.toNat:Int)
 · simp (disch:=try exact DI) only [↓PR,QR,simprocAttr,qx,qy,h3,decide_true]
   exact ⟨by rw [← hI,if_pos h3],eD⟩
 · rw [if_neg h3] at hI
   simp (disch:=try exact DI) only [↓PR,QR,simprocAttr,qx,qy,h3,decide_false]
   refine drawK_intro ?_
   have eE:Ext w0 D.drew:=eD.trans (Ext.refl D).drew
   change n30c1 _ _ _ (EC D.drew) _ _ D.drew
   generalize D.drew=E at *
   unfold n30c1
   by_cases h4:(x.toNat:Int) > (y.toNat:Int)
   · simp (disch:=try exact DI) only [↓PR,QR,simprocAttr,qx,qy,h4,decide_true]
     exact ⟨by rw [← hI,if_pos h4],eE⟩
   · simp (disch:=try exact DI) only [↓PR,QR,simprocAttr,qx,qy,h4,decide_false,hw]
     rw [if_neg h4] at hI
     exact ⟨⟨k+1,rfl,by omega,by omega,eE,hI⟩,meas_lt (kd := .i64) h1⟩
def ShortH (l:List (ByteArray×ByteArray)):Prop:=∀ x∈l,x.1.size≤1000000000∧x.2.size≤1000000000
theorem cmpH_or (x y:ByteArray×ByteArray):cmpH x y=if cmpS x.1 y.1=0 then cmpS x.2 y.2 else cmpS x.1 y.1:=by
 unfold cmpH
 simp only [orI]
 split
 · split
   · rename_i h;exact h.symm
   · rfl
 · rfl
theorem rheaders_ret (w0:World) (u v:Value) (a b:List (ByteArray×ByteArray)) (ha:HdrsOf w0 u a) (hb:HdrsOf w0 v b) (sa:ShortH a) (sb:ShortH b):Ret Pg 46 #[u,v] w0 fun r w'=>r = .int .i64 (listsC cmpH a b)∧Ext w0 w':=by
 obtain ⟨A,c,rfl,hlc,hcm,hlm,hel⟩:=SliceOf.open ha
 obtain ⟨B,d,rfl,hld,hdm,hlm2,hel2⟩:=SliceOf.open hb
 refine n26s (R:=retR _) ?_;unfold n26
 refine loop1_intro (fun i w=>∃ k:Nat,i = .int .i64 k∧k≤a.length∧k≤b.length∧Ext w0 w∧listsC cmpH (a.drop k) (b.drop k)=listsC cmpH a b) (fun i _=>a.length - (intOf i).toNat) ⟨0,rfl,by omega,by omega,Ext.refl _,rfl⟩ ?_
 rintro _ w ⟨k,rfl,hk,hl,e,hI⟩
 unfold n26c6
 have stop:(k=a.length∨k=b.length)→n26c5 (.slice A a.length c) (.slice B b.length d) (retR fun r w'=>r = .int .i64 (listsC cmpH a b)∧Ext w0 w') w:=by
  intro h
  unfold n26c5
  simp (disch:=try exact DI) only [↓PR,QR,simprocAttr]
  refine zcr (rints_ret _ _ _) fun w1 e1=>?_
  simp (disch:=try exact DI) only [↓PR,QR,simprocAttr]
  exact ⟨by rw [← hI,lists_stop cmpH (by omega) (by omega) (by omega)],e.trans e1⟩
 by_cases h1:k < a.length
 case neg =>
  have d1:decide ((k:Int) < (a.length:Int))=false:=decide_eq_false (by omega)
  simp (disch:=try exact DI) only [↓PR,QR,simprocAttr,d1]
  exact stop (by omega)
 have d1:decide ((k:Int) < (a.length:Int))=true:=decide_eq_true (by omega)
 by_cases h2:k < b.length
 case neg =>
  have d2:decide ((k:Int) < (b.length:Int))=false:=decide_eq_false (by omega)
  simp (disch:=try exact DI) only [↓PR,QR,simprocAttr,d1,d2]
  exact stop (by omega)
 have d2:decide ((k:Int) < (b.length:Int))=true:=decide_eq_true (by omega)
 obtain ⟨x,hx⟩:=getElem?_lt h1
 obtain ⟨y,hy⟩:=getElem?_lt h2
 obtain ⟨b1,o1,cs1,rfl,hl1,hA1,rfl⟩:=hel k x hx
 obtain ⟨b2,o2,cs2,rfl,hl2,hA2,rfl⟩:=hel2 k y hy
 obtain ⟨x1,x2⟩:=sa x (List.mem_of_getElem? hx)
 obtain ⟨y1,y2⟩:=sb y (List.mem_of_getElem? hy)
 have dk1:(k:Int) < (a.length:Int):=by omega
 have dk2:(k:Int) < (b.length:Int):=by omega
 have hw:IntKind.i64.wrap ((k:Int)+1)=((k+1:Nat):Int):=by rw [wrap_ok (by omega) (by omega)];omega
 rw [lists_step cmpH hx hy,cmpH_or] at hI
 have fin:∀ (z:Int) (w5:World),Ext w0 w5→z=(if cmpS x.1 y.1=0 then cmpS x.2 y.2 else cmpS x.1 y.1)→n26c1 (.int .i64 (k:Int)) (.int .i64 z) (fun i w'=>(∃ k:Nat,i = .int .i64 k∧k≤a.length∧k≤b.length∧Ext w0 w'∧listsC cmpH (a.drop k) (b.drop k)=listsC cmpH a b)∧a.length - (intOf i).toNat < a.length - (intOf (Value.int .i64 (k:Int))).toNat) (retR fun r w'=>r = .int .i64 (listsC cmpH a b)∧Ext w0 w') w5:=by
  intro z w5 e5 hz
  unfold n26c1
  rw [← hz] at hI
  by_cases h0:z=0
  · have d0:(z != 0)=false:=by simp [h0]
    simp (disch:=try exact DI) only [↓PR,QR,simprocAttr,d0,hw]
    rw [if_pos h0] at hI
    exact ⟨⟨k+1,rfl,by omega,by omega,e5,hI⟩,meas_lt (kd := .i64) h1⟩
  · have d0:(z != 0)=true:=by simp [h0]
    simp (disch:=try exact DI) only [↓PR,QR,simprocAttr,d0]
    rw [if_neg h0] at hI
    exact ⟨by rw [hI],e5⟩
 simp (disch:=try exact DI) only [↓PR,QR,simprocAttr,d1,d2]
 refine drawK_intro ?_
 have eD:Ext w0 w.drew:=e.trans (Ext.refl w).drew
 change n26c4 _ _ _ (EC w.drew) _ _ w.drew
 generalize w.drew=D at *
 unfold n26c4
 simp (disch:=try exact DI) only [↓PR,QR,simprocAttr,dk1,dk2,hA1.c2 eD,hA2.c2 eD]
 refine zcr (rtexts_ret D x.1 y.1 x1 y1) fun w1 e1=>?_
 refine ⟨e1,?_⟩
 unfold n26c3
 have E1:=eD.trans e1
 by_cases h0:cmpS x.1 y.1=0
 · have d0:(cmpS x.1 y.1 == 0)=true:=by simp [h0]
   simp (disch:=try exact DI) only [↓PR,QR,simprocAttr,d0]
   refine drawK_intro ?_
   have eE:Ext w0 w1.drew:=E1.trans (Ext.refl w1).drew
   change n26c2 _ _ _ (EC w1.drew) _ _ w1.drew
   generalize w1.drew=E at *
   unfold n26c2
   simp (disch:=try exact DI) only [↓PR,QR,simprocAttr,dk1,dk2,hA1.c2 eE,hA2.c2 eE]
   refine zcr (rtexts_ret E x.2 y.2 x2 y2) fun w2 e2=>?_
   exact ⟨e2,fin _ _ (eE.trans e2) (by rw [if_pos h0])⟩
 · have d0:(cmpS x.1 y.1 == 0)=false:=by simp [h0]
   simp (disch:=try exact DI) only [↓PR,QR,simprocAttr,d0]
   exact fin _ _ E1 (by rw [if_neg h0])
def n19c1 (t2 t3 t6:Value) (C7:World→Prop) (next4:KW) (R:RT) (w:World):Prop :=
 qV Pg C7 (Instr.fieldAt 26 t2 4) fun t53 =>
 qV Pg C7 (Instr.loadAt 24 t53) fun t54 =>
 qV Pg C7 (Instr.indexAt 24 t54 t6) fun t56 =>
 qV Pg C7 (Instr.loadAt 26 t56) fun t57 =>
 qV Pg C7 (Instr.fieldAt 26 t3 4) fun t58 =>
 qV Pg C7 (Instr.loadAt 24 t58) fun t59 =>
 qV Pg C7 (Instr.indexAt 24 t59 t6) fun t61 =>
 qV Pg C7 (Instr.loadAt 26 t61) fun t62 =>
 callK Pg 15 #[t57,t62] (panK R) w fun t63 w =>
 C7 w∧(
 opV Pg (binS .add 3 true t6 (.int .i64 1)) (panK R) w fun t52 w =>
 next4 t63 t52 w)
def n19c2 (t2 t3:Value) (K8:KV) (R:RT) (w:World):Prop :=
 opV Pg (Instr.fieldAt 26 t2 4) (panK R) w fun t66 w =>
 opV Pg (Instr.loadAt 24 t66) (panK R) w fun t67 w =>
 opV Pg (Builtin.len_ #[24] 3 #[t67]) (panK R) w fun t68 w =>
 opV Pg (Instr.fieldAt 26 t3 4) (panK R) w fun t69 w =>
 opV Pg (Instr.loadAt 24 t69) (panK R) w fun t70 w =>
 opV Pg (Builtin.len_ #[24] 3 #[t70]) (panK R) w fun t71 w =>
 callK Pg 45 #[t68,t71] (panK R) w fun t72 w =>
 K8 t72 w
def n19c3 (t2 t3 t2005:Value) (R:RT) (w:World):Prop :=
 opV Pg (binS .eql 3 true t2005 (.int .i64 0)) (panK R) w fun t65 w =>
 joinK (fun (t3005:Value) (w:World) =>
 R (.returned t3005) w) fun K8 =>
 condP t65 (
 n19c2 t2 t3 K8 R w) (
 K8 t2005 w)
def n19c4 (t2 t3 t6 t36 t42 t2005:Value) (next4:KW) (R:RT) (w:World):Prop :=
 pickK t36 t42 (.bool false) fun t43 =>
 joinK (fun (t49:Value) (w:World) =>
 pickK t43 t49 (.bool false) fun t50 =>
 condP t50 (
 drawK w fun C7 w =>
 n19c1 t2 t3 t6 C7 next4 R w) (
 n19c3 t2 t3 t2005 R w)) fun K6 =>
 guardP t43 true (
 opV Pg (Instr.fieldAt 26 t3 4) (panK R) w fun t46 w =>
 opV Pg (Instr.loadAt 24 t46) (panK R) w fun t47 w =>
 opV Pg (Builtin.len_ #[24] 3 #[t47]) (panK R) w fun t48 w =>
 opV Pg (binS .lss 3 false t6 t48) (panK R) w fun t49 w =>
 K6 t49 w) (
 K6 undef w)
def n19c5 (t2 t3 t6 t2005:Value) (next4:KW) (R:RT) (w:World):Prop :=
 opV Pg (binS .eql 3 true t2005 (.int .i64 0)) (panK R) w fun t36 w =>
 joinK (fun (t42:Value) (w:World) =>
 n19c4 t2 t3 t6 t36 t42 t2005 next4 R w) fun K5 =>
 guardP t36 true (
 opV Pg (Instr.fieldAt 26 t2 4) (panK R) w fun t39 w =>
 opV Pg (Instr.loadAt 24 t39) (panK R) w fun t40 w =>
 opV Pg (Builtin.len_ #[24] 3 #[t40]) (panK R) w fun t41 w =>
 opV Pg (binS .lss 3 false t6 t41) (panK R) w fun t42 w =>
 K5 t42 w) (
 K5 undef w)
def n19c6 (t2 t3:Value) (K3:KV) (R:RT) (w:World):Prop :=
 opV Pg (Instr.fieldAt 26 t2 3) (panK R) w fun t30 w =>
 opV Pg (Instr.loadAt 23 t30) (panK R) w fun t31 w =>
 opV Pg (Instr.fieldAt 26 t3 3) (panK R) w fun t32 w =>
 opV Pg (Instr.loadAt 23 t32) (panK R) w fun t33 w =>
 callK Pg 46 #[t31,t33] (panK R) w fun t34 w =>
 K3 t34 w
def n19c7 (t2 t3 t1005:Value) (R:RT) (w:World):Prop :=
 opV Pg (binS .eql 3 true t1005 (.int .i64 0)) (panK R) w fun t29 w =>
 joinK (fun (t2005:Value) (w:World) =>
 loop2 (fun t2005 t6 w next4 =>
 n19c5 t2 t3 t6 t2005 next4 R w) t2005 (.int .i64 0) w) fun K3 =>
 condP t29 (
 n19c6 t2 t3 K3 R w) (
 K3 t1005 w)
def n19c8 (t2 t3:Value) (K2:KV) (R:RT) (w:World):Prop :=
 opV Pg (Instr.fieldAt 26 t2 2) (panK R) w fun t21 w =>
 opV Pg (Instr.loadAt 22 t21) (panK R) w fun t22 w =>
 opV Pg (Go.convert 22 9 t22) (panK R) w fun t23 w =>
 opV Pg (Instr.fieldAt 26 t3 2) (panK R) w fun t24 w =>
 opV Pg (Instr.loadAt 22 t24) (panK R) w fun t25 w =>
 opV Pg (Go.convert 22 9 t25) (panK R) w fun t26 w =>
 callK Pg 44 #[t23,t26] (panK R) w fun t27 w =>
 K2 t27 w
def n19c9 (t2 t3 t5:Value) (R:RT) (w:World):Prop :=
 opV Pg (binS .eql 3 true t5 (.int .i64 0)) (panK R) w fun t20 w =>
 joinK (fun (t1005:Value) (w:World) =>
 n19c7 t2 t3 t1005 R w) fun K2 =>
 condP t20 (
 n19c8 t2 t3 K2 R w) (
 K2 t5 w)
def n19c10 (t2 t3:Value) (K1:KV) (R:RT) (w:World):Prop :=
 opV Pg (Instr.fieldAt 26 t2 1) (panK R) w fun t14 w =>
 opV Pg (Instr.loadAt 3 t14) (panK R) w fun t15 w =>
 opV Pg (Instr.fieldAt 26 t3 1) (panK R) w fun t16 w =>
 opV Pg (Instr.loadAt 3 t16) (panK R) w fun t17 w =>
 callK Pg 45 #[t15,t17] (panK R) w fun t18 w =>
 K1 t18 w
def n19c11 (t2 t3 t11:Value) (R:RT) (w:World):Prop :=
 opV Pg (binS .eql 3 true t11 (.int .i64 0)) (panK R) w fun t13 w =>
 joinK (fun (t5:Value) (w:World) =>
 n19c9 t2 t3 t5 R w) fun K1 =>
 condP t13 (
 n19c10 t2 t3 K1 R w) (
 K1 t11 w)
def n19 (t0 t1:Value) (R:RT) (w:World):Prop :=
 opV Pg (Instr.box 26 t0) (panK R) w fun t2 w =>
 opV Pg (Instr.box 26 t1) (panK R) w fun t3 w =>
 opV Pg (Instr.fieldAt 26 t2 0) (panK R) w fun t7 w =>
 opV Pg (Instr.loadAt 9 t7) (panK R) w fun t8 w =>
 opV Pg (Instr.fieldAt 26 t3 0) (panK R) w fun t9 w =>
 opV Pg (Instr.loadAt 9 t9) (panK R) w fun t10 w =>
 callK Pg 44 #[t8,t10] (panK R) w fun t11 w =>
 n19c11 t2 t3 t11 R w
set_option maxHeartbeats 40000000 in
theorem n19s {t0 t1:Value} {R:RT} {w:World} (h:n19 t0 t1 R w):Calls Pg 15 #[t0,t1] w R:=by
 refine yD Tryz.func15 ?_
 refine zs<|zr<|yv h fun _ w h=>yv h fun _ w h=>zm<|zn<|zk<|zs<|zr<|yv h fun _ w h=>yv h fun _ w h=>yv h fun _ w h=>yv h fun _ w h=>yc h c44 fun _ w h=>zm ?_
 refine zn<|zk<|zs<|zs<|zr<|zm<|yb h fun _ w h=>zn<|zk<|yJ1 [5,14,15,16,17,18] 5 h (fun _ _ hkK1 h=>?_) fun σ w h=>?_
 · refine yC h (fun h=>?_) fun h=>?_
   · refine zr<|yv h fun _ w h=>yv h fun _ w h=>yv h fun _ w h=>yv h fun _ w h=>yc h c45 fun _ w h=>zm<|zn<|zk ?_
     exact zt hkK1 h
   refine sim_skip<|zk ?_
   exact zt hkK1 h
 refine zk<|zs<|zs<|zr<|zm<|yb h fun _ w h=>zn<|zk<|yJ1 [5,21,22,23,24,25,26,27] 5 h (fun _ _ hkK2 h=>?_) fun σ w h=>?_
 · refine yC h (fun h=>?_) fun h=>?_
   · refine zr<|yv h fun _ w h=>yv h fun _ w h=>yv h fun _ w h=>yv h fun _ w h=>yv h fun _ w h=>yv h fun _ w h=>yc h c44 fun _ w h=>zm<|zn<|zk ?_
     exact zt hkK2 h
   refine sim_skip<|zk ?_
   exact zt hkK2 h
 refine zk<|zs<|zs<|zr<|zm<|yb h fun _ w h=>zn<|zk<|yJ1 [5,30,31,32,33,34] 5 h (fun _ _ hkK3 h=>?_) fun σ w h=>?_
 · refine yC h (fun h=>?_) fun h=>?_
   · refine zr<|yv h fun _ w h=>yv h fun _ w h=>yv h fun _ w h=>yv h fun _ w h=>yc h c46 fun _ w h=>zm<|zn<|zk ?_
     exact zt hkK3 h
   refine sim_skip<|zk ?_
   exact zt hkK3 h
 refine zk<|zs<|zs<|zr<|zm<|zn<|zk<|sim_block<|yl2 [5,6,35,36,37,38,39,40,41,42,43,44,45,46,47,48,49,50,51,52,53,54,55,56,57,58,59,60,61,62,63] 5 6 h fun σ w next h=>zs<|zs<|sim_regionG<|yG 3<|zm<|yb h fun _ w h=>?_
 refine zm<|zn<|yg1 5 2 true [38,39,40,41,42] 42 h (fun _ T hT h=>?_) fun σ w h=>?_
 · refine zm<|yv h fun _ w h=>yv h fun _ w h=>yx h fun _ w h=>yb h fun _ w h=>zn ?_
   exact zt hT h
 refine yG 2<|yp h fun _ h=>zm<|zn<|yg1 5 9 true [45,46,47,48,49] 49 h (fun _ T hT h=>?_) fun σ w h=>?_
 · refine zm<|yv h fun _ w h=>yv h fun _ w h=>yx h fun _ w h=>yb h fun _ w h=>zn ?_
   exact zt hT h
 refine yG 1<|yp h fun _ h=>zn<|sim_end<|zk<|yC h (fun h=>?_) fun h=>?_
 · refine sim_skip<|zk<|zs<|sim_block<|yh [5,53,54,55,56,57,58,59,60,61,62,63] h fun C hC h=>ye 0 hC h fun _ h=>?_
   refine ye 1 hC h fun _ h=>?_
   refine yw 2 hC ?_
   refine ye 3 hC h fun _ h=>?_
   refine ye 4 hC h fun _ h=>?_
   refine ye 5 hC h fun _ h=>?_
   refine ye 6 hC h fun _ h=>?_
   refine yw 7 hC ?_
   refine ye 8 hC h fun _ h=>?_
   refine ye 9 hC h fun _ h=>?_
   refine yo 10 ?_
   refine yc h c15 fun _ w h=>zn ?_
   obtain ⟨hC,h⟩:=h
   refine ⟨hC,?_⟩
   refine yw 11 hC ?_
   exact yz<|sim_block_normal<|zk<|zr<|zm<|yb h fun _ w h=>zm<|zn<|zk<|⟨rfl,h⟩
 refine sim_exit<|sim_then_exit<|sim_then_exit<|sim_block_hit<|zk<|zs<|zs<|zr<|zm<|yb h fun _ w h=>zn<|zk<|yJ1 [5,66,67,68,69,70,71,72] 5 h (fun _ _ hkK8 h=>?_) fun σ w h=>?_
 · refine yC h (fun h=>?_) fun h=>?_
   · refine zr<|yv h fun _ w h=>yv h fun _ w h=>yx h fun _ w h=>yv h fun _ w h=>yv h fun _ w h=>yx h fun _ w h=>yc h c45 fun _ w h=>zm<|zn<|zk ?_
     exact zt hkK8 h
   refine sim_skip<|zk ?_
   exact zt hkK8 h
 exact zk<|zs<|zr<|zm<|zm<|zn<|zk<|sim_ret<|body_ret1 rfl rfl h
def n53c1 (t19 t23 t30:Value) (C6:World→Prop) (next5:KV) (R:RT) (w:World):Prop :=
 qV Pg C6 (Instr.indexAt 24 t23 t19) fun t31 =>
 opU Pg (Instr.storeAt 26 t31 t30) (panK R) w fun w =>
 turnK w fun C7 w =>
 opV Pg (binS .add 3 true t19 (.int .i64 1)) (panK R) w fun t32 w =>
 next5 t32 w
def n53c2 (t1 t19:Value) (C6:World→Prop) (next5:KV) (R:RT) (w:World):Prop :=
 qV Pg C6 (Instr.fieldAt 26 t1 4) fun t22 =>
 qV Pg C6 (Instr.loadAt 24 t22) fun t23 =>
 qV Pg C6 (Instr.fieldAt 26 t1 4) fun t25 =>
 qV Pg C6 (Instr.loadAt 24 t25) fun t26 =>
 qV Pg C6 (Instr.indexAt 24 t26 t19) fun t28 =>
 qV Pg C6 (Instr.loadAt 26 t28) fun t29 =>
 callK Pg 16 #[t29] (panK R) w fun t30 w =>
 C6 w∧(
 n53c1 t19 t23 t30 C6 next5 R w)
def n53c3 (t1 t2 t18 t19:Value) (next5:KV) (R:RT) (w:World):Prop :=
 opV Pg (binS .lss 3 false t19 t18) (panK R) w fun t20 w =>
 condP t20 (
 drawK w fun C6 w =>
 n53c2 t1 t19 C6 next5 R w) (
 opV Pg (Instr.loadAt 26 t1) (panK R) w fun t33 w =>
 opU Pg (Instr.storeAt 26 t2 t33) (panK R) w fun w =>
 qW Pg 26 t2 w fun r0 =>
 R (.returned r0) w)
def n53c4 (t1 t2:Value) (R:RT) (w:World):Prop :=
 opV Pg (Instr.fieldAt 26 t1 4) (panK R) w fun t16 w =>
 opV Pg (Instr.loadAt 24 t16) (panK R) w fun t17 w =>
 opV Pg (Builtin.len_ #[24] 3 #[t17]) (panK R) w fun t18 w =>
 loop1 (fun t19 w next5 =>
 n53c3 t1 t2 t18 t19 next5 R w) (.int .i64 0) w
def n53c5 (t1 t2 t9 t12:Value) (C2:World→Prop) (R:RT) (w:World):Prop :=
 qV Pg C2 (Instr.fieldAt 26 t1 3) fun t14 =>
 opU Pg (Instr.storeAt 23 t14 t9) (panK R) w fun w =>
 turnK w fun C3 w =>
 qV Pg C3 (Instr.fieldAt 26 t1 4) fun t15 =>
 opU Pg (Instr.storeAt 24 t15 t12) (panK R) w fun w =>
 turnK w fun C4 w =>
 n53c4 t1 t2 R w
def n53c6 (t1 t2 t6 t9 t11 t13:Value) (C1:World→Prop) (R:RT) (w:World):Prop :=
 C1 w∧(
 callK Pg 49 #[t11] (panK R) w fun t12 w =>
 C1 w∧(
 opU Pg (Instr.storeAt 22 t13 t6) (panK R) w fun w =>
 turnK w fun C2 w =>
 n53c5 t1 t2 t9 t12 C2 R w))
def n53c7 (t1 t2:Value) (C1:World→Prop) (R:RT) (w:World):Prop :=
 qV Pg C1 (Instr.fieldAt 26 t1 2) fun t4 =>
 qV Pg C1 (Instr.loadAt 22 t4) fun t5 =>
 qV Pg C1 (Instr.fieldAt 26 t1 3) fun t7 =>
 qV Pg C1 (Instr.loadAt 23 t7) fun t8 =>
 qV Pg C1 (Instr.fieldAt 26 t1 4) fun t10 =>
 qV Pg C1 (Instr.loadAt 24 t10) fun t11 =>
 callK Pg 47 #[t5] (panK R) w fun t6 w =>
 C1 w∧(
 qV Pg C1 (Instr.fieldAt 26 t1 2) fun t13 =>
 callK Pg 48 #[t8] (panK R) w fun t9 w =>
 n53c6 t1 t2 t6 t9 t11 t13 C1 R w)
def n53 (t0:Value) (R:RT) (w:World):Prop :=
 opV Pg (Instr.box 26 t0) (panK R) w fun t1 w =>
 opV Pg (Instr.alloc 26 true (.tuple #[])) (panK R) w fun t2 w =>
 drawK w fun C1 w =>
 n53c7 t1 t2 C1 R w
theorem n53s {t0:Value} {R:RT} {w:World} (h:n53 t0 R w):Calls Pg 16 #[t0] w R:=by
 refine yD Tryz.func16 ?_
 refine zs<|zr<|yv h fun _ w h=>yv h fun _ w h=>zn<|zk<|zs<|yh [4,5,6,7,8,9,10,11,12,13,14,15] h fun C hC h=>ye 0 hC h fun _ h=>?_
 refine ye 1 hC h fun _ h=>?_
 refine ye 3 hC h fun _ h=>?_
 refine ye 4 hC h fun _ h=>?_
 refine ye 6 hC h fun _ h=>?_
 refine ye 7 hC h fun _ h=>?_
 refine yo 2 ?_
 refine yc h c47 fun _ w h=>zn ?_
 obtain ⟨hC,h⟩:=h
 refine ⟨hC,?_⟩
 refine ye 9 hC h fun _ h=>?_
 refine yo 5 ?_
 refine yc h c48 fun _ w h=>zn ?_
 obtain ⟨hC,h⟩:=h
 refine ⟨hC,?_⟩
 refine yo 8 ?_
 refine yc h c49 fun _ w h=>zn ?_
 obtain ⟨hC,h⟩:=h
 refine ⟨hC,?_⟩
 refine yq 10 2 ?_
 refine yu h fun w h=>zn ?_
 obtain ⟨C2,hC,h⟩:=h
 refine ⟨C2,hC,?_⟩
 refine ye 11 hC h fun _ h=>?_
 refine yq 12 2 ?_
 refine yu h fun w h=>zn ?_
 obtain ⟨C3,hC,h⟩:=h
 refine ⟨C3,hC,?_⟩
 refine ye 13 hC h fun _ h=>?_
 refine yq 14 1 ?_
 refine yu h fun w h=>zn ?_
 obtain ⟨C4,hC,h⟩:=h
 refine ⟨C4,hC,?_⟩
 refine yz<|zk<|zs<|zs<|zr<|yv h fun _ w h=>yv h fun _ w h=>yx h fun _ w h=>zm<|zn<|zk<|sim_block<|yl1 [3,19,20,21,22,23,24,25,26,27,28,29,30,31,32] 19 h fun σ w next h=>zs<|zr ?_
 refine yb h fun _ w h=>zn<|zk<|zs<|yC h (fun h=>?_) fun h=>?_
 · refine sim_skip<|zk<|zs<|sim_block<|zs<|zr<|zm<|zm<|zn<|zk<|yh [22,23,24,25,26,27,28,29,30,31] h fun C hC h=>ye 0 hC h fun _ h=>?_
   refine ye 1 hC h fun _ h=>?_
   refine yw 2 hC ?_
   refine ye 3 hC h fun _ h=>?_
   refine ye 4 hC h fun _ h=>?_
   refine yw 5 hC ?_
   refine ye 6 hC h fun _ h=>?_
   refine ye 7 hC h fun _ h=>?_
   refine yo 8 ?_
   refine yc h c16 fun _ w h=>zn ?_
   obtain ⟨hC,h⟩:=h
   refine ⟨hC,?_⟩
   refine ye 9 hC h fun _ h=>?_
   refine yq 10 1 ?_
   refine yu h fun w h=>zn ?_
   obtain ⟨C7,hC,h⟩:=h
   refine ⟨C7,hC,?_⟩
   exact yz<|sim_block_normal<|zk<|zr<|yb h fun _ w h=>zm<|zn<|zk<|⟨rfl,h⟩
 exact sim_exit<|sim_then_exit<|sim_then_exit<|sim_block_hit<|zk<|zs<|zr<|yv h fun _ w h=>yu h fun w h=>zn<|zk<|sim_ret<|body_retC rfl rfl h
def n14c1 (t1 t3:Value) (C3:World→Prop) (next2:KV) (R:RT) (w:World):Prop :=
 qV Pg C3 (Instr.fieldAt 26 t1 3) fun t26 =>
 qV Pg C3 (Instr.loadAt 23 t26) fun t27 =>
 qV Pg C3 (Instr.fieldAt 26 t1 3) fun t29 =>
 qV Pg C3 (Instr.loadAt 23 t29) fun t30 =>
 qV Pg C3 (Instr.indexAt 23 t30 t3) fun t32 =>
 qV Pg C3 (Instr.fieldAt 74 t32 0) fun t33 =>
 qV Pg C3 (Instr.loadAt 9 t33) fun t34 =>
 qV Pg C3 (binS .add 9 true t34 (.string { data := #[120] })) fun t35 =>
 qV Pg C3 (Instr.indexAt 23 t27 t3) fun t36 =>
 qV Pg C3 (Instr.fieldAt 74 t36 0) fun t37 =>
 opU Pg (Instr.storeAt 9 t37 t35) (panK R) w fun w =>
 turnK w fun C4 w =>
 opV Pg (binS .add 3 true t3 (.int .i64 1)) (panK R) w fun t25 w =>
 next2 t25 w
def n14c2 (t1 t4:Value) (next5:KV) (R:RT) (w:World):Prop :=
 opV Pg (Instr.fieldAt 26 t1 4) (panK R) w fun t51 w =>
 opV Pg (Instr.loadAt 24 t51) (panK R) w fun t52 w =>
 opV Pg (Instr.indexAt 24 t52 t4) (panK R) w fun t54 w =>
 opV Pg (Instr.fieldAt 26 t54 1) (panK R) w fun t55 w =>
 opU Pg (Instr.storeAt 3 t55 (.int .i64 (-7))) (panK R) w fun w =>
 opV Pg (binS .add 3 true t4 (.int .i64 1)) (panK R) w fun t44 w =>
 next5 t44 w
def n14c3 (t1 t4:Value) (next5:KV) (R:RT) (w:World):Prop :=
 opV Pg (Instr.fieldAt 26 t1 4) (panK R) w fun t45 w =>
 opV Pg (Instr.loadAt 24 t45) (panK R) w fun t46 w =>
 opV Pg (Instr.indexAt 24 t46 t4) (panK R) w fun t48 w =>
 opV Pg (Instr.loadAt 26 t48) (panK R) w fun t49 w =>
 callK Pg 17 #[t49] (panK R) w fun t50 w =>
 n14c2 t1 t4 next5 R w
def n14c4 (t1 t4:Value) (next5:KV) (R:RT) (w:World):Prop :=
 opV Pg (Instr.fieldAt 26 t1 4) (panK R) w fun t39 w =>
 opV Pg (Instr.loadAt 24 t39) (panK R) w fun t40 w =>
 opV Pg (Builtin.len_ #[24] 3 #[t40]) (panK R) w fun t41 w =>
 opV Pg (binS .lss 3 false t4 t41) (panK R) w fun t42 w =>
 condP t42 (
 n14c3 t1 t4 next5 R w) (
 R (.returned (.tuple #[])) w)
def n14c5 (t1 t3:Value) (next2:KV) (R:RT) (w:World):Prop :=
 opV Pg (Instr.fieldAt 26 t1 3) (panK R) w fun t20 w =>
 opV Pg (Instr.loadAt 23 t20) (panK R) w fun t21 w =>
 opV Pg (Builtin.len_ #[23] 3 #[t21]) (panK R) w fun t22 w =>
 opV Pg (binS .lss 3 false t3 t22) (panK R) w fun t23 w =>
 condP t23 (
 drawK w fun C3 w =>
 n14c1 t1 t3 C3 next2 R w) (
 loop1 (fun t4 w next5 =>
 n14c4 t1 t4 next5 R w) (.int .i64 0) w)
def n14c6 (t1 t2:Value) (next1:KV) (R:RT) (w:World):Prop :=
 opV Pg (Instr.fieldAt 26 t1 2) (panK R) w fun t12 w =>
 opV Pg (Instr.loadAt 22 t12) (panK R) w fun t13 w =>
 opV Pg (Instr.indexAt 22 t13 t2) (panK R) w fun t15 w =>
 opV Pg (Instr.loadAt 5 t15) (panK R) w fun t16 w =>
 opV Pg (binS .add 5 true t16 (.int .u8 1)) (panK R) w fun t17 w =>
 opV Pg (Instr.indexAt 22 t13 t2) (panK R) w fun t18 w =>
 opU Pg (Instr.storeAt 5 t18 t17) (panK R) w fun w =>
 opV Pg (binS .add 3 true t2 (.int .i64 1)) (panK R) w fun t11 w =>
 next1 t11 w
def n14c7 (t1 t2:Value) (next1:KV) (R:RT) (w:World):Prop :=
 opV Pg (Instr.fieldAt 26 t1 2) (panK R) w fun t6 w =>
 opV Pg (Instr.loadAt 22 t6) (panK R) w fun t7 w =>
 opV Pg (Builtin.len_ #[22] 3 #[t7]) (panK R) w fun t8 w =>
 opV Pg (binS .lss 3 false t2 t8) (panK R) w fun t9 w =>
 condP t9 (
 n14c6 t1 t2 next1 R w) (
 loop1 (fun t3 w next2 =>
 n14c5 t1 t3 next2 R w) (.int .i64 0) w)
def n14 (t0:Value) (R:RT) (w:World):Prop :=
 opV Pg (Instr.box 26 t0) (panK R) w fun t1 w =>
 loop1 (fun t2 w next1 =>
 n14c7 t1 t2 next1 R w) (.int .i64 0) w
theorem n14s {t0:Value} {R:RT} {w:World} (h:n14 t0 R w):Calls Pg 17 #[t0] w R:=by
 refine yD Tryz.func17 ?_
 refine zs<|zr<|yv h fun _ w h=>zn<|zk<|zs<|zs<|zr<|zm<|zn<|zk<|sim_block<|yl1 [2,5,6,7,8,9,10,11,12,13,14,15,16,17,18] 2 h fun σ w next h=>zs<|zs ?_
 refine zr<|zm<|yv h fun _ w h=>yv h fun _ w h=>yx h fun _ w h=>yb h fun _ w h=>zn<|zk<|yC h (fun h=>?_) fun h=>?_
 · refine sim_skip<|zk<|zs<|sim_block<|zr<|yv h fun _ w h=>yv h fun _ w h=>zm<|yv h fun _ w h=>yv h fun _ w h=>yb h fun _ w h=>yv h fun _ w h=>yu h fun w h=>zn<|sim_block_normal ?_
   exact zk<|zr<|zm<|yb h fun _ w h=>zm<|zn<|zk<|⟨rfl,h⟩
 refine sim_exit<|sim_then_exit<|sim_then_exit<|sim_block_hit<|zk<|zs<|zs<|zr<|zm<|zn<|zk<|sim_block<|yl1 [3,19,20,21,22,23,24,25,26,27,28,29,30,31,32,33,34,35,36,37] 3 h fun σ w next h=>zs<|zs ?_
 refine zr<|zm<|yv h fun _ w h=>yv h fun _ w h=>yx h fun _ w h=>yb h fun _ w h=>zn<|zk<|yC h (fun h=>?_) fun h=>?_
 · refine sim_skip<|zk<|zs<|sim_block<|yh [26,27,28,29,30,31,32,33,34,35,36,37] h fun C hC h=>ye 0 hC h fun _ h=>?_
   refine ye 1 hC h fun _ h=>?_
   refine yw 2 hC ?_
   refine ye 3 hC h fun _ h=>?_
   refine ye 4 hC h fun _ h=>?_
   refine yw 5 hC ?_
   refine ye 6 hC h fun _ h=>?_
   refine ye 7 hC h fun _ h=>?_
   refine ye 8 hC h fun _ h=>?_
   refine ye 9 hC h fun _ h=>?_
   refine ye 10 hC h fun _ h=>?_
   refine ye 11 hC h fun _ h=>?_
   refine yq 12 2 ?_
   refine yu h fun w h=>zn ?_
   obtain ⟨C4,hC,h⟩:=h
   refine ⟨C4,hC,?_⟩
   exact yz<|sim_block_normal<|zk<|zr<|zm<|yb h fun _ w h=>zm<|zn<|zk<|⟨rfl,h⟩
 refine sim_exit<|sim_then_exit<|sim_then_exit<|sim_block_hit<|zk<|zs<|zr<|zm<|zn<|zk<|sim_block<|yl1 [4,38,39,40,41,42,43,44,45,46,47,48,49,50,51,52,53,54,55] 4 h fun σ w next h=>zs<|zs<|zr ?_
 refine zm<|yv h fun _ w h=>yv h fun _ w h=>yx h fun _ w h=>yb h fun _ w h=>zn<|zk<|yC h (fun h=>?_) fun h=>?_
 · refine sim_skip<|zk<|zs<|sim_block<|zs<|zr<|yv h fun _ w h=>yv h fun _ w h=>zm<|yv h fun _ w h=>yv h fun _ w h=>yc h c17 fun _ w h=>zn<|zk<|zr ?_
   refine yv h fun _ w h=>yv h fun _ w h=>zm<|yv h fun _ w h=>yv h fun _ w h=>yu h fun w h=>zn<|sim_block_normal<|zk<|zr<|zm<|yb h fun _ w h=>zm<|zn<|zk ?_
   exact ⟨rfl,h⟩
 exact sim_exit<|sim_then_exit<|sim_then_exit<|sim_block_hit<|body_normal<|body_ret0 rfl h
def n57c1 (t2 t3:Value) (ds:List Deferred) (R:RT) (w:World):Prop :=
 opV Pg (Instr.loadAt 26 t2) (outQ Pg ds [(some 26,t2),(some 33,t3)] R) w fun t25 w =>
 opU Pg (Instr.storeAt 26 t2 t25) (outQ Pg ds [(some 26,t2),(some 33,t3)] R) w fun w =>
 opU Pg (Instr.storeAt 33 t3 (.int .i64 0)) (outQ Pg ds [(some 26,t2),(some 33,t3)] R) w fun w =>
 outX Pg ds [(some 26,t2),(some 33,t3)] R w
def n57c2 (t0 t2 t3 t14:Value) (ds:List Deferred) (R:RT) (w:World):Prop :=
 opV Pg (Instr.extract t14 0) (outQ Pg ds [(some 26,t2),(some 33,t3)] R) w fun t15 w =>
 opV Pg (Instr.extract t14 1) (outQ Pg ds [(some 26,t2),(some 33,t3)] R) w fun t16 w =>
 opV Pg (binS .eql 33 true t16 (.int .i64 0)) (outQ Pg ds [(some 26,t2),(some 33,t3)] R) w fun t18 w =>
 joinK (fun (t22:Value) (w:World) =>
 pickK t18 t22 (.bool false) fun t23 =>
 callK Pg 52 #[t23] (outQ Pg ds [(some 26,t2),(some 33,t3)] R) w fun t24 w =>
 n57c1 t2 t3 ds R w) fun K1 =>
 guardP t18 true (
 opV Pg (binS .eql 9 false t15 t0) (outQ Pg ds [(some 26,t2),(some 33,t3)] R) w fun t22 w =>
 K1 t22 w) (
 K1 undef w)
def n57c3 (t0 t2 t3 t11:Value) (ds:List Deferred) (R:RT) (w:World):Prop :=
 opU Pg (Instr.storeAt 26 t2 t11) (outQ Pg ds [(some 26,t2),(some 33,t3)] R) w fun w =>
 opV Pg (Instr.loadAt 26 t2) (outQ Pg ds [(some 26,t2),(some 33,t3)] R) w fun t13 w =>
 callK Pg 26 #[t13] (outQ Pg ds [(some 26,t2),(some 33,t3)] R) w fun t14 w =>
 n57c2 t0 t2 t3 t14 ds R w
def n57 (t0:Value) (R:RT) (w:World):Prop :=
 (fun (ds:List Deferred) =>
 opV Pg (Instr.alloc 26 true (.tuple #[])) (outQ Pg ds [(some 26,undef),(some 33,undef)] R) w fun t2 w =>
 opV Pg (Instr.alloc 33 true (.tuple #[])) (outQ Pg ds [(some 26,t2),(some 33,undef)] R) w fun t3 w =>
 opV Pg (Instr.makeFunc (.func 50) #[] #[t2,t3]) (outQ Pg ds [(some 26,t2),(some 33,t3)] R) w fun t7 w =>
 defK Pg t7 #[] ds w fun ds w =>
 opV Pg (Instr.build 83 #[(0,t0)]) (outQ Pg ds [(some 26,t2),(some 33,t3)] R) w fun t9 w =>
 opV Pg (Instr.build 85 #[(0,t9)]) (outQ Pg ds [(some 26,t2),(some 33,t3)] R) w fun t10 w =>
 opV Pg (Instr.alloc 85 true (.tuple #[])) (outQ Pg ds [(some 26,t2),(some 33,t3)] R) w fun t4 w =>
 opU Pg (Instr.storeAt 85 t4 t10) (outQ Pg ds [(some 26,t2),(some 33,t3)] R) w fun w =>
 callK Pg 51 #[t4] (outQ Pg ds [(some 26,t2),(some 33,t3)] R) w fun t11 w =>
 n57c3 t0 t2 t3 t11 ds R w) []
theorem n57s {t0:Value} {R:RT} {w:World} (h:n57 t0 R w):Calls Pg 18 #[t0] w R:=by
 refine yE Tryz.func18 ?_
 unfold n57 at h
 dsimp only at h
 refine zs<|zr<|yv h fun _ w h=>yv h fun _ w h=>zn<|zk<|zs<|zr<|yF h fun _ w h=>?_
 refine sim_defer h rfl rfl ?_;intro ds w h
 refine zn<|zk<|zs<|zr<|zm<|yB h fun _ w h=>yB h fun _ w h=>yv h fun _ w h=>yu h fun w h=>zn<|zk<|zs<|zr<|yc h c51 fun _ w h=>yu h fun w h=>?_
 refine zn<|zk<|zs<|zr<|yv h fun _ w h=>yc h c26 fun _ w h=>zm<|yv h fun _ w h=>yv h fun _ w h=>zm<|zm<|zn<|zk<|zs<|sim_regionG ?_
 refine yG 3<|zm<|yb h fun _ w h=>zm<|zn<|yg1 3 2 true [20,21,22] 22 h (fun _ T hT h=>?_) fun σ w h=>?_
 · refine zm<|zm<|yb h fun _ w h=>zn ?_
   exact zt hT h
 exact yG 2<|yp h fun _ h=>yc h c52 fun _ w h=>zn<|sim_end<|zk<|zs<|zr<|yv h fun _ w h=>yu h fun w h=>yu h fun w h=>zn<|zk<|sim_ret<|bodyM_ret rfl h
theorem push_list:∀ (l:List UInt8) (r:ByteArray),(l.map fun c=>(c.toNat:Int)).foldl (fun r n=>r.push (UInt8.ofNat n.toNat)) r=⟨r.data++l.toArray⟩
 | [],r=>by simp
 | c::l,r=>by
  rw [List.map_cons,List.foldl_cons,push_list l]
  apply ByteArray.ext
  show (r.data.push (UInt8.ofNat ((c.toNat:Int)).toNat))++l.toArray=_
  rw [Int.toNat_natCast,UInt8.ofNat_toNat]
  simp
theorem op_bytesStr {w:World} {QP:List PanicEntry→World→Prop} {k:Value→World→Prop} {v:Value} {l:List UInt8} (h:BytesOf w v l):opV Pg (Go.convert 22 9 v) QP w k=k (.string ⟨l.toArray⟩) w:=by
 refine opV_ok ?_
 obtain ⟨A,c,rfl,_,_,_,hel⟩:=SliceOf.open h
 rw [run_convert_bytes_string w _ _ 5 _ _ _ Tryz.underlying22 Tryz.underlying5 Tryz.underlying9]
 cases l with
 | nil =>
  cases A with
  | none=>rfl
  | some a =>
   have:=run_bytesToString (P:=Pg) w a 0 c [] rfl
   exact this
 | cons x l =>
  obtain ⟨b,o,cs,rfl,_,_,_⟩:=hel 0 x rfl
  have hl:=run_loadCells_list (P:=Pg) (w:=w) ⟨b,o,none⟩ ((x::l).map fun c=>Value.int .u8 (c.toNat:Int)) fun j y hy=>by
   rw [List.getElem?_map] at hy
   obtain ⟨z,hz,rfl⟩:=Option.map_eq_some_iff.1 hy
   obtain ⟨b',o',cs',hA,_,hE,rfl⟩:=hel j z hz
   injection hA with hA
   injection hA with h1 h2
   subst h1 h2
   have:=hE 0 (.int .u8 z.toNat) rfl
   rw [Addr.add_lit]
   simpa using this
  have:=run_bytesToString (P:=Pg) w ⟨b,o,none⟩ (x::l).length c ((x::l).map fun c=>(c.toNat:Int)) (by
   rw [List.map_map]
   rw [List.length_map] at hl
   exact hl)
  rw [this,push_list]
  congr 2
  apply ByteArray.ext
  show (#[]:Array UInt8)++_=_
  simp
def shortN (n:Nd):Bool:=decide (n.name.size≤1000000000)&&decide (n.bytes.length≤1000000000)&&n.hdrs.all fun x=>decide (x.1.size≤1000000000)&&decide (x.2.size≤1000000000)
noncomputable def shortT:Tr→Bool:=allT shortN
theorem shortT_mk (n:Nd) (ps:List Tr):shortT (.mk n ps)=true↔shortN n=true∧∀ p∈ps,shortT p=true:=by
 unfold shortT
 rw [allT_mk,Bool.and_eq_true,List.all_eq_true]
theorem shortN_iff {n:Nd} (h:shortN n=true):n.name.size≤1000000000∧n.bytes.length≤1000000000∧ShortH n.hdrs:=by
 unfold shortN at h
 rw [Bool.and_eq_true,Bool.and_eq_true,decide_eq_true_iff,decide_eq_true_iff,List.all_eq_true] at h
 refine ⟨h.1.1,h.1.2,fun x hx=>?_⟩
 have:=h.2 x hx
 rw [Bool.and_eq_true,decide_eq_true_iff,decide_eq_true_iff] at this
 exact this
theorem cmpN_or (a b:Nd):cmpN a b=if cmpS a.name b.name=0 then (if Go.Lib.compareInt a.int b.int=0 then (if Go.Lib.compareBytes a.bytes b.bytes=0 then listsC cmpH a.hdrs b.hdrs else Go.Lib.compareBytes a.bytes b.bytes) else Go.Lib.compareInt a.int b.int) else cmpS a.name b.name:=by
 unfold cmpN
 simp only [orI]
 split
 · split
   · split
     · split
       · rename_i h;exact h.symm
       · rfl
     · rfl
   · rfl
 · rfl
theorem rCompare_ret (t:Tr):∀ (w0:World) (u v:Value) (s:Tr),ValAt w0 u t→ValAt w0 v s→shortT t=true→shortT s=true→Ret Pg 15 #[u,v] w0 fun r w'=>r = .int .i64 (cmpT t s)∧Ext w0 w':=by
 refine Tr.ind (p:=fun t=>∀ (w0:World) (u v:Value) (s:Tr),ValAt w0 u t→ValAt w0 v s→shortT t=true→shortT s=true→Ret Pg 15 #[u,v] w0 fun r w'=>r = .int .i64 (cmpT t s)∧Ext w0 w') ?_ t
 intro n ps ih w0 u v s hu hv ht hs
 obtain ⟨bv1,hv1,pv1,rfl,f1,f2,f3,f4,f5,f6⟩:=hu.op
 obtain ⟨bv2,hv2,pv2,rfl,g1,g2,g3,g4,g5,g6⟩:=hv.op
 simp only [Tr.nd,Tr.ps] at f1 f2 f3
 obtain ⟨ht1,ht2⟩:=(shortT_mk n ps).1 ht
 have hs':shortN s.nd=true∧∀ p∈s.ps,shortT p=true:=by cases s;exact (shortT_mk _ _).1 hs
 obtain ⟨hs1,hs2⟩:=hs'
 obtain ⟨n1,n2,n3⟩:=shortN_iff ht1
 obtain ⟨m1,m2,m3⟩:=shortN_iff hs1
 obtain ⟨A1,c1,rfl,_,_,_,hel1⟩:=SliceOf.open f3
 obtain ⟨A2,c2,rfl,_,_,_,hel2⟩:=SliceOf.open g3
 rw [cmpT_mk]
 show Ret _ _ #[.agg (trCells n bv1 hv1 (.slice A1 ps.length c1)).toArray,_] _ _
 refine n19s (R:=retR _) ?_;unfold n19
 rw [op_boxA]
 have h0:=heap_new w0 (trCells n bv1 hv1 (.slice A1 ps.length c1)).toArray 26
 have e0:Ext w0 (w0.alloc (.cells (trCells n bv1 hv1 (.slice A1 ps.length c1)).toArray 26)):=ee
 generalize (w0.alloc (.cells (trCells n bv1 hv1 (.slice A1 ps.length c1)).toArray 26))=X at h0 e0 ⊢
 generalize w0.heap.size=p1 at h0 ⊢
 rw [op_boxA]
 have h1:=heap_new X (trCells s.nd bv2 hv2 (.slice A2 s.ps.length c2)).toArray 26
 have e1:Ext X (X.alloc (.cells (trCells s.nd bv2 hv2 (.slice A2 s.ps.length c2)).toArray 26)):=ee
 generalize (X.alloc (.cells (trCells s.nd bv2 hv2 (.slice A2 s.ps.length c2)).toArray 26))=W at h1 e1 ⊢
 generalize X.heap.size=p2 at h1 ⊢
 have h0:=e1.obj h0
 have E1:=e0.trans e1
 generalize hres:(if cmpN n s.nd=0 then listsC cmpT ps s.ps else cmpN n s.nd)=res
 have fin:∀ (w5:World) (z:Int) (k:Nat),Ext W w5→k≤ps.length→k≤s.ps.length→(z=0→k=ps.length∨k=s.ps.length)→(if z=0 then listsC cmpT (ps.drop k) (s.ps.drop k) else z)=res→n19c3 (.pointer (some ⟨p1,0,none⟩)) (.pointer (some ⟨p2,0,none⟩)) (.int .i64 z) (retR fun r w'=>r = .int .i64 res∧Ext w0 w') w5:=by
  intro w5 z k e5 hk hl hz hr
  unfold n19c3
  by_cases h:z=0
  · have d:(z == 0)=true:=by simp [h]
    rw [if_pos h] at hr
    simp (disch:=try exact DI) only [↓PR,QR,simprocAttr,d,↓n19c1,↓n19c2,↓n19c3,↓n19c4,↓n19c5,↓n19c6,↓n19c7,↓n19c8,↓n19c9,↓n19c10,↓n19c11,(cells_of_heap (e5.obj h0)).1,(cells_of_heap (e5.obj h1)).1]
    refine zcr (rints_ret _ _ _) fun w6 e6=>?_
    simp (disch:=try exact DI) only [↓PR,QR,simprocAttr]
    exact ⟨by rw [← hr,lists_stop cmpT hk hl (hz h)],E1.trans (e5.trans e6)⟩
  · have d:(z == 0)=false:=by simp [h]
    rw [if_neg h] at hr
    simp (disch:=try exact DI) only [↓PR,QR,simprocAttr,d]
    exact ⟨by rw [hr],E1.trans e5⟩
 have loop:∀ (w4:World) (z:Int),Ext W w4→z=cmpN n s.nd→loop2 (fun t2005 t6 w next4=>n19c5 (.pointer (some ⟨p1,0,none⟩)) (.pointer (some ⟨p2,0,none⟩)) t6 t2005 next4 (retR fun r w'=>r = .int .i64 res∧Ext w0 w') w) (.int .i64 z) (.int .i64 0) w4:=by
  intro w4 z e4 hz
  refine loop2_intro (fun c i w=>∃ (z:Int) (k:Nat),c = .int .i64 z∧i = .int .i64 k∧k≤ps.length∧k≤s.ps.length∧Ext W w∧(if z=0 then listsC cmpT (ps.drop k) (s.ps.drop k) else z)=res) (fun _ i _=>ps.length - (intOf i).toNat) ⟨z,0,rfl,rfl,by omega,by omega,e4,by rw [hz];exact hres⟩ ?_
  rintro _ _ w ⟨z,k,rfl,rfl,hk,hl,e,hr⟩
  unfold n19c5
  by_cases h:z=0
  case neg =>
   have d:(z == 0)=false:=by simp [h]
   simp (disch:=try exact DI) only [↓PR,QR,simprocAttr,d,↓n19c4]
   exact fin w z k e hk hl (fun h'=>absurd h' h) hr
  have d:(z == 0)=true:=by simp [h]
  by_cases q1:k < ps.length
  case neg =>
   have d1:decide ((k:Int) < (ps.length:Int))=false:=decide_eq_false (by omega)
   simp (disch:=try exact DI) only [↓PR,QR,simprocAttr,d,d1,↓n19c4,(cells_of_heap (e.obj h0)).1]
   exact fin w z k e hk hl (fun _=>by omega) hr
  have d1:decide ((k:Int) < (ps.length:Int))=true:=decide_eq_true (by omega)
  by_cases q2:k < s.ps.length
  case neg =>
   have d2:decide ((k:Int) < (s.ps.length:Int))=false:=decide_eq_false (by omega)
   simp (disch:=try exact DI) only [↓PR,QR,simprocAttr,d,d1,d2,↓n19c4,(cells_of_heap (e.obj h0)).1,(cells_of_heap (e.obj h1)).1]
   exact fin w z k e hk hl (fun _=>by omega) hr
  have d2:decide ((k:Int) < (s.ps.length:Int))=true:=decide_eq_true (by omega)
  obtain ⟨x,hx⟩:=getElem?_lt q1
  obtain ⟨y,hy⟩:=getElem?_lt q2
  obtain ⟨b1,o1,cs1,rfl,hl1,hA1,hE1⟩:=hel1 k x hx
  obtain ⟨b2,o2,cs2,rfl,hl2,hA2,hE2⟩:=hel2 k y hy
  obtain ⟨xb,xh,xp,rfl,x1,x2,x3,x4,x5,x6⟩:=hE1.op
  obtain ⟨yb,yh,yp,rfl,y1,y2,y3,y4,y5,y6⟩:=hE2.op
  have dk1:(k:Int) < (ps.length:Int):=by omega
  have dk2:(k:Int) < (s.ps.length:Int):=by omega
  have hw:IntKind.i64.wrap ((k:Int)+1)=((k+1:Nat):Int):=by rw [wrap_ok (by omega) (by omega)];omega
  rw [if_pos h,lists_step cmpT hx hy] at hr
  simp (disch:=try exact DI) only [↓PR,QR,simprocAttr,d,d1,d2,↓n19c4,(cells_of_heap (e.obj h0)).1,(cells_of_heap (e.obj h1)).1]
  refine drawK_intro ?_
  have eD:Ext W w.drew:=e.trans (Ext.refl w).drew
  change n19c1 _ _ _ (EC w.drew) _ _ w.drew
  generalize w.drew=D at *
  have ED:=E1.trans eD
  unfold n19c1
  simp (disch:=try exact DI) only [↓PR,QR,simprocAttr,(cells_of_heap (eD.obj h0)).1,(cells_of_heap (eD.obj h1)).1,dk1,dk2,hA1.c5 ED,hA2.c5 ED]
  refine zcr (ih x (List.mem_of_getElem? hx) D _ _ y (ValAt.ext ⟨xb,xh,xp,rfl,x1,x2,x3⟩ ED) (ValAt.ext ⟨yb,yh,yp,rfl,y1,y2,y3⟩ ED) (ht2 x (List.mem_of_getElem? hx)) (hs2 y (List.mem_of_getElem? hy))) fun w6 e6=>?_
  refine ⟨e6,?_⟩
  simp (disch:=try exact DI) only [↓PR,QR,simprocAttr,hw]
  exact ⟨⟨cmpT x y,k+1,rfl,rfl,by omega,by omega,eD.trans e6,hr⟩,meas_lt (kd := .i64) q1⟩
 simp (disch:=try exact DI) only [↓PR,QR,simprocAttr,(cells_of_heap h0).1,(cells_of_heap h1).1]
 refine zcr (rtexts_ret W n.name s.nd.name n1 m1) fun w1 d1=>?_
 unfold n19c11
 have hN:=cmpN_or n s.nd
 by_cases z1:cmpS n.name s.nd.name=0
 case neg =>
  have b1:(cmpS n.name s.nd.name == 0)=false:=by simp [z1]
  rw [if_neg z1] at hN
  simp (disch:=try exact DI) only [↓PR,QR,simprocAttr,b1,↓n19c9,↓n19c7]
  exact loop w1 _ d1 hN.symm
 have b1:(cmpS n.name s.nd.name == 0)=true:=by simp [z1]
 rw [if_pos z1] at hN
 simp (disch:=try exact DI) only [↓PR,QR,simprocAttr,b1,↓n19c10,(cells_of_heap (d1.obj h0)).1,(cells_of_heap (d1.obj h1)).1]
 refine zcr (rints_ret w1 n.int s.nd.int) fun w2 d2=>?_
 have D2:=d1.trans d2
 unfold n19c9
 by_cases z2:Go.Lib.compareInt n.int s.nd.int=0
 case neg =>
  have b2:(Go.Lib.compareInt n.int s.nd.int == 0)=false:=by simp [z2]
  rw [if_neg z2] at hN
  simp (disch:=try exact DI) only [↓PR,QR,simprocAttr,b2,↓n19c7]
  exact loop w2 _ D2 hN.symm
 have b2:(Go.Lib.compareInt n.int s.nd.int == 0)=true:=by simp [z2]
 rw [if_pos z2] at hN
 simp (disch:=try exact DI) only [↓PR,QR,simprocAttr,b2,↓n19c8,(cells_of_heap (D2.obj h0)).1,(cells_of_heap (D2.obj h1)).1,op_bytesStr (f1.ext (E1.trans D2)),op_bytesStr (g1.ext (E1.trans D2))]
 refine zcr (rtexts_ret w2 ⟨n.bytes.toArray⟩ ⟨s.nd.bytes.toArray⟩ (by show n.bytes.toArray.size≤_;simpa using n2) (by show s.nd.bytes.toArray.size≤_;simpa using m2)) fun w3 d3=>?_
 have D3:=D2.trans d3
 have hcb:cmpS ⟨n.bytes.toArray⟩ ⟨s.nd.bytes.toArray⟩=Go.Lib.compareBytes n.bytes s.nd.bytes:=by unfold cmpS;simp
 rw [hcb]
 unfold n19c7
 by_cases z3:Go.Lib.compareBytes n.bytes s.nd.bytes=0
 case neg =>
  have b3:(Go.Lib.compareBytes n.bytes s.nd.bytes == 0)=false:=by simp [z3]
  rw [if_neg z3] at hN
  simp (disch:=try exact DI) only [↓PR,QR,simprocAttr,b3]
  exact loop w3 _ D3 hN.symm
 have b3:(Go.Lib.compareBytes n.bytes s.nd.bytes == 0)=true:=by simp [z3]
 rw [if_pos z3] at hN
 simp (disch:=try exact DI) only [↓PR,QR,simprocAttr,b3,↓n19c6,(cells_of_heap (D3.obj h0)).1,(cells_of_heap (D3.obj h1)).1]
 refine zcr (rheaders_ret w3 _ _ n.hdrs s.nd.hdrs (f2.ext (E1.trans D3)) (g2.ext (E1.trans D3)) n3 m3) fun w4 d4=>?_
 exact loop w4 _ (D3.trans d4) hN.symm
theorem rEqual_ret (w0:World) (u v:Value) (t s:Tr) (hu:ValAt w0 u t) (hv:ValAt w0 v s) (ht:shortT t=true) (hs:shortT s=true):Ret Pg 13 #[u,v] w0 fun r w'=>r = .bool (decide (cmpT t s=0))∧Ext w0 w':=by
 obtain ⟨bv1,hv1,pv1,rfl,f1,f2,f3,f4,f5,f6⟩:=hu.op
 obtain ⟨bv2,hv2,pv2,rfl,g1,g2,g3,g4,g5,g6⟩:=hv.op
 refine n20s (R:=retR _) ?_;unfold n20
 rw [op_boxA]
 have h0:=heap_new w0 (trCells t.nd bv1 hv1 pv1).toArray 26
 have e0:Ext w0 (w0.alloc (.cells (trCells t.nd bv1 hv1 pv1).toArray 26)):=ee
 generalize (w0.alloc (.cells (trCells t.nd bv1 hv1 pv1).toArray 26))=X at h0 e0 ⊢
 generalize w0.heap.size=p1 at h0 ⊢
 rw [op_boxA]
 have h1:=heap_new X (trCells s.nd bv2 hv2 pv2).toArray 26
 have e1:Ext X (X.alloc (.cells (trCells s.nd bv2 hv2 pv2).toArray 26)):=ee
 generalize (X.alloc (.cells (trCells s.nd bv2 hv2 pv2).toArray 26))=W at h1 e1 ⊢
 generalize X.heap.size=p2 at h1 ⊢
 have h0:=e1.obj h0
 have E1:=e0.trans e1
 simp (disch:=try exact DI) only [↓PR,QR,simprocAttr,(cells_of_heap h0).1,(cells_of_heap h1).1]
 refine zcr (rCompare_ret t W _ _ s (ValAt.ext ⟨bv1,hv1,pv1,rfl,f1,f2,f3⟩ E1) (ValAt.ext ⟨bv2,hv2,pv2,rfl,g1,g2,g3⟩ E1) ht hs) fun w1 e2=>?_
 simp (disch:=try exact DI) only [↓PR,QR,simprocAttr]
 exact ⟨by by_cases h:cmpT t s=0<;>simp [h],E1.trans e2⟩
theorem lasts2_marks {B:Nat} {bs:List Nat} (h:∀ b∈bs,b < B):Lasts2 B (fun w=>∀ b∈bs,MarkAt b w):=fun w w' hl hm b hb=>Lasts2.low (h b hb) _ w w' hl (hm b hb)
theorem outs_lasts {B:Nat} {Q:World→Prop} (hQ:Lasts2 B Q) {L:List (Option TypeId×Value)} {R:RT} {bs:List Nat} (hk:∀ w,Q w→outX Pg [] L R w):∀ {w:World},bs.Nodup→(∀ b∈bs,MarkAt b w)→(∀ b∈bs,B≤b)→Q w→outX Pg (bs.map Sw.mark) L R w:=by
 induction bs with
 | nil=>exact fun _ _ _ h=>hk _ h
 | cons b bs ih =>
  intro w hn hm hB h
  obtain ⟨hb,hn'⟩:=List.nodup_cons.1 hn
  have hmb:=hm b (List.mem_cons_self ..)
  refine outX_mark hmb (ih hn' (fun c hc=>?_) (fun c hc=>hB c (List.mem_cons_of_mem _ hc)) (hQ.mark (hB b (List.mem_cons_self ..)) h hmb _))
  exact (World.putObj_heap_other (fun (e:c=b)=>hb (by rw [← e];exact hc))).trans (hm c (List.mem_cons_of_mem _ hc))
theorem outq_lasts {B:Nat} {Q:World→Prop} (hQ:Lasts2 B Q) {L:List (Option TypeId×Value)} {R:RT} {ch:List PanicEntry} {bs:List Nat} (hk:∀ w,Q w→R (.panicked ch) w):∀ {w:World},bs.Nodup→(∀ b∈bs,MarkAt b w)→(∀ b∈bs,B≤b)→Q w→outQ Pg (bs.map Sw.mark) L R ch w:=by
 induction bs with
 | nil=>intro w _ _ _ h;rw [List.map_nil,outQ_nil];exact hk _ h
 | cons b bs ih =>
  intro w hn hm hB h
  obtain ⟨hb,hn'⟩:=List.nodup_cons.1 hn
  have hmb:=hm b (List.mem_cons_self ..)
  refine outQ_mark hmb (ih hn' (fun c hc=>?_) (fun c hc=>hB c (List.mem_cons_of_mem _ hc)) (hQ.mark (hB b (List.mem_cons_self ..)) h hmb _))
  exact (World.putObj_heap_other (fun (e:c=b)=>hb (by rw [← e];exact hc))).trans (hm c (List.mem_cons_of_mem _ hc))
def offL {α:Type _} (LL:List (List α)) (k:Nat):Nat:=((LL.take k).map List.length).sum
theorem offL_succ {α:Type _} {LL:List (List α)} {k:Nat} {l:List α} (h:LL[k]?=some l):offL LL (k+1)=offL LL k+l.length:=by
 unfold offL
 rw [List.take_add_one,h]
 simp
theorem offL_all {α:Type _} (LL:List (List α)):offL LL LL.length=LL.flatten.length:=by
 unfold offL
 rw [List.take_length,List.length_flatten]
theorem flat_at {α:Type _}:∀ {LL:List (List α)} {k:Nat} {l:List α} {j:Nat},LL[k]?=some l→j < l.length→LL.flatten[offL LL k+j]?=l[j]?
 | [],k,l,j,h,_=>by simp at h
 | a::LL,0,l,j,h,hj=>by
  simp only [List.getElem?_cons_zero,Option.some.injEq] at h
  subst h
  simp [offL,List.getElem?_append_left hj]
 | a::LL,k+1,l,j,h,hj=>by
  have:=flat_at (LL:=LL) (k:=k) (l:=l) (j:=j) (by simpa using h) hj
  unfold offL at this ⊢
  rw [List.take_succ_cons,List.map_cons,List.sum_cons,List.flatten_cons,Nat.add_assoc,List.getElem?_append_right (by omega),Nat.add_sub_cancel_left]
  exact this
theorem offL_le {α:Type _} {LL:List (List α)} {k:Nat} {l:List α} (h:LL[k]?=some l):offL LL k+l.length≤LL.flatten.length:=by
 rw [← offL_succ h,← offL_all]
 unfold offL
 have hk:k < LL.length:=(List.getElem?_eq_some_iff.1 h).1
 rw [List.take_length]
 have:(LL.map List.length).sum=((LL.take (k+1)).map List.length).sum+((LL.drop (k+1)).map List.length).sum:=by
  rw [← List.sum_append_nat,← List.map_append,List.take_append_drop]
 omega
theorem offL_congr {α β:Type _} {A:List (List α)} {B:List (List β)} (h:A.map List.length=B.map List.length) (k:Nat):offL A k=offL B k:=by
 unfold offL
 rw [List.map_take,List.map_take,h]
def xsE (L:List (Nat×Tr)) (k:Nat):Value:=match L[k]? with
 | some x => .int .i64 (x.1:Int)
 | none => .int .i64 0
def ysE (vs:List Value) (k:Nat):Value:=(vs[k]?).getD (.int .i64 0)
theorem xsE_congr {L L':List (Nat×Tr)} {k k':Nat} (h:L[k]?=L'[k']?):xsE L k=xsE L' k':=by unfold xsE;rw [h]
theorem ysE_congr {L L':List Value} {k k':Nat} (h:L[k]?=L'[k']?):ysE L k=ysE L' k':=by unfold ysE;rw [h]
def Hold (W:World) (vs:List Value) (L:List (Nat×Tr)):Prop:=vs.length=L.length∧∀ (k:Nat) (v:Value) (x:Nat×Tr),vs[k]?=some v→L[k]?=some x→ValAt W v x.2
theorem Hold.at {W:World} {vs:List Value} {L:List (Nat×Tr)} (h:Hold W vs L) {k:Nat} (hk:k < L.length):∃ x,L[k]?=some x∧xsE L k = .int .i64 (x.1:Int)∧ValAt W (ysE vs k) x.2:=by
 obtain ⟨x,hx⟩:=getElem?_lt hk
 obtain ⟨v,hv⟩:=getElem?_lt (l:=vs) (k:=k) (by rw [h.1];exact hk)
 refine ⟨x,hx,by unfold xsE;rw [hx],?_⟩
 unfold ysE
 rw [hv]
 exact h.2 k v x hv hx
theorem Hold.cons {W:World} {v:Value} {t:Tr} {a:Nat} {vss:List (List Value)} {LL:List (List (Nat×Tr))} (h:ValAt W v t) (hl:vss.length=LL.length) (hH:∀ (k:Nat) (vs:List Value) (L:List (Nat×Tr)),vss[k]?=some vs→LL[k]?=some L→Hold W vs L):Hold W (v::vss.flatten) ((a,t)::LL.flatten):=by
 have key:∀ (vss:List (List Value)) (LL:List (List (Nat×Tr))),vss.length=LL.length→(∀ (k:Nat) (vs:List Value) (L:List (Nat×Tr)),vss[k]?=some vs→LL[k]?=some L→Hold W vs L)→Hold W vss.flatten LL.flatten:=by
  intro vss
  induction vss with
  | nil =>
   intro LL hl _
   have:LL=[]:=List.eq_nil_of_length_eq_zero (by simpa using hl.symm)
   subst this
   exact ⟨rfl,fun k v x hv=>by cases hv⟩
  | cons vs vss ih =>
   intro LL hl hH
   cases LL with
   | nil=>cases hl
   | cons L LL =>
    have h0:=hH 0 vs L rfl rfl
    have h1:=ih LL (by simpa using hl) fun k a b ha hb=>hH (k+1) a b (by simpa using ha) (by simpa using hb)
    refine ⟨by rw [List.flatten_cons,List.flatten_cons,List.length_append,List.length_append,h0.1,h1.1],fun k v x hv hx=>?_⟩
    rw [List.flatten_cons] at hv hx
    rcases Nat.lt_or_ge k L.length with hk | hk
    · rw [List.getElem?_append_left (by rw [h0.1];exact hk)] at hv
      rw [List.getElem?_append_left hk] at hx
      exact h0.2 k v x hv hx
    · rw [List.getElem?_append_right (by rw [h0.1];exact hk),h0.1] at hv
      rw [List.getElem?_append_right hk] at hx
      exact h1.2 _ v x hv hx
 have h1:=key vss LL hl hH
 refine ⟨by rw [List.length_cons,List.length_cons,h1.1],fun k u x hv hx=>?_⟩
 cases k with
 | zero =>
  simp only [List.getElem?_cons_zero,Option.some.injEq] at hv hx
  subst hv hx
  exact h
 | succ k=>exact h1.2 k u x (by simpa using hv) (by simpa using hx)
def EaAt (W:World) (p1 p2 a:Nat) (cs:Array Value) (w:World):Prop:=Ext W w∧w.heap[p1]?=some (.cells #[.int .i64 (a:Int)] 3 (0,0))∧w.heap[p2]?=some (.cells cs 26 (0,0))
def EachSeq (W:World) (v:Value) (t:Tr) (a:Nat) (vs:List Value):Prop:=∀ p1 p2 cs,v = .agg cs→SeqIt2 Pg 85 #[.pointer (some ⟨p1,0,none⟩),.pointer (some ⟨p2,0,none⟩)] (eachT t a).length (xsE (eachT t a)) (ysE vs) (EaAt W p1 p2 a cs)
def n84c1 (t4 t9:Value) (Kr1:World→Prop) (Qr1:List PanicEntry→World→Prop) (R:RT) (w:World):Prop :=
 opV Pg (Instr.loadAt 120 t4) Qr1 w fun t51 w =>
 opV Pg (Instr.loadAt 106 t9) Qr1 w fun t52 w =>
 opV Pg (Instr.buildSlice 120 1 #[(0,t52)]) Qr1 w fun t53 w =>
 opV Pg (Builtin.append_ #[120,120] 120 #[t51,t53]) Qr1 w fun t54 w =>
 opU Pg (Instr.storeAt 120 t4 t54) Qr1 w fun w =>
 Kr1 w
def n84c2 (t2 t3 t4 t9 t49:Value) (Kr1:World→Prop) (Qr1:List PanicEntry→World→Prop) (Xr1:Nat→World→Prop) (R:RT) (w:World):Prop :=
 opV Pg (Op.unary .not t49) Qr1 w fun t50 w =>
 condP t50 (
 opU Pg (Instr.storeAt 120 t2 (Value.slice none 0 0)) Qr1 w fun w =>
 opU Pg (Instr.storeAt 4 t3 (.bool false)) Qr1 w fun w =>
 Xr1 0 w) (
 n84c1 t4 t9 Kr1 Qr1 R w)
def n84c3 (t9 t41:Value) (K2:World→Prop) (Qr1:List PanicEntry→World→Prop) (R:RT) (w:World):Prop :=
 opV Pg (Instr.extract t41 0) Qr1 w fun t42 w =>
 opV Pg (Instr.extract t41 1) Qr1 w fun t43 w =>
 opV Pg (binS .eql 113 true t43 .nilIface) Qr1 w fun t45 w =>
 condP t45 (
 opV Pg (Instr.fieldAt 106 t9 1) Qr1 w fun t47 w =>
 opU Pg (Instr.storeAt 3 t47 t42) Qr1 w fun w =>
 K2 w) (
 K2 w)
def n84c4 (t9 t21:Value) (K2:World→Prop) (Qr1:List PanicEntry→World→Prop) (R:RT) (w:World):Prop :=
 opV Pg (Instr.fieldAt 106 t9 1) Qr1 w fun t38 w =>
 opU Pg (Instr.storeAt 3 t38 (.int .i64 65536)) Qr1 w fun w =>
 callK Pg 75 #[t21] Qr1 w fun t41 w =>
 n84c3 t9 t41 K2 Qr1 R w
def n84c5 (t2 t3 t9 t21 t32 t36:Value) (K2:World→Prop) (Qr1:List PanicEntry→World→Prop) (Xr1:Nat→World→Prop) (R:RT) (w:World):Prop :=
 pickK t32 (.bool true) t36 fun t37 =>
 condP t37 (
 opU Pg (Instr.storeAt 120 t2 (Value.slice none 0 0)) Qr1 w fun w =>
 opU Pg (Instr.storeAt 4 t3 (.bool false)) Qr1 w fun w =>
 Xr1 0 w) (
 n84c4 t9 t21 K2 Qr1 R w)
def n84c6 (t2 t3 t9 t21 t28 t31:Value) (K2:World→Prop) (Qr1:List PanicEntry→World→Prop) (Xr1:Nat→World→Prop) (R:RT) (w:World):Prop :=
 pickK t28 (.bool true) t31 fun t32 =>
 joinK (fun (t36:Value) (w:World) =>
 n84c5 t2 t3 t9 t21 t32 t36 K2 Qr1 Xr1 R w) fun K4 =>
 guardP t32 false (
 opV Pg (Instr.index 9 t21 (.int .i64 0)) Qr1 w fun t35 w =>
 opV Pg (binS .eql 5 true t35 (.int .u8 48)) Qr1 w fun t36 w =>
 K4 t36 w) (
 K4 undef w)
def n84c7 (t2 t3 t9 t21 t27:Value) (K2:World→Prop) (Qr1:List PanicEntry→World→Prop) (Xr1:Nat→World→Prop) (R:RT) (w:World):Prop :=
 opV Pg (binS .neq 9 true t27 (.string { data := #[] })) Qr1 w fun t28 w =>
 joinK (fun (t31:Value) (w:World) =>
 n84c6 t2 t3 t9 t21 t28 t31 K2 Qr1 Xr1 R w) fun K3 =>
 guardP t28 false (
 opV Pg (binS .eql 9 true t21 (.string { data := #[] })) Qr1 w fun t31 w =>
 K3 t31 w) (
 K3 undef w)
def n84c8 (t2 t3 t4 t19:Value) (Kr1:World→Prop) (Qr1:List PanicEntry→World→Prop) (Xr1:Nat→World→Prop) (R:RT) (w:World):Prop :=
 opV Pg (Instr.extract t19 0) Qr1 w fun t20 w =>
 opV Pg (Instr.extract t19 1) Qr1 w fun t21 w =>
 opV Pg (Instr.extract t19 2) Qr1 w fun t22 w =>
 opV Pg (Instr.build 106 #[(0,t20)]) Qr1 w fun t24 w =>
 opV Pg (Instr.alloc 106 true (.tuple #[])) Qr1 w fun t9 w =>
 opU Pg (Instr.storeAt 106 t9 t24) Qr1 w fun w =>
 joinK (fun (w:World) =>
 callK Pg 73 #[t20] Qr1 w fun t49 w =>
 n84c2 t2 t3 t4 t9 t49 Kr1 Qr1 Xr1 R w) fun K2 =>
 condP t22 (
 callK Pg 108 #[t21,(.string { data := #[48,49,50,51,52,53,54,55,56,57] })] Qr1 w fun t27 w =>
 n84c7 t2 t3 t9 t21 t27 K2 Qr1 Xr1 R w) (
 K2 w)
def n84c9 (t2 t3 t4:Value) (ds:List Deferred) (R:RT) (w:World):Prop :=
 opV Pg (Instr.loadAt 120 t4) (outQ Pg ds [(some 120,t2),(some 4,t3)] R) w fun t55 w =>
 opU Pg (Instr.storeAt 120 t2 t55) (outQ Pg ds [(some 120,t2),(some 4,t3)] R) w fun w =>
 opU Pg (Instr.storeAt 4 t3 (.bool true)) (outQ Pg ds [(some 120,t2),(some 4,t3)] R) w fun w =>
 outX Pg ds [(some 120,t2),(some 4,t3)] R w
def n84c10 (t2 t3 t4 t15:Value) (ds:List Deferred) (R:RT) (w:World):Prop :=
 Sw.rangeN8 Pg t15 ds (fun l1 t16 w Kr1 Xr1 Qr1 =>
 busyK l1 w fun w =>
 callK Pg 107 #[t16,(.string { data := #[58] })] Qr1 w fun t19 w =>
 n84c8 t2 t3 t4 t19 Kr1 Qr1 Xr1 R w) (fun ch ds w=>outQ Pg ds [(some 120,t2),(some 4,t3)] R ch w) w (fun ds w =>
 n84c9 t2 t3 t4 ds R w) [fun ds w =>
 outX Pg ds [(some 120,t2),(some 4,t3)] R w]
def n84c11 (t2 t3:Value) (ds:List Deferred) (R:RT) (w:World):Prop :=
 opU Pg (Instr.storeAt 120 t2 (Value.slice none 0 0)) (outQ Pg ds [(some 120,t2),(some 4,t3)] R) w fun w =>
 opU Pg (Instr.storeAt 4 t3 (.bool true)) (outQ Pg ds [(some 120,t2),(some 4,t3)] R) w fun w =>
 outX Pg ds [(some 120,t2),(some 4,t3)] R w
def n84c12 (t0 t2 t3:Value) (ds:List Deferred) (R:RT) (w:World):Prop :=
 opV Pg (Instr.alloc 120 true (.tuple #[])) (outQ Pg ds [(some 120,t2),(some 4,t3)] R) w fun t4 w =>
 callK Pg 106 #[t0,(.string { data := #[46] })] (outQ Pg ds [(some 120,t2),(some 4,t3)] R) w fun t15 w =>
 n84c10 t2 t3 t4 t15 ds R w
def n84 (t0:Value) (R:RT) (w:World):Prop :=
 (fun (ds:List Deferred) =>
 opV Pg (Instr.alloc 120 true (.tuple #[])) (outQ Pg ds [(some 120,undef),(some 4,undef)] R) w fun t2 w =>
 opV Pg (Instr.alloc 4 true (.tuple #[])) (outQ Pg ds [(some 120,t2),(some 4,undef)] R) w fun t3 w =>
 opV Pg (binS .eql 9 true t0 (.string { data := #[] })) (outQ Pg ds [(some 120,t2),(some 4,t3)] R) w fun t13 w =>
 condP t13 (
 n84c11 t2 t3 ds R w) (
 n84c12 t0 t2 t3 ds R w)) []
set_option maxHeartbeats 40000000 in
theorem n84s {t0:Value} {R:RT} {w:World} (h:n84 t0 R w):Calls Pg 81 #[t0] w R:=by
 refine yE Tryz.func81 ?_
 unfold n84 at h
 dsimp only at h
 refine zs<|zr<|yv h fun _ w h=>yv h fun _ w h=>zn<|zk<|zs<|zs<|zr<|zm<|yb h fun _ w h=>zn<|zk<|yC h (fun h=>zs<|zr<|yu h fun w h=>yu h fun w h=>zn<|zk<|sim_ret<|sim_then_ret<|bodyM_ret rfl h) fun h=>?_
 refine sim_skip<|zk<|zs<|zr<|yv h fun _ w h=>zn<|zk<|zs<|zs<|zr<|zm<|yc h c106 fun _ w h=>zn<|zk<|sim_block ?_
 refine sim_range8 [.ret] h rfl (fun l1 t16 w Kr1 Xr1 Qr1 h=>?_) (fun ds w h=>?_) (fun c ds w h=>?_) (fun ch ds w h=>outQ_of rfl h)
 · refine zr<|zm<|zn<|zk ?_
   obtain ⟨hr,h⟩:=h
   refine ⟨rfl,hr,fun w hb=>?_⟩
   have h:=h w hb
   refine sim_block<|zs<|zr<|zm<|yc h c107 fun _ w h=>zm<|yv h fun _ w h=>yv h fun _ w h=>yv h fun _ w h=>zm<|zm<|zm<|zn<|zk<|zs ?_
   refine zr<|zm<|yB h fun _ w h=>yv h fun _ w h=>yu h fun w h=>zn<|zk<|zs<|zs<|zr<|zm<|zn<|zk<|yJ0 [10,11,26,27,28,29,30,31,32,33,34,35,36,37,38,39,40,41,42,43,44,45,46,47] h (fun _ _ hkK2 h=>?_) fun σ w h=>?_
   · refine yC h (fun h=>?_) fun h=>?_
     · refine zs<|zs<|sim_regionG<|yG 4<|zm<|yc h c108 fun _ w h=>yb h fun _ w h=>zm<|zn<|yg1 2 3 false [30,31] 31 h (fun _ T hT h=>?_) fun σ w h=>?_
       · refine zm<|yb h fun _ w h=>zn ?_
         exact zt hT h
       refine yG 2<|yp h fun _ h=>zm<|zn<|yg1 3 7 false [34,35,36] 36 h (fun _ T hT h=>?_) fun σ w h=>?_
       · refine zm<|yv h fun _ w h=>yb h fun _ w h=>zn ?_
         exact zt hT h
       refine yG 1<|yp h fun _ h=>zn<|sim_end<|zk<|yC h (fun h=>zs<|zr<|yu h fun w h=>yu h fun w h=>zn<|zk<|sim_ret<|sim_then_ret<|sim_then_ret<|sim_then_ret<|sim_block_ret<|⟨rfl,0,rfl,h⟩) fun h=>sim_skip<|zk<|zs<|zr<|yv h fun _ w h=>yu h fun w h=>zn<|zk ?_
       refine zs<|zr<|zm<|yc h c75 fun _ w h=>zm<|yv h fun _ w h=>yv h fun _ w h=>zm<|zm<|zn<|zk<|zs<|zr<|zm<|yb h fun _ w h=>?_
       refine zn<|zk<|yC h (fun h=>?_) fun h=>?_
       · refine zr<|zm<|yv h fun _ w h=>yu h fun w h=>zn<|zk ?_
         exact zt hkK2 h
       refine sim_skip<|zk ?_
       exact zt hkK2 h
     refine sim_skip<|zk ?_
     exact zt hkK2 h
   refine zk<|zs<|zs<|zr<|zm<|yc h c73 fun _ w h=>yv h fun _ w h=>zn<|zk<|yC h (fun h=>zs<|zr<|yu h fun w h=>yu h fun w h=>zn<|zk<|sim_ret<|sim_then_ret<|sim_block_ret<|⟨rfl,0,rfl,h⟩) fun h=>sim_skip<|zk<|zr<|yv h fun _ w h=>?_
   exact yv h fun _ w h=>yS h fun _ w h=>yx h fun _ w h=>yu h fun w h=>zn<|sim_block_normal<|⟨rfl,h⟩
 · exact sim_block_normal<|zk<|zs<|zr<|yv h fun _ w h=>yu h fun w h=>yu h fun w h=>zn<|zk<|sim_ret<|bodyM_ret rfl h
 rcases c with _ | c
 · refine ⟨_,rfl,.inl ⟨rfl,?_⟩⟩
   exact sim_block_ret<|sim_then_ret<|bodyM_ret rfl h
 exact h.elim
def n86c1 (t3 t10 t52:Value) (Kr5:World→Prop) (Qr5:List PanicEntry→World→Prop) (Xr5:Nat→World→Prop) (R:RT) (w:World):Prop :=
 opV Pg (Instr.loadAt 97 t3) Qr5 w fun t54 w =>
 opV Pg (Instr.loadAt 26 t10) Qr5 w fun t56 w =>
 callV Pg t54 #[t52,t56] Qr5 w fun t57 w =>
 opV Pg (Op.unary .not t57) Qr5 w fun t58 w =>
 condP t58 (
 Xr5 0 w) (
 Kr5 w)
def n86c2 (t3 t52 t53:Value) (Kr5:World→Prop) (Qr5:List PanicEntry→World→Prop) (Xr5:Nat→World→Prop) (l5:Nat) (R:RT) (w:World):Prop :=
 opV Pg (Instr.alloc 26 true (.tuple #[])) (fun _ _=>False) w fun t10 w =>
 opU Pg (Instr.storeAt 26 t10 t53) (fun _ _=>False) w fun w =>
 busyK l5 w fun w =>
 n86c1 t3 t10 t52 Kr5 Qr5 Xr5 R w
def n86c3 (t3 t21 t51:Value) (next2:List Deferred→Value→World→Prop) (ds:List Deferred) (R:RT) (w:World):Prop :=
 Sw.rangeN7 Pg t51 ds (fun l5 t52 t53 w Kr5 Xr5 Qr5 =>
 n86c2 t3 t52 t53 Kr5 Qr5 Xr5 l5 R w) (fun ch ds w=>outQ Pg ds [] R ch w) w (fun ds w =>
 opV Pg (binS .add 3 true t21 (.int .i64 1)) (outQ Pg ds [] R) w fun t59 w =>
 next2 ds t59 w) [fun ds w =>
 outX Pg ds [] R w]
def n86c4 (t1 t7:Value) (K4:KV) (ds:List Deferred) (R:RT) (w:World):Prop :=
 opV Pg (Instr.loadAt 9 t1) (outQ Pg ds [] R) w fun t45 w =>
 opV Pg (binS .add 9 true t45 (.string { data := #[46] })) (outQ Pg ds [] R) w fun t46 w =>
 opV Pg (binS .add 9 false t46 t7) (outQ Pg ds [] R) w fun t48 w =>
 K4 t48 w
def n86c5 (t1 t3 t6 t7 t17 t21:Value) (next2:List Deferred→Value→World→Prop) (ds:List Deferred) (R:RT) (w:World):Prop :=
 opV Pg (Instr.fieldAt 26 t6 0) (outQ Pg ds [] R) w fun t39 w =>
 opV Pg (Instr.loadAt 9 t39) (outQ Pg ds [] R) w fun t40 w =>
 opV Pg (Instr.lookup 123 t17 t40 false) (outQ Pg ds [] R) w fun t41 w =>
 opV Pg (binS .add 3 true t41 (.int .i64 1)) (outQ Pg ds [] R) w fun t42 w =>
 opU Pg (Instr.mapUpdate 123 t17 t40 t42) (outQ Pg ds [] R) w fun w =>
 opV Pg (Instr.loadAt 9 t1) (outQ Pg ds [] R) w fun t43 w =>
 opV Pg (binS .neq 9 true t43 (.string { data := #[] })) (outQ Pg ds [] R) w fun t44 w =>
 joinK (fun (t7:Value) (w:World) =>
 opV Pg (Instr.loadAt 26 t6) (outQ Pg ds [] R) w fun t49 w =>
 callK Pg 59 #[t49,t7] (outQ Pg ds [] R) w fun t51 w =>
 n86c3 t3 t21 t51 next2 ds R w) fun K4 =>
 condP t44 (
 n86c4 t1 t7 K4 ds R w) (
 K4 t7 w)
def n86c6 (t26 t35:Value) (K3:KV) (ds:List Deferred) (R:RT) (w:World):Prop :=
 opV Pg (binS .add 9 true (.string { data := #[58] }) t35) (outQ Pg ds [] R) w fun t36 w =>
 opV Pg (binS .add 9 false t26 t36) (outQ Pg ds [] R) w fun t37 w =>
 K3 t37 w
def n86c7 (t1 t3 t17 t19 t21:Value) (next2:List Deferred→Value→World→Prop) (ds:List Deferred) (R:RT) (w:World):Prop :=
 opV Pg (Instr.indexAt 24 t19 t21) (outQ Pg ds [] R) w fun t23 w =>
 opV Pg (Instr.loadAt 26 t23) (outQ Pg ds [] R) w fun t24 w =>
 opV Pg (Instr.alloc 26 true (.tuple #[])) (outQ Pg ds [] R) w fun t6 w =>
 opU Pg (Instr.storeAt 26 t6 t24) (outQ Pg ds [] R) w fun w =>
 opV Pg (Instr.fieldAt 26 t6 0) (outQ Pg ds [] R) w fun t25 w =>
 opV Pg (Instr.loadAt 9 t25) (outQ Pg ds [] R) w fun t26 w =>
 opV Pg (Instr.fieldAt 26 t6 0) (outQ Pg ds [] R) w fun t28 w =>
 opV Pg (Instr.loadAt 9 t28) (outQ Pg ds [] R) w fun t29 w =>
 opV Pg (Instr.lookup 123 t17 t29 false) (outQ Pg ds [] R) w fun t30 w =>
 opV Pg (binS .gtr 3 true t30 (.int .i64 0)) (outQ Pg ds [] R) w fun t32 w =>
 joinK (fun (t7:Value) (w:World) =>
 n86c5 t1 t3 t6 t7 t17 t21 next2 ds R w) fun K3 =>
 condP t32 (
 callK Pg 83 #[t30] (outQ Pg ds [] R) w fun t35 w =>
 n86c6 t26 t35 K3 ds R w) (
 K3 t26 w)
def n86c8 (t1 t2 t3:Value) (ds:List Deferred) (R:RT) (w:World):Prop :=
 opV Pg (Instr.makeMap 123 none) (outQ Pg ds [] R) w fun t17 w =>
 opV Pg (Instr.fieldAt 26 t2 4) (outQ Pg ds [] R) w fun t18 w =>
 opV Pg (Instr.loadAt 24 t18) (outQ Pg ds [] R) w fun t19 w =>
 opV Pg (Builtin.len_ #[24] 3 #[t19]) (outQ Pg ds [] R) w fun t20 w =>
 loopM1 (fun ds t21 w next2 =>
 opV Pg (binS .lss 3 false t21 t20) (outQ Pg ds [] R) w fun t22 w =>
 condP t22 (
 n86c7 t1 t3 t17 t19 t21 next2 ds R w) (
 outX Pg ds [] R w)) ds (.int .i64 0) w
def n86c9 (t1 t2 t3 t11 t12 t14:Value) (C1:World→Prop) (ds:List Deferred) (R:RT) (w:World):Prop :=
 callV Pg t11 #[t12,t14] (outQ Pg ds [] R) w fun t15 w =>
 C1 w∧(
 qV Pg C1 (Op.unary .not t15) fun t16 =>
 condP t16 (
 outX Pg ds [] R w) (
 n86c8 t1 t2 t3 ds R w))
def n86c10 (t1 t2 t3:Value) (C1:World→Prop) (ds:List Deferred) (R:RT) (w:World):Prop :=
 qV Pg C1 (Instr.loadAt 97 t3) fun t11 =>
 qV Pg C1 (Instr.loadAt 9 t1) fun t12 =>
 qV Pg C1 (Instr.loadAt 26 t2) fun t13 =>
 callK Pg 16 #[t13] (outQ Pg ds [] R) w fun t14 w =>
 C1 w∧(
 n86c9 t1 t2 t3 t11 t12 t14 C1 ds R w)
def n86 (t0 t1 t2:Value) (R:RT) (w:World):Prop :=
 (fun (ds:List Deferred) =>
 opV Pg (Instr.box 97 t0) (outQ Pg ds [] R) w fun t3 w =>
 drawK w fun C1 w =>
 n86c10 t1 t2 t3 C1 ds R w) []
set_option maxHeartbeats 40000000 in
theorem n86s {t0 t1 t2:Value} {R:RT} {w:World} (h:n86 t0 t1 t2 R w):Calls Pg 82 #[t0,t1,t2] w R:=by
 refine yE Tryz.func82 ?_
 unfold n86 at h
 dsimp only at h
 refine zs<|zr<|yv h fun _ w h=>zn<|zk<|sim_scope<|zs<|zs<|yh [11,12,13,14,15,16] h fun C hC h=>ye 0 hC h fun _ h=>?_
 refine ye 1 hC h fun _ h=>?_
 refine ye 2 hC h fun _ h=>?_
 refine yo 3 ?_
 refine yc h c16 fun _ w h=>zn ?_
 obtain ⟨hC,h⟩:=h
 refine ⟨hC,?_⟩
 refine yo 4 ?_
 refine yV h fun _ w h=>zn ?_
 obtain ⟨hC,h⟩:=h
 refine ⟨hC,?_⟩
 refine ye 5 hC h fun _ h=>?_
 refine yz<|zk<|yC h (fun h=>sim_ret<|sim_then_ret<|bodyM_ret rfl h) fun h=>sim_skip<|zk<|zs<|zr<|yv h fun _ w h=>zm<|zn<|zk<|zs<|sim_label<|zk ?_
 refine zs<|zr<|yv h fun _ w h=>yv h fun _ w h=>yx h fun _ w h=>zm<|zn<|zk<|sim_block<|yL1 [6,7,8,21,22,23,24,25,26,27,28,29,30,31,32,33,34,35,36,37,38,39,40,41,42,43,44,45,46,47,48,49,50,51,59] 21 h fun σ ds w next h=>zs<|zr<|yb h fun _ w h=>zn<|zk ?_
 refine zs<|yC h (fun h=>?_) fun h=>?_
 · refine sim_skip<|zk<|zs<|sim_block<|zs<|zr<|yv h fun _ w h=>yv h fun _ w h=>yv h fun _ w h=>yu h fun w h=>zn<|zk<|zs<|zr<|yv h fun _ w h=>?_
   refine yv h fun _ w h=>zm<|zn<|zk<|zs<|zs<|zr<|zm<|yv h fun _ w h=>yv h fun _ w h=>yv h fun _ w h=>zm<|zn<|zk<|zs ?_
   refine zr<|zm<|yb h fun _ w h=>zn<|zk<|yJ1 [7,33,34,35,36,37] 7 h (fun _ _ hkK3 h=>?_) fun σ w h=>?_
   · refine yC h (fun h=>?_) fun h=>?_
     · refine zr<|zm<|zm<|yc h c83 fun _ w h=>yb h fun _ w h=>yb h fun _ w h=>zm<|zn<|zk ?_
       exact zt hkK3 h
     refine sim_skip<|zk ?_
     exact zt hkK3 h
   refine zk<|zs<|zs<|zr<|zm<|yv h fun _ w h=>yv h fun _ w h=>yv h fun _ w h=>yb h fun _ w h=>yu h fun w h=>zn<|zk<|zs<|zr<|yv h fun _ w h=>?_
   refine yb h fun _ w h=>zn<|zk<|yJ1 [7,45,46,47,48] 7 h (fun _ _ hkK4 h=>?_) fun σ w h=>?_
   · refine yC h (fun h=>?_) fun h=>?_
     · refine zr<|yv h fun _ w h=>yb h fun _ w h=>zm<|yb h fun _ w h=>zm<|zn<|zk ?_
       exact zt hkK4 h
     refine sim_skip<|zk ?_
     exact zt hkK4 h
   refine zk<|zs<|zr<|yv h fun _ w h=>zm<|yc h c59 fun _ w h=>zn<|zk<|sim_block<|sim_range7 [.exit 0] h rfl (fun l5 t52 t53 w Kr5 Xr5 Qr5 h=>?_) (fun ds w h=>?_) (fun c ds w h=>?_) (fun ch ds w h=>outQ_of rfl h)
   · refine zs<|zr<|zm<|zn<|zk<|zr<|yv h fun _ w h=>yu h fun w h=>zn<|zk ?_
     obtain ⟨hr,h⟩:=h
     refine ⟨rfl,hr,fun w hb=>?_⟩
     have h:=h w hb
     exact sim_block<|zs<|zr<|yv h fun _ w h=>zm<|yv h fun _ w h=>yV h fun _ w h=>yv h fun _ w h=>zn<|zk<|yC h (fun h=>sim_exit<|sim_block_miss rfl<|⟨rfl,0,rfl,h⟩) fun h=>sim_skip<|sim_block_normal<|⟨rfl,h⟩
   · exact sim_block_normal<|sim_block_normal<|zk<|zr<|yb h fun _ w h=>zm<|zn<|zk<|h
   rcases c with _ | c
   · refine ⟨_,rfl,.inr ⟨_,rfl,?_⟩⟩
     exact sim_block_miss rfl<|sim_block_miss rfl<|sim_then_exit<|sim_then_exit<|sim_block_hit<|bodyM_normal<|bodyM_ret rfl h
   exact h.elim
 exact sim_exit<|sim_then_exit<|sim_then_exit<|sim_block_hit<|bodyM_normal<|bodyM_ret rfl h
def n28c1 (t1 t3:Value) (K6:KV) (R:RT) (w:World):Prop :=
 opV Pg (Instr.fieldAt 26 t1 3) (panK R) w fun t46 w =>
 opV Pg (Instr.loadAt 23 t46) (panK R) w fun t47 w =>
 opV Pg (Instr.indexAt 23 t47 t3) (panK R) w fun t49 w =>
 opV Pg (Instr.fieldAt 74 t49 1) (panK R) w fun t50 w =>
 opV Pg (Instr.loadAt 9 t50) (panK R) w fun t51 w =>
 opV Pg (Builtin.len_ #[9] 3 #[t51]) (panK R) w fun t52 w =>
 opV Pg (binS .gtr 3 true t52 (.int .i64 1048576)) (panK R) w fun t53 w =>
 K6 t53 w
def n28c2 (t1 t3:Value) (next5:KV) (R:RT) (w:World):Prop :=
 opV Pg (Instr.fieldAt 26 t1 3) (panK R) w fun t37 w =>
 opV Pg (Instr.loadAt 23 t37) (panK R) w fun t38 w =>
 opV Pg (Instr.indexAt 23 t38 t3) (panK R) w fun t40 w =>
 opV Pg (Instr.fieldAt 74 t40 0) (panK R) w fun t41 w =>
 opV Pg (Instr.loadAt 9 t41) (panK R) w fun t42 w =>
 opV Pg (Builtin.len_ #[9] 3 #[t42]) (panK R) w fun t43 w =>
 opV Pg (binS .gtr 3 true t43 (.int .i64 1048576)) (panK R) w fun t44 w =>
 joinK (fun (t53:Value) (w:World) =>
 pickK t44 (.bool true) t53 fun t54 =>
 condP t54 (
 R (.returned (.bool false)) w) (
 opV Pg (binS .add 3 true t3 (.int .i64 1)) (panK R) w fun t36 w =>
 next5 t36 w)) fun K6 =>
 guardP t44 false (
 n28c1 t1 t3 K6 R w) (
 K6 undef w)
def n28c3 (t1 t3:Value) (next5:KV) (R:RT) (w:World):Prop :=
 opV Pg (Instr.fieldAt 26 t1 3) (panK R) w fun t31 w =>
 opV Pg (Instr.loadAt 23 t31) (panK R) w fun t32 w =>
 opV Pg (Builtin.len_ #[23] 3 #[t32]) (panK R) w fun t33 w =>
 opV Pg (binS .lss 3 false t3 t33) (panK R) w fun t34 w =>
 condP t34 (
 n28c2 t1 t3 next5 R w) (
 R (.returned (.bool true)) w)
def n28c4 (t1 t17 t22:Value) (R:RT) (w:World):Prop :=
 pickK t17 (.bool true) t22 fun t23 =>
 joinK (fun (t28:Value) (w:World) =>
 pickK t23 (.bool true) t28 fun t29 =>
 condP t29 (
 R (.returned (.bool false)) w) (
 loop1 (fun t3 w next5 =>
 n28c3 t1 t3 next5 R w) (.int .i64 0) w)) fun K4 =>
 guardP t23 false (
 opV Pg (Instr.fieldAt 26 t1 3) (panK R) w fun t25 w =>
 opV Pg (Instr.loadAt 23 t25) (panK R) w fun t26 w =>
 opV Pg (Builtin.len_ #[23] 3 #[t26]) (panK R) w fun t27 w =>
 opV Pg (binS .gtr 3 true t27 (.int .i64 100)) (panK R) w fun t28 w =>
 K4 t28 w) (
 K4 undef w)
def n28c5 (t1 t12 t16:Value) (R:RT) (w:World):Prop :=
 pickK t12 (.bool true) t16 fun t17 =>
 joinK (fun (t22:Value) (w:World) =>
 n28c4 t1 t17 t22 R w) fun K3 =>
 guardP t17 false (
 opV Pg (Instr.fieldAt 26 t1 2) (panK R) w fun t19 w =>
 opV Pg (Instr.loadAt 22 t19) (panK R) w fun t20 w =>
 opV Pg (Builtin.len_ #[22] 3 #[t20]) (panK R) w fun t21 w =>
 opV Pg (binS .gtr 3 true t21 (.int .i64 1048576)) (panK R) w fun t22 w =>
 K3 t22 w) (
 K3 undef w)
def n28c6 (t1 t7 t11:Value) (R:RT) (w:World):Prop :=
 pickK t7 (.bool true) t11 fun t12 =>
 joinK (fun (t16:Value) (w:World) =>
 n28c5 t1 t12 t16 R w) fun K2 =>
 guardP t12 false (
 opV Pg (Instr.fieldAt 26 t1 1) (panK R) w fun t14 w =>
 opV Pg (Instr.loadAt 3 t14) (panK R) w fun t15 w =>
 opV Pg (binS .geq 3 true t15 (.int .i64 34359738368)) (panK R) w fun t16 w =>
 K2 t16 w) (
 K2 undef w)
def n28c7 (t1 t6:Value) (R:RT) (w:World):Prop :=
 opV Pg (Op.unary .not t6) (panK R) w fun t7 w =>
 joinK (fun (t11:Value) (w:World) =>
 n28c6 t1 t7 t11 R w) fun K1 =>
 guardP t7 false (
 opV Pg (Instr.fieldAt 26 t1 1) (panK R) w fun t9 w =>
 opV Pg (Instr.loadAt 3 t9) (panK R) w fun t10 w =>
 opV Pg (binS .lss 3 true t10 (.int .i64 0)) (panK R) w fun t11 w =>
 K1 t11 w) (
 K1 undef w)
def n28 (t0:Value) (R:RT) (w:World):Prop :=
 opV Pg (Instr.box 26 t0) (panK R) w fun t1 w =>
 opV Pg (Instr.fieldAt 26 t1 0) (panK R) w fun t4 w =>
 opV Pg (Instr.loadAt 9 t4) (panK R) w fun t5 w =>
 callK Pg 78 #[t5] (panK R) w fun t6 w =>
 n28c7 t1 t6 R w
theorem n28s {t0:Value} {R:RT} {w:World} (h:n28 t0 R w):Calls Pg 84 #[t0] w R:=by
 refine yD Tryz.func84 ?_
 refine zs<|zr<|yv h fun _ w h=>zm<|zn<|zk<|zs<|zs<|sim_regionG<|yG 5<|yv h fun _ w h=>yv h fun _ w h=>yc h c78 fun _ w h=>yv h fun _ w h=>zm ?_
 refine zn<|yg1 3 4 false [9,10,11] 11 h (fun _ T hT h=>?_) fun σ w h=>?_
 · refine yv h fun _ w h=>yv h fun _ w h=>yb h fun _ w h=>zn ?_
   exact zt hT h
 refine yG 2<|yp h fun _ h=>zm<|zn<|yg1 3 9 false [14,15,16] 16 h (fun _ T hT h=>?_) fun σ w h=>?_
 · refine yv h fun _ w h=>yv h fun _ w h=>yb h fun _ w h=>zn ?_
   exact zt hT h
 refine yG 2<|yp h fun _ h=>zm<|zn<|yg1 4 14 false [19,20,21,22] 22 h (fun _ T hT h=>?_) fun σ w h=>?_
 · refine yv h fun _ w h=>yv h fun _ w h=>yx h fun _ w h=>yb h fun _ w h=>zn ?_
   exact zt hT h
 refine yG 2<|yp h fun _ h=>zm<|zn<|yg1 4 20 false [25,26,27,28] 28 h (fun _ T hT h=>?_) fun σ w h=>?_
 · refine yv h fun _ w h=>yv h fun _ w h=>yx h fun _ w h=>yb h fun _ w h=>zn ?_
   exact zt hT h
 refine yG 1<|yp h fun _ h=>zn<|sim_end<|zk<|yC h (fun h=>zs<|zr<|zm<|zn<|zk<|sim_ret<|sim_then_ret<|body_ret1 rfl rfl h) fun h=>sim_skip<|zk<|zs<|zs<|zr<|zm<|zn<|zk ?_
 refine sim_block<|yl1 [2,3,30,31,32,33,34,35,36,37,38,39,40,41,42,43,44,45,46,47,48,49,50,51,52,53,54] 3 h fun σ w next h=>zs<|zs<|zr<|zm<|yv h fun _ w h=>yv h fun _ w h=>yx h fun _ w h=>yb h fun _ w h=>zn<|zk<|yC h (fun h=>?_) fun h=>?_
 · refine sim_skip<|zk<|zs<|sim_block<|zs<|sim_regionG<|yG 9<|yv h fun _ w h=>yv h fun _ w h=>zm<|yv h fun _ w h=>yv h fun _ w h=>yv h fun _ w h=>yx h fun _ w h=>yb h fun _ w h=>?_
   refine zm<|zn<|yg1 8 8 false [46,47,48,49,50,51,52,53] 53 h (fun _ T hT h=>?_) fun σ w h=>?_
   · refine yv h fun _ w h=>yv h fun _ w h=>zm<|yv h fun _ w h=>yv h fun _ w h=>yv h fun _ w h=>yx h fun _ w h=>yb h fun _ w h=>zn ?_
     exact zt hT h
   refine yG 1<|yp h fun _ h=>zn<|sim_end<|zk<|yC h (fun h=>zs<|zr<|zm<|zn<|zk<|sim_ret<|sim_block_ret<|sim_then_ret<|sim_then_ret<|sim_block_ret<|sim_then_ret<|body_ret1 rfl rfl h) fun h=>sim_skip<|sim_block_normal<|zk<|zr<|zm<|yb h fun _ w h=>zm<|zn ?_
   exact zk<|⟨rfl,h⟩
 exact sim_exit<|sim_then_exit<|sim_then_exit<|sim_block_hit<|zk<|zs<|zr<|zm<|zn<|zk<|sim_ret<|body_ret1 rfl rfl h
def n66c1 (t3 t7 t24:Value) (Kr2:World→Prop) (Qr2:List PanicEntry→World→Prop) (Xr2:Nat→World→Prop) (R:RT) (w:World):Prop :=
 opV Pg (Instr.loadAt 124 t3) Qr2 w fun t26 w =>
 opV Pg (Instr.loadAt 26 t7) Qr2 w fun t28 w =>
 callV Pg t26 #[t24,t28] Qr2 w fun t29 w =>
 opV Pg (Op.unary .not t29) Qr2 w fun t30 w =>
 condP t30 (
 Xr2 0 w) (
 Kr2 w)
def n66c2 (t3 t24 t25:Value) (Kr2:World→Prop) (Qr2:List PanicEntry→World→Prop) (Xr2:Nat→World→Prop) (l2:Nat) (R:RT) (w:World):Prop :=
 opV Pg (Instr.alloc 26 true (.tuple #[])) (fun _ _=>False) w fun t7 w =>
 opU Pg (Instr.storeAt 26 t7 t25) (fun _ _=>False) w fun w =>
 busyK l2 w fun w =>
 n66c1 t3 t7 t24 Kr2 Qr2 Xr2 R w
def n66c3 (t3 t16 t23:Value) (next1:List Deferred→Value→World→Prop) (ds:List Deferred) (R:RT) (w:World):Prop :=
 rangeN2 Pg t23 ds (fun l2 t24 t25 w Kr2 Xr2 Qr2 =>
 n66c2 t3 t24 t25 Kr2 Qr2 Xr2 l2 R w) (fun ch ds w=>outQ Pg ds [] R ch w) w (fun ds w =>
 opV Pg (binS .add 3 true t16 (.int .i64 1)) (outQ Pg ds [] R) w fun t31 w =>
 next1 ds t31 w) [fun ds w =>
 outX Pg ds [] R w]
def n66c4 (t1 t3 t14 t16:Value) (next1:List Deferred→Value→World→Prop) (ds:List Deferred) (R:RT) (w:World):Prop :=
 opV Pg (Instr.indexAt 24 t14 t16) (outQ Pg ds [] R) w fun t18 w =>
 opV Pg (Instr.loadAt 26 t18) (outQ Pg ds [] R) w fun t19 w =>
 opV Pg (Instr.alloc 26 true (.tuple #[])) (outQ Pg ds [] R) w fun t5 w =>
 opU Pg (Instr.storeAt 26 t5 t19) (outQ Pg ds [] R) w fun w =>
 opV Pg (Instr.loadAt 26 t5) (outQ Pg ds [] R) w fun t20 w =>
 opV Pg (Instr.loadAt 3 t1) (outQ Pg ds [] R) w fun t21 w =>
 opV Pg (binS .add 3 true t21 (.int .i64 1)) (outQ Pg ds [] R) w fun t22 w =>
 callK Pg 64 #[t20,t22] (outQ Pg ds [] R) w fun t23 w =>
 n66c3 t3 t16 t23 next1 ds R w
def n66c5 (t1 t2 t3:Value) (ds:List Deferred) (R:RT) (w:World):Prop :=
 opV Pg (Instr.fieldAt 26 t2 4) (outQ Pg ds [] R) w fun t13 w =>
 opV Pg (Instr.loadAt 24 t13) (outQ Pg ds [] R) w fun t14 w =>
 opV Pg (Builtin.len_ #[24] 3 #[t14]) (outQ Pg ds [] R) w fun t15 w =>
 loopM1 (fun ds t16 w next1 =>
 opV Pg (binS .lss 3 false t16 t15) (outQ Pg ds [] R) w fun t17 w =>
 condP t17 (
 n66c4 t1 t3 t14 t16 next1 ds R w) (
 outX Pg ds [] R w)) ds (.int .i64 0) w
def n66 (t0 t1 t2:Value) (R:RT) (w:World):Prop :=
 (fun (ds:List Deferred) =>
 opV Pg (Instr.box 124 t0) (outQ Pg ds [] R) w fun t3 w =>
 opV Pg (Instr.loadAt 124 t3) (outQ Pg ds [] R) w fun t8 w =>
 opV Pg (Instr.loadAt 3 t1) (outQ Pg ds [] R) w fun t9 w =>
 opV Pg (Instr.loadAt 26 t2) (outQ Pg ds [] R) w fun t10 w =>
 callV Pg t8 #[t9,t10] (outQ Pg ds [] R) w fun t11 w =>
 opV Pg (Op.unary .not t11) (outQ Pg ds [] R) w fun t12 w =>
 condP t12 (
 outX Pg ds [] R w) (
 n66c5 t1 t2 t3 ds R w)) []
theorem n66s {t0 t1 t2:Value} {R:RT} {w:World} (h:n66 t0 t1 t2 R w):Calls Pg 85 #[t0,t1,t2] w R:=by
 refine yE Tryz.func85 ?_
 unfold n66 at h
 dsimp only at h
 refine zs<|zr<|yv h fun _ w h=>zn<|zk<|sim_scope<|zs<|zs<|zr<|yv h fun _ w h=>yv h fun _ w h=>yv h fun _ w h=>yV h fun _ w h=>yv h fun _ w h=>zn ?_
 refine zk<|yC h (fun h=>sim_ret<|sim_then_ret<|bodyM_ret rfl h) fun h=>sim_skip<|zk<|zs<|sim_label<|zk<|zs<|zr<|yv h fun _ w h=>yv h fun _ w h=>yx h fun _ w h=>zm<|zn ?_
 refine zk<|sim_block<|yL1 [5,16,17,18,19,20,21,22,23,31] 16 h fun σ ds w next h=>zs<|zr<|yb h fun _ w h=>zn<|zk<|zs<|yC h (fun h=>?_) fun h=>?_
 · refine sim_skip<|zk<|zs<|sim_block<|zs<|zr<|yv h fun _ w h=>yv h fun _ w h=>yv h fun _ w h=>yu h fun w h=>zn<|zk<|zs<|zr<|yv h fun _ w h=>?_
   refine yv h fun _ w h=>yb h fun _ w h=>yc h c64 fun _ w h=>zn<|zk<|sim_block<|sim_range2 [.exit 0] h rfl (fun l2 t24 t25 w Kr2 Xr2 Qr2 h=>?_) (fun ds w h=>?_) (fun c ds w h=>?_) (fun ch ds w h=>outQ_of rfl h)
   · refine zs<|zr<|zm<|zn<|zk<|zr<|yv h fun _ w h=>yu h fun w h=>zn<|zk ?_
     obtain ⟨hr,h⟩:=h
     refine ⟨rfl,hr,fun w hb=>?_⟩
     have h:=h w hb
     exact sim_block<|zs<|zr<|yv h fun _ w h=>zm<|yv h fun _ w h=>yV h fun _ w h=>yv h fun _ w h=>zn<|zk<|yC h (fun h=>sim_exit<|sim_block_miss rfl<|⟨rfl,0,rfl,h⟩) fun h=>sim_skip<|sim_block_normal<|⟨rfl,h⟩
   · exact sim_block_normal<|sim_block_normal<|zk<|zr<|yb h fun _ w h=>zm<|zn<|zk<|h
   rcases c with _ | c
   · refine ⟨_,rfl,.inr ⟨_,rfl,?_⟩⟩
     exact sim_block_miss rfl<|sim_block_miss rfl<|sim_then_exit<|sim_then_exit<|sim_block_hit<|bodyM_normal<|bodyM_ret rfl h
   exact h.elim
 exact sim_exit<|sim_then_exit<|sim_then_exit<|sim_block_hit<|bodyM_normal<|bodyM_ret rfl h
theorem each_parts {W:World} {v:Value} {n:Nd} {ps:List Tr} {a:Nat} {vss:List (List Value)} {pv bv hv:Value} (hv0:v = .agg (trCells n bv hv pv).toArray) (hB:BytesOf W bv n.bytes) (hH:HdrsOf W hv n.hdrs) (hT:TrsOf W pv ps) (hl:vss.length=ps.length) (ha:a+1≤4611686018427387904)
 (hk:∀ (k:Nat) (x:Tr) (vs:List Value),ps[k]?=some x→vss[k]?=some vs→Hold W vs (eachT x (a+1))∧∃ b o cs c,pv = .slice (some ⟨b,o,none⟩) ps.length c∧cs.length=5∧ElemAt W b (o+k*5) cs∧ETr W cs x∧EachSeq W (.agg cs.toArray) x (a+1) vs):EachSeq W v (.mk n ps) a (v::vss.flatten):=by
 have o1:=SliceOf.oneCell hB
 have o2:=SliceOf.oneCell hH
 have o3:=SliceOf.oneCell hT
 obtain ⟨LL,hLL⟩:∃ LL:List (List (Nat×Tr)),LL=ps.map fun p=>eachT p (a+1):=⟨_,rfl⟩
 have hLk:∀ (k:Nat) (x:Tr),ps[k]?=some x→LL[k]?=some (eachT x (a+1)):=fun k x hx=>by rw [hLL,List.getElem?_map,hx];rfl
 have hlen:vss.map List.length=LL.map List.length:=by
  refine List.ext_getElem? fun k=>?_
  rw [List.getElem?_map,List.getElem?_map]
  rcases Nat.lt_or_ge k ps.length with h | h
  · obtain ⟨x,hx⟩:=getElem?_lt h
    obtain ⟨vs,hvs⟩:=getElem?_lt (l:=vss) (k:=k) (by omega)
    rw [hvs,hLk k x hx]
    show some vs.length=some _
    rw [(hk k x vs hx hvs).1.1]
  · rw [List.getElem?_eq_none (by omega),List.getElem?_eq_none (by rw [hLL,List.length_map];omega)]
    rfl
 have hL:eachT (.mk n ps) a=(a,.mk n ps)::LL.flatten:=by rw [eachT_mk,hLL,List.flatMap_def]
 intro p1 p2 cs0 hcs yv J Jx Jp w hy hFP hJl hJx hJp hstep h0
 rw [hL] at hstep ⊢
 rw [hv0] at hcs
 injection hcs with hcs
 obtain ⟨E0,c1,c2⟩:=hFP 0 w h0
 rw [← hcs] at c2 hFP
 refine n66s (t0:=yv) ?_
 unfold n66
 simp (disch:=try exact DI) only [↓PR,QR,simprocAttr]
 simp only [cells_one hy]
 have eW:Ext w (w.alloc (.cells #[yv] 124)):=ee
 have oW:=heap_new w #[yv] 124
 have JW:=(hJl 0).ext h0 eW
 generalize (w.alloc (.cells #[yv] 124))=Z at eW oW JW ⊢
 have sZ:=eW.size
 have hyZ:=(Array.getElem?_eq_some_iff.1 oW).1
 simp (disch:=try exact DI) only [↓PR,QR,simprocAttr,(cells_of_heap oW).1,(cells_of_heap (eW.obj c1)).1,(cells_of_heap (eW.obj c2)).1]
 have hs:=hstep 0 (by simp) (fun u=>u.heap[w.heap.size]?=some (.cells #[yv] 124 (0,0))) (Firm.has (Nat.le_refl _) (by simp)) Z JW oW
 rw [show xsE ((a,Tr.mk n ps)::LL.flatten) 0 = .int .i64 (a:Int) from rfl,show ysE (v::vss.flatten) 0=v from rfl,hv0] at hs
 refine callV_mono hs (fun ch w h=>h.2) ?_
 rintro q w1 ⟨oW1,⟨rfl,J1⟩ | ⟨rfl,J1⟩⟩
 case inr =>
  simp (disch:=try exact DI) only [↓PR,QR,simprocAttr,outX_nil,retV,resOne]
  exact .inr J1
 obtain ⟨E1,d1,d2⟩:=hFP 1 w1 J1
 simp (disch:=try exact DI) only [↓PR,QR,simprocAttr]
 unfold n66c5
 obtain ⟨A,c,rfl,hlc,hcm,hlm,hel⟩:=SliceOf.open hT
 simp (disch:=try exact DI) only [↓PR,QR,simprocAttr,(cells_of_heap d2).1]
 have s1:=E1.size
 have hz1:=(Array.getElem?_eq_some_iff.1 oW1).1
 have hvl:(v::vss.flatten).length=((a,Tr.mk n ps)::LL.flatten).length:=by
  rw [List.length_cons,List.length_cons,List.length_flatten,List.length_flatten,hlen]
 have hoff:∀ k,offL vss k=offL LL k:=fun k=>offL_congr hlen k
 have hfin:∀ (bs:List Nat) (w2:World),bs.Nodup→(∀ b∈bs,MarkAt b w2)→(∀ b∈bs,w.heap.size≤b)→(J ((a,Tr.mk n ps)::LL.flatten).length w2∨Jx w2)→outX Pg (bs.map Sw.mark) [] (fun e w'=>match e with
  | .returned _=>J ((a,Tr.mk n ps)::LL.flatten).length w'∨Jx w'
  | .panicked ch=>Jp ch w'
  | .outgrown=>False) w2:=fun bs w2 hn hm hB h=>outs_lasts (B:=w.heap.size) (Q:=fun w=>J ((a,Tr.mk n ps)::LL.flatten).length w∨Jx w) (fun w w' hl h=>h.imp (hJl _ w w' hl) (hJx w w' hl)) (fun w h=>by
   simp (disch:=try exact DI) only [↓PR,QR,simprocAttr,outX_nil,retV,resOne]
   exact h) hn hm hB h
 have hfinP:∀ (ch:List PanicEntry) (bs:List Nat) (w2:World),bs.Nodup→(∀ b∈bs,MarkAt b w2)→(∀ b∈bs,w.heap.size≤b)→Jp ch w2→outQ Pg (bs.map Sw.mark) [] (fun e w'=>match e with
  | .returned _=>J ((a,Tr.mk n ps)::LL.flatten).length w'∨Jx w'
  | .panicked ch=>Jp ch w'
  | .outgrown=>False) ch w2:=fun ch bs w2 hn hm hB h=>outq_lasts (B:=w.heap.size) (hJp ch) (fun w h=>h) hn hm hB h
 refine loopM1_intro (fun ds a w'=>∃ (k:Nat) (bs:List Nat),a = .int .i64 k∧k≤ps.length∧J (offL LL k+1) w'∧w'.heap[w.heap.size]?=some (.cells #[yv] 124 (0,0))∧ds=bs.map Sw.mark∧bs.Nodup∧(∀ b∈bs,MarkAt b w')∧∀ b∈bs,w.heap.size≤b) (fun a _=>ps.length - (intOf a).toNat) ⟨0,[],rfl,by omega,J1,oW1,rfl,List.nodup_nil,by simp,by simp⟩ ?_
 rintro ds _ w2 ⟨k,bs,rfl,hkl,J2,oW2,rfl,hnd,hbm,hbs⟩
 obtain ⟨E2,b1,b2⟩:=hFP _ w2 J2
 by_cases hlt:k < ps.length
 case neg =>
  obtain rfl:k=ps.length:=by omega
  have d:decide ((ps.length:Int) < (ps.length:Int))=false:=decide_eq_false (by omega)
  simp (disch:=try exact DI) only [↓PR,QR,simprocAttr,d]
  refine hfin bs w2 hnd hbm hbs (.inl ?_)
  have:offL LL ps.length=LL.flatten.length:=by rw [← offL_all,hLL,List.length_map]
  rw [this] at J2
  exact J2
 have d:decide ((k:Int) < (ps.length:Int))=true:=decide_eq_true (by omega)
 obtain ⟨x,hx⟩:=getElem?_lt hlt
 obtain ⟨vs,hvs⟩:=getElem?_lt (l:=vss) (k:=k) (by omega)
 obtain ⟨hHold,b,o,cs,c',hpv,h5,hA,hE,hSeq⟩:=hk k x vs hx hvs
 injection hpv with hpv _ _
 subst hpv
 obtain ⟨bv',hv',pv',rfl,hB',hH',hT',q1,q2,q3⟩:=hE.op
 have hVx:ValAt W (.agg (trCells x.nd bv' hv' pv').toArray) x:=⟨_,_,_,rfl,hB',hH',hT'⟩
 have dk:(k:Int) < (ps.length:Int):=by omega
 have hwa:IntKind.i64.wrap ((a:Int)+1)=((a+1:Nat):Int):=by rw [wrap_ok (by omega) (by omega)];omega
 simp (disch:=try exact DI) only [↓PR,QR,simprocAttr,d]
 unfold n66c4
 simp (disch:=try exact DI) only [↓PR,QR,simprocAttr,dk,hA.c5 E2,fun o=>(cells_of_heap (((Ext.refl w2).alloc o).obj b1)).1,hwa]
 generalize hY:World.alloc w2 _=Y
 have eY:Ext w2 Y:=by rw [← hY];exact (Ext.refl w2).alloc _
 clear hY
 have JY:=(hJl _).ext J2 eY
 have oY:=eY.obj oW2
 have b1Y:=eY.obj b1
 have hbY:∀ b∈bs,MarkAt b Y:=fun b hb=>(hbm b hb).ext eY
 have EY:=E2.trans eY
 refine callK_ret (each_ret _ _ x (a+1) (hVx.ext EY)) ?_
 rintro _ w3 ⟨⟨cs3,h31,rfl,m1,m2⟩,e3,s3⟩
 injection h31 with h31
 subst h31
 unfold n66c3
 have s2:=E2.size
 have hz2:=(Array.getElem?_eq_some_iff.1 oY).1
 have oY3:=e3.obj oY
 have J3:=(hJl _).ext JY e3
 have E3:=EY.trans e3
 have hb3:∀ b∈bs,MarkAt b w3:=fun b hb=>(hbY b hb).ext e3
 have hbl:∀ b∈bs,b < w3.heap.size:=fun b hb=>(Array.getElem?_eq_some_iff.1 (hb3 b hb)).1
 have hLk':=hLk k x hx
 have hoK:=offL_le hLk'
 have hwk:IntKind.i64.wrap ((k:Int)+1)=((k+1:Nat):Int):=by rw [wrap_ok (by omega) (by omega)];omega
 have hzw3:w.heap.size≤w3.heap.size:=by omega
 let I:Nat→World→Prop:=fun j u=>J (offL LL k+1+j) u∧u.heap[Y.heap.size+1]?=some (.cells #[.int .i64 ((a+1:Nat):Int)] 3 (0,0))∧u.heap[Y.heap.size]?=some (.cells #[.string x.nd.name,.int .i64 x.nd.int,bv',hv',pv'] 26 (0,0))∧u.heap[w.heap.size]?=some (.cells #[yv] 124 (0,0))∧∀ b∈bs,MarkAt b u
 let Ix:Nat→World→Prop:=fun c u=>c=0∧Jx u∧∀ b∈bs,MarkAt b u
 let Ip:List PanicEntry→World→Prop:=fun ch u=>Jp ch u∧∀ b∈bs,MarkAt b u
 have hLI:∀ j,Lasts2 w3.heap.size (I j):=fun j=>((hJl _).mono hzw3).and ((Lasts2.has _ (by simp) (by simp)).and ((Lasts2.has _ (by simp) (by simp)).and ((Lasts2.has _ (by simp) (by simp)).and (lasts2_marks hbl))))
 have hLX:∀ c,Lasts2 w3.heap.size (Ix c):=fun c=>(Lasts2.const _ _).and ((hJx.mono hzw3).and (lasts2_marks hbl))
 have hLP:∀ ch,Lasts2 w3.heap.size (Ip ch):=fun ch=>((hJp ch).mono hzw3).and (lasts2_marks hbl)
 refine ⟨_,_,(eachT x (a+1)).length,xsE (eachT x (a+1)),ysE vs,EaAt W (Y.heap.size+1) Y.heap.size (a+1) #[.string x.nd.name,.int .i64 x.nd.int,bv',hv',pv'],I,Ix,Ip,rfl,c85,hSeq _ _ _ rfl,⟨J3,m2,m1,oY3,hb3⟩,fun j u h=>⟨(hFP _ u h.1).1,h.2.1,h.2.2.1⟩,hLI,hLX,hLP,?_,?_,?_,?_⟩
 · intro Rk hRk j u hj hIu hRu hltu hready
   obtain ⟨y,hyj,hxs,hVy⟩:=hHold.at hj
   obtain ⟨yb,yh,yp,hyv,_,_,_,r1,r2,r3⟩:=hVy.op
   have hcx:xsE ((a,Tr.mk n ps)::LL.flatten) (offL LL k+1+j) = .int .i64 (y.1:Int):=by
    rw [← hxs]
    refine xsE_congr ?_
    rw [show offL LL k+1+j=(offL LL k+j)+1 by omega,List.getElem?_cons_succ]
    exact flat_at hLk' hj
   have hcy:ysE (v::vss.flatten) (offL LL k+1+j) = .agg (trCells y.2.nd yb yh yp).toArray:=by
    rw [← hyv]
    refine ysE_congr ?_
    rw [show offL LL k+1+j=(offL vss k+j)+1 by rw [hoff];omega,List.getElem?_cons_succ]
    exact flat_at hvs (by rw [hHold.1];exact hj)
   rw [hxs,hyv]
   unfold n66c2
   simp (disch:=try exact DI) only [↓PR,QR,simprocAttr]
   change busyK _ (u.alloc (.cells #[.string y.2.nd.name,.int .i64 y.2.nd.int,yb,yh,yp] 26)) _
   have eA:Ext u (u.alloc (.cells #[.string y.2.nd.name,.int .i64 y.2.nd.int,yb,yh,yp] 26)):=ee
   have oA:=heap_new u #[.string y.2.nd.name,.int .i64 y.2.nd.int,yb,yh,yp] 26
   generalize (u.alloc (.cells #[.string y.2.nd.name,.int .i64 y.2.nd.int,yb,yh,yp] 26))=U at eA oA ⊢
   generalize hpu:u.heap.size=pu at oA ⊢
   refine ⟨by obtain ⟨r,h1,h2⟩:=hready;exact ⟨r,eA.obj h1,h2⟩,fun w5 hbz=>?_⟩
   have hR5:=hRk _ _ (KR.busied hbz) (hRk _ _ (KR.of eA) hRu)
   obtain ⟨J5,n1,n2,n3,n4⟩:=(hLI j).busied hbz (Nat.le_succ _) ((hLI j).ext hIu eA)
   have qA:w5.heap[pu]?=some (.cells #[.string y.2.nd.name,.int .i64 y.2.nd.int,yb,yh,yp] 26 (0,0)):=(Lasts2.has w3.heap.size (by simp) (by simp)).busied hbz (Nat.le_succ _) oA
   unfold n66c1
   simp (disch:=try exact DI) only [↓PR,QR,simprocAttr,(cells_of_heap n3).1,(cells_of_heap qA).1]
   have hs:=hstep (offL LL k+1+j) (by rw [List.length_cons];omega) (fun u=>Rk u∧(u.heap[Y.heap.size+1]?=some (.cells #[.int .i64 ((a+1:Nat):Int)] 3 (0,0))∧(u.heap[Y.heap.size]?=some (.cells #[.string x.nd.name,.int .i64 x.nd.int,bv',hv',pv'] 26 (0,0))∧(u.heap[w.heap.size]?=some (.cells #[yv] 124 (0,0))∧∀ b∈bs,MarkAt b u)))) ((hRk.mono (by omega)).and ((Firm.has (by omega) (by simp)).and ((Firm.has (by omega) (by simp)).and ((Firm.has (Nat.le_refl _) (by simp)).and fun w w' h hm b hb=>h.2.2.1 b (hm b hb))))) w5 J5 ⟨hR5,n1,n2,n3,n4⟩
   rw [hcx,hcy] at hs
   refine callV_mono hs (fun ch w h=>⟨h.1.1,h.2,h.1.2.2.2.2⟩) ?_
   rintro q w6 ⟨⟨hR6,k1,k2,k3,k4⟩,⟨rfl,J6⟩ | ⟨rfl,J6⟩⟩
   · simp (disch:=try exact DI) only [↓PR,QR,simprocAttr]
     exact ⟨hR6,by rw [← Nat.add_assoc];exact J6,k1,k2,k3,k4⟩
   · simp (disch:=try exact DI) only [↓PR,QR,simprocAttr]
     exact ⟨hR6,rfl,J6,k4⟩
 · rintro u ⟨J4,_,_,o4,m4⟩ hmk
   simp (disch:=try exact DI) only [↓PR,QR,simprocAttr,hwk]
   refine ⟨⟨k+1,w3.heap.size::bs,rfl,by omega,?_,o4,rfl,List.nodup_cons.2 ⟨fun h=>absurd (hbl _ h) (Nat.lt_irrefl _),hnd⟩,fun b hb=>?_,fun b hb=>?_⟩,meas_lt (kd := .i64) hlt⟩
   · rw [offL_succ hLk',Nat.add_right_comm]
     exact J4
   · rcases List.mem_cons.1 hb with rfl | hb
     · exact hmk
     · exact m4 b hb
   · rcases List.mem_cons.1 hb with rfl | hb
     · exact hzw3
     · exact hbs b hb
 · rintro c u ⟨rfl,J4,m4⟩ hmk
   refine hfin (w3.heap.size::bs) u (List.nodup_cons.2 ⟨fun h=>absurd (hbl _ h) (Nat.lt_irrefl _),hnd⟩) (fun b hb=>?_) (fun b hb=>?_) (.inr J4)
   · rcases List.mem_cons.1 hb with rfl | hb
     · exact hmk
     · exact m4 b hb
   · rcases List.mem_cons.1 hb with rfl | hb
     · exact hzw3
     · exact hbs b hb
 · rintro ch u ⟨J4,m4⟩ hmk
   refine hfinP ch (w3.heap.size::bs) u (List.nodup_cons.2 ⟨fun h=>absurd (hbl _ h) (Nat.lt_irrefl _),hnd⟩) (fun b hb=>?_) (fun b hb=>?_) J4
   · rcases List.mem_cons.1 hb with rfl | hb
     · exact hmk
     · exact m4 b hb
   · rcases List.mem_cons.1 hb with rfl | hb
     · exact hzw3
     · exact hbs b hb
theorem each_seq (t:Tr):∀ (W:World) (v:Value) (a:Nat),ValAt W v t→a+heightT t≤4611686018427387904→∃ vs,Hold W vs (eachT t a)∧EachSeq W v t a vs:=by
 refine Tr.ind (p:=fun t=>∀ (W:World) (v:Value) (a:Nat),ValAt W v t→a+heightT t≤4611686018427387904→∃ vs,Hold W vs (eachT t a)∧EachSeq W v t a vs) ?_ t
 intro n ps ih W v a h ha
 obtain ⟨bv,hv,pv,rfl,hB,hH,hT⟩:=h
 simp only [Tr.nd,Tr.ps] at hB hH hT ⊢
 rw [heightT_mk] at ha
 obtain ⟨A,c,rfl,hlc,hcm,hlm,hel⟩:=SliceOf.open hT
 have hex:∀ k,∃ vs:List Value,∀ x,ps[k]?=some x→Hold W vs (eachT x (a+1))∧∃ b o cs c',Value.slice A ps.length c = .slice (some ⟨b,o,none⟩) ps.length c'∧cs.length=5∧ElemAt W b (o+k*5) cs∧ETr W cs x∧EachSeq W (.agg cs.toArray) x (a+1) vs:=by
  intro k
  cases hx:ps[k]? with
  | none=>exact ⟨[],fun x h=>by cases h⟩
  | some x =>
   obtain ⟨b,o,cs,rfl,h5,hA,hE⟩:=hel k x hx
   have hm:=(foldr_max_le (l:=ps.map heightT) (m:=(ps.map heightT).foldr max 0)).1 (Nat.le_refl _) _ (List.mem_map_of_mem (List.mem_of_getElem? hx))
   obtain ⟨bv',hv',pv',rfl,e1,e2,e3,_⟩:=hE.op
   obtain ⟨vs,g1,g2⟩:=ih x (List.mem_of_getElem? hx) W (.agg (trCells x.nd bv' hv' pv').toArray) (a+1) ⟨_,_,_,rfl,e1,e2,e3⟩ (by omega)
   exact ⟨vs,fun y hy=>by injection hy with hy;subst hy;exact ⟨g1,b,o,_,c,rfl,h5,hA,hE,g2⟩⟩
 let f:=fun k=>Classical.choose (hex k)
 have hf:∀ k x,ps[k]?=some x→_:=fun k=>Classical.choose_spec (hex k)
 have hfk:∀ (k:Nat) (x:Tr) (vs:List Value),ps[k]?=some x→((List.range ps.length).map f)[k]?=some vs→vs=f k:=by
  intro k x vs hx hvs
  have hk:=(List.getElem?_eq_some_iff.1 hx).1
  rw [List.getElem?_map,List.getElem?_range hk] at hvs
  injection hvs with hvs
  exact hvs.symm
 refine ⟨_,?_,each_parts (vss:=(List.range ps.length).map f) rfl hB hH hT (by simp) (by omega) fun k x vs hx hvs=>?_⟩
 · rw [eachT_mk,List.flatMap_def]
   refine Hold.cons ⟨_,_,_,rfl,hB,hH,hT⟩ (by simp) fun k vs L hvs hL=>?_
   rw [List.getElem?_map] at hL
   obtain ⟨x,hx,rfl⟩:=Option.map_eq_some_iff.1 hL
   rw [hfk k x vs hx hvs]
   exact (hf k x hx).1
 · rw [hfk k x vs hx hvs]
   exact hf k x hx
def n56c1 (t2:Value) (Kr1:World→Prop) (Qr1:List PanicEntry→World→Prop) (l1:Nat) (R:RT) (w:World):Prop :=
 busyK l1 w fun w =>
 opV Pg (Instr.loadAt 3 t2) Qr1 w fun t7 w =>
 opV Pg (binS .add 3 true t7 (.int .i64 1)) Qr1 w fun t8 w =>
 opU Pg (Instr.storeAt 3 t2 t8) Qr1 w fun w =>
 Kr1 w
def n56c2 (t2:Value) (ds:List Deferred) (R:RT) (w:World):Prop :=
 opV Pg (Instr.loadAt 3 t2) (outQ Pg ds [(some 3,t2)] R) w fun t9 w =>
 opU Pg (Instr.storeAt 3 t2 t9) (outQ Pg ds [(some 3,t2)] R) w fun w =>
 outX Pg ds [(some 3,t2)] R w
def n56 (t0:Value) (R:RT) (w:World):Prop :=
 (fun (ds:List Deferred) =>
 opV Pg (Instr.box 26 t0) (outQ Pg ds [(some 3,undef)] R) w fun t1 w =>
 opV Pg (Instr.alloc 3 true (.tuple #[])) (outQ Pg ds [(some 3,undef)] R) w fun t2 w =>
 opV Pg (Instr.loadAt 26 t1) (outQ Pg ds [(some 3,t2)] R) w fun t3 w =>
 callK Pg 64 #[t3,(.int .i64 1)] (outQ Pg ds [(some 3,t2)] R) w fun t4 w =>
 rangeN2 Pg t4 ds (fun l1 t5 t6 w Kr1 Xr1 Qr1 =>
 n56c1 t2 Kr1 Qr1 l1 R w) (fun ch ds w=>outQ Pg ds [(some 3,t2)] R ch w) w (fun ds w =>
 n56c2 t2 ds R w) []) []
theorem n56s {t0:Value} {R:RT} {w:World} (h:n56 t0 R w):Calls Pg 28 #[t0] w R:=by
 refine yE Tryz.func28 ?_
 unfold n56 at h
 dsimp only at h
 refine zs<|zr<|yv h fun _ w h=>yv h fun _ w h=>zn<|zk<|zs<|zs<|zr<|yv h fun _ w h=>yc h c64 fun _ w h=>zn<|zk<|sim_block<|sim_range2 [] h rfl (fun l1 t5 t6 w Kr1 Xr1 Qr1 h=>?_) (fun ds w h=>?_) (fun c ds w h=>?_) (fun ch ds w h=>outQ_of rfl h)
 · refine sim_skip<|zk ?_
   obtain ⟨hr,h⟩:=h
   refine ⟨rfl,hr,fun w hb=>?_⟩
   have h:=h w hb
   exact sim_block<|zr<|yv h fun _ w h=>yb h fun _ w h=>yu h fun w h=>zn<|sim_block_normal<|⟨rfl,h⟩
 · exact sim_block_normal<|zk<|zs<|zr<|yv h fun _ w h=>yu h fun w h=>zn<|zk<|sim_ret<|bodyM_ret rfl h
 exact h.elim
def n11c1 (t2 t5:Value) (K4:KV) (R:RT) (w:World):Prop :=
 opV Pg (Instr.fieldAt 26 t2 3) (panK R) w fun t41 w =>
 opV Pg (Instr.loadAt 23 t41) (panK R) w fun t42 w =>
 opV Pg (Instr.indexAt 23 t42 t5) (panK R) w fun t44 w =>
 opV Pg (Instr.fieldAt 74 t44 1) (panK R) w fun t45 w =>
 opV Pg (Instr.loadAt 9 t45) (panK R) w fun t46 w =>
 opV Pg (Builtin.len_ #[9] 3 #[t46]) (panK R) w fun t47 w =>
 opV Pg (binS .gtr 3 true t47 (.int .i64 200)) (panK R) w fun t48 w =>
 K4 t48 w
def n11c2 (t2 t6 t1001:Value) (next5:KW) (R:RT) (w:World):Prop :=
 opV Pg (Instr.fieldAt 26 t2 4) (panK R) w fun t61 w =>
 opV Pg (Instr.loadAt 24 t61) (panK R) w fun t62 w =>
 opV Pg (Instr.indexAt 24 t62 t6) (panK R) w fun t64 w =>
 opV Pg (Instr.loadAt 26 t64) (panK R) w fun t65 w =>
 callK Pg 32 #[t65,t1001] (panK R) w fun t67 w =>
 opV Pg (binS .add 3 true t6 (.int .i64 1)) (panK R) w fun t60 w =>
 next5 t67 t60 w
def n11c3 (t2 t6 t1001:Value) (next5:KW) (R:RT) (w:World):Prop :=
 opV Pg (Instr.fieldAt 26 t2 4) (panK R) w fun t51 w =>
 opV Pg (Instr.loadAt 24 t51) (panK R) w fun t52 w =>
 opV Pg (Builtin.len_ #[24] 3 #[t52]) (panK R) w fun t53 w =>
 opV Pg (binS .lss 3 false t6 t53) (panK R) w fun t54 w =>
 joinK (fun (t57:Value) (w:World) =>
 pickK t54 t57 (.bool false) fun t58 =>
 condP t58 (
 n11c2 t2 t6 t1001 next5 R w) (
 R (.returned t1001) w)) fun K6 =>
 guardP t54 true (
 opV Pg (binS .geq 3 true t1001 (.int .i64 0)) (panK R) w fun t57 w =>
 K6 t57 w) (
 K6 undef w)
def n11c4 (t2 t5:Value) (next3:KV) (R:RT) (w:World):Prop :=
 opV Pg (Instr.fieldAt 26 t2 3) (panK R) w fun t32 w =>
 opV Pg (Instr.loadAt 23 t32) (panK R) w fun t33 w =>
 opV Pg (Instr.indexAt 23 t33 t5) (panK R) w fun t35 w =>
 opV Pg (Instr.fieldAt 74 t35 0) (panK R) w fun t36 w =>
 opV Pg (Instr.loadAt 9 t36) (panK R) w fun t37 w =>
 opV Pg (Builtin.len_ #[9] 3 #[t37]) (panK R) w fun t38 w =>
 opV Pg (binS .gtr 3 true t38 (.int .i64 200)) (panK R) w fun t39 w =>
 joinK (fun (t48:Value) (w:World) =>
 pickK t39 (.bool true) t48 fun t49 =>
 condP t49 (
 R (.returned (.int .i64 (-1))) w) (
 opV Pg (binS .add 3 true t5 (.int .i64 1)) (panK R) w fun t31 w =>
 next3 t31 w)) fun K4 =>
 guardP t39 false (
 n11c1 t2 t5 K4 R w) (
 K4 undef w)
def n11c5 (t2 t5 t8:Value) (next3:KV) (R:RT) (w:World):Prop :=
 opV Pg (Instr.fieldAt 26 t2 3) (panK R) w fun t26 w =>
 opV Pg (Instr.loadAt 23 t26) (panK R) w fun t27 w =>
 opV Pg (Builtin.len_ #[23] 3 #[t27]) (panK R) w fun t28 w =>
 opV Pg (binS .lss 3 false t5 t28) (panK R) w fun t29 w =>
 condP t29 (
 n11c4 t2 t5 next3 R w) (
 loop2 (fun t1001 t6 w next5 =>
 n11c3 t2 t6 t1001 next5 R w) t8 (.int .i64 0) w)
def n11c6 (t2 t8 t12 t17:Value) (R:RT) (w:World):Prop :=
 pickK t12 (.bool true) t17 fun t18 =>
 joinK (fun (t23:Value) (w:World) =>
 pickK t18 (.bool true) t23 fun t24 =>
 condP t24 (
 R (.returned (.int .i64 (-1))) w) (
 loop1 (fun t5 w next3 =>
 n11c5 t2 t5 t8 next3 R w) (.int .i64 0) w)) fun K2 =>
 guardP t18 false (
 opV Pg (Instr.fieldAt 26 t2 3) (panK R) w fun t20 w =>
 opV Pg (Instr.loadAt 23 t20) (panK R) w fun t21 w =>
 opV Pg (Builtin.len_ #[23] 3 #[t21]) (panK R) w fun t22 w =>
 opV Pg (binS .gtr 3 true t22 (.int .i64 110)) (panK R) w fun t23 w =>
 K2 t23 w) (
 K2 undef w)
def n11 (t0 t1:Value) (R:RT) (w:World):Prop :=
 opV Pg (Instr.box 26 t0) (panK R) w fun t2 w =>
 opV Pg (binS .sub 3 true t1 (.int .i64 1)) (panK R) w fun t8 w =>
 opV Pg (Instr.fieldAt 26 t2 0) (panK R) w fun t9 w =>
 opV Pg (Instr.loadAt 9 t9) (panK R) w fun t10 w =>
 opV Pg (Builtin.len_ #[9] 3 #[t10]) (panK R) w fun t11 w =>
 opV Pg (binS .gtr 3 true t11 (.int .i64 200)) (panK R) w fun t12 w =>
 joinK (fun (t17:Value) (w:World) =>
 n11c6 t2 t8 t12 t17 R w) fun K1 =>
 guardP t12 false (
 opV Pg (Instr.fieldAt 26 t2 2) (panK R) w fun t14 w =>
 opV Pg (Instr.loadAt 22 t14) (panK R) w fun t15 w =>
 opV Pg (Builtin.len_ #[22] 3 #[t15]) (panK R) w fun t16 w =>
 opV Pg (binS .gtr 3 true t16 (.int .i64 200)) (panK R) w fun t17 w =>
 K1 t17 w) (
 K1 undef w)
set_option maxHeartbeats 40000000 in
theorem n11s {t0 t1:Value} {R:RT} {w:World} (h:n11 t0 t1 R w):Calls Pg 32 #[t0,t1] w R:=by
 refine yD Tryz.func32 ?_
 refine zs<|zr<|yv h fun _ w h=>zm<|zn<|zk<|zs<|zr<|zm<|yb h fun _ w h=>zm<|zn<|zk<|zs<|zs ?_
 refine sim_regionG<|yG 5<|yv h fun _ w h=>yv h fun _ w h=>yx h fun _ w h=>yb h fun _ w h=>zm<|zn<|yg1 4 4 false [14,15,16,17] 17 h (fun _ T hT h=>?_) fun σ w h=>?_
 · refine yv h fun _ w h=>yv h fun _ w h=>yx h fun _ w h=>yb h fun _ w h=>zn ?_
   exact zt hT h
 refine yG 2<|yp h fun _ h=>zm<|zn<|yg1 4 10 false [20,21,22,23] 23 h (fun _ T hT h=>?_) fun σ w h=>?_
 · refine yv h fun _ w h=>yv h fun _ w h=>yx h fun _ w h=>yb h fun _ w h=>zn ?_
   exact zt hT h
 refine yG 1<|yp h fun _ h=>zn<|sim_end<|zk<|yC h (fun h=>zs<|zr<|zm<|zn<|zk<|sim_ret<|sim_then_ret<|body_ret1 rfl rfl h) fun h=>sim_skip<|zk<|zs<|zs<|zr<|zm<|zn<|zk ?_
 refine sim_block<|yl1 [4,5,25,26,27,28,29,30,31,32,33,34,35,36,37,38,39,40,41,42,43,44,45,46,47,48,49] 5 h fun σ w next h=>zs<|zs<|zr<|zm<|yv h fun _ w h=>yv h fun _ w h=>yx h fun _ w h=>yb h fun _ w h=>zn<|zk<|yC h (fun h=>?_) fun h=>?_
 · refine sim_skip<|zk<|zs<|sim_block<|zs<|sim_regionG<|yG 9<|yv h fun _ w h=>yv h fun _ w h=>zm<|yv h fun _ w h=>yv h fun _ w h=>yv h fun _ w h=>yx h fun _ w h=>yb h fun _ w h=>?_
   refine zm<|zn<|yg1 8 8 false [41,42,43,44,45,46,47,48] 48 h (fun _ T hT h=>?_) fun σ w h=>?_
   · refine yv h fun _ w h=>yv h fun _ w h=>zm<|yv h fun _ w h=>yv h fun _ w h=>yv h fun _ w h=>yx h fun _ w h=>yb h fun _ w h=>zn ?_
     exact zt hT h
   refine yG 1<|yp h fun _ h=>zn<|sim_end<|zk<|yC h (fun h=>zs<|zr<|zm<|zn<|zk<|sim_ret<|sim_block_ret<|sim_then_ret<|sim_then_ret<|sim_block_ret<|sim_then_ret<|body_ret1 rfl rfl h) fun h=>sim_skip<|sim_block_normal<|zk<|zr<|zm<|yb h fun _ w h=>zm<|zn ?_
   exact zk<|⟨rfl,h⟩
 refine sim_exit<|sim_then_exit<|sim_then_exit<|sim_block_hit<|zk<|zs<|zs<|zr<|zm<|zn<|zk<|sim_block<|yl2 [1,6,50,51,52,53,54,55,56,57,58,59,60,61,62,63,64,65,66,67] 1 6 h fun σ w next h=>zs<|zs ?_
 refine sim_regionG<|yG 6<|zm<|yv h fun _ w h=>yv h fun _ w h=>yx h fun _ w h=>yb h fun _ w h=>zm<|zn<|yg1 2 5 true [56,57] 57 h (fun _ T hT h=>?_) fun σ w h=>?_
 · refine zm<|yb h fun _ w h=>zn ?_
   exact zt hT h
 refine yG 1<|yp h fun _ h=>zn<|sim_end<|zk<|yC h (fun h=>?_) fun h=>?_
 · refine sim_skip<|zk<|zs<|sim_block<|zr<|yv h fun _ w h=>yv h fun _ w h=>zm<|yv h fun _ w h=>yv h fun _ w h=>zm<|yc h c32 fun _ w h=>zm<|zn<|sim_block_normal ?_
   exact zk<|zr<|zm<|yb h fun _ w h=>zm<|zn<|zk<|⟨rfl,h⟩
 exact sim_exit<|sim_then_exit<|sim_then_exit<|sim_block_hit<|zk<|zs<|zr<|zm<|zm<|zn<|zk<|sim_ret<|body_ret1 rfl rfl h
def n9c1 (t2 t32 t35 t38:Value) (R:RT) (w:World):Prop :=
 pickK t35 t38 (.bool false) fun t39 =>
 joinK (fun (t43:Value) (w:World) =>
 pickK t39 t43 (.bool false) fun t44 =>
 R (.returned t44) w) fun K3 =>
 guardP t39 true (
 opV Pg (binS .eql 9 false t32 t2) (panK R) w fun t43 w =>
 K3 t43 w) (
 K3 undef w)
def n9c2 (t2 t18 t31:Value) (R:RT) (w:World):Prop :=
 opV Pg (Instr.extract t31 0) (panK R) w fun t32 w =>
 opV Pg (Instr.extract t31 1) (panK R) w fun t33 w =>
 opV Pg (binS .eql 33 true t18 (.int .i64 0)) (panK R) w fun t35 w =>
 joinK (fun (t38:Value) (w:World) =>
 n9c1 t2 t32 t35 t38 R w) fun K2 =>
 guardP t35 true (
 opV Pg (binS .eql 33 true t33 (.int .i64 0)) (panK R) w fun t38 w =>
 K2 t38 w) (
 K2 undef w)
def n9c3 (t3 t9 t18:Value) (R:RT) (w:World):Prop :=
 opV Pg (binS .eql 33 false t18 t3) (panK R) w fun t23 w =>
 joinK (fun (t27:Value) (w:World) =>
 pickK t23 t27 (.bool false) fun t28 =>
 R (.returned t28) w) fun K1 =>
 guardP t23 true (
 opV Pg (Instr.loadAt 26 t9) (panK R) w fun t25 w =>
 opV Pg (Instr.build 26 #[]) (panK R) w fun t26 w =>
 callK Pg 12 #[t25,t26] (panK R) w fun t27 w =>
 K1 t27 w) (
 K1 undef w)
def n9c4 (t2 t3 t16:Value) (R:RT) (w:World):Prop :=
 opV Pg (Instr.extract t16 0) (panK R) w fun t17 w =>
 opV Pg (Instr.extract t16 1) (panK R) w fun t18 w =>
 opV Pg (Instr.alloc 26 true (.tuple #[])) (panK R) w fun t9 w =>
 opU Pg (Instr.storeAt 26 t9 t17) (panK R) w fun w =>
 opV Pg (binS .neq 33 true t3 (.int .i64 0)) (panK R) w fun t20 w =>
 condP t20 (
 n9c3 t3 t9 t18 R w) (
 opV Pg (Instr.loadAt 26 t9) (panK R) w fun t30 w =>
 callK Pg 26 #[t30] (panK R) w fun t31 w =>
 n9c2 t2 t18 t31 R w)
def n9 (t0 t1 t2 t3:Value) (R:RT) (w:World):Prop :=
 opV Pg (Instr.box 26 t0) (panK R) w fun t4 w =>
 opV Pg (Instr.loadAt 26 t4) (panK R) w fun t14 w =>
 callK Pg 27 #[t14,t1] (panK R) w fun t16 w =>
 n9c4 t2 t3 t16 R w
theorem n9s {t0 t1 t2 t3:Value} {R:RT} {w:World} (h:n9 t0 t1 t2 t3 R w):Calls Pg 33 #[t0,t1,t2,t3] w R:=by
 refine yD Tryz.func33 ?_
 refine zs<|zr<|yv h fun _ w h=>zm<|zn<|zk<|zs<|zr<|yv h fun _ w h=>zm<|yc h c27 fun _ w h=>zm<|yv h fun _ w h=>yv h fun _ w h=>yv h fun _ w h=>?_
 refine yu h fun w h=>zm<|zn<|zk<|zs<|zs<|zr<|zm<|yb h fun _ w h=>zn<|zk<|yC h (fun h=>?_) fun h=>?_
 · refine zs<|sim_regionG<|yG 4<|zm<|zm<|yb h fun _ w h=>zm<|zn<|yg1 3 3 true [25,26,27] 27 h (fun _ T hT h=>?_) fun σ w h=>?_
   · refine yv h fun _ w h=>yB h fun _ w h=>yc h c12 fun _ w h=>zn ?_
     exact zt hT h
   exact yG 2<|yp h fun _ h=>zm<|zn<|sim_end<|zk<|sim_ret<|sim_then_ret<|body_ret1 rfl rfl h
 refine sim_skip<|zk<|zs<|zr<|yv h fun _ w h=>yc h c26 fun _ w h=>zm<|yv h fun _ w h=>yv h fun _ w h=>zm<|zm<|zn<|zk<|zs<|sim_regionG ?_
 refine yG 3<|zm<|yb h fun _ w h=>zm<|zn<|yg1 2 2 true [37,38] 38 h (fun _ T hT h=>?_) fun σ w h=>?_
 · refine zm<|yb h fun _ w h=>zn ?_
   exact zt hT h
 refine yG 2<|yp h fun _ h=>zm<|zn<|yg1 3 6 true [41,42,43] 43 h (fun _ T hT h=>?_) fun σ w h=>?_
 · refine zm<|zm<|yb h fun _ w h=>zn ?_
   exact zt hT h
 exact yG 2<|yp h fun _ h=>zm<|zn<|sim_end<|zk<|sim_ret<|body_ret1 rfl rfl h
def n59c1 (t6:Value) (R:RT) (w:World):Prop :=
 opV Pg (Instr.build 26 #[]) (panK R) w fun t38 w =>
 opU Pg (Instr.storeAt 26 t6 t38) (panK R) w fun w =>
 qW Pg 26 t6 w fun r0 =>
 R (.returned (.tuple #[r0,(.int .i64 3)])) w
def n59c2 (t6 t8:Value) (R:RT) (w:World):Prop :=
 opV Pg (Instr.loadAt 26 t8) (panK R) w fun t39 w =>
 opU Pg (Instr.storeAt 26 t6 t39) (panK R) w fun w =>
 qW Pg 26 t6 w fun r0 =>
 R (.returned (.tuple #[r0,(.int .i64 0)])) w
def n59c3 (t6 t8 t25 t33:Value) (R:RT) (w:World):Prop :=
 opN Pg (nilN t25) (panK R) w fun t34 w =>
 opU Pg (Instr.storeAt 26 t34 t33) (panK R) w fun w =>
 opV Pg (Instr.loadAt 26 t8) (panK R) w fun t35 w =>
 callK Pg 25 #[t35] (panK R) w fun t36 w =>
 opV Pg (Op.unary .not t36) (panK R) w fun t37 w =>
 condP t37 (
 n59c1 t6 R w) (
 n59c2 t6 t8 R w)
def n59c4 (t5 t6 t8 t24:Value) (R:RT) (w:World):Prop :=
 opV Pg (Instr.extract t24 0) (panK R) w fun t25 w =>
 opV Pg (Instr.extract t24 1) (panK R) w fun t26 w =>
 opV Pg (binS .neq 33 true t26 (.int .i64 0)) (panK R) w fun t28 w =>
 condP t28 (
 opV Pg (Instr.build 26 #[]) (panK R) w fun t29 w =>
 opU Pg (Instr.storeAt 26 t6 t29) (panK R) w fun w =>
 qW Pg 26 t6 w fun r0 =>
 R (.returned (.tuple #[r0,t26])) w) (
 opV Pg (Instr.loadAt 26 t5) (panK R) w fun t32 w =>
 callK Pg 16 #[t32] (panK R) w fun t33 w =>
 n59c3 t6 t8 t25 t33 R w)
def n59c5 (t1 t5 t6 t21:Value) (R:RT) (w:World):Prop :=
 opV Pg (Instr.alloc 26 true (.tuple #[])) (panK R) w fun t8 w =>
 opU Pg (Instr.storeAt 26 t8 t21) (panK R) w fun w =>
 callK Pg 55 #[t8,t1] (panK R) w fun t24 w =>
 n59c4 t5 t6 t8 t24 R w
def n59c6 (t6:Value) (R:RT) (w:World):Prop :=
 opV Pg (Instr.build 26 #[]) (panK R) w fun t19 w =>
 opU Pg (Instr.storeAt 26 t6 t19) (panK R) w fun w =>
 qW Pg 26 t6 w fun r0 =>
 R (.returned (.tuple #[r0,(.int .i64 2)])) w
def n59c7 (t1 t3 t5 t6 t13 t17:Value) (R:RT) (w:World):Prop :=
 pickK t13 (.bool true) t17 fun t18 =>
 condP t18 (
 n59c6 t6 R w) (
 opV Pg (Instr.loadAt 26 t3) (panK R) w fun t20 w =>
 callK Pg 16 #[t20] (panK R) w fun t21 w =>
 n59c5 t1 t5 t6 t21 R w)
def n59c8 (t1 t3 t5 t6 t12:Value) (R:RT) (w:World):Prop :=
 opV Pg (Op.unary .not t12) (panK R) w fun t13 w =>
 joinK (fun (t17:Value) (w:World) =>
 n59c7 t1 t3 t5 t6 t13 t17 R w) fun K1 =>
 guardP t13 false (
 opV Pg (Instr.loadAt 26 t5) (panK R) w fun t15 w =>
 callK Pg 25 #[t15] (panK R) w fun t16 w =>
 opV Pg (Op.unary .not t16) (panK R) w fun t17 w =>
 K1 t17 w) (
 K1 undef w)
def n59 (t0 t1 t2:Value) (R:RT) (w:World):Prop :=
 opV Pg (Instr.box 26 t0) (panK R) w fun t3 w =>
 opV Pg (Instr.box 26 t2) (panK R) w fun t5 w =>
 opV Pg (Instr.alloc 26 true (.tuple #[])) (panK R) w fun t6 w =>
 opV Pg (Instr.loadAt 26 t3) (panK R) w fun t11 w =>
 callK Pg 25 #[t11] (panK R) w fun t12 w =>
 n59c8 t1 t3 t5 t6 t12 R w
theorem n59s {t0 t1 t2:Value} {R:RT} {w:World} (h:n59 t0 t1 t2 R w):Calls Pg 20 #[t0,t1,t2] w R:=by
 refine yD Tryz.func20 ?_
 refine zs<|zr<|yv h fun _ w h=>yv h fun _ w h=>yv h fun _ w h=>zm<|zn<|zk<|zs<|zs<|sim_regionG<|yG 4<|yv h fun _ w h=>yc h c25 fun _ w h=>yv h fun _ w h=>?_
 refine zm<|zn<|yg1 3 3 false [15,16,17] 17 h (fun _ T hT h=>?_) fun σ w h=>?_
 · refine yv h fun _ w h=>yc h c25 fun _ w h=>yv h fun _ w h=>zn ?_
   exact zt hT h
 refine yG 1<|yp h fun _ h=>zn<|sim_end<|zk<|yC h (fun h=>zs<|zr<|yB h fun _ w h=>yu h fun w h=>zm<|zn<|zk<|sim_ret<|sim_then_ret<|body_retCT rfl rfl rfl h) fun h=>sim_skip<|zk<|zs<|zr<|yv h fun _ w h=>yc h c16 fun _ w h=>yv h fun _ w h=>yu h fun w h=>?_
 refine zn<|zk<|zs<|zr<|zm<|yc h c55 fun _ w h=>zm<|yv h fun _ w h=>yv h fun _ w h=>zm<|zm<|zn<|zk<|zs<|zs ?_
 refine zr<|zm<|yb h fun _ w h=>zn<|zk<|yC h (fun h=>zs<|zr<|yB h fun _ w h=>zm<|yu h fun w h=>zm<|zn<|zk<|sim_ret<|sim_then_ret<|body_retCT rfl rfl rfl h) fun h=>sim_skip<|zk<|zs<|zs<|zr<|zm<|yv h fun _ w h=>yc h c16 fun _ w h=>?_
 refine yN h fun _ w h=>yu h fun w h=>zn<|zk<|zs<|zr<|yv h fun _ w h=>yc h c25 fun _ w h=>yv h fun _ w h=>zn<|zk<|yC h (fun h=>zs<|zr<|yB h fun _ w h=>yu h fun w h=>zm<|zn<|zk<|sim_ret<|sim_then_ret<|body_retCT rfl rfl rfl h) fun h=>sim_skip<|zk ?_
 exact zs<|zr<|yv h fun _ w h=>yu h fun w h=>zm<|zn<|zk<|sim_ret<|body_retCT rfl rfl rfl h
def n62c1 (t1:Value) (R:RT) (w:World):Prop :=
 opV Pg (Instr.loadAt 26 t1) (panK R) w fun t6 w =>
 callK Pg 16 #[t6] (panK R) w fun t7 w =>
 callK Pg 59 #[t7,(.string { data := #[] })] (panK R) w fun t8 w =>
 R (.returned t8) w
def n62 (t0:Value) (R:RT) (w:World):Prop :=
 opV Pg (Instr.box 26 t0) (panK R) w fun t1 w =>
 opV Pg (Instr.loadAt 26 t1) (panK R) w fun t3 w =>
 callK Pg 25 #[t3] (panK R) w fun t4 w =>
 opV Pg (Op.unary .not t4) (panK R) w fun t5 w =>
 condP t5 (
 R (.returned (.func (.func 58) #[] #[])) w) (
 n62c1 t1 R w)
theorem n62s {t0:Value} {R:RT} {w:World} (h:n62 t0 R w):Calls Pg 22 #[t0] w R:=by
 refine yD Tryz.func22 ?_
 refine zs<|zr<|yv h fun _ w h=>zm<|zn<|zk<|zs<|zs<|zr<|yv h fun _ w h=>yc h c25 fun _ w h=>yv h fun _ w h=>zn<|zk<|yC h (fun h=>zs<|zr<|zm<|zn<|zk<|sim_ret<|sim_then_ret<|body_ret1 rfl rfl h) fun h=>?_
 exact sim_skip<|zk<|zs<|zr<|yv h fun _ w h=>yc h c16 fun _ w h=>yc h c59 fun _ w h=>zm<|zn<|zk<|sim_ret<|body_ret1 rfl rfl h
def n23c1 (t1 t5 t9:Value) (R:RT) (w:World):Prop :=
 pickK t5 t9 (.bool false) fun t10 =>
 joinK (fun (t13:Value) (w:World) =>
 pickK t10 t13 (.bool false) fun t14 =>
 R (.returned t14) w) fun K2 =>
 guardP t10 true (
 opV Pg (Instr.loadAt 26 t1) (panK R) w fun t12 w =>
 callK Pg 62 #[t12] (panK R) w fun t13 w =>
 K2 t13 w) (
 K2 undef w)
def n23c2 (t1 t4:Value) (R:RT) (w:World):Prop :=
 opV Pg (binS .leq 3 true t4 (.int .i64 65536)) (panK R) w fun t5 w =>
 joinK (fun (t9:Value) (w:World) =>
 n23c1 t1 t5 t9 R w) fun K1 =>
 guardP t5 true (
 opV Pg (Instr.loadAt 26 t1) (panK R) w fun t7 w =>
 callK Pg 61 #[t7] (panK R) w fun t8 w =>
 opV Pg (binS .leq 3 true t8 (.int .i64 40)) (panK R) w fun t9 w =>
 K1 t9 w) (
 K1 undef w)
def n23 (t0:Value) (R:RT) (w:World):Prop :=
 opV Pg (Instr.box 26 t0) (panK R) w fun t1 w =>
 opV Pg (Instr.loadAt 26 t1) (panK R) w fun t3 w =>
 callK Pg 60 #[t3] (panK R) w fun t4 w =>
 n23c2 t1 t4 R w
theorem n23s {t0:Value} {R:RT} {w:World} (h:n23 t0 R w):Calls Pg 23 #[t0] w R:=by
 refine yD Tryz.func23 ?_
 refine zs<|zr<|yv h fun _ w h=>zm<|zn<|zk<|zs<|sim_regionG<|yG 4<|yv h fun _ w h=>yc h c60 fun _ w h=>yb h fun _ w h=>zm<|zn<|yg1 3 3 true [7,8,9] 9 h (fun _ T hT h=>?_) fun σ w h=>?_
 · refine yv h fun _ w h=>yc h c61 fun _ w h=>yb h fun _ w h=>zn ?_
   exact zt hT h
 refine yG 2<|yp h fun _ h=>zm<|zn<|yg1 2 8 true [12,13] 13 h (fun _ T hT h=>?_) fun σ w h=>?_
 · refine yv h fun _ w h=>yc h c62 fun _ w h=>zn ?_
   exact zt hT h
 exact yG 2<|yp h fun _ h=>zm<|zn<|sim_end<|zk<|sim_ret<|body_ret1 rfl rfl h
def n24c1 (t2 t6 t7 t8:Value) (C3:World→Prop) (next2:KW) (R:RT) (w:World):Prop :=
 qV Pg C3 (Instr.fieldAt 26 t2 4) fun t26 =>
 qV Pg C3 (Instr.loadAt 24 t26) fun t27 =>
 qV Pg C3 (Instr.indexAt 24 t27 t8) fun t29 =>
 qV Pg C3 (Instr.fieldAt 26 t29 0) fun t30 =>
 qV Pg C3 (Instr.loadAt 9 t30) fun t31 =>
 qV Pg C3 (Instr.fieldAt 26 t2 4) fun t32 =>
 qV Pg C3 (Instr.loadAt 24 t32) fun t33 =>
 qV Pg C3 (Instr.indexAt 24 t33 t6) fun t35 =>
 qV Pg C3 (Instr.fieldAt 26 t35 0) fun t36 =>
 qV Pg C3 (Instr.loadAt 9 t36) fun t37 =>
 qV Pg C3 (binS .eql 9 false t31 t37) fun t38 =>
 joinK (fun (t7:Value) (w:World) =>
 opV Pg (binS .add 3 true t8 (.int .i64 1)) (panK R) w fun t25 w =>
 next2 t7 t25 w) fun K4 =>
 condP t38 (
 opV Pg (binS .add 3 true t7 (.int .i64 1)) (panK R) w fun t40 w =>
 K4 t40 w) (
 K4 t7 w)
def n24c2 (t2 t5 t6 t9:Value) (next1:KW) (R:RT) (w:World):Prop :=
 opV Pg (Instr.fieldAt 26 t2 4) (panK R) w fun t61 w =>
 opV Pg (Instr.loadAt 24 t61) (panK R) w fun t62 w =>
 opV Pg (Instr.indexAt 24 t62 t6) (panK R) w fun t64 w =>
 opV Pg (Instr.loadAt 26 t64) (panK R) w fun t65 w =>
 callK Pg 24 #[t65,t9] (panK R) w fun t67 w =>
 opV Pg (Builtin.append_ #[45,45] 45 #[t5,t67]) (panK R) w fun t68 w =>
 opV Pg (binS .add 3 true t6 (.int .i64 1)) (panK R) w fun t20 w =>
 next1 t68 t20 w
def n24c3 (t1 t2 t5 t6 t9:Value) (next1:KW) (R:RT) (w:World):Prop :=
 opV Pg (binS .neq 9 true t1 (.string { data := #[] })) (panK R) w fun t55 w =>
 joinK (fun (t9:Value) (w:World) =>
 n24c2 t2 t5 t6 t9 next1 R w) fun K6 =>
 condP t55 (
 opV Pg (binS .add 9 true t1 (.string { data := #[46] })) (panK R) w fun t57 w =>
 opV Pg (binS .add 9 false t57 t9) (panK R) w fun t59 w =>
 K6 t59 w) (
 K6 t9 w)
def n24c4 (t7 t46:Value) (K5:KV) (R:RT) (w:World):Prop :=
 opV Pg (binS .add 9 true t46 (.string { data := #[58] })) (panK R) w fun t50 w =>
 callK Pg 63 #[t7] (panK R) w fun t52 w =>
 opV Pg (binS .add 9 false t50 t52) (panK R) w fun t53 w =>
 K5 t53 w
def n24c5 (t1 t2 t5 t6 t7:Value) (next1:KW) (R:RT) (w:World):Prop :=
 opV Pg (Instr.fieldAt 26 t2 4) (panK R) w fun t41 w =>
 opV Pg (Instr.loadAt 24 t41) (panK R) w fun t42 w =>
 opV Pg (Instr.indexAt 24 t42 t6) (panK R) w fun t44 w =>
 opV Pg (Instr.fieldAt 26 t44 0) (panK R) w fun t45 w =>
 opV Pg (Instr.loadAt 9 t45) (panK R) w fun t46 w =>
 opV Pg (binS .gtr 3 true t7 (.int .i64 0)) (panK R) w fun t48 w =>
 joinK (fun (t9:Value) (w:World) =>
 n24c3 t1 t2 t5 t6 t9 next1 R w) fun K5 =>
 condP t48 (
 n24c4 t7 t46 K5 R w) (
 K5 t46 w)
def n24c6 (t1 t2 t5 t6 t7 t8:Value) (next1:KW) (next2:KW) (R:RT) (w:World):Prop :=
 opV Pg (binS .lss 3 false t8 t6) (panK R) w fun t23 w =>
 condP t23 (
 drawK w fun C3 w =>
 n24c1 t2 t6 t7 t8 C3 next2 R w) (
 n24c5 t1 t2 t5 t6 t7 next1 R w)
def n24c7 (t1 t2 t5 t6:Value) (next1:KW) (R:RT) (w:World):Prop :=
 opV Pg (Instr.fieldAt 26 t2 4) (panK R) w fun t15 w =>
 opV Pg (Instr.loadAt 24 t15) (panK R) w fun t16 w =>
 opV Pg (Builtin.len_ #[24] 3 #[t16]) (panK R) w fun t17 w =>
 opV Pg (binS .lss 3 false t6 t17) (panK R) w fun t18 w =>
 condP t18 (
 loop2 (fun t7 t8 w next2 =>
 n24c6 t1 t2 t5 t6 t7 t8 next1 next2 R w) (.int .i64 0) (.int .i64 0) w) (
 R (.returned t5) w)
def n24 (t0 t1:Value) (R:RT) (w:World):Prop :=
 opV Pg (Instr.box 26 t0) (panK R) w fun t2 w =>
 opV Pg (Instr.loadAt 26 t2) (panK R) w fun t11 w =>
 opV Pg (Instr.build 48 #[(0,t1),(1,t11)]) (panK R) w fun t12 w =>
 opV Pg (Instr.buildSlice 45 1 #[(0,t12)]) (panK R) w fun t13 w =>
 loop2 (fun t5 t6 w next1 =>
 n24c7 t1 t2 t5 t6 next1 R w) t13 (.int .i64 0) w
set_option maxHeartbeats 40000000 in
theorem n24s {t0 t1:Value} {R:RT} {w:World} (h:n24 t0 t1 R w):Calls Pg 24 #[t0,t1] w R:=by
 refine yD Tryz.func24 ?_
 refine zs<|zr<|yv h fun _ w h=>zm<|zn<|zk<|zs<|zr<|zm<|yv h fun _ w h=>yB h fun _ w h=>yS h fun _ w h=>zm<|zn<|zk ?_
 refine zs<|zs<|zr<|zm<|zn<|zk<|sim_block<|yl2 [5,6,7,8,9,14,15,16,17,18,19,20,21,22,23,24,25,26,27,28,29,30,31,32,33,34,35,36,37,38,39,40,41,42,43,44,45,46,47,48,49,50,51,52,53,54,55,56,57,58,59,60,61,62,63,64,65,66,67,68] 5 6 h fun σ w next h=>zs<|zs<|zr<|zm<|yv h fun _ w h=>yv h fun _ w h=>yx h fun _ w h=>?_
 refine yb h fun _ w h=>zn<|zk<|yC h (fun h=>?_) fun h=>?_
 · refine sim_skip<|zk<|zs<|sim_block<|zs<|zr<|zm<|zn<|zk<|zs<|zs<|zr<|zm<|zn<|zk ?_
   refine sim_block<|yl2 [7,8,21,22,23,24,25,26,27,28,29,30,31,32,33,34,35,36,37,38,39,40] 7 8 h fun σ w next h=>zs<|zs<|zr<|zm<|zm<|yb h fun _ w h=>zn<|zk<|yC h (fun h=>?_) fun h=>?_
   · refine sim_skip<|zk<|zs<|sim_block<|zs<|yh [26,27,28,29,30,31,32,33,34,35,36,37,38] h fun C hC h=>ye 0 hC h fun _ h=>?_
     refine ye 1 hC h fun _ h=>?_
     refine yw 2 hC ?_
     refine ye 3 hC h fun _ h=>?_
     refine ye 4 hC h fun _ h=>?_
     refine ye 5 hC h fun _ h=>?_
     refine ye 6 hC h fun _ h=>?_
     refine ye 7 hC h fun _ h=>?_
     refine yw 8 hC ?_
     refine ye 9 hC h fun _ h=>?_
     refine ye 10 hC h fun _ h=>?_
     refine ye 11 hC h fun _ h=>?_
     refine ye 12 hC h fun _ h=>?_
     refine yz<|zk<|yJ1 [7,39,40] 7 h (fun _ _ hkK4 h=>?_) fun σ w h=>?_
     · refine yC h (fun h=>?_) fun h=>?_
       · refine zr<|zm<|yb h fun _ w h=>zm<|zn<|zk ?_
         exact zt hkK4 h
       refine sim_skip<|zk ?_
       exact zt hkK4 h
     exact sim_block_normal<|zk<|zr<|zm<|yb h fun _ w h=>zm<|zn<|zk<|⟨rfl,h⟩
   refine sim_exit<|sim_then_exit<|sim_then_exit<|sim_block_hit<|zk<|zs<|zr<|yv h fun _ w h=>yv h fun _ w h=>zm<|yv h fun _ w h=>yv h fun _ w h=>yv h fun _ w h=>zm<|zn ?_
   refine zk<|zs<|zs<|zr<|zm<|yb h fun _ w h=>zn<|zk<|yJ1 [9,49,50,51,52,53] 9 h (fun _ _ hkK5 h=>?_) fun σ w h=>?_
   · refine yC h (fun h=>?_) fun h=>?_
     · refine zr<|zm<|yb h fun _ w h=>zm<|yc h c63 fun _ w h=>yb h fun _ w h=>zm<|zn<|zk ?_
       exact zt hkK5 h
     refine sim_skip<|zk ?_
     exact zt hkK5 h
   refine zk<|zs<|zs<|zr<|zm<|yb h fun _ w h=>zn<|zk<|yJ1 [9,56,57,58,59] 9 h (fun _ _ hkK6 h=>?_) fun σ w h=>?_
   · refine yC h (fun h=>?_) fun h=>?_
     · refine zr<|zm<|yb h fun _ w h=>zm<|yb h fun _ w h=>zm<|zn<|zk ?_
       exact zt hkK6 h
     refine sim_skip<|zk ?_
     exact zt hkK6 h
   refine zk<|zr<|zm<|yv h fun _ w h=>yv h fun _ w h=>zm<|yv h fun _ w h=>yv h fun _ w h=>zm<|yc h c24 fun _ w h=>yx h fun _ w h=>zm<|zn<|sim_block_normal<|zk ?_
   exact zr<|zm<|yb h fun _ w h=>zm<|zn<|zk<|⟨rfl,h⟩
 exact sim_exit<|sim_then_exit<|sim_then_exit<|sim_block_hit<|zk<|zs<|zr<|zm<|zm<|zn<|zk<|sim_ret<|body_ret1 rfl rfl h
def n61c1 (t2 t5 t13 t16:Value) (Kr1:World→Prop) (Qr1:List PanicEntry→World→Prop) (Xr1:Nat→World→Prop) (R:RT) (w:World):Prop :=
 pickK t13 (.bool true) t16 fun t17 =>
 joinK (fun (t21:Value) (w:World) =>
 pickK t17 (.bool true) t21 fun t22 =>
 condP t22 (
 opU Pg (Instr.storeAt 4 t2 (.bool false)) Qr1 w fun w =>
 Xr1 0 w) (
 Kr1 w)) fun K3 =>
 guardP t17 false (
 opV Pg (Instr.loadAt 26 t5) Qr1 w fun t19 w =>
 callK Pg 65 #[t19] Qr1 w fun t20 w =>
 opV Pg (Op.unary .not t20) Qr1 w fun t21 w =>
 K3 t21 w) (
 K3 undef w)
def n61c2 (t2 t3 t5 t8:Value) (Kr1:World→Prop) (Qr1:List PanicEntry→World→Prop) (Xr1:Nat→World→Prop) (R:RT) (w:World):Prop :=
 opV Pg (Instr.loadAt 3 t3) Qr1 w fun t10 w =>
 opV Pg (binS .add 3 true t10 (.int .i64 1)) Qr1 w fun t11 w =>
 opU Pg (Instr.storeAt 3 t3 t11) Qr1 w fun w =>
 opV Pg (Instr.loadAt 3 t3) Qr1 w fun t12 w =>
 opV Pg (binS .gtr 3 true t12 (.int .i64 65536)) Qr1 w fun t13 w =>
 joinK (fun (t16:Value) (w:World) =>
 n61c1 t2 t5 t13 t16 Kr1 Qr1 Xr1 R w) fun K2 =>
 guardP t13 false (
 opV Pg (binS .gtr 3 true t8 (.int .i64 40)) Qr1 w fun t16 w =>
 K2 t16 w) (
 K2 undef w)
def n61c3 (t2 t3 t8 t9:Value) (Kr1:World→Prop) (Qr1:List PanicEntry→World→Prop) (Xr1:Nat→World→Prop) (l1:Nat) (R:RT) (w:World):Prop :=
 opV Pg (Instr.alloc 26 true (.tuple #[])) (fun _ _=>False) w fun t5 w =>
 opU Pg (Instr.storeAt 26 t5 t9) (fun _ _=>False) w fun w =>
 busyK l1 w fun w =>
 n61c2 t2 t3 t5 t8 Kr1 Qr1 Xr1 R w
def n61c4 (t2 t3 t7:Value) (ds:List Deferred) (R:RT) (w:World):Prop :=
 rangeN2 Pg t7 ds (fun l1 t8 t9 w Kr1 Xr1 Qr1 =>
 n61c3 t2 t3 t8 t9 Kr1 Qr1 Xr1 l1 R w) (fun ch ds w=>outQ Pg ds [(some 4,t2)] R ch w) w (fun ds w =>
 opU Pg (Instr.storeAt 4 t2 (.bool true)) (outQ Pg ds [(some 4,t2)] R) w fun w =>
 outX Pg ds [(some 4,t2)] R w) [fun ds w =>
 outX Pg ds [(some 4,t2)] R w]
def n61 (t0:Value) (R:RT) (w:World):Prop :=
 (fun (ds:List Deferred) =>
 opV Pg (Instr.box 26 t0) (outQ Pg ds [(some 4,undef)] R) w fun t1 w =>
 opV Pg (Instr.alloc 4 true (.tuple #[])) (outQ Pg ds [(some 4,undef)] R) w fun t2 w =>
 opV Pg (Instr.alloc 3 true (.tuple #[])) (outQ Pg ds [(some 4,t2)] R) w fun t3 w =>
 opU Pg (Instr.storeAt 3 t3 (.int .i64 0)) (outQ Pg ds [(some 4,t2)] R) w fun w =>
 opV Pg (Instr.loadAt 26 t1) (outQ Pg ds [(some 4,t2)] R) w fun t6 w =>
 callK Pg 64 #[t6,(.int .i64 1)] (outQ Pg ds [(some 4,t2)] R) w fun t7 w =>
 n61c4 t2 t3 t7 ds R w) []
theorem n61s {t0:Value} {R:RT} {w:World} (h:n61 t0 R w):Calls Pg 25 #[t0] w R:=by
 refine yE Tryz.func25 ?_
 unfold n61 at h
 dsimp only at h
 refine zs<|zr<|yv h fun _ w h=>yv h fun _ w h=>zn<|zk<|zs<|zr<|yv h fun _ w h=>yu h fun w h=>zn<|zk<|zs<|zs<|zr ?_
 refine yv h fun _ w h=>yc h c64 fun _ w h=>zn<|zk<|sim_block<|sim_range2 [.ret] h rfl (fun l1 t8 t9 w Kr1 Xr1 Qr1 h=>?_) (fun ds w h=>?_) (fun c ds w h=>?_) (fun ch ds w h=>outQ_of rfl h)
 · refine zs<|zr<|zm<|zn<|zk<|zr<|yv h fun _ w h=>yu h fun w h=>zn<|zk ?_
   obtain ⟨hr,h⟩:=h
   refine ⟨rfl,hr,fun w hb=>?_⟩
   have h:=h w hb
   refine sim_block<|zs<|zr<|yv h fun _ w h=>yb h fun _ w h=>yu h fun w h=>zn<|zk<|zs<|sim_regionG<|yG 3<|yv h fun _ w h=>yb h fun _ w h=>zm<|zn ?_
   refine yg1 2 2 false [15,16] 16 h (fun _ T hT h=>?_) fun σ w h=>?_
   · refine zm<|yb h fun _ w h=>zn ?_
     exact zt hT h
   refine yG 2<|yp h fun _ h=>zm<|zn<|yg1 3 6 false [19,20,21] 21 h (fun _ T hT h=>?_) fun σ w h=>?_
   · refine yv h fun _ w h=>yc h c65 fun _ w h=>yv h fun _ w h=>zn ?_
     exact zt hT h
   exact yG 1<|yp h fun _ h=>zn<|sim_end<|zk<|yC h (fun h=>zs<|zr<|yu h fun w h=>zn<|zk<|sim_ret<|sim_block_ret<|⟨rfl,0,rfl,h⟩) fun h=>sim_skip<|sim_block_normal<|⟨rfl,h⟩
 · exact sim_block_normal<|zk<|zs<|zr<|yu h fun w h=>zn<|zk<|sim_ret<|bodyM_ret rfl h
 rcases c with _ | c
 · refine ⟨_,rfl,.inl ⟨rfl,?_⟩⟩
   exact sim_block_ret<|sim_then_ret<|bodyM_ret rfl h
 exact h.elim
def n60c1 (t1:Value) (R:RT) (w:World):Prop :=
 opV Pg (Instr.loadAt 26 t1) (panK R) w fun t7 w =>
 callK Pg 66 #[(Value.slice none 0 0),t7] (panK R) w fun t8 w =>
 opV Pg (Go.convert 22 9 t8) (panK R) w fun t9 w =>
 R (.returned (.tuple #[t9,(.int .i64 0)])) w
def n60 (t0:Value) (R:RT) (w:World):Prop :=
 opV Pg (Instr.box 26 t0) (panK R) w fun t1 w =>
 opV Pg (Instr.loadAt 26 t1) (panK R) w fun t4 w =>
 callK Pg 25 #[t4] (panK R) w fun t5 w =>
 opV Pg (Op.unary .not t5) (panK R) w fun t6 w =>
 condP t6 (
 R (.returned (.tuple #[(.string { data := #[] }),(.int .i64 2)])) w) (
 n60c1 t1 R w)
theorem n60s {t0:Value} {R:RT} {w:World} (h:n60 t0 R w):Calls Pg 26 #[t0] w R:=by
 refine yD Tryz.func26 ?_
 refine zs<|zr<|yv h fun _ w h=>zm<|zm<|zn<|zk<|zs<|zs<|zr<|yv h fun _ w h=>yc h c25 fun _ w h=>yv h fun _ w h=>zn<|zk ?_
 exact yC h (fun h=>zs<|zr<|zm<|zm<|zn<|zk<|sim_ret<|sim_then_ret<|body_ret2 rfl rfl rfl h) fun h=>sim_skip<|zk<|zs<|zr<|yv h fun _ w h=>yc h c66 fun _ w h=>yv h fun _ w h=>zm<|zm<|zn<|zk<|sim_ret<|body_ret2 rfl rfl rfl h
def n55c1 (t4 t15:Value) (R:RT) (w:World):Prop :=
 opN Pg (nilN t15) (panK R) w fun t22 w =>
 opV Pg (Instr.loadAt 26 t22) (panK R) w fun t23 w =>
 callK Pg 16 #[t23] (panK R) w fun t24 w =>
 opU Pg (Instr.storeAt 26 t4 t24) (panK R) w fun w =>
 qW Pg 26 t4 w fun r0 =>
 R (.returned (.tuple #[r0,(.int .i64 0)])) w
def n55c2 (t4 t14:Value) (R:RT) (w:World):Prop :=
 opV Pg (Instr.extract t14 0) (panK R) w fun t15 w =>
 opV Pg (Instr.extract t14 1) (panK R) w fun t16 w =>
 opV Pg (binS .neq 33 true t16 (.int .i64 0)) (panK R) w fun t18 w =>
 condP t18 (
 opV Pg (Instr.build 26 #[]) (panK R) w fun t19 w =>
 opU Pg (Instr.storeAt 26 t4 t19) (panK R) w fun w =>
 qW Pg 26 t4 w fun r0 =>
 R (.returned (.tuple #[r0,t16])) w) (
 n55c1 t4 t15 R w)
def n55c3 (t4:Value) (R:RT) (w:World):Prop :=
 opV Pg (Instr.build 26 #[]) (panK R) w fun t11 w =>
 opU Pg (Instr.storeAt 26 t4 t11) (panK R) w fun w =>
 qW Pg 26 t4 w fun r0 =>
 R (.returned (.tuple #[r0,(.int .i64 2)])) w
def n55 (t0 t1:Value) (R:RT) (w:World):Prop :=
 opV Pg (Instr.box 26 t0) (panK R) w fun t2 w =>
 opV Pg (Instr.alloc 26 true (.tuple #[])) (panK R) w fun t4 w =>
 opV Pg (Instr.loadAt 26 t2) (panK R) w fun t8 w =>
 callK Pg 25 #[t8] (panK R) w fun t9 w =>
 opV Pg (Op.unary .not t9) (panK R) w fun t10 w =>
 condP t10 (
 n55c3 t4 R w) (
 callK Pg 55 #[t2,t1] (panK R) w fun t14 w =>
 n55c2 t4 t14 R w)
theorem n55s {t0 t1:Value} {R:RT} {w:World} (h:n55 t0 t1 R w):Calls Pg 27 #[t0,t1] w R:=by
 refine yD Tryz.func27 ?_
 refine zs<|zr<|yv h fun _ w h=>yv h fun _ w h=>zm<|zn<|zk<|zs<|zs<|zr<|yv h fun _ w h=>yc h c25 fun _ w h=>yv h fun _ w h=>zn<|zk ?_
 refine yC h (fun h=>zs<|zr<|yB h fun _ w h=>yu h fun w h=>zm<|zn<|zk<|sim_ret<|sim_then_ret<|body_retCT rfl rfl rfl h) fun h=>sim_skip<|zk<|zs<|zr<|zm<|yc h c55 fun _ w h=>zm<|yv h fun _ w h=>yv h fun _ w h=>zm<|zm<|zn<|zk ?_
 refine zs<|zs<|zr<|zm<|yb h fun _ w h=>zn<|zk<|yC h (fun h=>zs<|zr<|yB h fun _ w h=>zm<|yu h fun w h=>zm<|zn<|zk<|sim_ret<|sim_then_ret<|body_retCT rfl rfl rfl h) fun h=>sim_skip<|zk<|zs<|zr<|zm<|yN h fun _ w h=>?_
 exact yv h fun _ w h=>yc h c16 fun _ w h=>yu h fun w h=>zm<|zn<|zk<|sim_ret<|body_retCT rfl rfl rfl h
theorem height_le (t:Tr):heightT t≤nodesT t:=by
 refine Tr.ind (p:=fun t=>heightT t≤nodesT t) ?_ t
 intro n ps ih
 rw [heightT_mk,nodesT_mk]
 have:(ps.map heightT).foldr max 0≤(ps.map nodesT).sum:=by
  clear n
  induction ps with
  | nil=>exact Nat.le_refl _
  | cons p ps ih2 =>
   rw [List.map_cons,List.map_cons,List.foldr_cons,List.sum_cons]
   have h1:=ih p (List.mem_cons_self ..)
   have h2:=ih2 fun x hx=>ih x (List.mem_cons_of_mem _ hx)
   omega
 omega
theorem Nodes_ret (w0:World) (v:Value) (t:Tr) (h:ValAt w0 v t) (hb:nodesT t≤1000000000):Ret Pg 28 #[v] w0 fun r w'=>r = .int .i64 (nodesT t:Int)∧Ext w0 w':=by
 have hh:=height_le t
 obtain ⟨bv,hv,pv,rfl,hB,hH,hT,o1,o2,o3⟩:=h.op
 refine n56s (R:=retR _) ?_;unfold n56
 show opV _ _ _ _ _
 rw [op_boxA]
 have hx:=heap_new w0 (trCells t.nd bv hv pv).toArray 26
 have eX:Ext w0 (w0.alloc (.cells (trCells t.nd bv hv pv).toArray 26)):=ee
 generalize (w0.alloc (.cells (trCells t.nd bv hv pv).toArray 26))=X at hx eX ⊢
 generalize hp1:w0.heap.size=p1 at hx ⊢
 simp (disch:=try exact DI) only [↓PR,QR,simprocAttr,fun o=>(cells_of_heap (((Ext.refl X).alloc o).obj hx)).1]
 have eW:Ext X (X.alloc (.cells #[.int .i64 0] 3)):=ee
 have oW:=heap_new X #[.int .i64 0] 3
 generalize (X.alloc (.cells #[.int .i64 0] 3))=W at eW oW ⊢
 have sX:=eX.size
 generalize hp2:X.heap.size=p2 at oW sX ⊢
 have EW:=eX.trans eW
 refine callK_ret (each_ret _ _ t 1 (ValAt.ext ⟨bv,hv,pv,rfl,hB,hH,hT⟩ EW)) ?_
 rintro _ w1 ⟨⟨cs3,h31,rfl,m1,m2⟩,e1,s1⟩
 have E1:=EW.trans e1
 have q1:=e1.obj oW
 have z1:=(Array.getElem?_eq_some_iff.1 q1).1
 have hV:ValAt w0 (.agg (trCells t.nd bv hv pv).toArray) t:=⟨bv,hv,pv,rfl,hB,hH,hT⟩
 obtain ⟨vs,hHold,hSeq⟩:=each_seq t w0 _ 1 hV (by omega)
 have hL:=eachT_len t 1
 have zX:=(Array.getElem?_eq_some_iff.1 hx).1
 have zW:=(Array.getElem?_eq_some_iff.1 oW).1
 injection h31 with h31
 let I:Nat→World→Prop:=fun j u=>Ext w0 u∧u.heap[p2]?=some (.cells #[.int .i64 (j:Int)] 3 (0,0))∧u.heap[W.heap.size+1]?=some (.cells #[.int .i64 ((1:Nat):Int)] 3 (0,0))∧u.heap[W.heap.size]?=some (.cells cs3 26 (0,0))
 have hLI:∀ j,Lasts2 w1.heap.size (I j):=fun j=>(Lasts2.from (by omega)).and ((Lasts2.has _ (by simp) (by simp)).and ((Lasts2.has _ (by simp) (by simp)).and (Lasts2.has _ (by simp) (by simp))))
 refine ⟨_,_,(eachT t 1).length,xsE (eachT t 1),ysE vs,EaAt w0 (W.heap.size+1) W.heap.size 1 cs3,I,fun _ _=>False,fun _ _=>False,rfl,c85,hSeq _ _ _ (congrArg Value.agg h31),⟨E1,q1,m2,m1⟩,fun j u h=>⟨h.1,h.2.2.1,h.2.2.2⟩,hLI,fun _=>Lasts2.const _ _,fun _=>Lasts2.const _ _,?_,?_,?_,?_⟩
 · intro Rk hRk j u hj hIu hRu hltu hready
   unfold n56c1
   refine ⟨hready,fun w5 hbz=>?_⟩
   have hR5:=hRk _ _ (KR.busied hbz) hRu
   obtain ⟨e5,n1,n2,n3⟩:=(hLI j).busied hbz (Nat.le_succ _) hIu
   have hw:IntKind.i64.wrap ((j:Int)+1)=((j+1:Nat):Int):=by rw [wrap_ok (by omega) (by omega)];omega
   simp (disch:=try exact DI) only [↓PR,QR,simprocAttr,(cells_of_heap n1).1,(cells_of_heap n1).2,hw]
   refine ⟨hRk _ _ (KR.setCell (KR.refl _ w5) p2 0 _ (.inl (by omega))) hR5,e5.setCell (by show w0.heap.size≤p2;omega) _,by simpa using heap_set (o:=0) n1 (.int .i64 ((j+1:Nat):Int)),?_,?_⟩
   · exact (Only.setCell w5 p2 0 _ _ (by omega)).trans n2
   · exact (Only.setCell w5 p2 0 _ _ (by omega)).trans n3
 · rintro u ⟨e,n1,_,_⟩ hmk
   unfold n56c2
   rw [hL] at n1
   simp (disch:=try exact DI) only [↓PR,QR,simprocAttr,(cells_of_heap n1).1,(cells_of_heap n1).2]
   refine outX_mark (hmk.setCell _ _) ?_
   have n2:((u.setCell ⟨p2,0,none⟩ (.int .i64 (nodesT t:Int))).putObj w1.heap.size (.deferred none)).heap[p2]?=some (.cells #[.int .i64 (nodesT t:Int)] 3 (0,0)):=(World.putObj_heap_other (by omega)).trans (by simpa using heap_set (o:=0) n1 (.int .i64 (nodesT t:Int)))
   have e2:=(e.setCell (p:=⟨p2,0,none⟩) (by show w0.heap.size≤p2;omega) (.int .i64 (nodesT t:Int))).putObj (l:=w1.heap.size) (by omega) (.deferred none)
   simp (disch:=try exact DI) only [↓PR,QR,simprocAttr,outX_nil,retV,resOne,(cells_of_heap n2).1]
   exact ⟨by trivial,e2⟩
 · rintro c u h
   exact h.elim
 · rintro ch u h
   exact h.elim
theorem validT_iff (t:Tr):validT t=true↔∀ (k:Nat) (x:Nat×Tr),(eachT t 1)[k]?=some x→k+1≤65536∧x.1≤40∧nodeB x.2.nd=true:=by
 rw [validT_each,Bool.and_eq_true,decide_eq_true_iff,List.all_eq_true]
 constructor
 · rintro ⟨h1,h2⟩ k x hx
   have:=h2 x (List.mem_of_getElem? hx)
   rw [Bool.and_eq_true,decide_eq_true_iff] at this
   have hk:=(List.getElem?_eq_some_iff.1 hx).1
   exact ⟨by omega,this⟩
 · intro h
   refine ⟨?_,fun x hx=>?_⟩
   · rcases Nat.eq_zero_or_pos (eachT t 1).length with h0 | h0
     · omega
     · obtain ⟨x,hx⟩:=getElem?_lt (l:=eachT t 1) (k:=(eachT t 1).length - 1) (by omega)
       have:=(h _ x hx).1
       omega
   · obtain ⟨k,hk⟩:=List.getElem?_of_mem hx
     have:=h k x hk
     rw [Bool.and_eq_true,decide_eq_true_iff]
     exact this.2
theorem Valid_ret (w0:World) (v:Value) (t:Tr) (h:ValAt w0 v t) (hb:nodesT t≤1000000000):Ret Pg 25 #[v] w0 fun r w'=>r = .bool (validT t)∧Ext w0 w':=by
 have hh:=height_le t
 obtain ⟨bv,hv,pv,rfl,hB,hH,hT,o1,o2,o3⟩:=h.op
 refine n61s (R:=retR _) ?_;unfold n61
 show opV _ _ _ _ _
 rw [op_boxA]
 have hx:=heap_new w0 (trCells t.nd bv hv pv).toArray 26
 have eX:Ext w0 (w0.alloc (.cells (trCells t.nd bv hv pv).toArray 26)):=ee
 generalize (w0.alloc (.cells (trCells t.nd bv hv pv).toArray 26))=X at hx eX ⊢
 generalize hp1:w0.heap.size=p1 at hx ⊢
 simp (disch:=try exact DI) only [↓PR,QR,simprocAttr,fun o o'=>(cells_of_heap ((((Ext.refl X).alloc o).alloc o').obj hx)).1]
 generalize hA:World.alloc X _=A
 have eA:Ext X A:=by rw [← hA];exact (Ext.refl X).alloc _
 have oA:A.heap[X.heap.size]?=some (.cells #[.bool false] 4 (0,0)):=by rw [← hA];exact heap_new _ _ _
 have sA:A.heap.size=X.heap.size+1:=by rw [← hA];exact World.size_alloc ..
 clear hA
 have eW:Ext A (A.alloc (.cells #[.int .i64 0] 3)):=ee
 have oW:=heap_new A #[.int .i64 0] 3
 rw [sA] at oW
 simp only [World.size_alloc]
 generalize (A.alloc (.cells #[.int .i64 0] 3))=W at eW oW ⊢
 have sX:=eX.size
 have EW:=eX.trans (eA.trans eW)
 have r1:=eW.obj oA
 refine callK_ret (each_ret _ _ t 1 (ValAt.ext ⟨bv,hv,pv,rfl,hB,hH,hT⟩ EW)) ?_
 rintro _ w1 ⟨⟨cs3,h31,rfl,m1,m2⟩,e1,s1⟩
 have E1:=EW.trans e1
 have q1:=e1.obj oW
 have q2:=e1.obj r1
 have zX:=(Array.getElem?_eq_some_iff.1 hx).1
 have zW:=(Array.getElem?_eq_some_iff.1 oW).1
 have hV:ValAt w0 (.agg (trCells t.nd bv hv pv).toArray) t:=⟨bv,hv,pv,rfl,hB,hH,hT⟩
 obtain ⟨vs,hHold,hSeq⟩:=each_seq t w0 _ 1 hV (by omega)
 have hL:=eachT_len t 1
 injection h31 with h31
 generalize hp2:X.heap.size=p2 at *
 let I:Nat→World→Prop:=fun j u=>Ext w0 u∧u.heap[p2+1]?=some (.cells #[.int .i64 (j:Int)] 3 (0,0))∧u.heap[p2]?=some (.cells #[.bool false] 4 (0,0))∧u.heap[W.heap.size+1]?=some (.cells #[.int .i64 ((1:Nat):Int)] 3 (0,0))∧u.heap[W.heap.size]?=some (.cells cs3 26 (0,0))∧∀ (k:Nat) (x:Nat×Tr),k < j→(eachT t 1)[k]?=some x→k+1≤65536∧x.1≤40∧nodeB x.2.nd=true
 let Ix:Nat→World→Prop:=fun c u=>c=0∧Ext w0 u∧u.heap[p2]?=some (.cells #[.bool false] 4 (0,0))∧validT t=false
 have hLI:∀ j,Lasts2 w1.heap.size (I j):=fun j=>(Lasts2.from (by omega)).and ((Lasts2.has _ (by simp) (by simp)).and ((Lasts2.has _ (by simp) (by simp)).and ((Lasts2.has _ (by simp) (by simp)).and ((Lasts2.has _ (by simp) (by simp)).and (Lasts2.const _ _)))))
 have hLX:∀ c,Lasts2 w1.heap.size (Ix c):=fun c=>(Lasts2.const _ _).and ((Lasts2.from (by omega)).and ((Lasts2.has _ (by simp) (by simp)).and (Lasts2.const _ _)))
 have hout:∀ (u:World) (b:Bool),Ext w0 u→u.heap[p2]?=some (.cells #[.bool b] 4 (0,0))→MarkAt w1.heap.size u→validT t=b→outX Pg [Sw.mark w1.heap.size] [(some 4,.pointer (some ⟨p2,0,none⟩))] (retR fun r w'=>r = .bool (validT t)∧Ext w0 w') u:=by
  intro u b e n1 hmk hb'
  refine outX_mark hmk ?_
  have n2:(u.putObj w1.heap.size (.deferred none)).heap[p2]?=some (.cells #[.bool b] 4 (0,0)):=(World.putObj_heap_other (by omega)).trans n1
  have e2:=e.putObj (l:=w1.heap.size) (by omega) (.deferred none)
  simp (disch:=try exact DI) only [↓PR,QR,simprocAttr,outX_nil,retV,resOne,(cells_of_heap n2).1]
  exact ⟨by rw [hb'],e2⟩
 unfold n61c4
 refine ⟨_,_,(eachT t 1).length,xsE (eachT t 1),ysE vs,EaAt w0 (W.heap.size+1) W.heap.size 1 cs3,I,Ix,fun _ _=>False,rfl,c85,hSeq _ _ _ (congrArg Value.agg h31),⟨E1,q1,q2,m2,m1,fun k x h=>absurd h (Nat.not_lt_zero _)⟩,fun j u h=>⟨h.1,h.2.2.2.1,h.2.2.2.2.1⟩,hLI,hLX,fun _=>Lasts2.const _ _,?_,?_,?_,?_⟩
 · intro Rk hRk j u hj hIu hRu hltu hready
   obtain ⟨y,hyj,hxs,hVy⟩:=hHold.at hj
   obtain ⟨yb,yh,yp,hyv,g1,g2,g3,f1,f2,f3⟩:=hVy.op
   rw [hxs,hyv]
   unfold n61c3
   simp (disch:=try exact DI) only [↓PR,QR,simprocAttr]
   change busyK _ (u.alloc (.cells #[.string y.2.nd.name,.int .i64 y.2.nd.int,yb,yh,yp] 26)) _
   have eU:Ext u (u.alloc (.cells #[.string y.2.nd.name,.int .i64 y.2.nd.int,yb,yh,yp] 26)):=ee
   have oU:=heap_new u #[.string y.2.nd.name,.int .i64 y.2.nd.int,yb,yh,yp] 26
   generalize (u.alloc (.cells #[.string y.2.nd.name,.int .i64 y.2.nd.int,yb,yh,yp] 26))=U at eU oU ⊢
   generalize hpu:u.heap.size=pu at oU ⊢
   refine ⟨by obtain ⟨r,h1,h2⟩:=hready;exact ⟨r,eU.obj h1,h2⟩,fun w5 hbz=>?_⟩
   have hR5:=hRk _ _ (KR.busied hbz) (hRk _ _ (KR.of eU) hRu)
   obtain ⟨e5,n1,n2,n3,n4,n5⟩:=(hLI j).busied hbz (Nat.le_succ _) ((hLI j).ext hIu eU)
   have qU:w5.heap[pu]?=some (.cells #[.string y.2.nd.name,.int .i64 y.2.nd.int,yb,yh,yp] 26 (0,0)):=(Lasts2.has w1.heap.size (by simp) (by simp)).busied hbz (Nat.le_succ _) oU
   have hw:IntKind.i64.wrap ((j:Int)+1)=((j+1:Nat):Int):=by rw [wrap_ok (by omega) (by omega)];omega
   have hR6:=hRk _ _ (KR.setCell (KR.refl _ w5) (p2+1) 0 (.int .i64 ((j+1:Nat):Int)) (.inl (by omega))) hR5
   have e6:=e5.setCell (p:=⟨p2+1,0,none⟩) (by show w0.heap.size≤p2+1;omega) (.int .i64 ((j+1:Nat):Int))
   have k1:(w5.setCell ⟨p2+1,0,none⟩ (.int .i64 ((j+1:Nat):Int))).heap[p2+1]?=some (.cells #[.int .i64 ((j+1:Nat):Int)] 3 (0,0)):=by simpa using heap_set (o:=0) n1 (.int .i64 ((j+1:Nat):Int))
   have k2:=(Only.setCell w5 (p2+1) 0 (.int .i64 ((j+1:Nat):Int)) _ (by omega)).trans n2
   have k3:=(Only.setCell w5 (p2+1) 0 (.int .i64 ((j+1:Nat):Int)) _ (by omega)).trans n3
   have k4:=(Only.setCell w5 (p2+1) 0 (.int .i64 ((j+1:Nat):Int)) _ (by omega)).trans n4
   have kU:=(Only.setCell w5 (p2+1) 0 (.int .i64 ((j+1:Nat):Int)) _ (by omega)).trans qU
   unfold n61c2
   simp (disch:=try exact DI) only [↓PR,QR,simprocAttr,(cells_of_heap n1).1,(cells_of_heap n1).2,hw]
   generalize (w5.setCell ⟨p2+1,0,none⟩ (.int .i64 ((j+1:Nat):Int)))=w6 at hR6 e6 k1 k2 k3 k4 kU ⊢
   have bad:¬ (j+1≤65536∧y.1≤40∧nodeB y.2.nd=true)→validT t=false:=fun hn=>by
    cases hv:validT t with
    | false=>rfl
    | true=>exact absurd ((validT_iff t).1 hv j y hyj) hn
   have stop:∀ w7,Rk w7→Ext w0 w7→w7.heap[p2]?=some (.cells #[.bool false] 4 (0,0))→¬ (j+1≤65536∧y.1≤40∧nodeB y.2.nd=true)→Rk (w7.setCell ⟨p2,0,none⟩ (.bool false))∧Ix 0 (w7.setCell ⟨p2,0,none⟩ (.bool false)):=fun w7 hR7 e7 k7 hn=>⟨hRk _ _ (KR.setCell (KR.refl _ w7) p2 0 _ (.inl (by omega))) hR7,rfl,e7.setCell (by show w0.heap.size≤p2;omega) _,by simpa using heap_set (o:=0) k7 (.bool false),bad hn⟩
   by_cases h1:j+1≤65536
   case neg =>
    have d1:decide (((j+1:Nat):Int) > 65536)=true:=decide_eq_true (by omega)
    simp (disch:=try exact DI) only [↓PR,QR,simprocAttr,(cells_of_heap k1).1,d1,↓n61c1,↓n61c2,↓n61c3,↓n61c4,(cells_of_heap k2).1,(cells_of_heap k2).2]
    exact stop _ hR6 e6 k2 (fun h=>h1 h.1)
   have d1:decide (((j+1:Nat):Int) > 65536)=false:=decide_eq_false (by omega)
   by_cases h2:y.1≤40
   case neg =>
    have d2:decide ((y.1:Int) > 40)=true:=decide_eq_true (by omega)
    simp (disch:=try exact DI) only [↓PR,QR,simprocAttr,(cells_of_heap k1).1,d1,d2,↓n61c1,↓n61c2,↓n61c3,↓n61c4,(cells_of_heap k2).1,(cells_of_heap k2).2]
    exact stop _ hR6 e6 k2 (fun h=>h2 h.2.1)
   have d2:decide ((y.1:Int) > 40)=false:=decide_eq_false (by omega)
   simp (disch:=try exact DI) only [↓PR,QR,simprocAttr,(cells_of_heap k1).1,d1,d2,↓n61c1,↓n61c2,↓n61c3,↓n61c4,(cells_of_heap kU).1]
   refine zcr (node_ret _ _ y.2 (ValAt.ext ⟨yb,yh,yp,rfl,g1,g2,g3⟩ e6)) fun w7 e7=>?_
   have hR7:=hRk _ _ (KR.of e7) hR6
   have k2':=e7.obj k2
   cases hnd:nodeB y.2.nd with
   | false =>
    simp (disch:=try exact DI) only [↓PR,QR,simprocAttr,↓n61c1,↓n61c2,↓n61c3,↓n61c4,(cells_of_heap k2').1,(cells_of_heap k2').2]
    exact stop _ hR7 (e6.trans e7) k2' (fun h=>by rw [hnd] at h;exact absurd h.2.2 (by simp))
   | true =>
    simp (disch:=try exact DI) only [↓PR,QR,simprocAttr,↓n61c1,↓n61c2,↓n61c3,↓n61c4]
    refine ⟨hR7,e6.trans e7,e7.obj k1,k2',e7.obj k3,e7.obj k4,fun k x hk hx=>?_⟩
    by_cases hkj:k=j
    · subst hkj
      rw [hyj] at hx
      injection hx with hx
      subst hx
      exact ⟨h1,h2,hnd⟩
    · exact n5 k x (by omega) hx
 · rintro u ⟨e,n1,n2,_,_,n5⟩ hmk
   have hv:validT t=true:=(validT_iff t).2 fun k x hx=>n5 k x (List.getElem?_eq_some_iff.1 hx).1 hx
   simp (disch:=try exact DI) only [↓PR,QR,simprocAttr,(cells_of_heap n2).1,(cells_of_heap n2).2]
   exact hout _ true (e.setCell (by show w0.heap.size≤p2;omega) _) (by simpa using heap_set (o:=0) n2 (.bool true)) (hmk.setCell _ _) hv
 · rintro c u ⟨rfl,e,n2,hv⟩ hmk
   exact hout _ false e n2 hmk hv
 · rintro ch u h
   exact h.elim
def n77c1 (t0:Value) (R:RT) (w:World):Prop :=
 opN Pg (nilN t0) (panK R) w fun t29 w =>
 opV Pg (Instr.fieldAt 83 t29 1) (panK R) w fun t30 w =>
 opV Pg (Instr.loadAt 3 t30) (panK R) w fun t31 w =>
 opV Pg (binS .add 3 true t31 (.int .i64 1)) (panK R) w fun t32 w =>
 opN Pg (nilN t0) (panK R) w fun t33 w =>
 opV Pg (Instr.fieldAt 83 t33 1) (panK R) w fun t34 w =>
 opU Pg (Instr.storeAt 3 t34 t32) (panK R) w fun w =>
 R (.returned (.bool true)) w
def n77c2 (t0 t1:Value) (C1:World→Prop) (R:RT) (w:World):Prop :=
 qN Pg C1 (nilN t0) fun t6 =>
 qV Pg C1 (Instr.fieldAt 83 t6 1) fun t7 =>
 qV Pg C1 (Instr.loadAt 3 t7) fun t8 =>
 qN Pg C1 (nilN t0) fun t10 =>
 qV Pg C1 (Instr.fieldAt 83 t10 0) fun t11 =>
 qV Pg C1 (Instr.loadAt 9 t11) fun t12 =>
 qV Pg C1 (Builtin.len_ #[9] 3 #[t12]) fun t13 =>
 qV Pg C1 (binS .eql 3 false t8 t13) fun t14 =>
 joinK (fun (t26:Value) (w:World) =>
 pickK t14 (.bool true) t26 fun t27 =>
 condP t27 (
 R (.returned (.bool false)) w) (
 n77c1 t0 R w)) fun K2 =>
 guardP t14 false (
 qN Pg C1 (nilN t0) fun t17 =>
 qV Pg C1 (Instr.fieldAt 83 t17 0) fun t18 =>
 qV Pg C1 (Instr.loadAt 9 t18) fun t19 =>
 qN Pg C1 (nilN t0) fun t21 =>
 qV Pg C1 (Instr.fieldAt 83 t21 1) fun t22 =>
 qV Pg C1 (Instr.loadAt 3 t22) fun t23 =>
 qV Pg C1 (Instr.index 9 t19 t23) fun t24 =>
 qV Pg C1 (binS .neq 5 false t24 t1) fun t26 =>
 K2 t26 w) (
 K2 undef w)
def n77 (t0 t1:Value) (R:RT) (w:World):Prop :=
 drawK w fun C1 w =>
 n77c2 t0 t1 C1 R w
theorem n77s {t0 t1:Value} {R:RT} {w:World} (h:n77 t0 t1 R w):Calls Pg 74 #[t0,t1] w R:=by
 refine yD Tryz.func74 ?_
 refine zs<|zr<|zm<|zn<|zk<|zs<|zs<|yh [5,6,7,8,9,10,11,12,13,14,15,16,17,18,19,20,21,22,23,24,25,26,27] h fun C hC h=>yw 0 hC ?_
 refine yn 1 hC h fun _ h=>?_
 refine ye 2 hC h fun _ h=>?_
 refine ye 3 hC h fun _ h=>?_
 refine yw 4 hC ?_
 refine yn 5 hC h fun _ h=>?_
 refine ye 6 hC h fun _ h=>?_
 refine ye 7 hC h fun _ h=>?_
 refine ye 8 hC h fun _ h=>?_
 refine ye 9 hC h fun _ h=>?_
 refine yw 10 hC ?_
 refine yj1 1 [21,20,19,18,17,16,15,14,13,12,11,10,9,8,7,6,5,4,3,2,1,0] [16,17,18,19,20,21,22,23,24,25,26] 26 h (fun _ hT hb h=>?_) (fun _ hT hb h=>?_) fun σ w hC h=>?_
 · refine yw 11 hC ?_
   refine yn 12 hC h fun _ h=>?_
   refine ye 13 hC h fun _ h=>?_
   refine ye 14 hC h fun _ h=>?_
   refine yw 15 hC ?_
   refine yn 16 hC h fun _ h=>?_
   refine ye 17 hC h fun _ h=>?_
   refine ye 18 hC h fun _ h=>?_
   refine ye 19 hC h fun _ h=>?_
   refine yw 20 hC ?_
   refine ye 21 hC h fun _ h=>?_
   exact yt hT hC h
 · refine yi 11 hC ?_
   refine yi 12 hC ?_
   refine yi 13 hC ?_
   refine yi 14 hC ?_
   refine yi 15 hC ?_
   refine yi 16 hC ?_
   refine yi 17 hC ?_
   refine yi 18 hC ?_
   refine yi 19 hC ?_
   refine yi 20 hC ?_
   refine yi 21 hC ?_
   exact yt hT hC h
 refine yP 22 hC h fun _ h=>?_
 refine yz<|zk<|yC h (fun h=>zs<|zr<|zm<|zn<|zk<|sim_ret<|sim_then_ret<|body_ret1 rfl rfl h) fun h=>sim_skip<|zk<|zs<|zr<|zm<|yN h fun _ w h=>yv h fun _ w h=>yv h fun _ w h=>yb h fun _ w h=>yN h fun _ w h=>yv h fun _ w h=>?_
 exact yu h fun w h=>zn<|zk<|zs<|zr<|zm<|zn<|zk<|sim_ret<|body_ret1 rfl rfl h
def n83 (t0:Value) (R:RT) (w:World):Prop :=
 opV Pg (binS .geq 5 true t0 (.int .u8 48)) (panK R) w fun t4 w =>
 joinK (fun (t7:Value) (w:World) =>
 pickK t4 t7 (.bool false) fun t8 =>
 R (.returned t8) w) fun K1 =>
 guardP t4 true (
 opV Pg (binS .leq 5 true t0 (.int .u8 57)) (panK R) w fun t7 w =>
 K1 t7 w) (
 K1 undef w)
theorem n83s {t0:Value} {R:RT} {w:World} (h:n83 t0 R w):Calls Pg 76 #[t0] w R:=by
 refine yD Tryz.func76 ?_
 refine zs<|zr<|zm<|zn<|zk<|zs<|sim_regionG<|yG 3<|zm<|yb h fun _ w h=>zm<|zn<|yg1 2 2 true [6,7] 7 h (fun _ T hT h=>?_) fun σ w h=>?_
 · refine zm<|yb h fun _ w h=>zn ?_
   exact zt hT h
 exact yG 2<|yp h fun _ h=>zm<|zn<|sim_end<|zk<|sim_ret<|body_ret1 rfl rfl h
def n79c1 (t18 t21 t31 t37:Value) (C2:World→Prop) (next1:KV) (R:RT) (w:World):Prop :=
 qV Pg C2 (binS .or 3 false t31 t37) fun t38 =>
 qV Pg C2 (Go.convert 3 5 t38) fun t39 =>
 qV Pg C2 (Instr.indexAt 22 t18 t21) fun t40 =>
 opU Pg (Instr.storeAt 5 t40 t39) (panK R) w fun w =>
 turnK w fun C3 w =>
 opV Pg (binS .add 3 true t21 (.int .i64 1)) (panK R) w fun t41 w =>
 next1 t41 w
def n79c2 (t18 t21 t30 t36:Value) (C2:World→Prop) (next1:KV) (R:RT) (w:World):Prop :=
 qV Pg C2 (binS .shl 3 true t30 (.int .u64 4)) fun t31 =>
 callK Pg 102 #[(.string { data := #[48,49,50,51,52,53,54,55,56,57,97,98,99,100,101,102] }),t36] (panK R) w fun t37 w =>
 C2 w∧(
 n79c1 t18 t21 t31 t37 C2 next1 R w)
def n79c3 (t9 t18 t21:Value) (C2:World→Prop) (next1:KV) (R:RT) (w:World):Prop :=
 qV Pg C2 (binS .mul 3 true (.int .i64 2) t21) fun t28 =>
 qV Pg C2 (Instr.index 9 t9 t28) fun t29 =>
 qV Pg C2 (binS .mul 3 true (.int .i64 2) t21) fun t34 =>
 qV Pg C2 (binS .add 3 true t34 (.int .i64 1)) fun t35 =>
 qV Pg C2 (Instr.index 9 t9 t35) fun t36 =>
 callK Pg 102 #[(.string { data := #[48,49,50,51,52,53,54,55,56,57,97,98,99,100,101,102] }),t29] (panK R) w fun t30 w =>
 C2 w∧(
 n79c2 t18 t21 t30 t36 C2 next1 R w)
def n79c4 (t9:Value) (R:RT) (w:World):Prop :=
 opV Pg (Builtin.len_ #[9] 3 #[t9]) (panK R) w fun t16 w =>
 opV Pg (binS .quo 3 true t16 (.int .i64 2)) (panK R) w fun t17 w =>
 opV Pg (Instr.makeSlice 22 t17 t17) (panK R) w fun t18 w =>
 opV Pg (Builtin.len_ #[22] 3 #[t18]) (panK R) w fun t20 w =>
 loop1 (fun t21 w next1 =>
 opV Pg (binS .lss 3 false t21 t20) (panK R) w fun t22 w =>
 condP t22 (
 drawK w fun C2 w =>
 n79c3 t9 t18 t21 C2 next1 R w) (
 R (.returned t18) w)) (.int .i64 0) w
def n79c5 (t9:Value) (R:RT) (w:World):Prop :=
 opV Pg (Builtin.len_ #[9] 3 #[t9]) (panK R) w fun t11 w =>
 opV Pg (binS .rem 3 true t11 (.int .i64 2)) (panK R) w fun t12 w =>
 opV Pg (binS .eql 3 true t12 (.int .i64 0)) (panK R) w fun t13 w =>
 callK Pg 52 #[t13] (panK R) w fun t14 w =>
 n79c4 t9 R w
def n79 (t0:Value) (R:RT) (w:World):Prop :=
 opN Pg (nilN t0) (panK R) w fun t7 w =>
 opV Pg (Instr.fieldAt 85 t7 0) (panK R) w fun t8 w =>
 callK Pg 71 #[t8,(.func (.func 101) #[] #[])] (panK R) w fun t9 w =>
 n79c5 t9 R w
theorem n79s {t0:Value} {R:RT} {w:World} (h:n79 t0 R w):Calls Pg 77 #[t0] w R:=by
 refine yD Tryz.func77 ?_
 refine zs<|zr<|zm<|zn<|zk<|zs<|zr<|zm<|yN h fun _ w h=>yv h fun _ w h=>yc h c71 fun _ w h=>zm<|zn<|zk<|zs ?_
 refine zr<|zm<|yx h fun _ w h=>yb h fun _ w h=>yb h fun _ w h=>yc h c52 fun _ w h=>zn<|zk<|zs<|zr<|zm<|yx h fun _ w h=>yb h fun _ w h=>yv h fun _ w h=>zm ?_
 refine zn<|zk<|zs<|zs<|zr<|zm<|yx h fun _ w h=>zm<|zn<|zk<|sim_block<|yl1 [5,21,22,23,24,25,26,27,28,29,30,31,32,33,34,35,36,37,38,39,40,41] 21 h fun σ w next h=>zs<|zr<|yb h fun _ w h=>?_
 refine zn<|zk<|zs<|yC h (fun h=>?_) fun h=>?_
 · refine sim_skip<|zk<|zs<|sim_block<|zs<|zr<|zm<|zm<|zn<|zk<|yh [24,25,26,27,28,29,30,31,32,33,34,35,36,37,38,39,40] h fun C hC h=>yw 0 hC ?_
   refine yw 1 hC ?_
   refine yw 2 hC ?_
   refine yw 3 hC ?_
   refine ye 4 hC h fun _ h=>?_
   refine ye 5 hC h fun _ h=>?_
   refine yw 8 hC ?_
   refine yw 9 hC ?_
   refine ye 10 hC h fun _ h=>?_
   refine ye 11 hC h fun _ h=>?_
   refine ye 12 hC h fun _ h=>?_
   refine yo 6 ?_
   refine yc h c102 fun _ w h=>zn ?_
   obtain ⟨hC,h⟩:=h
   refine ⟨hC,?_⟩
   refine ye 7 hC h fun _ h=>?_
   refine yo 13 ?_
   refine yc h c102 fun _ w h=>zn ?_
   obtain ⟨hC,h⟩:=h
   refine ⟨hC,?_⟩
   refine ye 14 hC h fun _ h=>?_
   refine ye 15 hC h fun _ h=>?_
   refine ye 16 hC h fun _ h=>?_
   refine yq 17 1 ?_
   refine yu h fun w h=>zn ?_
   obtain ⟨C3,hC,h⟩:=h
   refine ⟨C3,hC,?_⟩
   exact yz<|sim_block_normal<|zk<|zr<|yb h fun _ w h=>zm<|zn<|zk<|⟨rfl,h⟩
 exact sim_exit<|sim_then_exit<|sim_then_exit<|sim_block_hit<|zk<|zs<|zr<|zm<|zm<|zn<|zk<|sim_ret<|body_ret1 rfl rfl h
def n16c1 (t0 t3 t28 t34:Value) (next3:KV) (R:RT) (w:World):Prop :=
 pickK t28 t34 (.bool false) fun t35 =>
 joinK (fun (t40:Value) (w:World) =>
 pickK t35 t40 (.bool false) fun t41 =>
 condP t41 (
 R (.returned (.bool false)) w) (
 opV Pg (binS .add 3 true t3 (.int .i64 1)) (panK R) w fun t23 w =>
 next3 t23 w)) fun K5 =>
 guardP t35 true (
 opV Pg (Instr.index 9 t0 t3) (panK R) w fun t39 w =>
 opV Pg (binS .neq 5 true t39 (.int .u8 95)) (panK R) w fun t40 w =>
 K5 t40 w) (
 K5 undef w)
def n16c2 (t0 t3 t27:Value) (next3:KV) (R:RT) (w:World):Prop :=
 opV Pg (Op.unary .not t27) (panK R) w fun t28 w =>
 joinK (fun (t34:Value) (w:World) =>
 n16c1 t0 t3 t28 t34 next3 R w) fun K4 =>
 guardP t28 true (
 opV Pg (Instr.index 9 t0 t3) (panK R) w fun t32 w =>
 callK Pg 104 #[t32] (panK R) w fun t33 w =>
 opV Pg (Op.unary .not t33) (panK R) w fun t34 w =>
 K4 t34 w) (
 K4 undef w)
def n16c3 (t0 t3:Value) (next3:KV) (R:RT) (w:World):Prop :=
 opV Pg (Builtin.len_ #[9] 3 #[t0]) (panK R) w fun t20 w =>
 opV Pg (binS .lss 3 false t3 t20) (panK R) w fun t21 w =>
 condP t21 (
 opV Pg (Instr.index 9 t0 t3) (panK R) w fun t26 w =>
 callK Pg 103 #[t26] (panK R) w fun t27 w =>
 n16c2 t0 t3 t27 next3 R w) (
 R (.returned (.bool true)) w)
def n16c4 (t0 t6 t10:Value) (R:RT) (w:World):Prop :=
 pickK t6 (.bool true) t10 fun t11 =>
 joinK (fun (t16:Value) (w:World) =>
 pickK t11 (.bool true) t16 fun t17 =>
 condP t17 (
 R (.returned (.bool false)) w) (
 loop1 (fun t3 w next3 =>
 n16c3 t0 t3 next3 R w) (.int .i64 0) w)) fun K2 =>
 guardP t11 false (
 opV Pg (Instr.index 9 t0 (.int .i64 0)) (panK R) w fun t14 w =>
 callK Pg 103 #[t14] (panK R) w fun t15 w =>
 opV Pg (Op.unary .not t15) (panK R) w fun t16 w =>
 K2 t16 w) (
 K2 undef w)
def n16 (t0:Value) (R:RT) (w:World):Prop :=
 opV Pg (Builtin.len_ #[9] 3 #[t0]) (panK R) w fun t5 w =>
 opV Pg (binS .lss 3 true t5 (.int .i64 1)) (panK R) w fun t6 w =>
 joinK (fun (t10:Value) (w:World) =>
 n16c4 t0 t6 t10 R w) fun K1 =>
 guardP t6 false (
 opV Pg (Builtin.len_ #[9] 3 #[t0]) (panK R) w fun t9 w =>
 opV Pg (binS .gtr 3 true t9 (.int .i64 32)) (panK R) w fun t10 w =>
 K1 t10 w) (
 K1 undef w)
theorem n16s {t0:Value} {R:RT} {w:World} (h:n16 t0 R w):Calls Pg 78 #[t0] w R:=by
 refine yD Tryz.func78 ?_
 refine zs<|zr<|zm<|zn<|zk<|zs<|zs<|sim_regionG<|yG 4<|zm<|yx h fun _ w h=>yb h fun _ w h=>zm<|zn<|yg1 3 3 false [8,9,10] 10 h (fun _ T hT h=>?_) fun σ w h=>?_
 · refine zm<|yx h fun _ w h=>yb h fun _ w h=>zn ?_
   exact zt hT h
 refine yG 2<|yp h fun _ h=>zm<|zn<|yg1 4 8 false [13,14,15,16] 16 h (fun _ T hT h=>?_) fun σ w h=>?_
 · refine zm<|yv h fun _ w h=>yc h c103 fun _ w h=>yv h fun _ w h=>zn ?_
   exact zt hT h
 refine yG 1<|yp h fun _ h=>zn<|sim_end<|zk<|yC h (fun h=>zs<|zr<|zm<|zn<|zk<|sim_ret<|sim_then_ret<|body_ret1 rfl rfl h) fun h=>sim_skip<|zk<|zs<|zs<|zr<|zm<|zn<|zk ?_
 refine sim_block<|yl1 [2,3,18,19,20,21,22,23,24,25,26,27,28,29,30,31,32,33,34,35,36,37,38,39,40,41] 3 h fun σ w next h=>zs<|zs<|zr<|zm<|zm<|yx h fun _ w h=>yb h fun _ w h=>zn<|zk<|yC h (fun h=>?_) fun h=>?_
 · refine sim_skip<|zk<|zs<|sim_block<|zs<|sim_regionG<|yG 6<|zm<|zm<|yv h fun _ w h=>yc h c103 fun _ w h=>yv h fun _ w h=>zm<|zn<|yg1 5 5 true [30,31,32,33,34] 34 h (fun _ T hT h=>?_) fun σ w h=>?_
   · refine zm<|zm<|yv h fun _ w h=>yc h c104 fun _ w h=>yv h fun _ w h=>zn ?_
     exact zt hT h
   refine yG 2<|yp h fun _ h=>zm<|zn<|yg1 4 12 true [37,38,39,40] 40 h (fun _ T hT h=>?_) fun σ w h=>?_
   · refine zm<|zm<|yv h fun _ w h=>yb h fun _ w h=>zn ?_
     exact zt hT h
   refine yG 1<|yp h fun _ h=>zn<|sim_end<|zk<|yC h (fun h=>zs<|zr<|zm<|zn<|zk<|sim_ret<|sim_block_ret<|sim_then_ret<|sim_then_ret<|sim_block_ret<|sim_then_ret<|body_ret1 rfl rfl h) fun h=>sim_skip<|sim_block_normal<|zk<|zr<|zm<|yb h fun _ w h=>zm<|zn ?_
   exact zk<|⟨rfl,h⟩
 exact sim_exit<|sim_then_exit<|sim_then_exit<|sim_block_hit<|zk<|zs<|zr<|zm<|zn<|zk<|sim_ret<|body_ret1 rfl rfl h
theorem rName_ret (w0:World) (s:ByteArray):Ret Pg 78 #[.string s] w0 fun r w'=>r = .bool (nameB s)∧Ext w0 w':=by
 have hsz:s.data.toList.length=s.size:=by rw [Array.length_toList];rfl
 refine n16s (R:=retR _) ?_;unfold n16
 by_cases h1:1≤s.size
 · have d1:decide ((s.size:Int) < 1)=false:=by simp;omega
   by_cases h2:s.size≤32
   · have d2:decide ((s.size:Int) > 32)=false:=by simp;omega
     simp (disch:=try exact DI) only [↓PR,QR,simprocAttr,d1,d2]
     unfold n16c4
     have hd:nameB s=((match s.data.toList with | []=>false | c::_=>letterB c)&&s.data.toList.all wordB):=by
      unfold nameB
      rw [show decide (1≤(s.size:Int))=true by simp;omega,show decide ((s.size:Int)≤32)=true by simp;omega]
      rfl
     rw [hd]
     clear hd
     obtain ⟨c,cs,hcs⟩:∃ c cs,s.data.toList=c::cs:=by
      cases hd:s.data.toList with
      | nil=>rw [hd] at hsz;simp at hsz;omega
      | cons c cs=>exact ⟨c,cs,rfl⟩
     simp (disch:=try exact DI) only [↓PR,QR,simprocAttr]
     rw [op_indexS0 Tryz.underlying9 s .i64 (b:=c) (by rw [hcs];rfl)]
     refine callK_ret (rletter_ret _ c) ?_
     rintro r w1 ⟨rfl,e⟩
     rw [show (match s.data.toList with | []=>false | c::_=>letterB c)=letterB c by rw [hcs]]
     cases hl:letterB c with
     | false =>
      simp (disch:=try exact DI) only [↓PR,QR,simprocAttr]
      exact ⟨by trivial,e⟩
     | true =>
      simp (disch:=try exact DI) only [↓PR,QR,simprocAttr]
      clear hl hcs
      refine loop1_intro (fun i w'=>∃ k:Nat,i = .int .i64 k∧k≤s.data.toList.length∧Ext w0 w'∧(s.data.toList.drop k).all wordB=s.data.toList.all wordB) (fun i _=>s.data.toList.length - (intOf i).toNat) ⟨0,rfl,by omega,e,rfl⟩ ?_
      rintro _ w2 ⟨k,rfl,hk,e2,hI⟩
      rcases drop_cases hk with ⟨x,hx,hd,hlt,hdec⟩ | ⟨hk,hd,hdec⟩
      · rw [hsz] at hdec
        have hidx:∀ (R:List PanicEntry→World→Prop) (w:World) (K:Value→World→Prop),opV Pg (Instr.index 9 (.string s) (.int .i64 (k:Int))) R w K=K (.int .u8 (x.toNat:Int)) w:=fun R w K=>op_indexS Tryz.underlying9 s .i64 k hx
        have hnext:wordB x=true→∀ w',Ext w0 w'→(∃ k':Nat,Value.int .i64 ((k+1:Nat):Int) = .int .i64 k'∧k'≤s.data.toList.length∧Ext w0 w'∧(s.data.toList.drop k').all wordB=s.data.toList.all wordB)∧s.data.toList.length - (intOf (Value.int .i64 ((k+1:Nat):Int))).toNat < s.data.toList.length - (intOf (Value.int .i64 (k:Int))).toNat:=by
         intro hx1 w' e'
         refine ⟨⟨k+1,rfl,hlt,e',?_⟩,?_⟩
         · rw [← hI,hd];simp [hx1]
         · show s.data.toList.length - (((k+1:Nat):Int)).toNat < s.data.toList.length - ((k:Int)).toNat
           omega
        have hstop:wordB x=false→s.data.toList.all wordB=false:=by
         intro hx1
         rw [← hI,hd];simp [hx1]
        unfold n16c3
        simp (disch:=try exact DI) only [↓PR,QR,simprocAttr,hdec]
        rw [hidx]
        refine callK_ret (rletter_ret _ x) ?_
        rintro r w3 ⟨rfl,e3⟩
        have e4:=e2.trans e3
        unfold n16c2
        cases hl:letterB x with
        | true =>
         simp (disch:=try exact DI) only [↓PR,QR,simprocAttr,n16c1]
         exact hnext (by unfold wordB;rw [hl];rfl) _ e4
        | false =>
         simp (disch:=try exact DI) only [↓PR,QR,simprocAttr]
         rw [hidx]
         refine callK_ret (rdigit_ret _ x) ?_
         rintro r w5 ⟨rfl,e5⟩
         have e6:=e4.trans e5
         unfold n16c1
         cases hg:digitB x with
         | true =>
          simp (disch:=try exact DI) only [↓PR,QR,simprocAttr]
          exact hnext (by unfold wordB;rw [hl,hg];rfl) _ e6
         | false =>
          simp (disch:=try exact DI) only [↓PR,QR,simprocAttr]
          rw [hidx]
          cases hu:((x.toNat:Int) == 95) with
          | true =>
           have hu':((x.toNat:Int) != 95)=false:=by rw [bne,hu];rfl
           simp (disch:=try exact DI) only [↓PR,QR,simprocAttr,hu']
           exact hnext (by unfold wordB;rw [hl,hg,hu];rfl) _ e6
          | false =>
           have hu':((x.toNat:Int) != 95)=true:=by rw [bne,hu];rfl
           simp (disch:=try exact DI) only [↓PR,QR,simprocAttr,hu']
           exact ⟨by rw [hstop (by unfold wordB;rw [hl,hg,hu];rfl)],e6⟩
      · rw [hsz] at hdec hk
        unfold n16c3
        simp (disch:=try exact DI) only [↓PR,QR,simprocAttr,hdec]
        refine ⟨?_,e2⟩
        rw [← hI,hd]
        rfl
   · have d2:decide ((s.size:Int) > 32)=true:=by simp;omega
     simp (disch:=try exact DI) only [↓PR,QR,simprocAttr,d1,d2]
     unfold n16c4
     simp (disch:=try exact DI) only [↓PR,QR,simprocAttr]
     refine ⟨?_,Ext.refl _⟩
     unfold nameB
     rw [show decide ((s.size:Int)≤32)=false by simp;omega]
     simp
 · have d1:decide ((s.size:Int) < 1)=true:=by simp;omega
   simp (disch:=try exact DI) only [↓PR,QR,simprocAttr,d1]
   unfold n16c4
   simp (disch:=try exact DI) only [↓PR,QR,simprocAttr]
   refine ⟨?_,Ext.refl _⟩
   unfold nameB
   rw [show decide (1≤(s.size:Int))=false by simp;omega]
   simp
theorem sum_take_succ {l:List Nat} {k a:Nat} (h:l[k]?=some a):(l.take (k+1)).sum=(l.take k).sum+a:=by
 rw [List.take_add_one,h]
 simp
theorem sum_take_le (l:List Nat) (k:Nat):(l.take k).sum≤l.sum:=by
 have:l.sum=(l.take k).sum+(l.drop k).sum:=by rw [← List.sum_append_nat,List.take_append_drop]
 omega
theorem max_take_succ {l:List Nat} {k a:Nat} (h:l[k]?=some a):(l.take (k+1)).foldr max 0=max ((l.take k).foldr max 0) a:=by
 have key:∀ (m:List Nat),(m++[a]).foldr max 0=max (m.foldr max 0) a:=by
  intro m
  induction m with
  | nil=>simp
  | cons b m ih=>rw [List.cons_append,List.foldr_cons,List.foldr_cons,ih,Nat.max_assoc]
 rw [List.take_add_one,h]
 exact key _
theorem rNodes_ret (t:Tr):∀ (w0:World) (v:Value),ValAt w0 v t→nodesT t≤1000000000→Ret Pg 60 #[v] w0 fun r w'=>r = .int .i64 (nodesT t:Int)∧Ext w0 w':=by
 refine Tr.ind (p:=fun t=>∀ (w0:World) (v:Value),ValAt w0 v t→nodesT t≤1000000000→Ret Pg 60 #[v] w0 fun r w'=>r = .int .i64 (nodesT t:Int)∧Ext w0 w') ?_ t
 intro n ps ih w0 v hval hb
 obtain ⟨bv,hv,pv,rfl,f1,f2,f3,f4,f5,f6⟩:=hval.op
 simp only [Tr.nd,Tr.ps] at f1 f2 f3 ⊢
 obtain ⟨A,c,rfl,_,_,_,hel⟩:=SliceOf.open f3
 rw [nodesT_mk] at hb ⊢
 refine n22s (R:=retR _) ?_;unfold n22
 rw [op_boxA]
 have h0:=heap_new w0 (trCells n bv hv (.slice A ps.length c)).toArray 26
 have e0:Ext w0 (w0.alloc (.cells (trCells n bv hv (.slice A ps.length c)).toArray 26)):=ee
 generalize (w0.alloc (.cells (trCells n bv hv (.slice A ps.length c)).toArray 26))=X at h0 e0 ⊢
 generalize w0.heap.size=p1 at h0 ⊢
 refine loop2_intro (fun s i w=>∃ k:Nat,s = .int .i64 ((1+((ps.map nodesT).take k).sum:Nat):Int)∧i = .int .i64 k∧k≤ps.length∧Ext X w) (fun _ i _=>ps.length - (intOf i).toNat) ⟨0,rfl,rfl,by omega,Ext.refl _⟩ ?_
 rintro _ _ w ⟨k,rfl,rfl,hk,e⟩
 unfold n22c2
 by_cases hlt:k < ps.length
 case neg =>
  obtain rfl:k=ps.length:=by omega
  have d:decide ((ps.length:Int) < (ps.length:Int))=false:=decide_eq_false (by omega)
  simp (disch:=try exact DI) only [↓PR,QR,simprocAttr,d,(cells_of_heap (e.obj h0)).1]
  exact ⟨by rw [List.take_of_length_le (by simp)],e0.trans e⟩
 have d:decide ((k:Int) < (ps.length:Int))=true:=decide_eq_true (by omega)
 have dk:(k:Int) < (ps.length:Int):=by omega
 obtain ⟨x,hx⟩:=getElem?_lt hlt
 obtain ⟨b,o,cs,rfl,hl,hA,hE⟩:=hel k x hx
 obtain ⟨xb,xh,xp,rfl,x1,x2,x3,x4,x5,x6⟩:=hE.op
 have hmk:(ps.map nodesT)[k]?=some (nodesT x):=by rw [List.getElem?_map,hx];rfl
 have hs:=sum_take_succ hmk
 have hle:=sum_take_le (ps.map nodesT) (k+1)
 have hw:IntKind.i64.wrap ((k:Int)+1)=((k+1:Nat):Int):=by rw [wrap_ok (by omega) (by omega)];omega
 have hw2:IntKind.i64.wrap (((1+((ps.map nodesT).take k).sum:Nat):Int)+(nodesT x:Int))=((1+((ps.map nodesT).take (k+1)).sum:Nat):Int):=by rw [wrap_ok (by omega) (by omega),hs];omega
 have E:=e0.trans e
 simp (disch:=try exact DI) only [↓PR,QR,simprocAttr,d,(cells_of_heap (e.obj h0)).1,↓n22c1,dk,hA.c5 E]
 refine zcr (ih x (List.mem_of_getElem? hx) w _ (ValAt.ext ⟨xb,xh,xp,rfl,x1,x2,x3⟩ E) (by omega)) fun w1 e1=>?_
 simp (disch:=try exact DI) only [↓PR,QR,simprocAttr,hw,hw2]
 exact ⟨⟨k+1,rfl,rfl,by omega,e.trans e1⟩,meas_lt (kd := .i64) hlt⟩
theorem rHeight_ret (t:Tr):∀ (w0:World) (v:Value),ValAt w0 v t→nodesT t≤1000000000→Ret Pg 61 #[v] w0 fun r w'=>r = .int .i64 (heightT t:Int)∧Ext w0 w':=by
 refine Tr.ind (p:=fun t=>∀ (w0:World) (v:Value),ValAt w0 v t→nodesT t≤1000000000→Ret Pg 61 #[v] w0 fun r w'=>r = .int .i64 (heightT t:Int)∧Ext w0 w') ?_ t
 intro n ps ih w0 v hval hb
 obtain ⟨bv,hv,pv,rfl,f1,f2,f3,f4,f5,f6⟩:=hval.op
 simp only [Tr.nd,Tr.ps] at f1 f2 f3 ⊢
 obtain ⟨A,c,rfl,_,_,_,hel⟩:=SliceOf.open f3
 have hht:=height_le (.mk n ps)
 rw [heightT_mk] at hht ⊢
 rw [nodesT_mk] at hb hht
 refine n21s (R:=retR _) ?_;unfold n21
 rw [op_boxA]
 have h0:=heap_new w0 (trCells n bv hv (.slice A ps.length c)).toArray 26
 have e0:Ext w0 (w0.alloc (.cells (trCells n bv hv (.slice A ps.length c)).toArray 26)):=ee
 generalize (w0.alloc (.cells (trCells n bv hv (.slice A ps.length c)).toArray 26))=X at h0 e0 ⊢
 generalize w0.heap.size=p1 at h0 ⊢
 refine loop2_intro (fun s i w=>∃ k:Nat,s = .int .i64 ((((ps.map heightT).take k).foldr max 0:Nat):Int)∧i = .int .i64 k∧k≤ps.length∧Ext X w) (fun _ i _=>ps.length - (intOf i).toNat) ⟨0,rfl,rfl,by omega,Ext.refl _⟩ ?_
 rintro _ _ w ⟨k,rfl,rfl,hk,e⟩
 unfold n21c2
 by_cases hlt:k < ps.length
 case neg =>
  obtain rfl:k=ps.length:=by omega
  have d:decide ((ps.length:Int) < (ps.length:Int))=false:=decide_eq_false (by omega)
  rw [List.take_of_length_le (by simp)]
  have hw:IntKind.i64.wrap ((((ps.map heightT).foldr max 0:Nat):Int)+1)=((1+(ps.map heightT).foldr max 0:Nat):Int):=by rw [wrap_ok (by omega) (by omega)];omega
  simp (disch:=try exact DI) only [↓PR,QR,simprocAttr,d,(cells_of_heap (e.obj h0)).1,hw]
  exact ⟨by trivial,e0.trans e⟩
 have d:decide ((k:Int) < (ps.length:Int))=true:=decide_eq_true (by omega)
 have dk:(k:Int) < (ps.length:Int):=by omega
 obtain ⟨x,hx⟩:=getElem?_lt hlt
 obtain ⟨b,o,cs,rfl,hl,hA,hE⟩:=hel k x hx
 obtain ⟨xb,xh,xp,rfl,x1,x2,x3,x4,x5,x6⟩:=hE.op
 have hmk:(ps.map heightT)[k]?=some (heightT x):=by rw [List.getElem?_map,hx];rfl
 have hnk:(ps.map nodesT)[k]?=some (nodesT x):=by rw [List.getElem?_map,hx];rfl
 have hs:=max_take_succ hmk
 have hle:=sum_take_le (ps.map nodesT) (k+1)
 have hle2:=sum_take_succ hnk
 have hw:IntKind.i64.wrap ((k:Int)+1)=((k+1:Nat):Int):=by rw [wrap_ok (by omega) (by omega)];omega
 have E:=e0.trans e
 simp (disch:=try exact DI) only [↓PR,QR,simprocAttr,d,(cells_of_heap (e.obj h0)).1,↓n21c1,dk,hA.c5 E]
 refine zcr (ih x (List.mem_of_getElem? hx) w _ (ValAt.ext ⟨xb,xh,xp,rfl,x1,x2,x3⟩ E) (by omega)) fun w1 e1=>?_
 simp (disch:=try exact DI) only [↓PR,QR,simprocAttr,hw]
 refine ⟨⟨k+1,?_,rfl,by omega,e.trans e1⟩,meas_lt (kd := .i64) hlt⟩
 rw [hs]
 congr 1
 omega
end Go.Proofs.YtcffhmapmaahnaaGreatDoor
