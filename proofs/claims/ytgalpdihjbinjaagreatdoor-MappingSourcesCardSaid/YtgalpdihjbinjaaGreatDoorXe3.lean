/-
  Lemmas for the claim.
-/
import Derived.Test.YtgalpdihjbinjaaGreatDoorXe2
set_option linter.all false
set_option maxHeartbeats 40000000
set_option maxRecDepth 100000
namespace Go.Sw
open Go.RowKit (Below)
def KR5 (_B:Nat) (w w':World):Prop:=w.heap.size≤w'.heap.size∧(∀ (b:Nat) (r:Loop),w.heap[b]?=some (.loop r)→∃ st p,w'.heap[b]?=some (.loop { r with state:=st,pending:=p })) ∧
 (∀ (b:Nat),w.heap[b]?=some (.deferred (some []))→w'.heap[b]?=some (.deferred (some [])))
section
variable {B:Nat} {w w1 w2:World}
theorem KR5.of2 (h:KR B w w1):KR5 B w w1:=⟨h.1,h.2.1,h.2.2.1⟩
theorem KR5.refl (B:Nat) (w:World):KR5 B w w := .of2 (KR.refl B w)
theorem KR5.trans (h:KR5 B w w1) (k:KR5 B w1 w2):KR5 B w w2:=⟨Nat.le_trans h.1 k.1,fun b r hb=>by
 obtain ⟨st,p,h1⟩:=h.2.1 b r hb
 obtain ⟨st',p',h2⟩:=k.2.1 b _ h1
 exact ⟨st',p',h2⟩,fun b hb=>k.2.2 b (h.2.2 b hb)⟩
theorem KR5.of (e:Ext w w1):KR5 B w w1 := .of2 (.of e)
theorem KR5.setCell (h:KR5 B w w1) (b o:Nat) (v:Value):KR5 B w (w1.setCell ⟨b,o,none⟩ v):=h.trans ⟨by simp,fun b r hb=>⟨r.state,r.pending,(KeepsOthers.setCell w1 _ v).same _ _ hb rfl⟩,fun b hb=>(KeepsOthers.setCell w1 _ v).same _ _ hb rfl⟩
theorem KR5.turn {l:Nat} {r:Loop} (hl:w.heap[l]?=some (.loop r)) (st:LoopState) (p:Option Code):KR5 B w (w.putObj l (.loop { r with state:=st,pending:=p })) := .of2 (.turn hl st p)
theorem KR5.grown {row:Option Nat} (h:KR5 B w w1) (hg:w1.grownBy w2 row) (hr:∀ g,row=some g→∃ cs T f,w1.heap[g]?=some (.cells cs T f)):KR5 B w w2:=h.trans ⟨hg.size,fun b r hb=>⟨r.state,r.pending,(hg.block b (Qk hb).1 (fun e=>by
 obtain ⟨cs,T,f,hc⟩:=hr b e.symm
 rw [hb] at hc;cases hc)).trans hb⟩,fun b hb=>(hg.block b (Qk hb).1 (fun e=>by
 obtain ⟨cs,T,f,hc⟩:=hr b e.symm
 rw [hb] at hc;cases hc)).trans hb⟩
end
def Firm5 (B:Nat) (R:World→Prop):Prop:=∀ w w',KR5 B w w'→R w→R w'
theorem RecAt.firm5 (rec:Loop) (B b:Nat):Firm5 B (RecAt rec b):=fun w w' h ⟨h1,st,p,h2⟩=>by
 obtain ⟨st',p',h3⟩:=h.2.1 _ _ h2
 exact ⟨h.2.2 _ h1,st',p',h3⟩
end Go.Sw
namespace Go.Sw
variable {α:Type}
def setA (cs:Array Value) (o:Nat):List Value→Array Value
 | []=>cs
 | v::vs=>setA (cs.setIfInBounds o v) (o+1) vs
theorem setA_get:∀ (vs:List Value) (cs:Array Value) (o j:Nat),o+vs.length≤cs.size→(setA cs o vs)[j]?=if o≤j∧j < o+vs.length then vs[j - o]? else cs[j]?
 | [],cs,o,j,_=>by rw [if_neg (by simp only [List.length_nil];omega)];rfl
 | v::vs,cs,o,j,h=>by
  rw [List.length_cons] at h
  rw [setA,setA_get vs _ (o+1) j (by rw [Array.size_setIfInBounds];omega),List.length_cons]
  by_cases h1:j=o
  · subst h1
    rw [if_neg Qx,if_pos Qx,Nat.sub_self,Array.getElem?_setIfInBounds_self_of_lt Qx]
    rfl
  · by_cases h2:o+1≤j∧j < o+1+vs.length
    · rw [if_pos h2,if_pos Qx,show j - o=(j - (o+1))+1 by omega,List.getElem?_cons_succ]
    · rw [if_neg h2,if_neg Qx,Array.getElem?_setIfInBounds_ne Qx]
theorem setA_all {vs:List Value} {cs:Array Value} (h:vs.length=cs.size):setA cs 0 vs=vs.toArray:=by
 apply Array.ext_getElem?
 intro j
 rw [setA_get vs cs 0 j Qx]
 by_cases hj:j < vs.length
 · rw [if_pos Qx,Nat.sub_zero,List.getElem?_toArray]
 · have hs:vs.toArray.size=vs.length:=List.size_toArray ..
   rw [if_neg Qx,Array.getElem?_eq_none Qx,Array.getElem?_eq_none Qx]
theorem setCells_heap {T:TypeId} {b:Nat}:∀ (vs:List Value) {w:World} {cs:Array Value} (o:Nat),w.heap[b]?=some (.cells cs T (0,0))→(setCells w b o vs).heap[b]?=some (.cells (setA cs o vs) T (0,0))
 | [],_,_,_,h=>h
 | v::vs,_,_,o,h=>setCells_heap vs (o+1) (heap_set h v)
theorem setCells_only {b:Nat}:∀ (vs:List Value) (w:World) (o:Nat) (g:Nat),g≠b→(setCells w b o vs).heap[g]?=w.heap[g]?
 | [],_,_,_,_=>rfl
 | v::vs,w,o,g,h=>(setCells_only vs _ (o+1) g h).trans (Only.setCell w b o v g h)
theorem setCells_size {b:Nat}:∀ (vs:List Value) (w:World) (o:Nat),(setCells w b o vs).heap.size=w.heap.size
 | [],_,_=>rfl
 | v::vs,w,o=>by rw [setCells,setCells_size vs,World.size_setCell]
theorem setCells_ext {b:Nat}:∀ (vs:List Value) (w:World) (o:Nat) (a:World),Ext a w→a.heap.size≤b→Ext a (setCells w b o vs)
 | [],_,_,_,e,_=>e
 | v::vs,w,o,a,e,hb=>setCells_ext vs _ (o+1) a (e.setCell (p:=⟨b,o,none⟩) hb v) hb
theorem op_storeO {P:Program} {w:World} {QP:List PanicEntry→World→Prop} {ku:World→Prop} {T T':TypeId} {n m b:Nat} {z:Value} {cs:Array Value} (h:TyInfo P T true n m z) (ho:w.heap[b]?=some (.cells cs T' (0,0))) {vs:List Value} (hn:vs.length=n) (hc:n≤cs.size) (hv:∀ v∈vs,v.oneCell'=true) :
 opU P (Instr.storeAt T (.pointer (some ⟨b,0,none⟩)) (.agg vs.toArray)) QP w ku=ku (setCells w b 0 vs):=by
 refine opU_ok (u:=()) ?_
 have hq:=cells_of_heap ho
 have hcc:∀ j,j < vs.length→∃ u,w.cell? ⟨b,0+(0+j),none⟩=some u:=fun j hj=>by
  rw [hq.1]
  exact ⟨cs[j]'Qx,by rw [Nat.zero_add,Nat.zero_add];exact Array.getElem?_eq_getElem Qx⟩
 have hff:∀ j,j < vs.length→w.frozen? ⟨b,0+(0+j),none⟩=false:=fun j _=>hq.2 _
 have:=run_storeCellsA (P:=P) b 0 vs 0 w hcc hff hv
 simp [Instr.storeAt,Instr.sureAddr,storeVar,run_sizeOf h,cells_agg,hn,this]
end Go.Sw
namespace Go.Sw
open Go.RowKit (Below)
def softO:Obj→Bool
 | .loop _=>true
 | .deferred _=>true
 | .mapIter .. => true
 | _=>false
structure LW6 (B:Nat) (w w':World):Prop where
 os:w'.os=w.os
 tape:w'.tape=w.tape
 output:w'.output=w.output
 size:w.heap.size≤w'.heap.size
 block:∀ b,b < w.heap.size→w'.heap[b]?=w.heap[b]?∨(B≤b∧∃ o,w.heap[b]?=some o∧softO o=true)
theorem LW6.mono {B B':Nat} {w w':World} (h:LW6 B w w') (hb:B'≤B):LW6 B' w w':=⟨h.os,h.tape,h.output,h.size,fun b hl=>(h.block b hl).imp_right fun h=>⟨by omega,h.2⟩⟩
theorem LW6.of {B:Nat} {w w':World} (e:Ext w w'):LW6 B w w':=⟨e.os,e.tape,e.output,e.size,fun b hb => .inl (e.block b hb)⟩
theorem LW6.put {B l:Nat} {w:World} {o1:Obj} (hb:B≤l) (hl:w.heap[l]?=some o1) (hs:softO o1=true) (o:Obj):LW6 B w (w.putObj l o):=⟨rfl,rfl,rfl,by simp,fun b _=>by
 by_cases e:b=l
 · exact .inr ⟨by omega,o1,by rw [e];exact hl,hs⟩
 · exact .inl (World.putObj_heap_other e)⟩
def Lasts6 (B:Nat) (I:World→Prop):Prop:=∀ w w',LW6 B w w'→I w→I w'
theorem Lasts6.ext {B:Nat} {I:World→Prop} (h:Lasts6 B I) {w w':World} (hI:I w) (e:Ext w w'):I w':=h _ _ (.of e) hI
theorem Lasts6.loop {B l:Nat} {I:World→Prop} (h:Lasts6 B I) {w:World} {r:Loop} (hb:B≤l) (hI:I w) (hl:w.heap[l]?=some (.loop r)) (o:Obj):I (w.putObj l o):=h _ _ (.put hb hl rfl o) hI
theorem Lasts6.busied {B l:Nat} {I:World→Prop} {w w':World} (h:Lasts6 B I) (hb:Busied l w w') (hl:B≤l) (hI:I w):I w':=by
 obtain ⟨r,hr,rfl⟩:=hb
 exact h.loop hl hI hr _
theorem Lasts6.mono {B B':Nat} {I:World→Prop} (h:Lasts6 B I) (hb:B≤B'):Lasts6 B' I:=fun _ _ hl=>h _ _ (hl.mono hb)
theorem Lasts6.and {B:Nat} {I J:World→Prop} (h:Lasts6 B I) (k:Lasts6 B J):Lasts6 B (fun w=>I w∧J w):=fun w w' hl hh=>⟨h _ _ hl hh.1,k _ _ hl hh.2⟩
theorem Lasts6.ex {B:Nat} {α:Sort _} {I:α→World→Prop} (h:∀ x,Lasts6 B (I x)):Lasts6 B (fun w=>∃ x,I x w):=fun w w' hl ⟨x,hx⟩=>⟨x,h x _ _ hl hx⟩
theorem Lasts6.const (B:Nat) (p:Prop):Lasts6 B (fun _=>p):=fun _ _ _ h=>h
theorem Lasts6.from {B:Nat} {w0:World} (hb:w0.heap.size≤B):Lasts6 B (Ext w0):=fun w w' hl e=>⟨hl.os.trans e.os,hl.tape.trans e.tape,hl.output.trans e.output,Nat.le_trans e.size hl.size,fun k hk=>by
 have:=e.size
 rcases hl.block k Qx with h | ⟨h,_⟩
 · rw [h];exact e.block k hk
 · omega⟩
theorem Lasts6.has (B:Nat) {b:Nat} {o:Obj} (h1:softO o=false):Lasts6 B (fun w=>w.heap[b]?=some o):=fun w w' hl h=>by
 rcases hl.block b (Qk h).1 with e | ⟨_,o',e,hs⟩
 · rw [e];exact h
 · rw [h] at e;injection e with e;subst e;rw [h1] at hs;cases hs
theorem Lasts6.low {B b:Nat} (hb:b < B) (o:Obj):Lasts6 B (fun w=>w.heap[b]?=some o):=fun w w' hl h=>by
 rcases hl.block b (Qk h).1 with e | ⟨e,_⟩
 · rw [e];exact h
 · omega
theorem Lasts6.own {α:Type} {B base n:Nat} {T:TypeId} {enc:α→List Value} {v:Value} {l:List α}:Lasts6 B (fun w=>OwnE w base T n enc v l):=fun w w' hl h=>by
 obtain ⟨h1,h2⟩:=h
 refine ⟨h1,?_⟩
 rcases h2 with h2 | ⟨g,cap,cur,hv,a1,a2,a3⟩
 · exact .inl h2
 · exact .inr ⟨g,cap,cur,hv,a1,Lasts6.has B (o := .cells _ _ _) rfl w w' hl a2,a3⟩
def keepO:Obj→Bool
 | .mapIter .. => true
 | .map .. => true
 | _=>false
def KR6 (B:Nat) (w w':World):Prop:=KR5 B w w'∧∀ (b:Nat) (o:Obj),w.heap[b]?=some o→keepO o=true→w'.heap[b]?=some o
section
variable {B:Nat} {w w1 w2:World}
theorem KR6.refl (B:Nat) (w:World):KR6 B w w:=⟨KR5.refl B w,fun _ _ h _=>h⟩
theorem KR6.trans (h:KR6 B w w1) (k:KR6 B w1 w2):KR6 B w w2:=⟨h.1.trans k.1,fun b o hb ho=>k.2 b o (h.2 b o hb ho) ho⟩
theorem KR6.of (e:Ext w w1):KR6 B w w1:=⟨KR5.of e,fun b o hb _=>e.obj hb⟩
theorem KR6.ext (h:KR6 B w w1) (e:Ext w1 w2):KR6 B w w2:=h.trans (.of e)
theorem KR6.turn {l:Nat} {r:Loop} (hl:w.heap[l]?=some (.loop r)) (st:LoopState) (p:Option Code):KR6 B w (w.putObj l (.loop { r with state:=st,pending:=p })):=⟨KR5.turn hl st p,fun b o hb ho=>by
 by_cases e:b=l
 · subst e;rw [hl] at hb;injection hb with hb;subst hb;cases ho
 · rw [World.putObj_heap_other e];exact hb⟩
theorem KR6.busied {l:Nat} (h:Busied l w w1):KR6 B w w1:=by
 obtain ⟨r,hr,rfl⟩:=h
 exact KR6.turn hr .busy r.pending
theorem KR6.cell (h:KR6 B w w1) {b:Nat} {cs:Array Value} {T:TypeId} {f:Nat×Nat} (hb:w1.heap[b]?=some (.cells cs T f)) (o:Nat) (v:Value):KR6 B w (w1.setCell ⟨b,o,none⟩ v):=h.trans ⟨(KR5.refl B w1).setCell b o v,fun b' o' hb' ho=>by
 by_cases e:b'=b
 · subst e;rw [hb] at hb';injection hb' with hb';subst hb';cases ho
 · rw [heap_setE e];exact hb'⟩
theorem KR6.grown {row:Option Nat} (h:KR6 B w w1) (hg:w1.grownBy w2 row) (hr:∀ g,row=some g→∃ cs T f,w1.heap[g]?=some (.cells cs T f)):KR6 B w w2:=h.trans ⟨(KR5.refl B w1).grown hg hr,fun b o hb ho=>(hg.block b (Qk hb).1 (fun e=>by
 obtain ⟨cs,T,f,hc⟩:=hr b e.symm
 rw [hb] at hc;injection hc with hc;subst hc;cases ho)).trans hb⟩
end
def Firm6 (B:Nat) (R:World→Prop):Prop:=∀ w w',KR6 B w w'→R w→R w'
theorem RecAt.firm6 (rec:Loop) (B b:Nat):Firm6 B (RecAt rec b):=fun w w' h hr=>RecAt.firm5 rec B b w w' h.1 hr
theorem Firm6.and {B:Nat} {R S:World→Prop} (h:Firm6 B R) (k:Firm6 B S):Firm6 B (fun w=>R w∧S w):=fun w w' e hh=>⟨h _ _ e hh.1,k _ _ e hh.2⟩
theorem Firm6.true {B:Nat}:Firm6 B (fun _=>True):=fun _ _ _ _=>trivial
def SeqIt6 (P:Program) (f:FuncId) (caps:Array Value) (Al:List Value→Value→Prop) (Fin:List Value→Prop) (FP:World→Prop):Prop :=
 ∀ (yv:Value) (J:List Value→World→Prop) (Jx:World→Prop) (Jp:List PanicEntry→World→Prop) (w:World),yv.oneCell'=true→(∀ k w,J k w→FP w)→(∀ k,Lasts6 w.heap.size (J k))→Lasts6 w.heap.size Jx→(∀ ch,Lasts6 w.heap.size (Jp ch)) →
  (∀ k x,Al k x→∀ Rk,Firm6 w.heap.size Rk→∀ w,J k w→Rk w→callV P yv #[x] (fun ch w'=>Rk w'∧Jp ch w') w (fun v w'=>Rk w'∧((v = .bool true∧J (k++[x]) w')∨(v = .bool false∧Jx w'))))→J [] w →
  Calls P f (#[yv]++caps) w (fun e w'=>match e with
   | .returned _=>(∃ k,Fin k∧J k w')∨Jx w'
   | .panicked ch=>Jp ch w'
   | .outgrown=>False)
def rangeN6 (P:Program) (fv:Value) (ds:List Deferred) (body:Nat→Value→World→(World→Prop)→(Nat→World→Prop)→(List PanicEntry→World→Prop)→Prop) (QP:List PanicEntry→List Deferred→World→Prop) (w:World)
 (k:List Deferred→World→Prop) (kx:List (List Deferred→World→Prop)):Prop :=
 ∃ (f:FuncId) (caps:Array Value) (Al:List Value→Value→Prop) (Fin:List Value→Prop) (FP:World→Prop) (I:List Value→World→Prop) (Ix:Nat→World→Prop) (Ip:List PanicEntry→World→Prop),
  fv = .func (.func f) #[] caps∧Callable P f∧SeqIt6 P f caps Al Fin FP∧I [] w∧(∀ k w,I k w→FP w)∧(∀ k,Lasts6 w.heap.size (I k))∧(∀ c,Lasts6 w.heap.size (Ix c))∧(∀ ch,Lasts6 w.heap.size (Ip ch)) ∧
  (∀ (Rk:World→Prop),Firm6 (w.heap.size+1+1) Rk→∀ (j:List Value) (x:Value) (w':World),Al j x→I j w'→Rk w'→w.heap.size+1 < w'.heap.size→ReadyAt (w.heap.size+1) w' →
   body (w.heap.size+1) x w' (fun w''=>Rk w''∧I (j++[x]) w'') (fun c w''=>Rk w''∧Ix c w'') (fun ch w''=>Rk w''∧Ip ch w'')) ∧
  (∀ j w',Fin j→I j w'→MarkAt w.heap.size w'→k (mark w.heap.size::ds) w') ∧
  (∀ c w',Ix c w'→MarkAt w.heap.size w'→nthK kx c (mark w.heap.size::ds) w') ∧
  (∀ ch w',Ip ch w'→MarkAt w.heap.size w'→QP ch (mark w.heap.size::ds) w')
section
variable {P:Program} {N:Nat}
theorem sim_range6 {g:Operand} {p:Nat} {asg body:Code} {Q:K} {QP:KP} {ρ:Env} {ds:List Deferred} {w:World} {fv:Value} {nbody:Nat→Value→World→(World→Prop)→(Nat→World→Prop)→(List PanicEntry→World→Prop)→Prop} {QPn:List PanicEntry→List Deferred→World→Prop}
 {k:List Deferred→World→Prop} {kx:List (List Deferred→World→Prop)} (js:List Code) (h:rangeN6 P fv ds nbody QPn w k kx) (hg:ev ρ g=fv)
 (hbody:∀ l x w K X QPr,nbody l x w K X QPr→den P N (some l) asg (thenK (fun ρ' ds' w'=>ds'=[]∧busyK l w' (fun w''=>den P N (some l) body (roundK js K X) (roundQP QPr) ρ' [] w'')) (fun _ _ _ _=>False)) (fun _ _ _ _=>False) (put N ρ (some p) x) [] w)
 (hk:∀ ds w,k ds w→Q .normal ρ ds w) (hx:∀ c ds w,nthK kx c ds w→∃ code,js[c]?=some code∧((code = .ret∧Q .ret ρ ds w)∨(∃ id,code = .exit id∧Q (.exit id) ρ ds w))) (hp:∀ ch ds w,QPn ch ds w→QP ch ρ ds w) :
 den P N none (.rangeFunc g #[p] asg body) Q QP ρ ds w:=by
 intro a ha hds
 subst hds
 obtain ⟨f,caps,Al,Fin,FP,I,Ix,Ip,hfv,hcal,hseq,h0,hFP,hL,hLx,hLp,hround,hend,hjump,hpan⟩:=h
 refine wpV_rangeFunc fun fn hfn=>?_
 obtain ⟨rec,hrec⟩:∃ rec:Loop,rec={ state := .ready,pending:=none,fn,tmps:=a.tmps,params := #[p],assign:=asg,body,defers:=w.heap.size }:=⟨_,rfl⟩
 obtain ⟨W1,hW1⟩:∃ W1,(w.alloc (.deferred (some []))).alloc (.loop rec)=W1:=⟨_,rfl⟩
 have hE1:Ext w W1:=by rw [← hW1];exact ((Ext.refl w).alloc _).alloc _
 have hW1s:W1.heap.size=w.heap.size+1+1:=by rw [← hW1];simp
 have hL1:W1.heap[w.heap.size+1]?=some (.loop rec):=by
  rw [← hW1];have:=World.alloc_heap_new (w.alloc (.deferred (some []))) (.loop rec);rwa [World.size_alloc] at this
 have hK1:MarkAt w.heap.size W1:=by
  rw [← hW1];exact MarkAt.alloc (World.alloc_heap_new w _) _
 have hev:a.eval g=fv:=by rw [ha.eval];exact hg
 refine ⟨w.heap.size+1,[mark w.heap.size],W1,{ target := .fn (.func f) caps,args := #[.func (.yield (w.heap.size+1)) #[] #[]] },W1,f,#[.func (.yield (w.heap.size+1)) #[] #[]]++caps,W1,?_,?_,?_,?_⟩
 · rw [← hW1,hrec];exact run_enterLoop_outer _ _ _ _ _
 · simp only [resolve,hev,hfv]
   simp [go_sem]
 · simp only [invoke]
   exact callFunc_run hcal _ _
 · refine Calls.mono (hseq (.func (.yield (w.heap.size+1)) #[] #[]) (fun j w'=>I j w'∧MarkAt w.heap.size w'∧∃ p,w'.heap[w.heap.size+1]?=some (.loop { rec with state := .ready,pending:=p })∧p=none)
    (fun w'=>MarkAt w.heap.size w'∧∃ c code,Ix c w'∧js[c]?=some code∧w'.heap[w.heap.size+1]?=some (.loop { rec with state := .done,pending:=some code }))
    (fun ch w'=>MarkAt w.heap.size w'∧Ip ch w') W1 rfl (fun j w' hj=>hFP j w' hj.1) (fun j=>((hL j).mono Qx).and ((Lasts6.low Qx _).and (.ex fun q=>(Lasts6.low Qx _).and (.const _ _))))
    ((Lasts6.low Qx _).and (.ex fun c => .ex fun code=>((hLx c).mono Qx).and ((Lasts6.const _ _).and (Lasts6.low Qx _)))) (fun ch=>(Lasts6.low Qx _).and ((hLp ch).mono Qx)) ?_ ⟨(hL []).ext h0 hE1,hK1,none,by rw [hL1,hrec],rfl⟩) ?_
   · rintro j x hj Rk hF w' ⟨hi,hm,q,hl,rfl⟩ hR
     have hlt:w.heap.size+1 < w'.heap.size:=(Qk hl).1
     have hy:=run_yield (P:=P) (args := #[x]) hl (by rw [hrec];rfl)
     show onNext P _ _ _ _
     have hcs:callS (.func (.yield (w.heap.size+1)) #[] #[]) #[x]=Instr.yield (w.heap.size+1) #[x]:=by
      simp [callS,Deferred.ofValue,invoke,go_sem,bind,pure,Sem.bind]
     rw [hcs,hy]
     have key:∀ R,wpV (some (w.heap.size+1)) P asg (Exit.then (fun a₁ w₁=>∃ w₂,(Instr.beginRound (w.heap.size+1)).run P w₁ = .ok () w₂∧wpV (some (w.heap.size+1)) P body (endV P (w.heap.size+1) R) a₁ w₂) (fun _ _ _=>False)) { tmps:=((#[p].zip #[x]).foldl (fun tmps (t,a)=>tmps.setIfInBounds t a) a.tmps),defers:=[] } w' →
      RoundV P (w.heap.size+1) rec.fn ((rec.params.zip #[x]).foldl (fun tmps (t,a)=>tmps.setIfInBounds t a) rec.tmps) rec.assign rec.body w' R:=by
      intro R h;rw [hrec];exact roundV_of_wpV hfn h
     refine key _ ?_
     have hb:=hbody _ _ _ _ _ _ (hround _ ((RecAt.firm6 rec _ w.heap.size).and (hW1s ▸ hF)) j x w' hj hi ⟨⟨hm,_,_,hl⟩,hR⟩ hlt ⟨_,hl,rfl⟩)
     have hagr:Agrees N ({ tmps:=((#[p].zip #[x]).foldl (fun tmps (t,a)=>tmps.setIfInBounds t a) a.tmps),defers:=[] }:Act) (put N ρ (some p) x):=by
      have:=(Agrees.defers ha []).put (some p) x
      simpa [Act.put] using this
     refine wpV_mono (den_sound asg _ _ _ _ _ hagr hb) ?_
     intro e a1 w1 hl1
     cases e with
     | panic ch=>obtain ⟨_,_,hf⟩:=hl1;exact hf.elim
     | outgrown=>exact hl1
     | exit id=>obtain ⟨_,_,_,hf⟩:=hl1;exact hf.elim
     | goto l=>obtain ⟨_,_,_,hf⟩:=hl1;exact hf.elim
     | ret=>obtain ⟨_,_,_,hf⟩:=hl1;exact hf.elim
     | normal =>
      obtain ⟨ρ1,ha1,_,hd1,hbz⟩:=hl1
      obtain ⟨⟨r,hr1,hr2⟩,hbz⟩:=hbz
      refine ⟨_,run_beginRound hr1 hr2,?_⟩
      rw [show a1={ a1 with defers:=[] } by rw [← hd1]]
      refine wpV_mono (den_sound body _ _ _ _ _ (Agrees.defers ha1 []) (hbz _ ⟨_,hr1,rfl⟩)) ?_
      have fin:∀ (jump:Option Code) (w2:World),RecAt rec w.heap.size w2→(Instr.endRound (w.heap.size+1) jump).run P w2 = .ok (.bool jump.isNone) (w2.putObj (w.heap.size+1) (.loop { rec with state:=if jump.isNone then .ready else .done,pending:=jump })) ∧
       (w2.putObj (w.heap.size+1) (.loop { rec with state:=if jump.isNone then .ready else .done,pending:=jump })).heap[w.heap.size+1]?=some (.loop { rec with state:=if jump.isNone then .ready else .done,pending:=jump }) ∧
       MarkAt w.heap.size (w2.putObj (w.heap.size+1) (.loop { rec with state:=if jump.isNone then .ready else .done,pending:=jump })):=by
       rintro jump w2 ⟨hm2,st,q,hq⟩
       refine ⟨by have:=run_endRound (P:=P) jump hq;exact this,World.putObj_heap_same (Qk hq).1,?_⟩
       unfold MarkAt
       rw [World.putObj_heap_other Qx];exact hm2
      intro e a2 w2 hl2
      cases e with
      | normal =>
       obtain ⟨_,_,_,_,⟨hrec2,hR2⟩,hi2⟩:=hl2
       obtain ⟨f1,f2,f3⟩:=fin none w2 hrec2
       obtain ⟨_,st,q,hq⟩:=hrec2
       exact ⟨_,_,f1,hF _ _ (KR6.turn hq _ _) hR2,.inl ⟨rfl,(hL _).loop (Nat.le_succ _) hi2 hq _,f3,none,f2,rfl⟩⟩
      | ret =>
       obtain ⟨_,_,_,_,c,hc,⟨hrec2,hR2⟩,hi2⟩:=hl2
       obtain ⟨f1,f2,f3⟩:=fin (some .ret) w2 hrec2
       obtain ⟨_,st,q,hq⟩:=hrec2
       exact ⟨_,_,f1,hF _ _ (KR6.turn hq _ _) hR2,.inr ⟨rfl,f3,c,_,(hLx _).loop (Nat.le_succ _) hi2 hq _,hc,f2⟩⟩
      | exit id =>
       obtain ⟨_,_,_,_,c,hc,⟨hrec2,hR2⟩,hi2⟩:=hl2
       obtain ⟨f1,f2,f3⟩:=fin (some (.exit id)) w2 hrec2
       obtain ⟨_,st,q,hq⟩:=hrec2
       exact ⟨_,_,f1,hF _ _ (KR6.turn hq _ _) hR2,.inr ⟨rfl,f3,c,_,(hLx _).loop (Nat.le_succ _) hi2 hq _,hc,f2⟩⟩
      | panic ch =>
       obtain ⟨_,_,hd2,⟨hrec2,hR2⟩,hi2⟩:=hl2
       exact ⟨hd2,hR2,hrec2.1,hi2⟩
      | goto l=>obtain ⟨_,_,_,hf⟩:=hl2;exact hf.elim
      | outgrown=>exact hl2
   · have hagr:Agrees N ({ a with defers:=[mark w.heap.size]++a.defers }:Act) ρ:=ha
     have exh:∀ (st:LoopState) (q:Option Code) (w':World),w'.heap[w.heap.size+1]?=some (.loop { rec with state:=st,pending:=q })→st ≠ .busy→MarkAt w.heap.size w' →
      (Instr.endLoop (w.heap.size+1)).run P w' = .ok q (w'.putObj (w.heap.size+1) (.loop { rec with state := .exhausted,pending:=q }))∧MarkAt w.heap.size (w'.putObj (w.heap.size+1) (.loop { rec with state := .exhausted,pending:=q })):=by
      intro st q w' hq hne hm
      refine ⟨by have:=run_endLoop (P:=P) hq hne;exact this,?_⟩
      unfold MarkAt
      rw [World.putObj_heap_other Qx];exact hm
     rintro e w' he
     cases e with
     | returned v =>
      rcases he with ⟨j,hfin,hi,hm,q,hl,rfl⟩ | ⟨hm,c,code,hi,hc,hl⟩
      · obtain ⟨e1,e2⟩:=exh _ _ w' hl (by simp) hm
        exact ⟨none,_,e1,hagr,hk _ _ (hend j _ hfin ((hL _).loop (Nat.le_succ _) hi hl _) e2)⟩
      · obtain ⟨e1,e2⟩:=exh _ _ w' hl (by simp) hm
        refine ⟨some code,_,e1,?_⟩
        obtain ⟨code',hc',hden⟩:=hx c _ _ (hjump c _ ((hLx _).loop (Nat.le_succ _) hi hl _) e2)
        rw [hc] at hc';cases hc'
        rcases hden with ⟨rfl,hq⟩ | ⟨id,rfl,hq⟩
        · exact wpV_ret ⟨hagr,hq⟩
        · exact wpV_exit ⟨hagr,hq⟩
     | panicked ch=>exact ⟨hagr,hp _ _ _ (hpan ch _ he.2 he.1)⟩
     | outgrown=>exact he.elim
end
end Go.Sw
namespace Go.Proofs.YtgalpdihjbinjaaGreatDoor
open Sw
def n54c1 (t0 t7 t11 t16:Value) (next1:KV) (R:RT) (w:World):Prop :=
 opV Pg (Op.unary .not t16) (panK R) w fun t17 w =>
 joinK (fun (t22:Value) (w:World) =>
 pickK t17 t22 (.bool false) fun t23 =>
 condP t23 (
 R (.returned (.tuple #[])) w) (
 B0 .add 3 true t7 (.int .i64 1) R w fun t24 w =>
 next1 t24 w)) fun K2 =>
 guardP t17 true (
 callV Pg t0 #[t11] (panK R) w fun t21 w =>
 opV Pg (Op.unary .not t21) (panK R) w fun t22 w =>
 K2 t22 w) (
 K2 undef w)
def n54c2 (t0 t1 t5 t7:Value) (next1:KV) (R:RT) (w:World):Prop :=
 X0 94 t5 t7 R w fun t10 w =>
 L0 9 t10 R w fun t11 w =>
 L0 94 t1 R w fun t12 w =>
 opV Pg (Instr.sliceAt 94 t12 none (some t7) none) (panK R) w fun t14 w =>
 C0 142 #[t14,t11] R w fun t16 w =>
 n54c1 t0 t7 t11 t16 next1 R w
def n54 (t0 t1:Value) (R:RT) (w:World):Prop :=
 L0 94 t1 R w fun t5 w =>
 opV Pg (Builtin.len_ #[94] 3 #[t5]) (panK R) w fun t6 w =>
 loop1 (fun t7 w next1 =>
 B0 .lss 3 false t7 t6 R w fun t8 w =>
 condP t8 (
 n54c2 t0 t1 t5 t7 next1 R w) (
 R (.returned (.tuple #[])) w)) (.int .i64 0) w
theorem n54s {t0 t1:Value} {R:RT} {w:World} (h:n54 t0 t1 R w):Calls Pg 198 #[t0,t1] w R:=by
 refine yD Tryz.func198 ?_
 refine zs<|zr<|yv h fun _ w h=>yx h fun _ w h=>zm<|zn<|zk<|sim_block<|yl1 [3,4,7,8,9,10,11,12,13,14,15,16,17,18,19,20,21,22,23,24] 7 h fun σ w next h=>zs<|zr<|yb h fun _ w h=>zn<|zk<|zs ?_
 refine yC h (fun h=>?_) fun h=>?_
 · refine sim_skip<|zk<|zs<|sim_block<|zs<|zr<|zm<|yv h fun _ w h=>yv h fun _ w h=>zm<|zm<|zn<|zk<|zs<|sim_regionG ?_
   refine yG 7<|yv h fun _ w h=>zm<|yv h fun _ w h=>zm<|yc h c142 fun _ w h=>yv h fun _ w h=>zm<|zn<|yg1 4 6 true [19,20,21,22] 22 h (fun _ T hT h=>?_) fun σ w h=>?_
   · refine zm<|zm<|yV h fun _ w h=>yv h fun _ w h=>zn ?_
     exact zt hT h
   refine yG 1<|yp h fun _ h=>zn<|sim_end<|zk<|yC h (fun h=>sim_ret<|sim_block_ret<|sim_then_ret<|sim_then_ret<|sim_block_ret<|body_ret0 rfl h) fun h=>sim_skip<|sim_block_normal<|zk<|zr<|yb h fun _ w h=>zm<|zn<|zk ?_
   exact ⟨rfl,h⟩
 exact sim_exit<|sim_then_exit<|sim_then_exit<|sim_block_hit<|body_normal<|body_ret0 rfl h
def n126c1 (t0 t1 t8:Value) (next1:KV) (R:RT) (w:World):Prop :=
 X0 72 t0 t8 R w fun t14 w =>
 L0 123 t14 R w fun t15 w =>
 callV Pg t1 #[t15] (panK R) w fun t16 w =>
 condP t16 (
 R (.returned t8) w) (
 B0 .add 3 true t8 (.int .i64 1) R w fun t18 w =>
 next1 t18 w)
def n126 (t0 t1:Value) (R:RT) (w:World):Prop :=
 opV Pg (Builtin.len_ #[72] 3 #[t0]) (panK R) w fun t7 w =>
 loop1 (fun t8 w next1 =>
 B0 .lss 3 false t8 t7 R w fun t9 w =>
 condP t9 (
 n126c1 t0 t1 t8 next1 R w) (
 R (.returned (.int .i64 (-1))) w)) (.int .i64 0) w
theorem n126s {t0 t1:Value} {R:RT} {w:World} (h:n126 t0 t1 R w):Calls Pg 199 #[t0,t1] w R:=by
 refine yD Tryz.func199 ?_
 refine zs<|zr<|zm<|zn<|zk<|zs<|zs<|zr<|zm<|yx h fun _ w h=>zm<|zn<|zk<|sim_block<|yl1 [4,5,8,9,10,11,12,13,14,15,16,17,18] 8 h fun σ w next h=>?_
 refine zs<|zr<|yb h fun _ w h=>zn<|zk<|zs<|yC h (fun h=>?_) fun h=>?_
 · refine sim_skip<|zk<|zs<|sim_block<|zs<|zr<|zm<|zm<|zn<|zk<|zs<|zr<|zm<|zm<|zm ?_
   refine yv h fun _ w h=>yv h fun _ w h=>yV h fun _ w h=>zn<|zk<|yC h (fun h=>zs<|zr<|zm<|zm<|zn<|zk<|sim_ret<|sim_block_ret<|sim_then_ret<|sim_then_ret<|sim_block_ret<|sim_then_ret<|body_ret1 rfl rfl h) fun h=>sim_skip<|sim_block_normal<|zk<|zr<|yb h fun _ w h=>zm<|zn<|zk ?_
   exact ⟨rfl,h⟩
 exact sim_exit<|sim_then_exit<|sim_then_exit<|sim_block_hit<|zk<|zs<|zr<|zm<|zn<|zk<|sim_ret<|body_ret1 rfl rfl h
def n113c1 (t2 t7:Value) (Kr1:World→Prop) (Qr1:List PanicEntry→World→Prop) (R:RT) (w:World):Prop :=
 opV Pg (Instr.loadAt 94 t2) Qr1 w fun t8 w =>
 opV Pg (Instr.buildSlice 94 1 #[(0,t7)]) Qr1 w fun t10 w =>
 opV Pg (Builtin.append_ #[94,94] 94 #[t8,t10]) Qr1 w fun t11 w =>
 opU Pg (Instr.storeAt 94 t2 t11) Qr1 w fun w =>
 Kr1 w
def n113 (t0 t1:Value) (R:RT) (w:World):Prop :=
 (fun (ds:List Deferred) =>
 opV Pg (Instr.box 94 t0) (outQ Pg ds [(none,undef)] R) w fun t2 w =>
 Sw.rangeN6 Pg t1 ds (fun l1 t7 w Kr1 Xr1 Qr1 =>
 busyK l1 w fun w =>
 n113c1 t2 t7 Kr1 Qr1 R w) (fun ch ds w=>outQ Pg ds [(none,(Value.slice none 0 0))] R ch w) w (fun ds w =>
 opV Pg (Instr.loadAt 94 t2) (outQ Pg ds [(none,(Value.slice none 0 0))] R) w fun t12 w =>
 outX Pg ds [(none,t12)] R w) []) []
theorem n113s {t0 t1:Value} {R:RT} {w:World} (h:n113 t0 t1 R w):Calls Pg 200 #[t0,t1] w R:=by
 refine yE Tryz.func200 ?_
 unfold n113 at h
 dsimp only at h
 refine zs<|zr<|yv h fun _ w h=>zm<|zn<|zk<|zs<|zs<|zr<|zm<|zn<|zk<|sim_block<|sim_range6 [] h rfl (fun l1 t7 w Kr1 Xr1 Qr1 h=>?_) (fun ds w h=>?_) (fun c ds w h=>?_) (fun ch ds w h=>outQ_of rfl h)
 · refine zr<|zm<|zn<|zk ?_
   obtain ⟨hr,h⟩:=h
   refine ⟨rfl,hr,fun w hb=>?_⟩
   have h:=h w hb
   exact sim_block<|zr<|yv h fun _ w h=>zm<|yS h fun _ w h=>yx h fun _ w h=>yu h fun w h=>zn<|sim_block_normal<|⟨rfl,h⟩
 · exact sim_block_normal<|zk<|zs<|zr<|yv h fun _ w h=>zm<|zn<|zk<|sim_ret<|bodyM_ret rfl h
 exact h.elim
def n111c1 (t5 t13 t19 t22:Value) (C2:World→Prop) (next1:KW) (R:RT) (w:World):Prop :=
 qV Pg C2 (binS .mul 3 false t19 t22) fun t23 =>
 qV Pg C2 (binS .add 3 false t5 t23) fun t24 =>
 B0 .add 3 true t13 (.int .i64 1) R w fun t25 w =>
 next1 t24 t25 w
def n111c2 (t1 t5 t7 t13:Value) (C2:World→Prop) (next1:KW) (R:RT) (w:World):Prop :=
 qV Pg C2 (Instr.fieldAt 128 t7 1) fun t18 =>
 qV Pg C2 (Instr.loadAt 3 t18) fun t19 =>
 qV Pg C2 (Instr.loadAt 128 t7) fun t21 =>
 callV Pg t1 #[t21] (panK R) w fun t22 w =>
 C2 w∧(
 n111c1 t5 t13 t19 t22 C2 next1 R w)
def n111c3 (t1 t5 t11 t13:Value) (next1:KW) (R:RT) (w:World):Prop :=
 X0 118 t11 t13 R w fun t15 w =>
 L0 128 t15 R w fun t16 w =>
 opV Pg (Instr.alloc 128 true (.tuple #[])) (panK R) w fun t7 w =>
 opU Pg (Instr.storeAt 128 t7 t16) (panK R) w fun w =>
 drawK w fun C2 w =>
 n111c2 t1 t5 t7 t13 C2 next1 R w
def n111 (t0 t1:Value) (R:RT) (w:World):Prop :=
 opV Pg (Instr.box 120 t0) (panK R) w fun t2 w =>
 F0 120 t2 0 R w fun t8 w =>
 L0 3 t8 R w fun t9 w =>
 F0 120 t2 1 R w fun t10 w =>
 L0 118 t10 R w fun t11 w =>
 opV Pg (Builtin.len_ #[118] 3 #[t11]) (panK R) w fun t12 w =>
 loop2 (fun t5 t13 w next1 =>
 B0 .lss 3 false t13 t12 R w fun t14 w =>
 condP t14 (
 n111c3 t1 t5 t11 t13 next1 R w) (
 R (.returned t5) w)) t9 (.int .i64 0) w
theorem n111s {t0 t1:Value} {R:RT} {w:World} (h:n111 t0 t1 R w):Calls Pg 261 #[t0,t1] w R:=by
 refine yD Tryz.func261 ?_
 refine zs<|zr<|yv h fun _ w h=>zm<|zn<|zk<|zs<|zr<|yv h fun _ w h=>yv h fun _ w h=>zm<|zn<|zk<|zs<|zs ?_
 refine zr<|yv h fun _ w h=>yv h fun _ w h=>yx h fun _ w h=>zm<|zn<|zk<|sim_block<|yl2 [5,7,13,14,15,16,17,18,19,20,21,22,23,24,25] 5 13 h fun σ w next h=>zs<|zr<|yb h fun _ w h=>zn<|zk<|zs ?_
 refine yC h (fun h=>?_) fun h=>?_
 · refine sim_skip<|zk<|zs<|sim_block<|zs<|zr<|yv h fun _ w h=>yv h fun _ w h=>yv h fun _ w h=>yu h fun w h=>zn<|zk<|yh [5,17,18,19,20,21,22,23,24] h fun C hC h=>yw 0 hC ?_
   refine ye 1 hC h fun _ h=>?_
   refine ye 2 hC h fun _ h=>?_
   refine yw 3 hC ?_
   refine ye 4 hC h fun _ h=>?_
   refine yo 5 ?_
   refine yV h fun _ w h=>zn ?_
   obtain ⟨hC,h⟩:=h
   refine ⟨hC,?_⟩
   refine ye 6 hC h fun _ h=>?_
   refine ye 7 hC h fun _ h=>?_
   refine yw 8 hC ?_
   exact yz<|sim_block_normal<|zk<|zr<|yb h fun _ w h=>zm<|zn<|zk<|⟨rfl,h⟩
 exact sim_exit<|sim_then_exit<|sim_then_exit<|sim_block_hit<|zk<|zs<|zr<|zm<|zm<|zn<|zk<|sim_ret<|body_ret1 rfl rfl h
def n99c1 (t1 t3:Value) (R:RT) (w:World):Prop :=
 L0 296 t1 R w fun t17 w =>
 F0 128 t3 0 R w fun t18 w =>
 L0 9 t18 R w fun t19 w =>
 opV Pg (Instr.lookup 296 t17 t19 false) (panK R) w fun t20 w =>
 opV Pg (Instr.field 300 t20 1) (panK R) w fun t21 w =>
 R (.returned t21) w
def n99 (t0 t1 t2:Value) (R:RT) (w:World):Prop :=
 opV Pg (Instr.box 128 t0) (panK R) w fun t3 w =>
 L0 296 t1 R w fun t6 w =>
 F0 128 t3 0 R w fun t7 w =>
 L0 9 t7 R w fun t8 w =>
 opV Pg (Instr.lookup 296 t6 t8 false) (panK R) w fun t9 w =>
 opV Pg (Instr.alloc 300 true (.tuple #[])) (panK R) w fun t5 w =>
 opU Pg (Instr.storeAt 300 t5 t9) (panK R) w fun w =>
 L0 4 t2 R w fun t10 w =>
 F0 128 t3 1 R w fun t11 w =>
 L0 3 t11 R w fun t12 w =>
 B0 .gtr 3 true t12 (.int .i64 0) R w fun t13 w =>
 B0 .eql 4 false t10 t13 R w fun t14 w =>
 condP t14 (
 F0 300 t5 0 R w fun t15 w =>
 L0 3 t15 R w fun t16 w =>
 R (.returned t16) w) (
 n99c1 t1 t3 R w)
theorem n99s {t0 t1 t2:Value} {R:RT} {w:World} (h:n99 t0 t1 t2 R w):Calls Pg 262 #[t0,t1,t2] w R:=by
 refine yD Tryz.func262 ?_
 refine zs<|zr<|yv h fun _ w h=>zm<|zn<|zk<|zs<|zs<|zr<|yv h fun _ w h=>yv h fun _ w h=>yv h fun _ w h=>yv h fun _ w h=>yv h fun _ w h=>yu h fun w h=>?_
 refine zn<|zk<|zs<|zr<|yv h fun _ w h=>yv h fun _ w h=>yv h fun _ w h=>yb h fun _ w h=>yb h fun _ w h=>zn<|zk<|yC h (fun h=>zs<|zr<|yv h fun _ w h=>yv h fun _ w h=>zm<|zn<|zk<|sim_ret<|sim_then_ret<|body_ret1 rfl rfl h) fun h=>sim_skip<|zk ?_
 exact zs<|zr<|yv h fun _ w h=>yv h fun _ w h=>yv h fun _ w h=>yv h fun _ w h=>yv h fun _ w h=>zm<|zn<|zk<|sim_ret<|body_ret1 rfl rfl h
def n131c1 (t0 t1 t8:Value) (next1:KV) (R:RT) (w:World):Prop :=
 X0 118 t0 t8 R w fun t14 w =>
 L0 128 t14 R w fun t15 w =>
 callV Pg t1 #[t15] (panK R) w fun t16 w =>
 condP t16 (
 R (.returned t8) w) (
 B0 .add 3 true t8 (.int .i64 1) R w fun t18 w =>
 next1 t18 w)
def n131 (t0 t1:Value) (R:RT) (w:World):Prop :=
 opV Pg (Builtin.len_ #[118] 3 #[t0]) (panK R) w fun t7 w =>
 loop1 (fun t8 w next1 =>
 B0 .lss 3 false t8 t7 R w fun t9 w =>
 condP t9 (
 n131c1 t0 t1 t8 next1 R w) (
 R (.returned (.int .i64 (-1))) w)) (.int .i64 0) w
theorem n131s {t0 t1:Value} {R:RT} {w:World} (h:n131 t0 t1 R w):Calls Pg 263 #[t0,t1] w R:=by
 refine yD Tryz.func263 ?_
 refine zs<|zr<|zm<|zn<|zk<|zs<|zs<|zr<|zm<|yx h fun _ w h=>zm<|zn<|zk<|sim_block<|yl1 [4,5,8,9,10,11,12,13,14,15,16,17,18] 8 h fun σ w next h=>?_
 refine zs<|zr<|yb h fun _ w h=>zn<|zk<|zs<|yC h (fun h=>?_) fun h=>?_
 · refine sim_skip<|zk<|zs<|sim_block<|zs<|zr<|zm<|zm<|zn<|zk<|zs<|zr<|zm<|zm<|zm ?_
   refine yv h fun _ w h=>yv h fun _ w h=>yV h fun _ w h=>zn<|zk<|yC h (fun h=>zs<|zr<|zm<|zm<|zn<|zk<|sim_ret<|sim_block_ret<|sim_then_ret<|sim_then_ret<|sim_block_ret<|sim_then_ret<|body_ret1 rfl rfl h) fun h=>sim_skip<|sim_block_normal<|zk<|zr<|yb h fun _ w h=>zm<|zn<|zk ?_
   exact ⟨rfl,h⟩
 exact sim_exit<|sim_then_exit<|sim_then_exit<|sim_block_hit<|zk<|zs<|zr<|zm<|zn<|zk<|sim_ret<|body_ret1 rfl rfl h
def n51c1 (t1 t5 t9:Value) (R:RT) (w:World):Prop :=
 pickK t5 (.bool true) t9 fun t10 =>
 joinK (fun (t14:Value) (w:World) =>
 pickK t10 (.bool true) t14 fun t15 =>
 R (.returned t15) w) fun K2 =>
 guardP t10 false (
 F0 123 t1 1 R w fun t12 w =>
 L0 117 t12 R w fun t13 w =>
 B0 .eql 117 true t13 (.int .i64 3) R w fun t14 w =>
 K2 t14 w) (
 K2 undef w)
def n51 (t0:Value) (R:RT) (w:World):Prop :=
 opV Pg (Instr.box 123 t0) (panK R) w fun t1 w =>
 F0 123 t1 1 R w fun t3 w =>
 L0 117 t3 R w fun t4 w =>
 B0 .eql 117 true t4 (.int .i64 1) R w fun t5 w =>
 joinK (fun (t9:Value) (w:World) =>
 n51c1 t1 t5 t9 R w) fun K1 =>
 guardP t5 false (
 F0 123 t1 1 R w fun t7 w =>
 L0 117 t7 R w fun t8 w =>
 B0 .eql 117 true t8 (.int .i64 2) R w fun t9 w =>
 K1 t9 w) (
 K1 undef w)
theorem n51s {t0:Value} {R:RT} {w:World} (h:n51 t0 R w):Calls Pg 264 #[t0] w R:=by
 refine yD Tryz.func264 ?_
 refine zs<|zr<|yv h fun _ w h=>zm<|zn<|zk<|zs<|sim_regionG<|yG 4<|yv h fun _ w h=>yv h fun _ w h=>yb h fun _ w h=>zm<|zn<|yg1 3 3 false [7,8,9] 9 h (fun _ T hT h=>?_) fun σ w h=>?_
 · refine yv h fun _ w h=>yv h fun _ w h=>yb h fun _ w h=>zn ?_
   exact zt hT h
 refine yG 2<|yp h fun _ h=>zm<|zn<|yg1 3 8 false [12,13,14] 14 h (fun _ T hT h=>?_) fun σ w h=>?_
 · refine yv h fun _ w h=>yv h fun _ w h=>yb h fun _ w h=>zn ?_
   exact zt hT h
 exact yG 2<|yp h fun _ h=>zm<|zn<|sim_end<|zk<|sim_ret<|body_ret1 rfl rfl h
open Go.RowKit (intOf)
theorem IndexFunc_Field_ret (w0:World) (v:Value) (l:List FieldD) (g:FuncId) (caps:Array Value) (p:FieldD→Bool) (hs:FieldsOf w0 v l) (hg:Callable Pg g) (hc:Tests w0 FieldVal g caps p l) :
 Ret Pg 199 #[v,.func (.func g) #[] caps] w0 fun r w'=>r = .int .i64 (idx p l)∧Ext w0 w':=by
 obtain ⟨A,c,rfl,hlc,hcm,hlm,hel⟩:=SliceOf.open hs
 refine n126s (R:=retR _) ?_
 unfold n126
 refine Qf ?_
 refine loop1_intro (fun i w=>∃ k:Nat,i = .int .i64 k∧k≤l.length∧Ext w0 w∧∀ (j:Nat) y,j < k→l[j]?=some y→p y=false) (fun i _=>l.length - (intOf i).toNat) ⟨0,rfl,by omega,Ext.refl _,fun j y h=>by omega⟩ ?_
 rintro i w ⟨k,rfl,hk,e,hb⟩
 by_cases hlt:k < l.length
 · obtain ⟨x,hx⟩:=getElem?_lt hlt
   obtain ⟨b,o,cs,rfl,hl,hA,hE⟩:=hel k x hx
   have hd:decide ((k:Int) < (l.length:Int))=true:=by simp;omega
   refine Qp hd ?_
   unfold n126c1
   refine Qf ?_
   unfold EField at hE
   obtain ⟨tv,cv,hcs,hT,hC⟩:=hE
   subst hcs
   have hV:FieldVal w0 (.agg (fieldCells x tv cv).toArray) x:=⟨tv,cv,rfl,hT,hC⟩
   simp (disch:=try exact DI) only [↓PR,QR,simprocAttr,hA.c15]
   rw [callV_func hg]
   simp only [Array.empty_append]
   refine callK_ret (hc w _ x (List.mem_of_getElem? hx) e (hV.ext e)) ?_
   rintro r w' ⟨rfl,e'⟩
   cases hp:p x with
   | true => 
    refine Qf ?_
    exact ⟨by rw [idx_here hx hp hb],e.trans e'⟩
   | false =>
    refine Qf ?_
    refine ⟨⟨k+1,rfl,by omega,e.trans e',fun j y hj hy=>?_⟩,by simp [intOf];omega⟩
    by_cases hjk:j=k
    · subst hjk;rw [hx] at hy;injection hy with hy;subst hy;exact hp
    · exact hb j y Qx hy
 · have hd:decide ((k:Int) < (l.length:Int))=false:=by simp;omega
   refine Qp hd ?_
   exact ⟨by rw [idx_none fun j y hy=>hb j y (by have:=(Qv hy).1;omega) hy],e⟩
theorem IndexFunc_Message_ret (w0:World) (v:Value) (l:List MsgD) (g:FuncId) (caps:Array Value) (p:MsgD→Bool) (hs:MsgsOf w0 v l) (hg:Callable Pg g) (hc:Tests w0 MsgVal g caps p l) :
 Ret Pg 163 #[v,.func (.func g) #[] caps] w0 fun r w'=>r = .int .i64 (idx p l)∧Ext w0 w':=by
 obtain ⟨A,c,rfl,hlc,hcm,hlm,hel⟩:=SliceOf.open hs
 refine n128s (R:=retR _) ?_
 unfold n128
 refine Qf ?_
 refine loop1_intro (fun i w=>∃ k:Nat,i = .int .i64 k∧k≤l.length∧Ext w0 w∧∀ (j:Nat) y,j < k→l[j]?=some y→p y=false) (fun i _=>l.length - (intOf i).toNat) ⟨0,rfl,by omega,Ext.refl _,fun j y h=>by omega⟩ ?_
 rintro i w ⟨k,rfl,hk,e,hb⟩
 by_cases hlt:k < l.length
 · obtain ⟨x,hx⟩:=getElem?_lt hlt
   obtain ⟨b,o,cs,rfl,hl,hA,hE⟩:=hel k x hx
   have hd:decide ((k:Int) < (l.length:Int))=true:=by simp;omega
   refine Qp hd ?_
   unfold n128c1
   refine Qf ?_
   unfold EMsg at hE
   obtain ⟨fv,hcs,hF⟩:=hE
   subst hcs
   have hV:MsgVal w0 (.agg (msgCells x fv).toArray) x:=⟨fv,rfl,hF⟩
   simp (disch:=try exact DI) only [↓PR,QR,simprocAttr,hA.c2]
   rw [callV_func hg]
   simp only [Array.empty_append]
   refine callK_ret (hc w _ x (List.mem_of_getElem? hx) e (hV.ext e)) ?_
   rintro r w' ⟨rfl,e'⟩
   cases hp:p x with
   | true => 
    refine Qf ?_
    exact ⟨by rw [idx_here hx hp hb],e.trans e'⟩
   | false =>
    refine Qf ?_
    refine ⟨⟨k+1,rfl,by omega,e.trans e',fun j y hj hy=>?_⟩,by simp [intOf];omega⟩
    by_cases hjk:j=k
    · subst hjk;rw [hx] at hy;injection hy with hy;subst hy;exact hp
    · exact hb j y Qx hy
 · have hd:decide ((k:Int) < (l.length:Int))=false:=by simp;omega
   refine Qp hd ?_
   exact ⟨by rw [idx_none fun j y hy=>hb j y (by have:=(Qv hy).1;omega) hy],e⟩
theorem IndexFunc_byte_ret (w0:World) (v:Value) (l:List UInt8) (g:FuncId) (caps:Array Value) (p:UInt8→Bool) (hs:(fun w v l=>SliceOf w 1 EByte v l) w0 v l) (hg:Callable Pg g) (hc:Tests w0 (fun _ v x=>v = .int .u8 (x.toNat:Int)) g caps p l) :
 Ret Pg 108 #[v,.func (.func g) #[] caps] w0 fun r w'=>r = .int .i64 (idx p l)∧Ext w0 w':=by
 obtain ⟨A,c,rfl,hlc,hcm,hlm,hel⟩:=SliceOf.open hs
 refine n132s (R:=retR _) ?_
 unfold n132
 refine Qf ?_
 refine loop1_intro (fun i w=>∃ k:Nat,i = .int .i64 k∧k≤l.length∧Ext w0 w∧∀ (j:Nat) y,j < k→l[j]?=some y→p y=false) (fun i _=>l.length - (intOf i).toNat) ⟨0,rfl,by omega,Ext.refl _,fun j y h=>by omega⟩ ?_
 rintro i w ⟨k,rfl,hk,e,hb⟩
 by_cases hlt:k < l.length
 · obtain ⟨x,hx⟩:=getElem?_lt hlt
   obtain ⟨b,o,cs,rfl,hl,hA,hE⟩:=hel k x hx
   have hd:decide ((k:Int) < (l.length:Int))=true:=by simp;omega
   refine Qp hd ?_
   unfold n132c1
   refine Qf ?_
   obtain rfl:=hE
   have hV:(.int .u8 (x.toNat:Int):Value) = .int .u8 (x.toNat:Int):=rfl
   simp (disch:=try exact DI) only [↓PR,QR,simprocAttr,hA.c1]
   rw [callV_func hg]
   simp only [Array.empty_append]
   refine callK_ret (hc w _ x (List.mem_of_getElem? hx) e (hV)) ?_
   rintro r w' ⟨rfl,e'⟩
   cases hp:p x with
   | true => 
    refine Qf ?_
    exact ⟨by rw [idx_here hx hp hb],e.trans e'⟩
   | false =>
    refine Qf ?_
    refine ⟨⟨k+1,rfl,by omega,e.trans e',fun j y hj hy=>?_⟩,by simp [intOf];omega⟩
    by_cases hjk:j=k
    · subst hjk;rw [hx] at hy;injection hy with hy;subst hy;exact hp
    · exact hb j y Qx hy
 · have hd:decide ((k:Int) < (l.length:Int))=false:=by simp;omega
   refine Qp hd ?_
   exact ⟨by rw [idx_none fun j y hy=>hb j y (by have:=(Qv hy).1;omega) hy],e⟩
theorem IndexFunc_Term_st (w0 w1:World) (v:Value) (l:List TermD) (g:FuncId) (caps:Array Value) (p:Nat→Bool) (J:Nat→World→Prop) (hs:TermsOf w0 v l) (hg:Callable Pg g) (hJ:∀ k w,J k w→Ext w0 w) (h0:J 0 w1)
 (hc:∀ k x w u,l[k]?=some x→J k w→(fun _ v x=>v=termVal x) w u x→Ret Pg g (#[u]++caps) w fun r w'=>r = .bool (p k)∧J (k+1) w') :
 Ret Pg 263 #[v,.func (.func g) #[] caps] w1 fun r w'=>r = .int .i64 (idx p (List.range l.length))∧∃ k,J k w':=by
 obtain ⟨A,c,rfl,hlc,hcm,hlm,hel⟩:=SliceOf.open hs
 refine n131s (R:=retR _) ?_
 unfold n131
 refine Qf ?_
 refine loop1_intro (fun i w=>∃ k:Nat,i = .int .i64 k∧k≤l.length∧J k w∧∀ (j:Nat) y,j < k→(List.range l.length)[j]?=some y→p y=false) (fun i _=>l.length - (intOf i).toNat) ⟨0,rfl,by omega,h0,fun j y h=>by omega⟩ ?_
 rintro i w ⟨k,rfl,hk,hj,hb⟩
 have e:=hJ _ _ hj
 by_cases hlt:k < l.length
 · obtain ⟨x,hx⟩:=getElem?_lt hlt
   have hr:(List.range l.length)[k]?=some k:=by simp [hlt]
   obtain ⟨b,o,cs,rfl,hl,hA,hE⟩:=hel k x hx
   have hd:decide ((k:Int) < (l.length:Int))=true:=by simp;omega
   refine Qp hd ?_
   unfold n131c1
   refine Qf ?_
   obtain rfl:=hE
   have hV:(.agg (termCells x).toArray:Value)=termVal x:=rfl
   simp (disch:=try exact DI) only [↓PR,QR,simprocAttr,hA.c2]
   rw [callV_func hg]
   simp only [Array.empty_append]
   refine callK_ret (hc k x w _ hx hj hV) ?_
   rintro r w' ⟨rfl,hj'⟩
   cases hp:p k with
   | true => 
    refine Qf ?_
    exact ⟨by rw [idx_here hr hp hb],_,hj'⟩
   | false =>
    refine Qf ?_
    exact ⟨⟨k+1,rfl,by omega,hj',before_succ hb hr hp⟩,by simp [intOf];omega⟩
 · have hd:decide ((k:Int) < (l.length:Int))=false:=by simp;omega
   refine Qp hd ?_
   exact ⟨by rw [idx_none fun j y hy=>hb j y (by have:=(Qv hy).1;simp at this;omega) hy],_,hj⟩
def n43 (R:RT) (w:World):Prop :=
 opV Pg (Instr.alloc 24 true (.tuple #[])) (panK R) w fun t0 w =>
 opV Pg (Instr.build 43 #[(0,(.string { data := #[110] })),(1,(.int .i64 7))]) (panK R) w fun t1 w =>
 opV Pg (Instr.build 43 #[(0,(.string { data := #[98] })),(1,(.int .i64 1)),(2,(.string { data := #[98] }))]) (panK R) w fun t2 w =>
 opV Pg (Instr.buildSlice 58 2 #[(0,t1),(1,t2)]) (panK R) w fun t3 w =>
 opV Pg (Instr.build 60 #[(0,(.string { data := #[65] })),(1,(.string { data := #[65] })),(2,t3)]) (panK R) w fun t4 w =>
 opV Pg (Instr.buildSlice 22 1 #[(0,t4)]) (panK R) w fun t5 w =>
 opV Pg (Instr.build 24 #[(0,(.string { data := #[109] })),(1,t5)]) (panK R) w fun t6 w =>
 opU Pg (Instr.storeAt 24 t0 t6) (panK R) w fun w =>
 qW Pg 24 t0 w fun r0 =>
 R (.returned r0) w
theorem n43s {R:RT} {w:World} (h:n43 R w):Calls Pg 30 #[] w R:=by
 refine yD Tryz.func30 ?_
 refine zs<|zr<|yv h fun _ w h=>zn<|zk<|zs<|zr<|yB h fun _ w h=>yB h fun _ w h=>yS h fun _ w h=>yB h fun _ w h=>yS h fun _ w h=>yB h fun _ w h=>yu h fun w h=>zn ?_
 exact zk<|sim_ret<|body_retC rfl rfl h
def n44 (R:RT) (w:World):Prop :=
 opV Pg (Instr.alloc 27 true (.tuple #[])) (panK R) w fun t0 w =>
 opV Pg (Instr.build 123 #[(0,(.string { data := #[110] })),(1,(.int .i64 1)),(2,(.int .i64 8)),(6,(.int .i64 255))]) (panK R) w fun t3 w =>
 opV Pg (Instr.alloc 123 true (.tuple #[])) (panK R) w fun t1 w =>
 opU Pg (Instr.storeAt 123 t1 t3) (panK R) w fun w =>
 opV Pg (Instr.build 128 #[(0,(.string { data := #[110] })),(1,(.int .i64 1))]) (panK R) w fun t4 w =>
 opV Pg (Instr.buildSlice 118 1 #[(0,t4)]) (panK R) w fun t5 w =>
 opV Pg (Instr.build 120 #[(1,t5)]) (panK R) w fun t6 w =>
 opV Pg (Instr.build 123 #[(0,(.string { data := #[98] })),(1,(.int .i64 4)),(7,t6)]) (panK R) w fun t7 w =>
 opV Pg (Instr.alloc 123 true (.tuple #[])) (panK R) w fun t2 w =>
 opU Pg (Instr.storeAt 123 t2 t7) (panK R) w fun w =>
 L0 123 t1 R w fun t8 w =>
 L0 123 t2 R w fun t9 w =>
 opV Pg (Instr.buildSlice 72 2 #[(0,t8),(1,t9)]) (panK R) w fun t10 w =>
 opV Pg (Instr.build 74 #[(0,(.string { data := #[65] })),(1,t10)]) (panK R) w fun t11 w =>
 opV Pg (Instr.buildSlice 25 1 #[(0,t11)]) (panK R) w fun t12 w =>
 opV Pg (Instr.build 27 #[(0,(.string { data := #[100] })),(1,t12),(2,(.string { data := #[65] }))]) (panK R) w fun t13 w =>
 opU Pg (Instr.storeAt 27 t0 t13) (panK R) w fun w =>
 qW Pg 27 t0 w fun r0 =>
 R (.returned r0) w
theorem n44s {R:RT} {w:World} (h:n44 R w):Calls Pg 31 #[] w R:=by
 refine yD Tryz.func31 ?_
 refine zs<|zr<|yv h fun _ w h=>zn<|zk<|zs<|zr<|yB h fun _ w h=>yv h fun _ w h=>yu h fun w h=>zn<|zk<|zs<|zr<|yB h fun _ w h=>?_
 refine yS h fun _ w h=>yB h fun _ w h=>yB h fun _ w h=>yv h fun _ w h=>yu h fun w h=>zn<|zk<|zs<|zr<|yv h fun _ w h=>yv h fun _ w h=>yS h fun _ w h=>yB h fun _ w h=>yS h fun _ w h=>yB h fun _ w h=>?_
 exact yu h fun w h=>zn<|zk<|sim_ret<|body_retC rfl rfl h
def n8c1 (t0 t1 t3:Value) (K1:World→Prop) (R:RT) (w:World):Prop :=
 opV Pg (Instr.typeAssert t3 20 82 false) (panK R) w fun t7 w =>
 opU Pg (Instr.storeAt 34 t0 t7) (panK R) w fun w =>
 opU Pg (Instr.storeAt 4 t1 (.bool true)) (panK R) w fun w =>
 K1 w
def n8 (t0 t1 t3:Value) (R:RT) (w:World):Prop :=
 opV Pg (binS .neq 20 true t3 .nilIface) (panK R) w fun t5 w =>
 joinK (fun (w:World) =>
 R (.returned (.tuple #[])) w) fun K1 =>
 condP t5 (
 n8c1 t0 t1 t3 K1 R w) (
 K1 w)
theorem n8s {t0 t1:Value} {u:FrameMode} {R:Ending→FrameMode→World→Prop} {w:World} (h:n8 t0 t1 (Sw.recM u).1 (fun e w=>R e (Sw.recM u).2 w) w):CallsDIn Fence.wide 0 Pg 32 #[t0,t1] u w R:=by
 refine calls_of_denR (args:=[t0,t1]) (d:=3) Tryz.func32 rfl (Nat.le_of_ble_eq_true rfl) rfl rfl rfl rfl ?_
 generalize (recM u).1=t3 at h ⊢
 generalize hR:(fun e w=>R e (recM u).2 w)=R' at h ⊢
 clear hR
 revert h
 generalize R'=R
 intro h
 unfold n8 at h
 refine zm<|zn<|zs<|zr<|zm<|yb h fun _ w h=>zn<|zk<|yJ0 [6,7] h (fun _ _ hkK1 h=>?_) fun σ w h=>?_
 · refine yC h (fun h=>?_) fun h=>?_
   · refine zr<|zm<|yv h fun _ w h=>yu h fun w h=>yu h fun w h=>zn<|zk ?_
     exact zt hkK1 h
   refine sim_skip<|zk ?_
   exact zt hkK1 h
 exact body_normal<|body_ret0 rfl h
def n24c1 (t0 t2:Value) (C1:World→Prop) (R:RT) (w:World):Prop :=
 qN Pg C1 (nilN t0) fun t9 =>
 qV Pg C1 (Instr.fieldAt 81 t9 3) fun t10 =>
 qV Pg C1 (Instr.loadAt 3 t10) fun t11 =>
 qN Pg C1 (nilN t0) fun t13 =>
 qV Pg C1 (Instr.fieldAt 81 t13 4) fun t14 =>
 qV Pg C1 (Instr.loadAt 3 t14) fun t15 =>
 qV Pg C1 (Instr.build 82 #[(0,t11),(1,t15),(2,t2)]) fun t17 =>
 qV Pg C1 (Instr.makeInterface 82 t17) fun t18 =>
 opV Pg (Instr.panic t18) (panK R) w fun _ w =>
 False
def n24 (t0 t1 t2:Value) (R:RT) (w:World):Prop :=
 opV Pg (Op.unary .not t1) (panK R) w fun t7 w =>
 condP t7 (
 drawK w fun C1 w =>
 n24c1 t0 t2 C1 R w) (
 R (.returned (.tuple #[])) w)
theorem n24s {t0 t1 t2:Value} {R:RT} {w:World} (h:n24 t0 t1 t2 R w):Calls Pg 33 #[t0,t1,t2] w R:=by
 refine yD Tryz.func33 ?_
 refine zs<|zr<|zm<|yv h fun _ w h=>zn<|zk<|yC h (fun h=>?_) fun h=>?_
 · refine yh [8,9,10,11,12,13,14,15,16,17,18] h fun C hC h=>yw 0 hC ?_
   refine yn 1 hC h fun _ h=>?_
   refine ye 2 hC h fun _ h=>?_
   refine ye 3 hC h fun _ h=>?_
   refine yw 4 hC ?_
   refine yn 5 hC h fun _ h=>?_
   refine ye 6 hC h fun _ h=>?_
   refine ye 7 hC h fun _ h=>?_
   refine yw 8 hC ?_
   refine ye 9 hC h fun _ h=>?_
   refine ye 10 hC h fun _ h=>?_
   refine yo 11 ?_
   exact yv h fun _ w h=>zn<|h.elim
 exact sim_skip<|body_normal<|body_ret0 rfl h
def n55c1 (t7:Value) (R:RT) (w:World):Prop :=
 opV Pg (Instr.extract t7 0) (panK R) w fun t8 w =>
 opV Pg (Instr.extract t7 1) (panK R) w fun t9 w =>
 opV Pg (Instr.alloc 131 true (.tuple #[])) (panK R) w fun t3 w =>
 opU Pg (Instr.storeAt 131 t3 t8) (panK R) w fun w =>
 opV Pg (Op.unary .not t9) (panK R) w fun t11 w =>
 R (.returned t11) w
def n55 (t0:Value) (R:RT) (w:World):Prop :=
 opV Pg (Instr.box 27 t0) (panK R) w fun t1 w =>
 L0 27 t1 R w fun t6 w =>
 C0 70 #[t6] R w fun t7 w =>
 n55c1 t7 R w
theorem n55s {t0:Value} {R:RT} {w:World} (h:n55 t0 R w):Calls Pg 34 #[t0] w R:=by
 refine yD Tryz.func34 ?_
 refine zs<|zr<|yv h fun _ w h=>zm<|zn<|zk<|zs<|zr<|yv h fun _ w h=>yc h c70 fun _ w h=>zm<|yv h fun _ w h=>yv h fun _ w h=>yv h fun _ w h=>yu h fun w h=>?_
 exact zm<|zn<|zk<|zs<|zr<|zm<|yv h fun _ w h=>zm<|zn<|zk<|sim_ret<|body_ret1 rfl rfl h
def n100c1 (t0 t11 t15:Value) (R:RT) (w:World):Prop :=
 pickK t11 t15 (.bool false) fun t16 =>
 joinK (fun (t22:Value) (w:World) =>
 pickK t16 t22 (.bool false) fun t23 =>
 R (.returned t23) w) fun K2 =>
 guardP t16 true (
 opV Pg (Go.convert 9 40 t0) (panK R) w fun t19 w =>
 callK Pg 75 #[t19,(.func (.func 71) #[] #[])] (panK R) w fun t21 w =>
 opV Pg (Op.unary .not t21) (panK R) w fun t22 w =>
 K2 t22 w) (
 K2 undef w)
def n100c2 (t0 t11:Value) (R:RT) (w:World):Prop :=
 joinK (fun (t15:Value) (w:World) =>
 n100c1 t0 t11 t15 R w) fun K1 =>
 guardP t11 true (
 opV Pg (Instr.index 9 t0 (.int .i64 0)) (panK R) w fun t14 w =>
 C0 72 #[t14] R w fun t15 w =>
 K1 t15 w) (
 K1 undef w)
def n100 (t0:Value) (R:RT) (w:World):Prop :=
 opV Pg (Builtin.len_ #[9] 3 #[t0]) (panK R) w fun t5 w =>
 B0 .geq 3 true t5 (.int .i64 1) R w fun t6 w =>
 opV Pg (Builtin.len_ #[9] 3 #[t0]) (panK R) w fun t8 w =>
 B0 .leq 3 true t8 (.int .i64 32) R w fun t9 w =>
 opV Pg (Instr.buildSlice 170 2 #[(0,t6),(1,t9)]) (panK R) w fun t10 w =>
 C0 74 #[t10] R w fun t11 w =>
 n100c2 t0 t11 R w
theorem n100s {t0:Value} {R:RT} {w:World} (h:n100 t0 R w):Calls Pg 35 #[t0] w R:=by
 refine yD Tryz.func35 ?_
 refine zs<|zr<|zm<|zn<|zk<|zs<|zr<|zm<|zn<|zk<|zs<|sim_regionG<|yG 9<|zm<|yx h fun _ w h=>?_
 refine yb h fun _ w h=>zm<|yx h fun _ w h=>yb h fun _ w h=>yS h fun _ w h=>yc h c74 fun _ w h=>zm<|zn<|yg1 3 8 true [13,14,15] 15 h (fun _ T hT h=>?_) fun σ w h=>?_
 · refine zm<|yv h fun _ w h=>yc h c72 fun _ w h=>zn ?_
   exact zt hT h
 refine yG 2<|yp h fun _ h=>zm<|zn<|yg1 5 13 true [18,19,20,21,22] 22 h (fun _ T hT h=>?_) fun σ w h=>?_
 · refine zm<|yv h fun _ w h=>zm<|yc h c75 fun _ w h=>yv h fun _ w h=>zn ?_
   exact zt hT h
 exact yG 2<|yp h fun _ h=>zm<|zn<|sim_end<|zk<|sim_ret<|body_ret1 rfl rfl h
def n29c1 (t4 t15:Value) (R:RT) (w:World):Prop :=
 condP t15 (
 R (.returned (.int .i64 5)) w) (
 B0 .eql 117 true t4 (.int .i64 9) R w fun t19 w =>
 condP t19 (
 R (.returned (.int .i64 6)) w) (
 R (.returned (.int .i64 0)) w))
def n29c2 (t4:Value) (R:RT) (w:World):Prop :=
 B0 .eql 117 true t4 (.int .i64 8) R w fun t16 w =>
 joinK (fun (t15:Value) (w:World) =>
 n29c1 t4 t15 R w) fun K3 =>
 condP t16 (
 K3 t16 w) (
 B0 .eql 117 true t4 (.int .i64 12) R w fun t17 w =>
 K3 t17 w)
def n29c3 (t4:Value) (R:RT) (w:World):Prop :=
 B0 .eql 117 true t4 (.int .i64 6) R w fun t12 w =>
 condP t12 (
 R (.returned (.int .i64 3)) w) (
 B0 .eql 117 true t4 (.int .i64 7) R w fun t14 w =>
 condP t14 (
 R (.returned (.int .i64 4)) w) (
 n29c2 t4 R w))
def n29c4 (t4:Value) (R:RT) (w:World):Prop :=
 B0 .eql 117 true t4 (.int .i64 4) R w fun t9 w =>
 joinK (fun (t8:Value) (w:World) =>
 condP t8 (
 R (.returned (.int .i64 2)) w) (
 n29c3 t4 R w)) fun K2 =>
 condP t9 (
 K2 t9 w) (
 B0 .eql 117 true t4 (.int .i64 5) R w fun t10 w =>
 K2 t10 w)
def n29 (t0:Value) (R:RT) (w:World):Prop :=
 opV Pg (Instr.box 123 t0) (panK R) w fun t1 w =>
 F0 123 t1 1 R w fun t3 w =>
 L0 117 t3 R w fun t4 w =>
 B0 .eql 117 true t4 (.int .i64 1) R w fun t6 w =>
 joinK (fun (t5:Value) (w:World) =>
 condP t5 (
 R (.returned (.int .i64 1)) w) (
 n29c4 t4 R w)) fun K1 =>
 condP t6 (
 K1 t6 w) (
 B0 .eql 117 true t4 (.int .i64 3) R w fun t7 w =>
 K1 t7 w)
theorem n29s {t0:Value} {R:RT} {w:World} (h:n29 t0 R w):Calls Pg 68 #[t0] w R:=by
 refine yD Tryz.func68 ?_
 refine zs<|zr<|yv h fun _ w h=>zm<|zn<|zk<|zs<|zs<|zr<|yv h fun _ w h=>yv h fun _ w h=>zn<|zk<|sim_block<|zs ?_
 refine zs<|zr<|yb h fun _ w h=>zm<|zn<|zk<|yJ1 [5,7] 5 h (fun _ _ hkK1 h=>?_) fun σ w h=>?_
 · refine yC h (fun h=>?_) fun h=>?_
   · refine sim_skip<|zk ?_
     exact zt hkK1 h
   refine zr<|yb h fun _ w h=>zm<|zn<|zk ?_
   exact zt hkK1 h
 refine zk<|yC h (fun h=>zs<|zr<|zm<|zn<|zk<|sim_ret<|sim_block_ret<|sim_then_ret<|body_ret1 rfl rfl h) fun h=>zs<|zs<|zr<|yb h fun _ w h=>zm<|zn<|zk<|yJ1 [8,10] 8 h (fun _ _ hkK2 h=>?_) fun σ w h=>?_
 · refine yC h (fun h=>?_) fun h=>?_
   · refine sim_skip<|zk ?_
     exact zt hkK2 h
   refine zr<|yb h fun _ w h=>zm<|zn<|zk ?_
   exact zt hkK2 h
 refine zk<|yC h (fun h=>zs<|zr<|zm<|zn<|zk<|sim_ret<|sim_block_ret<|sim_then_ret<|body_ret1 rfl rfl h) fun h=>zs<|zr<|yb h fun _ w h=>zm<|zn<|zk<|yC h (fun h=>zs<|zr<|zm<|zn<|zk<|sim_ret<|sim_block_ret<|sim_then_ret<|body_ret1 rfl rfl h) fun h=>zs<|zr<|yb h fun _ w h=>zm ?_
 refine zn<|zk<|yC h (fun h=>zs<|zr<|zm<|zn<|zk<|sim_ret<|sim_block_ret<|sim_then_ret<|body_ret1 rfl rfl h) fun h=>zs<|zs<|zr<|yb h fun _ w h=>zm<|zn<|zk<|yJ1 [15,17] 15 h (fun _ _ hkK3 h=>?_) fun σ w h=>?_
 · refine yC h (fun h=>?_) fun h=>?_
   · refine sim_skip<|zk ?_
     exact zt hkK3 h
   refine zr<|yb h fun _ w h=>zm<|zn<|zk ?_
   exact zt hkK3 h
 refine zk<|yC h (fun h=>zs<|zr<|zm<|zn<|zk<|sim_ret<|sim_block_ret<|sim_then_ret<|body_ret1 rfl rfl h) fun h=>zs<|zr<|yb h fun _ w h=>zm<|zn<|zk<|yC h (fun h=>zs<|zr<|zm<|zn<|zk<|sim_ret<|sim_block_ret<|sim_then_ret<|body_ret1 rfl rfl h) fun h=>sim_skip<|sim_block_normal<|zk<|zs ?_
 exact zr<|zm<|zn<|zk<|sim_ret<|body_ret1 rfl rfl h
def n46c1 (t2 t9:Value) (R:RT) (w:World):Prop :=
 opV Pg (Instr.extract t9 0) (panK R) w fun t10 w =>
 opV Pg (Instr.extract t9 1) (panK R) w fun t11 w =>
 opV Pg (Instr.extract t9 2) (panK R) w fun t12 w =>
 opV Pg (Instr.alloc 131 true (.tuple #[])) (panK R) w fun t5 w =>
 opU Pg (Instr.storeAt 131 t5 t11) (panK R) w fun w =>
 L0 131 t5 R w fun t13 w =>
 opU Pg (Instr.storeAt 131 t2 t13) (panK R) w fun w =>
 qW Pg 131 t2 w fun r0 =>
 R (.returned (.tuple #[r0,t12])) w
def n46 (t0:Value) (R:RT) (w:World):Prop :=
 opV Pg (Instr.box 27 t0) (panK R) w fun t1 w =>
 opV Pg (Instr.alloc 131 true (.tuple #[])) (panK R) w fun t2 w =>
 L0 27 t1 R w fun t8 w =>
 C0 106 #[t8] R w fun t9 w =>
 n46c1 t2 t9 R w
theorem n46s {t0:Value} {R:RT} {w:World} (h:n46 t0 R w):Calls Pg 70 #[t0] w R:=by
 refine yD Tryz.func70 ?_
 refine zs<|zr<|yv h fun _ w h=>yv h fun _ w h=>zm<|zn<|zk<|zs<|zr<|yv h fun _ w h=>yc h c106 fun _ w h=>zm<|yv h fun _ w h=>yv h fun _ w h=>yv h fun _ w h=>?_
 refine yv h fun _ w h=>zm<|yu h fun w h=>zm<|zn<|zk<|zs<|zr<|yv h fun _ w h=>zm<|yu h fun w h=>zm<|zn<|zk<|sim_ret ?_
 exact body_retCT rfl rfl rfl h
def n101c1 (t0 t5 t9:Value) (R:RT) (w:World):Prop :=
 pickK t5 t9 (.bool false) fun t10 =>
 joinK (fun (t13:Value) (w:World) =>
 pickK t10 t13 (.bool false) fun t14 =>
 R (.returned t14) w) fun K2 =>
 guardP t10 true (
 opV Pg (binS .neq 5 true t0 (.int .u8 95)) (panK R) w fun t13 w =>
 K2 t13 w) (
 K2 undef w)
def n101c2 (t0 t4:Value) (R:RT) (w:World):Prop :=
 opV Pg (Op.unary .not t4) (panK R) w fun t5 w =>
 joinK (fun (t9:Value) (w:World) =>
 n101c1 t0 t5 t9 R w) fun K1 =>
 guardP t5 true (
 C0 73 #[t0] R w fun t8 w =>
 opV Pg (Op.unary .not t8) (panK R) w fun t9 w =>
 K1 t9 w) (
 K1 undef w)
def n101 (t0:Value) (R:RT) (w:World):Prop :=
 C0 72 #[t0] R w fun t4 w =>
 n101c2 t0 t4 R w
theorem n101s {t0:Value} {R:RT} {w:World} (h:n101 t0 R w):Calls Pg 71 #[t0] w R:=by
 refine yD Tryz.func71 ?_
 refine zs<|zr<|zm<|zn<|zk<|zs<|sim_regionG<|yG 4<|zm<|yc h c72 fun _ w h=>yv h fun _ w h=>zm<|zn<|yg1 3 3 true [7,8,9] 9 h (fun _ T hT h=>?_) fun σ w h=>?_
 · refine zm<|yc h c73 fun _ w h=>yv h fun _ w h=>zn ?_
   exact zt hT h
 refine yG 2<|yp h fun _ h=>zm<|zn<|yg1 2 8 true [12,13] 13 h (fun _ T hT h=>?_) fun σ w h=>?_
 · refine zm<|yb h fun _ w h=>zn ?_
   exact zt hT h
 exact yG 2<|yp h fun _ h=>zm<|zn<|sim_end<|zk<|sim_ret<|body_ret1 rfl rfl h
def n110c1 (t0 t8 t12:Value) (R:RT) (w:World):Prop :=
 joinK (fun (t14:Value) (w:World) =>
 joinK (fun (t15:Value) (w:World) =>
 pickK t8 (.bool true) t15 fun t16 =>
 R (.returned t16) w) fun K4 =>
 guardP t8 false (
 pickK t12 t14 (.bool false) fun t15 =>
 K4 t15 w) (
 K4 undef w)) fun K3 =>
 guardP t12 true (
 opV Pg (binS .leq 5 true t0 (.int .u8 122)) (panK R) w fun t14 w =>
 K3 t14 w) (
 K3 undef w)
def n110c2 (t0 t4 t7:Value) (R:RT) (w:World):Prop :=
 pickK t4 t7 (.bool false) fun t8 =>
 joinK (fun (t12:Value) (w:World) =>
 n110c1 t0 t8 t12 R w) fun K2 =>
 guardP t8 false (
 opV Pg (binS .geq 5 true t0 (.int .u8 97)) (panK R) w fun t11 w =>
 K2 t11 w) (
 K2 undef w)
def n110 (t0:Value) (R:RT) (w:World):Prop :=
 opV Pg (binS .geq 5 true t0 (.int .u8 65)) (panK R) w fun t4 w =>
 joinK (fun (t7:Value) (w:World) =>
 n110c2 t0 t4 t7 R w) fun K1 =>
 guardP t4 true (
 opV Pg (binS .leq 5 true t0 (.int .u8 90)) (panK R) w fun t7 w =>
 K1 t7 w) (
 K1 undef w)
theorem n110s {t0:Value} {R:RT} {w:World} (h:n110 t0 R w):Calls Pg 72 #[t0] w R:=by
 refine yD Tryz.func72 ?_
 refine zs<|zr<|zm<|zn<|zk<|zs<|sim_regionG<|yG 3<|zm<|yb h fun _ w h=>zm<|zn<|yg1 2 2 true [6,7] 7 h (fun _ T hT h=>?_) fun σ w h=>?_
 · refine zm<|yb h fun _ w h=>zn ?_
   exact zt hT h
 refine yG 2<|yp h fun _ h=>zm<|zn<|yg1 3 6 false [10,11,12] 12 h (fun _ T hT h=>?_) fun σ w h=>?_
 · refine zm<|yb h fun _ w h=>zm<|zn ?_
   exact zt hT h
 refine yg1 2 9 true [13,14] 14 h (fun _ T hT h=>?_) fun σ w h=>?_
 · refine zm<|yb h fun _ w h=>zn ?_
   exact zt hT h
 refine yg1 1 6 false [15] 15 h (fun _ T hT h=>?_) fun σ w h=>?_
 · refine yp h fun _ h=>zn ?_
   exact zt hT h
 exact yG 2<|yp h fun _ h=>zm<|zn<|sim_end<|zk<|sim_ret<|body_ret1 rfl rfl h
def n109 (t0:Value) (R:RT) (w:World):Prop :=
 opV Pg (binS .geq 5 true t0 (.int .u8 48)) (panK R) w fun t4 w =>
 joinK (fun (t7:Value) (w:World) =>
 pickK t4 t7 (.bool false) fun t8 =>
 R (.returned t8) w) fun K1 =>
 guardP t4 true (
 opV Pg (binS .leq 5 true t0 (.int .u8 57)) (panK R) w fun t7 w =>
 K1 t7 w) (
 K1 undef w)
theorem n109s {t0:Value} {R:RT} {w:World} (h:n109 t0 R w):Calls Pg 73 #[t0] w R:=by
 refine yD Tryz.func73 ?_
 refine zs<|zr<|zm<|zn<|zk<|zs<|sim_regionG<|yG 3<|zm<|yb h fun _ w h=>zm<|zn<|yg1 2 2 true [6,7] 7 h (fun _ T hT h=>?_) fun σ w h=>?_
 · refine zm<|yb h fun _ w h=>zn ?_
   exact zt hT h
 exact yG 2<|yp h fun _ h=>zm<|zn<|sim_end<|zk<|sim_ret<|body_ret1 rfl rfl h
def n107 (t0:Value) (R:RT) (w:World):Prop :=
 C0 107 #[t0,(.bool false)] R w fun t4 w =>
 opV Pg (Op.unary .not t4) (panK R) w fun t5 w =>
 R (.returned t5) w
theorem n107s {t0:Value} {R:RT} {w:World} (h:n107 t0 R w):Calls Pg 74 #[t0] w R:=by
 refine yD Tryz.func74 ?_
 exact zs<|zr<|zm<|zn<|zk<|zs<|zr<|zm<|yc h c107 fun _ w h=>yv h fun _ w h=>zm<|zn<|zk<|sim_ret<|body_ret1 rfl rfl h
def n120 (t0 t1:Value) (R:RT) (w:World):Prop :=
 C0 108 #[t0,t1] R w fun t7 w =>
 B0 .geq 3 true t7 (.int .i64 0) R w fun t8 w =>
 R (.returned t8) w
theorem n120s {t0 t1:Value} {R:RT} {w:World} (h:n120 t0 t1 R w):Calls Pg 75 #[t0,t1] w R:=by
 refine yD Tryz.func75 ?_
 refine zs<|zr<|zm<|zn<|zk<|zs<|zr<|zm<|zm<|yc h c108 fun _ w h=>yb h fun _ w h=>zm<|zn<|zk<|sim_ret ?_
 exact body_ret1 rfl rfl h
def n33c1 (t4:Value) (R:RT) (w:World):Prop :=
 opV Pg (Instr.build 74 #[]) (panK R) w fun t16 w =>
 opU Pg (Instr.storeAt 74 t4 t16) (panK R) w fun w =>
 qW Pg 74 t4 w fun r0 =>
 R (.returned (.tuple #[r0,(.bool false)])) w
def n33c2 (t2 t4 t12:Value) (R:RT) (w:World):Prop :=
 F0 27 t2 1 R w fun t17 w =>
 L0 25 t17 R w fun t18 w =>
 X0 25 t18 t12 R w fun t20 w =>
 L0 74 t20 R w fun t21 w =>
 opU Pg (Instr.storeAt 74 t4 t21) (panK R) w fun w =>
 qW Pg 74 t4 w fun r0 =>
 R (.returned (.tuple #[r0,(.bool true)])) w
def n33c3 (t2 t4 t11:Value) (R:RT) (w:World):Prop :=
 opV Pg (Instr.extract t11 0) (panK R) w fun t12 w =>
 opV Pg (Instr.extract t11 1) (panK R) w fun t13 w =>
 opV Pg (Op.unary .not t13) (panK R) w fun t15 w =>
 condP t15 (
 n33c1 t4 R w) (
 n33c2 t2 t4 t12 R w)
def n33 (t0 t1:Value) (R:RT) (w:World):Prop :=
 opV Pg (Instr.box 27 t0) (panK R) w fun t2 w =>
 opV Pg (Instr.alloc 74 true (.tuple #[])) (panK R) w fun t4 w =>
 L0 27 t2 R w fun t9 w =>
 C0 109 #[t9,t1] R w fun t11 w =>
 n33c3 t2 t4 t11 R w
theorem n33s {t0 t1:Value} {R:RT} {w:World} (h:n33 t0 t1 R w):Calls Pg 76 #[t0,t1] w R:=by
 refine yD Tryz.func76 ?_
 refine zs<|zr<|yv h fun _ w h=>yv h fun _ w h=>zm<|zn<|zk<|zs<|zr<|yv h fun _ w h=>zm<|yc h c109 fun _ w h=>zm<|yv h fun _ w h=>yv h fun _ w h=>?_
 refine zm<|zm<|zn<|zk<|zs<|zs<|zr<|zm<|yv h fun _ w h=>zn<|zk<|yC h (fun h=>zs<|zr<|yB h fun _ w h=>yu h fun w h=>zm<|zn<|zk<|sim_ret<|sim_then_ret<|body_retCT rfl rfl rfl h) fun h=>sim_skip<|zk ?_
 exact zs<|zr<|yv h fun _ w h=>yv h fun _ w h=>zm<|yv h fun _ w h=>yv h fun _ w h=>yu h fun w h=>zm<|zn<|zk<|sim_ret<|body_retCT rfl rfl rfl h
def n26c1 (t0 t6:Value) (K3:World→Prop) (R:RT) (w:World):Prop :=
 F0 43 t6 3 R w fun t79 w =>
 L0 3 t79 R w fun t80 w =>
 F0 43 t6 3 R w fun t81 w =>
 L0 3 t81 R w fun t82 w =>
 opV Pg (Op.unary .neg t82) (panK R) w fun t83 w =>
 opV Pg (Builtin.max_ #[3,3] 3 #[t80,t83]) (panK R) w fun t84 w =>
 C0 42 #[t84] R w fun t85 w =>
 C0 33 #[t0,t85,(.int .i64 8)] R w fun t86 w =>
 K3 w
def n26c2 (t0 t6:Value) (K3:World→Prop) (R:RT) (w:World):Prop :=
 F0 43 t6 4 R w fun t94 w =>
 L0 3 t94 R w fun t95 w =>
 C0 42 #[t95] R w fun t96 w =>
 C0 33 #[t0,t96,(.int .i64 8)] R w fun t97 w =>
 K3 w
def n26c3 (t0 t6:Value) (K3:World→Prop) (R:RT) (w:World):Prop :=
 F0 43 t6 5 R w fun t105 w =>
 L0 40 t105 R w fun t106 w =>
 opV Pg (Builtin.len_ #[40] 3 #[t106]) (panK R) w fun t107 w =>
 B0 .leq 3 true t107 (.int .i64 1000) R w fun t108 w =>
 C0 33 #[t0,t108,(.int .i64 2)] R w fun t109 w =>
 K3 w
def n26c4 (t0 t6:Value) (K3:World→Prop) (R:RT) (w:World):Prop :=
 F0 43 t6 6 R w fun t121 w =>
 L0 41 t121 R w fun t122 w =>
 C0 112 #[t0,t122] R w fun t123 w =>
 K3 w
def n26c5 (t0 t10 t14:Value) (K3:World→Prop) (R:RT) (w:World):Prop :=
 L0 123 t14 R w fun t136 w =>
 L0 123 t10 R w fun t137 w =>
 C0 113 #[t0,t136,t137] R w fun t138 w =>
 K3 w
def n26c6 (t0 t10 t14 t22 t54:Value) (K3:World→Prop) (R:RT) (w:World):Prop :=
 B0 .eql 124 false t22 t54 R w fun t129 w =>
 joinK (fun (t132:Value) (w:World) =>
 pickK t129 t132 (.bool false) fun t133 =>
 C0 33 #[t0,t133,(.int .i64 5)] R w fun t134 w =>
 n26c5 t0 t10 t14 K3 R w) fun K7 =>
 guardP t129 true (
 B0 .geq 124 true t22 (.int .i64 4) R w fun t132 w =>
 K7 t132 w) (
 K7 undef w)
def n26c7 (t0 t22 t56:Value) (K3:World→Prop) (R:RT) (w:World):Prop :=
 B0 .eql 39 true t56 (.int .i64 7) R w fun t140 w =>
 condP t140 (
 B0 .eql 124 true t22 (.int .i64 1) R w fun t143 w =>
 C0 33 #[t0,t143,(.int .i64 5)] R w fun t144 w =>
 K3 w) (
 K3 w)
def n26c8 (t0 t6 t22 t54:Value) (K3:World→Prop) (R:RT) (w:World):Prop :=
 B0 .eql 124 true t22 (.int .i64 1) R w fun t114 w =>
 joinK (fun (t117:Value) (w:World) =>
 pickK t114 t117 (.bool false) fun t118 =>
 C0 33 #[t0,t118,(.int .i64 5)] R w fun t119 w =>
 n26c4 t0 t6 K3 R w) fun K6 =>
 guardP t114 true (
 B0 .eql 124 true t54 (.int .i64 1) R w fun t117 w =>
 K6 t117 w) (
 K6 undef w)
def n26c9 (t0 t6 t10 t14 t22 t54 t56:Value) (K3:World→Prop) (R:RT) (w:World):Prop :=
 B0 .eql 39 true t56 (.int .i64 5) R w fun t111 w =>
 condP t111 (
 n26c8 t0 t6 t22 t54 K3 R w) (
 B0 .eql 39 true t56 (.int .i64 6) R w fun t125 w =>
 condP t125 (
 n26c6 t0 t10 t14 t22 t54 K3 R w) (
 n26c7 t0 t22 t56 K3 R w))
def n26c10 (t0 t6 t10 t14 t22 t54 t56:Value) (K3:World→Prop) (R:RT) (w:World):Prop :=
 B0 .eql 39 true t56 (.int .i64 4) R w fun t99 w =>
 condP t99 (
 B0 .eql 124 true t22 (.int .i64 2) R w fun t102 w =>
 C0 33 #[t0,t102,(.int .i64 5)] R w fun t103 w =>
 n26c3 t0 t6 K3 R w) (
 n26c9 t0 t6 t10 t14 t22 t54 t56 K3 R w)
def n26c11 (t0 t6 t22 t54:Value) (K3:World→Prop) (R:RT) (w:World):Prop :=
 B0 .eql 124 true t22 (.int .i64 1) R w fun t72 w =>
 joinK (fun (t75:Value) (w:World) =>
 pickK t72 t75 (.bool false) fun t76 =>
 C0 33 #[t0,t76,(.int .i64 5)] R w fun t77 w =>
 n26c1 t0 t6 K3 R w) fun K5 =>
 guardP t72 true (
 B0 .eql 124 true t54 (.int .i64 1) R w fun t75 w =>
 K5 t75 w) (
 K5 undef w)
def n26c12 (t0 t6 t10 t14 t22 t54 t56:Value) (K3:World→Prop) (R:RT) (w:World):Prop :=
 B0 .eql 39 true t56 (.int .i64 3) R w fun t88 w =>
 condP t88 (
 B0 .eql 124 true t22 (.int .i64 1) R w fun t91 w =>
 C0 33 #[t0,t91,(.int .i64 5)] R w fun t92 w =>
 n26c2 t0 t6 K3 R w) (
 n26c10 t0 t6 t10 t14 t22 t54 t56 K3 R w)
def n26c13 (t0 t22 t54:Value) (K3:World→Prop) (R:RT) (w:World):Prop :=
 B0 .eql 124 false t22 t54 R w fun t62 w =>
 joinK (fun (t65:Value) (w:World) =>
 pickK t62 t65 (.bool false) fun t66 =>
 C0 33 #[t0,t66,(.int .i64 5)] R w fun t67 w =>
 K3 w) fun K4 =>
 guardP t62 true (
 B0 .leq 124 true t22 (.int .i64 3) R w fun t65 w =>
 K4 t65 w) (
 K4 undef w)
def n26c14 (t0 t6 t10 t14 t22 t54 t56:Value) (K3:World→Prop) (R:RT) (w:World):Prop :=
 B0 .eql 39 true t56 (.int .i64 2) R w fun t69 w =>
 condP t69 (
 n26c11 t0 t6 t22 t54 K3 R w) (
 n26c12 t0 t6 t10 t14 t22 t54 t56 K3 R w)
def n26c15 (t0 t6 t10 t22 t52:Value) (R:RT) (w:World):Prop :=
 opV Pg (Instr.extract t52 0) (panK R) w fun t53 w =>
 opV Pg (Instr.extract t52 1) (panK R) w fun t54 w =>
 opV Pg (Instr.alloc 123 true (.tuple #[])) (panK R) w fun t14 w =>
 opU Pg (Instr.storeAt 123 t14 t53) (panK R) w fun w =>
 F0 43 t6 1 R w fun t55 w =>
 L0 39 t55 R w fun t56 w =>
 B0 .eql 39 true t56 (.int .i64 1) R w fun t58 w =>
 joinK (fun (w:World) =>
 R (.returned (.tuple #[])) w) fun K3 =>
 condP t58 (
 n26c13 t0 t22 t54 K3 R w) (
 n26c14 t0 t6 t10 t14 t22 t54 t56 K3 R w)
def n26c16 (t0 t6 t7 t10 t22:Value) (R:RT) (w:World):Prop :=
 L0 74 t7 R w fun t49 w =>
 F0 43 t6 2 R w fun t50 w =>
 L0 9 t50 R w fun t51 w =>
 C0 110 #[t49,t51] R w fun t52 w =>
 n26c15 t0 t6 t10 t22 t52 R w
def n26c17 (t0 t6 t7 t10 t12 t22:Value) (R:RT) (w:World):Prop :=
 L0 43 t6 R w fun t44 w =>
 L0 105 t12 R w fun t45 w =>
 C0 97 #[t44,t45] R w fun t46 w =>
 C0 33 #[t0,t46,(.int .i64 7)] R w fun t47 w =>
 n26c16 t0 t6 t7 t10 t22 R w
def n26c18 (t34 t36:Value) (C8:World→Prop) (K2:KW) (R:RT) (w:World):Prop :=
 qV Pg C8 (Instr.lookup 106 t34 t36 true) fun t37 =>
 qV Pg C8 (Instr.extract t37 0) fun t38 =>
 qV Pg C8 (Instr.extract t37 1) fun t39 =>
 opV Pg (Instr.alloc 105 true (.tuple #[])) (panK R) w fun t12 w =>
 C8 w∧(
 opU Pg (Instr.storeAt 105 t12 t38) (panK R) w fun w =>
 C8 w∧(
 K2 t12 t39 w))
def n26c19 (t12 t34 t36:Value) (C9:World→Prop) (K2:KW) (R:RT) (w:World):Prop :=
 qV Pg C9 (Instr.lookup 106 t34 t36 true) fun t37 =>
 qV Pg C9 (Instr.extract t37 0) fun t38 =>
 qV Pg C9 (Instr.extract t37 1) fun t39 =>
 opU Pg (Instr.storeAt 105 t12 t38) (panK R) w fun w =>
 C9 w∧(
 K2 t12 t39 w)
def n26c20 (t0 t6 t7 t10 t22:Value) (C1:World→Prop) (R:RT) (w:World):Prop :=
 qV Pg C1 (Instr.fieldAt 43 t6 1) fun t35 =>
 qV Pg C1 (Instr.loadAt 39 t35) fun t36 =>
 joinK (fun (t12:Value) (t13:Value) (w:World) =>
 C0 33 #[t0,t13,(.int .i64 6)] R w fun t42 w =>
 n26c17 t0 t6 t7 t10 t12 t22 R w) fun K2 =>
 (
 C0 57 #[] R w fun t34 w =>
 narrowK C1 w fun C8 w =>
 n26c18 t34 t36 C8 K2 R w)∧(
 opV Pg (Instr.alloc 105 true (.tuple #[])) (panK R) w fun t12 w =>
 C1 w∧(
 C0 57 #[] R w fun t34 w =>
 narrowK C1 w fun C9 w =>
 n26c19 t12 t34 t36 C9 K2 R w))
def n26c21 (t0 t6 t7 t10 t22 t30:Value) (R:RT) (w:World):Prop :=
 opV Pg (Op.unary .not t30) (panK R) w fun t31 w =>
 C0 33 #[t0,t31,(.int .i64 4)] R w fun t32 w =>
 drawK w fun C1 w =>
 n26c20 t0 t6 t7 t10 t22 C1 R w
def n26c22 (t0 t4 t6 t7 t20:Value) (R:RT) (w:World):Prop :=
 opV Pg (Instr.extract t20 0) (panK R) w fun t21 w =>
 opV Pg (Instr.extract t20 1) (panK R) w fun t22 w =>
 opV Pg (Instr.alloc 123 true (.tuple #[])) (panK R) w fun t10 w =>
 opU Pg (Instr.storeAt 123 t10 t21) (panK R) w fun w =>
 B0 .neq 124 true t22 (.int .i64 0) R w fun t25 w =>
 C0 33 #[t0,t25,(.int .i64 5)] R w fun t26 w =>
 opV Pg (Instr.makeFunc (.func 111) #[] #[t6]) (panK R) w fun t29 w =>
 C0 78 #[t4,t29] R w fun t30 w =>
 n26c21 t0 t6 t7 t10 t22 t30 R w
def n26 (t0 t1 t2 t3 t4:Value) (R:RT) (w:World):Prop :=
 opV Pg (Instr.box 43 t1) (panK R) w fun t6 w =>
 opV Pg (Instr.box 74 t2) (panK R) w fun t7 w =>
 opV Pg (Instr.box 74 t3) (panK R) w fun t8 w =>
 L0 74 t8 R w fun t17 w =>
 F0 43 t6 0 R w fun t18 w =>
 L0 9 t18 R w fun t19 w =>
 C0 110 #[t17,t19] R w fun t20 w =>
 n26c22 t0 t4 t6 t7 t20 R w
theorem n26s {t0 t1 t2 t3 t4:Value} {R:RT} {w:World} (h:n26 t0 t1 t2 t3 t4 R w):Calls Pg 77 #[t0,t1,t2,t3,t4] w R:=by
 refine yD Tryz.func77 ?_
 refine zs<|zr<|yv h fun _ w h=>yv h fun _ w h=>yv h fun _ w h=>zn<|zk<|zs<|zr<|yv h fun _ w h=>yv h fun _ w h=>yv h fun _ w h=>yc h c110 fun _ w h=>zm<|yv h fun _ w h=>?_
 refine yv h fun _ w h=>yv h fun _ w h=>yu h fun w h=>zm<|zn<|zk<|zs<|zr<|zm<|zm<|yb h fun _ w h=>yc h c33 fun _ w h=>zn<|zk<|zs ?_
 refine zr<|zm<|zm<|yF h fun _ w h=>yc h c78 fun _ w h=>yv h fun _ w h=>yc h c33 fun _ w h=>zn<|zk<|zs<|yh [12,13,33,34,35,36,37,38,39] h fun C hC h=>ye 1 hC h fun _ h=>?_
 refine ye 2 hC h fun _ h=>?_
 refine joinK_elim h (fun K2 hK h=>?_)
 refine sim_dmeet [12,13,33,34,37,38,39] (fun ρ w=>K2 (ρ 12) (ρ 13) w) (fun T hT=>?_) (fun σ w h=>?_)
 · obtain ⟨h0,h1⟩:=h
   refine sim_dloud2 0 7 rfl rfl Qq (fun _ _=>rfl) (fun _ _=>rfl) ?_ ?_
   · have h:=h0
     refine yc h c57 fun _ w h=>zn ?_
     obtain ⟨C8,hs,hC,h⟩:=h
     refine ⟨C8,hs,hC,?_⟩
     refine ye 3 hC h fun _ h=>?_
     refine yw 4 hC ?_
     refine ye 5 hC h fun _ h=>?_
     refine ye 6 hC h fun _ h=>?_
     refine yo 7 ?_
     refine yv h fun _ w h=>zn ?_
     obtain ⟨hC,h⟩:=h
     refine ⟨hC,?_⟩
     refine yo 8 ?_
     refine yu h fun w h=>zn ?_
     obtain ⟨hC,h⟩:=h
     refine ⟨hC,?_⟩
     refine yw 9 hC ?_
     refine yz ?_
     exact zt hT h
   have h:=h1
   refine yv h fun _ w h=>zn ?_
   obtain ⟨hC,h⟩:=h
   refine ⟨_,fun _ h=>h,hC,?_⟩
   refine yr 0 ?_
   refine yc h c57 fun _ w h=>zn ?_
   obtain ⟨C9,hs,hC,h⟩:=h
   refine ⟨C9,hs,hC,?_⟩
   refine ye 3 hC h fun _ h=>?_
   refine yw 4 hC ?_
   refine ye 5 hC h fun _ h=>?_
   refine ye 6 hC h fun _ h=>?_
   refine yo 8 ?_
   refine yu h fun w h=>zn ?_
   obtain ⟨hC,h⟩:=h
   refine ⟨hC,?_⟩
   refine yw 9 hC ?_
   refine yz ?_
   exact zt hT h
 subst hK
 refine zk<|zs<|zr<|zm<|zm<|yc h c33 fun _ w h=>zn<|zk<|zs<|zr<|zm<|yv h fun _ w h=>yv h fun _ w h=>yc h c97 fun _ w h=>yc h c33 fun _ w h=>?_
 refine zn<|zk<|zs<|zr<|yv h fun _ w h=>yv h fun _ w h=>yv h fun _ w h=>yc h c110 fun _ w h=>zm<|yv h fun _ w h=>yv h fun _ w h=>yv h fun _ w h=>yu h fun w h=>zm<|zn ?_
 refine zk<|zs<|zr<|yv h fun _ w h=>yv h fun _ w h=>zn<|zk<|sim_block<|zs<|zr<|yb h fun _ w h=>zm<|zn<|zk<|yJ0 [59,60,61,62,63,64,65,66,67,68,69,70,71,72,73,74,75,76,77,78,79,80,81,82,83,84,85,86,87,88,89,90,91,92,93,94,95,96,97,98,99,100,101,102,103,104,105,106,107,108,109,110,111,112,113,114,115,116,117,118,119,120,121,122,123,124,125,126,127,128,129,130,131,132,133,134,135,136,137,138,139,140,141,142,143,144] h (fun _ _ hkK3 h=>?_) fun σ w h=>?_
 · refine yC h (fun h=>?_) fun h=>?_
   · refine sim_regionG<|yG 5<|zm<|zm<|zm<|yb h fun _ w h=>zm<|zn<|yg1 2 4 true [64,65] 65 h (fun _ T hT h=>?_) fun σ w h=>?_
     · refine zm<|yb h fun _ w h=>zn ?_
       exact zt hT h
     refine yG 2<|yp h fun _ h=>yc h c33 fun _ w h=>zn<|sim_end<|zk ?_
     exact zt hkK3 h
   refine zs<|zr<|yb h fun _ w h=>zm<|zn<|zk<|yC h (fun h=>?_) fun h=>?_
   · refine zs<|sim_regionG<|yG 4<|zm<|zm<|yb h fun _ w h=>zm<|zn<|yg1 2 3 true [74,75] 75 h (fun _ T hT h=>?_) fun σ w h=>?_
     · refine zm<|yb h fun _ w h=>zn ?_
       exact zt hT h
     refine yG 2<|yp h fun _ h=>yc h c33 fun _ w h=>zn<|sim_end<|zk<|zr<|zm<|yv h fun _ w h=>yv h fun _ w h=>yv h fun _ w h=>yv h fun _ w h=>yv h fun _ w h=>yx h fun _ w h=>yc h c42 fun _ w h=>?_
     refine yc h c33 fun _ w h=>zn<|zk ?_
     exact zt hkK3 h
   refine zs<|zr<|yb h fun _ w h=>zm<|zn<|zk<|yC h (fun h=>?_) fun h=>?_
   · refine zs<|zr<|zm<|zm<|yb h fun _ w h=>yc h c33 fun _ w h=>zn<|zk<|zr<|zm<|yv h fun _ w h=>yv h fun _ w h=>yc h c42 fun _ w h=>yc h c33 fun _ w h=>zn ?_
     refine zk ?_
     exact zt hkK3 h
   refine zs<|zr<|yb h fun _ w h=>zm<|zn<|zk<|yC h (fun h=>?_) fun h=>?_
   · refine zs<|zr<|zm<|zm<|yb h fun _ w h=>yc h c33 fun _ w h=>zn<|zk<|zr<|zm<|yv h fun _ w h=>yv h fun _ w h=>yx h fun _ w h=>yb h fun _ w h=>yc h c33 fun _ w h=>?_
     refine zn<|zk ?_
     exact zt hkK3 h
   refine zs<|zr<|yb h fun _ w h=>zm<|zn<|zk<|yC h (fun h=>?_) fun h=>?_
   · refine zs<|sim_regionG<|yG 4<|zm<|zm<|yb h fun _ w h=>zm<|zn<|yg1 2 3 true [116,117] 117 h (fun _ T hT h=>?_) fun σ w h=>?_
     · refine zm<|yb h fun _ w h=>zn ?_
       exact zt hT h
     refine yG 2<|yp h fun _ h=>yc h c33 fun _ w h=>zn<|sim_end<|zk<|zr<|zm<|yv h fun _ w h=>yv h fun _ w h=>yc h c112 fun _ w h=>zn<|zk ?_
     exact zt hkK3 h
   refine zs<|zr<|yb h fun _ w h=>zm<|zn<|zk<|yC h (fun h=>?_) fun h=>?_
   · refine zs<|sim_regionG<|yG 5<|zm<|zm<|zm<|yb h fun _ w h=>zm<|zn<|yg1 2 4 true [131,132] 132 h (fun _ T hT h=>?_) fun σ w h=>?_
     · refine zm<|yb h fun _ w h=>zn ?_
       exact zt hT h
     refine yG 2<|yp h fun _ h=>yc h c33 fun _ w h=>zn<|sim_end<|zk<|zr<|zm<|yv h fun _ w h=>yv h fun _ w h=>yc h c113 fun _ w h=>zn<|zk ?_
     exact zt hkK3 h
   refine zs<|zr<|yb h fun _ w h=>zm<|zn<|zk<|yC h (fun h=>?_) fun h=>?_
   · refine zr<|zm<|zm<|yb h fun _ w h=>yc h c33 fun _ w h=>zn<|zk ?_
     exact zt hkK3 h
   refine sim_skip<|zk ?_
   exact zt hkK3 h
 exact sim_block_normal<|body_normal<|body_ret0 rfl h
def n118 (t0 t1:Value) (R:RT) (w:World):Prop :=
 C0 114 #[t0,t1] R w fun t7 w =>
 B0 .geq 3 true t7 (.int .i64 0) R w fun t8 w =>
 R (.returned t8) w
theorem n118s {t0 t1:Value} {R:RT} {w:World} (h:n118 t0 t1 R w):Calls Pg 78 #[t0,t1] w R:=by
 refine yD Tryz.func78 ?_
 refine zs<|zr<|zm<|zn<|zk<|zs<|zr<|zm<|zm<|yc h c114 fun _ w h=>yb h fun _ w h=>zm<|zn<|zk<|sim_ret ?_
 exact body_ret1 rfl rfl h
def n22 (t0 t1:Value) (R:RT) (w:World):Prop :=
 opV Pg (Instr.box 43 t0) (panK R) w fun t2 w =>
 F0 43 t2 0 R w fun t4 w =>
 L0 9 t4 R w fun t5 w =>
 F0 123 t1 0 R w fun t6 w =>
 L0 9 t6 R w fun t7 w =>
 B0 .eql 9 false t5 t7 R w fun t8 w =>
 R (.returned t8) w
theorem n22s {t0 t1:Value} {R:RT} {w:World} (h:n22 t0 t1 R w):Calls Pg 79 #[t0,t1] w R:=by
 refine yD Tryz.func79 ?_
 refine zs<|zr<|yv h fun _ w h=>zm<|zn<|zk<|zs<|zr<|yv h fun _ w h=>yv h fun _ w h=>yv h fun _ w h=>yv h fun _ w h=>yb h fun _ w h=>zm<|zn ?_
 exact zk<|sim_ret<|body_ret1 rfl rfl h
def n62c1 (t6 t52 t64 t68:Value) (next6:KV) (ds:List Deferred) (R:RT) (w:World):Prop :=
 pickK t64 t68 (.bool false) fun t69 =>
 opU Pg (Instr.storeAt 4 t6 t69) (outQ Pg ds [] R) w fun w =>
 opV Pg (binS .add 3 true t52 (.int .i64 1)) (outQ Pg ds [] R) w fun t70 w =>
 next6 t70 w
def n62c2 (t6 t8 t52:Value) (next6:KV) (ds:List Deferred) (R:RT) (w:World):Prop :=
 opV Pg (Instr.loadAt 4 t6) (outQ Pg ds [] R) w fun t64 w =>
 joinK (fun (t68:Value) (w:World) =>
 n62c1 t6 t52 t64 t68 next6 ds R w) fun K7 =>
 guardP t64 true (
 opV Pg (Instr.fieldAt 123 t8 4) (outQ Pg ds [] R) w fun t66 w =>
 opV Pg (Instr.loadAt 4 t66) (outQ Pg ds [] R) w fun t67 w =>
 opV Pg (Op.unary .not t67) (outQ Pg ds [] R) w fun t68 w =>
 K7 t68 w) (
 K7 undef w)
def n62c3 (t2 t6 t76:Value) (Kr8:World→Prop) (Qr8:List PanicEntry→World→Prop) (R:RT) (w:World):Prop :=
 opV Pg (Instr.loadAt 4 t6) Qr8 w fun t85 w =>
 joinK (fun (t92:Value) (w:World) =>
 pickK t85 t92 (.bool false) fun t93 =>
 opU Pg (Instr.storeAt 4 t6 t93) Qr8 w fun w =>
 Kr8 w) fun K11 =>
 guardP t85 true (
 opV Pg (Instr.loadAt 167 t2) Qr8 w fun t87 w =>
 opN Pg (nilN t87) Qr8 w fun t88 w =>
 opV Pg (Instr.fieldAt 201 t88 2) Qr8 w fun t89 w =>
 opV Pg (Instr.loadAt 199 t89) Qr8 w fun t90 w =>
 opV Pg (Instr.lookup 199 t90 t76 false) Qr8 w fun t92 w =>
 K11 t92 w) (
 K11 undef w)
def n62c4 (t2 t6 t9 t76:Value) (C9:World→Prop) (Kr8:World→Prop) (Qr8:List PanicEntry→World→Prop) (R:RT) (w:World):Prop :=
 qV Pg C9 (Instr.loadAt 3 t9) fun t77 =>
 qV Pg C9 (Instr.loadAt 167 t2) fun t78 =>
 qN Pg C9 (nilN t78) fun t79 =>
 qV Pg C9 (Instr.fieldAt 201 t79 1) fun t80 =>
 qV Pg C9 (Instr.loadAt 198 t80) fun t81 =>
 qV Pg C9 (Instr.lookup 198 t81 t76 false) fun t83 =>
 qV Pg C9 (Builtin.max_ #[3,3] 3 #[t77,t83]) fun t84 =>
 opU Pg (Instr.storeAt 3 t9 t84) Qr8 w fun w =>
 turnK w fun C10 w =>
 n62c3 t2 t6 t76 Kr8 Qr8 R w
def n62c5 (t2 t9:Value) (ds:List Deferred) (R:RT) (w:World):Prop :=
 opV Pg (Instr.loadAt 167 t2) (outQ Pg ds [] R) w fun t113 w =>
 opV Pg (Instr.loadAt 3 t9) (outQ Pg ds [] R) w fun t114 w =>
 opV Pg (binS .lss 3 true t114 (.int .i64 16)) (outQ Pg ds [] R) w fun t115 w =>
 callK Pg 135 #[t113,t115,(.int .i64 10)] (outQ Pg ds [] R) w fun t116 w =>
 outX Pg ds [] R w
def n62c6 (t2 t9 t103 t108 t111:Value) (C12:World→Prop) (ds:List Deferred) (R:RT) (w:World):Prop :=
 qV Pg C12 (Instr.extract t111 1) fun t112 =>
 opU Pg (Instr.entryStore 199 t103 t112 t108) (outQ Pg ds [] R) w fun w =>
 turnK w fun C13 w =>
 n62c5 t2 t9 ds R w
def n62c7 (t2 t9 t97 t103 t105 t107 t108 t109:Value) (C12:World→Prop) (ds:List Deferred) (R:RT) (w:World):Prop :=
 qV Pg C12 (Instr.extract t109 1) fun t110 =>
 opU Pg (Instr.entryStore 198 t97 t110 t107) (outQ Pg ds [] R) w fun w =>
 C12 w∧(
 opV Pg (Instr.mapEntry 199 t103 t105) (outQ Pg ds [] R) w fun t111 w =>
 C12 w∧(
 n62c6 t2 t9 t103 t108 t111 C12 ds R w))
def n62c8 (t2 t3 t6 t9:Value) (C12:World→Prop) (ds:List Deferred) (R:RT) (w:World):Prop :=
 qV Pg C12 (Instr.loadAt 167 t2) fun t94 =>
 qN Pg C12 (nilN t94) fun t95 =>
 qV Pg C12 (Instr.fieldAt 201 t95 1) fun t96 =>
 qV Pg C12 (Instr.loadAt 198 t96) fun t97 =>
 qV Pg C12 (Instr.fieldAt 74 t3 0) fun t98 =>
 qV Pg C12 (Instr.loadAt 9 t98) fun t99 =>
 qV Pg C12 (Instr.loadAt 167 t2) fun t100 =>
 qN Pg C12 (nilN t100) fun t101 =>
 qV Pg C12 (Instr.fieldAt 201 t101 2) fun t102 =>
 qV Pg C12 (Instr.loadAt 199 t102) fun t103 =>
 qV Pg C12 (Instr.fieldAt 74 t3 0) fun t104 =>
 qV Pg C12 (Instr.loadAt 9 t104) fun t105 =>
 qV Pg C12 (Instr.loadAt 3 t9) fun t106 =>
 qV Pg C12 (binS .add 3 true t106 (.int .i64 1)) fun t107 =>
 qV Pg C12 (Instr.loadAt 4 t6) fun t108 =>
 opV Pg (Instr.mapEntry 198 t97 t99) (outQ Pg ds [] R) w fun t109 w =>
 C12 w∧(
 n62c7 t2 t9 t97 t103 t105 t107 t108 t109 C12 ds R w)
def n62c9 (t2 t3 t6 t9 t75:Value) (ds:List Deferred) (R:RT) (w:World):Prop :=
 rangeN Pg t75 ds (fun l8 t76 w Kr8 Xr8 Qr8 =>
 busyK l8 w fun w =>
 drawK w fun C9 w =>
 n62c4 t2 t6 t9 t76 C9 Kr8 Qr8 R w) (fun ch ds w=>outQ Pg ds [] R ch w) w (fun ds w =>
 drawK w fun C12 w =>
 n62c8 t2 t3 t6 t9 C12 ds R w) []
def n62c10 (t2 t3 t6:Value) (ds:List Deferred) (R:RT) (w:World):Prop :=
 opV Pg (Instr.loadAt 167 t2) (outQ Pg ds [] R) w fun t71 w =>
 opN Pg (nilN t71) (outQ Pg ds [] R) w fun t72 w =>
 opV Pg (Instr.fieldAt 201 t72 4) (outQ Pg ds [] R) w fun t73 w =>
 opU Pg (Instr.storeAt 3 t73 (.int .i64 (-1))) (outQ Pg ds [] R) w fun w =>
 opV Pg (Instr.alloc 3 true (.tuple #[])) (outQ Pg ds [] R) w fun t9 w =>
 opU Pg (Instr.storeAt 3 t9 (.int .i64 0)) (outQ Pg ds [] R) w fun w =>
 opV Pg (Instr.loadAt 74 t3) (outQ Pg ds [] R) w fun t74 w =>
 callK Pg 162 #[t74] (outQ Pg ds [] R) w fun t75 w =>
 n62c9 t2 t3 t6 t9 t75 ds R w
def n62c11 (t2 t6 t50 t52:Value) (next6:KV) (ds:List Deferred) (R:RT) (w:World):Prop :=
 opV Pg (Instr.indexAt 72 t50 t52) (outQ Pg ds [] R) w fun t55 w =>
 opV Pg (Instr.loadAt 123 t55) (outQ Pg ds [] R) w fun t56 w =>
 opV Pg (Instr.alloc 123 true (.tuple #[])) (outQ Pg ds [] R) w fun t8 w =>
 opU Pg (Instr.storeAt 123 t8 t56) (outQ Pg ds [] R) w fun w =>
 opV Pg (Instr.loadAt 167 t2) (outQ Pg ds [] R) w fun t57 w =>
 opN Pg (nilN t57) (outQ Pg ds [] R) w fun t59 w =>
 opV Pg (Instr.fieldAt 201 t59 4) (outQ Pg ds [] R) w fun t60 w =>
 opU Pg (Instr.storeAt 3 t60 t52) (outQ Pg ds [] R) w fun w =>
 opV Pg (Instr.loadAt 167 t2) (outQ Pg ds [] R) w fun t61 w =>
 opV Pg (Instr.loadAt 123 t8) (outQ Pg ds [] R) w fun t62 w =>
 callK Pg 161 #[t61,t62] (outQ Pg ds [] R) w fun t63 w =>
 n62c2 t6 t8 t52 next6 ds R w
def n62c12 (t2 t3 t6 t50 t51 t52:Value) (next6:KV) (ds:List Deferred) (R:RT) (w:World):Prop :=
 opV Pg (binS .lss 3 false t52 t51) (outQ Pg ds [] R) w fun t53 w =>
 condP t53 (
 n62c11 t2 t6 t50 t52 next6 ds R w) (
 n62c10 t2 t3 t6 ds R w)
def n62c13 (t2 t3:Value) (ds:List Deferred) (R:RT) (w:World):Prop :=
 opV Pg (Instr.alloc 4 true (.tuple #[])) (outQ Pg ds [] R) w fun t6 w =>
 opU Pg (Instr.storeAt 4 t6 (.bool true)) (outQ Pg ds [] R) w fun w =>
 opV Pg (Instr.fieldAt 74 t3 1) (outQ Pg ds [] R) w fun t49 w =>
 opV Pg (Instr.loadAt 72 t49) (outQ Pg ds [] R) w fun t50 w =>
 opV Pg (Builtin.len_ #[72] 3 #[t50]) (outQ Pg ds [] R) w fun t51 w =>
 loop1 (fun t52 w next6 =>
 n62c12 t2 t3 t6 t50 t51 t52 next6 ds R w) (.int .i64 0) w
def n62c14 (t2 t3:Value) (ds:List Deferred) (R:RT) (w:World):Prop :=
 opV Pg (Instr.loadAt 167 t2) (outQ Pg ds [] R) w fun t37 w =>
 opV Pg (Instr.fieldAt 74 t3 1) (outQ Pg ds [] R) w fun t38 w =>
 opV Pg (Instr.loadAt 72 t38) (outQ Pg ds [] R) w fun t39 w =>
 opV Pg (Builtin.len_ #[72] 3 #[t39]) (outQ Pg ds [] R) w fun t40 w =>
 opV Pg (binS .geq 3 true t40 (.int .i64 1)) (outQ Pg ds [] R) w fun t41 w =>
 joinK (fun (t46:Value) (w:World) =>
 pickK t41 t46 (.bool false) fun t47 =>
 callK Pg 135 #[t37,t47,(.int .i64 3)] (outQ Pg ds [] R) w fun t48 w =>
 n62c13 t2 t3 ds R w) fun K5 =>
 guardP t41 true (
 opV Pg (Instr.fieldAt 74 t3 1) (outQ Pg ds [] R) w fun t43 w =>
 opV Pg (Instr.loadAt 72 t43) (outQ Pg ds [] R) w fun t44 w =>
 opV Pg (Builtin.len_ #[72] 3 #[t44]) (outQ Pg ds [] R) w fun t45 w =>
 opV Pg (binS .leq 3 true t45 (.int .i64 40)) (outQ Pg ds [] R) w fun t46 w =>
 K5 t46 w) (
 K5 undef w)
def n62c15 (t2 t3:Value) (C4:World→Prop) (ds:List Deferred) (R:RT) (w:World):Prop :=
 qV Pg C4 (Instr.loadAt 167 t2) fun t24 =>
 qN Pg C4 (nilN t24) fun t25 =>
 qV Pg C4 (Instr.fieldAt 201 t25 1) fun t26 =>
 qV Pg C4 (Instr.loadAt 198 t26) fun t27 =>
 qV Pg C4 (Instr.fieldAt 74 t3 0) fun t28 =>
 qV Pg C4 (Instr.loadAt 9 t28) fun t29 =>
 qV Pg C4 (Instr.lookup 198 t27 t29 true) fun t30 =>
 qV Pg C4 (Instr.extract t30 0) fun t31 =>
 qV Pg C4 (Instr.extract t30 1) fun t32 =>
 opV Pg (Instr.loadAt 167 t2) (outQ Pg ds [] R) w fun t33 w =>
 opV Pg (Op.unary .not t32) (outQ Pg ds [] R) w fun t35 w =>
 callK Pg 135 #[t33,t35,(.int .i64 2)] (outQ Pg ds [] R) w fun t36 w =>
 n62c14 t2 t3 ds R w
def n62c16 (t2 t3:Value) (C3:World→Prop) (ds:List Deferred) (R:RT) (w:World):Prop :=
 qV Pg C3 (Instr.loadAt 167 t2) fun t18 =>
 qV Pg C3 (Instr.fieldAt 74 t3 0) fun t19 =>
 qV Pg C3 (Instr.loadAt 9 t19) fun t20 =>
 callK Pg 35 #[t20] (outQ Pg ds [] R) w fun t21 w =>
 C3 w∧(
 callK Pg 135 #[t18,t21,(.int .i64 1)] (outQ Pg ds [] R) w fun t22 w =>
 C3 w∧(
 drawK w fun C4 w =>
 n62c15 t2 t3 C4 ds R w))
def n62c17 (t2 t3 t12:Value) (C1:World→Prop) (ds:List Deferred) (R:RT) (w:World):Prop :=
 qN Pg C1 (nilN t12) fun t16 =>
 qV Pg C1 (Instr.fieldAt 201 t16 4) fun t17 =>
 opU Pg (Instr.storeAt 3 t17 (.int .i64 (-1))) (outQ Pg ds [] R) w fun w =>
 turnK w fun C2 w =>
 drawK w fun C3 w =>
 n62c16 t2 t3 C3 ds R w
def n62c18 (t2 t3:Value) (C1:World→Prop) (ds:List Deferred) (R:RT) (w:World):Prop :=
 qV Pg C1 (Instr.loadAt 167 t2) fun t11 =>
 qV Pg C1 (Instr.loadAt 167 t2) fun t12 =>
 qV Pg C1 (Instr.loadAt 74 t3) fun t13 =>
 qN Pg C1 (nilN t11) fun t14 =>
 qV Pg C1 (Instr.fieldAt 201 t14 5) fun t15 =>
 opU Pg (Instr.storeAt 74 t15 t13) (outQ Pg ds [] R) w fun w =>
 C1 w∧(
 n62c17 t2 t3 t12 C1 ds R w)
def n62 (t0 t1:Value) (R:RT) (w:World):Prop :=
 (fun (ds:List Deferred) =>
 opV Pg (Instr.box 167 t0) (outQ Pg ds [] R) w fun t2 w =>
 opV Pg (Instr.box 74 t1) (outQ Pg ds [] R) w fun t3 w =>
 drawK w fun C1 w =>
 n62c18 t2 t3 C1 ds R w) []
theorem n62s {t0 t1:Value} {R:RT} {w:World} (h:n62 t0 t1 R w):Calls Pg 136 #[t0,t1] w R:=by
 refine yE Tryz.func136 ?_
 unfold n62 at h
 dsimp only at h
 refine zs<|zr<|yv h fun _ w h=>yv h fun _ w h=>zn<|zk<|zs<|yh [11,12,13,14,15,16,17] h fun C hC h=>ye 0 hC h fun _ h=>?_
 refine ye 1 hC h fun _ h=>?_
 refine ye 2 hC h fun _ h=>?_
 refine yn 3 hC h fun _ h=>?_
 refine ye 4 hC h fun _ h=>?_
 refine yo 5 ?_
 refine yu h fun w h=>zn ?_
 obtain ⟨hC,h⟩:=h
 refine ⟨hC,?_⟩
 refine yn 6 hC h fun _ h=>?_
 refine ye 7 hC h fun _ h=>?_
 refine yq 8 2 ?_
 refine yu h fun w h=>zn ?_
 obtain ⟨C2,hC,h⟩:=h
 refine ⟨C2,hC,?_⟩
 refine yz<|zk<|zs<|yh [18,19,20,21,22] h fun C hC h=>ye 0 hC h fun _ h=>?_
 refine ye 1 hC h fun _ h=>?_
 refine ye 2 hC h fun _ h=>?_
 refine yo 3 ?_
 refine yc h c35 fun _ w h=>zn ?_
 obtain ⟨hC,h⟩:=h
 refine ⟨hC,?_⟩
 refine yo 4 ?_
 refine yc h c135 fun _ w h=>zn ?_
 obtain ⟨hC,h⟩:=h
 refine ⟨hC,?_⟩
 refine yz<|zk<|zs<|yh [4,5,23,24,25,26,27,28,29,30,31,32] h fun C hC h=>ye 0 hC h fun _ h=>?_
 refine yn 1 hC h fun _ h=>?_
 refine ye 2 hC h fun _ h=>?_
 refine ye 3 hC h fun _ h=>?_
 refine ye 4 hC h fun _ h=>?_
 refine ye 5 hC h fun _ h=>?_
 refine ye 6 hC h fun _ h=>?_
 refine yw 7 hC ?_
 refine ye 8 hC h fun _ h=>?_
 refine ye 9 hC h fun _ h=>?_
 refine yw 10 hC ?_
 refine yw 11 hC ?_
 refine yz<|zk<|zs<|zr<|yv h fun _ w h=>zm<|yv h fun _ w h=>yc h c135 fun _ w h=>zn<|zk<|zs<|sim_regionG<|yG 6<|yv h fun _ w h=>yv h fun _ w h=>?_
 refine yv h fun _ w h=>yx h fun _ w h=>yb h fun _ w h=>zm<|zn<|yg1 4 5 true [43,44,45,46] 46 h (fun _ T hT h=>?_) fun σ w h=>?_
 · refine yv h fun _ w h=>yv h fun _ w h=>yx h fun _ w h=>yb h fun _ w h=>zn ?_
   exact zt hT h
 refine yG 2<|yp h fun _ h=>yc h c135 fun _ w h=>zn<|sim_end<|zk<|zs<|zr<|yv h fun _ w h=>yu h fun w h=>zn<|zk<|zs<|zs<|zr ?_
 refine yv h fun _ w h=>yv h fun _ w h=>yx h fun _ w h=>zm<|zn<|zk<|sim_block<|yl1 [7,8,52,53,54,55,56,57,58,59,60,61,62,63,64,65,66,67,68,69,70] 52 h fun σ w next h=>zs<|zr<|yb h fun _ w h=>zn<|zk<|zs<|yC h (fun h=>?_) fun h=>?_
 · refine sim_skip<|zk<|zs<|sim_block<|zs<|zr<|zm<|yv h fun _ w h=>yv h fun _ w h=>yv h fun _ w h=>zm<|yu h fun w h=>zn<|zk<|zs ?_
   refine zr<|yv h fun _ w h=>zm<|yN h fun _ w h=>yv h fun _ w h=>yu h fun w h=>zn<|zk<|zs<|zr<|yv h fun _ w h=>yv h fun _ w h=>yc h c161 fun _ w h=>zn<|zk ?_
   refine sim_regionG<|yG 2<|yv h fun _ w h=>zm<|zn<|yg1 3 1 true [66,67,68] 68 h (fun _ T hT h=>?_) fun σ w h=>?_
   · refine yv h fun _ w h=>yv h fun _ w h=>yv h fun _ w h=>zn ?_
     exact zt hT h
   exact yG 2<|yp h fun _ h=>yu h fun w h=>zn<|sim_end<|sim_block_normal<|zk<|zr<|yb h fun _ w h=>zm<|zn<|zk<|⟨rfl,h⟩
 refine sim_exit<|sim_then_exit<|sim_then_exit<|sim_block_hit<|zk<|zs<|zr<|yv h fun _ w h=>yN h fun _ w h=>yv h fun _ w h=>yu h fun w h=>zn<|zk<|zs<|zr ?_
 refine yv h fun _ w h=>yu h fun w h=>zn<|zk<|zs<|zs<|zr<|yv h fun _ w h=>yc h c162 fun _ w h=>zn<|zk<|sim_block<|sim_range [] h rfl (fun l8 t76 w Kr8 Xr8 Qr8 h=>?_) (fun ds w h=>?_) (fun c ds w h=>?_) (fun ch ds w h=>outQ_of rfl h)
 · refine zr<|zm<|zn<|zk ?_
   obtain ⟨hr,h⟩:=h
   refine ⟨rfl,hr,fun w hb=>?_⟩
   have h:=h w hb
   refine sim_block<|zs<|yh [77,78,79,80,81,82,83,84] h fun C hC h=>ye 0 hC h fun _ h=>?_
   refine ye 1 hC h fun _ h=>?_
   refine yn 2 hC h fun _ h=>?_
   refine ye 3 hC h fun _ h=>?_
   refine ye 4 hC h fun _ h=>?_
   refine yw 5 hC ?_
   refine ye 6 hC h fun _ h=>?_
   refine ye 7 hC h fun _ h=>?_
   refine yq 8 1 ?_
   refine yu h fun w h=>zn ?_
   obtain ⟨C10,hC,h⟩:=h
   refine ⟨C10,hC,?_⟩
   refine yz<|zk<|sim_regionG<|yG 2<|yv h fun _ w h=>zm<|zn<|yg1 6 1 true [87,88,89,90,91,92] 92 h (fun _ T hT h=>?_) fun σ w h=>?_
   · refine yv h fun _ w h=>yN h fun _ w h=>yv h fun _ w h=>yv h fun _ w h=>zm<|yv h fun _ w h=>zn ?_
     exact zt hT h
   exact yG 2<|yp h fun _ h=>yu h fun w h=>zn<|sim_end<|sim_block_normal<|⟨rfl,h⟩
 · refine sim_block_normal<|zk<|zs<|yh [94,95,96,97,98,99,100,101,102,103,104,105,106,107,108,109,110,111,112] h fun C hC h=>ye 0 hC h fun _ h=>?_
   refine yn 1 hC h fun _ h=>?_
   refine ye 2 hC h fun _ h=>?_
   refine ye 3 hC h fun _ h=>?_
   refine ye 4 hC h fun _ h=>?_
   refine ye 5 hC h fun _ h=>?_
   refine ye 6 hC h fun _ h=>?_
   refine yn 7 hC h fun _ h=>?_
   refine ye 8 hC h fun _ h=>?_
   refine ye 9 hC h fun _ h=>?_
   refine ye 10 hC h fun _ h=>?_
   refine ye 11 hC h fun _ h=>?_
   refine ye 12 hC h fun _ h=>?_
   refine ye 13 hC h fun _ h=>?_
   refine ye 14 hC h fun _ h=>?_
   refine yo 15 ?_
   refine yv h fun _ w h=>zn ?_
   obtain ⟨hC,h⟩:=h
   refine ⟨hC,?_⟩
   refine ye 16 hC h fun _ h=>?_
   refine yo 17 ?_
   refine yu h fun w h=>zn ?_
   obtain ⟨hC,h⟩:=h
   refine ⟨hC,?_⟩
   refine yo 18 ?_
   refine yv h fun _ w h=>zn ?_
   obtain ⟨hC,h⟩:=h
   refine ⟨hC,?_⟩
   refine ye 19 hC h fun _ h=>?_
   refine yq 20 1 ?_
   refine yu h fun w h=>zn ?_
   obtain ⟨C13,hC,h⟩:=h
   refine ⟨C13,hC,?_⟩
   exact yz<|zk<|zr<|yv h fun _ w h=>yv h fun _ w h=>yb h fun _ w h=>yc h c135 fun _ w h=>zn<|bodyM_normal<|bodyM_ret rfl h
 exact h.elim
def n134c1 (t0 t1 t8:Value) (next1:KV) (R:RT) (w:World):Prop :=
 X0 170 t0 t8 R w fun t14 w =>
 L0 4 t14 R w fun t15 w =>
 B0 .eql 4 false t1 t15 R w fun t16 w =>
 condP t16 (
 R (.returned t8) w) (
 B0 .add 3 true t8 (.int .i64 1) R w fun t18 w =>
 next1 t18 w)
def n134 (t0 t1:Value) (R:RT) (w:World):Prop :=
 opV Pg (Builtin.len_ #[170] 3 #[t0]) (panK R) w fun t7 w =>
 loop1 (fun t8 w next1 =>
 B0 .lss 3 false t8 t7 R w fun t9 w =>
 condP t9 (
 n134c1 t0 t1 t8 next1 R w) (
 R (.returned (.int .i64 (-1))) w)) (.int .i64 0) w
theorem n134s {t0 t1:Value} {R:RT} {w:World} (h:n134 t0 t1 R w):Calls Pg 137 #[t0,t1] w R:=by
 refine yD Tryz.func137 ?_
 refine zs<|zr<|zm<|zn<|zk<|zs<|zs<|zr<|zm<|yx h fun _ w h=>zm<|zn<|zk<|sim_block<|yl1 [4,5,8,9,10,11,12,13,14,15,16,17,18] 8 h fun σ w next h=>?_
 refine zs<|zr<|yb h fun _ w h=>zn<|zk<|zs<|yC h (fun h=>?_) fun h=>?_
 · refine sim_skip<|zk<|zs<|sim_block<|zs<|zr<|zm<|zm<|zn<|zk<|zs<|zr<|zm<|zm<|zm ?_
   refine yv h fun _ w h=>yv h fun _ w h=>yb h fun _ w h=>zn<|zk<|yC h (fun h=>zs<|zr<|zm<|zm<|zn<|zk<|sim_ret<|sim_block_ret<|sim_then_ret<|sim_then_ret<|sim_block_ret<|sim_then_ret<|body_ret1 rfl rfl h) fun h=>sim_skip<|sim_block_normal<|zk<|zr<|yb h fun _ w h=>zm<|zn<|zk ?_
   exact ⟨rfl,h⟩
 exact sim_exit<|sim_then_exit<|sim_then_exit<|sim_block_hit<|zk<|zs<|zr<|zm<|zn<|zk<|sim_ret<|body_ret1 rfl rfl h
def n69c1 (t9:Value) (R:RT) (w:World):Prop :=
 opV Pg (Builtin.max_ #[3,3] 3 #[t9,(.int .i64 0)]) (panK R) w fun t11 w =>
 B0 .geq 3 true t9 (.int .i64 0) R w fun t13 w =>
 R (.returned (.tuple #[t11,t13])) w
def n69 (t0 t1:Value) (R:RT) (w:World):Prop :=
 C0 163 #[t0,t1] R w fun t9 w =>
 n69c1 t9 R w
theorem n69s {t0 t1:Value} {R:RT} {w:World} (h:n69 t0 t1 R w):Calls Pg 138 #[t0,t1] w R:=by
 refine yD Tryz.func138 ?_
 refine zs<|zr<|zm<|zm<|zn<|zk<|zs<|zr<|zm<|zm<|yc h c163 fun _ w h=>zm<|zn<|zk<|zs ?_
 exact zr<|zm<|yx h fun _ w h=>zm<|yb h fun _ w h=>zm<|zm<|zn<|zk<|sim_ret<|body_ret2 rfl rfl rfl h
def n50 (t0 t1:Value) (R:RT) (w:World):Prop :=
 opV Pg (Instr.box 74 t0) (panK R) w fun t2 w =>
 F0 74 t2 0 R w fun t4 w =>
 L0 9 t4 R w fun t5 w =>
 L0 9 t1 R w fun t6 w =>
 B0 .eql 9 false t5 t6 R w fun t7 w =>
 R (.returned t7) w
theorem n50s {t0 t1:Value} {R:RT} {w:World} (h:n50 t0 t1 R w):Calls Pg 139 #[t0,t1] w R:=by
 refine yD Tryz.func139 ?_
 refine zs<|zr<|yv h fun _ w h=>zm<|zn<|zk<|zs<|zr<|yv h fun _ w h=>yv h fun _ w h=>yv h fun _ w h=>yb h fun _ w h=>zm<|zn<|zk ?_
 exact sim_ret<|body_ret1 rfl rfl h
def n47 (t0 t1:Value) (R:RT) (w:World):Prop :=
 opV Pg (Instr.box 74 t0) (panK R) w fun t2 w =>
 opV Pg (Instr.box 9 t1) (panK R) w fun t3 w =>
 F0 74 t2 1 R w fun t6 w =>
 L0 72 t6 R w fun t7 w =>
 opV Pg (Instr.makeFunc (.func 165) #[] #[t3]) (panK R) w fun t8 w =>
 C0 164 #[t7,t8] R w fun t9 w =>
 opV Pg (Instr.extract t9 0) (panK R) w fun t10 w =>
 opV Pg (Instr.extract t9 1) (panK R) w fun t11 w =>
 R (.returned (.tuple #[t10,t11])) w
theorem n47s {t0 t1:Value} {R:RT} {w:World} (h:n47 t0 t1 R w):Calls Pg 140 #[t0,t1] w R:=by
 refine yD Tryz.func140 ?_
 refine zs<|zr<|yv h fun _ w h=>yv h fun _ w h=>zm<|zm<|zn<|zk<|zs<|zr<|yv h fun _ w h=>yv h fun _ w h=>yF h fun _ w h=>yc h c164 fun _ w h=>yv h fun _ w h=>?_
 exact yv h fun _ w h=>zm<|zm<|zn<|zk<|sim_ret<|body_ret2 rfl rfl rfl h
def n38 (t0:Value) (R:RT) (w:World):Prop :=
 opV Pg (Instr.box 123 t0) (panK R) w fun t1 w =>
 L0 123 t1 R w fun t3 w =>
 opV Pg (Instr.buildSlice 72 1 #[(0,t3)]) (panK R) w fun t4 w =>
 opV Pg (Instr.build 74 #[(1,t4)]) (panK R) w fun t5 w =>
 C0 162 #[t5] R w fun t6 w =>
 C0 166 #[t6] R w fun t7 w =>
 R (.returned t7) w
theorem n38s {t0:Value} {R:RT} {w:World} (h:n38 t0 R w):Calls Pg 141 #[t0] w R:=by
 refine yD Tryz.func141 ?_
 refine zs<|zr<|yv h fun _ w h=>zm<|zn<|zk<|zs<|zr<|yv h fun _ w h=>yS h fun _ w h=>yB h fun _ w h=>yc h c162 fun _ w h=>yc h c166 fun _ w h=>zm<|zn ?_
 exact zk<|sim_ret<|body_ret1 rfl rfl h
def n123 (t0 t1:Value) (R:RT) (w:World):Prop :=
 C0 167 #[t0,t1] R w fun t7 w =>
 B0 .geq 3 true t7 (.int .i64 0) R w fun t8 w =>
 R (.returned t8) w
theorem n123s {t0 t1:Value} {R:RT} {w:World} (h:n123 t0 t1 R w):Calls Pg 142 #[t0,t1] w R:=by
 refine yD Tryz.func142 ?_
 refine zs<|zr<|zm<|zn<|zk<|zs<|zr<|zm<|zm<|yc h c167 fun _ w h=>yb h fun _ w h=>zm<|zn<|zk<|sim_ret ?_
 exact body_ret1 rfl rfl h
def n79 (t0:Value) (R:RT) (w:World):Prop :=
 opN Pg (nilN t0) (panK R) w fun t3 w =>
 F0 123 t3 2 R w fun t4 w =>
 opU Pg (Instr.storeAt 3 t4 (.int .i64 0)) (panK R) w fun w =>
 R (.returned (.tuple #[])) w
theorem n79s {t0:Value} {R:RT} {w:World} (h:n79 t0 R w):Calls Pg 233 #[t0] w R:=by
 refine yD Tryz.func233 ?_
 exact zr<|zm<|yN h fun _ w h=>yv h fun _ w h=>yu h fun w h=>zn<|body_normal<|body_ret0 rfl h
def n80c1 (t0 t12 t22 t26:Value) (R:RT) (w:World):Prop :=
 joinK (fun (t27:Value) (w:World) =>
 pickK t12 (.bool true) t27 fun t28 =>
 C0 135 #[t0,t28,(.int .i64 6)] R w fun t29 w =>
 R (.returned (.tuple #[])) w) fun K6 =>
 guardP t12 false (
 pickK t22 t26 (.bool false) fun t27 =>
 K6 t27 w) (
 K6 undef w)
def n80c2 (t0 t3 t12 t22:Value) (R:RT) (w:World):Prop :=
 joinK (fun (t26:Value) (w:World) =>
 n80c1 t0 t12 t22 t26 R w) fun K5 =>
 guardP t22 true (
 F0 123 t3 2 R w fun t23 w =>
 L0 3 t23 R w fun t24 w =>
 B0 .rem 3 true t24 (.int .i64 8) R w fun t25 w =>
 B0 .eql 3 true t25 (.int .i64 0) R w fun t26 w =>
 K5 t26 w) (
 K5 undef w)
def n80c3 (t0 t3 t12 t17:Value) (R:RT) (w:World):Prop :=
 joinK (fun (t20:Value) (w:World) =>
 joinK (fun (t22:Value) (w:World) =>
 n80c2 t0 t3 t12 t22 R w) fun K4 =>
 guardP t12 false (
 pickK t17 t20 (.bool false) fun t21 =>
 K4 t21 w) (
 K4 undef w)) fun K3 =>
 guardP t17 true (
 F0 123 t3 2 R w fun t18 w =>
 L0 3 t18 R w fun t19 w =>
 B0 .leq 3 true t19 (.int .i64 512) R w fun t20 w =>
 K3 t20 w) (
 K3 undef w)
def n80c4 (t0 t3 t7 t11:Value) (R:RT) (w:World):Prop :=
 pickK t7 (.bool true) t11 fun t12 =>
 joinK (fun (t17:Value) (w:World) =>
 n80c3 t0 t3 t12 t17 R w) fun K2 =>
 guardP t12 false (
 F0 123 t3 2 R w fun t14 w =>
 L0 3 t14 R w fun t15 w =>
 B0 .geq 3 true t15 (.int .i64 8) R w fun t16 w =>
 K2 t16 w) (
 K2 undef w)
def n80 (t0 t1:Value) (R:RT) (w:World):Prop :=
 opV Pg (Instr.box 123 t1) (panK R) w fun t3 w =>
 F0 123 t3 2 R w fun t5 w =>
 L0 3 t5 R w fun t6 w =>
 B0 .eql 3 true t6 (.int .i64 2) R w fun t7 w =>
 joinK (fun (t11:Value) (w:World) =>
 n80c4 t0 t3 t7 t11 R w) fun K1 =>
 guardP t7 false (
 F0 123 t3 2 R w fun t9 w =>
 L0 3 t9 R w fun t10 w =>
 B0 .eql 3 true t10 (.int .i64 4) R w fun t11 w =>
 K1 t11 w) (
 K1 undef w)
theorem n80s {t0 t1:Value} {R:RT} {w:World} (h:n80 t0 t1 R w):Calls Pg 234 #[t0,t1] w R:=by
 refine yD Tryz.func234 ?_
 refine zs<|zr<|yv h fun _ w h=>zn<|zk<|sim_regionG<|yG 5<|zm<|yv h fun _ w h=>yv h fun _ w h=>yb h fun _ w h=>zm<|zn<|yg1 3 4 false [9,10,11] 11 h (fun _ T hT h=>?_) fun σ w h=>?_
 · refine yv h fun _ w h=>yv h fun _ w h=>yb h fun _ w h=>zn ?_
   exact zt hT h
 refine yG 2<|yp h fun _ h=>zm<|zn<|yg1 4 9 false [14,15,16,17] 17 h (fun _ T hT h=>?_) fun σ w h=>?_
 · refine yv h fun _ w h=>yv h fun _ w h=>yb h fun _ w h=>zm<|zn ?_
   exact zt hT h
 refine yg1 3 13 true [18,19,20] 20 h (fun _ T hT h=>?_) fun σ w h=>?_
 · refine yv h fun _ w h=>yv h fun _ w h=>yb h fun _ w h=>zn ?_
   exact zt hT h
 refine yg1 2 9 false [21,22] 22 h (fun _ T hT h=>?_) fun σ w h=>?_
 · refine yp h fun _ h=>zm<|zn ?_
   exact zt hT h
 refine yg1 4 18 true [23,24,25,26] 26 h (fun _ T hT h=>?_) fun σ w h=>?_
 · refine yv h fun _ w h=>yv h fun _ w h=>yb h fun _ w h=>yb h fun _ w h=>zn ?_
   exact zt hT h
 refine yg1 1 9 false [27] 27 h (fun _ T hT h=>?_) fun σ w h=>?_
 · refine yp h fun _ h=>zn ?_
   exact zt hT h
 exact yG 2<|yp h fun _ h=>yc h c135 fun _ w h=>zn<|sim_end<|body_normal<|body_ret0 rfl h
def n81 (t0:Value) (R:RT) (w:World):Prop :=
 opN Pg (nilN t0) (panK R) w fun t4 w =>
 F0 123 t4 10 R w fun t5 w =>
 opU Pg (Instr.storeAt 9 t5 (.string { data := #[] })) (panK R) w fun w =>
 opN Pg (nilN t0) (panK R) w fun t6 w =>
 F0 123 t6 12 R w fun t7 w =>
 opU Pg (Instr.storeAt 3 t7 (.int .i64 0)) (panK R) w fun w =>
 R (.returned (.tuple #[])) w
theorem n81s {t0:Value} {R:RT} {w:World} (h:n81 t0 R w):Calls Pg 235 #[t0] w R:=by
 refine yD Tryz.func235 ?_
 exact zr<|zm<|zm<|yN h fun _ w h=>yv h fun _ w h=>yu h fun w h=>yN h fun _ w h=>yv h fun _ w h=>yu h fun w h=>zn<|body_normal<|body_ret0 rfl h
def n83c1 (t0 t17:Value) (C1:World→Prop) (R:RT) (w:World):Prop :=
 qV Pg C1 (Instr.extract t17 0) fun t18 =>
 qV Pg C1 (Instr.extract t17 1) fun t19 =>
 C0 135 #[t0,t19,(.int .i64 8)] R w fun t22 w =>
 R (.returned (.tuple #[])) w
def n83c2 (t0 t3:Value) (C1:World→Prop) (R:RT) (w:World):Prop :=
 qV Pg C1 (Instr.fieldAt 123 t3 10) fun t15 =>
 qV Pg C1 (Instr.loadAt 9 t15) fun t16 =>
 C0 195 #[t0] R w fun t13 w =>
 C1 w∧(
 qV Pg C1 (Instr.build 74 #[(1,t13)]) fun t14 =>
 C0 140 #[t14,t16] R w fun t17 w =>
 C1 w∧(
 n83c1 t0 t17 C1 R w))
def n83 (t0 t1:Value) (R:RT) (w:World):Prop :=
 opV Pg (Instr.box 123 t1) (panK R) w fun t3 w =>
 F0 123 t3 12 R w fun t7 w =>
 L0 3 t7 R w fun t8 w =>
 opV Pg (Instr.buildSlice 61 1 #[(0,t8)]) (panK R) w fun t9 w =>
 C0 215 #[t0,(.int .i64 1),(.int .i64 3),t9] R w fun t10 w =>
 drawK w fun C1 w =>
 n83c2 t0 t3 C1 R w
theorem n83s {t0 t1:Value} {R:RT} {w:World} (h:n83 t0 t1 R w):Calls Pg 236 #[t0,t1] w R:=by
 refine yD Tryz.func236 ?_
 refine zs<|zr<|yv h fun _ w h=>zn<|zk<|zs<|zr<|zm<|yv h fun _ w h=>yv h fun _ w h=>yS h fun _ w h=>yc h c215 fun _ w h=>zn<|zk<|zs ?_
 refine yh [4,5,11,12,13,14,15,16,17,18,19] h fun C hC h=>yw 0 hC ?_
 refine ye 3 hC h fun _ h=>?_
 refine ye 4 hC h fun _ h=>?_
 refine yo 1 ?_
 refine yc h c195 fun _ w h=>zn ?_
 obtain ⟨hC,h⟩:=h
 refine ⟨hC,?_⟩
 refine ye 2 hC h fun _ h=>?_
 refine yo 5 ?_
 refine yc h c140 fun _ w h=>zn ?_
 obtain ⟨hC,h⟩:=h
 refine ⟨hC,?_⟩
 refine yw 6 hC ?_
 refine ye 7 hC h fun _ h=>?_
 refine ye 8 hC h fun _ h=>?_
 refine yw 9 hC ?_
 refine yw 10 hC ?_
 exact yz<|zk<|zr<|zm<|zm<|yc h c135 fun _ w h=>zn<|body_normal<|body_ret0 rfl h
def n84 (t0:Value) (R:RT) (w:World):Prop :=
 opV Pg (Instr.build 120 #[]) (panK R) w fun t5 w =>
 opN Pg (nilN t0) (panK R) w fun t6 w =>
 F0 123 t6 8 R w fun t7 w =>
 opU Pg (Instr.storeAt 9 t7 (.string { data := #[] })) (panK R) w fun w =>
 opN Pg (nilN t0) (panK R) w fun t8 w =>
 F0 123 t8 7 R w fun t9 w =>
 opU Pg (Instr.storeAt 120 t9 t5) (panK R) w fun w =>
 opN Pg (nilN t0) (panK R) w fun t10 w =>
 F0 123 t10 13 R w fun t11 w =>
 opU Pg (Instr.storeAt 3 t11 (.int .i64 0)) (panK R) w fun w =>
 R (.returned (.tuple #[])) w
theorem n84s {t0:Value} {R:RT} {w:World} (h:n84 t0 R w):Calls Pg 237 #[t0] w R:=by
 refine yD Tryz.func237 ?_
 refine zr<|zm<|zm<|zm<|yB h fun _ w h=>yN h fun _ w h=>yv h fun _ w h=>yu h fun w h=>yN h fun _ w h=>yv h fun _ w h=>yu h fun w h=>yN h fun _ w h=>yv h fun _ w h=>yu h fun w h=>zn ?_
 exact body_normal<|body_ret0 rfl h
def n85c1 (t0 t3:Value) (C1:World→Prop) (R:RT) (w:World):Prop :=
 qN Pg C1 (nilN t0) fun t11 =>
 qV Pg C1 (Instr.fieldAt 201 t11 2) fun t12 =>
 qV Pg C1 (Instr.loadAt 199 t12) fun t13 =>
 qV Pg C1 (Instr.fieldAt 123 t3 8) fun t14 =>
 qV Pg C1 (Instr.loadAt 9 t14) fun t15 =>
 qV Pg C1 (Instr.lookup 199 t13 t15 false) fun t16 =>
 C0 135 #[t0,t16,(.int .i64 8)] R w fun t17 w =>
 C1 w∧(
 L0 123 t3 R w fun t19 w =>
 C0 221 #[t0,t19] R w fun t20 w =>
 R (.returned (.tuple #[])) w)
def n85 (t0 t1:Value) (R:RT) (w:World):Prop :=
 opV Pg (Instr.box 123 t1) (panK R) w fun t3 w =>
 F0 123 t3 13 R w fun t5 w =>
 L0 3 t5 R w fun t6 w =>
 opV Pg (Instr.buildSlice 61 1 #[(0,t6)]) (panK R) w fun t7 w =>
 C0 215 #[t0,(.int .i64 0),(.int .i64 4294967295),t7] R w fun t8 w =>
 drawK w fun C1 w =>
 n85c1 t0 t3 C1 R w
theorem n85s {t0 t1:Value} {R:RT} {w:World} (h:n85 t0 t1 R w):Calls Pg 238 #[t0,t1] w R:=by
 refine yD Tryz.func238 ?_
 refine zs<|zr<|yv h fun _ w h=>zn<|zk<|zs<|zr<|zm<|yv h fun _ w h=>yv h fun _ w h=>yS h fun _ w h=>yc h c215 fun _ w h=>zn<|zk<|zs ?_
 refine yh [9,10,11,12,13,14,15,16,17] h fun C hC h=>yw 0 hC ?_
 refine yw 1 hC ?_
 refine yn 2 hC h fun _ h=>?_
 refine ye 3 hC h fun _ h=>?_
 refine ye 4 hC h fun _ h=>?_
 refine ye 5 hC h fun _ h=>?_
 refine ye 6 hC h fun _ h=>?_
 refine ye 7 hC h fun _ h=>?_
 refine yo 8 ?_
 refine yc h c135 fun _ w h=>zn ?_
 obtain ⟨hC,h⟩:=h
 refine ⟨hC,?_⟩
 exact yz<|zk<|zr<|zm<|yv h fun _ w h=>yc h c221 fun _ w h=>zn<|body_normal<|body_ret0 rfl h
def n93 (t0:Value) (R:RT) (w:World):Prop :=
 opV Pg (Instr.box 123 t0) (panK R) w fun t1 w =>
 opV Pg (Instr.alloc 287 true (.tuple #[])) (panK R) w fun t2 w =>
 F0 123 t1 0 R w fun t3 w =>
 L0 9 t3 R w fun t4 w =>
 F0 123 t1 8 R w fun t5 w =>
 L0 9 t5 R w fun t6 w =>
 F0 123 t1 9 R w fun t7 w =>
 L0 9 t7 R w fun t8 w =>
 F0 123 t1 10 R w fun t9 w =>
 L0 9 t9 R w fun t10 w =>
 F0 123 t1 1 R w fun t11 w =>
 L0 117 t11 R w fun t12 w =>
 F0 123 t1 2 R w fun t13 w =>
 L0 3 t13 R w fun t14 w =>
 F0 123 t1 5 R w fun t15 w =>
 L0 3 t15 R w fun t16 w =>
 F0 123 t1 6 R w fun t17 w =>
 L0 3 t17 R w fun t18 w =>
 F0 123 t1 7 R w fun t19 w =>
 F0 120 t19 0 R w fun t20 w =>
 L0 3 t20 R w fun t21 w =>
 F0 123 t1 12 R w fun t22 w =>
 L0 3 t22 R w fun t23 w =>
 F0 123 t1 13 R w fun t24 w =>
 L0 3 t24 R w fun t25 w =>
 F0 123 t1 3 R w fun t26 w =>
 L0 4 t26 R w fun t27 w =>
 F0 123 t1 4 R w fun t28 w =>
 L0 4 t28 R w fun t29 w =>
 opV Pg (Instr.build 287 #[(0,t4),(1,t6),(2,t8),(3,t10),(4,t12),(5,t14),(6,t16),(7,t18),(8,t21),(9,t23),(10,t25),(11,t27),(12,t29)]) (panK R) w fun t30 w =>
 opU Pg (Instr.storeAt 287 t2 t30) (panK R) w fun w =>
 qW Pg 287 t2 w fun r0 =>
 R (.returned r0) w
theorem n93s {t0:Value} {R:RT} {w:World} (h:n93 t0 R w):Calls Pg 239 #[t0] w R:=by
 refine yD Tryz.func239 ?_
 refine zs<|zr<|yv h fun _ w h=>yv h fun _ w h=>zn<|zk<|zs<|zr<|yv h fun _ w h=>yv h fun _ w h=>yv h fun _ w h=>yv h fun _ w h=>yv h fun _ w h=>yv h fun _ w h=>yv h fun _ w h=>?_
 refine yv h fun _ w h=>yv h fun _ w h=>yv h fun _ w h=>yv h fun _ w h=>yv h fun _ w h=>yv h fun _ w h=>yv h fun _ w h=>yv h fun _ w h=>yv h fun _ w h=>yv h fun _ w h=>yv h fun _ w h=>yv h fun _ w h=>yv h fun _ w h=>yv h fun _ w h=>yv h fun _ w h=>?_
 exact yv h fun _ w h=>yv h fun _ w h=>yv h fun _ w h=>yv h fun _ w h=>yv h fun _ w h=>yB h fun _ w h=>yu h fun w h=>zn<|zk<|sim_ret<|body_retC rfl rfl h
def n125c1 (t0 t1 t13:Value) (C2:World→Prop) (next1:KV) (R:RT) (w:World):Prop :=
 qV Pg C2 (Instr.indexAt 118 t0 t13) fun t18 =>
 qV Pg C2 (Instr.loadAt 128 t18) fun t19 =>
 qV Pg C2 (Instr.indexAt 118 t1 t13) fun t22 =>
 qV Pg C2 (Instr.loadAt 128 t22) fun t23 =>
 qV Pg C2 (binS .neq 128 false t19 t23) fun t24 =>
 condP t24 (
 R (.returned (.bool false)) w) (
 B0 .add 3 true t13 (.int .i64 1) R w fun t25 w =>
 next1 t25 w)
def n125c2 (t0 t1:Value) (R:RT) (w:World):Prop :=
 opV Pg (Builtin.len_ #[118] 3 #[t0]) (panK R) w fun t12 w =>
 loop1 (fun t13 w next1 =>
 B0 .lss 3 false t13 t12 R w fun t14 w =>
 condP t14 (
 drawK w fun C2 w =>
 n125c1 t0 t1 t13 C2 next1 R w) (
 R (.returned (.bool true)) w)) (.int .i64 0) w
def n125 (t0 t1:Value) (R:RT) (w:World):Prop :=
 opV Pg (Builtin.len_ #[118] 3 #[t0]) (panK R) w fun t7 w =>
 opV Pg (Builtin.len_ #[118] 3 #[t1]) (panK R) w fun t9 w =>
 B0 .neq 3 false t7 t9 R w fun t10 w =>
 condP t10 (
 R (.returned (.bool false)) w) (
 n125c2 t0 t1 R w)
theorem n125s {t0 t1:Value} {R:RT} {w:World} (h:n125 t0 t1 R w):Calls Pg 240 #[t0,t1] w R:=by
 refine yD Tryz.func240 ?_
 refine zs<|zr<|zm<|zn<|zk<|zs<|zs<|zr<|zm<|yx h fun _ w h=>zm<|yx h fun _ w h=>yb h fun _ w h=>zn<|zk ?_
 refine yC h (fun h=>zs<|zr<|zm<|zn<|zk<|sim_ret<|sim_then_ret<|body_ret1 rfl rfl h) fun h=>sim_skip<|zk<|zs<|zs<|zr<|zm<|yx h fun _ w h=>zm<|zn<|zk<|sim_block<|yl1 [4,5,13,14,15,16,17,18,19,20,21,22,23,24,25] 13 h fun σ w next h=>zs ?_
 refine zr<|yb h fun _ w h=>zn<|zk<|zs<|yC h (fun h=>?_) fun h=>?_
 · refine sim_skip<|zk<|zs<|sim_block<|zs<|zr<|zm<|zm<|zn<|zk<|zs<|yh [16,17,18,19,20,21,22,23,24] h fun C hC h=>yw 0 hC ?_
   refine yw 1 hC ?_
   refine ye 2 hC h fun _ h=>?_
   refine ye 3 hC h fun _ h=>?_
   refine yw 4 hC ?_
   refine yw 5 hC ?_
   refine ye 6 hC h fun _ h=>?_
   refine ye 7 hC h fun _ h=>?_
   refine ye 8 hC h fun _ h=>?_
   exact yz<|zk<|yC h (fun h=>zs<|zr<|zm<|zn<|zk<|sim_ret<|sim_block_ret<|sim_then_ret<|sim_then_ret<|sim_block_ret<|sim_then_ret<|body_ret1 rfl rfl h) fun h=>sim_skip<|sim_block_normal<|zk<|zr<|yb h fun _ w h=>zm<|zn<|zk<|⟨rfl,h⟩
 exact sim_exit<|sim_then_exit<|sim_then_exit<|sim_block_hit<|zk<|zs<|zr<|zm<|zn<|zk<|sim_ret<|body_ret1 rfl rfl h
def n124c1 (t0 t1 t13:Value) (C2:World→Prop) (next1:KV) (R:RT) (w:World):Prop :=
 qV Pg C2 (Instr.indexAt 121 t0 t13) fun t18 =>
 qV Pg C2 (Instr.loadAt 213 t18) fun t19 =>
 qV Pg C2 (Instr.indexAt 121 t1 t13) fun t22 =>
 qV Pg C2 (Instr.loadAt 213 t22) fun t23 =>
 qV Pg C2 (binS .neq 213 false t19 t23) fun t24 =>
 condP t24 (
 R (.returned (.bool false)) w) (
 B0 .add 3 true t13 (.int .i64 1) R w fun t25 w =>
 next1 t25 w)
def n124c2 (t0 t1:Value) (R:RT) (w:World):Prop :=
 opV Pg (Builtin.len_ #[121] 3 #[t0]) (panK R) w fun t12 w =>
 loop1 (fun t13 w next1 =>
 B0 .lss 3 false t13 t12 R w fun t14 w =>
 condP t14 (
 drawK w fun C2 w =>
 n124c1 t0 t1 t13 C2 next1 R w) (
 R (.returned (.bool true)) w)) (.int .i64 0) w
def n124 (t0 t1:Value) (R:RT) (w:World):Prop :=
 opV Pg (Builtin.len_ #[121] 3 #[t0]) (panK R) w fun t7 w =>
 opV Pg (Builtin.len_ #[121] 3 #[t1]) (panK R) w fun t9 w =>
 B0 .neq 3 false t7 t9 R w fun t10 w =>
 condP t10 (
 R (.returned (.bool false)) w) (
 n124c2 t0 t1 R w)
theorem n124s {t0 t1:Value} {R:RT} {w:World} (h:n124 t0 t1 R w):Calls Pg 241 #[t0,t1] w R:=by
 refine yD Tryz.func241 ?_
 refine zs<|zr<|zm<|zn<|zk<|zs<|zs<|zr<|zm<|yx h fun _ w h=>zm<|yx h fun _ w h=>yb h fun _ w h=>zn<|zk ?_
 refine yC h (fun h=>zs<|zr<|zm<|zn<|zk<|sim_ret<|sim_then_ret<|body_ret1 rfl rfl h) fun h=>sim_skip<|zk<|zs<|zs<|zr<|zm<|yx h fun _ w h=>zm<|zn<|zk<|sim_block<|yl1 [4,5,13,14,15,16,17,18,19,20,21,22,23,24,25] 13 h fun σ w next h=>zs ?_
 refine zr<|yb h fun _ w h=>zn<|zk<|zs<|yC h (fun h=>?_) fun h=>?_
 · refine sim_skip<|zk<|zs<|sim_block<|zs<|zr<|zm<|zm<|zn<|zk<|zs<|yh [16,17,18,19,20,21,22,23,24] h fun C hC h=>yw 0 hC ?_
   refine yw 1 hC ?_
   refine ye 2 hC h fun _ h=>?_
   refine ye 3 hC h fun _ h=>?_
   refine yw 4 hC ?_
   refine yw 5 hC ?_
   refine ye 6 hC h fun _ h=>?_
   refine ye 7 hC h fun _ h=>?_
   refine ye 8 hC h fun _ h=>?_
   exact yz<|zk<|yC h (fun h=>zs<|zr<|zm<|zn<|zk<|sim_ret<|sim_block_ret<|sim_then_ret<|sim_then_ret<|sim_block_ret<|sim_then_ret<|body_ret1 rfl rfl h) fun h=>sim_skip<|sim_block_normal<|zk<|zr<|yb h fun _ w h=>zm<|zn<|zk<|⟨rfl,h⟩
 exact sim_exit<|sim_then_exit<|sim_then_exit<|sim_block_hit<|zk<|zs<|zr<|zm<|zn<|zk<|sim_ret<|body_ret1 rfl rfl h
def n105c1 (t1 t6 t15:Value) (C1:World→Prop) (R:RT) (w:World):Prop :=
 joinK (fun (t21:Value) (w:World) =>
 pickK t15 t21 (.bool false) fun t22 =>
 R (.returned t22) w) fun K2 =>
 guardP t15 true (
 qV Pg C1 (Instr.fieldAt 120 t1 1) fun t17 =>
 qV Pg C1 (Instr.loadAt 118 t17) fun t18 =>
 C0 254 #[t18,t6] R w fun t20 w =>
 C1 w∧(
 qV Pg C1 (Op.unary .not t20) fun t21 =>
 K2 t21 w)) (
 K2 undef w)
def n105c2 (t1 t6 t9 t13:Value) (C1:World→Prop) (R:RT) (w:World):Prop :=
 C1 w∧(
 opV Pg (Instr.buildSlice 170 2 #[(0,t9),(1,t13)]) (panK R) w fun t14 w =>
 C1 w∧(
 C0 74 #[t14] R w fun t15 w =>
 C1 w∧(
 n105c1 t1 t6 t15 C1 R w)))
def n105c3 (t1 t6:Value) (C1:World→Prop) (R:RT) (w:World):Prop :=
 qV Pg C1 (Instr.fieldAt 120 t1 0) fun t7 =>
 qV Pg C1 (Instr.loadAt 3 t7) fun t8 =>
 qV Pg C1 (Instr.fieldAt 120 t1 1) fun t10 =>
 qV Pg C1 (Instr.loadAt 118 t10) fun t11 =>
 qV Pg C1 (Builtin.len_ #[118] 3 #[t11]) fun t12 =>
 qV Pg C1 (binS .leq 3 true t12 (.int .i64 4)) fun t13 =>
 C0 253 #[t8] R w fun t9 w =>
 n105c2 t1 t6 t9 t13 C1 R w
def n105 (t0:Value) (R:RT) (w:World):Prop :=
 opV Pg (Instr.box 120 t0) (panK R) w fun t1 w =>
 opV Pg (Instr.makeMap 199 none) (panK R) w fun t5 w =>
 opV Pg (Instr.alloc 199 true (.tuple #[])) (panK R) w fun t3 w =>
 opU Pg (Instr.storeAt 199 t3 t5) (panK R) w fun w =>
 opV Pg (Instr.makeFunc (.func 252) #[] #[t3]) (panK R) w fun t6 w =>
 drawK w fun C1 w =>
 n105c3 t1 t6 C1 R w
theorem n105s {t0:Value} {R:RT} {w:World} (h:n105 t0 R w):Calls Pg 246 #[t0] w R:=by
 refine yD Tryz.func246 ?_
 refine zs<|zr<|yv h fun _ w h=>zm<|zn<|zk<|zs<|zr<|yv h fun _ w h=>yv h fun _ w h=>yu h fun w h=>zn<|zk<|zs<|zr ?_
 refine yF h fun _ w h=>zm<|zn<|zk<|zs<|yh [2,7,8,9,10,11,12,13,14,15,16,17,18,19,20,21,22] h fun C hC h=>ye 0 hC h fun _ h=>?_
 refine ye 1 hC h fun _ h=>?_
 refine ye 3 hC h fun _ h=>?_
 refine ye 4 hC h fun _ h=>?_
 refine ye 5 hC h fun _ h=>?_
 refine ye 6 hC h fun _ h=>?_
 refine yo 2 ?_
 refine yc h c253 fun _ w h=>zn ?_
 obtain ⟨hC,h⟩:=h
 refine ⟨hC,?_⟩
 refine yo 7 ?_
 refine yS h fun _ w h=>zn ?_
 obtain ⟨hC,h⟩:=h
 refine ⟨hC,?_⟩
 refine yo 8 ?_
 refine yc h c74 fun _ w h=>zn ?_
 obtain ⟨hC,h⟩:=h
 refine ⟨hC,?_⟩
 refine yw 9 hC ?_
 refine yj1 2 [14,13,12,11,10,9,8,7,2,6,5,4,3,1,0] [17,18,19,20,21] 21 h (fun _ hT hb h=>?_) (fun _ hT hb h=>?_) fun σ w hC h=>?_
 · refine ye 10 hC h fun _ h=>?_
   refine ye 11 hC h fun _ h=>?_
   refine yw 12 hC ?_
   refine yo 13 ?_
   refine yc h c254 fun _ w h=>zn ?_
   obtain ⟨hC,h⟩:=h
   refine ⟨hC,?_⟩
   refine ye 14 hC h fun _ h=>?_
   exact yt hT hC h
 · refine yi 10 hC ?_
   refine yi 11 hC ?_
   refine yi 12 hC ?_
   refine yi 13 hC ?_
   refine yi 14 hC ?_
   exact yt hT hC h
 refine yP 15 hC h fun _ h=>?_
 refine yw 16 hC ?_
 exact yz<|zk<|sim_ret<|body_ret1 rfl rfl h
def n94c1 (t5 t6 t8:Value) (K2:World→Prop) (R:RT) (w:World):Prop :=
 F0 123 t5 0 R w fun t23 w =>
 L0 9 t23 R w fun t24 w =>
 L0 300 t6 R w fun t25 w =>
 opU Pg (Instr.mapUpdate 296 t8 t24 t25) (panK R) w fun w =>
 K2 w
def n94c2 (t5 t8 t11 t17:Value) (next1:KV) (R:RT) (w:World):Prop :=
 opV Pg (Instr.extract t17 0) (panK R) w fun t18 w =>
 opV Pg (Instr.extract t17 1) (panK R) w fun t19 w =>
 opV Pg (Instr.alloc 300 true (.tuple #[])) (panK R) w fun t6 w =>
 opU Pg (Instr.storeAt 300 t6 t18) (panK R) w fun w =>
 B0 .eql 49 true t19 (.int .i64 0) R w fun t21 w =>
 joinK (fun (w:World) =>
 B0 .add 3 true t11 (.int .i64 1) R w fun t26 w =>
 next1 t26 w) fun K2 =>
 condP t21 (
 n94c1 t5 t6 t8 K2 R w) (
 K2 w)
def n94c3 (t0 t8 t11:Value) (next1:KV) (R:RT) (w:World):Prop :=
 X0 72 t0 t11 R w fun t13 w =>
 L0 123 t13 R w fun t14 w =>
 opV Pg (Instr.alloc 123 true (.tuple #[])) (panK R) w fun t5 w =>
 opU Pg (Instr.storeAt 123 t5 t14) (panK R) w fun w =>
 L0 123 t5 R w fun t16 w =>
 C0 255 #[t16] R w fun t17 w =>
 n94c2 t5 t8 t11 t17 next1 R w
def n94 (t0:Value) (R:RT) (w:World):Prop :=
 opV Pg (Instr.makeMap 296 none) (panK R) w fun t8 w =>
 opV Pg (Builtin.len_ #[72] 3 #[t0]) (panK R) w fun t10 w =>
 loop1 (fun t11 w next1 =>
 B0 .lss 3 false t11 t10 R w fun t12 w =>
 condP t12 (
 n94c3 t0 t8 t11 next1 R w) (
 R (.returned t8) w)) (.int .i64 0) w
theorem n94s {t0:Value} {R:RT} {w:World} (h:n94 t0 R w):Calls Pg 247 #[t0] w R:=by
 refine yD Tryz.func247 ?_
 refine zs<|zr<|zm<|zn<|zk<|zs<|zr<|yv h fun _ w h=>zm<|zn<|zk<|zs<|zs<|zr<|zm ?_
 refine yx h fun _ w h=>zm<|zn<|zk<|sim_block<|yl1 [5,6,7,11,12,13,14,15,16,17,18,19,20,21,22,23,24,25,26] 11 h fun σ w next h=>zs<|zr<|yb h fun _ w h=>zn<|zk<|zs<|yC h (fun h=>?_) fun h=>?_
 · refine sim_skip<|zk<|zs<|sim_block<|zs<|zr<|yv h fun _ w h=>yv h fun _ w h=>yv h fun _ w h=>yu h fun w h=>zn<|zk<|zs<|zr<|yv h fun _ w h=>?_
   refine yc h c255 fun _ w h=>zm<|yv h fun _ w h=>yv h fun _ w h=>yv h fun _ w h=>yu h fun w h=>zm<|zn<|zk<|zs<|zr<|zm<|yb h fun _ w h=>zn<|zk ?_
   refine yJ0 [22,23,24,25] h (fun _ _ hkK2 h=>?_) fun σ w h=>?_
   · refine yC h (fun h=>?_) fun h=>?_
     · refine zr<|zm<|yv h fun _ w h=>yv h fun _ w h=>yv h fun _ w h=>yu h fun w h=>zn<|zk ?_
       exact zt hkK2 h
     refine sim_skip<|zk ?_
     exact zt hkK2 h
   exact sim_block_normal<|zk<|zr<|yb h fun _ w h=>zm<|zn<|zk<|⟨rfl,h⟩
 exact sim_exit<|sim_then_exit<|sim_then_exit<|sim_block_hit<|zk<|zs<|zr<|zm<|zm<|zn<|zk<|sim_ret<|body_ret1 rfl rfl h
def n102c1 (t1 t3:Value) (K1:World→Prop) (R:RT) (w:World):Prop :=
 F0 120 t1 1 R w fun t6 w =>
 L0 118 t6 R w fun t7 w =>
 C0 256 #[t7] R w fun t8 w =>
 opU Pg (Instr.storeAt 118 t3 t8) (panK R) w fun w =>
 K1 w
def n102 (t0:Value) (R:RT) (w:World):Prop :=
 opV Pg (Instr.box 120 t0) (panK R) w fun t1 w =>
 opV Pg (Instr.alloc 118 true (.tuple #[])) (panK R) w fun t3 w =>
 L0 120 t1 R w fun t4 w =>
 C0 246 #[t4] R w fun t5 w =>
 joinK (fun (w:World) =>
 opV Pg (Instr.makeFunc (.func 257) #[] #[t3]) (panK R) w fun t9 w =>
 R (.returned t9) w) fun K1 =>
 condP t5 (
 n102c1 t1 t3 K1 R w) (
 K1 w)
theorem n102s {t0:Value} {R:RT} {w:World} (h:n102 t0 R w):Calls Pg 248 #[t0] w R:=by
 refine yD Tryz.func248 ?_
 refine zs<|zr<|yv h fun _ w h=>zm<|zn<|zk<|zs<|zr<|yv h fun _ w h=>zn<|zk<|zs<|zs<|zr<|yv h fun _ w h=>?_
 refine yc h c246 fun _ w h=>zn<|zk<|yJ0 [6,7,8] h (fun _ _ hkK1 h=>?_) fun σ w h=>?_
 · refine yC h (fun h=>?_) fun h=>?_
   · refine zr<|yv h fun _ w h=>yv h fun _ w h=>yc h c256 fun _ w h=>yu h fun w h=>zn<|zk ?_
     exact zt hkK1 h
   refine sim_skip<|zk ?_
   exact zt hkK1 h
 exact zk<|zs<|zr<|yF h fun _ w h=>zm<|zn<|zk<|sim_ret<|body_ret1 rfl rfl h
def n96c1 (t4 t19 t21:Value) (R:RT) (w:World):Prop :=
 opV Pg (Instr.build 300 #[(0,t19),(1,t21)]) (panK R) w fun t22 w =>
 opU Pg (Instr.storeAt 300 t4 t22) (panK R) w fun w =>
 qW Pg 300 t4 w fun r0 =>
 R (.returned (.tuple #[r0,(.int .i64 0)])) w
def n96c2 (t2 t3 t4:Value) (R:RT) (w:World):Prop :=
 opV Pg (Instr.makeFunc (.func 260) #[] #[t2,t3]) (panK R) w fun t17 w =>
 callV Pg t17 #[(.bool true)] (panK R) w fun t19 w =>
 callV Pg t17 #[(.bool false)] (panK R) w fun t21 w =>
 n96c1 t4 t19 t21 R w
def n96c3 (t2 t3 t4 t12:Value) (R:RT) (w:World):Prop :=
 B0 .neq 49 true t12 (.int .i64 0) R w fun t14 w =>
 condP t14 (
 opV Pg (Instr.build 300 #[]) (panK R) w fun t15 w =>
 opU Pg (Instr.storeAt 300 t4 t15) (panK R) w fun w =>
 qW Pg 300 t4 w fun r0 =>
 R (.returned (.tuple #[r0,t12])) w) (
 n96c2 t2 t3 t4 R w)
def n96 (t0 t1:Value) (R:RT) (w:World):Prop :=
 opV Pg (Instr.box 120 t0) (panK R) w fun t2 w =>
 opV Pg (Instr.box 296 t1) (panK R) w fun t3 w =>
 opV Pg (Instr.alloc 300 true (.tuple #[])) (panK R) w fun t4 w =>
 L0 120 t2 R w fun t9 w =>
 L0 296 t3 R w fun t10 w =>
 callK Pg 259 #[t9,(.string { data := #[] }),t10,(.func (.func 258) #[] #[])] (panK R) w fun t12 w =>
 n96c3 t2 t3 t4 t12 R w
theorem n96s {t0 t1:Value} {R:RT} {w:World} (h:n96 t0 t1 R w):Calls Pg 249 #[t0,t1] w R:=by
 refine yD Tryz.func249 ?_
 refine zs<|zr<|yv h fun _ w h=>yv h fun _ w h=>yv h fun _ w h=>zm<|zn<|zk<|zs<|zr<|zm<|zn<|zk<|zs<|zs ?_
 refine zr<|yv h fun _ w h=>yv h fun _ w h=>zm<|yc h c259 fun _ w h=>zm<|zn<|zk<|zs<|zr<|zm<|yb h fun _ w h=>zn<|zk<|yC h (fun h=>zs<|zr<|yB h fun _ w h=>zm<|yu h fun w h=>zm<|zn<|zk<|sim_ret<|sim_then_ret<|body_retCT rfl rfl rfl h) fun h=>?_
 refine sim_skip<|zk<|zs<|zr<|yF h fun _ w h=>zm<|zn<|zk<|zs<|zr<|zm<|yV h fun _ w h=>zm<|yV h fun _ w h=>yB h fun _ w h=>?_
 exact yu h fun w h=>zm<|zn<|zk<|sim_ret<|body_retCT rfl rfl rfl h
def n117 (t0 t1:Value) (R:RT) (w:World):Prop :=
 C0 199 #[t0,t1] R w fun t7 w =>
 B0 .geq 3 true t7 (.int .i64 0) R w fun t8 w =>
 R (.returned t8) w
theorem n117s {t0 t1:Value} {R:RT} {w:World} (h:n117 t0 t1 R w):Calls Pg 250 #[t0,t1] w R:=by
 refine yD Tryz.func250 ?_
 refine zs<|zr<|zm<|zn<|zk<|zs<|zr<|zm<|zm<|yc h c199 fun _ w h=>yb h fun _ w h=>zm<|zn<|zk<|sim_ret ?_
 exact body_ret1 rfl rfl h
def n59 (t0 t1:Value) (R:RT) (w:World):Prop :=
 opV Pg (Instr.box 123 t0) (panK R) w fun t2 w =>
 F0 123 t2 1 R w fun t4 w =>
 L0 117 t4 R w fun t5 w =>
 B0 .eql 117 true t5 (.int .i64 9) R w fun t6 w =>
 joinK (fun (t12:Value) (w:World) =>
 pickK t6 t12 (.bool false) fun t13 =>
 R (.returned t13) w) fun K1 =>
 guardP t6 true (
 F0 123 t2 9 R w fun t8 w =>
 L0 9 t8 R w fun t9 w =>
 F0 123 t1 9 R w fun t10 w =>
 L0 9 t10 R w fun t11 w =>
 B0 .eql 9 false t9 t11 R w fun t12 w =>
 K1 t12 w) (
 K1 undef w)
theorem n59s {t0 t1:Value} {R:RT} {w:World} (h:n59 t0 t1 R w):Calls Pg 251 #[t0,t1] w R:=by
 refine yD Tryz.func251 ?_
 refine zs<|zr<|yv h fun _ w h=>zm<|zn<|zk<|zs<|sim_regionG<|yG 4<|yv h fun _ w h=>yv h fun _ w h=>yb h fun _ w h=>zm<|zn<|yg1 5 3 true [8,9,10,11,12] 12 h (fun _ T hT h=>?_) fun σ w h=>?_
 · refine yv h fun _ w h=>yv h fun _ w h=>yv h fun _ w h=>yv h fun _ w h=>yb h fun _ w h=>zn ?_
   exact zt hT h
 exact yG 2<|yp h fun _ h=>zm<|zn<|sim_end<|zk<|sim_ret<|body_ret1 rfl rfl h
def n106c1 (t16 t19 t22:Value) (C1:World→Prop) (K2:KV) (R:RT) (w:World):Prop :=
 opV Pg (Instr.buildSlice 170 3 #[(0,t16),(1,t19),(2,t22)]) (panK R) w fun t23 w =>
 C1 w∧(
 C0 74 #[t23] R w fun t24 w =>
 C1 w∧(
 qV Pg C1 (Op.unary .not t24) fun t25 =>
 K2 t25 w))
def n106c2 (t2:Value) (C1:World→Prop) (K2:KV) (R:RT) (w:World):Prop :=
 qV Pg C1 (Instr.fieldAt 128 t2 0) fun t14 =>
 qV Pg C1 (Instr.loadAt 9 t14) fun t15 =>
 qV Pg C1 (Instr.fieldAt 128 t2 1) fun t17 =>
 qV Pg C1 (Instr.loadAt 3 t17) fun t18 =>
 qV Pg C1 (binS .neq 3 true t18 (.int .i64 0)) fun t19 =>
 qV Pg C1 (Instr.fieldAt 128 t2 1) fun t20 =>
 qV Pg C1 (Instr.loadAt 3 t20) fun t21 =>
 C0 35 #[t15] R w fun t16 w =>
 C1 w∧(
 C0 253 #[t21] R w fun t22 w =>
 C1 w∧(
 n106c1 t16 t19 t22 C1 K2 R w))
def n106 (t0 t1:Value) (R:RT) (w:World):Prop :=
 opV Pg (Instr.box 128 t0) (panK R) w fun t2 w =>
 L0 199 t1 R w fun t5 w =>
 F0 128 t2 0 R w fun t6 w =>
 L0 9 t6 R w fun t7 w =>
 opV Pg (Instr.lookup 199 t5 t7 false) (panK R) w fun t8 w =>
 L0 199 t1 R w fun t9 w =>
 F0 128 t2 0 R w fun t10 w =>
 L0 9 t10 R w fun t11 w =>
 opU Pg (Instr.mapUpdate 199 t9 t11 (.bool true)) (panK R) w fun w =>
 drawK w fun C1 w =>
 joinK (fun (t25:Value) (w:World) =>
 pickK t8 (.bool true) t25 fun t26 =>
 R (.returned t26) w) fun K2 =>
 guardP t8 false (
 n106c2 t2 C1 K2 R w) (
 K2 undef w)
theorem n106s {t0 t1:Value} {R:RT} {w:World} (h:n106 t0 t1 R w):Calls Pg 252 #[t0,t1] w R:=by
 refine yD Tryz.func252 ?_
 refine zs<|zr<|yv h fun _ w h=>zm<|zn<|zk<|zs<|zr<|yv h fun _ w h=>yv h fun _ w h=>yv h fun _ w h=>yv h fun _ w h=>zm<|zn<|zk ?_
 refine zs<|zr<|yv h fun _ w h=>yv h fun _ w h=>yv h fun _ w h=>yu h fun w h=>zn<|zk<|zs<|yh [3,12,13,14,15,16,17,18,19,20,21,22,23,24,25,26] h fun C hC h=>yw 0 hC ?_
 refine yw 1 hC ?_
 refine yj1 2 [13,12,11,10,4,9,8,7,6,5,3,2,1,0] [14,15,16,17,18,19,20,21,22,23,24,25] 25 h (fun _ hT hb h=>?_) (fun _ hT hb h=>?_) fun σ w hC h=>?_
 · refine ye 2 hC h fun _ h=>?_
   refine ye 3 hC h fun _ h=>?_
   refine ye 5 hC h fun _ h=>?_
   refine ye 6 hC h fun _ h=>?_
   refine ye 7 hC h fun _ h=>?_
   refine ye 8 hC h fun _ h=>?_
   refine ye 9 hC h fun _ h=>?_
   refine yo 4 ?_
   refine yc h c35 fun _ w h=>zn ?_
   obtain ⟨hC,h⟩:=h
   refine ⟨hC,?_⟩
   refine yo 10 ?_
   refine yc h c253 fun _ w h=>zn ?_
   obtain ⟨hC,h⟩:=h
   refine ⟨hC,?_⟩
   refine yo 11 ?_
   refine yS h fun _ w h=>zn ?_
   obtain ⟨hC,h⟩:=h
   refine ⟨hC,?_⟩
   refine yo 12 ?_
   refine yc h c74 fun _ w h=>zn ?_
   obtain ⟨hC,h⟩:=h
   refine ⟨hC,?_⟩
   refine ye 13 hC h fun _ h=>?_
   exact yt hT hC h
 · refine yi 2 hC ?_
   refine yi 3 hC ?_
   refine yi 5 hC ?_
   refine yi 6 hC ?_
   refine yi 7 hC ?_
   refine yi 8 hC ?_
   refine yi 9 hC ?_
   refine yi 4 hC ?_
   refine yi 10 hC ?_
   refine yi 11 hC ?_
   refine yi 12 hC ?_
   refine yi 13 hC ?_
   exact yt hT hC h
 refine yP 14 hC h fun _ h=>?_
 refine yw 15 hC ?_
 exact yz<|zk<|sim_ret<|body_ret1 rfl rfl h
def n112 (t0:Value) (R:RT) (w:World):Prop :=
 opV Pg (binS .geq 3 true t0 (.int .i64 (-1048576))) (panK R) w fun t4 w =>
 joinK (fun (t7:Value) (w:World) =>
 pickK t4 t7 (.bool false) fun t8 =>
 R (.returned t8) w) fun K1 =>
 guardP t4 true (
 B0 .leq 3 true t0 (.int .i64 1048576) R w fun t7 w =>
 K1 t7 w) (
 K1 undef w)
theorem n112s {t0:Value} {R:RT} {w:World} (h:n112 t0 R w):Calls Pg 253 #[t0] w R:=by
 refine yD Tryz.func253 ?_
 refine zs<|zr<|zm<|zn<|zk<|zs<|sim_regionG<|yG 3<|zm<|yb h fun _ w h=>zm<|zn<|yg1 2 2 true [6,7] 7 h (fun _ T hT h=>?_) fun σ w h=>?_
 · refine zm<|yb h fun _ w h=>zn ?_
   exact zt hT h
 exact yG 2<|yp h fun _ h=>zm<|zn<|sim_end<|zk<|sim_ret<|body_ret1 rfl rfl h
def n119 (t0 t1:Value) (R:RT) (w:World):Prop :=
 C0 263 #[t0,t1] R w fun t7 w =>
 B0 .geq 3 true t7 (.int .i64 0) R w fun t8 w =>
 R (.returned t8) w
theorem n119s {t0 t1:Value} {R:RT} {w:World} (h:n119 t0 t1 R w):Calls Pg 254 #[t0,t1] w R:=by
 refine yD Tryz.func254 ?_
 refine zs<|zr<|zm<|zn<|zk<|zs<|zr<|zm<|zm<|yc h c263 fun _ w h=>yb h fun _ w h=>zm<|zn<|zk<|sim_ret ?_
 exact body_ret1 rfl rfl h
def n52c1 (t1 t2:Value) (R:RT) (w:World):Prop :=
 F0 123 t1 5 R w fun t13 w =>
 L0 3 t13 R w fun t14 w =>
 F0 123 t1 5 R w fun t15 w =>
 L0 3 t15 R w fun t16 w =>
 opV Pg (Instr.build 300 #[(0,t14),(1,t16)]) (panK R) w fun t17 w =>
 opU Pg (Instr.storeAt 300 t2 t17) (panK R) w fun w =>
 qW Pg 300 t2 w fun r0 =>
 R (.returned (.tuple #[r0,(.int .i64 0)])) w
def n52c2 (t1 t2:Value) (R:RT) (w:World):Prop :=
 F0 123 t1 5 R w fun t18 w =>
 L0 3 t18 R w fun t19 w =>
 F0 123 t1 6 R w fun t20 w =>
 L0 3 t20 R w fun t21 w =>
 opV Pg (Instr.build 300 #[(0,t19),(1,t21)]) (panK R) w fun t22 w =>
 opU Pg (Instr.storeAt 300 t2 t22) (panK R) w fun w =>
 qW Pg 300 t2 w fun r0 =>
 R (.returned (.tuple #[r0,(.int .i64 0)])) w
def n52c3 (t2:Value) (R:RT) (w:World):Prop :=
 opV Pg (Instr.build 300 #[]) (panK R) w fun t8 w =>
 opU Pg (Instr.storeAt 300 t2 t8) (panK R) w fun w =>
 qW Pg 300 t2 w fun r0 =>
 R (.returned (.tuple #[r0,(.int .i64 2)])) w
def n52c4 (t1 t2:Value) (R:RT) (w:World):Prop :=
 F0 123 t1 1 R w fun t10 w =>
 L0 117 t10 R w fun t11 w =>
 B0 .eql 117 true t11 (.int .i64 2) R w fun t12 w =>
 condP t12 (
 n52c1 t1 t2 R w) (
 n52c2 t1 t2 R w)
def n52 (t0:Value) (R:RT) (w:World):Prop :=
 opV Pg (Instr.box 123 t0) (panK R) w fun t1 w =>
 opV Pg (Instr.alloc 300 true (.tuple #[])) (panK R) w fun t2 w =>
 L0 123 t1 R w fun t5 w =>
 C0 264 #[t5] R w fun t6 w =>
 opV Pg (Op.unary .not t6) (panK R) w fun t7 w =>
 condP t7 (
 n52c3 t2 R w) (
 n52c4 t1 t2 R w)
theorem n52s {t0:Value} {R:RT} {w:World} (h:n52 t0 R w):Calls Pg 255 #[t0] w R:=by
 refine yD Tryz.func255 ?_
 refine zs<|zr<|yv h fun _ w h=>yv h fun _ w h=>zm<|zn<|zk<|zs<|sim_block<|zs<|zr<|yv h fun _ w h=>yc h c264 fun _ w h=>yv h fun _ w h=>zm ?_
 refine zn<|zk<|yC h (fun h=>zs<|zr<|yB h fun _ w h=>yu h fun w h=>zm<|zn<|zk<|sim_ret<|sim_block_ret<|sim_then_ret<|body_retCT rfl rfl rfl h) fun h=>zs<|zr<|yv h fun _ w h=>yv h fun _ w h=>yb h fun _ w h=>zm<|zn<|zk<|yC h (fun h=>zs<|zr<|yv h fun _ w h=>yv h fun _ w h=>yv h fun _ w h=>yv h fun _ w h=>yB h fun _ w h=>yu h fun w h=>zm<|zn<|zk<|sim_ret<|sim_block_ret<|sim_then_ret<|body_retCT rfl rfl rfl h) fun h=>sim_skip ?_
 exact sim_block_normal<|zk<|zs<|zr<|yv h fun _ w h=>yv h fun _ w h=>yv h fun _ w h=>yv h fun _ w h=>yB h fun _ w h=>yu h fun w h=>zm<|zn<|zk<|sim_ret<|body_retCT rfl rfl rfl h
def n115 (t0:Value) (R:RT) (w:World):Prop :=
 opV Pg (binS .eql 118 true t0 (Value.slice none 0 0)) (panK R) w fun t4 w =>
 condP t4 (
 R (.returned (Value.slice none 0 0)) w) (
 opV Pg (Instr.buildSlice 118 0 #[]) (panK R) w fun t5 w =>
 opV Pg (Builtin.append_ #[118,118] 118 #[t5,t0]) (panK R) w fun t7 w =>
 R (.returned t7) w)
theorem n115s {t0:Value} {R:RT} {w:World} (h:n115 t0 R w):Calls Pg 256 #[t0] w R:=by
 refine yD Tryz.func256 ?_
 refine zs<|zr<|zm<|zn<|zk<|zs<|zs<|zr<|zm<|yb h fun _ w h=>zn<|zk<|yC h (fun h=>zs<|zr<|zm<|zn<|zk<|sim_ret<|sim_then_ret<|body_ret1 rfl rfl h) fun h=>sim_skip ?_
 exact zk<|zs<|zr<|yS h fun _ w h=>zm<|yx h fun _ w h=>zm<|zn<|zk<|sim_ret<|body_ret1 rfl rfl h
def n103c1 (t7 t14:Value) (next1:KV) (R:RT) (w:World):Prop :=
 opV Pg (Op.unary .not t14) (panK R) w fun t15 w =>
 condP t15 (
 R (.returned (.tuple #[])) w) (
 B0 .add 3 true t7 (.int .i64 1) R w fun t16 w =>
 next1 t16 w)
def n103c2 (t0 t5 t7:Value) (next1:KV) (R:RT) (w:World):Prop :=
 X0 118 t5 t7 R w fun t9 w =>
 L0 128 t9 R w fun t10 w =>
 opV Pg (Instr.alloc 128 true (.tuple #[])) (panK R) w fun t4 w =>
 opU Pg (Instr.storeAt 128 t4 t10) (panK R) w fun w =>
 F0 128 t4 0 R w fun t12 w =>
 L0 9 t12 R w fun t13 w =>
 callV Pg t0 #[t13] (panK R) w fun t14 w =>
 n103c1 t7 t14 next1 R w
def n103 (t0 t1:Value) (R:RT) (w:World):Prop :=
 L0 118 t1 R w fun t5 w =>
 opV Pg (Builtin.len_ #[118] 3 #[t5]) (panK R) w fun t6 w =>
 loop1 (fun t7 w next1 =>
 B0 .lss 3 false t7 t6 R w fun t8 w =>
 condP t8 (
 n103c2 t0 t5 t7 next1 R w) (
 R (.returned (.tuple #[])) w)) (.int .i64 0) w
theorem n103s {t0 t1:Value} {R:RT} {w:World} (h:n103 t0 t1 R w):Calls Pg 257 #[t0,t1] w R:=by
 refine yD Tryz.func257 ?_
 refine zs<|zr<|yv h fun _ w h=>yx h fun _ w h=>zm<|zn<|zk<|sim_block<|yl1 [4,7,8,9,10,11,12,13,14,15,16] 7 h fun σ w next h=>zs<|zr<|yb h fun _ w h=>zn<|zk<|zs ?_
 refine yC h (fun h=>?_) fun h=>?_
 · refine sim_skip<|zk<|zs<|sim_block<|zs<|zr<|yv h fun _ w h=>yv h fun _ w h=>yv h fun _ w h=>yu h fun w h=>zn<|zk<|zs<|zr<|zm ?_
   refine yv h fun _ w h=>yv h fun _ w h=>yV h fun _ w h=>yv h fun _ w h=>zn<|zk<|yC h (fun h=>sim_ret<|sim_block_ret<|sim_then_ret<|sim_then_ret<|sim_block_ret<|body_ret0 rfl h) fun h=>sim_skip<|sim_block_normal<|zk<|zr<|yb h fun _ w h=>zm<|zn ?_
   exact zk<|⟨rfl,h⟩
 exact sim_exit<|sim_then_exit<|sim_then_exit<|sim_block_hit<|body_normal<|body_ret0 rfl h
def n97 (t0:Value) (R:RT) (w:World):Prop :=
 opV Pg (Instr.box 300 t0) (panK R) w fun t1 w =>
 F0 300 t1 0 R w fun t3 w =>
 L0 3 t3 R w fun t4 w =>
 B0 .geq 3 true t4 (.int .i64 0) R w fun t5 w =>
 F0 300 t1 0 R w fun t6 w =>
 L0 3 t6 R w fun t7 w =>
 F0 300 t1 1 R w fun t8 w =>
 L0 3 t8 R w fun t9 w =>
 B0 .leq 3 false t7 t9 R w fun t10 w =>
 F0 300 t1 1 R w fun t11 w =>
 L0 3 t11 R w fun t12 w =>
 B0 .lss 3 true t12 (.int .i64 34359738368) R w fun t13 w =>
 opV Pg (Instr.buildSlice 170 3 #[(0,t5),(1,t10),(2,t13)]) (panK R) w fun t14 w =>
 C0 74 #[t14] R w fun t15 w =>
 R (.returned t15) w
theorem n97s {t0:Value} {R:RT} {w:World} (h:n97 t0 R w):Calls Pg 258 #[t0] w R:=by
 refine yD Tryz.func258 ?_
 refine zs<|zr<|yv h fun _ w h=>zm<|zn<|zk<|zs<|zr<|yv h fun _ w h=>yv h fun _ w h=>yb h fun _ w h=>yv h fun _ w h=>yv h fun _ w h=>yv h fun _ w h=>yv h fun _ w h=>?_
 exact yb h fun _ w h=>yv h fun _ w h=>yv h fun _ w h=>yb h fun _ w h=>yS h fun _ w h=>yc h c74 fun _ w h=>zm<|zn<|zk<|sim_ret<|body_ret1 rfl rfl h
def n108c1 (t7 t8 t11:Value) (K2:World→Prop) (Qr1:List PanicEntry→World→Prop) (Xr1:Nat→World→Prop) (R:RT) (w:World):Prop :=
 opV Pg (Instr.loadAt 311 t7) Qr1 w fun t33 w =>
 opV Pg (Instr.loadAt 300 t11) Qr1 w fun t34 w =>
 callV Pg t33 #[t34] Qr1 w fun t35 w =>
 opV Pg (Op.unary .not t35) Qr1 w fun t36 w =>
 condP t36 (
 opU Pg (Instr.storeAt 49 t8 (.int .i64 2)) Qr1 w fun w =>
 Xr1 0 w) (
 K2 w)
def n108c2 (t5 t6 t7 t8 t9 t18:Value) (Kr1:World→Prop) (Qr1:List PanicEntry→World→Prop) (Xr1:Nat→World→Prop) (R:RT) (w:World):Prop :=
 opV Pg (Instr.loadAt 296 t6) Qr1 w fun t20 w =>
 opV Pg (Instr.lookup 296 t20 t18 true) Qr1 w fun t22 w =>
 opV Pg (Instr.extract t22 0) Qr1 w fun t23 w =>
 opV Pg (Instr.extract t22 1) Qr1 w fun t24 w =>
 opV Pg (Instr.alloc 300 true (.tuple #[])) Qr1 w fun t11 w =>
 opU Pg (Instr.storeAt 300 t11 t23) Qr1 w fun w =>
 opV Pg (Instr.loadAt 9 t5) Qr1 w fun t27 w =>
 opV Pg (binS .eql 9 false t18 t27) Qr1 w fun t28 w =>
 joinK (fun (w:World) =>
 Kr1 w) fun K2 =>
 condP t28 (
 K2 w) (
 opV Pg (Op.unary .not t24) Qr1 w fun t31 w =>
 condP t31 (
 opU Pg (Instr.storeAt 4 t9 (.bool true)) Qr1 w fun w =>
 K2 w) (
 n108c1 t7 t8 t11 K2 Qr1 Xr1 R w))
def n108c3 (t8 t9:Value) (ds:List Deferred) (R:RT) (w:World):Prop :=
 opV Pg (Instr.loadAt 4 t9) (outQ Pg ds [(some 49,t8)] R) w fun t37 w =>
 condP t37 (
 opU Pg (Instr.storeAt 49 t8 (.int .i64 9)) (outQ Pg ds [(some 49,t8)] R) w fun w =>
 outX Pg ds [(some 49,t8)] R w) (
 opU Pg (Instr.storeAt 49 t8 (.int .i64 0)) (outQ Pg ds [(some 49,t8)] R) w fun w =>
 outX Pg ds [(some 49,t8)] R w)
def n108c4 (t5 t6 t7 t8 t9 t17:Value) (ds:List Deferred) (R:RT) (w:World):Prop :=
 rangeN Pg t17 ds (fun l1 t18 w Kr1 Xr1 Qr1 =>
 busyK l1 w fun w =>
 n108c2 t5 t6 t7 t8 t9 t18 Kr1 Qr1 Xr1 R w) (fun ch ds w=>outQ Pg ds [(some 49,t8)] R ch w) w (fun ds w =>
 n108c3 t8 t9 ds R w) [fun ds w =>
 outX Pg ds [(some 49,t8)] R w]
def n108c5 (t4 t5 t6 t7 t8:Value) (ds:List Deferred) (R:RT) (w:World):Prop :=
 opV Pg (Instr.alloc 4 true (.tuple #[])) (outQ Pg ds [(some 49,t8)] R) w fun t9 w =>
 opU Pg (Instr.storeAt 4 t9 (.bool false)) (outQ Pg ds [(some 49,t8)] R) w fun w =>
 opV Pg (Instr.loadAt 120 t4) (outQ Pg ds [(some 49,t8)] R) w fun t16 w =>
 callK Pg 248 #[t16] (outQ Pg ds [(some 49,t8)] R) w fun t17 w =>
 n108c4 t5 t6 t7 t8 t9 t17 ds R w
def n108c6 (t4 t5 t6 t7 t8 t14:Value) (ds:List Deferred) (R:RT) (w:World):Prop :=
 opV Pg (Op.unary .not t14) (outQ Pg ds [(some 49,t8)] R) w fun t15 w =>
 condP t15 (
 opU Pg (Instr.storeAt 49 t8 (.int .i64 2)) (outQ Pg ds [(some 49,t8)] R) w fun w =>
 outX Pg ds [(some 49,t8)] R w) (
 n108c5 t4 t5 t6 t7 t8 ds R w)
def n108 (t0 t1 t2 t3:Value) (R:RT) (w:World):Prop :=
 (fun (ds:List Deferred) =>
 opV Pg (Instr.box 120 t0) (outQ Pg ds [(some 49,undef)] R) w fun t4 w =>
 opV Pg (Instr.box 9 t1) (outQ Pg ds [(some 49,undef)] R) w fun t5 w =>
 opV Pg (Instr.box 296 t2) (outQ Pg ds [(some 49,undef)] R) w fun t6 w =>
 opV Pg (Instr.box 311 t3) (outQ Pg ds [(some 49,undef)] R) w fun t7 w =>
 opV Pg (Instr.alloc 49 true (.tuple #[])) (outQ Pg ds [(some 49,undef)] R) w fun t8 w =>
 opV Pg (Instr.loadAt 120 t4) (outQ Pg ds [(some 49,t8)] R) w fun t13 w =>
 callK Pg 246 #[t13] (outQ Pg ds [(some 49,t8)] R) w fun t14 w =>
 n108c6 t4 t5 t6 t7 t8 t14 ds R w) []
theorem n108s {t0 t1 t2 t3:Value} {R:RT} {w:World} (h:n108 t0 t1 t2 t3 R w):Calls Pg 259 #[t0,t1,t2,t3] w R:=by
 refine yE Tryz.func259 ?_
 unfold n108 at h
 dsimp only at h
 refine zs<|zr<|yv h fun _ w h=>yv h fun _ w h=>yv h fun _ w h=>yv h fun _ w h=>yv h fun _ w h=>zn<|zk<|zs<|zs<|zr<|yv h fun _ w h=>yc h c246 fun _ w h=>yv h fun _ w h=>?_
 refine zn<|zk<|yC h (fun h=>zs<|zr<|yu h fun w h=>zn<|zk<|sim_ret<|sim_then_ret<|bodyM_ret rfl h) fun h=>sim_skip<|zk<|zs<|zr<|yv h fun _ w h=>yu h fun w h=>zn<|zk<|zs<|zs<|zr ?_
 refine yv h fun _ w h=>yc h c248 fun _ w h=>zn<|zk<|sim_block<|sim_range [.ret] h rfl (fun l1 t18 w Kr1 Xr1 Qr1 h=>?_) (fun ds w h=>?_) (fun c ds w h=>?_) (fun ch ds w h=>outQ_of rfl h)
 · refine zr<|zm<|zn<|zk ?_
   obtain ⟨hr,h⟩:=h
   refine ⟨rfl,hr,fun w hb=>?_⟩
   have h:=h w hb
   refine sim_block<|zs<|zr<|yv h fun _ w h=>zm<|yv h fun _ w h=>zm<|yv h fun _ w h=>yv h fun _ w h=>yv h fun _ w h=>yu h fun w h=>zm<|zn<|zk<|sim_block ?_
   refine zs<|zr<|zm<|yv h fun _ w h=>yb h fun _ w h=>zm<|zn<|zk<|yJ0 [29,30,31,32,33,34,35,36] h (fun _ _ hkK2 h=>?_) fun σ w h=>?_
   · refine yC h (fun h=>?_) fun h=>?_
     · refine sim_skip<|zk ?_
       exact zt hkK2 h
     refine zs<|zr<|zm<|yv h fun _ w h=>zm<|zn<|zk<|yC h (fun h=>?_) fun h=>?_
     · refine zr<|yu h fun w h=>zn<|zk ?_
       exact zt hkK2 h
     refine zs<|zr<|yv h fun _ w h=>yv h fun _ w h=>yV h fun _ w h=>yv h fun _ w h=>zm<|zn<|zk<|yC h (fun h=>zs<|zr<|yu h fun w h=>zn<|zk<|sim_ret<|sim_then_ret<|sim_block_ret<|sim_block_ret<|⟨rfl,0,rfl,h⟩) fun h=>sim_skip<|zk ?_
     exact zt hkK2 h
   exact sim_block_normal<|sim_block_normal<|⟨rfl,h⟩
 · refine sim_block_normal<|zk<|zs<|zs<|zr<|yv h fun _ w h=>zn<|zk<|yC h (fun h=>zs<|zr<|yu h fun w h=>zn<|zk<|sim_ret<|sim_then_ret<|bodyM_ret rfl h) fun h=>sim_skip<|zk<|zs<|zr<|yu h fun w h=>?_
   exact zn<|zk<|sim_ret<|bodyM_ret rfl h
 rcases c with _ | c
 · refine ⟨_,rfl,.inl ⟨rfl,?_⟩⟩
   exact sim_block_ret<|sim_then_ret<|bodyM_ret rfl h
 exact h.elim
def n98 (t0 t1 t2:Value) (R:RT) (w:World):Prop :=
 opV Pg (Instr.box 4 t0) (panK R) w fun t3 w =>
 L0 120 t1 R w fun t5 w =>
 opV Pg (Instr.makeFunc (.func 262) #[] #[t2,t3]) (panK R) w fun t6 w =>
 C0 261 #[t5,t6] R w fun t7 w =>
 R (.returned t7) w
theorem n98s {t0 t1 t2:Value} {R:RT} {w:World} (h:n98 t0 t1 t2 R w):Calls Pg 260 #[t0,t1,t2] w R:=by
 refine yD Tryz.func260 ?_
 refine zs<|zr<|yv h fun _ w h=>zm<|zn<|zk<|zs<|zr<|yv h fun _ w h=>yF h fun _ w h=>yc h c261 fun _ w h=>zm<|zn<|zk<|sim_ret ?_
 exact body_ret1 rfl rfl h
def letterB (c:UInt8):Bool:=(decide (65≤(c.toNat:Int))&&decide ((c.toNat:Int)≤90))||(decide (97≤(c.toNat:Int))&&decide ((c.toNat:Int)≤122))
def digitB (c:UInt8):Bool:=decide (48≤(c.toNat:Int))&&decide ((c.toNat:Int)≤57)
def wordB (c:UInt8):Bool:=letterB c||digitB c||((c.toNat:Int) == 95)
def smallB (v:Int):Bool:=decide (-1048576≤v)&&decide (v≤1048576)
def nameB (s:ByteArray):Bool:=decide (1≤(s.size:Int))&&decide ((s.size:Int)≤32)&&(match s.data.toList with | []=>false | c::_=>letterB c)&&s.data.toList.all wordB
theorem letter_ret (w0:World) (c:UInt8):Ret Pg 72 #[.int .u8 c.toNat] w0 fun r w'=>r = .bool (letterB c)∧Ext w0 w':=by
 refine n110s (R:=retR _) ?_;unfold n110
 simp (disch:=try exact DI) only [↓PR,QR,simprocAttr,↓n110c1,↓n110c2]
 unfold letterB
 have e:=Ext.refl w0
 generalize decide (65≤(c.toNat:Int))=b1
 generalize decide ((c.toNat:Int)≤90)=b2
 generalize decide (97≤(c.toNat:Int))=b3
 generalize decide ((c.toNat:Int)≤122)=b4
 cases b1<;>cases b2<;>cases b3<;>cases b4<;>simp (disch:=try exact DI) only [↓PR,QR,simprocAttr,↓n110c1,↓n110c2]<;>exact ⟨by trivial,e⟩
theorem digit_ret (w0:World) (c:UInt8):Ret Pg 73 #[.int .u8 c.toNat] w0 fun r w'=>r = .bool (digitB c)∧Ext w0 w':=by
 refine n109s (R:=retR _) ?_;unfold n109
 refine Qg ?_
 unfold digitB
 have e:=Ext.refl w0
 generalize decide (48≤(c.toNat:Int))=b1
 generalize decide ((c.toNat:Int)≤57)=b2
 cases b1<;>cases b2<;>simp (disch:=try exact DI) only [↓PR,QR,simprocAttr,Sw.joinK_eq]<;>exact ⟨by trivial,e⟩
theorem small_ret (w0:World) (v:Int):Ret Pg 253 #[.int .i64 v] w0 fun r w'=>r = .bool (smallB v)∧Ext w0 w':=by
 refine n112s (R:=retR _) ?_;unfold n112
 refine Qg ?_
 unfold smallB
 have e:=Ext.refl w0
 generalize decide (-1048576≤v)=b1
 generalize decide (v≤1048576)=b2
 cases b1<;>cases b2<;>simp (disch:=try exact DI) only [↓PR,QR,simprocAttr,Sw.joinK_eq]<;>exact ⟨by trivial,e⟩
def BoolsOf (w:World) (v:Value) (l:List Bool):Prop:=SliceOf w 1 EBool v l
theorem Index_bool_ret (w0:World) (v:Value) (l:List Bool) (x:Bool) (hs:BoolsOf w0 v l) :
 Ret Pg 137 #[v,.bool x] w0 fun r w'=>r = .int .i64 (idx (x == ·) l)∧Ext w0 w':=by
 obtain ⟨A,c,rfl,hlc,hcm,hlm,hel⟩:=SliceOf.open hs
 refine n134s (R:=retR _) ?_;unfold n134
 refine Qf ?_
 refine loop1_intro (fun i w=>∃ k:Nat,i = .int .i64 k∧k≤l.length∧Ext w0 w∧∀ (j:Nat) y,j < k→l[j]?=some y→(x == y)=false) (fun i _=>l.length - (intOf i).toNat) ⟨0,rfl,by omega,Ext.refl _,fun j y h=>by omega⟩ ?_
 rintro i w ⟨k,rfl,hk,e,hb⟩
 by_cases hlt:k < l.length
 · obtain ⟨y,hy⟩:=getElem?_lt hlt
   obtain ⟨b,o,cs,rfl,hl,hA,rfl⟩:=hel k y hy
   have hd:decide ((k:Int) < (l.length:Int))=true:=by simp;omega
   have hc:w.cell? ⟨b,o+k*1,none⟩=some (.bool y):=(hA.ext e).cell 0 rfl
   simp (disch:=try exact DI) only [↓PR,QR,simprocAttr,hd,hc,↓n134c1]
   cases hp:(x == y) with
   | true =>
    refine Qf ?_
    exact ⟨by rw [idx_here hy hp hb],e⟩
   | false =>
    refine Qf ?_
    exact ⟨⟨k+1,rfl,by omega,e,before_succ hb hy hp⟩,by simp [intOf];omega⟩
 · have hd:decide ((k:Int) < (l.length:Int))=false:=by simp;omega
   simp (disch:=try exact DI) only [↓PR,QR,simprocAttr,hd,↓n134c1]
   exact ⟨by rw [idx_none fun j y hy=>hb j y (by have:=(Qv hy).1;omega) hy],e⟩
theorem Contains_bool_ret (w0:World) (v:Value) (l:List Bool) (x:Bool) (hs:BoolsOf w0 v l) :
 Ret Pg 107 #[v,.bool x] w0 fun r w'=>r = .bool (l.any (x == ·))∧Ext w0 w':=by
 refine n122s (R:=retR _) ?_;unfold n122
 refine callK_ret (Index_bool_ret _ _ l x hs) ?_
 rintro r w' ⟨rfl,e⟩
 refine Qg ?_
 exact ⟨by rw [idx_neg],e⟩
theorem all_ret (w0:World) (v:Value) (l:List Bool) (hs:BoolsOf w0 v l) :
 Ret Pg 74 #[v] w0 fun r w'=>r = .bool (l.all id)∧Ext w0 w':=by
 refine n107s (R:=retR _) ?_;unfold n107
 refine callK_ret (Contains_bool_ret _ _ l false hs) ?_
 rintro r w' ⟨rfl,e⟩
 refine Qg ?_
 refine ⟨?_,e⟩
 congr 1
 clear hs
 induction l with
 | nil=>rfl
 | cons a l ih=>cases a<;>simp_all
theorem NameS1_ret (w0:World) (c:UInt8):Ret Pg 71 #[.int .u8 c.toNat] w0 fun r w'=>r = .bool (!wordB c)∧Ext w0 w':=by
 refine n101s (R:=retR _) ?_;unfold n101
 refine callK_ret (letter_ret _ c) ?_
 rintro r w' ⟨rfl,e⟩
 simp (disch:=try exact DI) only [↓PR,QR,simprocAttr,↓n101c1,↓n101c2]
 unfold wordB
 cases letterB c with
 | true=>simp (disch:=try exact DI) only [↓PR,QR,simprocAttr,↓n101c1,↓n101c2];exact ⟨by trivial,e⟩
 | false =>
  simp (disch:=try exact DI) only [↓PR,QR,simprocAttr,↓n101c1,↓n101c2]
  refine callK_ret (digit_ret _ c) ?_
  rintro r w2 ⟨rfl,e2⟩
  have e3:=e.trans e2
  cases digitB c with
  | true=>simp (disch:=try exact DI) only [↓PR,QR,simprocAttr,↓n101c1,↓n101c2];exact ⟨by trivial,e3⟩
  | false=>simp (disch:=try exact DI) only [↓PR,QR,simprocAttr,↓n101c1,↓n101c2];exact ⟨by trivial,e3⟩
def BytesOf (w:World) (v:Value) (l:List UInt8):Prop:=SliceOf w 1 EByte v l
theorem ContainsFunc_byte_ret (w0:World) (v:Value) (l:List UInt8) (g:FuncId) (caps:Array Value) (p:UInt8→Bool) (hs:BytesOf w0 v l) (hg:Callable Pg g) (hc:Tests w0 (fun _ v x=>v = .int .u8 (x.toNat:Int)) g caps p l) :
 Ret Pg 75 #[v,.func (.func g) #[] caps] w0 fun r w'=>r = .bool (l.any p)∧Ext w0 w':=by
 refine n120s (R:=retR _) ?_;unfold n120
 refine callK_ret (IndexFunc_byte_ret _ _ l g caps p hs hg hc) ?_
 rintro r w' ⟨rfl,e⟩
 refine Qg ?_
 exact ⟨by rw [idx_neg],e⟩
theorem boolsNew (w:World) (l:List Bool) (T:TypeId) (hl:l.length≤9223372036854775807):BoolsOf (w.alloc (.cells (l.map Value.bool).toArray T)) (.slice (some ⟨w.heap.size,0,none⟩) l.length l.length) l:=SliceOf.new1 _ (fun _ _=>rfl) w l T hl
theorem all2_ret {w:World} {p:Nat} (hp:p=w.heap.size) (a b:Bool) (T:TypeId):Ret Pg 74 #[.slice (some ⟨p,0,none⟩) 2 2] (w.alloc (.cells #[.bool a,.bool b] T)) fun r w'=>r = .bool (a&&b)∧Ext (w.alloc (.cells #[.bool a,.bool b] T)) w':=by
 subst hp
 have h:=all_ret _ _ [a,b] (boolsNew w [a,b] T (by simp))
 simpa using h
theorem all3_ret {w:World} {p:Nat} (hp:p=w.heap.size) (a b c:Bool) (T:TypeId):Ret Pg 74 #[.slice (some ⟨p,0,none⟩) 3 3] (w.alloc (.cells #[.bool a,.bool b,.bool c] T)) fun r w'=>r = .bool (a&&b&&c)∧Ext (w.alloc (.cells #[.bool a,.bool b,.bool c] T)) w':=by
 subst hp
 have h:=all_ret _ _ [a,b,c] (boolsNew w [a,b,c] T (by simp))
 simpa [Bool.and_assoc] using h
theorem Name_ret (w0:World) (s:ByteArray):Ret Pg 35 #[.string s] w0 fun r w'=>r = .bool (nameB s)∧Ext w0 w':=by
 refine n100s (R:=retR _) ?_;unfold n100
 simp (disch:=try exact DI) only [↓PR,QR,simprocAttr,↓n100c1,↓n100c2]
 have e1:Ext w0 (w0.alloc (.cells #[.bool (decide (1≤(s.size:Int))),.bool (decide ((s.size:Int)≤32))] 4)):=(Ext.refl w0).alloc _
 refine callK_ret (all_ret _ _ [decide (1≤(s.size:Int)),decide ((s.size:Int)≤32)] (boolsNew w0 [decide (1≤(s.size:Int)),decide ((s.size:Int)≤32)] 4 (by simp))) ?_
 rintro r w1 ⟨rfl,e2⟩
 have e:=e1.trans e2
 have hall:[decide (1≤(s.size:Int)),decide ((s.size:Int)≤32)].all id=(decide (1≤(s.size:Int))&&decide ((s.size:Int)≤32)):=by simp
 rw [hall]
 unfold nameB
 cases h1:(decide (1≤(s.size:Int))&&decide ((s.size:Int)≤32)) with
 | false=>simp (disch:=try exact DI) only [↓PR,QR,simprocAttr,↓n100c1,↓n100c2];exact ⟨by trivial,e⟩
 | true =>
  simp (disch:=try exact DI) only [↓PR,QR,simprocAttr,↓n100c1,↓n100c2]
  have hlen:s.size≤9223372036854775807:=by simp only [Bool.and_eq_true,decide_eq_true_eq] at h1;omega
  obtain ⟨c,cs,hcs⟩:∃ c cs,s.data.toList=c::cs:=by
   simp only [Bool.and_eq_true,decide_eq_true_eq] at h1
   cases hd:s.data.toList with
   | nil =>
    have:s.data.size=0:=by rw [← Array.length_toList,hd];rfl
    have h0:s.size=s.data.size:=rfl
    omega
   | cons c cs=>exact ⟨c,cs,rfl⟩
  rw [op_indexS0 Tryz.underlying9 s .i64 (b:=c) (by rw [hcs];rfl)]
  refine callK_ret (letter_ret _ c) ?_
  rintro r w2 ⟨rfl,e3⟩
  have e:=e.trans e3
  rw [hcs]
  cases hl:letterB c with
  | false=>simp (disch:=try exact DI) only [↓PR,QR,simprocAttr,↓n100c1,↓n100c2];exact ⟨by rw [hl];rfl,e⟩
  | true =>
   simp (disch:=try exact DI) only [↓PR,QR,simprocAttr,↓n100c1,↓n100c2]
   refine op_bytes Tryz.underlying9 Tryz.underlying40 Tryz.underlying5 s hlen ?_
   rintro v w3 e4 ⟨A,cp,rfl,hc1,hc2,b,rfl,hcell⟩
   have hsz:s.data.toList.length=s.size:=by rw [Array.length_toList];rfl
   have hB:BytesOf w3 (.slice (some ⟨b,0,none⟩) s.size cp) s.data.toList:=by
    rw [← hsz]
    refine ⟨_,_,rfl,by omega,hc2,fun _=>⟨_,_,rfl,fun k x hx=>⟨[.int .u8 x.toNat],rfl,fun j v hv=>?_,rfl⟩⟩⟩
    cases j with
    | zero=>injection hv with hv;subst hv;simpa using hcell k x hx
    | succ j=>cases hv
   have e:=e.trans e4
   refine callK_ret (ContainsFunc_byte_ret _ _ s.data.toList _ _ (fun x=>!wordB x) hB c71 ?_) ?_
   · rintro w v x _ _ rfl
     exact NameS1_ret w x
   · rintro r w4 ⟨rfl,e5⟩
     simp (disch:=try exact DI) only [↓PR,QR,simprocAttr,↓n100c1,↓n100c2]
     refine ⟨?_,e.trans e5⟩
     rw [hcs,hl]
     congr 1
     generalize c::cs=l
     clear hall
     induction l with
     | nil=>rfl
     | cons a l ih=>simp only [List.any_cons,List.all_cons,Bool.not_or,Bool.not_not,Bool.true_and] at *;rw [ih]
def termB (t:TermD):Bool:=nameB t.field&&(t.factor != 0)&&smallB t.factor
theorem ValidS1_ret (w:World) (t:TermD) (pb r:Nat) (names:List ByteArray) (hcell:w.cell? ⟨pb,0,none⟩=some (.map (some r))) (hm:SetOf w r names) :
 Ret Pg 252 #[termVal t,.pointer (some ⟨pb,0,none⟩)] w fun v w'=>v = .bool (memB names t.field||!termB t)∧SetOf w' r (names++[t.field])∧w'.cell? ⟨pb,0,none⟩=some (.map (some r)) ∧
  ∀ w0,Ext w0 w→w0.heap.size≤r→Ext w0 w':=by
 have hpb:pb < w.heap.size:=World.block_lt_of_cell? w _ hcell
 obtain ⟨L,c,hM,hl⟩:=hm
 refine n106s (R:=retR _) ?_;unfold n106
 unfold termVal
 refine Qp hcell ?_
 have e1:Ext w (w.alloc (.cells #[.string t.field,.int .i64 t.factor] 128)):=(Ext.refl w).alloc _
 rw [op_lookup1S Tryz.underlying199 Tryz.underlying9 ty4 (hM.ext e1)]
 refine Qp hcell ?_
 rw [op_mapUpdateS Tryz.underlying199 Tryz.underlying9 (hM.ext e1)]
 obtain ⟨W,hW⟩:∃ W,((w.alloc (.cells #[.string t.field,.int .i64 t.factor] 128)).putObj r (mapObjS (putL L c t.field (.bool true)) (putC L c t.field)))=W:=⟨_,rfl⟩
 have hS:SetOf W r (names++[t.field]):=by rw [← hW];exact SetOf.put (hM.ext e1) hl _
 have hC:W.cell? ⟨pb,0,none⟩=some (.map (some r)):=by rw [← hW,cell_putMap (hM.ext e1)];exact e1.cell hcell
 have hE:∀ w0,Ext w0 w→w0.heap.size≤r→Ext w0 W:=fun w0 h0 hr=>by rw [← hW];exact (h0.trans e1).putObj hr _
 have hA0:W.cell? ⟨w.heap.size,0,none⟩=some (.string t.field):=by rw [← hW,cell_putMap (hM.ext e1),cell_new];rfl
 have hA1:W.cell? ⟨w.heap.size,1,none⟩=some (.int .i64 t.factor):=by rw [← hW,cell_putMap (hM.ext e1),cell_new];rfl
 rw [hW]
 refine drawK_intro ?_
 have ht8:(Sw.look L t.field).getD (.bool false) = .bool (memB names t.field):=by rw [hl];cases memB names t.field<;>rfl
 rw [ht8]
 have fin:∀ b w',Ext W w'→b=(memB names t.field||!termB t)→(Value.bool b = .bool (memB names t.field||!termB t)∧SetOf w' r (names++[t.field])∧w'.cell? ⟨pb,0,none⟩=some (.map (some r))∧∀ w0,Ext w0 w→w0.heap.size≤r→Ext w0 w') :=
  fun b w' e hb=>⟨by rw [hb],hS.ext e,e.cell hC,fun w0 h0 hr=>(hE w0 h0 hr).trans e⟩
 cases hmem:memB names t.field with
 | true =>
  simp (disch:=try exact DI) only [↓PR,QR,simprocAttr,↓n106c1,↓n106c2]
  exact ⟨trivial,(fin (true||!termB t) _ (Ext.refl _).wdrew (by rw [hmem])).2⟩
 | false =>
  simp (disch:=try exact DI) only [↓PR,QR,simprocAttr,↓n106c1,↓n106c2,hA0,hA1]
  refine zcr (Name_ret _ t.field) fun w1 e2=>?_
  refine ⟨e2,?_⟩
  refine zcr (small_ret _ t.factor) fun w2 e3=>?_
  refine ⟨e2.trans e3,?_⟩
  simp (disch:=try exact DI) only [↓PR,QR,simprocAttr,↓n106c1,↓n106c2]
  have e:=e2.trans e3
  refine ⟨e.alloc _,?_⟩
  refine zcr (all3_ret rfl _ _ _ _) fun w3 e4=>?_
  refine ⟨(e.alloc _).trans e4,?_⟩
  simp (disch:=try exact DI) only [↓PR,QR,simprocAttr,↓n106c1,↓n106c2]
  exact ⟨rfl,(fin (!termB t) w3 (((Ext.refl _).wdrew).trans ((e.alloc _).trans e4)) (by rw [hmem];rfl)).2⟩
def termsB:List ByteArray→List TermD→Bool
 | _,[]=>true
 | seen,t::ts=>!(memB seen t.field)&&termB t&&termsB (seen++[t.field]) ts
theorem termsB_iff:∀ (ts:List TermD) (seen:List ByteArray),termsB seen ts=true↔∀ k x,ts[k]?=some x→(memB (seen++(ts.take k).map (·.field)) x.field||!termB x)=false
 | [],seen=>by simp [termsB]
 | t::ts,seen=>by
  simp only [termsB,Bool.and_eq_true,termsB_iff ts]
  constructor
  · rintro ⟨⟨h1,h2⟩,h3⟩ k x hx
    cases k with
    | zero=>simp at hx;subst hx;simpa using ⟨by simpa using h1,h2⟩
    | succ k=>have:=h3 k x (by simpa using hx);simpa using this
  · intro h
    refine ⟨?_,fun k x hx=>by simpa using h (k+1) x (by simpa using hx)⟩
    have:=h 0 t rfl
    simp at this
    exact ⟨by rw [this.1];rfl,this.2⟩
theorem ContainsFunc_Term_st (w0 w1:World) (v:Value) (l:List TermD) (g:FuncId) (caps:Array Value) (p:Nat→Bool) (J:Nat→World→Prop) (hs:TermsOf w0 v l) (hg:Callable Pg g) (hJ:∀ k w,J k w→Ext w0 w) (h0:J 0 w1)
 (hc:∀ k x w u,l[k]?=some x→J k w→(fun _ v x=>v=termVal x) w u x→Ret Pg g (#[u]++caps) w fun r w'=>r = .bool (p k)∧J (k+1) w') :
 Ret Pg 254 #[v,.func (.func g) #[] caps] w1 fun r w'=>r = .bool ((List.range l.length).any p)∧∃ k,J k w':=by
 refine n119s (R:=retR _) ?_;unfold n119
 refine callK_ret (IndexFunc_Term_st w0 _ _ l g caps p J hs hg hJ h0 hc) ?_
 rintro r w' ⟨rfl,e⟩
 refine Qg ?_
 exact ⟨by rw [idx_neg],e⟩
def sizeB (base:Int) (ts:List TermD):Bool:=smallB base&&decide (ts.length≤4)&&termsB [] ts
theorem Valid_ret (w0:World) (v:Value) (base:Int) (ts:List TermD) (hs:SizeVal w0 v base ts) :
 Ret Pg 246 #[v] w0 fun r w'=>r = .bool (sizeB base ts)∧Ext w0 w':=by
 obtain ⟨tv,rfl,hT⟩:=hs
 refine n105s (R:=retR _) ?_;unfold n105
 refine Qf ?_
 obtain ⟨A,c,rfl,hlc,hcm,hlm,hel⟩:=SliceOf.open hT
 obtain ⟨W1,hW1⟩:∃ W1,w0.alloc (.cells #[.int .i64 base,.slice A ts.length c] 120)=W1:=⟨_,rfl⟩
 have e0:Ext w0 W1:=by rw [← hW1];exact (Ext.refl w0).alloc _
 have hc0:W1.cell? ⟨w0.heap.size,0,none⟩=some (.int .i64 base):=by rw [← hW1];exact Qb
 have hc1:W1.cell? ⟨w0.heap.size,1,none⟩=some (.slice A ts.length c):=by rw [← hW1];exact Qb
 have hsz:w0.heap.size+1=W1.heap.size:=by rw [← hW1];exact Qb
 simp only [hW1,hsz]
 refine drawK_introE (w1:=W1) (((Ext.refl W1).alloc _).alloc _) ?_
 simp (disch:=try exact DI) only [↓PR,QR,simprocAttr,↓n105c1,↓n105c2,↓n105c3,hc0,hc1]
 generalize hW:(World.drew _)=W
 have e1:Ext W1 W:=by rw [← hW];exact (((Ext.refl W1).alloc _).alloc _).wdrew
 have hpb:W.cell? ⟨W1.heap.size+1,0,none⟩=some (.map (some W1.heap.size)):=by rw [← hW];exact Qb
 have hset:SetOf W W1.heap.size []:=by
  rw [← hW]
  have h:=(MapS.new W1).ext (((Ext.refl _).alloc (Obj.cells (#[Value.map none].setIfInBounds 0 (Value.map (some W1.heap.size))) 199)).wdrew)
  exact ⟨[],0,by simpa using h,fun s=>rfl⟩
 clear hW
 refine zcr (small_ret _ base) fun w1 e2=>?_
 refine ⟨e1.trans e2,?_⟩
 refine Qf ?_
 refine ⟨e1.trans (e2.alloc _),?_⟩
 refine zcr (all2_ret rfl _ _ _) fun w2 e3=>?_
 replace e2:=(e2.alloc _).trans e3
 refine ⟨e1.trans e2,?_⟩
 simp (disch:=try exact DI) only [↓PR,QR,simprocAttr,↓n105c1,↓n105c2,↓n105c3]
 unfold sizeB
 cases hb:(smallB base&&decide (ts.length≤4)) with
 | false =>
  have hb':(smallB base&&decide ((ts.length:Int)≤4))=false:=by rw [← hb];congr 1;simp;omega
  rw [hb']
  simp (disch:=try exact DI) only [↓PR,QR,simprocAttr,↓n105c1,↓n105c2,↓n105c3,hc0,hc1]
  exact ⟨by trivial,e0.trans (e1.trans e2)⟩
 | true =>
  have hb':(smallB base&&decide ((ts.length:Int)≤4))=true:=by rw [← hb];congr 1;simp;omega
  rw [hb']
  simp (disch:=try exact DI) only [↓PR,QR,simprocAttr,↓n105c1,↓n105c2,↓n105c3,hc0,hc1]
  refine callK_ret (ContainsFunc_Term_st W1 w2 _ ts 252 _ (fun k=>match ts[k]? with | some t=>memB ((ts.take k).map (·.field)) t.field||!termB t | none=>true) (fun k w=>SetOf w W1.heap.size ((ts.take k).map (·.field))∧w.cell? ⟨W1.heap.size+1,0,none⟩=some (.map (some W1.heap.size))∧Ext W1 w) (hT.ext e0) c252 (fun k w h=>h.2.2) ⟨hset.ext e2,e2.cell hpb,e1.trans e2⟩ ?_) ?_
  · rintro k x w u hx ⟨h1,h2,h3⟩ rfl
    simp only [hsz]
    refine Ret.mono (ValidS1_ret w x _ _ _ h2 h1) ?_
    rintro v w' ⟨rfl,h4,h5,h6⟩
    refine ⟨by rw [hx],?_,h5,h6 _ h3 (Nat.le_refl _)⟩
    rw [List.take_add_one,hx]
    simpa using h4
  · rintro _ w3 ⟨rfl,k,h1,h2,h3⟩
    refine ⟨h3,?_⟩
    simp (disch:=try exact DI) only [↓PR,QR,simprocAttr,↓n105c1,↓n105c2,↓n105c3]
    refine ⟨?_,e0.trans h3⟩
    congr 1
    rw [Bool.eq_iff_iff,termsB_iff,Bool.not_eq_true',List.any_eq_false]
    simp only [List.mem_range,List.nil_append]
    constructor
    · intro h k x hx
      have:=h k (Qv hx).1
      rw [hx] at this
      simpa using this
    · intro h k hk
      rw [List.getElem?_eq_getElem hk]
      have:=h k _ (List.getElem?_eq_getElem hk)
      simpa using this
def numberB (f:FieldD):Bool:=f.kind == 1||f.kind == 2||f.kind == 3
def highOf (f:FieldD):Int:=if f.kind == 2 then f.low else f.high
abbrev rangeVal (lo hi:Int):Value := .agg #[.int .i64 lo,.int .i64 hi]
theorem Number_ret (w0:World) (v:Value) (f:FieldD) (hf:FieldVal w0 v f):Ret Pg 264 #[v] w0 fun r w'=>r = .bool (numberB f)∧Ext w0 w':=by
 obtain ⟨tv,cv,rfl,hT,hC⟩:=hf
 refine n51s (R:=retR _) ?_;unfold n51
 simp (disch:=try exact DI) only [↓PR,QR,simprocAttr,↓n51c1]
 exact ⟨by first | trivial | rfl,ee⟩
theorem Range_ret (w0:World) (v:Value) (f:FieldD) (hf:FieldVal w0 v f):Ret Pg 255 #[v] w0 fun r w'=>r = .tuple #[if numberB f then rangeVal f.low (highOf f) else rangeVal 0 0,.int .i64 (if numberB f then 0 else 2)]∧Ext w0 w':=by
 obtain ⟨tv,cv,rfl,hT,hC⟩:=hf
 refine n52s (R:=retR _) ?_;unfold n52
 simp (disch:=try exact DI) only [↓PR,QR,simprocAttr,↓n52c1,↓n52c2,↓n52c3,↓n52c4]
 refine zcr (Number_ret _ _ f ⟨tv,cv,rfl,TermsOf.ext hT ee,CasesOf.ext hC ee⟩) fun w1 e1=>?_
 have s1:=e1.size
 try simp only [World.size_alloc,World.size_setCell,World.size_drew,World.putObj_size,Sw.putW_size] at s1
 cases hn:numberB f with
 | false =>
  simp (disch:=try exact DI) only [↓PR,QR,simprocAttr,↓n52c1,↓n52c2,↓n52c3,↓n52c4,e1.cellQ,e1.frozenQ]
  exact ⟨by first | trivial | rfl,ee⟩
 | true =>
  simp (disch:=try exact DI) only [↓PR,QR,simprocAttr,↓n52c1,↓n52c2,↓n52c3,↓n52c4,e1.cellQ,e1.frozenQ]
  unfold highOf
  cases f.kind == 2
  · simp (disch:=try exact DI) only [↓PR,QR,simprocAttr,↓n52c1,↓n52c2,↓n52c3,↓n52c4,e1.cellQ,e1.frozenQ]
    exact ⟨by first | trivial | rfl,ee⟩
  · simp (disch:=try exact DI) only [↓PR,QR,simprocAttr,↓n52c1,↓n52c2,↓n52c3,↓n52c4,e1.cellQ,e1.frozenQ]
    exact ⟨by first | trivial | rfl,ee⟩
theorem found_Message_ret (w0:World) (v:Value) (l:List MsgD) (g:FuncId) (caps:Array Value) (p:MsgD→Bool) (hs:MsgsOf w0 v l) (hg:Callable Pg g) (hc:Tests w0 MsgVal g caps p l) :
 Ret Pg 138 #[v,.func (.func g) #[] caps] w0 fun r w'=>r = .tuple #[.int .i64 (if idx p l < 0 then 0 else idx p l),.bool (l.any p)]∧Ext w0 w':=by
 refine n69s (R:=retR _) ?_;unfold n69
 refine zcr (IndexFunc_Message_ret _ _ l g caps p hs hg hc) fun w1 e1=>?_
 have s1:=e1.size
 try simp only [World.size_alloc,World.size_setCell,World.size_drew,World.putObj_size,Sw.putW_size] at s1
 simp (disch:=try exact DI) only [↓PR,QR,simprocAttr,↓n69c1]
 exact ⟨by rw [idx_neg],e1⟩
theorem found_Field_ret (w0:World) (v:Value) (l:List FieldD) (g:FuncId) (caps:Array Value) (p:FieldD→Bool) (hs:FieldsOf w0 v l) (hg:Callable Pg g) (hc:Tests w0 FieldVal g caps p l) :
 Ret Pg 164 #[v,.func (.func g) #[] caps] w0 fun r w'=>r = .tuple #[.int .i64 (if idx p l < 0 then 0 else idx p l),.bool (l.any p)]∧Ext w0 w':=by
 refine n68s (R:=retR _) ?_;unfold n68
 refine zcr (IndexFunc_Field_ret _ _ l g caps p hs hg hc) fun w1 e1=>?_
 have s1:=e1.size
 try simp only [World.size_alloc,World.size_setCell,World.size_drew,World.putObj_size,Sw.putW_size] at s1
 simp (disch:=try exact DI) only [↓PR,QR,simprocAttr,↓n68c1]
 exact ⟨by rw [idx_neg],e1⟩
def idx0 {α:Type} (p:α→Bool) (l:List α):Int:=if idx p l < 0 then 0 else idx p l
theorem FieldS1_ret (w0:World) (v:Value) (f:FieldD) (pb:Nat) (s:ByteArray) (hf:FieldVal w0 v f) (hp:w0.cell? ⟨pb,0,none⟩=some (.string s)):Ret Pg 165 #[v,.pointer (some ⟨pb,0,none⟩)] w0 fun r w'=>r = .bool (decide (f.name=s))∧Ext w0 w':=by
 obtain ⟨tv,cv,rfl,hT,hC⟩:=hf
 have hb:=World.block_lt_of_cell? w0 _ hp
 simp only at hb
 refine n48s (R:=retR _) ?_;unfold n48
 simp (disch:=try exact DI) only [↓PR,QR,simprocAttr,Sw.joinK_eq,hp]
 exact ⟨by first | trivial | rfl,ee⟩
theorem FindS1_ret (w0:World) (v:Value) (m:MsgD) (pb:Nat) (s:ByteArray) (hf:MsgVal w0 v m) (hp:w0.cell? ⟨pb,0,none⟩=some (.string s)):Ret Pg 139 #[v,.pointer (some ⟨pb,0,none⟩)] w0 fun r w'=>r = .bool (decide (m.name=s))∧Ext w0 w':=by
 obtain ⟨fv,rfl,hF⟩:=hf
 have hb:=World.block_lt_of_cell? w0 _ hp
 simp only at hb
 refine n50s (R:=retR _) ?_;unfold n50
 simp (disch:=try exact DI) only [↓PR,QR,simprocAttr,Sw.joinK_eq,hp]
 exact ⟨by first | trivial | rfl,ee⟩
theorem Field_ret (w0:World) (v:Value) (m:MsgD) (s:ByteArray) (hm:MsgVal w0 v m):Ret Pg 140 #[v,.string s] w0 fun r w'=>r = .tuple #[.int .i64 (idx0 (fun f=>decide (f.name=s)) m.fields),.bool (m.fields.any fun f=>decide (f.name=s))]∧Ext w0 w':=by
 obtain ⟨fv,rfl,hF⟩:=hm
 refine n47s (R:=retR _) ?_;unfold n47
 refine Qg ?_
 refine callK_ret (found_Field_ret _ _ m.fields _ _ (fun f=>decide (f.name=s)) (hF.ext ee) c165 ?_) ?_
 · intro w v f hf e hv
   exact FieldS1_ret w v f _ s hv (e.cell (by simp (disch:=try exact DI) only [↓PR,QR,simprocAttr]))
 rintro _ w1 ⟨rfl,e1⟩
 refine Qg ?_
 exact ⟨by first | trivial | rfl,ee⟩
theorem Find_ret (w0:World) (v:Value) (d:DefD) (s:ByteArray) (hd:DefVal w0 v d):Ret Pg 109 #[v,.string s] w0 fun r w'=>r = .tuple #[.int .i64 (idx0 (fun m=>decide (m.name=s)) d.msgs),.bool (d.msgs.any fun m=>decide (m.name=s))]∧Ext w0 w':=by
 obtain ⟨fv,rfl,hF⟩:=hd
 refine n49s (R:=retR _) ?_;unfold n49
 refine Qg ?_
 refine callK_ret (found_Message_ret _ _ d.msgs _ _ (fun m=>decide (m.name=s)) (hF.ext ee) c139 ?_) ?_
 · intro w v f hf e hv
   exact FindS1_ret w v f _ s hv (e.cell (by simp (disch:=try exact DI) only [↓PR,QR,simprocAttr]))
 rintro _ w1 ⟨rfl,e1⟩
 refine Qg ?_
 exact ⟨by first | trivial | rfl,ee⟩
open Go.RowKit (intOf Below)
theorem Clone_Term_ret (w0:World) (v:Value) (css:List (Cs 2)) (hs:SliceOf w0 2 (fun _ cs x=>cs=x.1) v css) (h1:∀ x∈css,∀ u∈x.1,u.oneCell'=true) (hb:css.length≤1048576) :
 Ret Pg 256 #[v] w0 fun r w'=>OwnE w' w0.heap.size 128 2 Subtype.val r css∧Ext w0 w':=by
 obtain ⟨A,c,rfl,hlc,hcm,hlm,hel⟩:=SliceOf.open hs
 refine n115s (R:=retR _) ?_;unfold n115
 refine Qf ?_
 cases A with
 | none =>
  have:css=[]:=by
   cases css with
   | nil=>rfl
   | cons x l=>obtain ⟨_,_,_,h,_⟩:=hel 0 x rfl;cases h
  subst this
  simp only [Option.isNone_none]
  refine Qf ?_
  exact ⟨OwnE.nil _ _ _ _ _,ee⟩
 | some a =>
  simp only [Option.isNone_some]
  refine Qf ?_
  have hO:=OwnE.new w0 128 2 (Subtype.val:Cs 2→List Value) [] (fun x=>x.2) (by simp)
  simp only [List.flatMap_nil,List.length_nil] at hO
  have eW:Ext w0 (w0.alloc (.cells #[] 128)):=ee
  have hsz:w0.heap.size≤(w0.alloc (.cells #[] 128)).heap.size:=eW.size
  generalize w0.alloc (.cells #[] 128)=W at hO eW hsz ⊢
  cases hcs:css with
  | nil =>
   subst hcs
   simp only [List.length_nil]
   rw [op_append0 Tryz.underlying118 ty128 _ _ _ _ _ (Nat.le_refl 0)]
   refine Qf ?_
   exact ⟨hO,eW⟩
  | cons x0 l0 =>
   obtain ⟨b,o,_,hA,_⟩:=hel 0 x0 (by rw [hcs];rfl)
   injection hA with hA
   subst hA
   rw [← hcs]
   refine op_appendE Tryz.underlying118 ty128 rfl Qj (fun x=>x.2) h1 hO (fun j x hx=>?_) hsz ?_ (by simp;omega) ?_
   · obtain ⟨b',o',cs,hA',hl',hE,rfl⟩:=hel j x hx
     injection hA' with hA'
     injection hA' with h3 h4
     subst h3 h4
     exact hE.ext eW
   · have:=by128
     rw [List.length_nil,Nat.zero_add]
     exact Nat.le_trans (Nat.mul_le_mul hb this) Qj
   · intro v' w' ho hg
     refine Qf ?_
     refine ⟨ho,eW.grown hg ?_⟩
     intro k hk
     have h:=hO.lt k hk
     exact h.1
theorem EMsg.one {w:World} {cs:List Value} {m:MsgD} (h:EMsg w cs m):∀ u∈cs,u.oneCell'=true:=by
 obtain ⟨fv,rfl,h1⟩:=h
 have:=h1.oneCell
 intro u hu
 simp only [List.mem_cons,List.not_mem_nil,or_false] at hu
 rcases hu with rfl | rfl
 · rfl
 · exact this
theorem ETerm.one {w:World} {cs:List Value} {t:TermD} (h:ETerm w cs t):∀ u∈cs,u.oneCell'=true:=by
 obtain rfl:=h
 intro u hu
 simp only [List.mem_cons,List.not_mem_nil,or_false] at hu
 rcases hu with rfl | rfl<;>rfl
def numPairs (l:List FieldD):List (ByteArray×Value):=(l.filter numberB).map fun f=>(f.name,rangeVal f.low (highOf f))
theorem numPairs_snoc (l:List FieldD) (f:FieldD):numPairs (l++[f])=numPairs l++(if numberB f then [(f.name,rangeVal f.low (highOf f))] else []):=by
 unfold numPairs
 rw [List.filter_append,List.map_append]
 cases h:numberB f<;>simp [List.filter_cons,h]
theorem take_snoc {α:Type} {l:List α} {k:Nat} {x:α} (hx:l[k]?=some x):l.take (k+1)=l.take k++[x]:=by
 rw [List.take_add_one,hx];rfl
theorem ranges_ret (w0:World) (v:Value) (l:List FieldD) (hs:FieldsOf w0 v l) :
 Ret Pg 247 #[v] w0 fun r w'=>∃ m,r = .map (some m)∧w0.heap.size≤m∧MapOf w' m (numPairs l)∧Ext w0 w':=by
 obtain ⟨A,c,rfl,hlc,hcm,hlm,hel⟩:=SliceOf.open hs
 refine n94s (R:=retR _) ?_;unfold n94
 refine Qf ?_
 have hM0:=MapOf.new w0
 have e0:Ext w0 (w0.alloc (.map #[] 0)):=ee
 refine loop1_intro (fun a0 w=>∃ (k:Nat) , a0 = .int .i64 (k:Int)∧k≤l.length∧Ext w0 w∧MapOf w w0.heap.size (numPairs (l.take k))) (fun a0 _=>l.length - (intOf a0).toNat) ⟨0,rfl,Nat.zero_le _,ee,hM0⟩ ?_
 rintro _ w ⟨k,rfl,hk,e,hI⟩
 have se:=e.size
 rcases drop_cases hk with ⟨x,hx,hd,hlt,hdec⟩ | ⟨hk,hd,hdec⟩
 · obtain ⟨b,o,cs,rfl,hl,hA,hE⟩:=hel k x hx
   obtain ⟨tv,cv,rfl,hT,hC,ht1,hc1⟩:=hE.op
   have hlt2:=hI.lt
   simp (disch:=try exact DI) only [↓PR,QR,simprocAttr,↓n94c1,↓n94c2,↓n94c3,hdec,hA.c15]
   refine zcr (Range_ret _ _ x ⟨tv,cv,rfl,TermsOf.ext hT ee,CasesOf.ext hC ee⟩) fun w1 e1=>?_
   have s1:=e1.size
   try simp only [World.size_alloc,World.size_setCell,World.size_drew,World.putObj_size,Sw.putW_size] at s1
   have hI1:=(hI.ext ((Ext.refl w).alloc _)).ext e1
   have hI2:∀ o,MapOf (w1.alloc o) w0.heap.size (numPairs (l.take k)):=fun o=>hI1.ext ((Ext.refl w1).alloc _)
   cases hn:numberB x with
   | false =>
    simp (disch:=try exact DI) only [↓PR,QR,simprocAttr,↓n94c1,↓n94c2,↓n94c3,e1.cellQ,e1.frozenQ,rangeVal]
    have hf:=hI2 (.cells #[.int .i64 0,.int .i64 0] 300)
    rw [show numPairs (l.take k)=numPairs (l.take (k+1)) by rw [take_snoc hx,numPairs_snoc,hn];simp] at hf
    exact ⟨⟨k+1,rfl,by omega,ee,hf⟩,meas_lt (kd := .i64) hlt⟩
   | true =>
    simp (disch:=try exact DI) only [↓PR,QR,simprocAttr,↓n94c1,↓n94c2,↓n94c3,e1.cellQ,e1.frozenQ,rangeVal]
    have hf:=hI2 (.cells #[.int .i64 x.low,.int .i64 (highOf x)] 300)
    rw [op_updateO Tryz.underlying296 Tryz.underlying9 hf]
    have hg:=hf.put x.name (rangeVal x.low (highOf x))
    have eg:Ext w0 (putW (w1.alloc (.cells #[.int .i64 x.low,.int .i64 (highOf x)] 300)) w0.heap.size (numPairs (l.take k)) x.name (rangeVal x.low (highOf x))):=Ext.putW ee (Nat.le_refl _) _ _
    rw [show numPairs (l.take k)++[(x.name,rangeVal x.low (highOf x))]=numPairs (l.take (k+1)) by rw [take_snoc hx,numPairs_snoc,hn];simp] at hg
    simp (disch:=try exact DI) only [↓PR,QR,simprocAttr,↓n94c1,↓n94c2,↓n94c3]
    exact ⟨⟨k+1,rfl,by omega,ee,hg⟩,meas_lt (kd := .i64) hlt⟩
 · subst hk
   simp (disch:=try exact DI) only [↓PR,QR,simprocAttr,↓n94c1,↓n94c2,↓n94c3,hdec]
   rw [List.take_length] at hI
   exact ⟨_,rfl,Nat.le_refl _,hI,e⟩
def TermsAt (w:World) (pb:Nat) (tv:Value) (ts:List TermD):Prop:=w.cell? ⟨pb,0,none⟩=some tv∧TermsOf w tv ts∧∀ A m c,tv = .slice (some A) m c→pb < A.block
theorem TermsAt.ext {w w':World} {pb:Nat} {tv:Value} {ts:List TermD} (h:TermsAt w pb tv ts) (e:Ext w w'):TermsAt w' pb tv ts:=⟨e.cell h.1,TermsOf.ext h.2.1 e,h.2.2⟩
theorem TermsAt.set {w:World} {pb:Nat} {tv:Value} {ts:List TermD} (h:TermsAt w pb tv ts) {b o:Nat} (hb:b < pb) (u:Value):TermsAt (w.setCell ⟨b,o,none⟩ u) pb tv ts :=
 ⟨by rw [cell_set_other Qx];exact h.1,SliceOf.setOther h.2.1 u (fun A m c e=>by have:=h.2.2 A m c e;omega) (fun _ _ h=>h),h.2.2⟩
theorem Names_ret (w0:World) (v:Value) (base:Int) (ts:List TermD) (hs:SizeVal w0 v base ts) (hb:ts.length≤1048576) :
 Ret Pg 248 #[v] w0 fun r w'=>∃ pb tv,r = .func (.func 257) #[] #[.pointer (some ⟨pb,0,none⟩)]∧TermsAt w' pb tv (if sizeB base ts then ts else [])∧w0.heap.size≤pb∧Ext w0 w':=by
 obtain ⟨tv,rfl,hT⟩:=hs
 have ht1:=SliceOf.oneCell hT
 refine n102s (R:=retR _) ?_;unfold n102
 simp (disch:=try exact DI) only [↓PR,QR,simprocAttr,↓n102c1]
 refine zcr (Valid_ret _ _ base ts ⟨tv,rfl,TermsOf.ext hT ee⟩) fun w1 e1=>?_
 have s1:=e1.size
 try simp only [World.size_alloc,World.size_setCell,World.size_drew,World.putObj_size,Sw.putW_size] at s1
 cases hv:sizeB base ts with
 | false =>
  simp (disch:=try exact DI) only [↓PR,QR,simprocAttr,↓n102c1]
  refine ⟨_,_,rfl,⟨e1.cell (by simp (disch:=try exact DI) only [↓PR,QR,simprocAttr]),SliceOf.nil _ _ _,fun A m c e=>by cases e⟩,by omega,ee⟩
 | true =>
  simp (disch:=try exact DI) only [↓PR,QR,simprocAttr,↓n102c1,e1.cellQ,e1.frozenQ]
  obtain ⟨cssT,hrawT,hmatesT⟩:=SliceOf.raw hT
  refine callK_ret (Clone_Term_ret _ tv cssT (hrawT.ext keptRaw ee) (fun y hy=>by obtain ⟨m,_,hm⟩:=hmatesT.mem hy;exact hm.one) (by rw [hmatesT.1];exact hb)) ?_
  rintro t8 w2 ⟨hO,e2⟩
  have s2:=e2.size
  have hO':=OwnE.mates hO (hmatesT.imp fun _ _ h=>h)
  have hS:=hO'.slice (E:=ETerm) (fun _=>rfl) (fun _ _=>rfl)
  have h8:=SliceOf.oneCell hS
  have hTy:TypeAt w2 (w0.heap.size+1) 118:=(TypeAt.ext (w:=(w0.alloc _).alloc (.cells #[.slice none 0 0] 118)) ⟨_,_,by have:=heap_new (w0.alloc (.cells #[.int .i64 base,tv] 120)) #[.slice none 0 0] 118;rw [World.size_alloc] at this;exact this⟩ (e1.trans e2))
  simp (disch:=try exact DI) only [↓PR,QR,simprocAttr,↓n102c1,e1.cellQ,e1.frozenQ,e2.cellQ,e2.frozenQ]
  have hS2:=((hO'.range.only (Only.setCell w2 (w0.heap.size+1) 0 t8) (.inr (.inl Qx))).1).slice (E:=ETerm) (fun _=>rfl) (fun _ _=>rfl)
  refine ⟨_,t8,rfl,⟨?_,hS2,fun A m c e=>by subst e;have:=hO'.lt A.block rfl;omega⟩,by omega,ee⟩
  simp (disch:=try exact DI) only [↓PR,QR,simprocAttr,e1.cellQ,e1.frozenQ,e2.cellQ,e2.frozenQ]
def namesX (ts:List TermD) (k:Nat):Value:=match ts[k]? with
 | some t => .string t.field
 | none=>undef
theorem Names_seq (pb:Nat) (tv:Value) (ts:List TermD):SeqIt Pg 257 #[.pointer (some ⟨pb,0,none⟩)] ts.length (namesX ts) (fun w=>TermsAt w pb tv ts):=by
 intro yv J Jx Jp w hFP hJe hJx hstep h0
 obtain ⟨hc,hT,_⟩:=hFP 0 w h0
 obtain ⟨A,c,rfl,hlc,hcm,hlm,hel⟩:=SliceOf.open hT
 refine n103s (t0:=yv) (t1 := .pointer (some ⟨pb,0,none⟩)) ?_
 unfold n103
 refine Qp hc ?_
 refine loop1_intro (fun i w=>∃ k:Nat,i = .int .i64 k∧k≤ts.length∧J k w) (fun i _=>ts.length - (intOf i).toNat) ⟨0,rfl,by omega,h0⟩ ?_
 rintro i w' ⟨k,rfl,hk,hJ⟩
 rcases drop_cases hk with ⟨x,hx,hd,hlt,hdec⟩ | ⟨hk,hd,hdec⟩
 · obtain ⟨_,hT',_⟩:=hFP k w' hJ
   obtain ⟨A',c',hv,_,_,_,hel'⟩:=SliceOf.open hT'
   injection hv with hv _ hv'
   subst hv hv'
   obtain ⟨b,o,cs,rfl,hl,hA,rfl⟩:=hel' k x hx
   have er:=Ext.refl w'
   simp (disch:=try exact DI) only [↓PR,QR,simprocAttr,↓n103c1,↓n103c2,hdec,hA.c2]
   have hs:=hstep k hlt _ (hJe k w' _ hJ ((Ext.refl w').alloc (.cells #[.string x.field,.int .i64 x.factor] 128)))
   rw [show namesX ts k = .string x.field by unfold namesX;rw [hx]] at hs
   refine callV_mono hs (fun ch w h=>h) ?_
   rintro v w2 (⟨rfl,h2⟩ | ⟨rfl,h2⟩)
   · simp (disch:=try exact DI) only [↓PR,QR,simprocAttr,↓n103c1,↓n103c2]
     exact ⟨⟨k+1,rfl,by omega,h2⟩,meas_lt (kd := .i64) hlt⟩
   · simp (disch:=try exact DI) only [↓PR,QR,simprocAttr,↓n103c1,↓n103c2]
     exact .inr h2
 · subst hk
   simp (disch:=try exact DI) only [↓PR,QR,simprocAttr,↓n103c1,↓n103c2,hdec]
   exact .inl hJ
theorem TermsAt.lasts (B pb:Nat) (tv:Value) (ts:List TermD):Lasts B (fun w=>TermsAt w pb tv ts) :=
 Lasts.and (Lasts.cell B) (Lasts.and ⟨fun _ _ h e=>TermsOf.ext h e,fun _ _ _ _ _ h hl=>SliceOf.putLoop (fun _ _ h=>h) hl h⟩ (Lasts.const _ _))
def checkedF (but:ByteArray) (ps:List (ByteArray×Value)) (p:Value→Bool):List TermD→Bool→Int
 | [],no=>if no then 9 else 0
 | t::ts,no=>if t.field=but then checkedF but ps p ts no else match lastOf ps t.field with
  | none=>checkedF but ps p ts true
  | some v=>if p v then checkedF but ps p ts no else 2
theorem checked_Range_ret (w0:World) (v:Value) (base:Int) (ts:List TermD) (but:ByteArray) (m:Nat) (ps:List (ByteArray×Value)) (g:FuncId) (caps:Array Value) (p:Value→Bool) (hs:SizeVal w0 v base ts) (hb:ts.length≤1048576)
 (hm:MapOf w0 m ps) (hr:∀ k v,lastOf ps k=some v→∃ lo hi,v=rangeVal lo hi) (hg:Callable Pg g) (hc:∀ w lo hi,Ext w0 w→Ret Pg g (#[rangeVal lo hi]++caps) w fun r w'=>r = .bool (p (rangeVal lo hi))∧Ext w w') :
 Ret Pg 259 #[v,.string but,.map (some m),.func (.func g) #[] caps] w0 fun r w'=>r = .int .i64 (if sizeB base ts then checkedF but ps p ts false else 2)∧Ext w0 w':=by
 obtain ⟨tv,rfl,hT⟩:=hs
 have ht1:=SliceOf.oneCell hT
 have hmlt:=hm.lt
 refine n108s (R:=retR _) ?_;unfold n108
 simp (disch:=try exact DI) only [↓PR,QR,simprocAttr,↓n108c1,↓n108c2,↓n108c3,↓n108c4,↓n108c5,↓n108c6]
 refine zcr (Valid_ret _ _ base ts ⟨tv,rfl,TermsOf.ext hT ee⟩) fun w1 e1=>?_
 have s1:=e1.size
 try simp only [World.size_alloc,World.size_setCell,World.size_drew,World.putObj_size,Sw.putW_size] at s1
 cases hv:sizeB base ts with
 | false =>
  simp (disch:=try exact DI) only [↓PR,QR,simprocAttr,↓n108c1,↓n108c2,↓n108c3,↓n108c4,↓n108c5,↓n108c6,e1.cellQ,e1.frozenQ,outX_nil,retV,resOne]
  exact ⟨by first | trivial | rfl,ee⟩
 | true =>
  simp (disch:=try exact DI) only [↓PR,QR,simprocAttr,↓n108c1,↓n108c2,↓n108c3,↓n108c4,↓n108c5,↓n108c6,e1.cellQ,e1.frozenQ]
  refine callK_ret (Names_ret _ _ base ts ⟨tv,rfl,TermsOf.ext hT ee⟩ hb) ?_
  rintro _ w2 ⟨pb,tv2,rfl,hTA,hpb,e2⟩
  rw [hv] at hTA
  simp only [if_true] at hTA
  have s2:=e2.size
  simp only [World.size_alloc] at s2 hpb
  have o5:w2.heap[w0.heap.size+1]?=some (.cells #[.string but] 9 (0,0)):=by simp (disch:=try exact DI) only [↓PR,QR,simprocAttr,e1.heapQ,e2.heapQ]
  have o6:w2.heap[w0.heap.size+1+1]?=some (.cells #[.map (some m)] 296 (0,0)):=by simp (disch:=try exact DI) only [↓PR,QR,simprocAttr,e1.heapQ,e2.heapQ]
  have o7:w2.heap[w0.heap.size+1+1+1]?=some (.cells #[.func (.func g) #[] caps] 311 (0,0)):=by simp (disch:=try exact DI) only [↓PR,QR,simprocAttr,e1.heapQ,e2.heapQ]
  have o8:w2.heap[w0.heap.size+1+1+1+1]?=some (.cells #[.int .i64 0] 49 (0,0)):=by simp (disch:=try exact DI) only [↓PR,QR,simprocAttr,e1.heapQ,e2.heapQ]
  have o9:w2.heap[w1.heap.size]?=some (.cells #[.bool false] 4 (0,0)):=by simp (disch:=try exact DI) only [↓PR,QR,simprocAttr,e1.heapQ,e2.heapQ]
  have eW:Ext w0 w2:=ee
  simp only [World.size_alloc]
  unfold n108c4
  let I:Nat→World→Prop:=fun k w=>Ext w0 w∧w.heap[w0.heap.size+1]?=some (.cells #[.string but] 9 (0,0))∧w.heap[w0.heap.size+1+1]?=some (.cells #[.map (some m)] 296 (0,0)) ∧
   w.heap[w0.heap.size+1+1+1]?=some (.cells #[.func (.func g) #[] caps] 311 (0,0))∧TermsAt w pb tv2 ts ∧
   ∃ nb x,w.heap[w0.heap.size+1+1+1+1]?=some (.cells #[.int .i64 x] 49 (0,0))∧w.heap[w1.heap.size]?=some (.cells #[.bool nb] 4 (0,0))∧checkedF but ps p (ts.drop k) nb=checkedF but ps p ts false
  let Ix:Nat→World→Prop:=fun c w=>c=0∧Ext w0 w∧w.heap[w0.heap.size+1+1+1+1]?=some (.cells #[.int .i64 2] 49 (0,0))∧checkedF but ps p ts false=2
  have hLI:∀ k,Lasts w2.heap.size (I k):=fun k=>Lasts.and (Lasts.from Qx) (Lasts.and (Lasts.has _ (by simp)) (Lasts.and (Lasts.has _ (by simp)) (Lasts.and (Lasts.has _ (by simp)) (Lasts.and (TermsAt.lasts _ _ _ _)
   (Lasts.ex fun nb=>Lasts.ex fun x=>Lasts.and (Lasts.has _ (by simp)) (Lasts.and (Lasts.has _ (by simp)) (Lasts.const _ _)))))))
  have hLX:∀ k,Lasts w2.heap.size (Ix k):=fun k=>Lasts.and (Lasts.const _ _)<|Lasts.and (Lasts.from Qx) (Lasts.and (Lasts.has _ (by simp)) (Lasts.const _ _))
  refine ⟨_,_,ts.length,namesX ts,fun w=>TermsAt w pb tv2 ts,I,Ix,fun _ _=>False,rfl,c257,Names_seq pb tv2 ts,⟨eW,o5,o6,o7,hTA,false,0,o8,o9,rfl⟩,fun k w h=>h.2.2.2.2.1,hLI,hLX,?_,?_,?_,?_⟩
  · intro rec j w3 hj hI3 hrec hready
    refine ⟨hready,fun w4 hbz=>?_⟩
    have hrec4:=hrec.busied hbz
    have hI4:=(hLI j).busied hbz (Nat.le_succ _) hI3
    clear hI3 hrec hready hbz
    obtain ⟨e4,o5,o6,o7,hTA4,nb,x,o8,o9,hF⟩:=hI4
    obtain ⟨t,hx⟩:=getElem?_lt hj
    rw [show namesX ts j = .string t.field by unfold namesX;rw [hx]]
    have hd:ts.drop j=t::ts.drop (j+1):=by
     rw [List.drop_eq_getElem_cons hj]
     congr 1
     exact (Qv hx).2
    rw [hd] at hF
    simp only [checkedF] at hF
    have hm4:=hm.ext e4
    have s4:=e4.size
    have l9:w1.heap.size < w4.heap.size:=(Qk o9).1
    have l8:w0.heap.size+1+1+1+1 < w4.heap.size:=(Qk o8).1
    simp (disch:=try exact DI) only [↓PR,QR,simprocAttr,↓n108c1,↓n108c2,↓n108c3,↓n108c4,↓n108c5,↓n108c6,(cells_of_heap o5).1,(cells_of_heap o6).1]
    rw [op_lookupO Tryz.underlying296 Tryz.underlying9 ty300 hm4]
    have next:∀ nb' w5,Ext w4 w5→checkedF but ps p (ts.drop (j+1)) nb'=checkedF but ps p ts false→nb'=nb→I (j+1) w5:=fun nb' w5 e5 h hn=>(hLI (j+1)).ext _ _ ⟨e4,o5,o6,o7,hTA4,nb,x,o8,o9,hn ▸ h⟩ e5
    cases hl:lastOf ps t.field with
    | none =>
     rw [hl] at hF
     simp (disch:=try exact DI) only [↓PR,QR,simprocAttr,↓n108c1,↓n108c2,↓n108c3,↓n108c4,↓n108c5,↓n108c6,(cells_of_heap o5).1]
     by_cases hbut:t.field=but
     · rw [if_pos hbut] at hF
       simp only [hbut,decide_true]
       refine Qf ?_
       exact ⟨hrec4.alloc _,next nb _ ee hF rfl⟩
     · rw [if_neg hbut] at hF
       simp only [hbut,decide_false]
       simp (disch:=try exact DI) only [↓PR,QR,simprocAttr,↓n108c1,↓n108c2,↓n108c3,↓n108c4,↓n108c5,↓n108c6,(cells_of_heap o9).1,(cells_of_heap o9).2]
       refine ⟨(hrec4.setCell _ _).alloc _,ee,by simp (disch:=try exact DI) only [↓PR,QR,simprocAttr,o5],by simp (disch:=try exact DI) only [↓PR,QR,simprocAttr,o6],by simp (disch:=try exact DI) only [↓PR,QR,simprocAttr,o7],(hTA4.set Qx _).ext ((Ext.refl _).alloc _),true,x,by simp (disch:=try exact DI) only [↓PR,QR,simprocAttr,o8],?_,hF⟩
       have:=((Ext.refl _).alloc (.cells #[.int .i64 0,.int .i64 0] 300)).obj (heap_set (o:=0) o9 (.bool true))
       simpa using this
    | some v =>
     obtain ⟨lo,hi,rfl⟩:=hr _ _ hl
     rw [hl] at hF
     simp (disch:=try exact DI) only [↓PR,QR,simprocAttr,↓n108c1,↓n108c2,↓n108c3,↓n108c4,↓n108c5,↓n108c6,(cells_of_heap o5).1,rangeVal]
     by_cases hbut:t.field=but
     · rw [if_pos hbut] at hF
       simp only [hbut,decide_true]
       refine Qf ?_
       exact ⟨hrec4.alloc _,next nb _ ee hF rfl⟩
     · rw [if_neg hbut] at hF
       simp only [hbut,decide_false]
       simp (disch:=try exact DI) only [↓PR,QR,simprocAttr,↓n108c1,↓n108c2,↓n108c3,↓n108c4,↓n108c5,↓n108c6,(cells_of_heap o7).1]
       rw [callV_func hg]
       refine zcr (hc _ lo hi ee) fun w6 e6=>?_
       have s6:=e6.size
       simp only [World.size_alloc] at s6
       cases hp:p (rangeVal lo hi) with
       | true =>
        simp only [hp,if_true] at hF
        simp (disch:=try exact DI) only [↓PR,QR,simprocAttr,↓n108c1,↓n108c2,↓n108c3,↓n108c4,↓n108c5,↓n108c6]
        exact ⟨(hrec4.alloc _).ext e6,next nb _ ee hF rfl⟩
       | false =>
        simp only [hp,Bool.false_eq_true,if_false] at hF
        simp (disch:=try exact DI) only [↓PR,QR,simprocAttr,↓n108c1,↓n108c2,↓n108c3,↓n108c4,↓n108c5,↓n108c6,e6.cellQ,e6.frozenQ,(cells_of_heap o8).1,(cells_of_heap o8).2]
        refine ⟨((hrec4.alloc _).ext e6).setCell _ _,rfl,ee,?_,hF.symm⟩
        have:=heap_set (o:=0) ((((Ext.refl w4).alloc (.cells #[.int .i64 lo,.int .i64 hi] 300)).trans e6).obj o8) (.int .i64 2)
        simpa using this
  · rintro w3 ⟨e3,o5,o6,o7,hTA3,nb,x,o8,o9,hF⟩ hmk
    rw [List.drop_length] at hF
    simp only [checkedF] at hF
    have l2:w2.heap.size < w3.heap.size:=(Qk hmk).1
    cases nb with
    | true =>
     simp (disch:=try exact DI) only [↓PR,QR,simprocAttr,↓n108c1,↓n108c2,↓n108c3,↓n108c4,↓n108c5,↓n108c6,(cells_of_heap o8).1,(cells_of_heap o8).2,(cells_of_heap o9).1]
     refine outX_mark (hmk.setCell _ _) ?_
     simp (disch:=try exact DI) only [↓PR,QR,simprocAttr,outX_nil,retV,resOne,cell_putMark (hmk.setCell _ _),(cells_of_heap o8).1]
     exact ⟨by rw [← hF];rfl,ee⟩
    | false =>
     simp (disch:=try exact DI) only [↓PR,QR,simprocAttr,↓n108c1,↓n108c2,↓n108c3,↓n108c4,↓n108c5,↓n108c6,(cells_of_heap o8).1,(cells_of_heap o8).2,(cells_of_heap o9).1]
     refine outX_mark (hmk.setCell _ _) ?_
     simp (disch:=try exact DI) only [↓PR,QR,simprocAttr,outX_nil,retV,resOne,cell_putMark (hmk.setCell _ _),(cells_of_heap o8).1]
     exact ⟨by rw [← hF];rfl,ee⟩
  · rintro c w3 ⟨rfl,e3,o8,hF⟩ hmk
    have l2:w2.heap.size < w3.heap.size:=(Qk hmk).1
    show outX _ _ _ _ _
    refine outX_mark hmk ?_
    simp (disch:=try exact DI) only [↓PR,QR,simprocAttr,outX_nil,retV,resOne,cell_putMark hmk,(cells_of_heap o8).1]
    exact ⟨by rw [hF],ee⟩
  · rintro _ _ h
    exact h.elim
def numW (base:Int) (vf:TermD→Int) (ts:List TermD):Int:=ts.foldl (fun n t=>IntKind.i64.wrap (n+IntKind.i64.wrap (t.factor*vf t))) base
theorem number_ret (w0:World) (v:Value) (base:Int) (ts:List TermD) (g:FuncId) (caps:Array Value) (vf:TermD→Int) (hs:SizeVal w0 v base ts) (hg:Callable Pg g)
 (hc:∀ w t,Ext w0 w→Ret Pg g (#[termVal t]++caps) w fun r w'=>r = .int .i64 (vf t)∧Ext w w') :
 Ret Pg 261 #[v,.func (.func g) #[] caps] w0 fun r w'=>r = .int .i64 (numW base vf ts)∧Ext w0 w':=by
 obtain ⟨tv,rfl,hT⟩:=hs
 obtain ⟨A,c,rfl,hlc,hcm,hlm,hel⟩:=SliceOf.open hT
 refine n111s (R:=retR _) ?_;unfold n111
 simp (disch:=try exact DI) only [↓PR,QR,simprocAttr,↓n111c1,↓n111c2,↓n111c3]
 refine loop2_intro (fun a0 a1 w=>∃ (k:Nat) (n:Int),a0 = .int .i64 n∧a1 = .int .i64 (k:Int)∧k≤ts.length∧Ext w0 w∧numW n vf (ts.drop k)=numW base vf ts) (fun a0 a1 _=>ts.length - (intOf a1).toNat) ⟨0,base,rfl,rfl,Nat.zero_le _,ee,rfl⟩ ?_
 rintro _ _ w ⟨k,n,rfl,rfl,hk,e,hI⟩
 have se:=e.size
 rcases drop_cases hk with ⟨x,hx,hd,hlt,hdec⟩ | ⟨hk,hd,hdec⟩
 · obtain ⟨b,o,cs,rfl,hl,hA,rfl⟩:=hel k x hx
   rw [hd] at hI
   simp (disch:=try exact DI) only [↓PR,QR,simprocAttr,↓n111c1,↓n111c2,↓n111c3,hdec,hA.c2]
   refine drawK_intro ?_
   simp (disch:=try exact DI) only [↓PR,QR,simprocAttr,↓n111c1,↓n111c2,↓n111c3]
   rw [callV_func hg]
   refine zcr (hc _ x ee) fun w1 e1=>?_
   refine ⟨e1,?_⟩
   simp (disch:=try exact DI) only [↓PR,QR,simprocAttr,↓n111c1,↓n111c2,↓n111c3]
   exact ⟨⟨k+1,_,rfl,rfl,by omega,ee,hI⟩,meas_lt (kd := .i64) hlt⟩
 · subst hk
   simp (disch:=try exact DI) only [↓PR,QR,simprocAttr,↓n111c1,↓n111c2,↓n111c3,hdec]
   rw [hd] at hI
   exact ⟨by rw [← hI];rfl,e⟩
def RP (rp:List (ByteArray×Int×Int)):List (ByteArray×Value):=rp.map fun p=>(p.1,rangeVal p.2.1 p.2.2)
def lastR (rp:List (ByteArray×Int×Int)) (s:ByteArray):Option (Int×Int):=(rp.reverse.find? (fun p=>decide (p.1=s))).map (·.2)
theorem lastOf_RP (rp:List (ByteArray×Int×Int)) (s:ByteArray):lastOf (RP rp) s=(lastR rp s).map fun q=>rangeVal q.1 q.2:=by
 unfold lastOf RP lastR
 rw [← List.map_reverse,List.find?_map]
 simp only [Option.map_map]
 rfl
def numR (l:List FieldD):List (ByteArray×Int×Int):=(l.filter numberB).map fun f=>(f.name,f.low,highOf f)
theorem numPairs_RP (l:List FieldD):numPairs l=RP (numR l):=by
 unfold numPairs RP numR
 rw [List.map_map]
 rfl
def endF (rp:List (ByteArray×Int×Int)) (least:Bool) (t:TermD):Int:=match lastR rp t.field with
 | some (lo,hi)=>if least == decide (t.factor > 0) then lo else hi
 | none=>0
theorem end_ret (w0:World) (t:TermD) (pm pl m:Nat) (rp:List (ByteArray×Int×Int)) (least:Bool) (h1:w0.cell? ⟨pm,0,none⟩=some (.map (some m))) (h2:w0.cell? ⟨pl,0,none⟩=some (.bool least)) (hm:MapOf w0 m (RP rp)) :
 Ret Pg 262 #[termVal t,.pointer (some ⟨pm,0,none⟩),.pointer (some ⟨pl,0,none⟩)] w0 fun r w'=>r = .int .i64 (endF rp least t)∧Ext w0 w':=by
 have hb1:=World.block_lt_of_cell? w0 _ h1
 have hb2:=World.block_lt_of_cell? w0 _ h2
 simp only at hb1 hb2
 unfold termVal
 refine n99s (R:=retR _) ?_;unfold n99
 refine QJ h1 h2 ?_
 rw [op_lookup1O Tryz.underlying296 Tryz.underlying9 ty300 (hm.ext ee),lastOf_RP]
 unfold endF
 cases hl:lastR rp t.field with
 | none =>
  simp (disch:=try exact DI) only [↓PR,QR,simprocAttr,↓n99c1,h1,h2,Option.map_none]
  cases (least == decide (0 < t.factor)) with
  | true=>simp (disch:=try exact DI) only [↓PR,QR,simprocAttr,↓n99c1,h1,h2];exact ⟨by first | trivial | rfl,ee⟩
  | false =>
   simp (disch:=try exact DI) only [↓PR,QR,simprocAttr,↓n99c1,h1,h2]
   rw [op_lookup1O Tryz.underlying296 Tryz.underlying9 ty300 (hm.ext ee),lastOf_RP,hl]
   simp (disch:=try exact DI) only [↓PR,QR,simprocAttr,↓n99c1,Option.map_none]
   exact ⟨by first | trivial | rfl,ee⟩
 | some q =>
  obtain ⟨lo,hi⟩:=q
  simp (disch:=try exact DI) only [↓PR,QR,simprocAttr,↓n99c1,h1,h2,rangeVal]
  cases (least == decide (0 < t.factor)) with
  | true=>simp (disch:=try exact DI) only [↓PR,QR,simprocAttr,↓n99c1,h1,h2];exact ⟨by first | trivial | rfl,ee⟩
  | false =>
   simp (disch:=try exact DI) only [↓PR,QR,simprocAttr,↓n99c1,h1,h2]
   rw [op_lookup1O Tryz.underlying296 Tryz.underlying9 ty300 (hm.ext ee),lastOf_RP,hl]
   simp (disch:=try exact DI) only [↓PR,QR,simprocAttr,↓n99c1,rangeVal]
   exact ⟨by first | trivial | rfl,ee⟩
def wideB (lo hi:Int):Bool:=decide (0≤lo)&&decide (lo≤hi)&&decide (hi < 34359738368)
def wideV:Value→Bool
 | .agg a=>match a.toList with
  | [.int _ lo,.int _ hi]=>wideB lo hi
  | _=>false
 | _=>false
theorem fine_ret (w0:World) (lo hi:Int):Ret Pg 258 #[rangeVal lo hi] w0 fun r w'=>r = .bool (wideV (rangeVal lo hi))∧Ext w0 w':=by
 unfold rangeVal
 refine n97s (R:=retR _) ?_;unfold n97
 refine Qg ?_
 refine zcr (all3_ret (by simp only [World.size_alloc]) _ _ _ _) fun w1 e1=>?_
 have s1:=e1.size
 try simp only [World.size_alloc,World.size_setCell,World.size_drew,World.putObj_size,Sw.putW_size] at s1
 refine Qg ?_
 exact ⟨rfl,ee⟩
theorem ends_ret (w0:World) (pm ps m:Nat) (rp:List (ByteArray×Int×Int)) (least:Bool) (base:Int) (tv:Value) (ts:List TermD) (h0:w0.cell? ⟨ps,0,none⟩=some (.int .i64 base)) (h0':w0.cell? ⟨ps,1,none⟩=some tv) (hT:TermsOf w0 tv ts)
 (h1:w0.cell? ⟨pm,0,none⟩=some (.map (some m))) (hm:MapOf w0 m (RP rp)) :
 Ret Pg 260 #[.bool least,.pointer (some ⟨ps,0,none⟩),.pointer (some ⟨pm,0,none⟩)] w0 fun r w'=>r = .int .i64 (numW base (endF rp least) ts)∧Ext w0 w':=by
 have hb1:=World.block_lt_of_cell? w0 _ h0
 have hb2:=World.block_lt_of_cell? w0 _ h1
 simp only at hb1 hb2
 refine n98s (R:=retR _) ?_;unfold n98
 refine QJ h0 h0' ?_
 refine callK_ret (number_ret _ _ base ts _ _ (endF rp least) ⟨tv,rfl,TermsOf.ext hT ee⟩ c262 ?_) ?_
 · intro w t e
   exact end_ret w t pm w0.heap.size m rp least (((Ext.refl w0).alloc _).trans e |>.cell h1) (e.cell (by simp (disch:=try exact DI) only [↓PR,QR,simprocAttr])) (hm.ext (((Ext.refl w0).alloc _).trans e))
 rintro _ w1 ⟨rfl,e1⟩
 refine Qg ?_
 exact ⟨by first | trivial | rfl,ee⟩
def intervalE (base:Int) (ts:List TermD) (rp:List (ByteArray×Int×Int)):Int:=if sizeB base ts then checkedF ByteArray.empty (RP rp) wideV ts false else 2
def intervalL (base:Int) (ts:List TermD) (rp:List (ByteArray×Int×Int)):Int:=if intervalE base ts rp=0 then numW base (endF rp true) ts else 0
def intervalH (base:Int) (ts:List TermD) (rp:List (ByteArray×Int×Int)):Int:=if intervalE base ts rp=0 then numW base (endF rp false) ts else 0
theorem Interval_ret (w0:World) (v:Value) (base:Int) (ts:List TermD) (m:Nat) (rp:List (ByteArray×Int×Int)) (hs:SizeVal w0 v base ts) (hb:ts.length≤1048576) (hm:MapOf w0 m (RP rp)) :
 Ret Pg 249 #[v,.map (some m)] w0 fun r w'=>r = .tuple #[rangeVal (intervalL base ts rp) (intervalH base ts rp),.int .i64 (intervalE base ts rp)]∧Ext w0 w':=by
 obtain ⟨tv,rfl,hT⟩:=hs
 have hT1:=SliceOf.oneCell hT
 have hmlt:=hm.lt
 refine n96s (R:=retR _) ?_;unfold n96
 simp (disch:=try exact DI) only [↓PR,QR,simprocAttr,↓n96c1,↓n96c2,↓n96c3]
 refine callK_ret (checked_Range_ret _ _ base ts ByteArray.empty m (RP rp) _ _ wideV ⟨tv,rfl,TermsOf.ext hT ee⟩ hb (hm.ext ee) (fun k v hv=>?_) c258 (fun w lo hi e=>by simpa using fine_ret w lo hi)) ?_
 · rw [lastOf_RP] at hv
   obtain ⟨q,_,rfl⟩:=Option.map_eq_some_iff.1 hv
   exact ⟨q.1,q.2,rfl⟩
 rintro _ w1 ⟨rfl,e1⟩
 have s1:=e1.size
 simp only [World.size_alloc] at s1
 show n96c3 _ _ _ (.int .i64 (intervalE base ts rp)) _ w1
 unfold intervalL intervalH
 by_cases hE:intervalE base ts rp=0
 · rw [hE]
   simp (disch:=try exact DI) only [↓PR,QR,simprocAttr,↓n96c1,↓n96c2,↓n96c3]
   have c0:w1.cell? ⟨w0.heap.size,0,none⟩=some (.int .i64 base):=by simp (disch:=try exact DI) only [↓PR,QR,simprocAttr,e1.cellQ]
   have c1:w1.cell? ⟨w0.heap.size,1,none⟩=some tv:=by simp (disch:=try exact DI) only [↓PR,QR,simprocAttr,e1.cellQ]
   have c2:w1.cell? ⟨w0.heap.size+1,0,none⟩=some (.map (some m)):=by simp (disch:=try exact DI) only [↓PR,QR,simprocAttr,e1.cellQ]
   have eW:Ext w0 w1:=ee
   rw [callV_func c260]
   refine zcr (ends_ret w1 _ _ m rp true base tv ts c0 c1 (hT.ext eW) c2 (hm.ext eW)) fun w2 e2=>?_
   have s2:=e2.size
   simp only [World.size_alloc]
   rw [callV_func c260]
   refine zcr (ends_ret w2 _ _ m rp false base tv ts (e2.cell c0) (e2.cell c1) ((TermsOf.ext hT eW).ext e2) (e2.cell c2) ((hm.ext eW).ext e2)) fun w3 e3=>?_
   have s3:=e3.size
   simp (disch:=try exact DI) only [↓PR,QR,simprocAttr,↓n96c1,↓n96c2,↓n96c3,e1.cellQ,e1.frozenQ,e2.cellQ,e2.frozenQ,e3.cellQ,e3.frozenQ]
   exact ⟨by first | trivial | rfl,ee⟩
 · have hne:(intervalE base ts rp != 0)=true:=by simpa using hE
   simp (disch:=try exact DI) only [↓PR,QR,simprocAttr,↓n96c1,↓n96c2,↓n96c3,hne,e1.cellQ,e1.frozenQ]
   simp only [hE,if_false]
   exact ⟨by first | trivial | rfl,ee⟩
def n133c1 (t0 t1 t8:Value) (next1:KV) (R:RT) (w:World):Prop :=
 X0 94 t0 t8 R w fun t14 w =>
 L0 9 t14 R w fun t15 w =>
 callV Pg t1 #[t15] (panK R) w fun t16 w =>
 condP t16 (
 R (.returned t8) w) (
 B0 .add 3 true t8 (.int .i64 1) R w fun t18 w =>
 next1 t18 w)
def n133 (t0 t1:Value) (R:RT) (w:World):Prop :=
 opV Pg (Builtin.len_ #[94] 3 #[t0]) (panK R) w fun t7 w =>
 loop1 (fun t8 w next1 =>
 B0 .lss 3 false t8 t7 R w fun t9 w =>
 condP t9 (
 n133c1 t0 t1 t8 next1 R w) (
 R (.returned (.int .i64 (-1))) w)) (.int .i64 0) w
theorem n133s {t0 t1:Value} {R:RT} {w:World} (h:n133 t0 t1 R w):Calls Pg 129 #[t0,t1] w R:=by
 refine yD Tryz.func129 ?_
 refine zs<|zr<|zm<|zn<|zk<|zs<|zs<|zr<|zm<|yx h fun _ w h=>zm<|zn<|zk<|sim_block<|yl1 [4,5,8,9,10,11,12,13,14,15,16,17,18] 8 h fun σ w next h=>?_
 refine zs<|zr<|yb h fun _ w h=>zn<|zk<|zs<|yC h (fun h=>?_) fun h=>?_
 · refine sim_skip<|zk<|zs<|sim_block<|zs<|zr<|zm<|zm<|zn<|zk<|zs<|zr<|zm<|zm<|zm ?_
   refine yv h fun _ w h=>yv h fun _ w h=>yV h fun _ w h=>zn<|zk<|yC h (fun h=>zs<|zr<|zm<|zm<|zn<|zk<|sim_ret<|sim_block_ret<|sim_then_ret<|sim_then_ret<|sim_block_ret<|sim_then_ret<|body_ret1 rfl rfl h) fun h=>sim_skip<|sim_block_normal<|zk<|zr<|yb h fun _ w h=>zm<|zn<|zk ?_
   exact ⟨rfl,h⟩
 exact sim_exit<|sim_then_exit<|sim_then_exit<|sim_block_hit<|zk<|zs<|zr<|zm<|zn<|zk<|sim_ret<|body_ret1 rfl rfl h
def n67c1 (t0 t1 t3:Value) (K1:World→Prop) (R:RT) (w:World):Prop :=
 opV Pg (Instr.typeAssert t3 20 131 true) (panK R) w fun t8 w =>
 opV Pg (Instr.extract t8 0) (panK R) w fun t9 w =>
 opV Pg (Instr.extract t8 1) (panK R) w fun t10 w =>
 opU Pg (Instr.storeAt 131 t0 t9) (panK R) w fun w =>
 opU Pg (Instr.storeAt 4 t1 t10) (panK R) w fun w =>
 L0 4 t1 R w fun t11 w =>
 opV Pg (Op.unary .not t11) (panK R) w fun t12 w =>
 condP t12 (
 opV Pg (Instr.panic t3) (panK R) w fun _ w =>
 False) (
 K1 w)
def n67 (t0 t1 t3:Value) (R:RT) (w:World):Prop :=
 opV Pg (binS .neq 20 true t3 .nilIface) (panK R) w fun t5 w =>
 joinK (fun (w:World) =>
 R (.returned (.tuple #[])) w) fun K1 =>
 condP t5 (
 n67c1 t0 t1 t3 K1 R w) (
 K1 w)
theorem n67s {t0 t1:Value} {u:FrameMode} {R:Ending→FrameMode→World→Prop} {w:World} (h:n67 t0 t1 (Sw.recM u).1 (fun e w=>R e (Sw.recM u).2 w) w):CallsDIn Fence.wide 0 Pg 134 #[t0,t1] u w R:=by
 refine calls_of_denR (args:=[t0,t1]) (d:=3) Tryz.func134 rfl (Nat.le_of_ble_eq_true rfl) rfl rfl rfl rfl ?_
 generalize (recM u).1=t3 at h ⊢
 generalize hR:(fun e w=>R e (recM u).2 w)=R' at h ⊢
 clear hR
 revert h
 generalize R'=R
 intro h
 unfold n67 at h
 refine zm<|zn<|zs<|zr<|zm<|yb h fun _ w h=>zn<|zk<|yJ0 [6,7,8,9,10,11,12,13] h (fun _ _ hkK1 h=>?_) fun σ w h=>?_
 · refine yC h (fun h=>?_) fun h=>?_
   · refine zs<|zr<|zm<|yv h fun _ w h=>zm<|yv h fun _ w h=>yv h fun _ w h=>yu h fun w h=>yu h fun w h=>zn<|zk<|zs<|zr<|yv h fun _ w h=>yv h fun _ w h=>?_
     refine zn<|zk<|yC h (fun h=>zr<|zm<|yv h fun _ w h=>zn<|h.elim) fun h=>sim_skip<|zk ?_
     exact zt hkK1 h
   refine sim_skip<|zk ?_
   exact zt hkK1 h
 exact body_normal<|body_ret0 rfl h
def n61c1 (t0 t2:Value) (C1:World→Prop) (R:RT) (w:World):Prop :=
 qN Pg C1 (nilN t0) fun t9 =>
 qV Pg C1 (Instr.fieldAt 201 t9 3) fun t10 =>
 qV Pg C1 (Instr.loadAt 3 t10) fun t11 =>
 qN Pg C1 (nilN t0) fun t13 =>
 qV Pg C1 (Instr.fieldAt 201 t13 4) fun t14 =>
 qV Pg C1 (Instr.loadAt 3 t14) fun t15 =>
 qV Pg C1 (Instr.build 131 #[(0,t11),(1,t15),(2,t2)]) fun t17 =>
 qV Pg C1 (Instr.makeInterface 131 t17) fun t18 =>
 opV Pg (Instr.panic t18) (panK R) w fun _ w =>
 False
def n61 (t0 t1 t2:Value) (R:RT) (w:World):Prop :=
 opV Pg (Op.unary .not t1) (panK R) w fun t7 w =>
 condP t7 (
 drawK w fun C1 w =>
 n61c1 t0 t2 C1 R w) (
 R (.returned (.tuple #[])) w)
theorem n61s {t0 t1 t2:Value} {R:RT} {w:World} (h:n61 t0 t1 t2 R w):Calls Pg 135 #[t0,t1,t2] w R:=by
 refine yD Tryz.func135 ?_
 refine zs<|zr<|zm<|yv h fun _ w h=>zn<|zk<|yC h (fun h=>?_) fun h=>?_
 · refine yh [8,9,10,11,12,13,14,15,16,17,18] h fun C hC h=>yw 0 hC ?_
   refine yn 1 hC h fun _ h=>?_
   refine ye 2 hC h fun _ h=>?_
   refine ye 3 hC h fun _ h=>?_
   refine yw 4 hC ?_
   refine yn 5 hC h fun _ h=>?_
   refine ye 6 hC h fun _ h=>?_
   refine ye 7 hC h fun _ h=>?_
   refine yw 8 hC ?_
   refine ye 9 hC h fun _ h=>?_
   refine ye 10 hC h fun _ h=>?_
   refine yo 11 ?_
   exact yv h fun _ w h=>zn<|h.elim
 exact sim_skip<|body_normal<|body_ret0 rfl h
def n56c1 (t0:Value) (C1:World→Prop) (R:RT) (w:World):Prop :=
 qN Pg C1 (nilN t0) fun t4 =>
 qV Pg C1 (Instr.fieldAt 201 t4 5) fun t5 =>
 qV Pg C1 (Instr.fieldAt 74 t5 1) fun t6 =>
 qV Pg C1 (Instr.loadAt 72 t6) fun t7 =>
 qN Pg C1 (nilN t0) fun t9 =>
 qV Pg C1 (Instr.fieldAt 201 t9 4) fun t10 =>
 qV Pg C1 (Instr.loadAt 3 t10) fun t11 =>
 qV Pg C1 (Instr.sliceAt 72 t7 none (some t11) none) fun t12 =>
 R (.returned t12) w
def n56 (t0:Value) (R:RT) (w:World):Prop :=
 drawK w fun C1 w =>
 n56c1 t0 C1 R w
theorem n56s {t0:Value} {R:RT} {w:World} (h:n56 t0 R w):Calls Pg 195 #[t0] w R:=by
 refine yD Tryz.func195 ?_
 refine zs<|zr<|zm<|zn<|zk<|zs<|yh [2,3,4,5,6,7,8,9,10,11,12] h fun C hC h=>yw 0 hC ?_
 refine yn 1 hC h fun _ h=>?_
 refine ye 2 hC h fun _ h=>?_
 refine ye 3 hC h fun _ h=>?_
 refine ye 4 hC h fun _ h=>?_
 refine yw 5 hC ?_
 refine yn 6 hC h fun _ h=>?_
 refine ye 7 hC h fun _ h=>?_
 refine ye 8 hC h fun _ h=>?_
 refine ye 9 hC h fun _ h=>?_
 refine yw 10 hC ?_
 exact yz<|zk<|sim_ret<|body_ret1 rfl rfl h
def n70 (R:RT) (w:World):Prop :=
 opV Pg (Instr.makeMap 257 none) (panK R) w fun t1 w =>
 opV Pg (Instr.build 255 #[(0,(.func (.func 212) #[] #[])),(1,(.func (.func 213) #[] #[]))]) (panK R) w fun t2 w =>
 opU Pg (Instr.mapUpdate 257 t1 (.int .i64 1) t2) (panK R) w fun w =>
 opV Pg (Instr.build 255 #[(0,(.func (.func 216) #[] #[])),(1,(.func (.func 217) #[] #[]))]) (panK R) w fun t3 w =>
 opU Pg (Instr.mapUpdate 257 t1 (.int .i64 2) t3) (panK R) w fun w =>
 opV Pg (Instr.build 255 #[(0,(.func (.func 218) #[] #[])),(1,(.func (.func 219) #[] #[]))]) (panK R) w fun t4 w =>
 opU Pg (Instr.mapUpdate 257 t1 (.int .i64 3) t4) (panK R) w fun w =>
 opV Pg (Instr.build 255 #[(0,(.func (.func 220) #[] #[])),(1,(.func (.func 221) #[] #[]))]) (panK R) w fun t5 w =>
 opU Pg (Instr.mapUpdate 257 t1 (.int .i64 4) t5) (panK R) w fun w =>
 opV Pg (Instr.build 255 #[(0,(.func (.func 222) #[] #[])),(1,(.func (.func 223) #[] #[]))]) (panK R) w fun t6 w =>
 opU Pg (Instr.mapUpdate 257 t1 (.int .i64 5) t6) (panK R) w fun w =>
 opV Pg (Instr.build 255 #[(0,(.func (.func 224) #[] #[])),(1,(.func (.func 225) #[] #[]))]) (panK R) w fun t7 w =>
 opU Pg (Instr.mapUpdate 257 t1 (.int .i64 6) t7) (panK R) w fun w =>
 opV Pg (Instr.build 255 #[(0,(.func (.func 226) #[] #[])),(1,(.func (.func 227) #[] #[]))]) (panK R) w fun t8 w =>
 opU Pg (Instr.mapUpdate 257 t1 (.int .i64 7) t8) (panK R) w fun w =>
 opV Pg (Instr.build 255 #[(0,(.func (.func 229) #[] #[])),(1,(.func (.func 230) #[] #[]))]) (panK R) w fun t9 w =>
 opU Pg (Instr.mapUpdate 257 t1 (.int .i64 8) t9) (panK R) w fun w =>
 opV Pg (Instr.build 255 #[(0,(.func (.func 231) #[] #[])),(1,(.func (.func 232) #[] #[]))]) (panK R) w fun t10 w =>
 opU Pg (Instr.mapUpdate 257 t1 (.int .i64 9) t10) (panK R) w fun w =>
 opV Pg (Instr.build 255 #[(0,(.func (.func 233) #[] #[])),(1,(.func (.func 234) #[] #[]))]) (panK R) w fun t11 w =>
 opU Pg (Instr.mapUpdate 257 t1 (.int .i64 10) t11) (panK R) w fun w =>
 opV Pg (Instr.build 255 #[(0,(.func (.func 235) #[] #[])),(1,(.func (.func 236) #[] #[]))]) (panK R) w fun t12 w =>
 opU Pg (Instr.mapUpdate 257 t1 (.int .i64 11) t12) (panK R) w fun w =>
 opV Pg (Instr.build 255 #[(0,(.func (.func 237) #[] #[])),(1,(.func (.func 238) #[] #[]))]) (panK R) w fun t13 w =>
 opU Pg (Instr.mapUpdate 257 t1 (.int .i64 12) t13) (panK R) w fun w =>
 R (.returned t1) w
theorem n70s {R:RT} {w:World} (h:n70 R w):Calls Pg 196 #[] w R:=by
 refine yD Tryz.func196 ?_
 refine zs<|zr<|zm<|zn<|zk<|zs<|zr<|yv h fun _ w h=>yB h fun _ w h=>yu h fun w h=>yB h fun _ w h=>yu h fun w h=>yB h fun _ w h=>yu h fun w h=>yB h fun _ w h=>?_
 refine yu h fun w h=>yB h fun _ w h=>yu h fun w h=>yB h fun _ w h=>yu h fun w h=>yB h fun _ w h=>yu h fun w h=>yB h fun _ w h=>yu h fun w h=>yB h fun _ w h=>yu h fun w h=>yB h fun _ w h=>yu h fun w h=>yB h fun _ w h=>yu h fun w h=>?_
 exact yB h fun _ w h=>yu h fun w h=>zm<|zm<|zn<|zk<|sim_ret<|body_ret1 rfl rfl h
def n95c1 (t2 t3 t9 t17:Value) (C1:World→Prop) (R:RT) (w:World):Prop :=
 pickK t9 t17 (.bool false) fun t18 =>
 joinK (fun (t24:Value) (w:World) =>
 pickK t18 t24 (.bool false) fun t25 =>
 R (.returned t25) w) fun K3 =>
 guardP t18 true (
 qV Pg C1 (Instr.fieldAt 123 t2 11) fun t20 =>
 qV Pg C1 (Instr.loadAt 121 t20) fun t21 =>
 qV Pg C1 (Instr.fieldAt 123 t3 11) fun t22 =>
 qV Pg C1 (Instr.loadAt 121 t22) fun t23 =>
 C0 241 #[t21,t23] R w fun t24 w =>
 C1 w∧(
 K3 t24 w)) (
 K3 undef w)
def n95c2 (t2 t3 t6 t8:Value) (C1:World→Prop) (R:RT) (w:World):Prop :=
 qV Pg C1 (binS .eql 287 false t6 t8) fun t9 =>
 joinK (fun (t17:Value) (w:World) =>
 n95c1 t2 t3 t9 t17 C1 R w) fun K2 =>
 guardP t9 true (
 qV Pg C1 (Instr.fieldAt 123 t2 7) fun t11 =>
 qV Pg C1 (Instr.fieldAt 120 t11 1) fun t12 =>
 qV Pg C1 (Instr.loadAt 118 t12) fun t13 =>
 qV Pg C1 (Instr.fieldAt 123 t3 7) fun t14 =>
 qV Pg C1 (Instr.fieldAt 120 t14 1) fun t15 =>
 qV Pg C1 (Instr.loadAt 118 t15) fun t16 =>
 C0 240 #[t13,t16] R w fun t17 w =>
 C1 w∧(
 K2 t17 w)) (
 K2 undef w)
def n95c3 (t2 t3:Value) (C1:World→Prop) (R:RT) (w:World):Prop :=
 qV Pg C1 (Instr.loadAt 123 t2) fun t5 =>
 qV Pg C1 (Instr.loadAt 123 t3) fun t7 =>
 C0 239 #[t5] R w fun t6 w =>
 C1 w∧(
 C0 239 #[t7] R w fun t8 w =>
 C1 w∧(
 n95c2 t2 t3 t6 t8 C1 R w))
def n95 (t0 t1:Value) (R:RT) (w:World):Prop :=
 opV Pg (Instr.box 123 t0) (panK R) w fun t2 w =>
 opV Pg (Instr.box 123 t1) (panK R) w fun t3 w =>
 drawK w fun C1 w =>
 n95c3 t2 t3 C1 R w
theorem n95s {t0 t1:Value} {R:RT} {w:World} (h:n95 t0 t1 R w):Calls Pg 197 #[t0,t1] w R:=by
 refine yD Tryz.func197 ?_
 refine zs<|zr<|yv h fun _ w h=>yv h fun _ w h=>zm<|zn<|zk<|zs<|yh [4,5,6,7,8,9,10,11,12,13,14,15,16,17,18,19,20,21,22,23,24,25] h fun C hC h=>ye 0 hC h fun _ h=>?_
 refine ye 2 hC h fun _ h=>?_
 refine yo 1 ?_
 refine yc h c239 fun _ w h=>zn ?_
 obtain ⟨hC,h⟩:=h
 refine ⟨hC,?_⟩
 refine yo 3 ?_
 refine yc h c239 fun _ w h=>zn ?_
 obtain ⟨hC,h⟩:=h
 refine ⟨hC,?_⟩
 refine ye 4 hC h fun _ h=>?_
 refine yw 5 hC ?_
 refine yj1 9 [12,11,10,9,8,7,6,5,4,3,1,2,0] [11,12,13,14,15,16,17] 17 h (fun _ hT hb h=>?_) (fun _ hT hb h=>?_) fun σ w hC h=>?_
 · refine ye 6 hC h fun _ h=>?_
   refine ye 7 hC h fun _ h=>?_
   refine ye 8 hC h fun _ h=>?_
   refine ye 9 hC h fun _ h=>?_
   refine ye 10 hC h fun _ h=>?_
   refine ye 11 hC h fun _ h=>?_
   refine yo 12 ?_
   refine yc h c240 fun _ w h=>zn ?_
   obtain ⟨hC,h⟩:=h
   refine ⟨hC,?_⟩
   exact yt hT hC h
 · refine yi 6 hC ?_
   refine yi 7 hC ?_
   refine yi 8 hC ?_
   refine yi 9 hC ?_
   refine yi 10 hC ?_
   refine yi 11 hC ?_
   refine yi 12 hC ?_
   exact yt hT hC h
 refine yP 13 hC h fun _ h=>?_
 refine yw 14 hC ?_
 refine yj1 2 [19,18,17,16,15,14,13,12,11,10,9,8,7,6,5,4,3,1,2,0] [20,21,22,23,24] 24 h (fun _ hT hb h=>?_) (fun _ hT hb h=>?_) fun σ w hC h=>?_
 · refine ye 15 hC h fun _ h=>?_
   refine ye 16 hC h fun _ h=>?_
   refine ye 17 hC h fun _ h=>?_
   refine ye 18 hC h fun _ h=>?_
   refine yo 19 ?_
   refine yc h c241 fun _ w h=>zn ?_
   obtain ⟨hC,h⟩:=h
   refine ⟨hC,?_⟩
   exact yt hT hC h
 · refine yi 15 hC ?_
   refine yi 16 hC ?_
   refine yi 17 hC ?_
   refine yi 18 hC ?_
   refine yi 19 hC ?_
   exact yt hT hC h
 refine yP 20 hC h fun _ h=>?_
 refine yw 21 hC ?_
 exact yz<|zk<|sim_ret<|body_ret1 rfl rfl h
def n71 (t0:Value) (R:RT) (w:World):Prop :=
 opN Pg (nilN t0) (panK R) w fun t6 w =>
 F0 123 t6 2 R w fun t7 w =>
 opU Pg (Instr.storeAt 3 t7 (.int .i64 0)) (panK R) w fun w =>
 opN Pg (nilN t0) (panK R) w fun t8 w =>
 F0 123 t8 3 R w fun t9 w =>
 opU Pg (Instr.storeAt 4 t9 (.bool false)) (panK R) w fun w =>
 opN Pg (nilN t0) (panK R) w fun t10 w =>
 F0 123 t10 5 R w fun t11 w =>
 opU Pg (Instr.storeAt 3 t11 (.int .i64 0)) (panK R) w fun w =>
 opN Pg (nilN t0) (panK R) w fun t12 w =>
 F0 123 t12 6 R w fun t13 w =>
 opU Pg (Instr.storeAt 3 t13 (.int .i64 0)) (panK R) w fun w =>
 R (.returned (.tuple #[])) w
theorem n71s {t0:Value} {R:RT} {w:World} (h:n71 t0 R w):Calls Pg 212 #[t0] w R:=by
 refine yD Tryz.func212 ?_
 refine zr<|zm<|zm<|zm<|zm<|yN h fun _ w h=>yv h fun _ w h=>yu h fun w h=>yN h fun _ w h=>yv h fun _ w h=>yu h fun w h=>yN h fun _ w h=>yv h fun _ w h=>yu h fun w h=>yN h fun _ w h=>?_
 exact yv h fun _ w h=>yu h fun w h=>zn<|body_normal<|body_ret0 rfl h
def n82c1 (t0 t3:Value) (C1:World→Prop) (R:RT) (w:World):Prop :=
 qV Pg C1 (Instr.fieldAt 123 t3 2) fun t8 =>
 qV Pg C1 (Instr.loadAt 3 t8) fun t9 =>
 qV Pg C1 (binS .shl 3 true (.int .i64 1) t9) fun t10 =>
 qV Pg C1 (binS .sub 3 true t10 (.int .i64 1)) fun t11 =>
 qV Pg C1 (Instr.fieldAt 123 t3 5) fun t12 =>
 qV Pg C1 (Instr.loadAt 3 t12) fun t13 =>
 qV Pg C1 (Instr.fieldAt 123 t3 6) fun t14 =>
 qV Pg C1 (Instr.loadAt 3 t14) fun t15 =>
 opV Pg (Instr.buildSlice 61 2 #[(0,t13),(1,t15)]) (panK R) w fun t16 w =>
 C1 w∧(
 C0 215 #[t0,(.int .i64 0),t11,t16] R w fun t17 w =>
 C1 w∧(
 R (.returned (.tuple #[])) w))
def n82 (t0 t1:Value) (R:RT) (w:World):Prop :=
 opV Pg (Instr.box 123 t1) (panK R) w fun t3 w =>
 L0 123 t3 R w fun t5 w =>
 C0 214 #[t0,t5] R w fun t6 w =>
 drawK w fun C1 w =>
 n82c1 t0 t3 C1 R w
theorem n82s {t0 t1:Value} {R:RT} {w:World} (h:n82 t0 t1 R w):Calls Pg 213 #[t0,t1] w R:=by
 refine yD Tryz.func213 ?_
 refine zs<|zr<|yv h fun _ w h=>zn<|zk<|zs<|zr<|zm<|yv h fun _ w h=>yc h c214 fun _ w h=>zn<|zk<|yh [7,8,9,10,11,12,13,14,15,16,17] h fun C hC h=>yw 0 hC ?_
 refine ye 1 hC h fun _ h=>?_
 refine ye 2 hC h fun _ h=>?_
 refine ye 3 hC h fun _ h=>?_
 refine ye 4 hC h fun _ h=>?_
 refine ye 5 hC h fun _ h=>?_
 refine ye 6 hC h fun _ h=>?_
 refine ye 7 hC h fun _ h=>?_
 refine ye 8 hC h fun _ h=>?_
 refine yo 9 ?_
 refine yS h fun _ w h=>zn ?_
 obtain ⟨hC,h⟩:=h
 refine ⟨hC,?_⟩
 refine yo 10 ?_
 refine yc h c215 fun _ w h=>zn ?_
 obtain ⟨hC,h⟩:=h
 refine ⟨hC,?_⟩
 exact yz<|body_normal<|body_ret0 rfl h
def n57c1 (t0 t12 t17 t26:Value) (R:RT) (w:World):Prop :=
 joinK (fun (t27:Value) (w:World) =>
 pickK t12 t27 (.bool false) fun t28 =>
 C0 135 #[t0,t28,(.int .i64 6)] R w fun t29 w =>
 R (.returned (.tuple #[])) w) fun K6 =>
 guardP t12 true (
 pickK t17 (.bool true) t26 fun t27 =>
 K6 t27 w) (
 K6 undef w)
def n57c2 (t0 t3 t12 t17 t21:Value) (R:RT) (w:World):Prop :=
 joinK (fun (t25:Value) (w:World) =>
 joinK (fun (t26:Value) (w:World) =>
 n57c1 t0 t12 t17 t26 R w) fun K5 =>
 guardP t17 false (
 pickK t21 t25 (.bool false) fun t26 =>
 K5 t26 w) (
 K5 undef w)) fun K4 =>
 guardP t21 true (
 F0 123 t3 2 R w fun t22 w =>
 L0 3 t22 R w fun t23 w =>
 B0 .rem 3 true t23 (.int .i64 8) R w fun t24 w =>
 B0 .eql 3 true t24 (.int .i64 0) R w fun t25 w =>
 K4 t25 w) (
 K4 undef w)
def n57c3 (t0 t3 t12 t17:Value) (R:RT) (w:World):Prop :=
 joinK (fun (t21:Value) (w:World) =>
 n57c2 t0 t3 t12 t17 t21 R w) fun K3 =>
 guardP t17 false (
 F0 123 t3 2 R w fun t18 w =>
 L0 3 t18 R w fun t19 w =>
 B0 .gtr 3 true t19 (.int .i64 8) R w fun t20 w =>
 K3 t20 w) (
 K3 undef w)
def n57c4 (t0 t3 t7 t11:Value) (R:RT) (w:World):Prop :=
 pickK t7 t11 (.bool false) fun t12 =>
 joinK (fun (t17:Value) (w:World) =>
 n57c3 t0 t3 t12 t17 R w) fun K2 =>
 guardP t12 true (
 F0 123 t3 3 R w fun t14 w =>
 L0 4 t14 R w fun t15 w =>
 opV Pg (Op.unary .not t15) (panK R) w fun t16 w =>
 K2 t16 w) (
 K2 undef w)
def n57 (t0 t1:Value) (R:RT) (w:World):Prop :=
 opV Pg (Instr.box 123 t1) (panK R) w fun t3 w =>
 F0 123 t3 2 R w fun t5 w =>
 L0 3 t5 R w fun t6 w =>
 B0 .geq 3 true t6 (.int .i64 1) R w fun t7 w =>
 joinK (fun (t11:Value) (w:World) =>
 n57c4 t0 t3 t7 t11 R w) fun K1 =>
 guardP t7 true (
 F0 123 t3 2 R w fun t9 w =>
 L0 3 t9 R w fun t10 w =>
 B0 .leq 3 true t10 (.int .i64 32) R w fun t11 w =>
 K1 t11 w) (
 K1 undef w)
theorem n57s {t0 t1:Value} {R:RT} {w:World} (h:n57 t0 t1 R w):Calls Pg 214 #[t0,t1] w R:=by
 refine yD Tryz.func214 ?_
 refine zs<|zr<|yv h fun _ w h=>zn<|zk<|sim_regionG<|yG 5<|zm<|yv h fun _ w h=>yv h fun _ w h=>yb h fun _ w h=>zm<|zn<|yg1 3 4 true [9,10,11] 11 h (fun _ T hT h=>?_) fun σ w h=>?_
 · refine yv h fun _ w h=>yv h fun _ w h=>yb h fun _ w h=>zn ?_
   exact zt hT h
 refine yG 2<|yp h fun _ h=>zm<|zn<|yg1 4 9 true [14,15,16,17] 17 h (fun _ T hT h=>?_) fun σ w h=>?_
 · refine yv h fun _ w h=>yv h fun _ w h=>yv h fun _ w h=>zm<|zn ?_
   exact zt hT h
 refine yg1 4 13 false [18,19,20,21] 21 h (fun _ T hT h=>?_) fun σ w h=>?_
 · refine yv h fun _ w h=>yv h fun _ w h=>yb h fun _ w h=>zm<|zn ?_
   exact zt hT h
 refine yg1 4 17 true [22,23,24,25] 25 h (fun _ T hT h=>?_) fun σ w h=>?_
 · refine yv h fun _ w h=>yv h fun _ w h=>yb h fun _ w h=>yb h fun _ w h=>zn ?_
   exact zt hT h
 refine yg1 1 13 false [26] 26 h (fun _ T hT h=>?_) fun σ w h=>?_
 · refine yp h fun _ h=>zn ?_
   exact zt hT h
 refine yg1 1 9 true [27] 27 h (fun _ T hT h=>?_) fun σ w h=>?_
 · refine yp h fun _ h=>zn ?_
   exact zt hT h
 exact yG 2<|yp h fun _ h=>yc h c135 fun _ w h=>zn<|sim_end<|body_normal<|body_ret0 rfl h
def n65c1 (t0 t12 t15 t19 t23:Value) (next1:KW) (R:RT) (w:World):Prop :=
 pickK t19 t23 (.bool false) fun t24 =>
 C0 135 #[t0,t24,(.int .i64 7)] R w fun t25 w =>
 B0 .add 3 true t12 (.int .i64 1) R w fun t27 w =>
 next1 t15 t27 w
def n65c2 (t0 t1 t2 t3 t12:Value) (next1:KW) (R:RT) (w:World):Prop :=
 X0 61 t3 t12 R w fun t14 w =>
 L0 3 t14 R w fun t15 w =>
 B0 .geq 3 false t15 t1 R w fun t19 w =>
 joinK (fun (t23:Value) (w:World) =>
 n65c1 t0 t12 t15 t19 t23 next1 R w) fun K2 =>
 guardP t19 true (
 B0 .leq 3 false t15 t2 R w fun t23 w =>
 K2 t23 w) (
 K2 undef w)
def n65 (t0 t1 t2 t3:Value) (R:RT) (w:World):Prop :=
 opV Pg (Builtin.len_ #[61] 3 #[t3]) (panK R) w fun t11 w =>
 loop2 (fun t1 t12 w next1 =>
 B0 .lss 3 false t12 t11 R w fun t13 w =>
 condP t13 (
 n65c2 t0 t1 t2 t3 t12 next1 R w) (
 R (.returned (.tuple #[])) w)) t1 (.int .i64 0) w
theorem n65s {t0 t1 t2 t3:Value} {R:RT} {w:World} (h:n65 t0 t1 t2 t3 R w):Calls Pg 215 #[t0,t1,t2,t3] w R:=by
 refine yD Tryz.func215 ?_
 refine zs<|zr<|zm<|yx h fun _ w h=>zm<|zn<|zk<|sim_block<|yl2 [1,9,12,13,14,15,16,17,18,19,20,21,22,23,24,25,26,27] 1 12 h fun σ w next h=>zs<|zr<|yb h fun _ w h=>zn<|zk<|zs ?_
 refine yC h (fun h=>?_) fun h=>?_
 · refine sim_skip<|zk<|zs<|sim_block<|zs<|zr<|yv h fun _ w h=>yv h fun _ w h=>zm<|zn<|zk<|zs<|sim_regionG<|yG 5<|zm ?_
   refine zm<|zm<|yb h fun _ w h=>zm<|zn<|yg1 3 4 true [21,22,23] 23 h (fun _ T hT h=>?_) fun σ w h=>?_
   · refine zm<|zm<|yb h fun _ w h=>zn ?_
     exact zt hT h
   refine yG 2<|yp h fun _ h=>yc h c135 fun _ w h=>zn<|sim_end<|zk<|zr<|zm<|zm<|zn<|sim_block_normal<|zk<|zr<|yb h fun _ w h=>zm ?_
   exact zn<|zk<|⟨rfl,h⟩
 exact sim_exit<|sim_then_exit<|sim_then_exit<|sim_block_hit<|body_normal<|body_ret0 rfl h
def n86 (t0:Value) (R:RT) (w:World):Prop :=
 opN Pg (nilN t0) (panK R) w fun t5 w =>
 F0 123 t5 2 R w fun t6 w =>
 opU Pg (Instr.storeAt 3 t6 (.int .i64 0)) (panK R) w fun w =>
 opN Pg (nilN t0) (panK R) w fun t7 w =>
 F0 123 t7 3 R w fun t8 w =>
 opU Pg (Instr.storeAt 4 t8 (.bool false)) (panK R) w fun w =>
 opN Pg (nilN t0) (panK R) w fun t9 w =>
 F0 123 t9 5 R w fun t10 w =>
 opU Pg (Instr.storeAt 3 t10 (.int .i64 0)) (panK R) w fun w =>
 R (.returned (.tuple #[])) w
theorem n86s {t0:Value} {R:RT} {w:World} (h:n86 t0 R w):Calls Pg 216 #[t0] w R:=by
 refine yD Tryz.func216 ?_
 refine zr<|zm<|zm<|zm<|yN h fun _ w h=>yv h fun _ w h=>yu h fun w h=>yN h fun _ w h=>yv h fun _ w h=>yu h fun w h=>yN h fun _ w h=>yv h fun _ w h=>yu h fun w h=>zn<|body_normal ?_
 exact body_ret0 rfl h
def n87c1 (t0 t3:Value) (C1:World→Prop) (R:RT) (w:World):Prop :=
 qV Pg C1 (Instr.fieldAt 123 t3 2) fun t8 =>
 qV Pg C1 (Instr.loadAt 3 t8) fun t9 =>
 qV Pg C1 (binS .shl 3 true (.int .i64 1) t9) fun t10 =>
 qV Pg C1 (binS .sub 3 true t10 (.int .i64 1)) fun t11 =>
 qV Pg C1 (Instr.fieldAt 123 t3 5) fun t12 =>
 qV Pg C1 (Instr.loadAt 3 t12) fun t13 =>
 opV Pg (Instr.buildSlice 61 1 #[(0,t13)]) (panK R) w fun t14 w =>
 C1 w∧(
 C0 215 #[t0,(.int .i64 0),t11,t14] R w fun t15 w =>
 C1 w∧(
 R (.returned (.tuple #[])) w))
def n87 (t0 t1:Value) (R:RT) (w:World):Prop :=
 opV Pg (Instr.box 123 t1) (panK R) w fun t3 w =>
 L0 123 t3 R w fun t5 w =>
 C0 214 #[t0,t5] R w fun t6 w =>
 drawK w fun C1 w =>
 n87c1 t0 t3 C1 R w
theorem n87s {t0 t1:Value} {R:RT} {w:World} (h:n87 t0 t1 R w):Calls Pg 217 #[t0,t1] w R:=by
 refine yD Tryz.func217 ?_
 refine zs<|zr<|yv h fun _ w h=>zn<|zk<|zs<|zr<|zm<|yv h fun _ w h=>yc h c214 fun _ w h=>zn<|zk<|yh [7,8,9,10,11,12,13,14,15] h fun C hC h=>yw 0 hC ?_
 refine ye 1 hC h fun _ h=>?_
 refine ye 2 hC h fun _ h=>?_
 refine ye 3 hC h fun _ h=>?_
 refine ye 4 hC h fun _ h=>?_
 refine ye 5 hC h fun _ h=>?_
 refine ye 6 hC h fun _ h=>?_
 refine yo 7 ?_
 refine yS h fun _ w h=>zn ?_
 obtain ⟨hC,h⟩:=h
 refine ⟨hC,?_⟩
 refine yo 8 ?_
 refine yc h c215 fun _ w h=>zn ?_
 obtain ⟨hC,h⟩:=h
 refine ⟨hC,?_⟩
 exact yz<|body_normal<|body_ret0 rfl h
def n88 (t0:Value) (R:RT) (w:World):Prop :=
 opN Pg (nilN t0) (panK R) w fun t5 w =>
 F0 123 t5 4 R w fun t6 w =>
 opU Pg (Instr.storeAt 4 t6 (.bool false)) (panK R) w fun w =>
 opN Pg (nilN t0) (panK R) w fun t7 w =>
 F0 123 t7 5 R w fun t8 w =>
 opU Pg (Instr.storeAt 3 t8 (.int .i64 0)) (panK R) w fun w =>
 opN Pg (nilN t0) (panK R) w fun t9 w =>
 F0 123 t9 6 R w fun t10 w =>
 opU Pg (Instr.storeAt 3 t10 (.int .i64 0)) (panK R) w fun w =>
 R (.returned (.tuple #[])) w
theorem n88s {t0:Value} {R:RT} {w:World} (h:n88 t0 R w):Calls Pg 218 #[t0] w R:=by
 refine yD Tryz.func218 ?_
 refine zr<|zm<|zm<|zm<|yN h fun _ w h=>yv h fun _ w h=>yu h fun w h=>yN h fun _ w h=>yv h fun _ w h=>yu h fun w h=>yN h fun _ w h=>yv h fun _ w h=>yu h fun w h=>zn<|body_normal ?_
 exact body_ret0 rfl h
def n89 (t0 t1:Value) (R:RT) (w:World):Prop :=
 opV Pg (Instr.box 123 t1) (panK R) w fun t3 w =>
 F0 123 t3 5 R w fun t5 w =>
 L0 3 t5 R w fun t6 w =>
 F0 123 t3 6 R w fun t7 w =>
 L0 3 t7 R w fun t8 w =>
 opV Pg (Instr.buildSlice 61 2 #[(0,t6),(1,t8)]) (panK R) w fun t9 w =>
 C0 215 #[t0,(.int .i64 0),(.int .i64 34359738367),t9] R w fun t10 w =>
 R (.returned (.tuple #[])) w
theorem n89s {t0 t1:Value} {R:RT} {w:World} (h:n89 t0 t1 R w):Calls Pg 219 #[t0,t1] w R:=by
 refine yD Tryz.func219 ?_
 refine zs<|zr<|yv h fun _ w h=>zn<|zk<|zr<|zm<|yv h fun _ w h=>yv h fun _ w h=>yv h fun _ w h=>yv h fun _ w h=>yS h fun _ w h=>yc h c215 fun _ w h=>zn<|body_normal ?_
 exact body_ret0 rfl h
def n90 (t0:Value) (R:RT) (w:World):Prop :=
 opV Pg (Instr.build 120 #[]) (panK R) w fun t3 w =>
 opN Pg (nilN t0) (panK R) w fun t4 w =>
 F0 123 t4 7 R w fun t5 w =>
 opU Pg (Instr.storeAt 120 t5 t3) (panK R) w fun w =>
 R (.returned (.tuple #[])) w
theorem n90s {t0:Value} {R:RT} {w:World} (h:n90 t0 R w):Calls Pg 220 #[t0] w R:=by
 refine yD Tryz.func220 ?_
 exact zr<|zm<|yB h fun _ w h=>yN h fun _ w h=>yv h fun _ w h=>yu h fun w h=>zn<|body_normal<|body_ret0 rfl h
def n64c1 (t2 t4 t21:Value) (Kr2:World→Prop) (Qr2:List PanicEntry→World→Prop) (R:RT) (w:World):Prop :=
 opV Pg (Instr.loadAt 296 t4) Qr2 w fun t23 w =>
 opV Pg (Instr.lookup 296 t23 t21 true) Qr2 w fun t25 w =>
 opV Pg (Instr.extract t25 0) Qr2 w fun t26 w =>
 opV Pg (Instr.extract t25 1) Qr2 w fun t27 w =>
 opV Pg (Instr.alloc 300 true (.tuple #[])) Qr2 w fun t6 w =>
 opU Pg (Instr.storeAt 300 t6 t26) Qr2 w fun w =>
 opV Pg (Instr.loadAt 167 t2) Qr2 w fun t28 w =>
 callK Pg 135 #[t28,t27,(.int .i64 8)] Qr2 w fun t30 w =>
 Kr2 w
def n64c2 (t8 t38 t40 t44:Value) (ds:List Deferred) (R:RT) (w:World):Prop :=
 pickK t40 t44 (.bool false) fun t45 =>
 joinK (fun (t49:Value) (w:World) =>
 pickK t45 t49 (.bool false) fun t50 =>
 callK Pg 135 #[t38,t50,(.int .i64 9)] (outQ Pg ds [] R) w fun t51 w =>
 outX Pg ds [] R w) fun K4 =>
 guardP t45 true (
 opV Pg (Instr.fieldAt 300 t8 1) (outQ Pg ds [] R) w fun t47 w =>
 opV Pg (Instr.loadAt 3 t47) (outQ Pg ds [] R) w fun t48 w =>
 opV Pg (binS .leq 3 true t48 (.int .i64 1048576)) (outQ Pg ds [] R) w fun t49 w =>
 K4 t49 w) (
 K4 undef w)
def n64c3 (t2 t35:Value) (ds:List Deferred) (R:RT) (w:World):Prop :=
 opV Pg (Instr.extract t35 0) (outQ Pg ds [] R) w fun t36 w =>
 opV Pg (Instr.extract t35 1) (outQ Pg ds [] R) w fun t37 w =>
 opV Pg (Instr.alloc 300 true (.tuple #[])) (outQ Pg ds [] R) w fun t8 w =>
 opU Pg (Instr.storeAt 300 t8 t36) (outQ Pg ds [] R) w fun w =>
 opV Pg (Instr.loadAt 167 t2) (outQ Pg ds [] R) w fun t38 w =>
 opV Pg (binS .eql 49 true t37 (.int .i64 0)) (outQ Pg ds [] R) w fun t40 w =>
 joinK (fun (t44:Value) (w:World) =>
 n64c2 t8 t38 t40 t44 ds R w) fun K3 =>
 guardP t40 true (
 opV Pg (Instr.fieldAt 300 t8 0) (outQ Pg ds [] R) w fun t42 w =>
 opV Pg (Instr.loadAt 3 t42) (outQ Pg ds [] R) w fun t43 w =>
 opV Pg (binS .geq 3 true t43 (.int .i64 0)) (outQ Pg ds [] R) w fun t44 w =>
 K3 t44 w) (
 K3 undef w)
def n64c4 (t2 t3 t4:Value) (ds:List Deferred) (R:RT) (w:World):Prop :=
 opV Pg (Instr.fieldAt 123 t3 7) (outQ Pg ds [] R) w fun t32 w =>
 opV Pg (Instr.loadAt 120 t32) (outQ Pg ds [] R) w fun t33 w =>
 opV Pg (Instr.loadAt 296 t4) (outQ Pg ds [] R) w fun t34 w =>
 callK Pg 249 #[t33,t34] (outQ Pg ds [] R) w fun t35 w =>
 n64c3 t2 t35 ds R w
def n64c5 (t2 t3 t4 t20:Value) (ds:List Deferred) (R:RT) (w:World):Prop :=
 rangeN Pg t20 ds (fun l2 t21 w Kr2 Xr2 Qr2 =>
 busyK l2 w fun w =>
 n64c1 t2 t4 t21 Kr2 Qr2 R w) (fun ch ds w=>outQ Pg ds [] R ch w) w (fun ds w =>
 n64c4 t2 t3 t4 ds R w) []
def n64c6 (t2 t3 t17:Value) (ds:List Deferred) (R:RT) (w:World):Prop :=
 opV Pg (Instr.alloc 296 true (.tuple #[])) (outQ Pg ds [] R) w fun t4 w =>
 opU Pg (Instr.storeAt 296 t4 t17) (outQ Pg ds [] R) w fun w =>
 opV Pg (Instr.fieldAt 123 t3 7) (outQ Pg ds [] R) w fun t18 w =>
 opV Pg (Instr.loadAt 120 t18) (outQ Pg ds [] R) w fun t19 w =>
 callK Pg 248 #[t19] (outQ Pg ds [] R) w fun t20 w =>
 n64c5 t2 t3 t4 t20 ds R w
def n64c7 (t2 t3:Value) (ds:List Deferred) (R:RT) (w:World):Prop :=
 opV Pg (Instr.loadAt 167 t2) (outQ Pg ds [] R) w fun t15 w =>
 callK Pg 195 #[t15] (outQ Pg ds [] R) w fun t16 w =>
 callK Pg 247 #[t16] (outQ Pg ds [] R) w fun t17 w =>
 n64c6 t2 t3 t17 ds R w
def n64c8 (t2 t3:Value) (C1:World→Prop) (ds:List Deferred) (R:RT) (w:World):Prop :=
 qV Pg C1 (Instr.loadAt 167 t2) fun t10 =>
 qV Pg C1 (Instr.fieldAt 123 t3 7) fun t11 =>
 qV Pg C1 (Instr.loadAt 120 t11) fun t12 =>
 callK Pg 246 #[t12] (outQ Pg ds [] R) w fun t13 w =>
 C1 w∧(
 callK Pg 135 #[t10,t13,(.int .i64 9)] (outQ Pg ds [] R) w fun t14 w =>
 C1 w∧(
 n64c7 t2 t3 ds R w))
def n64 (t0 t1:Value) (R:RT) (w:World):Prop :=
 (fun (ds:List Deferred) =>
 opV Pg (Instr.box 167 t0) (outQ Pg ds [] R) w fun t2 w =>
 opV Pg (Instr.box 123 t1) (outQ Pg ds [] R) w fun t3 w =>
 drawK w fun C1 w =>
 n64c8 t2 t3 C1 ds R w) []
theorem n64s {t0 t1:Value} {R:RT} {w:World} (h:n64 t0 t1 R w):Calls Pg 221 #[t0,t1] w R:=by
 refine yE Tryz.func221 ?_
 unfold n64 at h
 dsimp only at h
 refine zs<|zr<|yv h fun _ w h=>yv h fun _ w h=>zn<|zk<|zs<|yh [10,11,12,13,14] h fun C hC h=>ye 0 hC h fun _ h=>?_
 refine ye 1 hC h fun _ h=>?_
 refine ye 2 hC h fun _ h=>?_
 refine yo 3 ?_
 refine yc h c246 fun _ w h=>zn ?_
 obtain ⟨hC,h⟩:=h
 refine ⟨hC,?_⟩
 refine yo 4 ?_
 refine yc h c135 fun _ w h=>zn ?_
 obtain ⟨hC,h⟩:=h
 refine ⟨hC,?_⟩
 refine yz<|zk<|zs<|zr<|yv h fun _ w h=>yc h c195 fun _ w h=>yc h c247 fun _ w h=>yv h fun _ w h=>yu h fun w h=>zn<|zk<|zs<|zs<|zr<|yv h fun _ w h=>?_
 refine yv h fun _ w h=>yc h c248 fun _ w h=>zn<|zk<|sim_block<|sim_range [] h rfl (fun l2 t21 w Kr2 Xr2 Qr2 h=>?_) (fun ds w h=>?_) (fun c ds w h=>?_) (fun ch ds w h=>outQ_of rfl h)
 · refine zr<|zm<|zn<|zk ?_
   obtain ⟨hr,h⟩:=h
   refine ⟨rfl,hr,fun w hb=>?_⟩
   have h:=h w hb
   refine sim_block<|zs<|zr<|yv h fun _ w h=>zm<|yv h fun _ w h=>zm<|yv h fun _ w h=>yv h fun _ w h=>yv h fun _ w h=>yu h fun w h=>zm<|zn<|zk<|zr ?_
   exact yv h fun _ w h=>zm<|yc h c135 fun _ w h=>zn<|sim_block_normal<|⟨rfl,h⟩
 · refine sim_block_normal<|zk<|zs<|zr<|yv h fun _ w h=>yv h fun _ w h=>yv h fun _ w h=>yc h c249 fun _ w h=>zm<|yv h fun _ w h=>yv h fun _ w h=>yv h fun _ w h=>yu h fun w h=>zm<|zn ?_
   refine zk<|sim_regionG<|yG 4<|yv h fun _ w h=>zm<|yb h fun _ w h=>zm<|zn<|yg1 3 3 true [42,43,44] 44 h (fun _ T hT h=>?_) fun σ w h=>?_
   · refine yv h fun _ w h=>yv h fun _ w h=>yb h fun _ w h=>zn ?_
     exact zt hT h
   refine yG 2<|yp h fun _ h=>zm<|zn<|yg1 3 8 true [47,48,49] 49 h (fun _ T hT h=>?_) fun σ w h=>?_
   · refine yv h fun _ w h=>yv h fun _ w h=>yb h fun _ w h=>zn ?_
     exact zt hT h
   exact yG 2<|yp h fun _ h=>yc h c135 fun _ w h=>zn<|sim_end<|bodyM_normal<|bodyM_ret rfl h
 exact h.elim
def n91 (t0:Value) (R:RT) (w:World):Prop :=
 opN Pg (nilN t0) (panK R) w fun t4 w =>
 F0 123 t4 5 R w fun t5 w =>
 opU Pg (Instr.storeAt 3 t5 (.int .i64 0)) (panK R) w fun w =>
 opN Pg (nilN t0) (panK R) w fun t6 w =>
 F0 123 t6 6 R w fun t7 w =>
 opU Pg (Instr.storeAt 3 t7 (.int .i64 0)) (panK R) w fun w =>
 R (.returned (.tuple #[])) w
theorem n91s {t0:Value} {R:RT} {w:World} (h:n91 t0 R w):Calls Pg 222 #[t0] w R:=by
 refine yD Tryz.func222 ?_
 exact zr<|zm<|zm<|yN h fun _ w h=>yv h fun _ w h=>yu h fun w h=>yN h fun _ w h=>yv h fun _ w h=>yu h fun w h=>zn<|body_normal<|body_ret0 rfl h
def n92c1 (t0 t3:Value) (R:RT) (w:World):Prop :=
 F0 123 t3 6 R w fun t10 w =>
 L0 3 t10 R w fun t11 w =>
 opV Pg (Instr.buildSlice 61 1 #[(0,t11)]) (panK R) w fun t12 w =>
 C0 215 #[t0,(.int .i64 0),(.int .i64 1048576),t12] R w fun t13 w =>
 R (.returned (.tuple #[])) w
def n92 (t0 t1:Value) (R:RT) (w:World):Prop :=
 opV Pg (Instr.box 123 t1) (panK R) w fun t3 w =>
 F0 123 t3 5 R w fun t5 w =>
 L0 3 t5 R w fun t6 w =>
 opV Pg (Instr.buildSlice 61 1 #[(0,t6)]) (panK R) w fun t7 w =>
 C0 215 #[t0,(.int .i64 0),(.int .i64 255),t7] R w fun t8 w =>
 n92c1 t0 t3 R w
theorem n92s {t0 t1:Value} {R:RT} {w:World} (h:n92 t0 t1 R w):Calls Pg 223 #[t0,t1] w R:=by
 refine yD Tryz.func223 ?_
 refine zs<|zr<|yv h fun _ w h=>zn<|zk<|zs<|zr<|zm<|yv h fun _ w h=>yv h fun _ w h=>yS h fun _ w h=>yc h c215 fun _ w h=>zn<|zk<|zr ?_
 exact zm<|yv h fun _ w h=>yv h fun _ w h=>yS h fun _ w h=>yc h c215 fun _ w h=>zn<|body_normal<|body_ret0 rfl h
def n72 (t0:Value) (R:RT) (w:World):Prop :=
 opN Pg (nilN t0) (panK R) w fun t4 w =>
 F0 123 t4 4 R w fun t5 w =>
 opU Pg (Instr.storeAt 4 t5 (.bool false)) (panK R) w fun w =>
 opN Pg (nilN t0) (panK R) w fun t6 w =>
 F0 123 t6 6 R w fun t7 w =>
 opU Pg (Instr.storeAt 3 t7 (.int .i64 0)) (panK R) w fun w =>
 R (.returned (.tuple #[])) w
theorem n72s {t0:Value} {R:RT} {w:World} (h:n72 t0 R w):Calls Pg 224 #[t0] w R:=by
 refine yD Tryz.func224 ?_
 exact zr<|zm<|zm<|yN h fun _ w h=>yv h fun _ w h=>yu h fun w h=>yN h fun _ w h=>yv h fun _ w h=>yu h fun w h=>zn<|body_normal<|body_ret0 rfl h
def n73 (t0 t1:Value) (R:RT) (w:World):Prop :=
 opV Pg (Instr.box 123 t1) (panK R) w fun t3 w =>
 F0 123 t3 6 R w fun t5 w =>
 L0 3 t5 R w fun t6 w =>
 opV Pg (Instr.buildSlice 61 1 #[(0,t6)]) (panK R) w fun t7 w =>
 C0 215 #[t0,(.int .i64 2),(.int .i64 1048576),t7] R w fun t8 w =>
 R (.returned (.tuple #[])) w
theorem n73s {t0 t1:Value} {R:RT} {w:World} (h:n73 t0 t1 R w):Calls Pg 225 #[t0,t1] w R:=by
 refine yD Tryz.func225 ?_
 exact zs<|zr<|yv h fun _ w h=>zn<|zk<|zr<|zm<|yv h fun _ w h=>yv h fun _ w h=>yS h fun _ w h=>yc h c215 fun _ w h=>zn<|body_normal<|body_ret0 rfl h
def n74 (t0:Value) (R:RT) (w:World):Prop :=
 opV Pg (Instr.build 120 #[]) (panK R) w fun t4 w =>
 opN Pg (nilN t0) (panK R) w fun t5 w =>
 F0 123 t5 8 R w fun t6 w =>
 opU Pg (Instr.storeAt 9 t6 (.string { data := #[] })) (panK R) w fun w =>
 opN Pg (nilN t0) (panK R) w fun t7 w =>
 F0 123 t7 7 R w fun t8 w =>
 opU Pg (Instr.storeAt 120 t8 t4) (panK R) w fun w =>
 R (.returned (.tuple #[])) w
theorem n74s {t0:Value} {R:RT} {w:World} (h:n74 t0 R w):Calls Pg 226 #[t0] w R:=by
 refine yD Tryz.func226 ?_
 exact zr<|zm<|zm<|yB h fun _ w h=>yN h fun _ w h=>yv h fun _ w h=>yu h fun w h=>yN h fun _ w h=>yv h fun _ w h=>yu h fun w h=>zn<|body_normal<|body_ret0 rfl h
def n75 (t0 t1:Value) (R:RT) (w:World):Prop :=
 opV Pg (Instr.box 123 t1) (panK R) w fun t3 w =>
 F0 123 t3 8 R w fun t5 w =>
 L0 9 t5 R w fun t6 w =>
 C0 228 #[t0,t6] R w fun t7 w =>
 L0 123 t3 R w fun t9 w =>
 C0 221 #[t0,t9] R w fun t10 w =>
 R (.returned (.tuple #[])) w
theorem n75s {t0 t1:Value} {R:RT} {w:World} (h:n75 t0 t1 R w):Calls Pg 227 #[t0,t1] w R:=by
 refine yD Tryz.func227 ?_
 refine zs<|zr<|yv h fun _ w h=>zn<|zk<|zs<|zr<|zm<|yv h fun _ w h=>yv h fun _ w h=>yc h c228 fun _ w h=>zn<|zk<|zr<|zm ?_
 exact yv h fun _ w h=>yc h c221 fun _ w h=>zn<|body_normal<|body_ret0 rfl h
def n63 (t0 t1:Value) (R:RT) (w:World):Prop :=
 opN Pg (nilN t0) (panK R) w fun t8 w =>
 F0 201 t8 1 R w fun t9 w =>
 L0 198 t9 R w fun t10 w =>
 opV Pg (Instr.lookup 198 t10 t1 true) (panK R) w fun t12 w =>
 opV Pg (Instr.extract t12 0) (panK R) w fun t13 w =>
 opV Pg (Instr.extract t12 1) (panK R) w fun t14 w =>
 C0 135 #[t0,t14,(.int .i64 8)] R w fun t17 w =>
 R (.returned (.tuple #[])) w
theorem n63s {t0 t1:Value} {R:RT} {w:World} (h:n63 t0 t1 R w):Calls Pg 228 #[t0,t1] w R:=by
 refine yD Tryz.func228 ?_
 refine zs<|zr<|zm<|yN h fun _ w h=>yv h fun _ w h=>yv h fun _ w h=>zm<|yv h fun _ w h=>zm<|yv h fun _ w h=>yv h fun _ w h=>zm<|zm<|zn<|zk ?_
 exact zr<|zm<|zm<|yc h c135 fun _ w h=>zn<|body_normal<|body_ret0 rfl h
def n76 (t0:Value) (R:RT) (w:World):Prop :=
 opN Pg (nilN t0) (panK R) w fun t3 w =>
 F0 123 t3 8 R w fun t4 w =>
 opU Pg (Instr.storeAt 9 t4 (.string { data := #[] })) (panK R) w fun w =>
 R (.returned (.tuple #[])) w
theorem n76s {t0:Value} {R:RT} {w:World} (h:n76 t0 R w):Calls Pg 229 #[t0] w R:=by
 refine yD Tryz.func229 ?_
 exact zr<|zm<|yN h fun _ w h=>yv h fun _ w h=>yu h fun w h=>zn<|body_normal<|body_ret0 rfl h
def n77 (t0 t1:Value) (R:RT) (w:World):Prop :=
 opV Pg (Instr.box 123 t1) (panK R) w fun t3 w =>
 F0 123 t3 8 R w fun t5 w =>
 L0 9 t5 R w fun t6 w =>
 C0 228 #[t0,t6] R w fun t7 w =>
 R (.returned (.tuple #[])) w
theorem n77s {t0 t1:Value} {R:RT} {w:World} (h:n77 t0 t1 R w):Calls Pg 230 #[t0,t1] w R:=by
 refine yD Tryz.func230 ?_
 exact zs<|zr<|yv h fun _ w h=>zn<|zk<|zr<|zm<|yv h fun _ w h=>yv h fun _ w h=>yc h c228 fun _ w h=>zn<|body_normal<|body_ret0 rfl h
def n78 (t0:Value) (R:RT) (w:World):Prop :=
 opN Pg (nilN t0) (panK R) w fun t4 w =>
 F0 123 t4 9 R w fun t5 w =>
 opU Pg (Instr.storeAt 9 t5 (.string { data := #[] })) (panK R) w fun w =>
 opN Pg (nilN t0) (panK R) w fun t6 w =>
 F0 123 t6 11 R w fun t7 w =>
 opU Pg (Instr.storeAt 121 t7 (Value.slice none 0 0)) (panK R) w fun w =>
 R (.returned (.tuple #[])) w
theorem n78s {t0:Value} {R:RT} {w:World} (h:n78 t0 R w):Calls Pg 231 #[t0] w R:=by
 refine yD Tryz.func231 ?_
 exact zr<|zm<|zm<|yN h fun _ w h=>yv h fun _ w h=>yu h fun w h=>yN h fun _ w h=>yv h fun _ w h=>yu h fun w h=>zn<|body_normal<|body_ret0 rfl h
def n58c1 (t9 t47:Value) (next5:KW) (R:RT) (w:World):Prop :=
 F0 213 t9 1 R w fun t65 w =>
 L0 3 t65 R w fun t66 w =>
 B0 .add 3 true t66 (.int .i64 1) R w fun t67 w =>
 B0 .add 3 true t47 (.int .i64 1) R w fun t68 w =>
 next5 t67 t68 w
def n58c2 (t0 t9 t47:Value) (next5:KW) (R:RT) (w:World):Prop :=
 F0 213 t9 2 R w fun t62 w =>
 L0 9 t62 R w fun t63 w =>
 C0 228 #[t0,t63] R w fun t64 w =>
 n58c1 t9 t47 next5 R w
def n58c3 (t0 t4 t7 t45 t47:Value) (next5:KW) (R:RT) (w:World):Prop :=
 X0 121 t45 t47 R w fun t49 w =>
 L0 213 t49 R w fun t50 w =>
 opV Pg (Instr.alloc 213 true (.tuple #[])) (panK R) w fun t9 w =>
 opU Pg (Instr.storeAt 213 t9 t50) (panK R) w fun w =>
 F0 300 t4 1 R w fun t53 w =>
 L0 3 t53 R w fun t54 w =>
 F0 213 t9 0 R w fun t55 w =>
 L0 3 t55 R w fun t56 w =>
 F0 213 t9 1 R w fun t57 w =>
 L0 3 t57 R w fun t58 w =>
 opV Pg (Instr.buildSlice 61 2 #[(0,t56),(1,t58)]) (panK R) w fun t59 w =>
 C0 215 #[t0,t7,t54,t59] R w fun t60 w =>
 n58c2 t0 t9 t47 next5 R w
def n58c4 (t0 t3 t4:Value) (R:RT) (w:World):Prop :=
 F0 300 t4 0 R w fun t42 w =>
 L0 3 t42 R w fun t43 w =>
 F0 123 t3 11 R w fun t44 w =>
 L0 121 t44 R w fun t45 w =>
 opV Pg (Builtin.len_ #[121] 3 #[t45]) (panK R) w fun t46 w =>
 loop2 (fun t7 t47 w next5 =>
 B0 .lss 3 false t47 t46 R w fun t48 w =>
 condP t48 (
 n58c3 t0 t4 t7 t45 t47 next5 R w) (
 R (.returned (.tuple #[])) w)) t43 (.int .i64 0) w
def n58c5 (t0 t3 t4:Value) (R:RT) (w:World):Prop :=
 F0 123 t3 11 R w fun t31 w =>
 L0 121 t31 R w fun t32 w =>
 opV Pg (Builtin.len_ #[121] 3 #[t32]) (panK R) w fun t33 w =>
 B0 .geq 3 true t33 (.int .i64 1) R w fun t34 w =>
 joinK (fun (t39:Value) (w:World) =>
 pickK t34 t39 (.bool false) fun t40 =>
 C0 135 #[t0,t40,(.int .i64 3)] R w fun t41 w =>
 n58c4 t0 t3 t4 R w) fun K4 =>
 guardP t34 true (
 F0 123 t3 11 R w fun t36 w =>
 L0 121 t36 R w fun t37 w =>
 opV Pg (Builtin.len_ #[121] 3 #[t37]) (panK R) w fun t38 w =>
 B0 .leq 3 true t38 (.int .i64 40) R w fun t39 w =>
 K4 t39 w) (
 K4 undef w)
def n58c6 (t0 t3 t4 t5 t22:Value) (R:RT) (w:World):Prop :=
 joinK (fun (t27:Value) (w:World) =>
 pickK t5 t27 (.bool false) fun t28 =>
 C0 135 #[t0,t28,(.int .i64 8)] R w fun t29 w =>
 n58c5 t0 t3 t4 R w) fun K3 =>
 guardP t5 true (
 opV Pg (Op.unary .not t22) (panK R) w fun t27 w =>
 K3 t27 w) (
 K3 undef w)
def n58c7 (t0 t3 t4 t5:Value) (R:RT) (w:World):Prop :=
 C0 195 #[t0] R w fun t20 w =>
 opV Pg (Instr.makeFunc (.func 251) #[] #[t3]) (panK R) w fun t21 w =>
 C0 250 #[t20,t21] R w fun t22 w =>
 n58c6 t0 t3 t4 t5 t22 R w
def n58c8 (t13 t15:Value) (C7:World→Prop) (K2:KW) (R:RT) (w:World):Prop :=
 qV Pg C7 (Instr.lookup 296 t13 t15 true) fun t16 =>
 qV Pg C7 (Instr.extract t16 0) fun t17 =>
 qV Pg C7 (Instr.extract t16 1) fun t18 =>
 opV Pg (Instr.alloc 300 true (.tuple #[])) (panK R) w fun t4 w =>
 C7 w∧(
 opU Pg (Instr.storeAt 300 t4 t17) (panK R) w fun w =>
 C7 w∧(
 K2 t4 t18 w))
def n58c9 (t4 t13 t15:Value) (C8:World→Prop) (K2:KW) (R:RT) (w:World):Prop :=
 qV Pg C8 (Instr.lookup 296 t13 t15 true) fun t16 =>
 qV Pg C8 (Instr.extract t16 0) fun t17 =>
 qV Pg C8 (Instr.extract t16 1) fun t18 =>
 opU Pg (Instr.storeAt 300 t4 t17) (panK R) w fun w =>
 C8 w∧(
 K2 t4 t18 w)
def n58c10 (t12 t15:Value) (C6:World→Prop) (K2:KW) (R:RT) (w:World):Prop :=
 (
 C0 247 #[t12] R w fun t13 w =>
 narrowK C6 w fun C7 w =>
 n58c8 t13 t15 C7 K2 R w)∧(
 opV Pg (Instr.alloc 300 true (.tuple #[])) (panK R) w fun t4 w =>
 C6 w∧(
 C0 247 #[t12] R w fun t13 w =>
 narrowK C6 w fun C8 w =>
 n58c9 t4 t13 t15 C8 K2 R w))
def n58c11 (t4 t13 t15:Value) (C10:World→Prop) (K2:KW) (R:RT) (w:World):Prop :=
 qV Pg C10 (Instr.lookup 296 t13 t15 true) fun t16 =>
 qV Pg C10 (Instr.extract t16 0) fun t17 =>
 qV Pg C10 (Instr.extract t16 1) fun t18 =>
 opU Pg (Instr.storeAt 300 t4 t17) (panK R) w fun w =>
 C10 w∧(
 K2 t4 t18 w)
def n58c12 (t0 t4 t15:Value) (C1:World→Prop) (K2:KW) (R:RT) (w:World):Prop :=
 C0 195 #[t0] R w fun t12 w =>
 narrowK C1 w fun C9 w =>
 C0 247 #[t12] R w fun t13 w =>
 narrowK C9 w fun C10 w =>
 n58c11 t4 t13 t15 C10 K2 R w
def n58c13 (t0 t3:Value) (C1:World→Prop) (R:RT) (w:World):Prop :=
 qV Pg C1 (Instr.fieldAt 123 t3 9) fun t14 =>
 qV Pg C1 (Instr.loadAt 9 t14) fun t15 =>
 joinK (fun (t4:Value) (t5:Value) (w:World) =>
 n58c7 t0 t3 t4 t5 R w) fun K2 =>
 (
 C0 195 #[t0] R w fun t12 w =>
 narrowK C1 w fun C6 w =>
 n58c10 t12 t15 C6 K2 R w)∧(
 opV Pg (Instr.alloc 300 true (.tuple #[])) (panK R) w fun t4 w =>
 C1 w∧(
 n58c12 t0 t4 t15 C1 K2 R w))
def n58 (t0 t1:Value) (R:RT) (w:World):Prop :=
 opV Pg (Instr.box 123 t1) (panK R) w fun t3 w =>
 drawK w fun C1 w =>
 n58c13 t0 t3 C1 R w
theorem n58s {t0 t1:Value} {R:RT} {w:World} (h:n58 t0 t1 R w):Calls Pg 232 #[t0,t1] w R:=by
 refine yD Tryz.func232 ?_
 refine zs<|zr<|yv h fun _ w h=>zn<|zk<|zs<|yh [4,5,10,11,12,13,14,15,16,17,18] h fun C hC h=>yw 0 hC ?_
 refine ye 3 hC h fun _ h=>?_
 refine ye 4 hC h fun _ h=>?_
 refine joinK_elim h (fun K2 hK h=>?_)
 refine sim_dmeet [4,5,10,12,13,16,17,18] (fun ρ w=>K2 (ρ 4) (ρ 5) w) (fun T hT=>?_) (fun σ w h=>?_)
 · obtain ⟨h0,h1⟩:=h
   refine sim_dloud2 1 9 rfl rfl Qq (fun _ _=>rfl) (fun _ _=>rfl) ?_ ?_
   · have h:=h0
     refine yc h c195 fun _ w h=>zn ?_
     obtain ⟨C6,hs,hC,h⟩:=h
     refine ⟨C6,hs,hC,?_⟩
     obtain ⟨h0,h1⟩:=h
     refine sim_dloud2 2 9 rfl rfl Qq (fun _ _=>rfl) (fun _ _=>rfl) ?_ ?_
     · have h:=h0
       refine yc h c247 fun _ w h=>zn ?_
       obtain ⟨C7,hs,hC,h⟩:=h
       refine ⟨C7,hs,hC,?_⟩
       refine ye 5 hC h fun _ h=>?_
       refine yw 6 hC ?_
       refine ye 7 hC h fun _ h=>?_
       refine ye 8 hC h fun _ h=>?_
       refine yo 9 ?_
       refine yv h fun _ w h=>zn ?_
       obtain ⟨hC,h⟩:=h
       refine ⟨hC,?_⟩
       refine yo 10 ?_
       refine yu h fun w h=>zn ?_
       obtain ⟨hC,h⟩:=h
       refine ⟨hC,?_⟩
       refine yw 11 hC ?_
       refine yz ?_
       exact zt hT h
     have h:=h1
     refine yv h fun _ w h=>zn ?_
     obtain ⟨hC,h⟩:=h
     refine ⟨_,fun _ h=>h,hC,?_⟩
     refine yr 2 ?_
     refine yc h c247 fun _ w h=>zn ?_
     obtain ⟨C8,hs,hC,h⟩:=h
     refine ⟨C8,hs,hC,?_⟩
     refine ye 5 hC h fun _ h=>?_
     refine yw 6 hC ?_
     refine ye 7 hC h fun _ h=>?_
     refine ye 8 hC h fun _ h=>?_
     refine yo 10 ?_
     refine yu h fun w h=>zn ?_
     obtain ⟨hC,h⟩:=h
     refine ⟨hC,?_⟩
     refine yw 11 hC ?_
     refine yz ?_
     exact zt hT h
   have h:=h1
   refine yv h fun _ w h=>zn ?_
   obtain ⟨hC,h⟩:=h
   refine ⟨_,fun _ h=>h,hC,?_⟩
   refine yr 1 ?_
   refine yc h c195 fun _ w h=>zn ?_
   obtain ⟨C9,hs,hC,h⟩:=h
   refine ⟨C9,hs,hC,?_⟩
   refine yr 2 ?_
   refine yc h c247 fun _ w h=>zn ?_
   obtain ⟨C10,hs,hC,h⟩:=h
   refine ⟨C10,hs,hC,?_⟩
   refine ye 5 hC h fun _ h=>?_
   refine yw 6 hC ?_
   refine ye 7 hC h fun _ h=>?_
   refine ye 8 hC h fun _ h=>?_
   refine yo 10 ?_
   refine yu h fun w h=>zn ?_
   obtain ⟨hC,h⟩:=h
   refine ⟨hC,?_⟩
   refine yw 11 hC ?_
   refine yz ?_
   exact zt hT h
 subst hK
 refine zk<|zs<|zr<|zm<|yc h c195 fun _ w h=>yF h fun _ w h=>yc h c250 fun _ w h=>zm<|zn<|zk<|zs<|sim_regionG<|yG 3<|zm<|zm ?_
 refine zm<|zn<|yg1 2 2 true [26,27] 27 h (fun _ T hT h=>?_) fun σ w h=>?_
 · refine zm<|yv h fun _ w h=>zn ?_
   exact zt hT h
 refine yG 2<|yp h fun _ h=>yc h c135 fun _ w h=>zn<|sim_end<|zk<|zs<|sim_regionG<|yG 6<|zm<|yv h fun _ w h=>yv h fun _ w h=>yx h fun _ w h=>yb h fun _ w h=>zm ?_
 refine zn<|yg1 4 5 true [36,37,38,39] 39 h (fun _ T hT h=>?_) fun σ w h=>?_
 · refine yv h fun _ w h=>yv h fun _ w h=>yx h fun _ w h=>yb h fun _ w h=>zn ?_
   exact zt hT h
 refine yG 2<|yp h fun _ h=>yc h c135 fun _ w h=>zn<|sim_end<|zk<|zs<|zr<|yv h fun _ w h=>yv h fun _ w h=>zm<|zn<|zk<|zs<|zr ?_
 refine yv h fun _ w h=>yv h fun _ w h=>yx h fun _ w h=>zm<|zn<|zk<|sim_block<|yl2 [7,9,47,48,49,50,51,52,53,54,55,56,57,58,59,60,61,62,63,64,65,66,67,68] 7 47 h fun σ w next h=>zs<|zr<|yb h fun _ w h=>zn<|zk<|zs<|yC h (fun h=>?_) fun h=>?_
 · refine sim_skip<|zk<|zs<|sim_block<|zs<|zr<|yv h fun _ w h=>yv h fun _ w h=>yv h fun _ w h=>yu h fun w h=>zn<|zk<|zs<|zr<|zm ?_
   refine zm<|yv h fun _ w h=>yv h fun _ w h=>yv h fun _ w h=>yv h fun _ w h=>yv h fun _ w h=>yv h fun _ w h=>yS h fun _ w h=>yc h c215 fun _ w h=>zn<|zk<|zs<|zr<|zm<|yv h fun _ w h=>?_
   refine yv h fun _ w h=>yc h c228 fun _ w h=>zn<|zk<|zr<|yv h fun _ w h=>yv h fun _ w h=>yb h fun _ w h=>zm<|zn<|sim_block_normal<|zk<|zr<|yb h fun _ w h=>zm ?_
   exact zn<|zk<|⟨rfl,h⟩
 exact sim_exit<|sim_then_exit<|sim_then_exit<|sim_block_hit<|body_normal<|body_ret0 rfl h
abbrev flawVal (a f c:Int):Value := .agg #[.int .i64 a,.int .i64 f,.int .i64 c]
def flawEntry (a f c:Int):PanicEntry:={ v := .iface 131 (flawVal a f c),recovered:=false }
def flwR (w:World) (a f c:Int):Ending→World→Prop:=fun e w'=>Ext w w'∧(c=0∧e = .returned (.tuple #[])∨c≠0∧e = .panicked [flawEntry a f c])
theorem callK_flw {f:FuncId} {args:Array Value} {QP:List PanicEntry→World→Prop} {w:World} {k:Value→World→Prop} {a fl c:Int} (h:Calls Pg f args w (flwR w a fl c)) (hk:∀ w',Ext w w'→c=0→k (.tuple #[]) w') (hp:∀ w',Ext w w'→c≠0→QP [flawEntry a fl c] w'):callK Pg f args QP w k :=
 callK_calls h (fun v w' h=>by rcases h with ⟨e,⟨h1,h2⟩ | ⟨_,h2⟩⟩<;>cases h2;exact hk w' e h1) (fun ch w' h=>by rcases h with ⟨e,⟨_,h2⟩ | ⟨h1,h2⟩⟩<;>cases h2;exact hp w' e h1) (fun w' h=>by rcases h with ⟨_,⟨_,h2⟩ | ⟨_,h2⟩⟩<;>cases h2)
theorem flwR_ret {w w':World} {a f c:Int} (e:Ext w w') (h:c=0):flwR w a f c (.returned (.tuple #[])) w':=⟨e,.inl ⟨h,rfl⟩⟩
theorem flwR_pan {w w':World} {a f c c':Int} (e:Ext w w') (h:c=c') (h0:c'≠0):panK (flwR w a f c) [flawEntry a f c'] w':=⟨e,.inr ⟨by rw [h];exact h0,by rw [h]⟩⟩
def orC (a b:Int):Int:=if a=0 then b else a
theorem orC_zero (b:Int):orC 0 b=b:=rfl
theorem orC_ne {a b:Int} (h:a≠0):orC a b=a:=by unfold orC;rw [if_neg h]
def needC (b:Bool) (c:Int):Int:=if b then 0 else c
structure Chk (w:World) (cb md ms:Nat) (deps:List (ByteArray×Value)) (strs:List (ByteArray×Value)) (at_ fld:Int) (fs:List FieldD):Prop where
 obj:∃ dn mv ds mn fv,w.heap[cb]?=some (.cells #[.string dn,mv,.string ds,.map (some md),.map (some ms),.int .i64 at_,.int .i64 fld,.string mn,fv] 201 (0,0))∧FieldsOf w fv fs
 mdeps:MapOf w md deps
 mstrs:MapOf w ms strs
 dint:∀ k v,lastOf deps k=some v→∃ n,v = .int .i64 n
 sbool:∀ k v,lastOf strs k=some v→∃ b,v = .bool b
def strB (strs:List (ByteArray×Value)) (s:ByteArray):Bool:=match lastOf strs s with
 | some (.bool b)=>b
 | _=>false
theorem Chk.strV {w:World} {cb md ms:Nat} {deps strs:List (ByteArray×Value)} {at_ fld:Int} {fs:List FieldD} (h:Chk w cb md ms deps strs at_ fld fs) (s:ByteArray):(lastOf strs s).getD (.bool false) = .bool (strB strs s):=by
 unfold strB
 cases hl:lastOf strs s with
 | none=>rfl
 | some v=>obtain ⟨b,rfl⟩:=h.sbool s v hl;rfl
theorem Chk.ext {w w':World} {cb md ms:Nat} {deps strs:List (ByteArray×Value)} {at_ fld:Int} {fs:List FieldD} (h:Chk w cb md ms deps strs at_ fld fs) (e:Ext w w'):Chk w' cb md ms deps strs at_ fld fs:=by
 obtain ⟨⟨dn,mv,ds,mn,fv,h1,h2⟩,h3,h4,h5,h6⟩:=h
 exact ⟨⟨dn,mv,ds,mn,fv,e.obj h1,h2.ext e⟩,h3.ext e,h4.ext e,h5,h6⟩
section
variable {w0:World} {cb md ms:Nat} {deps strs:List (ByteArray×Value)} {at_ fld:Int} {fs:List FieldD}
theorem need_flw (h:Chk w0 cb md ms deps strs at_ fld fs) (b:Bool) (c:Int) (hc:c≠0):Calls Pg 135 #[.pointer (some ⟨cb,0,none⟩),.bool b,.int .i64 c] w0 (flwR w0 at_ fld (needC b c)):=by
 obtain ⟨⟨dn,mv,ds,mn,fv,h1,h2⟩,h3,h4,h5,h6⟩:=h
 refine n61s ?_;unfold n61
 cases b with
 | true =>
  simp (disch:=try exact DI) only [↓PR,QR,simprocAttr,↓n61c1]
  exact flwR_ret (Ext.refl _) rfl
 | false =>
  simp (disch:=try exact DI) only [↓PR,QR,simprocAttr,↓n61c1]
  refine drawK_intro ?_
  simp (disch:=try exact DI) only [↓PR,QR,simprocAttr,↓n61c1,(cells_of_heap h1).1]
  rw [op_panic]
  exact flwR_pan (Ext.refl _).drew rfl hc
theorem before_ret (h:Chk w0 cb md ms deps strs at_ fld fs) (i:Nat) (hi:fld=i) (hlt:i < fs.length):Ret Pg 195 #[.pointer (some ⟨cb,0,none⟩)] w0 fun r w'=>FieldsOf w' r (fs.take i)∧Ext w0 w':=by
 obtain ⟨⟨dn,mv,ds,mn,fv,h1,h2⟩,h3,h4,h5,h6⟩:=h
 obtain ⟨A,c,rfl,hlc,hcm,hlm,hel⟩:=SliceOf.open h2
 obtain ⟨x,hx⟩:=getElem?_lt hlt
 obtain ⟨b,o,_,rfl,_⟩:=hel i x hx
 subst hi
 refine n56s (R:=retR _) ?_;unfold n56
 refine drawK_intro ?_
 simp (disch:=try exact DI) only [↓PR,QR,simprocAttr,↓n56c1,(cells_of_heap h1).1]
 rw [qV_of fun QP w' k=>op_sliceTo Tryz.underlying72 ty123 b o fs.length c .i64 i Qx]
 refine Qf ?_
 refine ⟨?_,ee⟩
 have hlen:(fs.take i).length=i:=by rw [List.length_take];omega
 refine ⟨_,c,by rw [hlen],by rw [hlen];omega,hcm,fun _=>⟨b,o,rfl,fun k y hy=>?_⟩⟩
 rw [List.getElem?_take] at hy
 split at hy
 · obtain ⟨b',o',cs,hA,hl,hA2,hE⟩:=hel k y hy
   injection hA with hA
   injection hA with h5 h6
   subst h5 h6
   have e:Ext w0 (drew w0):=(Ext.refl w0).drew
   exact ⟨cs,hl,hA2.ext e,keptField _ _ _ _ e hE⟩
 · cases hy
theorem refer_flw (h:Chk w0 cb md ms deps strs at_ fld fs) (s:ByteArray):Calls Pg 228 #[.pointer (some ⟨cb,0,none⟩),.string s] w0 (flwR w0 at_ fld (needC (lastOf deps s).isSome 8)):=by
 have h':=h
 obtain ⟨⟨dn,mv,ds,mn,fv,h1,h2⟩,h3,h4,h5,h6⟩:=h
 refine n63s ?_;unfold n63
 simp (disch:=try exact DI) only [↓PR,QR,simprocAttr,Sw.joinK_eq,(cells_of_heap h1).1]
 rw [op_lookupO Tryz.underlying198 Tryz.underlying9 ty3 h3]
 refine Qf ?_
 refine callK_flw (need_flw h' _ 8 Qj) (fun w' e h0=>?_) (fun w' e h0=>?_)
 · exact flwR_ret e h0
 · exact flwR_pan e rfl h0
def withinC (high:Int):Int→List Int→Int
 | _,[]=>0
 | low,n::l=>orC (needC (decide (low≤n)&&decide (n≤high)) 7) (withinC high n l)
def IntsOf (w:World) (v:Value) (l:List Int):Prop:=SliceOf w 1 EInt v l
theorem ints1 {w:World} {p:Nat} (hp:p=w.heap.size) (a:Int) (T:TypeId):IntsOf (w.alloc (.cells #[.int .i64 a] T)) (.slice (some ⟨p,0,none⟩) 1 1) [a]:=by
 subst hp;exact SliceOf.new1 (E:=EInt) (fun n:Int => .int .i64 n) (fun _ _=>rfl) w [a] T (by simp)
theorem ints2 {w:World} {p:Nat} (hp:p=w.heap.size) (a b:Int) (T:TypeId):IntsOf (w.alloc (.cells #[.int .i64 a,.int .i64 b] T)) (.slice (some ⟨p,0,none⟩) 2 2) [a,b]:=by
 subst hp;exact SliceOf.new1 (E:=EInt) (fun n:Int => .int .i64 n) (fun _ _=>rfl) w [a,b] T (by simp)
theorem within_flw (h:Chk w0 cb md ms deps strs at_ fld fs) (low high:Int) (v:Value) (l:List Int) (hs:IntsOf w0 v l):Calls Pg 215 #[.pointer (some ⟨cb,0,none⟩),.int .i64 low,.int .i64 high,v] w0 (flwR w0 at_ fld (withinC high low l)):=by
 obtain ⟨A,c,rfl,hlc,hcm,hlm,hel⟩:=SliceOf.open hs
 refine n65s ?_;unfold n65
 refine Qf ?_
 refine loop2_intro (fun a0 a1 w=>∃ (k:Nat) (n:Int),a0 = .int .i64 n∧a1 = .int .i64 (k:Int)∧k≤l.length∧Ext w0 w∧withinC high n (l.drop k)=withinC high low l) (fun a0 a1 _=>l.length - (intOf a1).toNat) ⟨0,low,rfl,rfl,Nat.zero_le _,ee,rfl⟩ ?_
 rintro _ _ w ⟨k,n,rfl,rfl,hk,e,hI⟩
 have se:=e.size
 rcases drop_cases hk with ⟨x,hx,hd,hlt,hdec⟩ | ⟨hk,hd,hdec⟩
 · obtain ⟨b,o,cs,rfl,hl,hA,rfl⟩:=hel k x hx
   rw [hd] at hI
   simp only [withinC] at hI
   simp (disch:=try exact DI) only [↓PR,QR,simprocAttr,↓n65c1,↓n65c2,hdec,hA.c1]
   refine callK_flw (need_flw (h.ext e) _ 7 Qj) (fun w' e1 h0=>?_) (fun w' e1 h0=>?_)
   · rw [h0,orC_zero] at hI
     simp (disch:=try exact DI) only [↓PR,QR,simprocAttr,↓n65c1,↓n65c2]
     exact ⟨⟨k+1,_,rfl,rfl,by omega,ee,hI⟩,meas_lt (kd := .i64) hlt⟩
   · rw [orC_ne h0] at hI
     exact flwR_pan (e.trans e1) hI.symm h0
 · subst hk
   simp (disch:=try exact DI) only [↓PR,QR,simprocAttr,↓n65c1,↓n65c2,hdec]
   rw [hd] at hI
   exact flwR_ret e hI.symm
def bitsB (f:FieldD):Bool:=decide (1≤f.bits)&&decide (f.bits≤32)&&(!f.little||(decide (8 < f.bits)&&(f.bits.tmod 8 == 0)))
theorem bits_flw (h:Chk w0 cb md ms deps strs at_ fld fs) (v:Value) (f:FieldD) (hf:FieldVal w0 v f):Calls Pg 214 #[.pointer (some ⟨cb,0,none⟩),v] w0 (flwR w0 at_ fld (needC (bitsB f) 6)):=by
 obtain ⟨tv,cv,rfl,hT,hC,ht1,hc1⟩:=hf.op
 refine n57s ?_;unfold n57
 simp (disch:=try exact DI) only [↓PR,QR,simprocAttr,↓n57c1,↓n57c2,↓n57c3,↓n57c4]
 have e0:Ext w0 (w0.alloc (Obj.cells (fieldCells f tv cv).toArray 123)):=ee
 have fin:∀ b,b=bitsB f→callK Pg 135 #[.pointer (some ⟨cb,0,none⟩),.bool b,.int .i64 6] (panK (flwR w0 at_ fld (needC (bitsB f) 6))) (w0.alloc (Obj.cells (fieldCells f tv cv).toArray 123)) (fun _ w=>flwR w0 at_ fld (needC (bitsB f) 6) (.returned (.tuple #[])) w):=by
  rintro b rfl
  exact callK_flw (need_flw (h.ext e0) _ 6 Qj) (fun w' e1 h0=>flwR_ret (e0.trans e1) h0) (fun w' e1 h0=>flwR_pan (e0.trans e1) rfl h0)
 unfold bitsB at fin ⊢
 generalize decide (1≤f.bits)=b1 at fin ⊢
 generalize decide (f.bits≤32)=b2 at fin ⊢
 generalize f.little=b3 at fin ⊢
 generalize decide (8 < f.bits)=b4 at fin ⊢
 generalize (f.bits.tmod 8 == 0)=b5 at fin ⊢
 cases b1<;>cases b2<;>cases b3<;>cases b4<;>cases b5<;>simp (disch:=try exact DI) only [↓PR,QR,simprocAttr,↓n57c1,↓n57c2,↓n57c3,↓n57c4]<;>exact fin _ rfl
def namesC (rp:List (ByteArray×Int×Int)):List TermD→Int
 | []=>0
 | t::ts=>orC (needC (lastR rp t.field).isSome 8) (namesC rp ts)
def lenB (base:Int) (ts:List TermD) (rp:List (ByteArray×Int×Int)):Bool:=(intervalE base ts rp == 0)&&decide (0≤intervalL base ts rp)&&decide (intervalH base ts rp≤1048576)
def sizedC (rp:List (ByteArray×Int×Int)) (f:FieldD):Int:=orC (needC (sizeB f.base f.terms) 9) (orC (namesC rp f.terms) (needC (lenB f.base f.terms rp) 9))
theorem sized_flw (h:Chk w0 cb md ms deps strs at_ fld fs) (i:Nat) (hi:fld=i) (hlt:i < fs.length) (v:Value) (f:FieldD) (hf:FieldVal w0 v f) :
 Calls Pg 221 #[.pointer (some ⟨cb,0,none⟩),v] w0 (flwR w0 at_ fld (sizedC (numR (fs.take i)) f)):=by
 obtain ⟨tv,cv,rfl,hT,hC,ht1,hc1⟩:=hf.op
 refine n64s ?_;unfold n64
 simp (disch:=try exact DI) only [↓PR,QR,simprocAttr,↓n64c1,↓n64c2,↓n64c3,↓n64c4,↓n64c5,↓n64c6,↓n64c7,↓n64c8]
 generalize hW:World.alloc (World.alloc w0 _) _=W
 have e0:Ext w0 W:=by rw [← hW];exact ee
 have o2:W.heap[w0.heap.size]?=some (.cells #[.pointer (some ⟨cb,0,none⟩)] 167 (0,0)):=by rw [← hW];exact Qb
 have o3:W.heap[w0.heap.size+1]?=some (.cells (fieldCells f tv cv).toArray 123 (0,0)):=by rw [← hW];exact Qb
 clear hW
 simp only [World.size_alloc]
 refine drawK_intro ?_
 simp (disch:=try exact DI) only [↓PR,QR,simprocAttr,↓n64c1,↓n64c2,↓n64c3,↓n64c4,↓n64c5,↓n64c6,↓n64c7,↓n64c8,(cells_of_heap o2).1,(cells_of_heap o3).1]
 refine zcr (Valid_ret _ _ f.base f.terms ⟨tv,rfl,TermsOf.ext hT ee⟩) fun w1 e1=>?_
 refine ⟨e1,?_⟩
 unfold sizedC
 refine callK_flw (need_flw (h.ext (e0.wdrew.trans e1)) _ 9 Qj) (fun w2 e2 h0=>?_) (fun w2 e2 h0=>?_)
 · rw [h0,orC_zero]
   refine ⟨e1.trans e2,?_⟩
   have e3:Ext W w2:=(Ext.refl W).wdrew.trans (e1.trans e2)
   have hv:sizeB f.base f.terms=true:=by
    cases hb:sizeB f.base f.terms with
    | true=>rfl
    | false=>rw [hb] at h0;exact absurd h0 Qj
   have ht:f.terms.length≤1048576:=by
    have hs:=hv
    unfold sizeB at hs
    simp only [Bool.and_eq_true,decide_eq_true_eq] at hs
    omega
   simp (disch:=try exact DI) only [↓PR,QR,simprocAttr,↓n64c1,↓n64c2,↓n64c3,↓n64c4,↓n64c5,↓n64c6,↓n64c7,↓n64c8,(cells_of_heap (e3.obj o2)).1]
   refine callK_ret (before_ret (h.ext (e0.trans e3)) i hi hlt) ?_
   rintro bv w4 ⟨hB,e4⟩
   simp (disch:=try exact DI) only [↓PR,QR,simprocAttr,↓n64c1,↓n64c2,↓n64c3,↓n64c4,↓n64c5,↓n64c6,↓n64c7,↓n64c8]
   refine callK_ret (ranges_ret _ _ _ hB) ?_
   rintro _ w5 ⟨m,rfl,hmlo,hM,e5⟩
   rw [numPairs_RP] at hM
   have e6:Ext W w5:=e3.trans (e4.trans e5)
   have l3:w0.heap.size+1 < w5.heap.size:=(Qk (e6.obj o3)).1
   simp (disch:=try exact DI) only [↓PR,QR,simprocAttr,↓n64c1,↓n64c2,↓n64c3,↓n64c4,↓n64c5,↓n64c6,↓n64c7,↓n64c8,(cells_of_heap (e6.obj o3)).1]
   have e6':Ext w0 w5:=e0.trans e6
   refine callK_ret (Names_ret _ _ f.base f.terms ⟨tv,rfl,TermsOf.ext hT ee⟩ ht) ?_
   rintro _ w7 ⟨pb,tv2,rfl,hTA,_,e7⟩
   rw [hv,if_pos rfl] at hTA
   have s7:=e7.size
   simp only [World.size_alloc] at s7
   have e8:Ext W w7:=ee
   have p4:w7.heap[w5.heap.size]?=some (.cells #[.map (some m)] 296 (0,0)):=by simp (disch:=try exact DI) only [↓PR,QR,simprocAttr,e7.heapQ]
   have hM7:MapOf w7 m (RP (numR (fs.take i))):=hM.ext (((Ext.refl _).alloc _).trans e7)
   have h7:Chk w7 cb md ms deps strs at_ fld fs:=h.ext (e0.trans e8)
   have o2':=e8.obj o2
   have o3':=e8.obj o3
   have e07:Ext w0 w7:=e0.trans e8
   clear e7 e6 e5 e4 e3 e2 e1 hM hB hmlo s7 l3 o2 o3 e8 e6'
   unfold n64c5
   have hLI:∀ k,Lasts w7.heap.size (fun w=>Ext w7 w∧namesC (numR (fs.take i)) (f.terms.drop k)=namesC (numR (fs.take i)) f.terms):=fun k=>Lasts.and (Lasts.from (Nat.le_refl _)) (Lasts.const _ _)
   refine ⟨_,_,f.terms.length,namesX f.terms,fun w=>TermsAt w pb tv2 f.terms,fun k w=>Ext w7 w∧namesC (numR (fs.take i)) (f.terms.drop k)=namesC (numR (fs.take i)) f.terms,fun _ _=>False,
    fun ch w=>Ext w7 w∧∃ c,c≠0∧ch=[flawEntry at_ fld c]∧namesC (numR (fs.take i)) f.terms=c,rfl,c257,Names_seq pb tv2 f.terms,⟨Ext.refl _,rfl⟩,fun k w h=>hTA.ext h.1,hLI,fun _=>Lasts.const _ _,?_,?_,?_,?_⟩
   · intro rec j w3 hj hI3 hrec hready
     refine ⟨hready,fun w4 hbz=>?_⟩
     have hrec4:=hrec.busied hbz
     obtain ⟨e4,hF⟩:=(hLI j).busied hbz (Nat.le_succ _) hI3
     clear hI3 hrec hready hbz
     obtain ⟨t,hx⟩:=getElem?_lt hj
     rw [show namesX f.terms j = .string t.field by unfold namesX;rw [hx]]
     have hd:f.terms.drop j=t::f.terms.drop (j+1):=by
      rw [List.drop_eq_getElem_cons hj]
      congr 1
      exact (Qv hx).2
     rw [hd] at hF
     simp only [namesC] at hF
     have o2:=e4.obj o2'
     have l2:w0.heap.size < w4.heap.size:=(Qk o2).1
     simp (disch:=try exact DI) only [↓PR,QR,simprocAttr,↓n64c1,↓n64c2,↓n64c3,↓n64c4,↓n64c5,↓n64c6,↓n64c7,↓n64c8,(cells_of_heap (e4.obj p4)).1]
     rw [op_lookupO Tryz.underlying296 Tryz.underlying9 ty300 (hM7.ext e4),lastOf_RP]
     have fin:∀ w5 b,Ext w4 w5→b=(lastR (numR (fs.take i)) t.field).isSome→callK Pg 135 #[.pointer (some ⟨cb,0,none⟩),.bool b,.int .i64 8] (fun ch w''=>RecAt rec w7.heap.size w''∧Ext w7 w''∧∃ c,c≠0∧ch=[flawEntry at_ fld c]∧namesC (numR (fs.take i)) f.terms=c) w5 (fun _ w''=>RecAt rec w7.heap.size w''∧Ext w7 w''∧namesC (numR (fs.take i)) (f.terms.drop (j+1))=namesC (numR (fs.take i)) f.terms):=by
      rintro w5 b e5 rfl
      refine callK_flw (need_flw (h7.ext (e4.trans e5)) _ 8 Qj) (fun w6 e6 h0=>?_) (fun w6 e6 h0=>?_)
      · rw [h0,orC_zero] at hF
        exact ⟨hrec4.ext (e5.trans e6),e4.trans (e5.trans e6),hF⟩
      · rw [orC_ne h0] at hF
        exact ⟨hrec4.ext (e5.trans e6),e4.trans (e5.trans e6),_,h0,rfl,hF.symm⟩
     cases hl:lastR (numR (fs.take i)) t.field with
     | none =>
      rw [hl] at fin
      simp (disch:=try exact DI) only [↓PR,QR,simprocAttr,↓n64c1,↓n64c2,↓n64c3,↓n64c4,↓n64c5,↓n64c6,↓n64c7,↓n64c8,(cells_of_heap o2).1,Option.map_none]
      exact fin _ _ ee rfl
     | some q =>
      obtain ⟨lo,hi⟩:=q
      rw [hl] at fin
      simp (disch:=try exact DI) only [↓PR,QR,simprocAttr,↓n64c1,↓n64c2,↓n64c3,↓n64c4,↓n64c5,↓n64c6,↓n64c7,↓n64c8,(cells_of_heap o2).1,rangeVal]
      exact fin _ _ ee rfl
   · rintro w3 ⟨e3,hF⟩ hmk
     rw [List.drop_length] at hF
     have l7:w7.heap.size < w3.heap.size:=(Qk hmk).1
     rw [← hF]
     show n64c4 _ _ _ _ (flwR w0 at_ fld (orC 0 _)) w3
     rw [orC_zero]
     simp (disch:=try exact DI) only [↓PR,QR,simprocAttr,↓n64c1,↓n64c2,↓n64c3,↓n64c4,↓n64c5,↓n64c6,↓n64c7,↓n64c8,(cells_of_heap (e3.obj o3')).1,(cells_of_heap (e3.obj p4)).1]
     refine zcr (Interval_ret _ _ f.base f.terms m _ ⟨tv,rfl,TermsOf.ext hT (e07.trans e3)⟩ ht (hM7.ext e3)) fun w4 e4=>?_
     have s4:=e4.size
     have o2:=(e3.trans e4).obj o2'
     have l2:w0.heap.size < w4.heap.size:=(Qk o2).1
     simp (disch:=try exact DI) only [↓PR,QR,simprocAttr,↓n64c1,↓n64c2,↓n64c3,↓n64c4,↓n64c5,↓n64c6,↓n64c7,↓n64c8,(cells_of_heap o2).1,rangeVal]
     have e5:Ext w3 (w4.alloc (Obj.cells #[.int .i64 (intervalL f.base f.terms (numR (fs.take i))),.int .i64 (intervalH f.base f.terms (numR (fs.take i)))] 300)):=e4.alloc _
     have s07:=e07.size
     refine callK_flw (need_flw (h7.ext (e3.trans e5)) (lenB f.base f.terms (numR (fs.take i))) 9 Qj) (fun w6 e6 h0=>?_) (fun w6 e6 h0=>?_)
     · refine outX_mark (hmk.ext (e5.trans e6)) ?_
       rw [outX_nil]
       exact flwR_ret (((e07.trans e3).trans (e5.trans e6)).putObj Qx _) h0
     · refine outQ_mark (hmk.ext (e5.trans e6)) ?_
       rw [outQ_nil]
       exact flwR_pan (((e07.trans e3).trans (e5.trans e6)).putObj Qx _) rfl h0
   · rintro c w3 h
     exact h.elim
   · rintro ch w3 ⟨e3,c,hc,rfl,hF⟩ hmk
     have l7:w7.heap.size < w3.heap.size:=(Qk hmk).1
     rw [hF,orC_ne hc]
     refine outQ_mark hmk ?_
     rw [outQ_nil]
     exact flwR_pan (by have:=e07.size;exact ee) rfl hc
 · rw [orC_ne h0]
   exact flwR_pan (e0.wdrew.trans (e1.trans e2)) rfl h0
end
end Go.Proofs.YtgalpdihjbinjaaGreatDoor
