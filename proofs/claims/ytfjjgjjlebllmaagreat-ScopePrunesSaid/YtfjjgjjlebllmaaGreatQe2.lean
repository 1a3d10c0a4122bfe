/-
  Lemmas for the claim.
-/
import Derived.Test.YtfjjgjjlebllmaaGreatQe1
set_option linter.all false
set_option maxHeartbeats 4000000
set_option maxRecDepth 100000
namespace Go.Sw
open Go.RowKit (Below)
def Z5 {α:Type} (w:World) (base:Nat) (T:TypeId) (n:Nat) (enc:α→List Value) (v:Value) (l:List α):Prop :=
 w.ownsRow base T n v l.length (l.flatMap enc)
theorem Eu {w w':World} {base n m:Nat} {T:TypeId} {v:Value} {xs:List Value} (h:w.ownsRow base T n v m xs) (e:Ext w w'):w'.ownsRow base T n v m xs :=
 h.kept (row:=none) ⟨e.os,e.tape,e.output,e.size,λ k hk _=>e.block k hk⟩ (by cases hv:v.ownBlock<;>simp)
theorem BX {w:World} {base base' n m:Nat} {T:TypeId} {v:Value} {xs:List Value} (h:w.ownsRow base T n v m xs) (hb:base'≤base):w.ownsRow base' T n v m xs:=by
 refine ⟨h.1,?_⟩
 rcases h.2 with h2 | ⟨g,cap,cur,h1,h2,h3⟩
 · exact .inl h2
 · exact .inr ⟨g,cap,cur,h1,Nat.le_trans hb h2,h3⟩
theorem Z5.ext {α:Type} {w w':World} {base n:Nat} {T:TypeId} {enc:α→List Value} {v:Value} {l:List α} (h:Z5 w base T n enc v l) (e:Ext w w'):Z5 w' base T n enc v l:=Eu h e
theorem Z5.base {α:Type} {w:World} {base base' n:Nat} {T:TypeId} {enc:α→List Value} {v:Value} {l:List α} (h:Z5 w base T n enc v l) (hb:base'≤base):Z5 w base' T n enc v l:=BX h hb
theorem Z5.nil {α:Type} (w:World) (base n:Nat) (T:TypeId) (enc:α→List Value):Z5 w base T n enc (.slice none 0 0) []:=w.ownsRow_nil base T n
theorem X6 {α:Type} {enc:α→List Value} {n:Nat} (hn:∀ x,(enc x).length=n):∀ (l:List α) (k:Nat) (x:α) (j:Nat) (v:Value),l[k]?=some x→(enc x)[j]?=some v→(l.flatMap enc)[k*n+j]?=some v
 | [],k,x,j,v,h,_=>by simp at h
 | y::l,0,x,j,v,h,hv=>by
  simp only [List.getElem?_cons_zero,Option.some.injEq] at h
  subst h
  have hj:j < (enc y).length:=(List.getElem?_eq_some_iff.1 hv).1
  rw [List.flatMap_cons,Nat.zero_mul,Nat.zero_add,List.getElem?_append_left hj];exact hv
 | y::l,k+1,x,j,v,h,hv=>by
  rw [List.flatMap_cons,List.getElem?_append_right (by rw [hn,Nat.add_mul];omega)]
  have:=X6 hn l k x j v (by simpa using h) hv
  rw [hn,Nat.add_mul]
  rw [show k*n+1*n+j - n=k*n+j by omega]
  exact this
theorem Z5.slice {α:Type} {w:World} {base n:Nat} {T:TypeId} {enc:α→List Value} {v:Value} {l:List α} {E:World→List Value→α→Prop} (h:Z5 w base T n enc v l) (hn:∀ x,(enc x).length=n) (hE:∀ x,x∈l→E w (enc x) x):Ze w n E v l:=by
 obtain ⟨h1,h2⟩:=h
 rcases h2 with ⟨rfl,h0⟩ | ⟨g,cap,cur,rfl,hb,hg,hc,hm,hs,ht⟩
 · have:l=[]:=List.eq_nil_of_length_eq_zero h0
   subst this;exact Ze.nil w n E
 · refine ⟨_,cap,rfl,hc,by simp only [maxLen] at hm;omega,λ _=>⟨g,0,rfl,λ k x hx=>⟨enc x,hn x,λ j v hv=>?_,hE x (List.mem_of_getElem? hx)⟩⟩⟩
   have hk:k < l.length:=(List.getElem?_eq_some_iff.1 hx).1
   have hj:j < n:=by have:=(List.getElem?_eq_some_iff.1 hv).1;rwa [hn] at this
   have:=X6 hn l k x j v hx hv
   rw [← ht,List.getElem?_take] at this
   split at this
   · rw [cell_of_row w g _ cur T (0,0) hg,Nat.zero_add]
     simpa using this
   · cases this
theorem Z5.new {α:Type} (w:World) (T:TypeId) (n:Nat) (enc:α→List Value) (l:List α) (hn:∀ x,(enc x).length=n) (hl:l.length≤9223372036854775807):Z5 (w.alloc (.cells (l.flatMap enc).toArray T)) w.heap.size T n enc (.slice (some ⟨w.heap.size,0,none⟩) l.length l.length) l:=by
 have hlen:(l.flatMap enc).length=l.length*n:=by
  clear hl
  induction l with
  | nil=>simp
  | cons a l ih=>rw [List.flatMap_cons,List.length_append,hn,ih,List.length_cons,Nat.add_mul];omega
 exact ⟨hlen,.inr ⟨_,_,_,rfl,Nat.le_refl _,World.alloc_heap_new w _,Nat.le_refl _,by simp only [maxLen];omega,by simpa using hlen,by rw [← hlen];exact List.take_length⟩⟩
abbrev Cs (n:Nat):Type:={cs:List Value // cs.length=n}
def Uf {α:Type} (n:Nat) (E:List Value→α→Prop) (css:List (Cs n)) (l:List α):Prop:=css.length=l.length∧∀ (k:Nat) (x:α) (cs:Cs n),l[k]?=some x→css[k]?=some cs→E cs.1 x
theorem Uf.imp {α:Type} {n:Nat} {E E':List Value→α→Prop} {css:List (Cs n)} {l:List α} (h:Uf n E css l) (hE:∀ cs x,E cs x→E' cs x):Uf n E' css l:=⟨h.1,λ k x cs hx hc=>hE _ _ (h.2 k x cs hx hc)⟩
theorem Uf.mem {α:Type} {n:Nat} {E:List Value→α→Prop} {css:List (Cs n)} {l:List α} (h:Uf n E css l) {cs:Cs n} (hc:cs∈css):∃ x∈l,E cs.1 x:=by
 obtain ⟨k,hk⟩:=List.getElem?_of_mem hc
 obtain ⟨x,hx⟩:=getElem?_lt (l:=l) (k:=k) (by rw [← h.1];exact (List.getElem?_eq_some_iff.1 hk).1)
 exact ⟨x,List.mem_of_getElem? hx,h.2 k x cs hx hk⟩
theorem GT {n:Nat}:jJ (λ (_:World) (cs:List Value) (x:Cs n)=>cs=x.1):=λ _ _ _ _ _ h=>h
theorem Ze.raw {α:Type} {w:World} {n:Nat} {E:World→List Value→α→Prop} {v:Value} {l:List α} (h:Ze w n E v l) :
 ∃ css:List (Cs n),Ze w n (λ _ cs x=>cs=x.1) v css∧Uf n (E w) css l:=by
 obtain ⟨A,c,rfl,hlc,hcm,hlm,hel⟩:=Ze.open h
 have hex:∀ k,∃ cs:Cs n,∀ x,l[k]?=some x→∃ b o,A=some ⟨b,o,none⟩∧ZS w b (o+k*n) cs.1∧E w cs.1 x:=by
  intro k
  cases hx:l[k]? with
  | none=>exact ⟨⟨List.replicate n .nilIface,by simp⟩,λ x h=>by cases h⟩
  | some x =>
   obtain ⟨b,o,cs,h1,h2,h3,h4⟩:=hel k x hx
   exact ⟨⟨cs,h2⟩,λ y hy=>by injection hy with hy;subst hy;exact ⟨b,o,h1,h3,h4⟩⟩
 let f:=λ k=>Classical.choose (hex k)
 have hf:∀ k x,l[k]?=some x→∃ b o,A=some ⟨b,o,none⟩∧ZS w b (o+k*n) (f k).1∧E w (f k).1 x:=λ k=>Classical.choose_spec (hex k)
 refine ⟨(List.range l.length).map f,⟨A,c,by simp,by simpa using hlc,hcm,λ hne=>?_⟩,by simp,λ k x cs hx hcs=>?_⟩
 · have hl0:0 < l.length:=by
    cases hl:l with
    | nil=>rw [hl] at hne;simp at hne
    | cons=>simp
   obtain ⟨x,hx⟩:=getElem?_lt hl0
   obtain ⟨b,o,hA,_⟩:=hf 0 x hx
   refine ⟨b,o,hA,λ k cs hcs=>?_⟩
   simp only [List.getElem?_map,Option.map_eq_some_iff] at hcs
   obtain ⟨i,hi,rfl⟩:=hcs
   obtain ⟨hk,he⟩:=List.getElem?_eq_some_iff.1 hi
   simp only [List.length_range] at hk
   rw [List.getElem_range] at he
   subst he
   obtain ⟨y,hy⟩:=getElem?_lt hk
   obtain ⟨b',o',hA',h3,h4⟩:=hf k y hy
   rw [hA] at hA'
   injection hA' with hA'
   injection hA' with h5 h6
   subst h5 h6
   exact ⟨(f k).1,(f k).2,h3,rfl⟩
 · obtain ⟨_,_,_,_,h4⟩:=hf k x hx
   have hk:k < l.length:=(List.getElem?_eq_some_iff.1 hx).1
   simp only [List.getElem?_map,List.getElem?_range hk,Option.map_some,Option.some.injEq] at hcs
   rw [← hcs];exact h4
theorem Z5.reads {α:Type} {w:World} {base n:Nat} {T:TypeId} {v:Value} {css:List (Cs n)} {l:List α} {E:World→List Value→α→Prop} (h:Z5 w base T n Subtype.val v css) (hm:Uf n (E w) css l):Ze w n E v l:=by
 have hs:Ze w n (λ _ cs (x:Cs n)=>cs=x.1) v css:=h.slice (λ x=>x.2) (λ _ _=>rfl)
 obtain ⟨A,c,h1,h2,h3,h4⟩:=hs
 rw [hm.1] at h1 h2
 refine ⟨A,c,h1,h2,h3,λ hne=>?_⟩
 have hne':css≠[]:=by
  rintro rfl
  have:=hm.1
  exact hne (List.eq_nil_of_length_eq_zero (by simpa using this.symm))
 obtain ⟨b,o,hA,h5⟩:=h4 hne'
 refine ⟨b,o,hA,λ k x hx=>?_⟩
 obtain ⟨cs,hcs⟩:=getElem?_lt (l:=css) (k:=k) (by rw [hm.1];exact (List.getElem?_eq_some_iff.1 hx).1)
 obtain ⟨cs',h6,h7,rfl⟩:=h5 k cs hcs
 exact ⟨cs.1,cs.2,h7,hm.2 k x cs hx hcs⟩
theorem Za {w:World} {b:Nat} {cs:Array Value} {T:TypeId} (h:w.heap[b]?=some (.cells cs T (0,0))):(∀ o,w.cell? ⟨b,o,none⟩=cs[o]?)∧∀ o,w.frozen? ⟨b,o,none⟩=false :=
 ⟨λ o=>cell_of_row w b o cs T (0,0) h,λ o=>by unfold World.frozen?;rw [h];simp⟩
theorem Z2 {w:World} {b o:Nat} {cs:Array Value} {T:TypeId} {fr:Nat×Nat} (h:w.heap[b]?=some (.cells cs T fr)) (v:Value):(w.setCell ⟨b,o,none⟩ v).heap[b]?=some (.cells (cs.setIfInBounds o v) T fr):=by
 simp only [World.setCell,Array.getElem?_modify,h]
 simp
def setObj (o:Nat) (v:Value):Obj→Obj
 | .cells cs T fr => .cells (cs.setIfInBounds o v) T fr
 | x=>x
theorem YD (o:Nat) (v:Value) (cs:Array Value) (T:TypeId) (fr:Nat×Nat):setObj o v (.cells cs T fr) = .cells (cs.setIfInBounds o v) T fr:=rfl
theorem YE {w:World} {b o:Nat} {v:Value}:(w.setCell ⟨b,o,none⟩ v).heap[b]?=(w.heap[b]?).map (setObj o v):=by
 simp only [World.setCell,Array.getElem?_modify]
 cases w.heap[b]? with
 | none=>simp
 | some x=>simp;cases x<;>rfl
theorem ZE (w:World) (cs:Array Value) (T:TypeId):(w.alloc (.cells cs T)).heap[w.heap.size]?=some (.cells cs T (0,0)):=World.alloc_heap_new w _
def X2 (w:World) (b:Nat) (T:TypeId):Prop:=∃ cur fr,w.heap[b]?=some (.cells cur T fr)
def Yu (b:Nat) (w w':World):Prop:=∀ g,g≠b→w'.heap[g]?=w.heap[g]?
theorem Yu.setCell (w:World) (b o:Nat) (v:Value):Yu b w (w.setCell ⟨b,o,none⟩ v):=λ g hg=>Below.heap_setCell w ⟨b,o,none⟩ v g hg
def WI {α:Type} (w:World) (lo hi:Nat) (T:TypeId) (n:Nat) (enc:α→List Value) (v:Value) (l:List α):Prop:=Z5 w lo T n enc v l∧∀ b,v.ownBlock=some b→b < hi
theorem Z5.range {α:Type} {w:World} {lo n:Nat} {T:TypeId} {enc:α→List Value} {v:Value} {l:List α} (h:Z5 w lo T n enc v l):WI w lo w.heap.size T n enc v l:=⟨h,λ b hb=>(h.lt b hb).2⟩
theorem WI.ext {α:Type} {w w':World} {lo hi n:Nat} {T:TypeId} {enc:α→List Value} {v:Value} {l:List α} (h:WI w lo hi T n enc v l) (e:Ext w w'):WI w' lo hi T n enc v l:=⟨h.1.ext e,h.2⟩
theorem WI.mono {α:Type} {w:World} {lo lo' hi hi' n:Nat} {T:TypeId} {enc:α→List Value} {v:Value} {l:List α} (h:WI w lo hi T n enc v l) (h1:lo'≤lo) (h2:hi≤hi'):WI w lo' hi' T n enc v l:=⟨h.1.base h1,λ b hb=>Nat.lt_of_lt_of_le (h.2 b hb) h2⟩
theorem WI.only {α:Type} {w w':World} {lo hi n b:Nat} {T:TypeId} {enc:α→List Value} {v:Value} {l:List α} (h:WI w lo hi T n enc v l) (ho:Yu b w w') (hb:hi≤b∨b < lo∨∃ T',X2 w b T'∧T'≠T):WI w' lo hi T n enc v l:=by
 refine ⟨⟨h.1.1,?_⟩,h.2⟩
 rcases h.1.2 with h2 | ⟨g,cap,cur,h1,h2,h3,h4⟩
 · exact .inl h2
 · refine .inr ⟨g,cap,cur,h1,h2,?_,h4⟩
   rw [ho g ?_];exact h3
   rintro rfl
   rcases hb with hb | hb | ⟨T',⟨cur',fr,hc⟩,hT⟩
   · have:=h.2 g (by rw [h1];rfl)
     omega
   · omega
   · rw [h3] at hc;injection hc with hc;injection hc with _ hc _;exact hT hc.symm
theorem Z5.row {α:Type} {w:World} {lo n:Nat} {T:TypeId} {enc:α→List Value} {v:Value} {l:List α} (h:Z5 w lo T n enc v l) (hn:∀ x,(enc x).length=n) (hl:0 < l.length) :
 ∃ g cap,v = .slice (some ⟨g,0,none⟩) l.length cap∧lo≤g∧g < w.heap.size∧X2 w g T∧(∀ o,w.frozen? ⟨g,o,none⟩=false)∧∀ k x,l[k]?=some x→ZS w g (k*n) (enc x):=by
 rcases h.2 with ⟨rfl,h0⟩ | ⟨g,cap,cur,rfl,hb,hg,hc,hm,hs,ht⟩
 · omega
 · refine ⟨g,cap,rfl,hb,(Array.getElem?_eq_some_iff.1 hg).1,⟨_,_,hg⟩,λ o=>by unfold World.frozen?;rw [hg];simp,λ k x hx j v hv=>?_⟩
   have:=X6 hn l k x j v hx hv
   rw [← ht,List.getElem?_take] at this
   split at this
   · rw [cell_of_row w g _ cur T (0,0) hg]
     simpa using this
   · cases this
theorem KY {n:Nat}:∀ (css:List (Cs n)) (k:Nat) (cs:Cs n) (j:Nat) (u:Value),css[k]?=some cs→j < n→(css.flatMap Subtype.val).set (k*n+j) u=(css.set k ⟨cs.1.set j u,by simp [cs.2]⟩).flatMap Subtype.val
 | [],k,cs,j,u,h,_=>by simp at h
 | y::l,0,cs,j,u,h,hj=>by
  simp only [List.getElem?_cons_zero,Option.some.injEq] at h
  subst h
  rw [List.set_cons_zero,List.flatMap_cons,List.flatMap_cons,Nat.zero_mul,Nat.zero_add,List.set_append_left _ _ (by rw [y.2];exact hj)]
 | y::l,k+1,cs,j,u,h,hj=>by
  have hk:(k+1)*n=k*n+n:=by rw [Nat.add_mul,Nat.one_mul]
  rw [List.set_cons_succ,List.flatMap_cons,List.flatMap_cons,List.set_append_right _ _ (by rw [y.2,hk];omega),y.2,hk,show k*n+n+j - n=k*n+j by omega]
  rw [KY l k cs j u (by simpa using h) hj]
theorem Z5.set {w:World} {lo n g cap len:Nat} {T:TypeId} {css:List (Cs n)} (h:Z5 w lo T n Subtype.val (.slice (some ⟨g,0,none⟩) len cap) css) {k:Nat} {cs:Cs n} (hk:css[k]?=some cs) {j:Nat} (hj:j < n) (u:Value) :
 Z5 (w.setCell ⟨g,k*n+j,none⟩ u) lo T n Subtype.val (.slice (some ⟨g,0,none⟩) len cap) (css.set k ⟨cs.1.set j u,by simp [cs.2]⟩):=by
 have hkl:k < css.length:=(List.getElem?_eq_some_iff.1 hk).1
 refine ⟨?_,?_⟩
 · rw [← KY css k cs j u hk hj,List.length_set,List.length_set];exact h.1
 rcases h.2 with ⟨h0,_⟩ | ⟨g',cap',cur,h1,hb,hg,hc,hm,hs,ht⟩
 · cases h0
 · injection h1 with h1 h1' h1''
   injection h1 with h1
   injection h1 with h1
   subst h1 h1''
   refine .inr ⟨g,cap,cur.setIfInBounds (k*n+j) u,by rw [List.length_set,← h1'],hb,?_,by rw [List.length_set];exact hc,hm,by simpa using hs,?_⟩
   · simp only [World.setCell,Array.getElem?_modify,hg]
     simp
   · rw [List.length_set,← KY css k cs j u hk hj,← ht,Array.toList_setIfInBounds,List.take_set]
theorem X2.only {w w':World} {b b':Nat} {T:TypeId} (h:X2 w b T) (ho:Yu b' w w') (hb:b≠b'):X2 w' b T:=by
 obtain ⟨cur,fr,h⟩:=h
 exact ⟨cur,fr,by rw [ho b hb];exact h⟩
theorem X2.ext {w w':World} {b:Nat} {T:TypeId} (h:X2 w b T) (e:Ext w w'):X2 w' b T:=by
 obtain ⟨cur,fr,h⟩:=h
 exact ⟨cur,fr,e.obj h⟩
theorem Z5.mates {α:Type} {w:World} {lo n:Nat} {T:TypeId} {enc:α→List Value} {v:Value} {css:List (Cs n)} {l:List α} (h:Z5 w lo T n Subtype.val v css) (hm:Uf n (λ cs x=>cs=enc x) css l):Z5 w lo T n enc v l:=by
 have he:css.flatMap Subtype.val=l.flatMap enc:=by
  have:css.map Subtype.val=l.map enc:=by
   apply List.ext_getElem?
   intro i
   rw [List.getElem?_map,List.getElem?_map]
   cases hc:css[i]? with
   | none =>
    have:l[i]?=none:=by rw [List.getElem?_eq_none_iff] at hc ⊢;rw [← hm.1];exact hc
    rw [this];rfl
   | some cs =>
    obtain ⟨x,hx⟩:=getElem?_lt (l:=l) (k:=i) (by rw [← hm.1];exact (List.getElem?_eq_some_iff.1 hc).1)
    rw [hx]
    simp only [Option.map_some,Option.some.injEq]
    exact hm.2 i x cs hx hc
  rw [List.flatMap_def,List.flatMap_def,this]
 unfold Z5 at *
 rw [← he,← hm.1];exact h
section
variable {P:Program} {QP:List PanicEntry→World→Prop} {w:World}
theorem UJ {t ty T n m:Nat} {z:Value} {agg:Bool} {k:Value→World→Prop} (ht:P.underlying t=some (.slice T)) (hT:ZJ P T agg n m z) (B A:Option Addr) (len cap c:Nat) (hc:len≤cap) :
 opV P (Builtin.append_ #[t,t] ty #[.slice B len cap,.slice A 0 c]) QP w k=k (.slice B len cap) w:=by
 obtain ⟨⟨i,hi,hs,hby,hzz⟩,_⟩:=hT
 refine Z3 ?_
 cases A with
 | none=>cases B<;>simp [Builtin.append_,run_underlying ht,sizeOf,typeInfo,hi,Builtin.lenOf,Builtin.firstCells,hc,storeCells]
 | some a=>cases B<;>simp [Builtin.append_,run_underlying ht,sizeOf,typeInfo,hi,Builtin.lenOf,Builtin.firstCells,hc,storeCells,loadCells,loadCellsFrom]
theorem X7 {α:Type} {t ty T n m:Nat} {z:Value} {agg:Bool} {enc:α→List Value} {v:Value} {l l':List α} {base:Nat} {k:Value→World→Prop}
 (ht:P.underlying t=some (.slice T)) (hT:ZJ P T agg n m z) (hz:z.cells.size=n) (h0:0 < n) (hn:∀ x,(enc x).length=n) (h1:∀ x,x∈l'→∀ u∈enc x,u.oneCell'=true)
 (hown:Z5 w base T n enc v l) {b o c:Nat} (hc:∀ j x,l'[j]?=some x→ZS w b (o+j*n) (enc x)) (hbase:base≤w.heap.size) (hm:(l.length+l'.length)*m≤140737488355328) (hb:l.length+l'.length≤140737488355328)
 (hk:∀ v' w',Z5 w' base T n enc v' (l++l')→w.grownBy w' v.ownBlock→k v' w') :
 opV P (Builtin.append_ #[t,t] ty #[v,.slice (some ⟨b,o,none⟩) l'.length c]) QP w k:=by
 obtain ⟨⟨i,hi,hs,hby,hzz⟩,_⟩:=hT
 have hfl:(l'.flatMap enc).length=l'.length*n:=by
  clear hm hb hc h1 hk
  induction l' with
  | nil=>simp
  | cons a l ih=>rw [List.flatMap_cons,List.length_append,hn,ih,List.length_cons,Nat.add_mul];omega
 have hcells:∀ j u,(l'.flatMap enc)[j]?=some u→w.cell? ((⟨b,o,none⟩:Addr).add j)=some u:=by
  intro j u hu
  have hj:j < l'.length*n:=by have:=(List.getElem?_eq_some_iff.1 hu).1;rwa [hfl] at this
  have hq:j / n < l'.length:=Nat.div_lt_of_lt_mul (by rw [Nat.mul_comm];exact hj)
  obtain ⟨x,hx⟩:=getElem?_lt hq
  have hjn:j % n < (enc x).length:=by rw [hn];exact Nat.mod_lt _ h0
  have hdm:j / n*n+j % n=j:=by rw [Nat.mul_comm];exact Nat.div_add_mod j n
  have hg:=X6 hn l' (j / n) x (j % n) _ hx (List.getElem?_eq_getElem hjn)
  rw [hdm,hu] at hg
  injection hg with hg
  rw [Addr.add_lit]
  have:=hc _ _ hx (j % n) _ (List.getElem?_eq_getElem hjn)
  rw [hg,← this]
  congr 2;omega
 obtain ⟨v',w',hr,ho,hg,_⟩:=run_append_own (P:=P) w base t ty T i z n m ht hi hzz hs hby hz h0 v l.length (l.flatMap enc) hown ⟨b,o,none⟩ l'.length c (l'.flatMap enc) hfl hcells
  (by intro u hu;obtain ⟨x,hx,hux⟩:=List.mem_flatMap.1 hu;exact h1 x hx u hux) (by simp only [maxLen];omega) hm hbase
 rw [Z3 hr]
 refine hk v' w' ?_ hg
 unfold Z5
 rw [List.flatMap_append,List.length_append];exact ho
end
end Go.Sw
namespace Go.Proofs.YtfjjgjjlebllmaaGreat
open Sw
noncomputable abbrev Pg:=Tryz.prog
def L0 (T:TypeId) (a:Value) (R:RT) (w:World) (k:KV):Prop:=opV Pg (Instr.loadAt T a) (Zd R) w k
theorem Zb6 (T:TypeId) (a:Value) (R:RT) (w:World) (k:KV):L0 T a R w k=opV Pg (Instr.loadAt T a) (Zd R) w k:=rfl
def F0 (T:TypeId) (a:Value) (i:Nat) (R:RT) (w:World) (k:KV):Prop:=opV Pg (Instr.fieldAt T a i) (Zd R) w k
theorem Zcx (T:TypeId) (a:Value) (i:Nat) (R:RT) (w:World) (k:KV):F0 T a i R w k=opV Pg (Instr.fieldAt T a i) (Zd R) w k:=rfl
def X0 (T:TypeId) (a i:Value) (R:RT) (w:World) (k:KV):Prop:=opV Pg (Instr.indexAt T a i) (Zd R) w k
theorem ZcS (T:TypeId) (a i:Value) (R:RT) (w:World) (k:KV):X0 T a i R w k=opV Pg (Instr.indexAt T a i) (Zd R) w k:=rfl
def B0 (o:BinOp) (T:TypeId) (c:Bool) (a b:Value) (R:RT) (w:World) (k:KV):Prop:=opV Pg (ZM o T c a b) (Zd R) w k
theorem Zci (o:BinOp) (T:TypeId) (c:Bool) (a b:Value) (R:RT) (w:World) (k:KV):B0 o T c a b R w k=opV Pg (ZM o T c a b) (Zd R) w k:=rfl
def C0 (f:FuncId) (a:Array Value) (R:RT) (w:World) (k:KV):Prop:=Yq Pg f a (Zd R) w k
theorem ZcI (f:FuncId) (a:Array Value) (R:RT) (w:World) (k:KV):C0 f a R w k=Yq Pg f a (Zd R) w k:=rfl
def Zag (d:TypeDesc):Bool:=match d with | .struct _ | .array _ _=>true | _=>false
theorem Y4 {P:Program} {T:TypeId} {agg:Bool} {n:Nat} {z:Value} {d:TypeDesc} (h:(P.info? T).map (λ i=>(i.size,i.zero))=some (n,some z)) (hu:P.underlying T=some d) (ha:Zag d=agg):ZJ P T agg n (P.bytesOf T) z:=by
 obtain ⟨i,hi,he⟩:=Option.map_eq_some_iff.1 h
 simp only [Prod.mk.injEq] at he
 exact ⟨⟨i,hi,he.1,by simp [Program.bytesOf,hi],he.2⟩,d,hu,ha⟩
theorem ty3:ZJ Pg 3 false 1 (Pg.bytesOf 3) (.int .i64 0):=Y4 (by kernel_rfl) Tryz.underlying3 rfl
theorem by3:Pg.bytesOf 3≤4096:=Nat.le_of_ble_eq_true (by kernel_rfl)
theorem ty4:ZJ Pg 4 false 1 (Pg.bytesOf 4) (.bool false):=Y4 (by kernel_rfl) Tryz.underlying4 rfl
theorem by4:Pg.bytesOf 4≤4096:=Nat.le_of_ble_eq_true (by kernel_rfl)
theorem ty5:ZJ Pg 5 false 1 (Pg.bytesOf 5) (.int .u8 0):=Y4 (by kernel_rfl) Tryz.underlying5 rfl
theorem ty9:ZJ Pg 9 false 1 (Pg.bytesOf 9) (.string ByteArray.empty):=Y4 (by kernel_rfl) Tryz.underlying9 rfl
theorem by9:Pg.bytesOf 9≤4096:=Nat.le_of_ble_eq_true (by kernel_rfl)
theorem Lk:ZJ Pg 22 false 1 (Pg.bytesOf 22) (.slice none 0 0):=Y4 (by kernel_rfl) Tryz.underlying22 rfl
theorem Uh:ZJ Pg 24 true 2 (Pg.bytesOf 24) (.agg #[.string ByteArray.empty,.slice none 0 0]):=Y4 (by kernel_rfl) Tryz.underlying24 rfl
theorem ZcU:Pg.bytesOf 24≤4096:=Nat.le_of_ble_eq_true (by kernel_rfl)
theorem En:ZJ Pg 26 false 1 (Pg.bytesOf 26) (.slice none 0 0):=Y4 (by kernel_rfl) Tryz.underlying26 rfl
theorem BO:ZJ Pg 28 true 3 (Pg.bytesOf 28) (.agg #[.string ByteArray.empty,.slice none 0 0,.string ByteArray.empty]):=Y4 (by kernel_rfl) Tryz.underlying28 rfl
theorem AE:ZJ Pg 30 false 1 (Pg.bytesOf 30) (.slice none 0 0):=Y4 (by kernel_rfl) Tryz.underlying30 rfl
theorem Zdq:Pg.bytesOf 30≤4096:=Nat.le_of_ble_eq_true (by kernel_rfl)
theorem Zat:ZJ Pg 31 false 1 (Pg.bytesOf 31) (.int .i64 0):=Y4 (by kernel_rfl) Tryz.underlying31 rfl
theorem zz:ZJ Pg 42 false 1 (Pg.bytesOf 42) (.int .i64 0):=Y4 (by kernel_rfl) Tryz.underlying42 rfl
theorem Hw:ZJ Pg 43 false 1 (Pg.bytesOf 43) (.slice none 0 0):=Y4 (by kernel_rfl) Tryz.underlying43 rfl
theorem GV:ZJ Pg 45 true 2 (Pg.bytesOf 45) (.agg #[.int .i64 0,.slice none 0 0]):=Y4 (by kernel_rfl) Tryz.underlying45 rfl
theorem jg:ZJ Pg 46 false 1 (Pg.bytesOf 46) (.slice none 0 0):=Y4 (by kernel_rfl) Tryz.underlying46 rfl
theorem VR:ZJ Pg 48 true 15 (Pg.bytesOf 48) (.agg #[.string ByteArray.empty,.int .i64 0,.int .i64 0,.bool false,.bool false,.int .i64 0,.int .i64 0,.int .i64 0,.slice none 0 0,.string ByteArray.empty,.string ByteArray.empty,.string ByteArray.empty,.slice none 0 0,.int .i64 0,.int .i64 0]):=Y4 (by kernel_rfl) Tryz.underlying48 rfl
theorem Zdx:Pg.bytesOf 48≤4096:=Nat.le_of_ble_eq_true (by kernel_rfl)
theorem jm:ZJ Pg 60 true 3 (Pg.bytesOf 60) (.agg #[.int .i64 0,.int .i64 0,.string ByteArray.empty]):=Y4 (by kernel_rfl) Tryz.underlying60 rfl
theorem ZeY:Pg.bytesOf 60≤4096:=Nat.le_of_ble_eq_true (by kernel_rfl)
theorem Ax:ZJ Pg 62 true 2 (Pg.bytesOf 62) (.agg #[.string ByteArray.empty,.int .i64 0]):=Y4 (by kernel_rfl) Tryz.underlying62 rfl
theorem ZgC:Pg.bytesOf 62≤4096:=Nat.le_of_ble_eq_true (by kernel_rfl)
theorem GG:ZJ Pg 74 true 2 (Pg.bytesOf 74) (.agg #[.int .i64 0,.int .i64 0]):=Y4 (by kernel_rfl) Tryz.underlying74 rfl
theorem Zah:ZJ Pg 82 false 1 (Pg.bytesOf 82) (.slice none 0 0):=Y4 (by kernel_rfl) Tryz.underlying82 rfl
theorem ZdD:ZJ Pg 83 false 1 (Pg.bytesOf 83) (.nilFunc):=Y4 (by kernel_rfl) Tryz.underlying83 rfl
theorem Zb8:ZJ Pg 88 false 1 (Pg.bytesOf 88) (.int .i64 0):=Y4 (by kernel_rfl) Tryz.underlying88 rfl
theorem Lg:ZJ Pg 90 true 3 (Pg.bytesOf 90) (.agg #[.int .i64 0,.int .i64 0,.int .i64 0]):=Y4 (by kernel_rfl) Tryz.underlying90 rfl
theorem PK:ZJ Pg 122 false 1 (Pg.bytesOf 122) (.map none):=Y4 (by kernel_rfl) Tryz.underlying122 rfl
theorem Pq:ZJ Pg 140 false 1 (Pg.bytesOf 140) (.pointer none):=Y4 (by kernel_rfl) Tryz.underlying140 rfl
theorem HV:ZJ Pg 144 true 13 (Pg.bytesOf 144) (.agg #[.string ByteArray.empty,.string ByteArray.empty,.string ByteArray.empty,.string ByteArray.empty,.int .i64 0,.int .i64 0,.int .i64 0,.int .i64 0,.int .i64 0,.int .i64 0,.int .i64 0,.bool false,.bool false]):=Y4 (by kernel_rfl) Tryz.underlying144 rfl
theorem DB:ZJ Pg 161 false 1 (Pg.bytesOf 161) (.map none):=Y4 (by kernel_rfl) Tryz.underlying161 rfl
theorem j8:ZJ Pg 162 false 1 (Pg.bytesOf 162) (.map none):=Y4 (by kernel_rfl) Tryz.underlying162 rfl
theorem Za5:ZJ Pg 164 true 9 (Pg.bytesOf 164) (.agg #[.string ByteArray.empty,.slice none 0 0,.string ByteArray.empty,.map none,.map none,.int .i64 0,.int .i64 0,.string ByteArray.empty,.slice none 0 0]):=Y4 (by kernel_rfl) Tryz.underlying164 rfl
theorem jc:ZJ Pg 206 true 3 (Pg.bytesOf 206) (.agg #[.string ByteArray.empty,.int .i64 0,.int .i64 0]):=Y4 (by kernel_rfl) Tryz.underlying206 rfl
theorem ZbE:Pg.bytesOf 206≤4096:=Nat.le_of_ble_eq_true (by kernel_rfl)
theorem Ol:ZJ Pg 216 false 1 (Pg.bytesOf 216) (.nilFunc):=Y4 (by kernel_rfl) Tryz.underlying216 rfl
theorem PI:ZJ Pg 217 false 1 (Pg.bytesOf 217) (.nilFunc):=Y4 (by kernel_rfl) Tryz.underlying217 rfl
theorem Ep:ZJ Pg 219 true 2 (Pg.bytesOf 219) (.agg #[.nilFunc,.nilFunc]):=Y4 (by kernel_rfl) Tryz.underlying219 rfl
theorem ZbM:ZJ Pg 236 false 1 (Pg.bytesOf 236) (.nilFunc):=Y4 (by kernel_rfl) Tryz.underlying236 rfl
theorem Zd4 {w:World} (a0 b0:Int) (a1 b1:Int) (a2 b2:ByteArray):(Op.equalIn (9999+1) 60 (.agg #[.int .i64 a0,.int .i64 a1,.string a2]) (.agg #[.int .i64 b0,.int .i64 b1,.string b2])).run Pg w = .ok (decide (a0=b0)&&(decide (a1=b1)&&(decide (a2=b2)&&true))) w :=
 Vy Tryz.underlying60 (by kernel_rfl) (Yd rfl (YR ty3 rfl) (YR ty3 rfl) (Jy Tryz.underlying3) (Yd rfl (YR ty3 rfl) (YR ty3 rfl) (Jy Tryz.underlying3) (Yd rfl (YR ty9 rfl) (YR ty9 rfl) (Up Tryz.underlying9) Ux)))
theorem Zgt {w:World} (a0 b0:ByteArray) (a1 b1:Int):(Op.equalIn (9999+1) 62 (.agg #[.string a0,.int .i64 a1]) (.agg #[.string b0,.int .i64 b1])).run Pg w = .ok (decide (a0=b0)&&(decide (a1=b1)&&true)) w :=
 Vy Tryz.underlying62 (by kernel_rfl) (Yd rfl (YR ty9 rfl) (YR ty9 rfl) (Up Tryz.underlying9) (Yd rfl (YR ty3 rfl) (YR ty3 rfl) (Jy Tryz.underlying3) Ux))
theorem Zbm {w:World} (a0 b0:ByteArray) (a1 b1:ByteArray) (a2 b2:ByteArray) (a3 b3:ByteArray) (a4 b4:Int) (a5 b5:Int) (a6 b6:Int) (a7 b7:Int) (a8 b8:Int) (a9 b9:Int) (a10 b10:Int) (a11 b11:Bool) (a12 b12:Bool):(Op.equalIn (9999+1) 144 (.agg #[.string a0,.string a1,.string a2,.string a3,.int .i64 a4,.int .i64 a5,.int .i64 a6,.int .i64 a7,.int .i64 a8,.int .i64 a9,.int .i64 a10,.bool a11,.bool a12]) (.agg #[.string b0,.string b1,.string b2,.string b3,.int .i64 b4,.int .i64 b5,.int .i64 b6,.int .i64 b7,.int .i64 b8,.int .i64 b9,.int .i64 b10,.bool b11,.bool b12])).run Pg w = .ok (decide (a0=b0)&&(decide (a1=b1)&&(decide (a2=b2)&&(decide (a3=b3)&&(decide (a4=b4)&&(decide (a5=b5)&&(decide (a6=b6)&&(decide (a7=b7)&&(decide (a8=b8)&&(decide (a9=b9)&&(decide (a10=b10)&&(decide (a11=b11)&&(decide (a12=b12)&&true))))))))))))) w :=
 Vy Tryz.underlying144 (by kernel_rfl) (Yd rfl (YR ty9 rfl) (YR ty9 rfl) (Up Tryz.underlying9) (Yd rfl (YR ty9 rfl) (YR ty9 rfl) (Up Tryz.underlying9) (Yd rfl (YR ty9 rfl) (YR ty9 rfl) (Up Tryz.underlying9) (Yd rfl (YR ty9 rfl) (YR ty9 rfl) (Up Tryz.underlying9) (Yd rfl (YR zz rfl) (YR zz rfl) (Jy Tryz.underlying42) (Yd rfl (YR ty3 rfl) (YR ty3 rfl) (Jy Tryz.underlying3) (Yd rfl (YR ty3 rfl) (YR ty3 rfl) (Jy Tryz.underlying3) (Yd rfl (YR ty3 rfl) (YR ty3 rfl) (Jy Tryz.underlying3) (Yd rfl (YR ty3 rfl) (YR ty3 rfl) (Jy Tryz.underlying3) (Yd rfl (YR ty3 rfl) (YR ty3 rfl) (Jy Tryz.underlying3) (Yd rfl (YR ty3 rfl) (YR ty3 rfl) (Jy Tryz.underlying3) (Yd rfl (YR ty4 rfl) (YR ty4 rfl) (N4 Tryz.underlying4) (Yd rfl (YR ty4 rfl) (YR ty4 rfl) (N4 Tryz.underlying4) Ux)))))))))))))
section
variable {QP:List PanicEntry→World→Prop} {w:World} {k:Value→World→Prop}
def o0:=YQ (QP:=QP) (w:=w) (k:=k) ty3
theorem o1:(∀ u,opV Pg (Instr.alloc 3 true u) QP w k=k (.pointer (some ⟨w.heap.size,0,none⟩)) (w.alloc (.cells ((.int .i64 0):Value).cells 3))):=(YJ ty3)
def o2:=YQ (QP:=QP) (w:=w) (k:=k) ty4
theorem o3:(∀ c a b,opV Pg (ZM .eql 4 c (.bool a) (.bool b)) QP w k=k (.bool (a == b)) w):=(Rn Tryz.underlying4)
theorem o4:(∀ c a b,opV Pg (ZM .neq 4 c (.bool a) (.bool b)) QP w k=k (.bool (a != b)) w):=(Rp Tryz.underlying4)
theorem o5:(∀ u,opV Pg (Instr.alloc 4 true u) QP w k=k (.pointer (some ⟨w.heap.size,0,none⟩)) (w.alloc (.cells ((.bool false):Value).cells 4))):=(YJ ty4)
def o6:=YQ (QP:=QP) (w:=w) (k:=k) ty5
def o7:=YQ (QP:=QP) (w:=w) (k:=k) ty9
theorem o8:(∀ r s,opV Pg (Builtin.len_ #[9] r #[.string s]) QP w k=k (.int .i64 (s.size:Int)) w):=(λ r=>Aq (r:=r) Tryz.underlying9)
def o9:=YQ (QP:=QP) (w:=w) (k:=k) Lk
theorem o10:(∀ r a n c,opV Pg (Builtin.len_ #[22] r #[.slice a n c]) QP w k=k (.int .i64 (n:Int)) w):=(λ r=>YW (r:=r) Tryz.underlying22)
theorem o11:(∀ b o len cap ik (i:Nat),i < len→opV Pg (Instr.indexAt 22 (.slice (some ⟨b,o,none⟩) len cap) (.int ik (i:Int))) QP w k=k (.pointer (some ⟨b,o+i*15,none⟩)) w):=(YT Tryz.underlying22 VR)
def o12:=QJ (QP:=QP) (w:=w) (k:=k) (i:=0) (ft:=9) (n:=1) Tryz.underlying24 rfl ty9 rfl
def o13:=Z8 (QP:=QP) (w:=w) (k:=k) (i:=1) (ft:=22) (off:=1) (n:=1) Tryz.underlying24 rfl Lk rfl
theorem o14:(∀ b o,opV Pg (Instr.loadAt 24 (.pointer (some ⟨b,o,none⟩))) QP w k=Yf [w.cell? ⟨b,o,none⟩,w.cell? ⟨b,o+1,none⟩] (λ vs=>k (.agg vs.toArray) w) (zL Pg (Instr.loadAt 24 (.pointer (some ⟨b,o,none⟩))) QP w k)):=(by intro b o;exact Wu Uh b o _ rfl)
theorem o15:(∀ u,opV Pg (Instr.alloc 24 true u) QP w k=k (.pointer (some ⟨w.heap.size,0,none⟩)) (w.alloc (.cells ((.agg #[.string ByteArray.empty,.slice none 0 0]):Value).cells 24))):=(YJ Uh)
def o16:=YQ (QP:=QP) (w:=w) (k:=k) En
theorem o17:(∀ r a n c,opV Pg (Builtin.len_ #[26] r #[.slice a n c]) QP w k=k (.int .i64 (n:Int)) w):=(λ r=>YW (r:=r) Tryz.underlying26)
theorem o18:(∀ b o len cap ik (i:Nat),i < len→opV Pg (Instr.indexAt 26 (.slice (some ⟨b,o,none⟩) len cap) (.int ik (i:Int))) QP w k=k (.pointer (some ⟨b,o+i*2,none⟩)) w):=(YT Tryz.underlying26 Uh)
def o19:=QJ (QP:=QP) (w:=w) (k:=k) (i:=0) (ft:=9) (n:=1) Tryz.underlying28 rfl ty9 rfl
def o20:=Z8 (QP:=QP) (w:=w) (k:=k) (i:=1) (ft:=26) (off:=1) (n:=1) Tryz.underlying28 rfl En rfl
def o21:=Z8 (QP:=QP) (w:=w) (k:=k) (i:=2) (ft:=9) (off:=2) (n:=1) Tryz.underlying28 rfl ty9 rfl
theorem o22:(∀ b o,opV Pg (Instr.loadAt 28 (.pointer (some ⟨b,o,none⟩))) QP w k=Yf [w.cell? ⟨b,o,none⟩,w.cell? ⟨b,o+1,none⟩,w.cell? ⟨b,o+2,none⟩] (λ vs=>k (.agg vs.toArray) w) (zL Pg (Instr.loadAt 28 (.pointer (some ⟨b,o,none⟩))) QP w k)):=(by intro b o;exact Wu BO b o _ rfl)
theorem o23:(∀ u,opV Pg (Instr.alloc 28 true u) QP w k=k (.pointer (some ⟨w.heap.size,0,none⟩)) (w.alloc (.cells ((.agg #[.string ByteArray.empty,.slice none 0 0,.string ByteArray.empty]):Value).cells 28))):=(YJ BO)
def o24:=YQ (QP:=QP) (w:=w) (k:=k) AE
theorem o25:(∀ r a n c,opV Pg (Builtin.len_ #[30] r #[.slice a n c]) QP w k=k (.int .i64 (n:Int)) w):=(λ r=>YW (r:=r) Tryz.underlying30)
theorem o26:(∀ b o len cap ik (i:Nat),i < len→opV Pg (Instr.indexAt 30 (.slice (some ⟨b,o,none⟩) len cap) (.int ik (i:Int))) QP w k=k (.pointer (some ⟨b,o+i*1,none⟩)) w):=(YT Tryz.underlying30 ty3)
theorem o27:(∀ u,opV Pg (Instr.alloc 30 true u) QP w k=k (.pointer (some ⟨w.heap.size,0,none⟩)) (w.alloc (.cells ((.slice none 0 0):Value).cells 30))):=(YJ AE)
theorem o28:(∀ u,opV Pg (Instr.alloc 31 true u) QP w k=k (.pointer (some ⟨w.heap.size,0,none⟩)) (w.alloc (.cells ((.int .i64 0):Value).cells 31))):=(YJ Zat)
def o29:=YQ (QP:=QP) (w:=w) (k:=k) zz
def o30:=YQ (QP:=QP) (w:=w) (k:=k) Hw
theorem o31:(∀ r a n c,opV Pg (Builtin.len_ #[43] r #[.slice a n c]) QP w k=k (.int .i64 (n:Int)) w):=(λ r=>YW (r:=r) Tryz.underlying43)
theorem o32:(∀ b o len cap ik (i:Nat),i < len→opV Pg (Instr.indexAt 43 (.slice (some ⟨b,o,none⟩) len cap) (.int ik (i:Int))) QP w k=k (.pointer (some ⟨b,o+i*2,none⟩)) w):=(YT Tryz.underlying43 Ax)
theorem o33:(∀ u,opV Pg (Instr.alloc 43 true u) QP w k=k (.pointer (some ⟨w.heap.size,0,none⟩)) (w.alloc (.cells ((.slice none 0 0):Value).cells 43))):=(YJ Hw)
def o34:=QJ (QP:=QP) (w:=w) (k:=k) (i:=0) (ft:=3) (n:=1) Tryz.underlying45 rfl ty3 rfl
def o35:=Z8 (QP:=QP) (w:=w) (k:=k) (i:=1) (ft:=43) (off:=1) (n:=1) Tryz.underlying45 rfl Hw rfl
theorem o36:(∀ b o,opV Pg (Instr.loadAt 45 (.pointer (some ⟨b,o,none⟩))) QP w k=Yf [w.cell? ⟨b,o,none⟩,w.cell? ⟨b,o+1,none⟩] (λ vs=>k (.agg vs.toArray) w) (zL Pg (Instr.loadAt 45 (.pointer (some ⟨b,o,none⟩))) QP w k)):=(by intro b o;exact Wu GV b o _ rfl)
theorem o37:(∀ u,opV Pg (Instr.alloc 45 true u) QP w k=k (.pointer (some ⟨w.heap.size,0,none⟩)) (w.alloc (.cells ((.agg #[.int .i64 0,.slice none 0 0]):Value).cells 45))):=(YJ GV)
def o38:=YQ (QP:=QP) (w:=w) (k:=k) jg
theorem o39:(∀ r a n c,opV Pg (Builtin.len_ #[46] r #[.slice a n c]) QP w k=k (.int .i64 (n:Int)) w):=(λ r=>YW (r:=r) Tryz.underlying46)
theorem o40:(∀ b o len cap ik (i:Nat),i < len→opV Pg (Instr.indexAt 46 (.slice (some ⟨b,o,none⟩) len cap) (.int ik (i:Int))) QP w k=k (.pointer (some ⟨b,o+i*3,none⟩)) w):=(YT Tryz.underlying46 jm)
def o41:=QJ (QP:=QP) (w:=w) (k:=k) (i:=0) (ft:=9) (n:=1) Tryz.underlying48 rfl ty9 rfl
def o42:=Z8 (QP:=QP) (w:=w) (k:=k) (i:=1) (ft:=42) (off:=1) (n:=1) Tryz.underlying48 rfl zz rfl
def o43:=Z8 (QP:=QP) (w:=w) (k:=k) (i:=2) (ft:=3) (off:=2) (n:=1) Tryz.underlying48 rfl ty3 rfl
def o44:=Z8 (QP:=QP) (w:=w) (k:=k) (i:=3) (ft:=4) (off:=3) (n:=1) Tryz.underlying48 rfl ty4 rfl
def o45:=Z8 (QP:=QP) (w:=w) (k:=k) (i:=4) (ft:=4) (off:=4) (n:=1) Tryz.underlying48 rfl ty4 rfl
def o46:=Z8 (QP:=QP) (w:=w) (k:=k) (i:=5) (ft:=3) (off:=5) (n:=1) Tryz.underlying48 rfl ty3 rfl
def o47:=Z8 (QP:=QP) (w:=w) (k:=k) (i:=6) (ft:=3) (off:=6) (n:=1) Tryz.underlying48 rfl ty3 rfl
def o48:=Z8 (QP:=QP) (w:=w) (k:=k) (i:=7) (ft:=45) (off:=7) (n:=2) Tryz.underlying48 rfl GV rfl
def o49:=Z8 (QP:=QP) (w:=w) (k:=k) (i:=8) (ft:=9) (off:=9) (n:=1) Tryz.underlying48 rfl ty9 rfl
def o50:=Z8 (QP:=QP) (w:=w) (k:=k) (i:=9) (ft:=9) (off:=10) (n:=1) Tryz.underlying48 rfl ty9 rfl
def o51:=Z8 (QP:=QP) (w:=w) (k:=k) (i:=10) (ft:=9) (off:=11) (n:=1) Tryz.underlying48 rfl ty9 rfl
def o52:=Z8 (QP:=QP) (w:=w) (k:=k) (i:=11) (ft:=46) (off:=12) (n:=1) Tryz.underlying48 rfl jg rfl
def o53:=Z8 (QP:=QP) (w:=w) (k:=k) (i:=12) (ft:=3) (off:=13) (n:=1) Tryz.underlying48 rfl ty3 rfl
def o54:=Z8 (QP:=QP) (w:=w) (k:=k) (i:=13) (ft:=3) (off:=14) (n:=1) Tryz.underlying48 rfl ty3 rfl
theorem o55:(∀ b o,opV Pg (Instr.loadAt 48 (.pointer (some ⟨b,o,none⟩))) QP w k=Yf [w.cell? ⟨b,o,none⟩,w.cell? ⟨b,o+1,none⟩,w.cell? ⟨b,o+2,none⟩,w.cell? ⟨b,o+3,none⟩,w.cell? ⟨b,o+4,none⟩,w.cell? ⟨b,o+5,none⟩,w.cell? ⟨b,o+6,none⟩,w.cell? ⟨b,o+7,none⟩,w.cell? ⟨b,o+8,none⟩,w.cell? ⟨b,o+9,none⟩,w.cell? ⟨b,o+10,none⟩,w.cell? ⟨b,o+11,none⟩,w.cell? ⟨b,o+12,none⟩,w.cell? ⟨b,o+13,none⟩,w.cell? ⟨b,o+14,none⟩] (λ vs=>k (.agg vs.toArray) w) (zL Pg (Instr.loadAt 48 (.pointer (some ⟨b,o,none⟩))) QP w k)):=(by intro b o;exact Wu VR b o _ rfl)
theorem o56:(∀ u,opV Pg (Instr.alloc 48 true u) QP w k=k (.pointer (some ⟨w.heap.size,0,none⟩)) (w.alloc (.cells ((.agg #[.string ByteArray.empty,.int .i64 0,.int .i64 0,.bool false,.bool false,.int .i64 0,.int .i64 0,.int .i64 0,.slice none 0 0,.string ByteArray.empty,.string ByteArray.empty,.string ByteArray.empty,.slice none 0 0,.int .i64 0,.int .i64 0]):Value).cells 48))):=(YJ VR)
def o57:=QJ (QP:=QP) (w:=w) (k:=k) (i:=0) (ft:=3) (n:=1) Tryz.underlying60 rfl ty3 rfl
def o58:=Z8 (QP:=QP) (w:=w) (k:=k) (i:=1) (ft:=3) (off:=1) (n:=1) Tryz.underlying60 rfl ty3 rfl
def o59:=Z8 (QP:=QP) (w:=w) (k:=k) (i:=2) (ft:=9) (off:=2) (n:=1) Tryz.underlying60 rfl ty9 rfl
theorem o60:(∀ b o,opV Pg (Instr.loadAt 60 (.pointer (some ⟨b,o,none⟩))) QP w k=Yf [w.cell? ⟨b,o,none⟩,w.cell? ⟨b,o+1,none⟩,w.cell? ⟨b,o+2,none⟩] (λ vs=>k (.agg vs.toArray) w) (zL Pg (Instr.loadAt 60 (.pointer (some ⟨b,o,none⟩))) QP w k)):=(by intro b o;exact Wu jm b o _ rfl)
theorem o61:(∀ u,opV Pg (Instr.alloc 60 true u) QP w k=k (.pointer (some ⟨w.heap.size,0,none⟩)) (w.alloc (.cells ((.agg #[.int .i64 0,.int .i64 0,.string ByteArray.empty]):Value).cells 60))):=(YJ jm)
def o62:=QJ (QP:=QP) (w:=w) (k:=k) (i:=0) (ft:=9) (n:=1) Tryz.underlying62 rfl ty9 rfl
def o63:=Z8 (QP:=QP) (w:=w) (k:=k) (i:=1) (ft:=3) (off:=1) (n:=1) Tryz.underlying62 rfl ty3 rfl
theorem o64:(∀ b o,opV Pg (Instr.loadAt 62 (.pointer (some ⟨b,o,none⟩))) QP w k=Yf [w.cell? ⟨b,o,none⟩,w.cell? ⟨b,o+1,none⟩] (λ vs=>k (.agg vs.toArray) w) (zL Pg (Instr.loadAt 62 (.pointer (some ⟨b,o,none⟩))) QP w k)):=(by intro b o;exact Wu Ax b o _ rfl)
theorem o65:(∀ u,opV Pg (Instr.alloc 62 true u) QP w k=k (.pointer (some ⟨w.heap.size,0,none⟩)) (w.alloc (.cells ((.agg #[.string ByteArray.empty,.int .i64 0]):Value).cells 62))):=(YJ Ax)
def o70:=QJ (QP:=QP) (w:=w) (k:=k) (i:=0) (ft:=3) (n:=1) Tryz.underlying74 rfl ty3 rfl
def o71:=Z8 (QP:=QP) (w:=w) (k:=k) (i:=1) (ft:=3) (off:=1) (n:=1) Tryz.underlying74 rfl ty3 rfl
theorem o72:(∀ v0 v1,opV Pg (Instr.field 74 (.agg #[v0,v1]) 1) QP w k=k v1 w):=(by intro v0 v1;exact Hb Tryz.underlying74 rfl ty3 rfl)
theorem o73:(∀ b o,opV Pg (Instr.loadAt 74 (.pointer (some ⟨b,o,none⟩))) QP w k=Yf [w.cell? ⟨b,o,none⟩,w.cell? ⟨b,o+1,none⟩] (λ vs=>k (.agg vs.toArray) w) (zL Pg (Instr.loadAt 74 (.pointer (some ⟨b,o,none⟩))) QP w k)):=(by intro b o;exact Wu GG b o _ rfl)
theorem o74:(∀ u,opV Pg (Instr.alloc 74 true u) QP w k=k (.pointer (some ⟨w.heap.size,0,none⟩)) (w.alloc (.cells ((.agg #[.int .i64 0,.int .i64 0]):Value).cells 74))):=(YJ GG)
theorem o79:(∀ r a n c,opV Pg (Builtin.len_ #[78] r #[.slice a n c]) QP w k=k (.int .i64 (n:Int)) w):=(λ r=>YW (r:=r) Tryz.underlying78)
theorem o80:(∀ b o len cap ik (i:Nat),i < len→opV Pg (Instr.indexAt 78 (.slice (some ⟨b,o,none⟩) len cap) (.int ik (i:Int))) QP w k=k (.pointer (some ⟨b,o+i*1,none⟩)) w):=(YT Tryz.underlying78 AE)
def o81:=YQ (QP:=QP) (w:=w) (k:=k) Zah
theorem o82:(∀ r a n c,opV Pg (Builtin.len_ #[82] r #[.slice a n c]) QP w k=k (.int .i64 (n:Int)) w):=(λ r=>YW (r:=r) Tryz.underlying82)
theorem o83:(∀ b o len cap ik (i:Nat),i < len→opV Pg (Instr.indexAt 82 (.slice (some ⟨b,o,none⟩) len cap) (.int ik (i:Int))) QP w k=k (.pointer (some ⟨b,o+i*1,none⟩)) w):=(YT Tryz.underlying82 ty9)
theorem o84:(∀ u,opV Pg (Instr.alloc 82 true u) QP w k=k (.pointer (some ⟨w.heap.size,0,none⟩)) (w.alloc (.cells ((.slice none 0 0):Value).cells 82))):=(YJ Zah)
theorem o85:(∀ b o,opV Pg (Instr.loadAt 90 (.pointer (some ⟨b,o,none⟩))) QP w k=Yf [w.cell? ⟨b,o,none⟩,w.cell? ⟨b,o+1,none⟩,w.cell? ⟨b,o+2,none⟩] (λ vs=>k (.agg vs.toArray) w) (zL Pg (Instr.loadAt 90 (.pointer (some ⟨b,o,none⟩))) QP w k)):=(by intro b o;exact Wu Lg b o _ rfl)
theorem o86:(∀ u,opV Pg (Instr.alloc 90 true u) QP w k=k (.pointer (some ⟨w.heap.size,0,none⟩)) (w.alloc (.cells ((.agg #[.int .i64 0,.int .i64 0,.int .i64 0]):Value).cells 90))):=(YJ Lg)
theorem o87:(∀ r a n c,opV Pg (Builtin.len_ #[93] r #[.slice a n c]) QP w k=k (.int .i64 (n:Int)) w):=(λ r=>YW (r:=r) Tryz.underlying93)
theorem o88:(∀ b o len cap ik (i:Nat),i < len→opV Pg (Instr.indexAt 93 (.slice (some ⟨b,o,none⟩) len cap) (.int ik (i:Int))) QP w k=k (.pointer (some ⟨b,o+i*1,none⟩)) w):=(YT Tryz.underlying93 ty4)
def o92:=YQ (QP:=QP) (w:=w) (k:=k) PK
theorem o93:(∀ u,opV Pg (Instr.alloc 122 true u) QP w k=k (.pointer (some ⟨w.heap.size,0,none⟩)) (w.alloc (.cells ((.map none):Value).cells 122))):=(YJ PK)
def o98:=YQ (QP:=QP) (w:=w) (k:=k) Pq
theorem o99:(∀ u,opV Pg (Instr.alloc 144 true u) QP w k=k (.pointer (some ⟨w.heap.size,0,none⟩)) (w.alloc (.cells ((.agg #[.string ByteArray.empty,.string ByteArray.empty,.string ByteArray.empty,.string ByteArray.empty,.int .i64 0,.int .i64 0,.int .i64 0,.int .i64 0,.int .i64 0,.int .i64 0,.int .i64 0,.bool false,.bool false]):Value).cells 144))):=(YJ HV)
def Zgp:=YQ (QP:=QP) (w:=w) (k:=k) DB
def ZfV:=YQ (QP:=QP) (w:=w) (k:=k) j8
theorem ZfT:(∀ u,opV Pg (Instr.alloc 162 true u) QP w k=k (.pointer (some ⟨w.heap.size,0,none⟩)) (w.alloc (.cells ((.map none):Value).cells 162))):=(YJ j8)
def Zdb:=Z8 (QP:=QP) (w:=w) (k:=k) (i:=1) (ft:=161) (off:=3) (n:=1) Tryz.underlying164 rfl DB rfl
def ZbX:=Z8 (QP:=QP) (w:=w) (k:=k) (i:=2) (ft:=162) (off:=4) (n:=1) Tryz.underlying164 rfl j8 rfl
def Zdc:=Z8 (QP:=QP) (w:=w) (k:=k) (i:=3) (ft:=3) (off:=5) (n:=1) Tryz.underlying164 rfl ty3 rfl
def Zc3:=Z8 (QP:=QP) (w:=w) (k:=k) (i:=4) (ft:=3) (off:=6) (n:=1) Tryz.underlying164 rfl ty3 rfl
def Zf7:=Z8 (QP:=QP) (w:=w) (k:=k) (i:=5) (ft:=24) (off:=7) (n:=2) Tryz.underlying164 rfl Uh rfl
theorem Zg1:(∀ r a n c,opV Pg (Builtin.len_ #[173] r #[.slice a n c]) QP w k=k (.int .i64 (n:Int)) w):=(λ r=>YW (r:=r) Tryz.underlying173)
theorem Zdg:(∀ b o len cap ik (i:Nat),i < len→opV Pg (Instr.indexAt 173 (.slice (some ⟨b,o,none⟩) len cap) (.int ik (i:Int))) QP w k=k (.pointer (some ⟨b,o+i*3,none⟩)) w):=(YT Tryz.underlying173 jc)
theorem Zec:(∀ r a n c,opV Pg (Builtin.len_ #[200] r #[.slice a n c]) QP w k=k (.int .i64 (n:Int)) w):=(λ r=>YW (r:=r) Tryz.underlying200)
theorem ZfU:(∀ b o len cap ik (i:Nat),i < len→opV Pg (Instr.indexAt 200 (.slice (some ⟨b,o,none⟩) len cap) (.int ik (i:Int))) QP w k=k (.pointer (some ⟨b,o+i*1,none⟩)) w):=(YT Tryz.underlying200 ty5)
def Zgr:=QJ (QP:=QP) (w:=w) (k:=k) (i:=0) (ft:=9) (n:=1) Tryz.underlying206 rfl ty9 rfl
def ZbK:=Z8 (QP:=QP) (w:=w) (k:=k) (i:=1) (ft:=3) (off:=1) (n:=1) Tryz.underlying206 rfl ty3 rfl
def Zcu:=Z8 (QP:=QP) (w:=w) (k:=k) (i:=2) (ft:=3) (off:=2) (n:=1) Tryz.underlying206 rfl ty3 rfl
theorem ZfJ:(∀ b o,opV Pg (Instr.loadAt 206 (.pointer (some ⟨b,o,none⟩))) QP w k=Yf [w.cell? ⟨b,o,none⟩,w.cell? ⟨b,o+1,none⟩,w.cell? ⟨b,o+2,none⟩] (λ vs=>k (.agg vs.toArray) w) (zL Pg (Instr.loadAt 206 (.pointer (some ⟨b,o,none⟩))) QP w k)):=(by intro b o;exact Wu jc b o _ rfl)
theorem ZeT:(∀ u,opV Pg (Instr.alloc 206 true u) QP w k=k (.pointer (some ⟨w.heap.size,0,none⟩)) (w.alloc (.cells ((.agg #[.string ByteArray.empty,.int .i64 0,.int .i64 0]):Value).cells 206))):=(YJ jc)
def ZdB:=YQ (QP:=QP) (w:=w) (k:=k) Ol
def Zep:=YQ (QP:=QP) (w:=w) (k:=k) PI
def Zeh:=QJ (QP:=QP) (w:=w) (k:=k) (i:=0) (ft:=216) (n:=1) Tryz.underlying219 rfl Ol rfl
def ZgA:=Z8 (QP:=QP) (w:=w) (k:=k) (i:=1) (ft:=217) (off:=1) (n:=1) Tryz.underlying219 rfl PI rfl
theorem ZgY:(∀ u,opV Pg (Instr.alloc 219 true u) QP w k=k (.pointer (some ⟨w.heap.size,0,none⟩)) (w.alloc (.cells ((.agg #[.nilFunc,.nilFunc]):Value).cells 219))):=(YJ Ep)
def Zdo:=YQ (QP:=QP) (w:=w) (k:=k) ZbM
theorem Zeb:(∀ v0 v1:Value,v0.oneCell'=true→v1.oneCell'=true→opV Pg (Instr.build 24 #[(0,v0),(1,v1)]) QP w k=k (.agg #[v0,v1]) w):=(by intro v0 v1 hv0 hv1;exact Yo (places := #[(0,1),(1,1)]) Tryz.underlying24 Uh (by intro w;simp [List.mapM_cons,Sem.run_bind,Sw.run_sizeOf Lk,Sw.run_sizeOf ty9]) (by simp [Instr.fill,ZH,Zp hv0,Zp hv1]))
theorem Zbw:(∀ v1:Value,v1.oneCell'=true→opV Pg (Instr.build 24 #[(1,v1)]) QP w k=k (.agg #[.string ByteArray.empty,v1]) w):=(by intro v1 hv1;exact Yo (places := #[(0,1),(1,1)]) Tryz.underlying24 Uh (by intro w;simp [List.mapM_cons,Sem.run_bind,Sw.run_sizeOf Lk,Sw.run_sizeOf ty9]) (by simp [Instr.fill,ZH,Zp hv1]))
theorem ZeG:(opV Pg (Instr.build 28 #[]) QP w k=k (.agg #[.string ByteArray.empty,.slice none 0 0,.string ByteArray.empty]) w):=(by exact Yo (places := #[(0,1),(1,1),(2,1)]) Tryz.underlying28 BO (by intro w;simp [List.mapM_cons,Sem.run_bind,Sw.run_sizeOf En,Sw.run_sizeOf ty9]) (by simp [Instr.fill,ZH]))
theorem ZdL:(∀ v0 v2:Value,v0.oneCell'=true→v2.oneCell'=true→opV Pg (Instr.build 28 #[(0,v0),(2,v2)]) QP w k=k (.agg #[v0,.slice none 0 0,v2]) w):=(by intro v0 v2 hv0 hv2;exact Yo (places := #[(0,1),(1,1),(2,1)]) Tryz.underlying28 BO (by intro w;simp [List.mapM_cons,Sem.run_bind,Sw.run_sizeOf En,Sw.run_sizeOf ty9]) (by simp [Instr.fill,ZH,Zp hv0,Zp hv2]))
theorem ZdJ:(∀ v0 v2 v1:Value,v0.oneCell'=true→v2.oneCell'=true→v1.oneCell'=true→opV Pg (Instr.build 28 #[(0,v0),(2,v2),(1,v1)]) QP w k=k (.agg #[v0,v1,v2]) w):=(by intro v0 v2 v1 hv0 hv2 hv1;exact Yo (places := #[(0,1),(1,1),(2,1)]) Tryz.underlying28 BO (by intro w;simp [List.mapM_cons,Sem.run_bind,Sw.run_sizeOf En,Sw.run_sizeOf ty9]) (by simp [Instr.fill,ZH,Zp hv0,Zp hv2,Zp hv1]))
theorem ZeB:(opV Pg (Instr.build 45 #[]) QP w k=k (.agg #[.int .i64 0,.slice none 0 0]) w):=(by exact Yo (places := #[(0,1),(1,1)]) Tryz.underlying45 GV (by intro w;simp [List.mapM_cons,Sem.run_bind,Sw.run_sizeOf ty3,Sw.run_sizeOf Hw]) (by simp [Instr.fill,ZH]))
theorem ZeU:(∀ v1:Value,v1.oneCell'=true→opV Pg (Instr.build 45 #[(1,v1)]) QP w k=k (.agg #[.int .i64 0,v1]) w):=(by intro v1 hv1;exact Yo (places := #[(0,1),(1,1)]) Tryz.underlying45 GV (by intro w;simp [List.mapM_cons,Sem.run_bind,Sw.run_sizeOf ty3,Sw.run_sizeOf Hw]) (by simp [Instr.fill,ZH,Zp hv1]))
theorem ZdZ:(∀ v0 v1:Value,v0.oneCell'=true→v1.oneCell'=true→opV Pg (Instr.build 48 #[(0,v0),(1,v1)]) QP w k=k (.agg #[v0,v1,.int .i64 0,.bool false,.bool false,.int .i64 0,.int .i64 0,.int .i64 0,.slice none 0 0,.string ByteArray.empty,.string ByteArray.empty,.string ByteArray.empty,.slice none 0 0,.int .i64 0,.int .i64 0]) w):=(by intro v0 v1 hv0 hv1;exact Yo (places := #[(0,1),(1,1),(2,1),(3,1),(4,1),(5,1),(6,1),(7,2),(9,1),(10,1),(11,1),(12,1),(13,1),(14,1)]) Tryz.underlying48 VR (by intro w;simp [List.mapM_cons,Sem.run_bind,Sw.run_sizeOf ty3,Sw.run_sizeOf ty4,Sw.run_sizeOf zz,Sw.run_sizeOf GV,Sw.run_sizeOf jg,Sw.run_sizeOf ty9]) (by simp [Instr.fill,ZH,Zp hv0,Zp hv1]))
theorem Zd5:(∀ v0 v1 v2 v6:Value,v0.oneCell'=true→v1.oneCell'=true→v2.oneCell'=true→v6.oneCell'=true→opV Pg (Instr.build 48 #[(0,v0),(1,v1),(2,v2),(6,v6)]) QP w k=k (.agg #[v0,v1,v2,.bool false,.bool false,.int .i64 0,v6,.int .i64 0,.slice none 0 0,.string ByteArray.empty,.string ByteArray.empty,.string ByteArray.empty,.slice none 0 0,.int .i64 0,.int .i64 0]) w):=(by intro v0 v1 v2 v6 hv0 hv1 hv2 hv6;exact Yo (places := #[(0,1),(1,1),(2,1),(3,1),(4,1),(5,1),(6,1),(7,2),(9,1),(10,1),(11,1),(12,1),(13,1),(14,1)]) Tryz.underlying48 VR (by intro w;simp [List.mapM_cons,Sem.run_bind,Sw.run_sizeOf ty3,Sw.run_sizeOf ty4,Sw.run_sizeOf zz,Sw.run_sizeOf GV,Sw.run_sizeOf jg,Sw.run_sizeOf ty9]) (by simp [Instr.fill,ZH,Zp hv0,Zp hv1,Zp hv2,Zp hv6]))
theorem Zfk:(∀ v0 v1 v6:Value,v0.oneCell'=true→v1.oneCell'=true→v6.oneCell'=true→opV Pg (Instr.build 48 #[(0,v0),(1,v1),(6,v6)]) QP w k=k (.agg #[v0,v1,.int .i64 0,.bool false,.bool false,.int .i64 0,v6,.int .i64 0,.slice none 0 0,.string ByteArray.empty,.string ByteArray.empty,.string ByteArray.empty,.slice none 0 0,.int .i64 0,.int .i64 0]) w):=(by intro v0 v1 v6 hv0 hv1 hv6;exact Yo (places := #[(0,1),(1,1),(2,1),(3,1),(4,1),(5,1),(6,1),(7,2),(9,1),(10,1),(11,1),(12,1),(13,1),(14,1)]) Tryz.underlying48 VR (by intro w;simp [List.mapM_cons,Sem.run_bind,Sw.run_sizeOf ty3,Sw.run_sizeOf ty4,Sw.run_sizeOf zz,Sw.run_sizeOf GV,Sw.run_sizeOf jg,Sw.run_sizeOf ty9]) (by simp [Instr.fill,ZH,Zp hv0,Zp hv1,Zp hv6]))
theorem Zg3:(∀ v0 v1 v8:Value,v0.oneCell'=true→v1.oneCell'=true→v8.oneCell'=true→opV Pg (Instr.build 48 #[(0,v0),(1,v1),(8,v8)]) QP w k=k (.agg #[v0,v1,.int .i64 0,.bool false,.bool false,.int .i64 0,.int .i64 0,.int .i64 0,.slice none 0 0,v8,.string ByteArray.empty,.string ByteArray.empty,.slice none 0 0,.int .i64 0,.int .i64 0]) w):=(by intro v0 v1 v8 hv0 hv1 hv8;exact Yo (places := #[(0,1),(1,1),(2,1),(3,1),(4,1),(5,1),(6,1),(7,2),(9,1),(10,1),(11,1),(12,1),(13,1),(14,1)]) Tryz.underlying48 VR (by intro w;simp [List.mapM_cons,Sem.run_bind,Sw.run_sizeOf ty3,Sw.run_sizeOf ty4,Sw.run_sizeOf zz,Sw.run_sizeOf GV,Sw.run_sizeOf jg,Sw.run_sizeOf ty9]) (by simp [Instr.fill,ZH,Zp hv0,Zp hv1,Zp hv8]))
theorem Ze0:(∀ v0 v1 v8 v7_0 v7_1:Value,v0.oneCell'=true→v1.oneCell'=true→v8.oneCell'=true→opV Pg (Instr.build 48 #[(0,v0),(1,v1),(8,v8),(7,(.agg #[v7_0,v7_1]))]) QP w k=k (.agg #[v0,v1,.int .i64 0,.bool false,.bool false,.int .i64 0,.int .i64 0,v7_0,v7_1,v8,.string ByteArray.empty,.string ByteArray.empty,.slice none 0 0,.int .i64 0,.int .i64 0]) w):=(by intro v0 v1 v8 v7_0 v7_1 hv0 hv1 hv8;exact Yo (places := #[(0,1),(1,1),(2,1),(3,1),(4,1),(5,1),(6,1),(7,2),(9,1),(10,1),(11,1),(12,1),(13,1),(14,1)]) Tryz.underlying48 VR (by intro w;simp [List.mapM_cons,Sem.run_bind,Sw.run_sizeOf ty3,Sw.run_sizeOf ty4,Sw.run_sizeOf zz,Sw.run_sizeOf GV,Sw.run_sizeOf jg,Sw.run_sizeOf ty9]) (by simp [Instr.fill,ZH,Zp hv0,Zp hv1,Zp hv8]))
theorem ZeX:(∀ v0 v1 v9 v11:Value,v0.oneCell'=true→v1.oneCell'=true→v9.oneCell'=true→v11.oneCell'=true→opV Pg (Instr.build 48 #[(0,v0),(1,v1),(9,v9),(11,v11)]) QP w k=k (.agg #[v0,v1,.int .i64 0,.bool false,.bool false,.int .i64 0,.int .i64 0,.int .i64 0,.slice none 0 0,.string ByteArray.empty,v9,.string ByteArray.empty,v11,.int .i64 0,.int .i64 0]) w):=(by intro v0 v1 v9 v11 hv0 hv1 hv9 hv11;exact Yo (places := #[(0,1),(1,1),(2,1),(3,1),(4,1),(5,1),(6,1),(7,2),(9,1),(10,1),(11,1),(12,1),(13,1),(14,1)]) Tryz.underlying48 VR (by intro w;simp [List.mapM_cons,Sem.run_bind,Sw.run_sizeOf ty3,Sw.run_sizeOf ty4,Sw.run_sizeOf zz,Sw.run_sizeOf GV,Sw.run_sizeOf jg,Sw.run_sizeOf ty9]) (by simp [Instr.fill,ZH,Zp hv0,Zp hv1,Zp hv9,Zp hv11]))
theorem ZgW:(∀ v0 v1 v12 v10:Value,v0.oneCell'=true→v1.oneCell'=true→v12.oneCell'=true→v10.oneCell'=true→opV Pg (Instr.build 48 #[(0,v0),(1,v1),(12,v12),(10,v10)]) QP w k=k (.agg #[v0,v1,.int .i64 0,.bool false,.bool false,.int .i64 0,.int .i64 0,.int .i64 0,.slice none 0 0,.string ByteArray.empty,.string ByteArray.empty,v10,.slice none 0 0,v12,.int .i64 0]) w):=(by intro v0 v1 v12 v10 hv0 hv1 hv12 hv10;exact Yo (places := #[(0,1),(1,1),(2,1),(3,1),(4,1),(5,1),(6,1),(7,2),(9,1),(10,1),(11,1),(12,1),(13,1),(14,1)]) Tryz.underlying48 VR (by intro w;simp [List.mapM_cons,Sem.run_bind,Sw.run_sizeOf ty3,Sw.run_sizeOf ty4,Sw.run_sizeOf zz,Sw.run_sizeOf GV,Sw.run_sizeOf jg,Sw.run_sizeOf ty9]) (by simp [Instr.fill,ZH,Zp hv0,Zp hv1,Zp hv12,Zp hv10]))
theorem ZeW:(∀ v0 v1 v2:Value,v0.oneCell'=true→v1.oneCell'=true→v2.oneCell'=true→opV Pg (Instr.build 60 #[(0,v0),(1,v1),(2,v2)]) QP w k=k (.agg #[v0,v1,v2]) w):=(by intro v0 v1 v2 hv0 hv1 hv2;exact Yo (places := #[(0,1),(1,1),(2,1)]) Tryz.underlying60 jm (by intro w;simp [List.mapM_cons,Sem.run_bind,Sw.run_sizeOf ty3,Sw.run_sizeOf ty9]) (by simp [Instr.fill,ZH,Zp hv0,Zp hv1,Zp hv2]))
theorem Zgf:(∀ v2:Value,v2.oneCell'=true→opV Pg (Instr.build 60 #[(2,v2)]) QP w k=k (.agg #[.int .i64 0,.int .i64 0,v2]) w):=(by intro v2 hv2;exact Yo (places := #[(0,1),(1,1),(2,1)]) Tryz.underlying60 jm (by intro w;simp [List.mapM_cons,Sem.run_bind,Sw.run_sizeOf ty3,Sw.run_sizeOf ty9]) (by simp [Instr.fill,ZH,Zp hv2]))
theorem ZfX:(∀ v0 v1:Value,v0.oneCell'=true→v1.oneCell'=true→opV Pg (Instr.build 62 #[(0,v0),(1,v1)]) QP w k=k (.agg #[v0,v1]) w):=(by intro v0 v1 hv0 hv1;exact Yo (places := #[(0,1),(1,1)]) Tryz.underlying62 Ax (by intro w;simp [List.mapM_cons,Sem.run_bind,Sw.run_sizeOf ty3,Sw.run_sizeOf ty9]) (by simp [Instr.fill,ZH,Zp hv0,Zp hv1]))
theorem ZdQ:(opV Pg (Instr.build 74 #[]) QP w k=k (.agg #[.int .i64 0,.int .i64 0]) w):=(by exact Yo (places := #[(0,1),(1,1)]) Tryz.underlying74 GG (by intro w;simp [List.mapM_cons,Sem.run_bind,Sw.run_sizeOf ty3]) (by simp [Instr.fill,ZH]))
theorem Zgb:(∀ v0 v1:Value,v0.oneCell'=true→v1.oneCell'=true→opV Pg (Instr.build 74 #[(0,v0),(1,v1)]) QP w k=k (.agg #[v0,v1]) w):=(by intro v0 v1 hv0 hv1;exact Yo (places := #[(0,1),(1,1)]) Tryz.underlying74 GG (by intro w;simp [List.mapM_cons,Sem.run_bind,Sw.run_sizeOf ty3]) (by simp [Instr.fill,ZH,Zp hv0,Zp hv1]))
theorem ZdV:(opV Pg (Instr.build 90 #[]) QP w k=k (.agg #[.int .i64 0,.int .i64 0,.int .i64 0]) w):=(by exact Yo (places := #[(0,1),(1,1),(2,1)]) Tryz.underlying90 Lg (by intro w;simp [List.mapM_cons,Sem.run_bind,Sw.run_sizeOf ty3,Sw.run_sizeOf Zb8]) (by simp [Instr.fill,ZH]))
theorem Zcd:(∀ v0 v1 v2:Value,v0.oneCell'=true→v1.oneCell'=true→v2.oneCell'=true→opV Pg (Instr.build 90 #[(0,v0),(1,v1),(2,v2)]) QP w k=k (.agg #[v0,v1,v2]) w):=(by intro v0 v1 v2 hv0 hv1 hv2;exact Yo (places := #[(0,1),(1,1),(2,1)]) Tryz.underlying90 Lg (by intro w;simp [List.mapM_cons,Sem.run_bind,Sw.run_sizeOf ty3,Sw.run_sizeOf Zb8]) (by simp [Instr.fill,ZH,Zp hv0,Zp hv1,Zp hv2]))
theorem Zg0:(∀ v0 v1 v2 v3 v4 v5 v6 v7 v8 v9 v10 v11 v12:Value,v0.oneCell'=true→v1.oneCell'=true→v2.oneCell'=true→v3.oneCell'=true→v4.oneCell'=true→v5.oneCell'=true→v6.oneCell'=true→v7.oneCell'=true→v8.oneCell'=true→v9.oneCell'=true→v10.oneCell'=true→v11.oneCell'=true→v12.oneCell'=true→opV Pg (Instr.build 144 #[(0,v0),(1,v1),(2,v2),(3,v3),(4,v4),(5,v5),(6,v6),(7,v7),(8,v8),(9,v9),(10,v10),(11,v11),(12,v12)]) QP w k=k (.agg #[v0,v1,v2,v3,v4,v5,v6,v7,v8,v9,v10,v11,v12]) w):=(by intro v0 v1 v2 v3 v4 v5 v6 v7 v8 v9 v10 v11 v12 hv0 hv1 hv2 hv3 hv4 hv5 hv6 hv7 hv8 hv9 hv10 hv11 hv12;exact Yo (places := #[(0,1),(1,1),(2,1),(3,1),(4,1),(5,1),(6,1),(7,1),(8,1),(9,1),(10,1),(11,1),(12,1)]) Tryz.underlying144 HV (by intro w;simp [List.mapM_cons,Sem.run_bind,Sw.run_sizeOf ty3,Sw.run_sizeOf ty4,Sw.run_sizeOf zz,Sw.run_sizeOf ty9]) (by simp [Instr.fill,ZH,Zp hv0,Zp hv1,Zp hv2,Zp hv3,Zp hv4,Zp hv5,Zp hv6,Zp hv7,Zp hv8,Zp hv9,Zp hv10,Zp hv11,Zp hv12]))
theorem Zg2:(∀ v0_0 v0_1 v0_2 v1 v2 v3 v4:Value,v1.oneCell'=true→v2.oneCell'=true→v3.oneCell'=true→v4.oneCell'=true→opV Pg (Instr.build 164 #[(0,(.agg #[v0_0,v0_1,v0_2])),(1,v1),(2,v2),(3,v3),(4,v4)]) QP w k=k (.agg #[v0_0,v0_1,v0_2,v1,v2,v3,v4,.string ByteArray.empty,.slice none 0 0]) w):=(by intro v0_0 v0_1 v0_2 v1 v2 v3 v4 hv1 hv2 hv3 hv4;exact Yo (places := #[(0,3),(3,1),(4,1),(5,1),(6,1),(7,2)]) Tryz.underlying164 Za5 (by intro w;simp [List.mapM_cons,Sem.run_bind,Sw.run_sizeOf DB,Sw.run_sizeOf j8,Sw.run_sizeOf Uh,Sw.run_sizeOf BO,Sw.run_sizeOf ty3]) (by simp [Instr.fill,ZH,Zp hv1,Zp hv2,Zp hv3,Zp hv4]))
theorem Zd6:(∀ v0 v1 v2:Value,v0.oneCell'=true→v1.oneCell'=true→v2.oneCell'=true→opV Pg (Instr.build 206 #[(0,v0),(1,v1),(2,v2)]) QP w k=k (.agg #[v0,v1,v2]) w):=(by intro v0 v1 v2 hv0 hv1 hv2;exact Yo (places := #[(0,1),(1,1),(2,1)]) Tryz.underlying206 jc (by intro w;simp [List.mapM_cons,Sem.run_bind,Sw.run_sizeOf ty3,Sw.run_sizeOf ty9]) (by simp [Instr.fill,ZH,Zp hv0,Zp hv1,Zp hv2]))
theorem ZdW:(∀ v0 v1:Value,v0.oneCell'=true→v1.oneCell'=true→opV Pg (Instr.build 219 #[(0,v0),(1,v1)]) QP w k=k (.agg #[v0,v1]) w):=(by intro v0 v1 hv0 hv1;exact Yo (places := #[(0,1),(1,1)]) Tryz.underlying219 Ep (by intro w;simp [List.mapM_cons,Sem.run_bind,Sw.run_sizeOf Ol,Sw.run_sizeOf PI]) (by simp [Instr.fill,ZH,Zp hv0,Zp hv1]))
theorem Ze2:(opV Pg (Instr.buildSlice 22 0 #[]) QP w k=k (.slice (some ⟨w.heap.size,0,none⟩) 0 0) (w.alloc (.cells #[] 48))):=(by exact ZY Tryz.underlying22 VR (by decide) (base := #[]) (by kernel_rfl) (by simp [Instr.fill,ZH]))
theorem Zgo:(∀ v0_0 v0_1 v0_2 v0_3 v0_4 v0_5 v0_6 v0_7 v0_8 v0_9 v0_10 v0_11 v0_12 v0_13 v0_14:Value,opV Pg (Instr.buildSlice 22 1 #[(0,(.agg #[v0_0,v0_1,v0_2,v0_3,v0_4,v0_5,v0_6,v0_7,v0_8,v0_9,v0_10,v0_11,v0_12,v0_13,v0_14]))]) QP w k=k (.slice (some ⟨w.heap.size,0,none⟩) 1 1) (w.alloc (.cells #[v0_0,v0_1,v0_2,v0_3,v0_4,v0_5,v0_6,v0_7,v0_8,v0_9,v0_10,v0_11,v0_12,v0_13,v0_14] 48))):=(by intro v0_0 v0_1 v0_2 v0_3 v0_4 v0_5 v0_6 v0_7 v0_8 v0_9 v0_10 v0_11 v0_12 v0_13 v0_14;exact ZY Tryz.underlying22 VR (by decide) (base := #[.string ByteArray.empty,.int .i64 0,.int .i64 0,.bool false,.bool false,.int .i64 0,.int .i64 0,.int .i64 0,.slice none 0 0,.string ByteArray.empty,.string ByteArray.empty,.string ByteArray.empty,.slice none 0 0,.int .i64 0,.int .i64 0]) (by kernel_rfl) (by simp [Instr.fill,ZH]))
theorem Zfo:(∀ v0_0 v0_1 v0_2 v0_3 v0_4 v0_5 v0_6 v0_7 v0_8 v0_9 v0_10 v0_11 v0_12 v0_13 v0_14 v1_0 v1_1 v1_2 v1_3 v1_4 v1_5 v1_6 v1_7 v1_8 v1_9 v1_10 v1_11 v1_12 v1_13 v1_14 v2_0 v2_1 v2_2 v2_3 v2_4 v2_5 v2_6 v2_7 v2_8 v2_9 v2_10 v2_11 v2_12 v2_13 v2_14 v3_0 v3_1 v3_2 v3_3 v3_4 v3_5 v3_6 v3_7 v3_8 v3_9 v3_10 v3_11 v3_12 v3_13 v3_14 v4_0 v4_1 v4_2 v4_3 v4_4 v4_5 v4_6 v4_7 v4_8 v4_9 v4_10 v4_11 v4_12 v4_13 v4_14:Value,opV Pg (Instr.buildSlice 22 5 #[(0,(.agg #[v0_0,v0_1,v0_2,v0_3,v0_4,v0_5,v0_6,v0_7,v0_8,v0_9,v0_10,v0_11,v0_12,v0_13,v0_14])),(1,(.agg #[v1_0,v1_1,v1_2,v1_3,v1_4,v1_5,v1_6,v1_7,v1_8,v1_9,v1_10,v1_11,v1_12,v1_13,v1_14])),(2,(.agg #[v2_0,v2_1,v2_2,v2_3,v2_4,v2_5,v2_6,v2_7,v2_8,v2_9,v2_10,v2_11,v2_12,v2_13,v2_14])),(3,(.agg #[v3_0,v3_1,v3_2,v3_3,v3_4,v3_5,v3_6,v3_7,v3_8,v3_9,v3_10,v3_11,v3_12,v3_13,v3_14])),(4,(.agg #[v4_0,v4_1,v4_2,v4_3,v4_4,v4_5,v4_6,v4_7,v4_8,v4_9,v4_10,v4_11,v4_12,v4_13,v4_14]))]) QP w k=k (.slice (some ⟨w.heap.size,0,none⟩) 5 5) (w.alloc (.cells #[v0_0,v0_1,v0_2,v0_3,v0_4,v0_5,v0_6,v0_7,v0_8,v0_9,v0_10,v0_11,v0_12,v0_13,v0_14,v1_0,v1_1,v1_2,v1_3,v1_4,v1_5,v1_6,v1_7,v1_8,v1_9,v1_10,v1_11,v1_12,v1_13,v1_14,v2_0,v2_1,v2_2,v2_3,v2_4,v2_5,v2_6,v2_7,v2_8,v2_9,v2_10,v2_11,v2_12,v2_13,v2_14,v3_0,v3_1,v3_2,v3_3,v3_4,v3_5,v3_6,v3_7,v3_8,v3_9,v3_10,v3_11,v3_12,v3_13,v3_14,v4_0,v4_1,v4_2,v4_3,v4_4,v4_5,v4_6,v4_7,v4_8,v4_9,v4_10,v4_11,v4_12,v4_13,v4_14] 48))):=(by intro v0_0 v0_1 v0_2 v0_3 v0_4 v0_5 v0_6 v0_7 v0_8 v0_9 v0_10 v0_11 v0_12 v0_13 v0_14 v1_0 v1_1 v1_2 v1_3 v1_4 v1_5 v1_6 v1_7 v1_8 v1_9 v1_10 v1_11 v1_12 v1_13 v1_14 v2_0 v2_1 v2_2 v2_3 v2_4 v2_5 v2_6 v2_7 v2_8 v2_9 v2_10 v2_11 v2_12 v2_13 v2_14 v3_0 v3_1 v3_2 v3_3 v3_4 v3_5 v3_6 v3_7 v3_8 v3_9 v3_10 v3_11 v3_12 v3_13 v3_14 v4_0 v4_1 v4_2 v4_3 v4_4 v4_5 v4_6 v4_7 v4_8 v4_9 v4_10 v4_11 v4_12 v4_13 v4_14;exact ZY Tryz.underlying22 VR (by decide) (base := #[.string ByteArray.empty,.int .i64 0,.int .i64 0,.bool false,.bool false,.int .i64 0,.int .i64 0,.int .i64 0,.slice none 0 0,.string ByteArray.empty,.string ByteArray.empty,.string ByteArray.empty,.slice none 0 0,.int .i64 0,.int .i64 0,.string ByteArray.empty,.int .i64 0,.int .i64 0,.bool false,.bool false,.int .i64 0,.int .i64 0,.int .i64 0,.slice none 0 0,.string ByteArray.empty,.string ByteArray.empty,.string ByteArray.empty,.slice none 0 0,.int .i64 0,.int .i64 0,.string ByteArray.empty,.int .i64 0,.int .i64 0,.bool false,.bool false,.int .i64 0,.int .i64 0,.int .i64 0,.slice none 0 0,.string ByteArray.empty,.string ByteArray.empty,.string ByteArray.empty,.slice none 0 0,.int .i64 0,.int .i64 0,.string ByteArray.empty,.int .i64 0,.int .i64 0,.bool false,.bool false,.int .i64 0,.int .i64 0,.int .i64 0,.slice none 0 0,.string ByteArray.empty,.string ByteArray.empty,.string ByteArray.empty,.slice none 0 0,.int .i64 0,.int .i64 0,.string ByteArray.empty,.int .i64 0,.int .i64 0,.bool false,.bool false,.int .i64 0,.int .i64 0,.int .i64 0,.slice none 0 0,.string ByteArray.empty,.string ByteArray.empty,.string ByteArray.empty,.slice none 0 0,.int .i64 0,.int .i64 0]) (by kernel_rfl) (by simp [Instr.fill,ZH]))
theorem Zfi:(opV Pg (Instr.buildSlice 26 0 #[]) QP w k=k (.slice (some ⟨w.heap.size,0,none⟩) 0 0) (w.alloc (.cells #[] 24))):=(by exact ZY Tryz.underlying26 Uh (by decide) (base := #[]) (by kernel_rfl) (by simp [Instr.fill,ZH]))
theorem Zd7:(∀ v0_0 v0_1:Value,opV Pg (Instr.buildSlice 26 1 #[(0,(.agg #[v0_0,v0_1]))]) QP w k=k (.slice (some ⟨w.heap.size,0,none⟩) 1 1) (w.alloc (.cells #[v0_0,v0_1] 24))):=(by intro v0_0 v0_1;exact ZY Tryz.underlying26 Uh (by decide) (base := #[.string ByteArray.empty,.slice none 0 0]) (by kernel_rfl) (by simp [Instr.fill,ZH]))
theorem Zgy:(∀ v0_0 v0_1 v1_0 v1_1 v2_0 v2_1 v3_0 v3_1:Value,opV Pg (Instr.buildSlice 26 4 #[(0,(.agg #[v0_0,v0_1])),(1,(.agg #[v1_0,v1_1])),(2,(.agg #[v2_0,v2_1])),(3,(.agg #[v3_0,v3_1]))]) QP w k=k (.slice (some ⟨w.heap.size,0,none⟩) 4 4) (w.alloc (.cells #[v0_0,v0_1,v1_0,v1_1,v2_0,v2_1,v3_0,v3_1] 24))):=(by intro v0_0 v0_1 v1_0 v1_1 v2_0 v2_1 v3_0 v3_1;exact ZY Tryz.underlying26 Uh (by decide) (base := #[.string ByteArray.empty,.slice none 0 0,.string ByteArray.empty,.slice none 0 0,.string ByteArray.empty,.slice none 0 0,.string ByteArray.empty,.slice none 0 0]) (by kernel_rfl) (by simp [Instr.fill,ZH]))
theorem ZgS:(opV Pg (Instr.buildSlice 30 0 #[]) QP w k=k (.slice (some ⟨w.heap.size,0,none⟩) 0 0) (w.alloc (.cells #[] 3))):=(by exact ZY Tryz.underlying30 ty3 (by decide) (base := #[]) (by kernel_rfl) (by simp [Instr.fill,ZH]))
theorem ZeI:(∀ v0:Value,v0.oneCell'=true→opV Pg (Instr.buildSlice 30 1 #[(0,v0)]) QP w k=k (.slice (some ⟨w.heap.size,0,none⟩) 1 1) (w.alloc (.cells #[v0] 3))):=(by intro v0 hv0;exact ZY Tryz.underlying30 ty3 (by decide) (base := #[.int .i64 0]) (by kernel_rfl) (by simp [Instr.fill,ZH,Zp hv0]))
theorem Zd2:(∀ v0 v1:Value,v0.oneCell'=true→v1.oneCell'=true→opV Pg (Instr.buildSlice 30 2 #[(0,v0),(1,v1)]) QP w k=k (.slice (some ⟨w.heap.size,0,none⟩) 2 2) (w.alloc (.cells #[v0,v1] 3))):=(by intro v0 v1 hv0 hv1;exact ZY Tryz.underlying30 ty3 (by decide) (base := #[.int .i64 0,.int .i64 0]) (by kernel_rfl) (by simp [Instr.fill,ZH,Zp hv0,Zp hv1]))
theorem Zfz:(∀ v0 v1 v2:Value,v0.oneCell'=true→v1.oneCell'=true→v2.oneCell'=true→opV Pg (Instr.buildSlice 30 3 #[(0,v0),(1,v1),(2,v2)]) QP w k=k (.slice (some ⟨w.heap.size,0,none⟩) 3 3) (w.alloc (.cells #[v0,v1,v2] 3))):=(by intro v0 v1 v2 hv0 hv1 hv2;exact ZY Tryz.underlying30 ty3 (by decide) (base := #[.int .i64 0,.int .i64 0,.int .i64 0]) (by kernel_rfl) (by simp [Instr.fill,ZH,Zp hv0,Zp hv1,Zp hv2]))
theorem ZdY:(opV Pg (Instr.buildSlice 43 0 #[]) QP w k=k (.slice (some ⟨w.heap.size,0,none⟩) 0 0) (w.alloc (.cells #[] 62))):=(by exact ZY Tryz.underlying43 Ax (by decide) (base := #[]) (by kernel_rfl) (by simp [Instr.fill,ZH]))
theorem Zgm:(∀ v0_0 v0_1:Value,opV Pg (Instr.buildSlice 43 1 #[(0,(.agg #[v0_0,v0_1]))]) QP w k=k (.slice (some ⟨w.heap.size,0,none⟩) 1 1) (w.alloc (.cells #[v0_0,v0_1] 62))):=(by intro v0_0 v0_1;exact ZY Tryz.underlying43 Ax (by decide) (base := #[.string ByteArray.empty,.int .i64 0]) (by kernel_rfl) (by simp [Instr.fill,ZH]))
theorem Zef:(opV Pg (Instr.buildSlice 46 0 #[]) QP w k=k (.slice (some ⟨w.heap.size,0,none⟩) 0 0) (w.alloc (.cells #[] 60))):=(by exact ZY Tryz.underlying46 jm (by decide) (base := #[]) (by kernel_rfl) (by simp [Instr.fill,ZH]))
theorem Zdp:(∀ v0_0 v0_1 v0_2 v1_0 v1_1 v1_2:Value,opV Pg (Instr.buildSlice 46 2 #[(0,(.agg #[v0_0,v0_1,v0_2])),(1,(.agg #[v1_0,v1_1,v1_2]))]) QP w k=k (.slice (some ⟨w.heap.size,0,none⟩) 2 2) (w.alloc (.cells #[v0_0,v0_1,v0_2,v1_0,v1_1,v1_2] 60))):=(by intro v0_0 v0_1 v0_2 v1_0 v1_1 v1_2;exact ZY Tryz.underlying46 jm (by decide) (base := #[.int .i64 0,.int .i64 0,.string ByteArray.empty,.int .i64 0,.int .i64 0,.string ByteArray.empty]) (by kernel_rfl) (by simp [Instr.fill,ZH]))
theorem ZfD:(∀ v0:Value,v0.oneCell'=true→opV Pg (Instr.buildSlice 78 1 #[(0,v0)]) QP w k=k (.slice (some ⟨w.heap.size,0,none⟩) 1 1) (w.alloc (.cells #[v0] 30))):=(by intro v0 hv0;exact ZY Tryz.underlying78 AE (by decide) (base := #[.slice none 0 0]) (by kernel_rfl) (by simp [Instr.fill,ZH,Zp hv0]))
theorem Zd9:(∀ v0 v1 v2 v3 v4:Value,v0.oneCell'=true→v1.oneCell'=true→v2.oneCell'=true→v3.oneCell'=true→v4.oneCell'=true→opV Pg (Instr.buildSlice 78 5 #[(0,v0),(1,v1),(2,v2),(3,v3),(4,v4)]) QP w k=k (.slice (some ⟨w.heap.size,0,none⟩) 5 5) (w.alloc (.cells #[v0,v1,v2,v3,v4] 30))):=(by intro v0 v1 v2 v3 v4 hv0 hv1 hv2 hv3 hv4;exact ZY Tryz.underlying78 AE (by decide) (base := #[.slice none 0 0,.slice none 0 0,.slice none 0 0,.slice none 0 0,.slice none 0 0]) (by kernel_rfl) (by simp [Instr.fill,ZH,Zp hv0,Zp hv1,Zp hv2,Zp hv3,Zp hv4]))
theorem Zet:(∀ v0:Value,v0.oneCell'=true→opV Pg (Instr.buildSlice 82 1 #[(0,v0)]) QP w k=k (.slice (some ⟨w.heap.size,0,none⟩) 1 1) (w.alloc (.cells #[v0] 9))):=(by intro v0 hv0;exact ZY Tryz.underlying82 ty9 (by decide) (base := #[.string ByteArray.empty]) (by kernel_rfl) (by simp [Instr.fill,ZH,Zp hv0]))
theorem ZfB:(∀ v0 v1 v2 v3 v4 v5 v6 v7 v8 v9 v10 v11 v12:Value,v0.oneCell'=true→v1.oneCell'=true→v2.oneCell'=true→v3.oneCell'=true→v4.oneCell'=true→v5.oneCell'=true→v6.oneCell'=true→v7.oneCell'=true→v8.oneCell'=true→v9.oneCell'=true→v10.oneCell'=true→v11.oneCell'=true→v12.oneCell'=true→opV Pg (Instr.buildSlice 82 13 #[(0,v0),(1,v1),(2,v2),(3,v3),(4,v4),(5,v5),(6,v6),(7,v7),(8,v8),(9,v9),(10,v10),(11,v11),(12,v12)]) QP w k=k (.slice (some ⟨w.heap.size,0,none⟩) 13 13) (w.alloc (.cells #[v0,v1,v2,v3,v4,v5,v6,v7,v8,v9,v10,v11,v12] 9))):=(by intro v0 v1 v2 v3 v4 v5 v6 v7 v8 v9 v10 v11 v12 hv0 hv1 hv2 hv3 hv4 hv5 hv6 hv7 hv8 hv9 hv10 hv11 hv12;exact ZY Tryz.underlying82 ty9 (by decide) (base := #[.string ByteArray.empty,.string ByteArray.empty,.string ByteArray.empty,.string ByteArray.empty,.string ByteArray.empty,.string ByteArray.empty,.string ByteArray.empty,.string ByteArray.empty,.string ByteArray.empty,.string ByteArray.empty,.string ByteArray.empty,.string ByteArray.empty,.string ByteArray.empty]) (by kernel_rfl) (by simp [Instr.fill,ZH,Zp hv0,Zp hv1,Zp hv2,Zp hv3,Zp hv4,Zp hv5,Zp hv6,Zp hv7,Zp hv8,Zp hv9,Zp hv10,Zp hv11,Zp hv12]))
theorem ZgG:(∀ v0:Value,v0.oneCell'=true→opV Pg (Instr.buildSlice 93 1 #[(0,v0)]) QP w k=k (.slice (some ⟨w.heap.size,0,none⟩) 1 1) (w.alloc (.cells #[v0] 4))):=(by intro v0 hv0;exact ZY Tryz.underlying93 ty4 (by decide) (base := #[.bool false]) (by kernel_rfl) (by simp [Instr.fill,ZH,Zp hv0]))
theorem ZeA:(∀ v0 v1:Value,v0.oneCell'=true→v1.oneCell'=true→opV Pg (Instr.buildSlice 93 2 #[(0,v0),(1,v1)]) QP w k=k (.slice (some ⟨w.heap.size,0,none⟩) 2 2) (w.alloc (.cells #[v0,v1] 4))):=(by intro v0 v1 hv0 hv1;exact ZY Tryz.underlying93 ty4 (by decide) (base := #[.bool false,.bool false]) (by kernel_rfl) (by simp [Instr.fill,ZH,Zp hv0,Zp hv1]))
theorem ZeE:(∀ v0 v1 v2:Value,v0.oneCell'=true→v1.oneCell'=true→v2.oneCell'=true→opV Pg (Instr.buildSlice 93 3 #[(0,v0),(1,v1),(2,v2)]) QP w k=k (.slice (some ⟨w.heap.size,0,none⟩) 3 3) (w.alloc (.cells #[v0,v1,v2] 4))):=(by intro v0 v1 v2 hv0 hv1 hv2;exact ZY Tryz.underlying93 ty4 (by decide) (base := #[.bool false,.bool false,.bool false]) (by kernel_rfl) (by simp [Instr.fill,ZH,Zp hv0,Zp hv1,Zp hv2]))
theorem ZdC:(∀ v0_0 v0_1 v0_2:Value,opV Pg (Instr.buildSlice 173 1 #[(0,(.agg #[v0_0,v0_1,v0_2]))]) QP w k=k (.slice (some ⟨w.heap.size,0,none⟩) 1 1) (w.alloc (.cells #[v0_0,v0_1,v0_2] 206))):=(by intro v0_0 v0_1 v0_2;exact ZY Tryz.underlying173 jc (by decide) (base := #[.string ByteArray.empty,.int .i64 0,.int .i64 0]) (by kernel_rfl) (by simp [Instr.fill,ZH]))
theorem ZeP:(∀ v,opV Pg (Instr.makeInterface 90 v) QP w k=k (.iface 90 v) w):=(NM Tryz.underlying90 rfl)
theorem Zel:(∀ c A n m,opV Pg (ZM .eql 22 c (.slice A n m) (.slice none 0 0)) QP w k=k (.bool A.isNone) w):=(Ji Tryz.underlying22)
theorem Zeu:(∀ c A n m,opV Pg (ZM .eql 26 c (.slice A n m) (.slice none 0 0)) QP w k=k (.bool A.isNone) w):=(Ji Tryz.underlying26)
theorem ZdT:(∀ c f x y,opV Pg (ZM .eql 40 c (.func f x y) .nilFunc) QP w k=k (.bool false) w):=(LO Tryz.underlying40)
theorem Zgv:(∀ c A n m,opV Pg (ZM .eql 43 c (.slice A n m) (.slice none 0 0)) QP w k=k (.bool A.isNone) w):=(Ji Tryz.underlying43)
theorem Zdv:(∀ c A n m,opV Pg (ZM .eql 46 c (.slice A n m) (.slice none 0 0)) QP w k=k (.bool A.isNone) w):=(Ji Tryz.underlying46)
theorem Zgd:(∀ c (a0 b0:Int) (a1 b1:Int) (a2 b2:ByteArray),opV Pg (ZM .neq 60 c (.agg #[.int .i64 a0,.int .i64 a1,.string a2]) (.agg #[.int .i64 b0,.int .i64 b1,.string b2])) QP w k=k (.bool (!(decide (a0=b0)&&(decide (a1=b1)&&(decide (a2=b2)&&true))))) w):=(by intro c a0 b0 a1 b1 a2 b2;exact DW (by kernel_rfl) (λ w=>Zd4 a0 b0 a1 b1 a2 b2) c)
theorem Zfr:(∀ c (a0 b0:ByteArray) (a1 b1:Int),opV Pg (ZM .neq 62 c (.agg #[.string a0,.int .i64 a1]) (.agg #[.string b0,.int .i64 b1])) QP w k=k (.bool (!(decide (a0=b0)&&(decide (a1=b1)&&true)))) w):=(by intro c a0 b0 a1 b1;exact DW (by kernel_rfl) (λ w=>Zgt a0 b0 a1 b1) c)
theorem Zee:(∀ c (a0 b0:ByteArray) (a1 b1:ByteArray) (a2 b2:ByteArray) (a3 b3:ByteArray) (a4 b4:Int) (a5 b5:Int) (a6 b6:Int) (a7 b7:Int) (a8 b8:Int) (a9 b9:Int) (a10 b10:Int) (a11 b11:Bool) (a12 b12:Bool),opV Pg (ZM .eql 144 c (.agg #[.string a0,.string a1,.string a2,.string a3,.int .i64 a4,.int .i64 a5,.int .i64 a6,.int .i64 a7,.int .i64 a8,.int .i64 a9,.int .i64 a10,.bool a11,.bool a12]) (.agg #[.string b0,.string b1,.string b2,.string b3,.int .i64 b4,.int .i64 b5,.int .i64 b6,.int .i64 b7,.int .i64 b8,.int .i64 b9,.int .i64 b10,.bool b11,.bool b12])) QP w k=k (.bool (decide (a0=b0)&&(decide (a1=b1)&&(decide (a2=b2)&&(decide (a3=b3)&&(decide (a4=b4)&&(decide (a5=b5)&&(decide (a6=b6)&&(decide (a7=b7)&&(decide (a8=b8)&&(decide (a9=b9)&&(decide (a10=b10)&&(decide (a11=b11)&&(decide (a12=b12)&&true)))))))))))))) w):=(by intro c a0 b0 a1 b1 a2 b2 a3 b3 a4 b4 a5 b5 a6 b6 a7 b7 a8 b8 a9 b9 a10 b10 a11 b11 a12 b12;exact O4 (by kernel_rfl) (λ w=>Zbm a0 b0 a1 b1 a2 b2 a3 b3 a4 b4 a5 b5 a6 b6 a7 b7 a8 b8 a9 b9 a10 b10 a11 b11 a12 b12) c)
end
theorem YU {P:Program} {C:World→Prop} [YV C] {k:Value→Prop} {s:Nat→Nat→Sem Value} {v:Nat→Nat→Value} (h:∀ QP w k b o,opV P (s b o) QP w k=k (v b o) w) (b o:Nat):qV P C (s b o) k=k (v b o):=YN λ QP w k=>h QP w k b o
def ZdP {QP:List PanicEntry→World→Prop} {w:World} {ku:World→Prop}:=And.intro (XW (QP:=QP) (w:=w) (ku:=ku) ty3)<|And.intro (XW (QP:=QP) (w:=w) (ku:=ku) ty4)<|And.intro (XW (QP:=QP) (w:=w) (ku:=ku) ty9)<|And.intro (XW (QP:=QP) (w:=w) (ku:=ku) Lk)<|And.intro (XW (QP:=QP) (w:=w) (ku:=ku) En)<|And.intro (XW (QP:=QP) (w:=w) (ku:=ku) AE)<|And.intro (XW (QP:=QP) (w:=w) (ku:=ku) Zat)<|And.intro (XW (QP:=QP) (w:=w) (ku:=ku) Hw)<|And.intro (XW (QP:=QP) (w:=w) (ku:=ku) jg)<|And.intro ((by intro b T' u0 u1 u2 u3 u4 u5 u6 u7 u8 u9 u10 u11 u12 u13 u14 v0 v1 v2 v3 v4 v5 v6 v7 v8 v9 v10 v11 v12 v13 v14 hb h0 h1 h2 h3 h4 h5 h6 h7 h8 h9 h10 h11 h12 h13 h14;exact AN VR b hb _ T' _ rfl rfl (by intro v hv;simp only [List.mem_cons,List.not_mem_nil,or_false] at hv;rcases hv with rfl | rfl | rfl | rfl | rfl | rfl | rfl | rfl | rfl | rfl | rfl | rfl | rfl | rfl | rfl<;>assumption)):(∀ (b:Nat) (T':TypeId) u0 u1 u2 u3 u4 u5 u6 u7 u8 u9 u10 u11 u12 u13 u14 v0 v1 v2 v3 v4 v5 v6 v7 v8 v9 v10 v11 v12 v13 v14,b=w.heap.size→v0.oneCell'=true→v1.oneCell'=true→v2.oneCell'=true→v3.oneCell'=true→v4.oneCell'=true→v5.oneCell'=true→v6.oneCell'=true→v7.oneCell'=true→v8.oneCell'=true→v9.oneCell'=true→v10.oneCell'=true→v11.oneCell'=true→v12.oneCell'=true→v13.oneCell'=true→v14.oneCell'=true→opU Pg (Instr.storeAt 48 (.pointer (some ⟨b,0,none⟩)) (.agg #[v0,v1,v2,v3,v4,v5,v6,v7,v8,v9,v10,v11,v12,v13,v14])) QP (w.alloc (.cells #[u0,u1,u2,u3,u4,u5,u6,u7,u8,u9,u10,u11,u12,u13,u14] T')) ku=ku (w.alloc (.cells #[v0,v1,v2,v3,v4,v5,v6,v7,v8,v9,v10,v11,v12,v13,v14] T'))))<|And.intro (XW (QP:=QP) (w:=w) (ku:=ku) PK)<|And.intro ((by intro b T' u0 u1 u2 u3 u4 u5 u6 u7 u8 u9 u10 u11 u12 v0 v1 v2 v3 v4 v5 v6 v7 v8 v9 v10 v11 v12 hb h0 h1 h2 h3 h4 h5 h6 h7 h8 h9 h10 h11 h12;exact AN HV b hb _ T' _ rfl rfl (by intro v hv;simp only [List.mem_cons,List.not_mem_nil,or_false] at hv;rcases hv with rfl | rfl | rfl | rfl | rfl | rfl | rfl | rfl | rfl | rfl | rfl | rfl | rfl<;>assumption)):(∀ (b:Nat) (T':TypeId) u0 u1 u2 u3 u4 u5 u6 u7 u8 u9 u10 u11 u12 v0 v1 v2 v3 v4 v5 v6 v7 v8 v9 v10 v11 v12,b=w.heap.size→v0.oneCell'=true→v1.oneCell'=true→v2.oneCell'=true→v3.oneCell'=true→v4.oneCell'=true→v5.oneCell'=true→v6.oneCell'=true→v7.oneCell'=true→v8.oneCell'=true→v9.oneCell'=true→v10.oneCell'=true→v11.oneCell'=true→v12.oneCell'=true→opU Pg (Instr.storeAt 144 (.pointer (some ⟨b,0,none⟩)) (.agg #[v0,v1,v2,v3,v4,v5,v6,v7,v8,v9,v10,v11,v12])) QP (w.alloc (.cells #[u0,u1,u2,u3,u4,u5,u6,u7,u8,u9,u10,u11,u12] T')) ku=ku (w.alloc (.cells #[v0,v1,v2,v3,v4,v5,v6,v7,v8,v9,v10,v11,v12] T'))))<|(XW (QP:=QP) (w:=w) (ku:=ku) j8)
def Zdw {QP:List PanicEntry→World→Prop} {w:World} {ku:World→Prop}:=And.intro ((by intro b o v0 v1 h0 h1;exact QI Uh b o _ rfl (by intro v hv;simp only [List.mem_cons,List.not_mem_nil,or_false] at hv;rcases hv with rfl | rfl<;>assumption) _ rfl _ rfl):(∀ b o v0 v1,v0.oneCell'=true→v1.oneCell'=true→opU Pg (Instr.storeAt 24 (.pointer (some ⟨b,o,none⟩)) (.agg #[v0,v1])) QP w ku=Yf [w.cell? ⟨b,o,none⟩,w.cell? ⟨b,o+1,none⟩] (λ _=>Qn [w.frozen? ⟨b,o,none⟩,w.frozen? ⟨b,o+1,none⟩] (ku ((w.setCell ⟨b,o,none⟩ v0).setCell ⟨b,o+1,none⟩ v1)) (Vh Pg (Instr.storeAt 24 (.pointer (some ⟨b,o,none⟩)) (.agg #[v0,v1])) QP w ku)) (Vh Pg (Instr.storeAt 24 (.pointer (some ⟨b,o,none⟩)) (.agg #[v0,v1])) QP w ku)))<|And.intro ((by intro b o v0 v1 v2 h0 h1 h2;exact QI BO b o _ rfl (by intro v hv;simp only [List.mem_cons,List.not_mem_nil,or_false] at hv;rcases hv with rfl | rfl | rfl<;>assumption) _ rfl _ rfl):(∀ b o v0 v1 v2,v0.oneCell'=true→v1.oneCell'=true→v2.oneCell'=true→opU Pg (Instr.storeAt 28 (.pointer (some ⟨b,o,none⟩)) (.agg #[v0,v1,v2])) QP w ku=Yf [w.cell? ⟨b,o,none⟩,w.cell? ⟨b,o+1,none⟩,w.cell? ⟨b,o+2,none⟩] (λ _=>Qn [w.frozen? ⟨b,o,none⟩,w.frozen? ⟨b,o+1,none⟩,w.frozen? ⟨b,o+2,none⟩] (ku (((w.setCell ⟨b,o,none⟩ v0).setCell ⟨b,o+1,none⟩ v1).setCell ⟨b,o+2,none⟩ v2)) (Vh Pg (Instr.storeAt 28 (.pointer (some ⟨b,o,none⟩)) (.agg #[v0,v1,v2])) QP w ku)) (Vh Pg (Instr.storeAt 28 (.pointer (some ⟨b,o,none⟩)) (.agg #[v0,v1,v2])) QP w ku)))<|And.intro ((by intro b o v0 v1 h0 h1;exact QI GV b o _ rfl (by intro v hv;simp only [List.mem_cons,List.not_mem_nil,or_false] at hv;rcases hv with rfl | rfl<;>assumption) _ rfl _ rfl):(∀ b o v0 v1,v0.oneCell'=true→v1.oneCell'=true→opU Pg (Instr.storeAt 45 (.pointer (some ⟨b,o,none⟩)) (.agg #[v0,v1])) QP w ku=Yf [w.cell? ⟨b,o,none⟩,w.cell? ⟨b,o+1,none⟩] (λ _=>Qn [w.frozen? ⟨b,o,none⟩,w.frozen? ⟨b,o+1,none⟩] (ku ((w.setCell ⟨b,o,none⟩ v0).setCell ⟨b,o+1,none⟩ v1)) (Vh Pg (Instr.storeAt 45 (.pointer (some ⟨b,o,none⟩)) (.agg #[v0,v1])) QP w ku)) (Vh Pg (Instr.storeAt 45 (.pointer (some ⟨b,o,none⟩)) (.agg #[v0,v1])) QP w ku)))<|And.intro ((by intro b o v0 v1 v2 h0 h1 h2;exact QI jm b o _ rfl (by intro v hv;simp only [List.mem_cons,List.not_mem_nil,or_false] at hv;rcases hv with rfl | rfl | rfl<;>assumption) _ rfl _ rfl):(∀ b o v0 v1 v2,v0.oneCell'=true→v1.oneCell'=true→v2.oneCell'=true→opU Pg (Instr.storeAt 60 (.pointer (some ⟨b,o,none⟩)) (.agg #[v0,v1,v2])) QP w ku=Yf [w.cell? ⟨b,o,none⟩,w.cell? ⟨b,o+1,none⟩,w.cell? ⟨b,o+2,none⟩] (λ _=>Qn [w.frozen? ⟨b,o,none⟩,w.frozen? ⟨b,o+1,none⟩,w.frozen? ⟨b,o+2,none⟩] (ku (((w.setCell ⟨b,o,none⟩ v0).setCell ⟨b,o+1,none⟩ v1).setCell ⟨b,o+2,none⟩ v2)) (Vh Pg (Instr.storeAt 60 (.pointer (some ⟨b,o,none⟩)) (.agg #[v0,v1,v2])) QP w ku)) (Vh Pg (Instr.storeAt 60 (.pointer (some ⟨b,o,none⟩)) (.agg #[v0,v1,v2])) QP w ku)))<|And.intro ((by intro b o v0 v1 h0 h1;exact QI Ax b o _ rfl (by intro v hv;simp only [List.mem_cons,List.not_mem_nil,or_false] at hv;rcases hv with rfl | rfl<;>assumption) _ rfl _ rfl):(∀ b o v0 v1,v0.oneCell'=true→v1.oneCell'=true→opU Pg (Instr.storeAt 62 (.pointer (some ⟨b,o,none⟩)) (.agg #[v0,v1])) QP w ku=Yf [w.cell? ⟨b,o,none⟩,w.cell? ⟨b,o+1,none⟩] (λ _=>Qn [w.frozen? ⟨b,o,none⟩,w.frozen? ⟨b,o+1,none⟩] (ku ((w.setCell ⟨b,o,none⟩ v0).setCell ⟨b,o+1,none⟩ v1)) (Vh Pg (Instr.storeAt 62 (.pointer (some ⟨b,o,none⟩)) (.agg #[v0,v1])) QP w ku)) (Vh Pg (Instr.storeAt 62 (.pointer (some ⟨b,o,none⟩)) (.agg #[v0,v1])) QP w ku)))<|And.intro ((by intro b o v0 v1 h0 h1;exact QI GG b o _ rfl (by intro v hv;simp only [List.mem_cons,List.not_mem_nil,or_false] at hv;rcases hv with rfl | rfl<;>assumption) _ rfl _ rfl):(∀ b o v0 v1,v0.oneCell'=true→v1.oneCell'=true→opU Pg (Instr.storeAt 74 (.pointer (some ⟨b,o,none⟩)) (.agg #[v0,v1])) QP w ku=Yf [w.cell? ⟨b,o,none⟩,w.cell? ⟨b,o+1,none⟩] (λ _=>Qn [w.frozen? ⟨b,o,none⟩,w.frozen? ⟨b,o+1,none⟩] (ku ((w.setCell ⟨b,o,none⟩ v0).setCell ⟨b,o+1,none⟩ v1)) (Vh Pg (Instr.storeAt 74 (.pointer (some ⟨b,o,none⟩)) (.agg #[v0,v1])) QP w ku)) (Vh Pg (Instr.storeAt 74 (.pointer (some ⟨b,o,none⟩)) (.agg #[v0,v1])) QP w ku)))<|And.intro ((by intro b o v0 v1 v2 h0 h1 h2;exact QI Lg b o _ rfl (by intro v hv;simp only [List.mem_cons,List.not_mem_nil,or_false] at hv;rcases hv with rfl | rfl | rfl<;>assumption) _ rfl _ rfl):(∀ b o v0 v1 v2,v0.oneCell'=true→v1.oneCell'=true→v2.oneCell'=true→opU Pg (Instr.storeAt 90 (.pointer (some ⟨b,o,none⟩)) (.agg #[v0,v1,v2])) QP w ku=Yf [w.cell? ⟨b,o,none⟩,w.cell? ⟨b,o+1,none⟩,w.cell? ⟨b,o+2,none⟩] (λ _=>Qn [w.frozen? ⟨b,o,none⟩,w.frozen? ⟨b,o+1,none⟩,w.frozen? ⟨b,o+2,none⟩] (ku (((w.setCell ⟨b,o,none⟩ v0).setCell ⟨b,o+1,none⟩ v1).setCell ⟨b,o+2,none⟩ v2)) (Vh Pg (Instr.storeAt 90 (.pointer (some ⟨b,o,none⟩)) (.agg #[v0,v1,v2])) QP w ku)) (Vh Pg (Instr.storeAt 90 (.pointer (some ⟨b,o,none⟩)) (.agg #[v0,v1,v2])) QP w ku)))<|And.intro ((by intro b o v0 v1 v2 h0 h1 h2;exact QI jc b o _ rfl (by intro v hv;simp only [List.mem_cons,List.not_mem_nil,or_false] at hv;rcases hv with rfl | rfl | rfl<;>assumption) _ rfl _ rfl):(∀ b o v0 v1 v2,v0.oneCell'=true→v1.oneCell'=true→v2.oneCell'=true→opU Pg (Instr.storeAt 206 (.pointer (some ⟨b,o,none⟩)) (.agg #[v0,v1,v2])) QP w ku=Yf [w.cell? ⟨b,o,none⟩,w.cell? ⟨b,o+1,none⟩,w.cell? ⟨b,o+2,none⟩] (λ _=>Qn [w.frozen? ⟨b,o,none⟩,w.frozen? ⟨b,o+1,none⟩,w.frozen? ⟨b,o+2,none⟩] (ku (((w.setCell ⟨b,o,none⟩ v0).setCell ⟨b,o+1,none⟩ v1).setCell ⟨b,o+2,none⟩ v2)) (Vh Pg (Instr.storeAt 206 (.pointer (some ⟨b,o,none⟩)) (.agg #[v0,v1,v2])) QP w ku)) (Vh Pg (Instr.storeAt 206 (.pointer (some ⟨b,o,none⟩)) (.agg #[v0,v1,v2])) QP w ku)))<|((by intro b o v0 v1 h0 h1;exact QI Ep b o _ rfl (by intro v hv;simp only [List.mem_cons,List.not_mem_nil,or_false] at hv;rcases hv with rfl | rfl<;>assumption) _ rfl _ rfl):(∀ b o v0 v1,v0.oneCell'=true→v1.oneCell'=true→opU Pg (Instr.storeAt 219 (.pointer (some ⟨b,o,none⟩)) (.agg #[v0,v1])) QP w ku=Yf [w.cell? ⟨b,o,none⟩,w.cell? ⟨b,o+1,none⟩] (λ _=>Qn [w.frozen? ⟨b,o,none⟩,w.frozen? ⟨b,o+1,none⟩] (ku ((w.setCell ⟨b,o,none⟩ v0).setCell ⟨b,o+1,none⟩ v1)) (Vh Pg (Instr.storeAt 219 (.pointer (some ⟨b,o,none⟩)) (.agg #[v0,v1])) QP w ku)) (Vh Pg (Instr.storeAt 219 (.pointer (some ⟨b,o,none⟩)) (.agg #[v0,v1])) QP w ku)))
section
def Zfw {w:World} {k:Value→Prop}:=And.intro (Qy (w:=w) (k:=k) ty3)<|And.intro (WG (w:=w) (k:=k) ty3)<|And.intro (Qy (w:=w) (k:=k) ty4)<|And.intro (WG (w:=w) (k:=k) ty4)<|And.intro (Qy (w:=w) (k:=k) ty9)<|And.intro (WG (w:=w) (k:=k) ty9)<|And.intro (Qy (w:=w) (k:=k) Lk)<|And.intro ((by intro b o;exact Uj Uh b o _ rfl):(∀ b o,qV Pg (EC w) (Instr.loadAt 24 (.pointer (some ⟨b,o,none⟩))) k=Yf [w.cell? ⟨b,o,none⟩,w.cell? ⟨b,o+1,none⟩] (λ vs=>k (.agg vs.toArray)) (qVx Pg (EC w) (Instr.loadAt 24 (.pointer (some ⟨b,o,none⟩))) k)))<|And.intro (Qy (w:=w) (k:=k) En)<|And.intro (WG (w:=w) (k:=k) En)<|And.intro ((by intro b o;exact Uj BO b o _ rfl):(∀ b o,qV Pg (EC w) (Instr.loadAt 28 (.pointer (some ⟨b,o,none⟩))) k=Yf [w.cell? ⟨b,o,none⟩,w.cell? ⟨b,o+1,none⟩,w.cell? ⟨b,o+2,none⟩] (λ vs=>k (.agg vs.toArray)) (qVx Pg (EC w) (Instr.loadAt 28 (.pointer (some ⟨b,o,none⟩))) k)))<|And.intro (Qy (w:=w) (k:=k) zz)<|And.intro (Qy (w:=w) (k:=k) Hw)<|And.intro ((by intro b o;exact Uj GV b o _ rfl):(∀ b o,qV Pg (EC w) (Instr.loadAt 45 (.pointer (some ⟨b,o,none⟩))) k=Yf [w.cell? ⟨b,o,none⟩,w.cell? ⟨b,o+1,none⟩] (λ vs=>k (.agg vs.toArray)) (qVx Pg (EC w) (Instr.loadAt 45 (.pointer (some ⟨b,o,none⟩))) k)))<|And.intro (Qy (w:=w) (k:=k) jg)<|And.intro ((by intro b o;exact Uj VR b o _ rfl):(∀ b o,qV Pg (EC w) (Instr.loadAt 48 (.pointer (some ⟨b,o,none⟩))) k=Yf [w.cell? ⟨b,o,none⟩,w.cell? ⟨b,o+1,none⟩,w.cell? ⟨b,o+2,none⟩,w.cell? ⟨b,o+3,none⟩,w.cell? ⟨b,o+4,none⟩,w.cell? ⟨b,o+5,none⟩,w.cell? ⟨b,o+6,none⟩,w.cell? ⟨b,o+7,none⟩,w.cell? ⟨b,o+8,none⟩,w.cell? ⟨b,o+9,none⟩,w.cell? ⟨b,o+10,none⟩,w.cell? ⟨b,o+11,none⟩,w.cell? ⟨b,o+12,none⟩,w.cell? ⟨b,o+13,none⟩,w.cell? ⟨b,o+14,none⟩] (λ vs=>k (.agg vs.toArray)) (qVx Pg (EC w) (Instr.loadAt 48 (.pointer (some ⟨b,o,none⟩))) k)))<|And.intro ((by intro b o;exact Uj jm b o _ rfl):(∀ b o,qV Pg (EC w) (Instr.loadAt 60 (.pointer (some ⟨b,o,none⟩))) k=Yf [w.cell? ⟨b,o,none⟩,w.cell? ⟨b,o+1,none⟩,w.cell? ⟨b,o+2,none⟩] (λ vs=>k (.agg vs.toArray)) (qVx Pg (EC w) (Instr.loadAt 60 (.pointer (some ⟨b,o,none⟩))) k)))<|And.intro ((by intro b o;exact Uj Ax b o _ rfl):(∀ b o,qV Pg (EC w) (Instr.loadAt 62 (.pointer (some ⟨b,o,none⟩))) k=Yf [w.cell? ⟨b,o,none⟩,w.cell? ⟨b,o+1,none⟩] (λ vs=>k (.agg vs.toArray)) (qVx Pg (EC w) (Instr.loadAt 62 (.pointer (some ⟨b,o,none⟩))) k)))<|And.intro (Qy (w:=w) (k:=k) Pq)<|(WG (w:=w) (k:=k) Pq)
def Ze7 {w:World} {k:Value→Prop}:=And.intro (Qy (w:=w) (k:=k) DB)<|And.intro (WG (w:=w) (k:=k) DB)<|And.intro (Qy (w:=w) (k:=k) j8)<|And.intro (WG (w:=w) (k:=k) j8)<|And.intro (Ev (w:=w) (k:=k) ty4)<|And.intro ((by intro b o;exact zg BO b o _ rfl):(∀ b o,qW Pg 28 (.pointer (some ⟨b,o,none⟩)) w k=Yf [w.cell? ⟨b,o,none⟩,w.cell? ⟨b,o+1,none⟩,w.cell? ⟨b,o+2,none⟩] (λ vs=>k (.agg vs.toArray)) (qWx Pg 28 (.pointer (some ⟨b,o,none⟩)) w k)))<|And.intro (Ev (w:=w) (k:=k) Zat)<|And.intro ((by intro b o;exact zg GG b o _ rfl):(∀ b o,qW Pg 74 (.pointer (some ⟨b,o,none⟩)) w k=Yf [w.cell? ⟨b,o,none⟩,w.cell? ⟨b,o+1,none⟩] (λ vs=>k (.agg vs.toArray)) (qWx Pg 74 (.pointer (some ⟨b,o,none⟩)) w k)))<|And.intro ((by intro b o;exact zg Lg b o _ rfl):(∀ b o,qW Pg 90 (.pointer (some ⟨b,o,none⟩)) w k=Yf [w.cell? ⟨b,o,none⟩,w.cell? ⟨b,o+1,none⟩,w.cell? ⟨b,o+2,none⟩] (λ vs=>k (.agg vs.toArray)) (qWx Pg 90 (.pointer (some ⟨b,o,none⟩)) w k)))<|((by intro b o;exact zg HV b o _ rfl):(∀ b o,qW Pg 144 (.pointer (some ⟨b,o,none⟩)) w k=Yf [w.cell? ⟨b,o,none⟩,w.cell? ⟨b,o+1,none⟩,w.cell? ⟨b,o+2,none⟩,w.cell? ⟨b,o+3,none⟩,w.cell? ⟨b,o+4,none⟩,w.cell? ⟨b,o+5,none⟩,w.cell? ⟨b,o+6,none⟩,w.cell? ⟨b,o+7,none⟩,w.cell? ⟨b,o+8,none⟩,w.cell? ⟨b,o+9,none⟩,w.cell? ⟨b,o+10,none⟩,w.cell? ⟨b,o+11,none⟩,w.cell? ⟨b,o+12,none⟩] (λ vs=>k (.agg vs.toArray)) (qWx Pg 144 (.pointer (some ⟨b,o,none⟩)) w k)))
def Zen {C:World→Prop} [YV C] {k:Value→Prop}:=And.intro ((by intros;apply YN;intros;apply o11<;>assumption):(∀ b o len cap ik (i:Nat),i < len→qV Pg C (Instr.indexAt 22 (.slice (some ⟨b,o,none⟩) len cap) (.int ik (i:Int))) k=k (.pointer (some ⟨b,o+i*15,none⟩))))<|And.intro (YU (C:=C) (k:=k) λ QP w k => @o12 QP w k)<|And.intro (YU (C:=C) (k:=k) λ QP w k => @o13 QP w k)<|And.intro ((by intros;apply YN;intros;apply o18<;>assumption):(∀ b o len cap ik (i:Nat),i < len→qV Pg C (Instr.indexAt 26 (.slice (some ⟨b,o,none⟩) len cap) (.int ik (i:Int))) k=k (.pointer (some ⟨b,o+i*2,none⟩))))<|And.intro (YU (C:=C) (k:=k) λ QP w k => @o20 QP w k)<|And.intro (YU (C:=C) (k:=k) λ QP w k => @o21 QP w k)<|And.intro ((by intros;apply YN;intros;apply o26<;>assumption):(∀ b o len cap ik (i:Nat),i < len→qV Pg C (Instr.indexAt 30 (.slice (some ⟨b,o,none⟩) len cap) (.int ik (i:Int))) k=k (.pointer (some ⟨b,o+i*1,none⟩))))<|And.intro ((by intros;apply YN;intros;apply o31<;>assumption):(∀ r a n c,qV Pg C (Builtin.len_ #[43] r #[.slice a n c]) k=k (.int .i64 (n:Int))))<|And.intro ((by intros;apply YN;intros;apply o32<;>assumption):(∀ b o len cap ik (i:Nat),i < len→qV Pg C (Instr.indexAt 43 (.slice (some ⟨b,o,none⟩) len cap) (.int ik (i:Int))) k=k (.pointer (some ⟨b,o+i*2,none⟩))))<|And.intro (YU (C:=C) (k:=k) λ QP w k => @o34 QP w k)<|And.intro (YU (C:=C) (k:=k) λ QP w k => @o35 QP w k)<|And.intro ((by intros;apply YN;intros;apply o40<;>assumption):(∀ b o len cap ik (i:Nat),i < len→qV Pg C (Instr.indexAt 46 (.slice (some ⟨b,o,none⟩) len cap) (.int ik (i:Int))) k=k (.pointer (some ⟨b,o+i*3,none⟩))))<|And.intro (YU (C:=C) (k:=k) λ QP w k => @o41 QP w k)<|And.intro (YU (C:=C) (k:=k) λ QP w k => @o42 QP w k)<|And.intro (YU (C:=C) (k:=k) λ QP w k => @o43 QP w k)<|And.intro (YU (C:=C) (k:=k) λ QP w k => @o46 QP w k)<|And.intro (YU (C:=C) (k:=k) λ QP w k => @o47 QP w k)<|And.intro (YU (C:=C) (k:=k) λ QP w k => @o48 QP w k)<|And.intro (YU (C:=C) (k:=k) λ QP w k => @o49 QP w k)<|And.intro (YU (C:=C) (k:=k) λ QP w k => @o50 QP w k)<|And.intro (YU (C:=C) (k:=k) λ QP w k => @o51 QP w k)<|And.intro (YU (C:=C) (k:=k) λ QP w k => @o52 QP w k)<|And.intro (YU (C:=C) (k:=k) λ QP w k => @o57 QP w k)<|And.intro (YU (C:=C) (k:=k) λ QP w k => @o58 QP w k)<|And.intro (YU (C:=C) (k:=k) λ QP w k => @o62 QP w k)<|(YU (C:=C) (k:=k) λ QP w k => @o63 QP w k)
def ZfK {C:World→Prop} [YV C] {k:Value→Prop}:=And.intro ((by intros;apply YN;intros;apply o83<;>assumption):(∀ b o len cap ik (i:Nat),i < len→qV Pg C (Instr.indexAt 82 (.slice (some ⟨b,o,none⟩) len cap) (.int ik (i:Int))) k=k (.pointer (some ⟨b,o+i*1,none⟩))))<|And.intro ((by intros;apply YN;intros;apply o88<;>assumption):(∀ b o len cap ik (i:Nat),i < len→qV Pg C (Instr.indexAt 93 (.slice (some ⟨b,o,none⟩) len cap) (.int ik (i:Int))) k=k (.pointer (some ⟨b,o+i*1,none⟩))))<|And.intro (YU (C:=C) (k:=k) λ QP w k => @Zdb QP w k)<|And.intro (YU (C:=C) (k:=k) λ QP w k => @ZbX QP w k)<|And.intro (YU (C:=C) (k:=k) λ QP w k => @Zdc QP w k)<|And.intro (YU (C:=C) (k:=k) λ QP w k => @Zc3 QP w k)<|And.intro (YU (C:=C) (k:=k) λ QP w k => @Zf7 QP w k)<|And.intro ((by intros;apply YN;intros;apply Zdg<;>assumption):(∀ b o len cap ik (i:Nat),i < len→qV Pg C (Instr.indexAt 173 (.slice (some ⟨b,o,none⟩) len cap) (.int ik (i:Int))) k=k (.pointer (some ⟨b,o+i*3,none⟩))))<|And.intro (YU (C:=C) (k:=k) λ QP w k => @ZbK QP w k)<|And.intro (YU (C:=C) (k:=k) λ QP w k => @Zcu QP w k)<|((by intros;apply YN;intros;apply Zbw<;>assumption):(∀ v1:Value,v1.oneCell'=true→qV Pg C (Instr.build 24 #[(1,v1)]) k=k (.agg #[.string ByteArray.empty,v1])))
def Zej {C:World→Prop} [YV C] {k:Value→Prop}:=And.intro ((by intros;apply YN;intros;apply Zcd<;>assumption):(∀ v0 v1 v2:Value,v0.oneCell'=true→v1.oneCell'=true→v2.oneCell'=true→qV Pg C (Instr.build 90 #[(0,v0),(1,v1),(2,v2)]) k=k (.agg #[v0,v1,v2])))<|((by intros;apply YN;intros;apply ZeP<;>assumption):(∀ v,qV Pg C (Instr.makeInterface 90 v) k=k (.iface 90 v)))
def Zf5 {C:World→Prop} [YV C] {k:Value→Prop}:=And.intro ((by intros;apply YN;intros;apply Zgd<;>assumption):(∀ c (a0 b0:Int) (a1 b1:Int) (a2 b2:ByteArray),qV Pg C (ZM .neq 60 c (.agg #[.int .i64 a0,.int .i64 a1,.string a2]) (.agg #[.int .i64 b0,.int .i64 b1,.string b2])) k=k (.bool (!(decide (a0=b0)&&(decide (a1=b1)&&(decide (a2=b2)&&true)))))))<|And.intro ((by intros;apply YN;intros;apply Zfr<;>assumption):(∀ c (a0 b0:ByteArray) (a1 b1:Int),qV Pg C (ZM .neq 62 c (.agg #[.string a0,.int .i64 a1]) (.agg #[.string b0,.int .i64 b1])) k=k (.bool (!(decide (a0=b0)&&(decide (a1=b1)&&true))))))<|((by intros;apply YN;intros;apply Zee<;>assumption):(∀ c (a0 b0:ByteArray) (a1 b1:ByteArray) (a2 b2:ByteArray) (a3 b3:ByteArray) (a4 b4:Int) (a5 b5:Int) (a6 b6:Int) (a7 b7:Int) (a8 b8:Int) (a9 b9:Int) (a10 b10:Int) (a11 b11:Bool) (a12 b12:Bool),qV Pg C (ZM .eql 144 c (.agg #[.string a0,.string a1,.string a2,.string a3,.int .i64 a4,.int .i64 a5,.int .i64 a6,.int .i64 a7,.int .i64 a8,.int .i64 a9,.int .i64 a10,.bool a11,.bool a12]) (.agg #[.string b0,.string b1,.string b2,.string b3,.int .i64 b4,.int .i64 b5,.int .i64 b6,.int .i64 b7,.int .i64 b8,.int .i64 b9,.int .i64 b10,.bool b11,.bool b12])) k=k (.bool (decide (a0=b0)&&(decide (a1=b1)&&(decide (a2=b2)&&(decide (a3=b3)&&(decide (a4=b4)&&(decide (a5=b5)&&(decide (a6=b6)&&(decide (a7=b7)&&(decide (a8=b8)&&(decide (a9=b9)&&(decide (a10=b10)&&(decide (a11=b11)&&(decide (a12=b12)&&true))))))))))))))))
end
def PR:=And.intro @Zb6<|And.intro @Zcx<|And.intro @ZcS<|And.intro @Zci<|And.intro @ZcI<|And.intro @GEN<|And.intro @FA<|And.intro @CTL<|And.intro @GENQ<|And.intro @o0<|And.intro @o1<|And.intro @o2<|And.intro @o3<|And.intro @o5<|And.intro @o6<|And.intro @o7<|And.intro @o8<|And.intro @o9<|And.intro @o10<|And.intro @o11<|And.intro @o12<|And.intro @o13<|And.intro @o14<|And.intro @o15<|And.intro @o16<|And.intro @o17<|And.intro @o18<|And.intro @o19<|And.intro @o20<|And.intro @o21<|And.intro @o22<|And.intro @o23<|And.intro @o24<|And.intro @o25<|And.intro @o26<|And.intro @o27<|And.intro @o28<|And.intro @o29<|And.intro @o30<|And.intro @o31<|And.intro @o32<|And.intro @o33<|And.intro @o34<|And.intro @o35<|And.intro @o36<|And.intro @o37<|And.intro @o38<|And.intro @o39<|And.intro @o40<|And.intro @o41<|And.intro @o42<|And.intro @o43<|And.intro @o44<|And.intro @o45<|And.intro @o46<|And.intro @o47<|And.intro @o48<|And.intro @o49<|And.intro @o50<|And.intro @o51<|And.intro @o52<|And.intro @o53<|And.intro @o54<|And.intro @o55<|And.intro @o56<|And.intro @o57<|And.intro @o58<|And.intro @o59<|And.intro @o60<|And.intro @o61<|And.intro @o62<|And.intro @o63<|And.intro @o64<|And.intro @o65<|And.intro @o70<|And.intro @o71<|And.intro @o72<|And.intro @o73<|And.intro @o74<|And.intro @o79<|And.intro @o80<|And.intro @o81<|And.intro @o82<|And.intro @o83<|And.intro @o84<|And.intro @o85<|And.intro @o86<|And.intro @o87<|And.intro @o88<|And.intro @o92<|And.intro @o93<|And.intro @o98<|And.intro @o99<|And.intro @Zgp<|And.intro @ZfV<|And.intro @ZfT<|And.intro @Zdb<|And.intro @ZbX<|And.intro @Zdc<|And.intro @Zc3<|And.intro @Zg1<|And.intro @Zdg<|And.intro @Zec<|And.intro @ZfU<|And.intro @Zgr<|And.intro @ZbK<|And.intro @Zcu<|And.intro @ZfJ<|And.intro @ZeT<|And.intro @ZdB<|And.intro @Zep<|And.intro @Zeh<|And.intro @ZgA<|And.intro @ZgY<|And.intro @Zdo<|And.intro @Zeb<|And.intro @Zbw<|And.intro @ZeG<|And.intro @ZdL<|And.intro @ZdJ<|And.intro @ZeB<|And.intro @ZeU<|And.intro @ZdZ<|And.intro @Zd5<|And.intro @Zfk<|And.intro @Zg3<|And.intro @Ze0<|And.intro @ZeX<|And.intro @ZgW<|And.intro @ZeW<|And.intro @Zgf<|And.intro @ZfX<|And.intro @ZdQ<|And.intro @Zgb<|And.intro @ZdV<|And.intro @Zcd<|And.intro @Zg0<|And.intro @Zg2<|And.intro @Zd6<|And.intro @ZdW<|And.intro @Ze2<|And.intro @Zgo<|And.intro @Zfo<|And.intro @Zfi<|And.intro @Zd7<|And.intro @Zgy<|And.intro @ZgS<|And.intro @ZeI<|And.intro @Zd2<|And.intro @Zfz<|And.intro @ZdY<|And.intro @Zgm<|And.intro @Zef<|And.intro @Zdp<|And.intro @ZfD<|And.intro @Zd9<|And.intro @Zet<|And.intro @ZfB<|And.intro @ZgG<|And.intro @ZeA<|And.intro @ZeE<|And.intro @ZdC<|And.intro @Zel<|And.intro @Zeu<|And.intro @ZdT<|And.intro @Zgv<|And.intro @Zdv<|And.intro @ZdP<|And.intro @Zfw<|And.intro @Ze7<|And.intro @Zen<|And.intro @ZfK<|And.intro @Zej<|And.intro @Zf5<|And.intro @joinK_eq<|And.intro @Zad<|And.intro @TW<|And.intro @Ej <| @MQ
def QR:=And.intro @Zdw<|And.intro @PH<|And.intro @DJ<|And.intro @B2<|And.intro @Fv<|And.intro @Cm<|And.intro @N8<|And.intro @I1<|And.intro @STD<|And.intro @LB<|And.intro @Lm<|And.intro @A6<|And.intro @Lq<|And.intro @Dc<|And.intro @Pi<|And.intro @NB<|And.intro @F1<|And.intro @Rw<|And.intro @Ld<|And.intro @List.setIfInBounds_toArray.{0}<|And.intro @List.set_cons_zero.{0}<|And.intro @List.set_cons_succ.{0}<|And.intro @decide_true<|And.intro @Bool.false_eq_true<|And.intro @Option.isSome_some.{0}<|And.intro @Option.isSome_none.{0}<|And.intro @Option.getD_some.{0}<|And.intro @Option.getD_none.{0}<|And.intro @BP<|And.intro @XV<|And.intro @Option.map_some.{0,0}<|And.intro @List.getElem?_toArray.{0}<|And.intro @List.getElem?_cons_succ.{0}<|And.intro @List.getElem?_cons_zero.{0}<|And.intro @Nat.zero_add<|And.intro @Nat.add_zero<|And.intro @World.size_alloc<|And.intro @World.size_setCell<|And.intro @World.size_drew<|And.intro @Bool.not_true<|And.intro @Bool.not_false<|And.intro @Bool.and_true<|And.intro @Bool.true_and<|And.intro @Bool.and_false<|And.intro @Bool.false_and<|And.intro @Bool.or_true<|And.intro @Bool.true_or<|And.intro @Bool.or_false<|And.intro @Bool.false_or <| @Bool.not_not
theorem SZ:type_of% (And.intro @World.size_alloc<|And.intro @World.size_setCell<|And.intro @World.size_drew<|And.intro @World.putObj_size <| @putW_size):=(And.intro @World.size_alloc<|And.intro @World.size_setCell<|And.intro @World.size_drew<|And.intro @World.putObj_size <| @putW_size)
theorem DI {p:Prop} (h:p:=by first | assumption | (simp only [ONE];done) | rfl | (simp only [SZ];done) | omega | (simp only [SZ] at *;omega)):p:=h
theorem ee {a b:World} (h:Ext a b:=by repeat' first | exact Ext.refl _ | assumption | apply Ext.alloc | apply Ext.wdrew | apply Ext.drew | (refine Ext.setCell ?_ (by first | omega | (simp only [SZ] at *;omega)) _) | (refine Ext.putObj ?_ (by first | omega | (simp only [SZ] at *;omega)) _) | (refine Ext.trans ?_ (by assumption))):Ext a b:=h
structure ZX where
 field:ByteArray
 factor:Int
 deriving DecidableEq
structure V0 where
 low:Int
 high:Int
 of:ByteArray
 deriving DecidableEq
structure Zm where
 name:ByteArray
 kind:Int
 bits:Int
 little:Bool
 loose:Bool
 low:Int
 high:Int
 base:Int
 terms:List ZX
 of:ByteArray
 tag:ByteArray
 fr:ByteArray
 cases:List V0
 check:Int
 key:Int
 deriving DecidableEq
structure ZD where
 name:ByteArray
 fields:List Zm
 deriving DecidableEq
structure YF where
 name:ByteArray
 msgs:List ZD
 start:ByteArray
 deriving DecidableEq
abbrev Wj (t:ZX):List Value:=[.string t.field,.int .i64 t.factor]
abbrev Ql (c:V0):List Value:=[.int .i64 c.low,.int .i64 c.high,.string c.of]
abbrev Zo (f:Zm) (tv cv:Value):List Value:=[.string f.name,.int .i64 f.kind,.int .i64 f.bits,.bool f.little,.bool f.loose,.int .i64 f.low,.int .i64 f.high,.int .i64 f.base,tv,.string f.of,.string f.tag,.string f.fr,cv,.int .i64 f.check,.int .i64 f.key]
abbrev Zx (m:ZD) (fv:Value):List Value:=[.string m.name,fv]
abbrev Zz (d:YF) (mv:Value):List Value:=[.string d.name,mv,.string d.start]
def G8 (_:World) (cs:List Value) (t:ZX):Prop:=cs=Wj t
def Ag (_:World) (cs:List Value) (c:V0):Prop:=cs=Ql c
def ZW (w:World) (v:Value) (l:List ZX):Prop:=Ze w 2 G8 v l
def Yc (w:World) (v:Value) (l:List V0):Prop:=Ze w 3 Ag v l
def W6 (w:World) (cs:List Value) (f:Zm):Prop:=∃ tv cv,cs=Zo f tv cv∧ZW w tv f.terms∧Yc w cv f.cases
def Z4 (w:World) (v:Value) (l:List Zm):Prop:=Ze w 15 W6 v l
def GZ (w:World) (cs:List Value) (m:ZD):Prop:=∃ fv,cs=Zx m fv∧Z4 w fv m.fields
def Q0 (w:World) (v:Value) (l:List ZD):Prop:=Ze w 2 GZ v l
def SF (_:World) (cs:List Value) (b:UInt8):Prop:=cs=[.int .u8 b.toNat]
def EM (_:World) (cs:List Value) (b:Bool):Prop:=cs=[.bool b]
def KQ (_:World) (cs:List Value) (s:ByteArray):Prop:=cs=[.string s]
def GS (_:World) (cs:List Value) (n:Int):Prop:=cs=[.int .i64 n]
theorem D1:jJ G8:=λ _ _ _ _ _ h=>h
theorem Ec:jJ Ag:=λ _ _ _ _ _ h=>h
theorem H1:jJ KQ:=λ _ _ _ _ _ h=>h
theorem xT:jJ GS:=λ _ _ _ _ _ h=>h
theorem zX:jJ W6:=λ _ _ _ _ e ⟨tv,cv,h,h1,h2⟩=>⟨tv,cv,h,h1.ext D1 e,h2.ext Ec e⟩
theorem Ik:jJ GZ:=λ _ _ _ _ e ⟨fv,h,h1⟩=>⟨fv,h,h1.ext zX e⟩
theorem ZW.ext {w w':World} {v:Value} {l:List ZX} (h:ZW w v l) (e:Ext w w'):ZW w' v l:=Ze.ext D1 h e
theorem Yc.ext {w w':World} {v:Value} {l:List V0} (h:Yc w v l) (e:Ext w w'):Yc w' v l:=Ze.ext Ec h e
theorem Z4.ext {w w':World} {v:Value} {l:List Zm} (h:Z4 w v l) (e:Ext w w'):Z4 w' v l:=Ze.ext zX h e
theorem Q0.ext {w w':World} {v:Value} {l:List ZD} (h:Q0 w v l) (e:Ext w w'):Q0 w' v l:=Ze.ext Ik h e
theorem W6.op {w:World} {cs:List Value} {f:Zm} (h:W6 w cs f):∃ tv cv,cs=Zo f tv cv∧ZW w tv f.terms∧Yc w cv f.cases∧tv.oneCell'=true∧cv.oneCell'=true:=by
 obtain ⟨tv,cv,h1,h2,h3⟩:=h;exact ⟨tv,cv,h1,h2,h3,Ze.oneCell h2,Ze.oneCell h3⟩
def ZV (w:World) (v:Value) (f:Zm):Prop:=∃ tv cv,v = .agg (Zo f tv cv).toArray∧ZW w tv f.terms∧Yc w cv f.cases
def Xe (w:World) (v:Value) (m:ZD):Prop:=∃ fv,v = .agg (Zx m fv).toArray∧Z4 w fv m.fields
def Yv (w:World) (v:Value) (d:YF):Prop:=∃ mv,v = .agg (Zz d mv).toArray∧Q0 w mv d.msgs
def Q6 (w:World) (v:Value) (base:Int) (ts:List ZX):Prop:=∃ tv,v = .agg #[.int .i64 base,tv]∧ZW w tv ts
def VZ (t:ZX):Value := .agg (Wj t).toArray
theorem ZV.ext {w w':World} {v:Value} {f:Zm} (h:ZV w v f) (e:Ext w w'):ZV w' v f:=by obtain ⟨tv,cv,h,h1,h2⟩:=h;exact ⟨tv,cv,h,h1.ext e,h2.ext e⟩
theorem ZV.op {w:World} {v:Value} {f:Zm} (h:ZV w v f):∃ tv cv,v = .agg (Zo f tv cv).toArray∧ZW w tv f.terms∧Yc w cv f.cases∧tv.oneCell'=true∧cv.oneCell'=true:=by
 obtain ⟨tv,cv,h1,h2,h3⟩:=h;exact ⟨tv,cv,h1,h2,h3,Ze.oneCell h2,Ze.oneCell h3⟩
theorem Xe.ext {w w':World} {v:Value} {m:ZD} (h:Xe w v m) (e:Ext w w'):Xe w' v m:=by obtain ⟨fv,h,h1⟩:=h;exact ⟨fv,h,h1.ext e⟩
theorem Yv.ext {w w':World} {v:Value} {d:YF} (h:Yv w v d) (e:Ext w w'):Yv w' v d:=by obtain ⟨fv,h,h1⟩:=h;exact ⟨fv,h,h1.ext e⟩
theorem Q6.ext {w w':World} {v:Value} {b:Int} {ts:List ZX} (h:Q6 w v b ts) (e:Ext w w'):Q6 w' v b ts:=by obtain ⟨fv,h,h1⟩:=h;exact ⟨fv,h,h1.ext e⟩
def qo {α:Type} (w0:World) (V:World→Value→α→Prop) (g:FuncId) (caps:Array Value) (p:α→Bool) (l:List α):Prop :=
 ∀ w v x,x∈l→Ext w0 w→V w v x→Ret Pg g (#[v]++caps) w λ r w'=>r = .bool (p x)∧Ext w w'
end Go.Proofs.YtfjjgjjlebllmaaGreat
namespace Go.Sw
section
variable {P:Program} {N:Nat} {ro:Option Nat} {QP:KP} {T:Env→List Deferred→World→Prop} {o:Oper} {rest:List Oper} {ρ:Env} {ds:List Deferred} {w:World}
theorem zm {v:Value} (h:ZN P N ro QP T rest (put N ρ o.dst v) ds w) (hs:execOp (ev ρ) o=Sem.pure (.value v):=by exact rfl) (hd:Y6 o.op=false:=by exact rfl):ZN P N ro QP T (o::rest) ρ ds w:=PD hd hs h
theorem zt {S:List Nat} {J G:Env→World→Prop} (hT:∀ ρ' w,Fr S ρ ρ'→J ρ' w→G ρ' w) {ρ':Env} {w:World} (h:J ρ' w) (hf:Fr S ρ ρ':=by repeat (first | exact Fr.refl _ _ | refine Fr.put rfl ?_ | refine Fr.put_none ?_ | refine Fr.mix rfl ?_ | refine Fr.skipAll rfl ?_)):G ρ' w:=hT ρ' w hf h
end
theorem zr {P:Program} {N:Nat} {ro:Option Nat} {id:Nat} {l:List Oper} {Q:K} {QP:KP} {ρ:Env} {ds:List Deferred} {w:World} (h:ZN P N ro QP (λ ρ ds w=>Q .normal ρ ds w) l ρ ds w) (hu:WF l=true:=by exact rfl):den P N ro (.region id l.toArray false) Q QP ρ ds w:=HF hu h
theorem zn:type_of% @H9 := @H9
theorem zk:type_of% @DM := @DM
theorem zs:type_of% @Iq := @Iq
end Go.Sw
namespace Go.Sw
open Go.RowKit (Below)
structure LW (B:Nat) (w w':World):Prop where
 os:w'.os=w.os
 tape:w'.tape=w.tape
 output:w'.output=w.output
 size:w.heap.size≤w'.heap.size
 block:∀ b,b < w.heap.size→w'.heap[b]?=w.heap[b]?∨(B≤b∧((∃ r,w.heap[b]?=some (.loop r))∨∃ d,w.heap[b]?=some (.deferred d)))
theorem LW.mono {B B':Nat} {w w':World} (h:LW B w w') (hb:B'≤B):LW B' w w':=⟨h.os,h.tape,h.output,h.size,λ b hl=>(h.block b hl).imp_right λ h=>⟨by omega,h.2⟩⟩
theorem LW.of {B:Nat} {w w':World} (e:Ext w w'):LW B w w':=⟨e.os,e.tape,e.output,e.size,λ b hb => .inl (e.block b hb)⟩
theorem LW.loop {B l:Nat} {w:World} {r:Loop} (hb:B≤l) (hl:w.heap[l]?=some (.loop r)) (o:Obj):LW B w (w.putObj l o):=⟨rfl,rfl,rfl,by simp,λ b _=>by
 by_cases e:b=l
 · exact .inr ⟨by omega,.inl ⟨r,by rw [e];exact hl⟩⟩
 · exact .inl (World.putObj_heap_other e)⟩
theorem LW.mark {B l:Nat} {w:World} (hb:B≤l) (hl:Z6 l w) (o:Obj):LW B w (w.putObj l o):=⟨rfl,rfl,rfl,by simp,λ b _=>by
 by_cases e:b=l
 · exact .inr ⟨by omega,.inr ⟨_,by rw [e];exact hl⟩⟩
 · exact .inl (World.putObj_heap_other e)⟩
def Y0 (B:Nat) (I:World→Prop):Prop:=∀ w w',LW B w w'→I w→I w'
theorem Y0.ext {B:Nat} {I:World→Prop} (h:Y0 B I) {w w':World} (hI:I w) (e:Ext w w'):I w':=h _ _ (.of e) hI
theorem Y0.loop {B l:Nat} {I:World→Prop} (h:Y0 B I) {w:World} {r:Loop} (hb:B≤l) (hI:I w) (hl:w.heap[l]?=some (.loop r)) (o:Obj):I (w.putObj l o):=h _ _ (.loop hb hl o) hI
theorem Y0.mark {B l:Nat} {I:World→Prop} (h:Y0 B I) {w:World} (hb:B≤l) (hI:I w) (hl:Z6 l w) (o:Obj):I (w.putObj l o):=h _ _ (.mark hb hl o) hI
theorem Y0.busied {B l:Nat} {I:World→Prop} {w w':World} (h:Y0 B I) (hb:jo l w w') (hl:B≤l) (hI:I w):I w':=by
 obtain ⟨r,hr,rfl⟩:=hb
 exact h.loop hl hI hr _
theorem Y0.mono {B B':Nat} {I:World→Prop} (h:Y0 B I) (hb:B≤B'):Y0 B' I:=λ _ _ hl=>h _ _ (hl.mono hb)
theorem Y0.and {B:Nat} {I J:World→Prop} (h:Y0 B I) (k:Y0 B J):Y0 B (λ w=>I w∧J w):=λ w w' hl hh=>⟨h _ _ hl hh.1,k _ _ hl hh.2⟩
theorem Y0.ex {B:Nat} {α:Sort _} {I:α→World→Prop} (h:∀ x,Y0 B (I x)):Y0 B (λ w=>∃ x,I x w):=λ w w' hl ⟨x,hx⟩=>⟨x,h x _ _ hl hx⟩
theorem Y0.const (B:Nat) (p:Prop):Y0 B (λ _=>p):=λ _ _ _ h=>h
theorem Y0.from {B:Nat} {w0:World} (hb:w0.heap.size≤B):Y0 B (Ext w0):=λ w w' hl e=>⟨hl.os.trans e.os,hl.tape.trans e.tape,hl.output.trans e.output,Nat.le_trans e.size hl.size,λ k hk=>by
 have:=e.size
 rcases hl.block k (by omega) with h | ⟨h,_⟩
 · rw [h];exact e.block k hk
 · omega⟩
theorem Y0.has (B:Nat) {b:Nat} {o:Obj} (h1:∀ r,o ≠ .loop r) (h2:∀ d,o ≠ .deferred d):Y0 B (λ w=>w.heap[b]?=some o):=λ w w' hl h=>by
 rcases hl.block b (Array.getElem?_eq_some_iff.1 h).1 with e | ⟨_,⟨r,e⟩ | ⟨d,e⟩⟩
 · rw [e];exact h
 · rw [h] at e;injection e with e;exact absurd e (h1 r)
 · rw [h] at e;injection e with e;exact absurd e (h2 d)
theorem Y0.low {B b:Nat} (hb:b < B) (o:Obj):Y0 B (λ w=>w.heap[b]?=some o):=λ w w' hl h=>by
 rcases hl.block b (Array.getElem?_eq_some_iff.1 h).1 with e | ⟨e,_⟩
 · rw [e];exact h
 · omega
def KR (B:Nat) (w w':World):Prop:=w.heap.size≤w'.heap.size∧(∀ (b:Nat) (r:Loop),w.heap[b]?=some (.loop r)→∃ st p,w'.heap[b]?=some (.loop { r with state:=st,pending:=p })) ∧
 (∀ (b:Nat),w.heap[b]?=some (.deferred (some []))→w'.heap[b]?=some (.deferred (some [])))∧∀ (b:Nat),B≤b→b < w.heap.size→(∀ r,w.heap[b]?≠some (.loop r))→w'.heap[b]?=w.heap[b]?
section
variable {B:Nat} {w w1 w2:World}
theorem KR.refl (B:Nat) (w:World):KR B w w:=⟨Nat.le_refl _,λ b r h=>⟨r.state,r.pending,h⟩,λ _ h=>h,λ _ _ _ _=>rfl⟩
theorem KR.trans (h:KR B w w1) (k:KR B w1 w2):KR B w w2:=⟨Nat.le_trans h.1 k.1,λ b r hb=>by
 obtain ⟨st,p,h1⟩:=h.2.1 b r hb
 obtain ⟨st',p',h2⟩:=k.2.1 b _ h1
 exact ⟨st',p',h2⟩,λ b hb=>k.2.2.1 b (h.2.2.1 b hb),λ b hb hl hr=>by
 have e:=h.2.2.2 b hb hl hr
 rw [← e];exact k.2.2.2 b hb (Nat.lt_of_lt_of_le hl h.1) (by rw [e];exact hr)⟩
theorem KR.of (e:Ext w w1):KR B w w1:=⟨e.size,λ b r h=>⟨r.state,r.pending,e.obj h⟩,λ _ h=>e.obj h,λ b _ hl _=>e.block b hl⟩
theorem KR.ext (h:KR B w w1) (e:Ext w1 w2):KR B w w2:=h.trans (.of e)
theorem KR.setCell (h:KR B w w1) (b o:Nat) (v:Value) (hb:b < B∨w.heap.size≤b):KR B w (w1.setCell ⟨b,o,none⟩ v):=⟨by simpa using h.1,λ b r hb=>by
 obtain ⟨st,p,h1⟩:=h.2.1 b r hb
 exact ⟨st,p,(KeepsOthers.setCell w1 _ v).same _ _ h1 rfl⟩,λ b hb=>(KeepsOthers.setCell w1 _ v).same _ _ (h.2.2.1 b hb) rfl,λ b' hb' hl hr=>by
 rw [A6 (by omega)];exact h.2.2.2 b' hb' hl hr⟩
theorem KR.new (h:KR B w w1) {l:Nat} (hl:w.heap.size≤l) (o:Obj):KR B w (w1.putObj l o):=⟨by simpa using h.1,λ b r hb=>by
 have:=(Array.getElem?_eq_some_iff.1 hb).1
 rw [World.putObj_heap_other (by omega)];exact h.2.1 b r hb,λ b hb=>by
 have:=(Array.getElem?_eq_some_iff.1 hb).1
 rw [World.putObj_heap_other (by omega)];exact h.2.2.1 b hb,λ b hb hl hr=>by
 rw [World.putObj_heap_other (by omega)];exact h.2.2.2 b hb hl hr⟩
theorem KR.turn {l:Nat} {r:Loop} (hl:w.heap[l]?=some (.loop r)) (st:LoopState) (p:Option Code):KR B w (w.putObj l (.loop { r with state:=st,pending:=p })):=⟨by simp,λ b r' hb=>by
 by_cases e:b=l
 · subst e
   rw [hl] at hb;injection hb with hb;injection hb with hb;subst hb
   exact ⟨st,p,World.putObj_heap_same (Array.getElem?_eq_some_iff.1 hl).1⟩
 · rw [World.putObj_heap_other e];exact ⟨r'.state,r'.pending,hb⟩,λ b hb=>by
 by_cases e:b=l
 · subst e;rw [hl] at hb;cases hb
 · rw [World.putObj_heap_other e];exact hb,λ b _ _ hr=>by
 by_cases e:b=l
 · subst e;exact absurd hl (hr _)
 · rw [World.putObj_heap_other e]⟩
theorem KR.busied {l:Nat} (h:jo l w w1):KR B w w1:=by
 obtain ⟨r,hr,rfl⟩:=h
 exact KR.turn hr .busy r.pending
end
def qJ (B:Nat) (R:World→Prop):Prop:=∀ w w',KR B w w'→R w→R w'
theorem qJ.and {B:Nat} {R S:World→Prop} (h:qJ B R) (k:qJ B S):qJ B (λ w=>R w∧S w):=λ w w' e hh=>⟨h _ _ e hh.1,k _ _ e hh.2⟩
theorem qJ.true {B:Nat}:qJ B (λ _=>True):=λ _ _ _ _=>trivial
theorem qJ.mono {B B':Nat} {R:World→Prop} (h:qJ B R) (hb:B'≤B):qJ B' R:=λ w w' e=>h w w' ⟨e.1,e.2.1,e.2.2.1,λ b hl=>e.2.2.2 b (Nat.le_trans hb hl)⟩
theorem qJ.has {B b:Nat} {o:Obj} (hb:B≤b) (ho:∀ r,o ≠ .loop r):qJ B (λ w=>w.heap[b]?=some o):=λ w w' h k=>by
 show w'.heap[b]?=some o
 rw [h.2.2.2 b hb (Array.getElem?_eq_some_iff.1 k).1 (λ r e=>by rw [k] at e;injection e with e;exact ho r e)];exact k
theorem VV {b want:Bool} {p q:Prop} (h1:b=true→Zl (.bool true) want p q) (h2:b=false→Zl (.bool false) want p q):Zl (.bool b) want p q:=by
 cases b
 · exact h2 rfl
 · exact h1 rfl
theorem We {b:Bool} {p q:Prop} (h1:b=true→p) (h2:b=false→q):Zr (.bool b) p q:=by
 cases b
 · exact h2 rfl
 · exact h1 rfl
end Go.Sw
namespace Go.Sw
section
variable {P:Program} {N:Nat} {ro:Option Nat} {QP:KP} {T:Env→List Deferred→World→Prop} {o:Oper} {rest:List Oper} {ρ:Env} {ds:List Deferred} {w:World} {ty:TypeId} {dst:Option Nat} {d:Nat} {pos:String} {after:Array Edge} {g:Option (Nat×Bool)} {QP':List PanicEntry→World→Prop} {k:Value→World→Prop}
theorem yv {s:Sem Value} (h:opV P s QP' w k) (hk:∀ v w,k v w→ZN P N ro QP T rest (put N ρ o.dst v) ds w) (hs:execOp (ev ρ) o=(do pure (.value (← s))):=by exact rfl) (hd:Y6 o.op=false:=by exact rfl) (hp:∀ ch w,QP' ch w→QP ch ρ ds w:=by first | exact λ _ _ h=>⟨rfl,h⟩ | exact λ _ _ h=>XR rfl h | exact λ _ _ h _ _=>⟨rfl,h⟩ | exact λ _ _ h=>Q2 rfl rfl h | exact λ _ _ h=>h):ZN P N ro QP T (o::rest) ρ ds w:=Jr h hd hs hp hk
theorem yu {s:Sem Unit} {k:World→Prop} (h:opU P s QP' w k) (hk:∀ w,k w→ZN P N ro QP T rest (put N ρ o.dst undef) ds w) (hs:execOp (ev ρ) o=(do s;pure .skip):=by exact rfl) (hd:Y6 o.op=false:=by exact rfl) (hp:∀ ch w,QP' ch w→QP ch ρ ds w:=by first | exact λ _ _ h=>⟨rfl,h⟩ | exact λ _ _ h=>XR rfl h | exact λ _ _ h _ _=>⟨rfl,h⟩ | exact λ _ _ h=>Q2 rfl rfl h | exact λ _ _ h=>h):ZN P N ro QP T (o::rest) ρ ds w:=MZ h hd hs hp hk
theorem yN {s:Sem Next} (h:opN P s QP' w k) (hk:∀ v w,k v w→ZN P N ro QP T rest (put N ρ o.dst v) ds w) (hs:execOp (ev ρ) o=s:=by exact rfl) (hd:Y6 o.op=false:=by exact rfl) (hp:∀ ch w,QP' ch w→QP ch ρ ds w:=by first | exact λ _ _ h=>⟨rfl,h⟩ | exact λ _ _ h=>XR rfl h | exact λ _ _ h _ _=>⟨rfl,h⟩ | exact λ _ _ h=>Q2 rfl rfl h | exact λ _ _ h=>h):ZN P N ro QP T (o::rest) ρ ds w:=Pw h hd hs hp hk
theorem yb {op:BinOp} {t:TypeId} {x y:Operand} {t2:TypeId} {c:Bool} {a b:Value} (h:opV P (ZM op t c a b) QP' w k) (hk:∀ v w',k v w'→ZN P N ro QP T rest (put N ρ (some d) v) ds w') (hc:(V2 x||V2 y)=c:=by exact rfl) (h1:ev ρ x=a:=by exact rfl) (h2:ev ρ y=b:=by exact rfl) (hp:∀ ch w,QP' ch w→QP ch ρ ds w:=by first | exact λ _ _ h=>⟨rfl,h⟩ | exact λ _ _ h=>XR rfl h | exact λ _ _ h _ _=>⟨rfl,h⟩ | exact λ _ _ h=>Q2 rfl rfl h | exact λ _ _ h=>h) :
 ZN P N ro QP T (⟨some d,.binOp op t x y t2,ty,pos,after,g⟩::rest) ρ ds w:=Ry h hc h1 h2 hp hk
theorem yc {f:FuncId} {l:List Operand} {ats:Array TypeId} {args:List Value} (h:Yq P f args.toArray QP' w k) (hf:Callable P f) (hk:∀ v w',k v w'→ZN P N ro QP T rest (put N ρ dst v) ds w') (h2:l.map (ev ρ)=args:=by exact rfl) (hp:∀ ch w,QP' ch w→QP ch ρ ds w:=by first | exact λ _ _ h=>⟨rfl,h⟩ | exact λ _ _ h=>XR rfl h | exact λ _ _ h _ _=>⟨rfl,h⟩ | exact λ _ _ h=>Q2 rfl rfl h | exact λ _ _ h=>h) :
 ZN P N ro QP T (⟨dst,.call ⟨.value (.func f),l.toArray,ats⟩,ty,pos,after,g⟩::rest) ρ ds w:=NE h hf h2 hp hk
theorem yV {fo:Operand} {l:List Operand} {ats:Array TypeId} {fv:Value} {args:List Value} (h:Qi P fv args.toArray QP' w k) (hk:∀ v w',k v w'→ZN P N ro QP T rest (put N ρ dst v) ds w') (h1:ev ρ fo=fv:=by exact rfl) (h2:l.map (ev ρ)=args:=by exact rfl) (hp:∀ ch w,QP' ch w→QP ch ρ ds w:=by first | exact λ _ _ h=>⟨rfl,h⟩ | exact λ _ _ h=>XR rfl h | exact λ _ _ h _ _=>⟨rfl,h⟩ | exact λ _ _ h=>Q2 rfl rfl h | exact λ _ _ h=>h) :
 ZN P N ro QP T (⟨dst,.call ⟨.value fo,l.toArray,ats⟩,ty,pos,after,g⟩::rest) ρ ds w:=Ba h h1 h2 hp hk
theorem yx {b:Builtin} {l:List Operand} {ats:Array TypeId} {s:Sem Value} (h:opV P s QP' w k) (hk:∀ v w',k v w'→ZN P N ro QP T rest (put N ρ (some d) v) ds w') (hs:builtin b ats ty ((l.map λ | .const _=>true | _=>false).toArray) (l.map (ev ρ)).toArray=(do pure (.value (← s))):=by exact rfl) (hp:∀ ch w,QP' ch w→QP ch ρ ds w:=by first | exact λ _ _ h=>⟨rfl,h⟩ | exact λ _ _ h=>XR rfl h | exact λ _ _ h _ _=>⟨rfl,h⟩ | exact λ _ _ h=>Q2 rfl rfl h | exact λ _ _ h=>h) :
 ZN P N ro QP T (⟨some d,.call ⟨.builtin b,l.toArray,ats⟩,ty,pos,after,g⟩::rest) ρ ds w:=DD h hs hp hk
theorem yB {t:TypeId} {ps:List (Nat×Operand)} {vs:List (Nat×Value)} (h:opV P (Instr.build t vs.toArray) QP' w k) (hk:∀ v w',k v w'→ZN P N ro QP T rest (put N ρ (some d) v) ds w') (h2:(ps.map λ (i,x)=>(i,ev ρ x))=vs:=by exact rfl) (hp:∀ ch w,QP' ch w→QP ch ρ ds w:=by first | exact λ _ _ h=>⟨rfl,h⟩ | exact λ _ _ h=>XR rfl h | exact λ _ _ h _ _=>⟨rfl,h⟩ | exact λ _ _ h=>Q2 rfl rfl h | exact λ _ _ h=>h) :
 ZN P N ro QP T (⟨some d,.build t ps.toArray,ty,pos,after,g⟩::rest) ρ ds w:=LQ h h2 hp hk
theorem yS {t:TypeId} {n:Nat} {ps:List (Nat×Operand)} {vs:List (Nat×Value)} (h:opV P (Instr.buildSlice t n vs.toArray) QP' w k) (hk:∀ v w',k v w'→ZN P N ro QP T rest (put N ρ (some d) v) ds w') (h2:(ps.map λ (i,x)=>(i,ev ρ x))=vs:=by exact rfl) (hp:∀ ch w,QP' ch w→QP ch ρ ds w:=by first | exact λ _ _ h=>⟨rfl,h⟩ | exact λ _ _ h=>XR rfl h | exact λ _ _ h _ _=>⟨rfl,h⟩ | exact λ _ _ h=>Q2 rfl rfl h | exact λ _ _ h=>h) :
 ZN P N ro QP T (⟨some d,.buildSlice t n ps.toArray,ty,pos,after,g⟩::rest) ρ ds w:=jY h h2 hp hk
theorem yF {fn:Fn} {fs cs:List Operand} {vf vs:List Value} (h:opV P (Instr.makeFunc fn vf.toArray vs.toArray) QP' w k) (hk:∀ v w',k v w'→ZN P N ro QP T rest (put N ρ (some d) v) ds w') (h1:fs.map (ev ρ)=vf:=by exact rfl) (h2:cs.map (ev ρ)=vs:=by exact rfl) (hp:∀ ch w,QP' ch w→QP ch ρ ds w:=by first | exact λ _ _ h=>⟨rfl,h⟩ | exact λ _ _ h=>XR rfl h | exact λ _ _ h _ _=>⟨rfl,h⟩ | exact λ _ _ h=>Q2 rfl rfl h | exact λ _ _ h=>h) :
 ZN P N ro QP T (⟨some d,.makeFunc fn fs.toArray cs.toArray,ty,pos,after,g⟩::rest) ρ ds w:=BN h h1 h2 hp hk
theorem yp {c a b:Operand} {vc va vb:Value} {k:Value→Prop} (h:Zu vc va vb k) (hk:∀ v,k v→ZN P N ro QP T rest (put N ρ (some d) v) ds w) (h1:ev ρ c=vc:=by exact rfl) (h2:ev ρ a=va:=by exact rfl) (h3:ev ρ b=vb:=by exact rfl):ZN P N ro QP T (⟨some d,.pick c a b,ty,pos,after,g⟩::rest) ρ ds w:=PA h h1 h2 h3 hk
theorem yt {S:List Nat} {J G:Env→World→Prop} {C:World→Prop} (hT:∀ ρ' w,Fr S ρ ρ'→C w→J ρ' w→G ρ' w) {ρ':Env} {w:World} (hC:C w) (h:J ρ' w) (hf:Fr S ρ ρ':=by repeat (first | exact Fr.refl _ _ | refine Fr.put rfl ?_ | refine Fr.put_none ?_ | refine Fr.mix rfl ?_ | refine Fr.skipAll rfl ?_)):G ρ' w:=hT ρ' w hf hC h
end
section
variable {P:Program} {N:Nat} {ro:Option Nat} {ops:Array Oper} {Q:Env→List Deferred→World→Prop} {QP0:List PanicEntry→List Deferred→World→Prop} {QP:KP} {C:World→Prop} {fuel:Nat} {done:List Nat} {o:Oper} {ρ:Env} {ds:List Deferred} {w:World}
theorem ye (i:Nat) {k:Value→Prop} (hC:C w) {s:Sem Value} (h:qV P C s k) (hk:∀ v,k v→Xs P N ro ops Q (λ ch _ ds w=>QP0 ch ds w) C fuel (i::done) (put N ρ o.dst v) ds w) (hi:ops[i]?=some o:=by exact rfl) (hr:(Ys ops done).contains i=true:=by kernel_rfl) (hf:GP ops done i=true:=by kernel_rfl) (hg:∀ p q,YP ops o ρ p q=p:=by first | exact λ _ _=>rfl | exact λ _ _=>YO (by assumption)) (hd:Y6 o.op=false:=by exact rfl) (hs:∀ v,(∀ w,C w→s.run P w = .ok v w)→∀ w,C w→(execOp (ev ρ) o).run P w = .ok (.value v) w:=by first | exact λ _ h=>jl rfl h | exact λ _ h=>T4 rfl rfl rfl h | exact λ _ h=>Hc rfl h | exact λ _ h=>NC rfl h | exact λ _ h=>Eo rfl rfl h) :
 Xs P N ro ops Q (λ ch _ ds w=>QP0 ch ds w) C (fuel+1) done ρ ds w:=let ⟨v,hv,hkv⟩:=h;V3 i hC hi hr hf hg hd (hs v hv) (hk v hkv)
theorem yn (i:Nat) {k:Value→Prop} (hC:C w) {s:Sem Next} (h:qN P C s k) (hk:∀ v,k v→Xs P N ro ops Q (λ ch _ ds w=>QP0 ch ds w) C fuel (i::done) (put N ρ o.dst v) ds w) (hi:ops[i]?=some o:=by exact rfl) (hr:(Ys ops done).contains i=true:=by kernel_rfl) (hf:GP ops done i=true:=by kernel_rfl) (hg:∀ p q,YP ops o ρ p q=p:=by first | exact λ _ _=>rfl | exact λ _ _=>YO (by assumption)) (hd:Y6 o.op=false:=by exact rfl) (hs:execOp (ev ρ) o=s:=by exact rfl) :
 Xs P N ro ops Q (λ ch _ ds w=>QP0 ch ds w) C (fuel+1) done ρ ds w:=let ⟨v,hv,hkv⟩:=h;V3 i hC hi hr hf hg hd (ZaB hs hv) (hk v hkv)
theorem yw (i:Nat) {v:Value} (hC:C w) (h:Xs P N ro ops Q (λ ch _ ds w=>QP0 ch ds w) C fuel (i::done) (put N ρ o.dst v) ds w) (hi:ops[i]?=some o:=by exact rfl) (hr:(Ys ops done).contains i=true:=by kernel_rfl) (hf:GP ops done i=true:=by kernel_rfl) (hg:∀ p q,YP ops o ρ p q=p:=by first | exact λ _ _=>rfl | exact λ _ _=>YO (by assumption)) (hd:Y6 o.op=false:=by exact rfl) (hs:execOp (ev ρ) o=Sem.pure (.value v):=by exact rfl) :
 Xs P N ro ops Q (λ ch _ ds w=>QP0 ch ds w) C (fuel+1) done ρ ds w:=V3 i hC hi hr hf hg hd (Pd hs) h
theorem yi (i:Nat) (hC:C w) (h:Xs P N ro ops Q (λ ch _ ds w=>QP0 ch ds w) C fuel (i::done) (put N ρ o.dst undef) ds w) (hi:ops[i]?=some o:=by exact rfl) (hr:(Ys ops done).contains i=true:=by kernel_rfl) (hf:GP ops done i=true:=by kernel_rfl) (hg:∀ p q,YP ops o ρ p q=q:=by exact λ _ _=>QH (by assumption)) :
 Xs P N ro ops Q (λ ch _ ds w=>QP0 ch ds w) C (fuel+1) done ρ ds w:=Ml i hC hi hr hf hg h
theorem yP (i:Nat) {c a b:Operand} {d:Nat} {ty:TypeId} {pos:String} {after:Array Edge} {g:Option (Nat×Bool)} {vc va vb:Value} {k:Value→Prop} (hC:C w) (h:Zu vc va vb k) (hk:∀ v,k v→Xs P N ro ops Q (λ ch _ ds w=>QP0 ch ds w) C fuel (i::done) (put N ρ (some d) v) ds w) (hi:ops[i]?=some ⟨some d,.pick c a b,ty,pos,after,g⟩:=by exact rfl) (hr:(Ys ops done).contains i=true:=by kernel_rfl) (hf:GP ops done i=true:=by kernel_rfl) (hg:∀ p q,YP ops ⟨some d,.pick c a b,ty,pos,after,g⟩ ρ p q=p:=by first | exact λ _ _=>rfl | exact λ _ _=>YO (by assumption)) (h1:ev ρ c=vc:=by exact rfl) (h2:ev ρ a=va:=by exact rfl) (h3:ev ρ b=vb:=by exact rfl) :
 Xs P N ro ops Q (λ ch _ ds w=>QP0 ch ds w) C (fuel+1) done ρ ds w:=by
 obtain ⟨t,ht,h⟩:=Fl h
 exact V3 i hC hi hr hf hg rfl (NQ (h1.trans ht) h2 h3) (hk _ h)
theorem yo (i:Nat) (h:ZN P N ro QP (λ ρ ds w=>C w∧Xs P N ro ops Q QP C fuel (i::done) ρ ds w) [o] ρ ds w) (hi:ops[i]?=some o:=by exact rfl) (hr:Ys ops done=[i]:=by kernel_rfl) (hg:∀ p q,YP ops o ρ p q=p:=by first | exact λ _ _=>rfl | exact λ _ _=>YO (by assumption)):Xs P N ro ops Q QP C (fuel+1) done ρ ds w:=Lj i hi hr hg h
theorem yr (i:Nat) (h:ZN P N ro QP (λ ρ ds w=>∃ C':World→Prop,(∀ x,C' x→C x)∧C' w∧Xs P N ro ops Q QP C' fuel (i::done) ρ ds w) [o] ρ ds w) (hi:ops[i]?=some o:=by exact rfl) (hr:Ys ops done=[i]:=by kernel_rfl) (hg:∀ p q,YP ops o ρ p q=p:=by first | exact λ _ _=>rfl | exact λ _ _=>YO (by assumption)):Xs P N ro ops Q QP C (fuel+1) done ρ ds w:=Di i hi hr hg h
theorem yq (i n:Nat) (h:ZN P N ro QP (λ ρ ds w=>∃ C':World→Prop,C' w∧Xs P N ro ops Q QP C' fuel (i::done) ρ ds w) [o] ρ ds w) (hi:ops[i]?=some o:=by exact rfl) (hr:Ys ops done=[i]:=by kernel_rfl) (hm:Vc ops n done i=true:=by kernel_rfl) (hg:∀ p q,YP ops o ρ p q=p:=by first | exact λ _ _=>rfl | exact λ _ _=>YO (by assumption)):Xs P N ro ops Q QP C (fuel+1) done ρ ds w:=LU i n hi hr hm hg h
theorem yz (h:Q ρ ds w) (hr:Ys ops done=[]:=by kernel_rfl):Xs P N ro ops Q QP C fuel done ρ ds w:=Ny hr h
theorem yh (S:List Nat) {id:Nat} {l:List Oper} {Q:K} {f:(World→Prop)→World→Prop} (h:Yp w f) (hk:∀ C:World→Prop,C (drew w)→f C (drew w)→Xs P N ro l.toArray (Q .normal) (λ ch _ ds w=>∀ ρ',Fr S ρ ρ'→QP ch ρ' ds w) C l.length [] ρ ds (drew w)) (hm:P.follows .mixedOrders=true:=by kernel_rfl) (hS:l.all (λ o=>match o.dst with | some d=>S.contains d | none=>true)=true:=by kernel_rfl):den P N ro (.region id l.toArray true) Q QP ρ ds w:=let ⟨C,hC,hf⟩:=h;NO S hm hS C (hk C hC hf)
theorem yj1 (fuel':Nat) (done' S:List Nat) (x0:Nat) {K0:Value→World→Prop} {A B:(Value→World→Prop)→Prop} {v:Value} {want:Bool} (h:Zq K0 λ K=>Zl v want (A K) (B K))
 (h1:∀ K:Value→World→Prop,(∀ ρ' w,Fr S ρ ρ'→C w→K (ρ' x0) w→Xs P N ro ops Q QP C fuel' done' ρ' ds w)→Xj v=some want→A K→Xs P N ro ops Q QP C fuel done ρ ds w) (h2:∀ K:Value→World→Prop,(∀ ρ' w,Fr S ρ ρ'→C w→K (ρ' x0) w→Xs P N ro ops Q QP C fuel' done' ρ' ds w)→Xj v≠some want→B K→Xs P N ro ops Q QP C fuel done ρ ds w)
 (hJ:∀ σ w,C w→K0 (σ x0) w→Xs P N ro ops Q QP C fuel' done' (mix S ρ σ) ds w):Xs P N ro ops Q QP C fuel done ρ ds w :=
 LH fuel' done' S (λ ρ w=>K0 (ρ x0) w) (λ _ hT=>(Ck h).elim (λ h=>h1 K0 hT h.1 h.2) (λ h=>h2 K0 hT h.1 h.2)) hJ
end
section
variable {P:Program} {N:Nat} {ro:Option Nat} {c:Code} {Q:K} {QP:KP} {ρ:Env} {ds:List Deferred} {w:World}
theorem yl1 (W:List Nat) (x0:Nat) {body:Value→World→(Value→World→Prop)→Prop} {a0:Value} (h:Yi body a0 w) (hr:∀ σ w (k:Value→World→Prop),body (σ x0) w k→den P N ro c (Qv (λ ρ' ds' w'=>ds'=ds∧k (ρ' x0) w') Q) QP (mix W ρ σ) ds w) (hW:((Xi c).all (W.contains ·)&&W.all ((Xi c).contains ·))=true:=by kernel_rfl) (h0:ρ x0=a0:=by exact rfl):den P N ro (.loop c) Q QP ρ ds w:=by
 obtain ⟨I,μ,hi,hb⟩:=h
 subst h0
 exact jU W hW (λ ρ w=>I (ρ x0) w) (λ ρ w=>μ (ρ x0) w) hi λ σ w hI=>hr σ w _ (hb _ _ hI)
theorem yL1 (W:List Nat) (x0:Nat) {body:List Deferred→Value→World→(List Deferred→Value→World→Prop)→Prop} {a0:Value} (h:Fm body ds a0 w) (hr:∀ σ ds w (k:List Deferred→Value→World→Prop),body ds (σ x0) w k→den P N ro c (Qv (λ ρ' ds' w'=>k ds' (ρ' x0) w') Q) QP (mix W ρ σ) ds w) (hW:((Xi c).all (W.contains ·)&&W.all ((Xi c).contains ·))=true:=by kernel_rfl) (h0:ρ x0=a0:=by exact rfl):den P N ro (.loop c) Q QP ρ ds w:=by
 obtain ⟨I,μ,hi,hb⟩:=h
 subst h0
 exact Mn W hW (λ ρ ds w=>I ds (ρ x0) w) (λ ρ w=>μ (ρ x0) w) hi λ σ ds w hI=>hr σ ds w _ (hb _ _ _ hI)
theorem yl2 (W:List Nat) (x0 x1:Nat) {body:Value→Value→World→(Value→Value→World→Prop)→Prop} {a0 a1:Value} (h:XP body a0 a1 w) (hr:∀ σ w (k:Value→Value→World→Prop),body (σ x0) (σ x1) w k→den P N ro c (Qv (λ ρ' ds' w'=>ds'=ds∧k (ρ' x0) (ρ' x1) w') Q) QP (mix W ρ σ) ds w) (hW:((Xi c).all (W.contains ·)&&W.all ((Xi c).contains ·))=true:=by kernel_rfl) (h0:ρ x0=a0:=by exact rfl) (h1:ρ x1=a1:=by exact rfl):den P N ro (.loop c) Q QP ρ ds w:=by
 obtain ⟨I,μ,hi,hb⟩:=h
 subst h0 h1
 exact jU W hW (λ ρ w=>I (ρ x0) (ρ x1) w) (λ ρ w=>μ (ρ x0) (ρ x1) w) hi λ σ w hI=>hr σ w _ (hb _ _ _ hI)
theorem yl3 (W:List Nat) (x0 x1 x2:Nat) {body:Value→Value→Value→World→(Value→Value→Value→World→Prop)→Prop} {a0 a1 a2:Value} (h:ER body a0 a1 a2 w) (hr:∀ σ w (k:Value→Value→Value→World→Prop),body (σ x0) (σ x1) (σ x2) w k→den P N ro c (Qv (λ ρ' ds' w'=>ds'=ds∧k (ρ' x0) (ρ' x1) (ρ' x2) w') Q) QP (mix W ρ σ) ds w) (hW:((Xi c).all (W.contains ·)&&W.all ((Xi c).contains ·))=true:=by kernel_rfl) (h0:ρ x0=a0:=by exact rfl) (h1:ρ x1=a1:=by exact rfl) (h2:ρ x2=a2:=by exact rfl):den P N ro (.loop c) Q QP ρ ds w:=by
 obtain ⟨I,μ,hi,hb⟩:=h
 subst h0 h1 h2
 exact jU W hW (λ ρ w=>I (ρ x0) (ρ x1) (ρ x2) w) (λ ρ w=>μ (ρ x0) (ρ x1) (ρ x2) w) hi λ σ w hI=>hr σ w _ (hb _ _ _ _ hI)
theorem yJ0 (S:List Nat) {K0:World→Prop} {f:(World→Prop)→Prop} (h:Zq K0 f) (hc:∀ (K:World→Prop) (k':Env→List Deferred→World→Prop),(∀ ρ' w,Fr S ρ ρ'→K w→k' ρ' ds w)→f K→den P N ro c (Qv k' Q) QP ρ ds w) (hJ:∀ σ w,K0 w→Q .normal (mix S ρ σ) ds w):den P N ro c Q QP ρ ds w :=
 Bx S (λ ρ w=>K0 w) (λ k' hk=>hc K0 k' hk h) hJ
theorem yJ1 (S:List Nat) (x0:Nat) {K0:Value→World→Prop} {f:(Value→World→Prop)→Prop} (h:Zq K0 f) (hc:∀ (K:Value→World→Prop) (k':Env→List Deferred→World→Prop),(∀ ρ' w,Fr S ρ ρ'→K (ρ' x0) w→k' ρ' ds w)→f K→den P N ro c (Qv k' Q) QP ρ ds w) (hJ:∀ σ w,K0 (σ x0) w→Q .normal (mix S ρ σ) ds w):den P N ro c Q QP ρ ds w :=
 Bx S (λ ρ w=>K0 (ρ x0) w) (λ k' hk=>hc K0 k' hk h) hJ
theorem yC {x:Operand} {A B:Code} {v:Value} {p q:Prop} (h:Zr v p q) (hp:p→den P N ro A Q QP ρ ds w) (hq:q→den P N ro B Q QP ρ ds w) (hv:ev ρ x=v:=by exact rfl):den P N ro (.cond x A B) Q QP ρ ds w:=Nk h hv hp hq
theorem yG (n:Nat) {ops:Array Oper} {l:List Oper} (h:ZN P N ro QP (λ ρ ds w=>Yb P N ro ops Q QP (l.drop n) none ρ ds w) (l.take n) ρ ds w) (hu:WF (l.take n)=true:=by exact rfl):Yb P N ro ops Q QP l none ρ ds w:=Ru n hu h
theorem yg1 (n j:Nat) (want:Bool) (S:List Nat) (x0:Nat) {ops:Array Oper} {l:List Oper} {K0:Value→World→Prop} {A:(Value→World→Prop)→Prop} {v:Value} {u0:Value} (h:Zq K0 λ K=>Zl v want (A K) (K u0 w))
 (hc:∀ (K:Value→World→Prop) (T:Env→List Deferred→World→Prop),(∀ ρ' w,Fr S ρ ρ'→K (ρ' x0) w→T ρ' ds w)→A K→ZN P N ro QP T (l.take n) ρ ds w) (hJ:∀ σ w,K0 (σ x0) w→Yb P N ro ops Q QP (l.drop n) none (mix S ρ σ) ds w) (hok:DP ops j want (l.take n) (l.drop n)=true:=by exact rfl) (hv:X4 ops ρ j=v:=by exact rfl) (hf:Fr S ρ (skipAll N (l.take n) ρ):=by exact Fr.skipAll rfl (Fr.refl _ _)) (hu0:skipAll N (l.take n) ρ x0=u0:=by exact rfl):Yb P N ro ops Q QP l none ρ ds w:=by
 subst hu0;exact FC n j want S (λ ρ w=>K0 (ρ x0) w) hok hv (λ T hT=>VT h (hc K0 T hT) λ h=>hT _ _ hf h) hJ
end
section
variable {P:Program} {f:FuncId} {fn:Func} {c:Code} {args:List Value} {w:World} {R:RT}
theorem yD (hf:P.funcs[f]?=some fn) (h:den P fn.ntmps none c (Uq P fn R) (zM R) (qu args) [] w) (hb:fn.body=some c:=by exact rfl) (hn:args.length≤fn.ntmps:=by exact Nat.le_of_ble_eq_true rfl):Calls P f args.toArray w R:=B5 hf hb hn h
theorem yE (hf:P.funcs[f]?=some fn) (h:den P fn.ntmps none c (qe P fn R) (xR P fn R) (qu args) [] w) (hb:fn.body=some c:=by exact rfl) (hn:args.length≤fn.ntmps:=by exact Nat.le_of_ble_eq_true rfl):Calls P f args.toArray w R:=Al hf hb hn h
end
end Go.Sw
namespace Go.Proofs.YtfjjgjjlebllmaaGreat
open Sw
theorem c3:Sw.Callable Pg 3:=⟨_,Tryz.func3,by kernel_rfl,rfl⟩
theorem c4:Sw.Callable Pg 4:=⟨_,Tryz.func4,by kernel_rfl,rfl⟩
theorem c5:Sw.Callable Pg 5:=⟨_,Tryz.func5,by kernel_rfl,rfl⟩
theorem c6:Sw.Callable Pg 6:=⟨_,Tryz.func6,by kernel_rfl,rfl⟩
theorem c7:Sw.Callable Pg 7:=⟨_,Tryz.func7,by kernel_rfl,rfl⟩
theorem c8:Sw.Callable Pg 8:=⟨_,Tryz.func8,by kernel_rfl,rfl⟩
theorem c9:Sw.Callable Pg 9:=⟨_,Tryz.func9,by kernel_rfl,rfl⟩
theorem c10:Sw.Callable Pg 10:=⟨_,Tryz.func10,by kernel_rfl,rfl⟩
theorem c11:Sw.Callable Pg 11:=⟨_,Tryz.func11,by kernel_rfl,rfl⟩
theorem c12:Sw.Callable Pg 12:=⟨_,Tryz.func12,by kernel_rfl,rfl⟩
theorem c13:Sw.Callable Pg 13:=⟨_,Tryz.func13,by kernel_rfl,rfl⟩
theorem c14:Sw.Callable Pg 14:=⟨_,Tryz.func14,by kernel_rfl,rfl⟩
theorem c15:Sw.Callable Pg 15:=⟨_,Tryz.func15,by kernel_rfl,rfl⟩
theorem c18:Sw.Callable Pg 18:=⟨_,Tryz.func18,by kernel_rfl,rfl⟩
theorem c19:Sw.Callable Pg 19:=⟨_,Tryz.func19,by kernel_rfl,rfl⟩
theorem c20:Sw.Callable Pg 20:=⟨_,Tryz.func20,by kernel_rfl,rfl⟩
theorem c21:Sw.Callable Pg 21:=⟨_,Tryz.func21,by kernel_rfl,rfl⟩
theorem c22:Sw.Callable Pg 22:=⟨_,Tryz.func22,by kernel_rfl,rfl⟩
theorem c23:Sw.Callable Pg 23:=⟨_,Tryz.func23,by kernel_rfl,rfl⟩
theorem c24:Sw.Callable Pg 24:=⟨_,Tryz.func24,by kernel_rfl,rfl⟩
theorem c26:Sw.Callable Pg 26:=⟨_,Tryz.func26,by kernel_rfl,rfl⟩
theorem c27:Sw.Callable Pg 27:=⟨_,Tryz.func27,by kernel_rfl,rfl⟩
theorem c28:Sw.Callable Pg 28:=⟨_,Tryz.func28,by kernel_rfl,rfl⟩
theorem c29:Sw.Callable Pg 29:=⟨_,Tryz.func29,by kernel_rfl,rfl⟩
theorem c31:Sw.Callable Pg 31:=⟨_,Tryz.func31,by kernel_rfl,rfl⟩
theorem c32:Sw.Callable Pg 32:=⟨_,Tryz.func32,by kernel_rfl,rfl⟩
theorem c38:Sw.Callable Pg 38:=⟨_,Tryz.func38,by kernel_rfl,rfl⟩
theorem c39:Sw.Callable Pg 39:=⟨_,Tryz.func39,by kernel_rfl,rfl⟩
theorem c40:Sw.Callable Pg 40:=⟨_,Tryz.func40,by kernel_rfl,rfl⟩
theorem c41:Sw.Callable Pg 41:=⟨_,Tryz.func41,by kernel_rfl,rfl⟩
theorem c42:Sw.Callable Pg 42:=⟨_,Tryz.func42,by kernel_rfl,rfl⟩
theorem c43:Sw.Callable Pg 43:=⟨_,Tryz.func43,by kernel_rfl,rfl⟩
theorem c45:Sw.Callable Pg 45:=⟨_,Tryz.func45,by kernel_rfl,rfl⟩
theorem c47:Sw.Callable Pg 47:=⟨_,Tryz.func47,by kernel_rfl,rfl⟩
theorem c48:Sw.Callable Pg 48:=⟨_,Tryz.func48,by kernel_rfl,rfl⟩
theorem c49:Sw.Callable Pg 49:=⟨_,Tryz.func49,by kernel_rfl,rfl⟩
theorem c50:Sw.Callable Pg 50:=⟨_,Tryz.func50,by kernel_rfl,rfl⟩
theorem c51:Sw.Callable Pg 51:=⟨_,Tryz.func51,by kernel_rfl,rfl⟩
theorem c52:Sw.Callable Pg 52:=⟨_,Tryz.func52,by kernel_rfl,rfl⟩
theorem c53:Sw.Callable Pg 53:=⟨_,Tryz.func53,by kernel_rfl,rfl⟩
theorem c54:Sw.Callable Pg 54:=⟨_,Tryz.func54,by kernel_rfl,rfl⟩
theorem c55:Sw.Callable Pg 55:=⟨_,Tryz.func55,by kernel_rfl,rfl⟩
theorem c56:Sw.Callable Pg 56:=⟨_,Tryz.func56,by kernel_rfl,rfl⟩
theorem c57:Sw.Callable Pg 57:=⟨_,Tryz.func57,by kernel_rfl,rfl⟩
theorem c58:Sw.Callable Pg 58:=⟨_,Tryz.func58,by kernel_rfl,rfl⟩
theorem c59:Sw.Callable Pg 59:=⟨_,Tryz.func59,by kernel_rfl,rfl⟩
theorem c60:Sw.Callable Pg 60:=⟨_,Tryz.func60,by kernel_rfl,rfl⟩
theorem c61:Sw.Callable Pg 61:=⟨_,Tryz.func61,by kernel_rfl,rfl⟩
theorem c62:Sw.Callable Pg 62:=⟨_,Tryz.func62,by kernel_rfl,rfl⟩
theorem c66:Sw.Callable Pg 66:=⟨_,Tryz.func66,by kernel_rfl,rfl⟩
theorem c67:Sw.Callable Pg 67:=⟨_,Tryz.func67,by kernel_rfl,rfl⟩
theorem c68:Sw.Callable Pg 68:=⟨_,Tryz.func68,by kernel_rfl,rfl⟩
theorem c69:Sw.Callable Pg 69:=⟨_,Tryz.func69,by kernel_rfl,rfl⟩
theorem c70:Sw.Callable Pg 70:=⟨_,Tryz.func70,by kernel_rfl,rfl⟩
theorem c81:Sw.Callable Pg 81:=⟨_,Tryz.func81,by kernel_rfl,rfl⟩
theorem c82:Sw.Callable Pg 82:=⟨_,Tryz.func82,by kernel_rfl,rfl⟩
theorem c83:Sw.Callable Pg 83:=⟨_,Tryz.func83,by kernel_rfl,rfl⟩
theorem c84:Sw.Callable Pg 84:=⟨_,Tryz.func84,by kernel_rfl,rfl⟩
theorem c85:Sw.Callable Pg 85:=⟨_,Tryz.func85,by kernel_rfl,rfl⟩
theorem c86:Sw.Callable Pg 86:=⟨_,Tryz.func86,by kernel_rfl,rfl⟩
theorem c87:Sw.Callable Pg 87:=⟨_,Tryz.func87,by kernel_rfl,rfl⟩
theorem c88:Sw.Callable Pg 88:=⟨_,Tryz.func88,by kernel_rfl,rfl⟩
theorem c89:Sw.Callable Pg 89:=⟨_,Tryz.func89,by kernel_rfl,rfl⟩
theorem c90:Sw.Callable Pg 90:=⟨_,Tryz.func90,by kernel_rfl,rfl⟩
theorem c91:Sw.Callable Pg 91:=⟨_,Tryz.func91,by kernel_rfl,rfl⟩
theorem c92:Sw.Callable Pg 92:=⟨_,Tryz.func92,by kernel_rfl,rfl⟩
theorem c93:Sw.Callable Pg 93:=⟨_,Tryz.func93,by kernel_rfl,rfl⟩
theorem c94:Sw.Callable Pg 94:=⟨_,Tryz.func94,by kernel_rfl,rfl⟩
theorem c95:Sw.Callable Pg 95:=⟨_,Tryz.func95,by kernel_rfl,rfl⟩
theorem c96:Sw.Callable Pg 96:=⟨_,Tryz.func96,by kernel_rfl,rfl⟩
theorem c97:Sw.Callable Pg 97:=⟨_,Tryz.func97,by kernel_rfl,rfl⟩
theorem c98:Sw.Callable Pg 98:=⟨_,Tryz.func98,by kernel_rfl,rfl⟩
theorem Zfj:Sw.Callable Pg 110:=⟨_,Tryz.func110,by kernel_rfl,rfl⟩
theorem ZdF:Sw.Callable Pg 111:=⟨_,Tryz.func111,by kernel_rfl,rfl⟩
theorem Zd3:Sw.Callable Pg 112:=⟨_,Tryz.func112,by kernel_rfl,rfl⟩
theorem ZfS:Sw.Callable Pg 113:=⟨_,Tryz.func113,by kernel_rfl,rfl⟩
theorem Zfe:Sw.Callable Pg 114:=⟨_,Tryz.func114,by kernel_rfl,rfl⟩
theorem ZaR:Sw.Callable Pg 117:=⟨_,Tryz.func117,by kernel_rfl,rfl⟩
theorem Zew:Sw.Callable Pg 118:=⟨_,Tryz.func118,by kernel_rfl,rfl⟩
theorem ZgP:Sw.Callable Pg 119:=⟨_,Tryz.func119,by kernel_rfl,rfl⟩
theorem Zei:Sw.Callable Pg 120:=⟨_,Tryz.func120,by kernel_rfl,rfl⟩
theorem ZcW:Sw.Callable Pg 121:=⟨_,Tryz.func121,by kernel_rfl,rfl⟩
theorem VQ:Sw.Callable Pg 122:=⟨_,Tryz.func122,by kernel_rfl,rfl⟩
theorem PT:Sw.Callable Pg 123:=⟨_,Tryz.func123,by kernel_rfl,rfl⟩
theorem ZdM:Sw.Callable Pg 124:=⟨_,Tryz.func124,by kernel_rfl,rfl⟩
theorem ZeF:Sw.Callable Pg 130:=⟨_,Tryz.func130,by kernel_rfl,rfl⟩
theorem Za0:Sw.Callable Pg 134:=⟨_,Tryz.func134,by kernel_rfl,rfl⟩
theorem ZgT:Sw.Callable Pg 146:=⟨_,Tryz.func146,by kernel_rfl,rfl⟩
theorem xO:Sw.Callable Pg 147:=⟨_,Tryz.func147,by kernel_rfl,rfl⟩
theorem ZgJ:Sw.Callable Pg 148:=⟨_,Tryz.func148,by kernel_rfl,rfl⟩
theorem ZfC:Sw.Callable Pg 149:=⟨_,Tryz.func149,by kernel_rfl,rfl⟩
theorem TR:Sw.Callable Pg 150:=⟨_,Tryz.func150,by kernel_rfl,rfl⟩
theorem ZgE:Sw.Callable Pg 151:=⟨_,Tryz.func151,by kernel_rfl,rfl⟩
theorem ZbD:Sw.Callable Pg 152:=⟨_,Tryz.func152,by kernel_rfl,rfl⟩
theorem ZfA:Sw.Callable Pg 153:=⟨_,Tryz.func153,by kernel_rfl,rfl⟩
theorem Ze6:Sw.Callable Pg 154:=⟨_,Tryz.func154,by kernel_rfl,rfl⟩
theorem Zex:Sw.Callable Pg 155:=⟨_,Tryz.func155,by kernel_rfl,rfl⟩
theorem Zck:Sw.Callable Pg 156:=⟨_,Tryz.func156,by kernel_rfl,rfl⟩
theorem Zfv:Sw.Callable Pg 157:=⟨_,Tryz.func157,by kernel_rfl,rfl⟩
theorem Rh:Sw.Callable Pg 158:=⟨_,Tryz.func158,by kernel_rfl,rfl⟩
theorem ZfZ:Sw.Callable Pg 159:=⟨_,Tryz.func159,by kernel_rfl,rfl⟩
theorem Zga:Sw.Callable Pg 160:=⟨_,Tryz.func160,by kernel_rfl,rfl⟩
theorem Zbo:Sw.Callable Pg 174:=⟨_,Tryz.func174,by kernel_rfl,rfl⟩
theorem Zc4:Sw.Callable Pg 175:=⟨_,Tryz.func175,by kernel_rfl,rfl⟩
theorem Zfq:Sw.Callable Pg 182:=⟨_,Tryz.func182,by kernel_rfl,rfl⟩
theorem Zem:Sw.Callable Pg 183:=⟨_,Tryz.func183,by kernel_rfl,rfl⟩
theorem Mg:Sw.Callable Pg 184:=⟨_,Tryz.func184,by kernel_rfl,rfl⟩
theorem ZaM:Sw.Callable Pg 185:=⟨_,Tryz.func185,by kernel_rfl,rfl⟩
theorem Zbh:Sw.Callable Pg 190:=⟨_,Tryz.func190,by kernel_rfl,rfl⟩
theorem Zfx:Sw.Callable Pg 192:=⟨_,Tryz.func192,by kernel_rfl,rfl⟩
theorem ZfM:Sw.Callable Pg 193:=⟨_,Tryz.func193,by kernel_rfl,rfl⟩
theorem ZdN:Sw.Callable Pg 194:=⟨_,Tryz.func194,by kernel_rfl,rfl⟩
theorem Zbd:Sw.Callable Pg 195:=⟨_,Tryz.func195,by kernel_rfl,rfl⟩
theorem CH:Sw.Callable Pg 196:=⟨_,Tryz.func196,by kernel_rfl,rfl⟩
theorem ZgL:Sw.Callable Pg 197:=⟨_,Tryz.func197,by kernel_rfl,rfl⟩
theorem ZgF:Sw.Callable Pg 198:=⟨_,Tryz.func198,by kernel_rfl,rfl⟩
theorem ZfG:Sw.Callable Pg 199:=⟨_,Tryz.func199,by kernel_rfl,rfl⟩
theorem Zgc:Sw.Callable Pg 200:=⟨_,Tryz.func200,by kernel_rfl,rfl⟩
theorem Zgz:Sw.Callable Pg 201:=⟨_,Tryz.func201,by kernel_rfl,rfl⟩
theorem Zal:Sw.Callable Pg 202:=⟨_,Tryz.func202,by kernel_rfl,rfl⟩
theorem Zez:Sw.Callable Pg 203:=⟨_,Tryz.func203,by kernel_rfl,rfl⟩
theorem Zds:Sw.Callable Pg 204:=⟨_,Tryz.func204,by kernel_rfl,rfl⟩
theorem ZgK:Sw.Callable Pg 205:=⟨_,Tryz.func205,by kernel_rfl,rfl⟩
theorem Zgw:Sw.Callable Pg 206:=⟨_,Tryz.func206,by kernel_rfl,rfl⟩
theorem Zd1:Sw.Callable Pg 207:=⟨_,Tryz.func207,by kernel_rfl,rfl⟩
theorem Zfm:Sw.Callable Pg 208:=⟨_,Tryz.func208,by kernel_rfl,rfl⟩
theorem T0:Sw.Callable Pg 209:=⟨_,Tryz.func209,by kernel_rfl,rfl⟩
theorem ZeN:Sw.Callable Pg 210:=⟨_,Tryz.func210,by kernel_rfl,rfl⟩
theorem Zek:Sw.Callable Pg 211:=⟨_,Tryz.func211,by kernel_rfl,rfl⟩
theorem Zgu:Sw.Callable Pg 212:=⟨_,Tryz.func212,by kernel_rfl,rfl⟩
theorem Ze5:Sw.Callable Pg 213:=⟨_,Tryz.func213,by kernel_rfl,rfl⟩
theorem Zdm:Sw.Callable Pg 214:=⟨_,Tryz.func214,by kernel_rfl,rfl⟩
theorem Zf3:Sw.Callable Pg 215:=⟨_,Tryz.func215,by kernel_rfl,rfl⟩
theorem Zge:Sw.Callable Pg 216:=⟨_,Tryz.func216,by kernel_rfl,rfl⟩
theorem ZeS:Sw.Callable Pg 217:=⟨_,Tryz.func217,by kernel_rfl,rfl⟩
theorem Zeo:Sw.Callable Pg 218:=⟨_,Tryz.func218,by kernel_rfl,rfl⟩
theorem ZeO:Sw.Callable Pg 219:=⟨_,Tryz.func219,by kernel_rfl,rfl⟩
theorem ZeQ:Sw.Callable Pg 220:=⟨_,Tryz.func220,by kernel_rfl,rfl⟩
theorem ZaA:Sw.Callable Pg 223:=⟨_,Tryz.func223,by kernel_rfl,rfl⟩
theorem Rx:Sw.Callable Pg 224:=⟨_,Tryz.func224,by kernel_rfl,rfl⟩
theorem ZaT:Sw.Callable Pg 225:=⟨_,Tryz.func225,by kernel_rfl,rfl⟩
theorem Zf8:Sw.Callable Pg 226:=⟨_,Tryz.func226,by kernel_rfl,rfl⟩
theorem Zgj:Sw.Callable Pg 227:=⟨_,Tryz.func227,by kernel_rfl,rfl⟩
theorem Zgl:Sw.Callable Pg 228:=⟨_,Tryz.func228,by kernel_rfl,rfl⟩
theorem ZgH:Sw.Callable Pg 229:=⟨_,Tryz.func229,by kernel_rfl,rfl⟩
theorem ZbV:Sw.Callable Pg 230:=⟨_,Tryz.func230,by kernel_rfl,rfl⟩
theorem ZdO:Sw.Callable Pg 231:=⟨_,Tryz.func231,by kernel_rfl,rfl⟩
theorem ZdK:Sw.Callable Pg 232:=⟨_,Tryz.func232,by kernel_rfl,rfl⟩
theorem Zf6:Sw.Callable Pg 233:=⟨_,Tryz.func233,by kernel_rfl,rfl⟩
theorem ZbC:Sw.Callable Pg 234:=⟨_,Tryz.func234,by kernel_rfl,rfl⟩
theorem Zfd:Sw.Callable Pg 235:=⟨_,Tryz.func235,by kernel_rfl,rfl⟩
theorem ZeC:Sw.Callable Pg 236:=⟨_,Tryz.func236,by kernel_rfl,rfl⟩
theorem Zc9:Sw.Callable Pg 237:=⟨_,Tryz.func237,by kernel_rfl,rfl⟩
theorem ZgN:Sw.Callable Pg 238:=⟨_,Tryz.func238,by kernel_rfl,rfl⟩
def Bg (t2 t3 t5:Value) (C3:World→Prop) (next2:KV) (R:RT) (w:World):Prop :=
 qV Pg C3 (Instr.fieldAt 45 t2 1) λ t27 =>
 qV Pg C3 (Instr.loadAt 43 t27) λ t28 =>
 qV Pg C3 (Instr.indexAt 43 t28 t5) λ t30 =>
 qV Pg C3 (Instr.loadAt 62 t30) λ t31 =>
 qV Pg C3 (Instr.fieldAt 45 t3 1) λ t32 =>
 qV Pg C3 (Instr.loadAt 43 t32) λ t33 =>
 qV Pg C3 (Instr.indexAt 43 t33 t5) λ t35 =>
 qV Pg C3 (Instr.loadAt 62 t35) λ t36 =>
 qV Pg C3 (ZM .neq 62 false t31 t36) λ t37 =>
 Zr t37 (
 R (.returned (.bool false)) w) (
 B0 .add 3 true t5 (.int .i64 1) R w λ t26 w =>
 next2 t26 w)
def BC (t2 t3 t5:Value) (next2:KV) (R:RT) (w:World):Prop :=
 F0 45 t2 1 R w λ t21 w =>
 L0 43 t21 R w λ t22 w =>
 opV Pg (Builtin.len_ #[43] 3 #[t22]) (Zd R) w λ t23 w =>
 B0 .lss 3 false t5 t23 R w λ t24 w =>
 Zr t24 (
 Yp w λ C3 w =>
 Bg t2 t3 t5 C3 next2 R w) (
 R (.returned (.bool true)) w)
def n16 (t0 t1:Value) (R:RT) (w:World):Prop :=
 opV Pg (Instr.box 45 t0) (Zd R) w λ t2 w =>
 opV Pg (Instr.box 45 t1) (Zd R) w λ t3 w =>
 F0 45 t2 0 R w λ t6 w =>
 L0 3 t6 R w λ t7 w =>
 F0 45 t3 0 R w λ t8 w =>
 L0 3 t8 R w λ t9 w =>
 B0 .neq 3 false t7 t9 R w λ t10 w =>
 Zq (λ (t18:Value) (w:World) =>
 Zu t10 (.bool true) t18 λ t19 =>
 Zr t19 (
 R (.returned (.bool false)) w) (
 Yi (λ t5 w next2 =>
 BC t2 t3 t5 next2 R w) (.int .i64 0) w)) λ K1 =>
 Zl t10 false (
 F0 45 t2 1 R w λ t12 w =>
 L0 43 t12 R w λ t13 w =>
 opV Pg (Builtin.len_ #[43] 3 #[t13]) (Zd R) w λ t14 w =>
 F0 45 t3 1 R w λ t15 w =>
 L0 43 t15 R w λ t16 w =>
 opV Pg (Builtin.len_ #[43] 3 #[t16]) (Zd R) w λ t17 w =>
 B0 .neq 3 false t14 t17 R w λ t18 w =>
 K1 t18 w) (
 K1 undef w)
theorem ZfH {t0 t1:Value} {R:RT} {w:World} (h:n16 t0 t1 R w):Calls Pg 91 #[t0,t1] w R:=by
 refine yD Tryz.func91 ?_
 refine zs<|zr<|yv h λ _ w h=>yv h λ _ w h=>zm<|zn<|zk<|zs<|zs<|Zs<|yG 6<|yv h λ _ w h=>yv h λ _ w h=>yv h λ _ w h=>yv h λ _ w h=>?_
 refine yb h λ _ w h=>zm<|zn<|yg1 7 5 false [12,13,14,15,16,17,18] 18 h (λ _ T hT h=>?_) λ σ w h=>?_
 · refine yv h λ _ w h=>yv h λ _ w h=>yx h λ _ w h=>yv h λ _ w h=>yv h λ _ w h=>yx h λ _ w h=>yb h λ _ w h=>zn ?_
   exact zt hT h
 refine yG 1<|yp h λ _ h=>zn<|ZG<|zk<|yC h (λ h=>zs<|zr<|zm<|zn<|zk<|Zk<|Zb<|Zi rfl rfl h) λ h=>Zh<|zk<|zs<|zs<|zr<|zm<|zn<|zk ?_
 refine Zj<|yl1 [4,5,20,21,22,23,24,25,26,27,28,29,30,31,32,33,34,35,36,37] 5 h λ σ w next h=>zs<|zs<|zr<|zm<|yv h λ _ w h=>yv h λ _ w h=>yx h λ _ w h=>yb h λ _ w h=>zn<|zk<|yC h (λ h=>?_) λ h=>?_
 · refine Zh<|zk<|zs<|Zj<|zs<|yh [27,28,29,30,31,32,33,34,35,36,37] h λ C hC h=>ye 0 hC h λ _ h=>?_
   refine ye 1 hC h λ _ h=>?_
   refine yw 2 hC ?_
   refine ye 3 hC h λ _ h=>?_
   refine ye 4 hC h λ _ h=>?_
   refine ye 5 hC h λ _ h=>?_
   refine ye 6 hC h λ _ h=>?_
   refine yw 7 hC ?_
   refine ye 8 hC h λ _ h=>?_
   refine ye 9 hC h λ _ h=>?_
   refine ye 10 hC h λ _ h=>?_
   exact yz<|zk<|yC h (λ h=>zs<|zr<|zm<|zn<|zk<|Zk<|Zf<|Zb<|Zb<|Zf<|Zb<|Zi rfl rfl h) λ h=>Zh<|Zg<|zk<|zr<|zm<|yb h λ _ w h=>zm<|zn<|zk<|⟨rfl,h⟩
 exact Zy<|Zc<|Zc<|Zn<|zk<|zs<|zr<|zm<|zn<|zk<|Zk<|Zi rfl rfl h
def AS (t0 t1 t5:Value) (C2:World→Prop) (next1:KV) (R:RT) (w:World):Prop :=
 qV Pg C2 (Instr.indexAt 46 t0 t5) λ t19 =>
 qV Pg C2 (Instr.loadAt 60 t19) λ t20 =>
 qV Pg C2 (Instr.indexAt 46 t1 t5) λ t23 =>
 qV Pg C2 (Instr.loadAt 60 t23) λ t24 =>
 qV Pg C2 (ZM .neq 60 false t20 t24) λ t25 =>
 Zr t25 (
 R (.returned (.bool false)) w) (
 B0 .add 3 true t5 (.int .i64 1) R w λ t16 w =>
 next1 t16 w)
def Bd (t0 t1 t5:Value) (next1:KV) (R:RT) (w:World):Prop :=
 opV Pg (Builtin.len_ #[46] 3 #[t0]) (Zd R) w λ t13 w =>
 B0 .lss 3 false t5 t13 R w λ t14 w =>
 Zr t14 (
 Yp w λ C2 w =>
 AS t0 t1 t5 C2 next1 R w) (
 R (.returned (.bool true)) w)
def n37 (t0 t1:Value) (R:RT) (w:World):Prop :=
 opV Pg (Builtin.len_ #[46] 3 #[t0]) (Zd R) w λ t7 w =>
 opV Pg (Builtin.len_ #[46] 3 #[t1]) (Zd R) w λ t9 w =>
 B0 .neq 3 false t7 t9 R w λ t10 w =>
 Zr t10 (
 R (.returned (.bool false)) w) (
 Yi (λ t5 w next1 =>
 Bd t0 t1 t5 next1 R w) (.int .i64 0) w)
theorem ZfR {t0 t1:Value} {R:RT} {w:World} (h:n37 t0 t1 R w):Calls Pg 92 #[t0,t1] w R:=by
 refine yD Tryz.func92 ?_
 refine zs<|zr<|zm<|zn<|zk<|zs<|zs<|zr<|zm<|yx h λ _ w h=>zm<|yx h λ _ w h=>yb h λ _ w h=>zn<|zk ?_
 refine yC h (λ h=>zs<|zr<|zm<|zn<|zk<|Zk<|Zb<|Zi rfl rfl h) λ h=>Zh<|zk<|zs<|zs<|zr<|zm<|zn<|zk<|Zj<|yl1 [4,5,11,12,13,14,15,16,17,18,19,20,21,22,23,24,25] 5 h λ σ w next h=>zs<|zs<|zr ?_
 refine zm<|zm<|yx h λ _ w h=>yb h λ _ w h=>zn<|zk<|yC h (λ h=>?_) λ h=>?_
 · refine Zh<|zk<|zs<|Zj<|zs<|yh [17,18,19,20,21,22,23,24,25] h λ C hC h=>yw 0 hC ?_
   refine yw 1 hC ?_
   refine ye 2 hC h λ _ h=>?_
   refine ye 3 hC h λ _ h=>?_
   refine yw 4 hC ?_
   refine yw 5 hC ?_
   refine ye 6 hC h λ _ h=>?_
   refine ye 7 hC h λ _ h=>?_
   refine ye 8 hC h λ _ h=>?_
   exact yz<|zk<|yC h (λ h=>zs<|zr<|zm<|zn<|zk<|Zk<|Zf<|Zb<|Zb<|Zf<|Zb<|Zi rfl rfl h) λ h=>Zh<|Zg<|zk<|zr<|zm<|yb h λ _ w h=>zm<|zn<|zk<|⟨rfl,h⟩
 exact Zy<|Zc<|Zc<|Zn<|zk<|zs<|zr<|zm<|zn<|zk<|Zk<|Zi rfl rfl h
def Dt (t3 t4 t13:Value) (ds:List Deferred) (R:RT) (w:World):Prop :=
 opV Pg (Instr.build 90 #[]) (Zw Pg ds [(none,t13),(some 90,t3),(some 4,t4)] R) w λ t65 w =>
 opU Pg (Instr.storeAt 90 t3 t65) (Zw Pg ds [(none,t13),(some 90,t3),(some 4,t4)] R) w λ w =>
 opU Pg (Instr.storeAt 4 t4 (.bool false)) (Zw Pg ds [(none,t13),(some 90,t3),(some 4,t4)] R) w λ w =>
 VP Pg ds [(none,t13),(some 90,t3),(some 4,t4)] R w
def Du (t1 t3 t4 t13:Value) (C3:World→Prop) (ds:List Deferred) (R:RT) (w:World):Prop :=
 qN Pg C3 (YM t13) λ t53 =>
 qV Pg C3 (Instr.fieldAt 164 t53 1) λ t54 =>
 qV Pg C3 (Instr.loadAt 161 t54) λ t55 =>
 qV Pg C3 (Instr.fieldAt 28 t1 2) λ t56 =>
 qV Pg C3 (Instr.loadAt 9 t56) λ t57 =>
 qV Pg C3 (Instr.lookup 161 t55 t57 true) λ t58 =>
 qV Pg C3 (Instr.extract t58 0) λ t59 =>
 qV Pg C3 (Instr.extract t58 1) λ t60 =>
 Yq Pg 122 #[t13,t60,(.int .i64 11)] (Zw Pg ds [(none,t13),(some 90,t3),(some 4,t4)] R) w λ t63 w =>
 Dt t3 t4 t13 ds R w
def D6 (t1 t3 t4 t13:Value) (ds:List Deferred) (R:RT) (w:World):Prop :=
 opN Pg (YM t13) (Zw Pg ds [(none,t13),(some 90,t3),(some 4,t4)] R) w λ t49 w =>
 opV Pg (Instr.fieldAt 164 t49 3) (Zw Pg ds [(none,t13),(some 90,t3),(some 4,t4)] R) w λ t50 w =>
 opU Pg (Instr.storeAt 3 t50 (.int .i64 (-1))) (Zw Pg ds [(none,t13),(some 90,t3),(some 4,t4)] R) w λ w =>
 Yp w λ C3 w =>
 Du t1 t3 t4 t13 C3 ds R w
def EA (t3 t4 t13 t33 t35:Value) (next2:KV) (ds:List Deferred) (R:RT) (w:World):Prop :=
 opV Pg (Instr.indexAt 26 t33 t35) (Zw Pg ds [(none,t13),(some 90,t3),(some 4,t4)] R) w λ t38 w =>
 opV Pg (Instr.loadAt 24 t38) (Zw Pg ds [(none,t13),(some 90,t3),(some 4,t4)] R) w λ t39 w =>
 opV Pg (Instr.alloc 24 true (.tuple #[])) (Zw Pg ds [(none,t13),(some 90,t3),(some 4,t4)] R) w λ t6 w =>
 opU Pg (Instr.storeAt 24 t6 t39) (Zw Pg ds [(none,t13),(some 90,t3),(some 4,t4)] R) w λ w =>
 opN Pg (YM t13) (Zw Pg ds [(none,t13),(some 90,t3),(some 4,t4)] R) w λ t42 w =>
 opV Pg (Instr.fieldAt 164 t42 3) (Zw Pg ds [(none,t13),(some 90,t3),(some 4,t4)] R) w λ t43 w =>
 opU Pg (Instr.storeAt 3 t43 t35) (Zw Pg ds [(none,t13),(some 90,t3),(some 4,t4)] R) w λ w =>
 opV Pg (Instr.loadAt 24 t6) (Zw Pg ds [(none,t13),(some 90,t3),(some 4,t4)] R) w λ t45 w =>
 Yq Pg 124 #[t13,t45] (Zw Pg ds [(none,t13),(some 90,t3),(some 4,t4)] R) w λ t46 w =>
 opV Pg (ZM .add 3 true t35 (.int .i64 1)) (Zw Pg ds [(none,t13),(some 90,t3),(some 4,t4)] R) w λ t47 w =>
 next2 t47 w
def Bv (t1 t3 t4 t13 t33 t34 t35:Value) (next2:KV) (ds:List Deferred) (R:RT) (w:World):Prop :=
 opV Pg (ZM .lss 3 false t35 t34) (Zw Pg ds [(none,t13),(some 90,t3),(some 4,t4)] R) w λ t36 w =>
 Zr t36 (
 EA t3 t4 t13 t33 t35 next2 ds R w) (
 D6 t1 t3 t4 t13 ds R w)
def qU (t1 t3 t4 t13:Value) (ds:List Deferred) (R:RT) (w:World):Prop :=
 opV Pg (Instr.fieldAt 28 t1 1) (Zw Pg ds [(none,t13),(some 90,t3),(some 4,t4)] R) w λ t32 w =>
 opV Pg (Instr.loadAt 26 t32) (Zw Pg ds [(none,t13),(some 90,t3),(some 4,t4)] R) w λ t33 w =>
 opV Pg (Builtin.len_ #[26] 3 #[t33]) (Zw Pg ds [(none,t13),(some 90,t3),(some 4,t4)] R) w λ t34 w =>
 Yi (λ t35 w next2 =>
 Bv t1 t3 t4 t13 t33 t34 t35 next2 ds R w) (.int .i64 0) w
def If (t1 t3 t4 t13 t24 t29:Value) (ds:List Deferred) (R:RT) (w:World):Prop :=
 Zu t24 t29 (.bool false) λ t30 =>
 Yq Pg 122 #[t13,t30,(.int .i64 3)] (Zw Pg ds [(none,t13),(some 90,t3),(some 4,t4)] R) w λ t31 w =>
 qU t1 t3 t4 t13 ds R w
def IA (t1 t3 t4 t13:Value) (K1:KV) (ds:List Deferred) (R:RT) (w:World):Prop :=
 opV Pg (Instr.fieldAt 28 t1 1) (Zw Pg ds [(none,t13),(some 90,t3),(some 4,t4)] R) w λ t26 w =>
 opV Pg (Instr.loadAt 26 t26) (Zw Pg ds [(none,t13),(some 90,t3),(some 4,t4)] R) w λ t27 w =>
 opV Pg (Builtin.len_ #[26] 3 #[t27]) (Zw Pg ds [(none,t13),(some 90,t3),(some 4,t4)] R) w λ t28 w =>
 opV Pg (ZM .leq 3 true t28 (.int .i64 60)) (Zw Pg ds [(none,t13),(some 90,t3),(some 4,t4)] R) w λ t29 w =>
 K1 t29 w
def D2 (t1 t3 t4 t13:Value) (ds:List Deferred) (R:RT) (w:World):Prop :=
 opV Pg (Instr.fieldAt 28 t1 1) (Zw Pg ds [(none,t13),(some 90,t3),(some 4,t4)] R) w λ t21 w =>
 opV Pg (Instr.loadAt 26 t21) (Zw Pg ds [(none,t13),(some 90,t3),(some 4,t4)] R) w λ t22 w =>
 opV Pg (Builtin.len_ #[26] 3 #[t22]) (Zw Pg ds [(none,t13),(some 90,t3),(some 4,t4)] R) w λ t23 w =>
 opV Pg (ZM .geq 3 true t23 (.int .i64 1)) (Zw Pg ds [(none,t13),(some 90,t3),(some 4,t4)] R) w λ t24 w =>
 Zq (λ (t29:Value) (w:World) =>
 If t1 t3 t4 t13 t24 t29 ds R w) λ K1 =>
 Zl t24 true (
 IA t1 t3 t4 t13 K1 ds R w) (
 K1 undef w)
def n65 (t0:Value) (R:RT) (w:World):Prop :=
 (λ (ds:List Deferred) =>
 opV Pg (Instr.box 28 t0) (Zw Pg ds [(none,undef),(some 90,undef),(some 4,undef)] R) w λ t1 w =>
 opV Pg (Instr.alloc 90 true (.tuple #[])) (Zw Pg ds [(none,(Value.pointer none)),(some 90,undef),(some 4,undef)] R) w λ t3 w =>
 opV Pg (Instr.alloc 4 true (.tuple #[])) (Zw Pg ds [(none,(Value.pointer none)),(some 90,t3),(some 4,undef)] R) w λ t4 w =>
 opV Pg (Instr.loadAt 28 t1) (Zw Pg ds [(none,(Value.pointer none)),(some 90,t3),(some 4,t4)] R) w λ t9 w =>
 opV Pg (Instr.makeMap 161 none) (Zw Pg ds [(none,(Value.pointer none)),(some 90,t3),(some 4,t4)] R) w λ t10 w =>
 opV Pg (Instr.makeMap 162 none) (Zw Pg ds [(none,(Value.pointer none)),(some 90,t3),(some 4,t4)] R) w λ t11 w =>
 opV Pg (Instr.build 164 #[(0,t9),(1,t10),(2,t11),(3,(.int .i64 (-1))),(4,(.int .i64 (-1)))]) (Zw Pg ds [(none,(Value.pointer none)),(some 90,t3),(some 4,t4)] R) w λ t12 w =>
 opV Pg (Instr.box 164 t12) (Zw Pg ds [(none,(Value.pointer none)),(some 90,t3),(some 4,t4)] R) w λ t13 w =>
 opV Pg (Instr.makeFunc (.func 121) #[] #[t3,t4]) (Zw Pg ds [(none,t13),(some 90,t3),(some 4,t4)] R) w λ t14 w =>
 Zbt Pg t14 #[] ds w λ ds w =>
 opV Pg (Instr.fieldAt 28 t1 0) (Zw Pg ds [(none,t13),(some 90,t3),(some 4,t4)] R) w λ t16 w =>
 opV Pg (Instr.loadAt 9 t16) (Zw Pg ds [(none,t13),(some 90,t3),(some 4,t4)] R) w λ t17 w =>
 Yq Pg 123 #[t17] (Zw Pg ds [(none,t13),(some 90,t3),(some 4,t4)] R) w λ t18 w =>
 Yq Pg 122 #[t13,t18,(.int .i64 1)] (Zw Pg ds [(none,t13),(some 90,t3),(some 4,t4)] R) w λ t19 w =>
 D2 t1 t3 t4 t13 ds R w) []
theorem Zdr {t0:Value} {R:RT} {w:World} (h:n65 t0 R w):Calls Pg 93 #[t0] w R:=by
 refine yE Tryz.func93 ?_
 unfold n65 at h
 dsimp only at h
 refine zs<|zr<|yv h λ _ w h=>zm<|yv h λ _ w h=>yv h λ _ w h=>zn<|zk<|zs<|zr<|yv h λ _ w h=>yv h λ _ w h=>yv h λ _ w h=>yB h λ _ w h=>yv h λ _ w h=>?_
 refine zm<|zn<|zk<|zs<|zr<|yF h λ _ w h=>?_
 refine LX h rfl rfl ?_;intro ds w h
 refine zn<|zk<|zs<|zr<|zm<|yv h λ _ w h=>yv h λ _ w h=>yc h PT λ _ w h=>yc h VQ λ _ w h=>zn<|zk<|zs<|Zs<|yG 6<|zm ?_
 refine yv h λ _ w h=>yv h λ _ w h=>yx h λ _ w h=>yb h λ _ w h=>zm<|zn<|yg1 4 5 true [26,27,28,29] 29 h (λ _ T hT h=>?_) λ σ w h=>?_
 · refine yv h λ _ w h=>yv h λ _ w h=>yx h λ _ w h=>yb h λ _ w h=>zn ?_
   exact zt hT h
 refine yG 2<|yp h λ _ h=>yc h VQ λ _ w h=>zn<|ZG<|zk<|zs<|zs<|zr<|yv h λ _ w h=>yv h λ _ w h=>yx h λ _ w h=>zm<|zn<|zk ?_
 refine Zj<|yl1 [5,6,35,36,37,38,39,40,41,42,43,44,45,46,47] 35 h λ σ w next h=>zs<|zr<|yb h λ _ w h=>zn<|zk<|zs<|yC h (λ h=>?_) λ h=>?_
 · refine Zh<|zk<|zs<|Zj<|zs<|zr<|zm<|yv h λ _ w h=>yv h λ _ w h=>yv h λ _ w h=>zm<|yu h λ w h=>zn<|zk<|zs ?_
   refine zr<|zm<|zm<|yN h λ _ w h=>yv h λ _ w h=>yu h λ w h=>zn<|zk<|zr<|zm<|yv h λ _ w h=>yc h ZdM λ _ w h=>zn<|Zg<|zk ?_
   exact zr<|yb h λ _ w h=>zm<|zn<|zk<|⟨rfl,h⟩
 refine Zy<|Zc<|Zc<|Zn<|zk<|zs<|zr<|zm<|yN h λ _ w h=>yv h λ _ w h=>yu h λ w h=>zn<|zk<|zs<|yh [7,8,51,52,53,54,55,56,57,58,59,60] h λ C hC h=>?_
 refine yw 0 hC ?_
 refine yn 1 hC h λ _ h=>?_
 refine ye 2 hC h λ _ h=>?_
 refine ye 3 hC h λ _ h=>?_
 refine ye 4 hC h λ _ h=>?_
 refine ye 5 hC h λ _ h=>?_
 refine ye 6 hC h λ _ h=>?_
 refine yw 7 hC ?_
 refine ye 8 hC h λ _ h=>?_
 refine ye 9 hC h λ _ h=>?_
 refine yw 10 hC ?_
 refine yw 11 hC ?_
 refine yz<|zk<|zs<|zr<|zm<|zm<|yc h VQ λ _ w h=>zn<|zk<|zs<|zr<|zm<|yB h λ _ w h=>zm<|yu h λ w h=>?_
 exact yu h λ w h=>zn<|zk<|Zk<|Xb rfl h
def n92 (t0:Value) (R:RT) (w:World):Prop :=
 opV Pg (Instr.box 48 t0) (Zd R) w λ t1 w =>
 opV Pg (Instr.alloc 144 true (.tuple #[])) (Zd R) w λ t2 w =>
 F0 48 t1 0 R w λ t3 w =>
 L0 9 t3 R w λ t4 w =>
 F0 48 t1 8 R w λ t5 w =>
 L0 9 t5 R w λ t6 w =>
 F0 48 t1 9 R w λ t7 w =>
 L0 9 t7 R w λ t8 w =>
 F0 48 t1 10 R w λ t9 w =>
 L0 9 t9 R w λ t10 w =>
 F0 48 t1 1 R w λ t11 w =>
 L0 42 t11 R w λ t12 w =>
 F0 48 t1 2 R w λ t13 w =>
 L0 3 t13 R w λ t14 w =>
 F0 48 t1 5 R w λ t15 w =>
 L0 3 t15 R w λ t16 w =>
 F0 48 t1 6 R w λ t17 w =>
 L0 3 t17 R w λ t18 w =>
 F0 48 t1 7 R w λ t19 w =>
 F0 45 t19 0 R w λ t20 w =>
 L0 3 t20 R w λ t21 w =>
 F0 48 t1 12 R w λ t22 w =>
 L0 3 t22 R w λ t23 w =>
 F0 48 t1 13 R w λ t24 w =>
 L0 3 t24 R w λ t25 w =>
 F0 48 t1 3 R w λ t26 w =>
 L0 4 t26 R w λ t27 w =>
 F0 48 t1 4 R w λ t28 w =>
 L0 4 t28 R w λ t29 w =>
 opV Pg (Instr.build 144 #[(0,t4),(1,t6),(2,t8),(3,t10),(4,t12),(5,t14),(6,t16),(7,t18),(8,t21),(9,t23),(10,t25),(11,t27),(12,t29)]) (Zd R) w λ t30 w =>
 opU Pg (Instr.storeAt 144 t2 t30) (Zd R) w λ w =>
 qW Pg 144 t2 w λ r0 =>
 R (.returned r0) w
theorem ZfL {t0:Value} {R:RT} {w:World} (h:n92 t0 R w):Calls Pg 94 #[t0] w R:=by
 refine yD Tryz.func94 ?_
 refine zs<|zr<|yv h λ _ w h=>yv h λ _ w h=>zn<|zk<|zs<|zr<|yv h λ _ w h=>yv h λ _ w h=>yv h λ _ w h=>yv h λ _ w h=>yv h λ _ w h=>yv h λ _ w h=>yv h λ _ w h=>?_
 refine yv h λ _ w h=>yv h λ _ w h=>yv h λ _ w h=>yv h λ _ w h=>yv h λ _ w h=>yv h λ _ w h=>yv h λ _ w h=>yv h λ _ w h=>yv h λ _ w h=>yv h λ _ w h=>yv h λ _ w h=>yv h λ _ w h=>yv h λ _ w h=>yv h λ _ w h=>yv h λ _ w h=>?_
 exact yv h λ _ w h=>yv h λ _ w h=>yv h λ _ w h=>yv h λ _ w h=>yv h λ _ w h=>yB h λ _ w h=>yu h λ w h=>zn<|zk<|Zk<|zv rfl rfl h
def Kt (t0 t1 t13:Value) (C2:World→Prop) (next1:KV) (R:RT) (w:World):Prop :=
 qV Pg C2 (Instr.indexAt 43 t0 t13) λ t18 =>
 qV Pg C2 (Instr.loadAt 62 t18) λ t19 =>
 qV Pg C2 (Instr.indexAt 43 t1 t13) λ t22 =>
 qV Pg C2 (Instr.loadAt 62 t22) λ t23 =>
 qV Pg C2 (ZM .neq 62 false t19 t23) λ t24 =>
 Zr t24 (
 R (.returned (.bool false)) w) (
 B0 .add 3 true t13 (.int .i64 1) R w λ t25 w =>
 next1 t25 w)
def Kx (t0 t1:Value) (R:RT) (w:World):Prop :=
 opV Pg (Builtin.len_ #[43] 3 #[t0]) (Zd R) w λ t12 w =>
 Yi (λ t13 w next1 =>
 B0 .lss 3 false t13 t12 R w λ t14 w =>
 Zr t14 (
 Yp w λ C2 w =>
 Kt t0 t1 t13 C2 next1 R w) (
 R (.returned (.bool true)) w)) (.int .i64 0) w
def ZbG (t0 t1:Value) (R:RT) (w:World):Prop :=
 opV Pg (Builtin.len_ #[43] 3 #[t0]) (Zd R) w λ t7 w =>
 opV Pg (Builtin.len_ #[43] 3 #[t1]) (Zd R) w λ t9 w =>
 B0 .neq 3 false t7 t9 R w λ t10 w =>
 Zr t10 (
 R (.returned (.bool false)) w) (
 Kx t0 t1 R w)
theorem Zcb {t0 t1:Value} {R:RT} {w:World} (h:ZbG t0 t1 R w):Calls Pg 95 #[t0,t1] w R:=by
 refine yD Tryz.func95 ?_
 refine zs<|zr<|zm<|zn<|zk<|zs<|zs<|zr<|zm<|yx h λ _ w h=>zm<|yx h λ _ w h=>yb h λ _ w h=>zn<|zk ?_
 refine yC h (λ h=>zs<|zr<|zm<|zn<|zk<|Zk<|Zb<|Zi rfl rfl h) λ h=>Zh<|zk<|zs<|zs<|zr<|zm<|yx h λ _ w h=>zm<|zn<|zk<|Zj<|yl1 [4,5,13,14,15,16,17,18,19,20,21,22,23,24,25] 13 h λ σ w next h=>zs ?_
 refine zr<|yb h λ _ w h=>zn<|zk<|zs<|yC h (λ h=>?_) λ h=>?_
 · refine Zh<|zk<|zs<|Zj<|zs<|zr<|zm<|zm<|zn<|zk<|zs<|yh [16,17,18,19,20,21,22,23,24] h λ C hC h=>yw 0 hC ?_
   refine yw 1 hC ?_
   refine ye 2 hC h λ _ h=>?_
   refine ye 3 hC h λ _ h=>?_
   refine yw 4 hC ?_
   refine yw 5 hC ?_
   refine ye 6 hC h λ _ h=>?_
   refine ye 7 hC h λ _ h=>?_
   refine ye 8 hC h λ _ h=>?_
   exact yz<|zk<|yC h (λ h=>zs<|zr<|zm<|zn<|zk<|Zk<|Zf<|Zb<|Zb<|Zf<|Zb<|Zi rfl rfl h) λ h=>Zh<|Zg<|zk<|zr<|yb h λ _ w h=>zm<|zn<|zk<|⟨rfl,h⟩
 exact Zy<|Zc<|Zc<|Zn<|zk<|zs<|zr<|zm<|zn<|zk<|Zk<|Zi rfl rfl h
def Ks (t0 t1 t13:Value) (C2:World→Prop) (next1:KV) (R:RT) (w:World):Prop :=
 qV Pg C2 (Instr.indexAt 46 t0 t13) λ t18 =>
 qV Pg C2 (Instr.loadAt 60 t18) λ t19 =>
 qV Pg C2 (Instr.indexAt 46 t1 t13) λ t22 =>
 qV Pg C2 (Instr.loadAt 60 t22) λ t23 =>
 qV Pg C2 (ZM .neq 60 false t19 t23) λ t24 =>
 Zr t24 (
 R (.returned (.bool false)) w) (
 B0 .add 3 true t13 (.int .i64 1) R w λ t25 w =>
 next1 t25 w)
def Kh (t0 t1:Value) (R:RT) (w:World):Prop :=
 opV Pg (Builtin.len_ #[46] 3 #[t0]) (Zd R) w λ t12 w =>
 Yi (λ t13 w next1 =>
 B0 .lss 3 false t13 t12 R w λ t14 w =>
 Zr t14 (
 Yp w λ C2 w =>
 Ks t0 t1 t13 C2 next1 R w) (
 R (.returned (.bool true)) w)) (.int .i64 0) w
def Zbx (t0 t1:Value) (R:RT) (w:World):Prop :=
 opV Pg (Builtin.len_ #[46] 3 #[t0]) (Zd R) w λ t7 w =>
 opV Pg (Builtin.len_ #[46] 3 #[t1]) (Zd R) w λ t9 w =>
 B0 .neq 3 false t7 t9 R w λ t10 w =>
 Zr t10 (
 R (.returned (.bool false)) w) (
 Kh t0 t1 R w)
theorem ZcN {t0 t1:Value} {R:RT} {w:World} (h:Zbx t0 t1 R w):Calls Pg 96 #[t0,t1] w R:=by
 refine yD Tryz.func96 ?_
 refine zs<|zr<|zm<|zn<|zk<|zs<|zs<|zr<|zm<|yx h λ _ w h=>zm<|yx h λ _ w h=>yb h λ _ w h=>zn<|zk ?_
 refine yC h (λ h=>zs<|zr<|zm<|zn<|zk<|Zk<|Zb<|Zi rfl rfl h) λ h=>Zh<|zk<|zs<|zs<|zr<|zm<|yx h λ _ w h=>zm<|zn<|zk<|Zj<|yl1 [4,5,13,14,15,16,17,18,19,20,21,22,23,24,25] 13 h λ σ w next h=>zs ?_
 refine zr<|yb h λ _ w h=>zn<|zk<|zs<|yC h (λ h=>?_) λ h=>?_
 · refine Zh<|zk<|zs<|Zj<|zs<|zr<|zm<|zm<|zn<|zk<|zs<|yh [16,17,18,19,20,21,22,23,24] h λ C hC h=>yw 0 hC ?_
   refine yw 1 hC ?_
   refine ye 2 hC h λ _ h=>?_
   refine ye 3 hC h λ _ h=>?_
   refine yw 4 hC ?_
   refine yw 5 hC ?_
   refine ye 6 hC h λ _ h=>?_
   refine ye 7 hC h λ _ h=>?_
   refine ye 8 hC h λ _ h=>?_
   exact yz<|zk<|yC h (λ h=>zs<|zr<|zm<|zn<|zk<|Zk<|Zf<|Zb<|Zb<|Zf<|Zb<|Zi rfl rfl h) λ h=>Zh<|Zg<|zk<|zr<|yb h λ _ w h=>zm<|zn<|zk<|⟨rfl,h⟩
 exact Zy<|Zc<|Zc<|Zn<|zk<|zs<|zr<|zm<|zn<|zk<|Zk<|Zi rfl rfl h
def Nl (t0 t1 t8:Value) (next1:KV) (R:RT) (w:World):Prop :=
 X0 26 t0 t8 R w λ t14 w =>
 L0 24 t14 R w λ t15 w =>
 Qi Pg t1 #[t15] (Zd R) w λ t16 w =>
 Zr t16 (
 R (.returned t8) w) (
 B0 .add 3 true t8 (.int .i64 1) R w λ t18 w =>
 next1 t18 w)
def ZcK (t0 t1:Value) (R:RT) (w:World):Prop :=
 opV Pg (Builtin.len_ #[26] 3 #[t0]) (Zd R) w λ t7 w =>
 Yi (λ t8 w next1 =>
 B0 .lss 3 false t8 t7 R w λ t9 w =>
 Zr t9 (
 Nl t0 t1 t8 next1 R w) (
 R (.returned (.int .i64 (-1))) w)) (.int .i64 0) w
theorem Zbn {t0 t1:Value} {R:RT} {w:World} (h:ZcK t0 t1 R w):Calls Pg 97 #[t0,t1] w R:=by
 refine yD Tryz.func97 ?_
 refine zs<|zr<|zm<|zn<|zk<|zs<|zs<|zr<|zm<|yx h λ _ w h=>zm<|zn<|zk<|Zj<|yl1 [4,5,8,9,10,11,12,13,14,15,16,17,18] 8 h λ σ w next h=>?_
 refine zs<|zr<|yb h λ _ w h=>zn<|zk<|zs<|yC h (λ h=>?_) λ h=>?_
 · refine Zh<|zk<|zs<|Zj<|zs<|zr<|zm<|zm<|zn<|zk<|zs<|zr<|zm<|zm<|zm ?_
   refine yv h λ _ w h=>yv h λ _ w h=>yV h λ _ w h=>zn<|zk<|yC h (λ h=>zs<|zr<|zm<|zm<|zn<|zk<|Zk<|Zf<|Zb<|Zb<|Zf<|Zb<|Zi rfl rfl h) λ h=>Zh<|Zg<|zk<|zr<|yb h λ _ w h=>zm<|zn<|zk ?_
   exact ⟨rfl,h⟩
 exact Zy<|Zc<|Zc<|Zn<|zk<|zs<|zr<|zm<|zn<|zk<|Zk<|Zi rfl rfl h
def Ff (t0 t1 t8:Value) (next1:KV) (R:RT) (w:World):Prop :=
 X0 82 t0 t8 R w λ t14 w =>
 L0 9 t14 R w λ t15 w =>
 B0 .eql 9 false t1 t15 R w λ t16 w =>
 Zr t16 (
 R (.returned t8) w) (
 B0 .add 3 true t8 (.int .i64 1) R w λ t18 w =>
 next1 t18 w)
def Zc7 (t0 t1:Value) (R:RT) (w:World):Prop :=
 opV Pg (Builtin.len_ #[82] 3 #[t0]) (Zd R) w λ t7 w =>
 Yi (λ t8 w next1 =>
 B0 .lss 3 false t8 t7 R w λ t9 w =>
 Zr t9 (
 Ff t0 t1 t8 next1 R w) (
 R (.returned (.int .i64 (-1))) w)) (.int .i64 0) w
theorem Zdd {t0 t1:Value} {R:RT} {w:World} (h:Zc7 t0 t1 R w):Calls Pg 98 #[t0,t1] w R:=by
 refine yD Tryz.func98 ?_
 refine zs<|zr<|zm<|zn<|zk<|zs<|zs<|zr<|zm<|yx h λ _ w h=>zm<|zn<|zk<|Zj<|yl1 [4,5,8,9,10,11,12,13,14,15,16,17,18] 8 h λ σ w next h=>?_
 refine zs<|zr<|yb h λ _ w h=>zn<|zk<|zs<|yC h (λ h=>?_) λ h=>?_
 · refine Zh<|zk<|zs<|Zj<|zs<|zr<|zm<|zm<|zn<|zk<|zs<|zr<|zm<|zm<|zm ?_
   refine yv h λ _ w h=>yv h λ _ w h=>yb h λ _ w h=>zn<|zk<|yC h (λ h=>zs<|zr<|zm<|zm<|zn<|zk<|Zk<|Zf<|Zb<|Zb<|Zf<|Zb<|Zi rfl rfl h) λ h=>Zh<|Zg<|zk<|zr<|yb h λ _ w h=>zm<|zn<|zk ?_
   exact ⟨rfl,h⟩
 exact Zy<|Zc<|Zc<|Zn<|zk<|zs<|zr<|zm<|zn<|zk<|Zk<|Zi rfl rfl h
def OH (t0 t1 t8:Value) (next1:KV) (R:RT) (w:World):Prop :=
 X0 22 t0 t8 R w λ t14 w =>
 L0 48 t14 R w λ t15 w =>
 Qi Pg t1 #[t15] (Zd R) w λ t16 w =>
 Zr t16 (
 R (.returned t8) w) (
 B0 .add 3 true t8 (.int .i64 1) R w λ t18 w =>
 next1 t18 w)
def ZaL (t0 t1:Value) (R:RT) (w:World):Prop :=
 opV Pg (Builtin.len_ #[22] 3 #[t0]) (Zd R) w λ t7 w =>
 Yi (λ t8 w next1 =>
 B0 .lss 3 false t8 t7 R w λ t9 w =>
 Zr t9 (
 OH t0 t1 t8 next1 R w) (
 R (.returned (.int .i64 (-1))) w)) (.int .i64 0) w
theorem ZbS {t0 t1:Value} {R:RT} {w:World} (h:ZaL t0 t1 R w):Calls Pg 134 #[t0,t1] w R:=by
 refine yD Tryz.func134 ?_
 refine zs<|zr<|zm<|zn<|zk<|zs<|zs<|zr<|zm<|yx h λ _ w h=>zm<|zn<|zk<|Zj<|yl1 [4,5,8,9,10,11,12,13,14,15,16,17,18] 8 h λ σ w next h=>?_
 refine zs<|zr<|yb h λ _ w h=>zn<|zk<|zs<|yC h (λ h=>?_) λ h=>?_
 · refine Zh<|zk<|zs<|Zj<|zs<|zr<|zm<|zm<|zn<|zk<|zs<|zr<|zm<|zm<|zm ?_
   refine yv h λ _ w h=>yv h λ _ w h=>yV h λ _ w h=>zn<|zk<|yC h (λ h=>zs<|zr<|zm<|zm<|zn<|zk<|Zk<|Zf<|Zb<|Zb<|Zf<|Zb<|Zi rfl rfl h) λ h=>Zh<|Zg<|zk<|zr<|yb h λ _ w h=>zm<|zn<|zk ?_
   exact ⟨rfl,h⟩
 exact Zy<|Zc<|Zc<|Zn<|zk<|zs<|zr<|zm<|zn<|zk<|Zk<|Zi rfl rfl h
def n40 (t0:Value) (R:RT) (w:World):Prop :=
 opV Pg (Instr.buildSlice 82 13 #[(0,(.string { data := #[] })),(1,(.string { data := #[98,108,120,104] })),(2,(.string { data := #[98,108,120] })),(3,(.string { data := #[111,120,104] })),(4,(.string { data := #[115] })),(5,(.string { data := #[120,104] })),(6,(.string { data := #[111,104] })),(7,(.string { data := #[102,115] })),(8,(.string { data := #[102] })),(9,(.string { data := #[116,99] })),(10,(.string { data := #[98] })),(11,(.string { data := #[114,107] })),(12,(.string { data := #[102,115,121] }))]) (Zd R) w λ t3 w =>
 X0 82 t3 t0 R w λ t5 w =>
 L0 9 t5 R w λ t6 w =>
 R (.returned t6) w
theorem Zgk {t0:Value} {R:RT} {w:World} (h:n40 t0 R w):Calls Pg 146 #[t0] w R:=by
 refine yD Tryz.func146 ?_
 refine zs<|zr<|zm<|zn<|zk<|zs<|zr<|yS h λ _ w h=>zm<|yv h λ _ w h=>yv h λ _ w h=>zm<|zn<|zk<|Zk ?_
 exact Zi rfl rfl h
def SD (t0 t1 t5:Value) (next1:KV) (R:RT) (w:World):Prop :=
 opV Pg (Instr.index 9 t0 t5) (Zd R) w λ t14 w =>
 B0 .eql 5 false t14 t1 R w λ t16 w =>
 Zr t16 (
 R (.returned (.bool true)) w) (
 B0 .add 3 true t5 (.int .i64 1) R w λ t11 w =>
 next1 t11 w)
def RK (t0 t1 t5:Value) (next1:KV) (R:RT) (w:World):Prop :=
 opV Pg (Builtin.len_ #[9] 3 #[t0]) (Zd R) w λ t8 w =>
 B0 .lss 3 false t5 t8 R w λ t9 w =>
 Zr t9 (
 SD t0 t1 t5 next1 R w) (
 R (.returned (.bool false)) w)
def n34 (t0 t1:Value) (R:RT) (w:World):Prop :=
 Yi (λ t5 w next1 =>
 RK t0 t1 t5 next1 R w) (.int .i64 0) w
theorem ZfO {t0 t1:Value} {R:RT} {w:World} (h:n34 t0 t1 R w):Calls Pg 147 #[t0,t1] w R:=by
 refine yD Tryz.func147 ?_
 refine zs<|zr<|zm<|zn<|zk<|zs<|zs<|zr<|zm<|zn<|zk<|Zj<|yl1 [4,5,6,7,8,9,10,11,12,13,14,15,16] 5 h λ σ w next h=>zs<|zs ?_
 refine zr<|zm<|zm<|yx h λ _ w h=>yb h λ _ w h=>zn<|zk<|yC h (λ h=>?_) λ h=>?_
 · refine Zh<|zk<|zs<|Zj<|zs<|zr<|zm<|zm<|yv h λ _ w h=>zm<|yb h λ _ w h=>zn<|zk<|yC h (λ h=>zs<|zr<|zm<|zn<|zk<|Zk<|Zf<|Zb<|Zb<|Zf<|Zb<|Zi rfl rfl h) λ h=>?_
   exact Zh<|Zg<|zk<|zr<|zm<|yb h λ _ w h=>zm<|zn<|zk<|⟨rfl,h⟩
 exact Zy<|Zc<|Zc<|Zn<|zk<|zs<|zr<|zm<|zn<|zk<|Zk<|Zi rfl rfl h
def qh (t1 t3 t40 t45:Value) (R:RT) (w:World):Prop :=
 Zu t40 (.bool true) t45 λ t46 =>
 Zq (λ (t52:Value) (w:World) =>
 Zu t46 (.bool true) t52 λ t53 =>
 Zr t53 (
 R (.returned (.int .i64 7)) w) (
 R (.returned (.int .i64 0)) w)) λ K11 =>
 Zl t46 false (
 F0 48 t1 2 R w λ t49 w =>
 L0 3 t49 R w λ t50 w =>
 B0 .shl 3 true (.int .i64 1) t50 R w λ t51 w =>
 B0 .geq 3 false t3 t51 R w λ t52 w =>
 K11 t52 w) (
 K11 undef w)
def EO (t1 t3:Value) (R:RT) (w:World):Prop :=
 F0 48 t1 5 R w λ t38 w =>
 L0 3 t38 R w λ t39 w =>
 B0 .lss 3 true t39 (.int .i64 0) R w λ t40 w =>
 Zq (λ (t45:Value) (w:World) =>
 qh t1 t3 t40 t45 R w) λ K10 =>
 Zl t40 false (
 F0 48 t1 5 R w λ t42 w =>
 L0 3 t42 R w λ t43 w =>
 B0 .gtr 3 false t43 t3 R w λ t45 w =>
 K10 t45 w) (
 K10 undef w)
def Dk (t1:Value) (R:RT) (w:World):Prop :=
 F0 48 t1 6 R w λ t31 w =>
 L0 3 t31 R w λ t32 w =>
 F0 48 t1 1 R w λ t33 w =>
 L0 42 t33 R w λ t34 w =>
 B0 .eql 42 true t34 (.int .i64 2) R w λ t35 w =>
 Zq (λ (t3:Value) (w:World) =>
 EO t1 t3 R w) λ K9 =>
 Zr t35 (
 F0 48 t1 5 R w λ t36 w =>
 L0 3 t36 R w λ t37 w =>
 K9 t37 w) (
 K9 t32 w)
def yR (t1 t11 t25 t28:Value) (R:RT) (w:World):Prop :=
 Zq (λ (t29:Value) (w:World) =>
 Zu t11 (.bool true) t29 λ t30 =>
 Zr t30 (
 R (.returned (.int .i64 6)) w) (
 Dk t1 R w)) λ K8 =>
 Zl t11 false (
 Zu t25 t28 (.bool false) λ t29 =>
 K8 t29 w) (
 K8 undef w)
def xG (t1 t11 t25:Value) (R:RT) (w:World):Prop :=
 Zq (λ (t28:Value) (w:World) =>
 yR t1 t11 t25 t28 R w) λ K7 =>
 Zl t25 true (
 F0 48 t1 2 R w λ t26 w =>
 L0 3 t26 R w λ t27 w =>
 B0 .neq 3 true t27 (.int .i64 32) R w λ t28 w =>
 K7 t28 w) (
 K7 undef w)
def yX (t1 t11 t20:Value) (R:RT) (w:World):Prop :=
 Zq (λ (t23:Value) (w:World) =>
 Zq (λ (t25:Value) (w:World) =>
 xG t1 t11 t25 R w) λ K6 =>
 Zl t11 false (
 Zu t20 t23 (.bool false) λ t24 =>
 K6 t24 w) (
 K6 undef w)) λ K5 =>
 Zl t20 true (
 F0 48 t1 2 R w λ t21 w =>
 L0 3 t21 R w λ t22 w =>
 B0 .neq 3 true t22 (.int .i64 24) R w λ t23 w =>
 K5 t23 w) (
 K5 undef w)
def xg (t1 t11 t15:Value) (R:RT) (w:World):Prop :=
 Zq (λ (t18:Value) (w:World) =>
 Zq (λ (t20:Value) (w:World) =>
 yX t1 t11 t20 R w) λ K4 =>
 Zl t11 false (
 Zu t15 t18 (.bool false) λ t19 =>
 K4 t19 w) (
 K4 undef w)) λ K3 =>
 Zl t15 true (
 F0 48 t1 2 R w λ t16 w =>
 L0 3 t16 R w λ t17 w =>
 B0 .neq 3 true t17 (.int .i64 16) R w λ t18 w =>
 K3 t18 w) (
 K3 undef w)
def xh (t1 t6 t10:Value) (R:RT) (w:World):Prop :=
 Zu t6 (.bool true) t10 λ t11 =>
 Zq (λ (t15:Value) (w:World) =>
 xg t1 t11 t15 R w) λ K2 =>
 Zl t11 false (
 F0 48 t1 3 R w λ t13 w =>
 L0 4 t13 R w λ t14 w =>
 K2 t14 w) (
 K2 undef w)
def n36 (t0:Value) (R:RT) (w:World):Prop :=
 opV Pg (Instr.box 48 t0) (Zd R) w λ t1 w =>
 F0 48 t1 2 R w λ t4 w =>
 L0 3 t4 R w λ t5 w =>
 B0 .lss 3 true t5 (.int .i64 1) R w λ t6 w =>
 Zq (λ (t10:Value) (w:World) =>
 xh t1 t6 t10 R w) λ K1 =>
 Zl t6 false (
 F0 48 t1 2 R w λ t8 w =>
 L0 3 t8 R w λ t9 w =>
 B0 .gtr 3 true t9 (.int .i64 32) R w λ t10 w =>
 K1 t10 w) (
 K1 undef w)
theorem Zf0 {t0:Value} {R:RT} {w:World} (h:n36 t0 R w):Calls Pg 148 #[t0] w R:=by
 refine yD Tryz.func148 ?_
 refine zs<|zr<|yv h λ _ w h=>zm<|zn<|zk<|zs<|zs<|Zs<|yG 4<|yv h λ _ w h=>yv h λ _ w h=>yb h λ _ w h=>zm<|zn ?_
 refine yg1 3 3 false [8,9,10] 10 h (λ _ T hT h=>?_) λ σ w h=>?_
 · refine yv h λ _ w h=>yv h λ _ w h=>yb h λ _ w h=>zn ?_
   exact zt hT h
 refine yG 2<|yp h λ _ h=>zm<|zn<|yg1 3 8 false [13,14,15] 15 h (λ _ T hT h=>?_) λ σ w h=>?_
 · refine yv h λ _ w h=>yv h λ _ w h=>zm<|zn ?_
   exact zt hT h
 refine yg1 3 11 true [16,17,18] 18 h (λ _ T hT h=>?_) λ σ w h=>?_
 · refine yv h λ _ w h=>yv h λ _ w h=>yb h λ _ w h=>zn ?_
   exact zt hT h
 refine yg1 2 8 false [19,20] 20 h (λ _ T hT h=>?_) λ σ w h=>?_
 · refine yp h λ _ h=>zm<|zn ?_
   exact zt hT h
 refine yg1 3 16 true [21,22,23] 23 h (λ _ T hT h=>?_) λ σ w h=>?_
 · refine yv h λ _ w h=>yv h λ _ w h=>yb h λ _ w h=>zn ?_
   exact zt hT h
 refine yg1 2 8 false [24,25] 25 h (λ _ T hT h=>?_) λ σ w h=>?_
 · refine yp h λ _ h=>zm<|zn ?_
   exact zt hT h
 refine yg1 3 21 true [26,27,28] 28 h (λ _ T hT h=>?_) λ σ w h=>?_
 · refine yv h λ _ w h=>yv h λ _ w h=>yb h λ _ w h=>zn ?_
   exact zt hT h
 refine yg1 1 8 false [29] 29 h (λ _ T hT h=>?_) λ σ w h=>?_
 · refine yp h λ _ h=>zn ?_
   exact zt hT h
 refine yG 1<|yp h λ _ h=>zn<|ZG<|zk<|yC h (λ h=>zs<|zr<|zm<|zn<|zk<|Zk<|Zb<|Zi rfl rfl h) λ h=>Zh<|zk<|zs<|zr<|yv h λ _ w h=>yv h λ _ w h=>zm<|zn ?_
 refine zk<|zs<|zs<|zr<|yv h λ _ w h=>yv h λ _ w h=>yb h λ _ w h=>zn<|zk<|yJ1 [3,36,37] 3 h (λ _ _ hkK9 h=>?_) λ σ w h=>?_
 · refine yC h (λ h=>?_) λ h=>?_
   · refine zr<|yv h λ _ w h=>yv h λ _ w h=>zm<|zn<|zk ?_
     exact zt hkK9 h
   refine Zh<|zk ?_
   exact zt hkK9 h
 refine zk<|zs<|zs<|Zs<|yG 4<|yv h λ _ w h=>yv h λ _ w h=>yb h λ _ w h=>zm<|zn<|yg1 4 3 false [42,43,44,45] 45 h (λ _ T hT h=>?_) λ σ w h=>?_
 · refine yv h λ _ w h=>yv h λ _ w h=>zm<|yb h λ _ w h=>zn ?_
   exact zt hT h
 refine yG 2<|yp h λ _ h=>zm<|zn<|yg1 5 9 false [48,49,50,51,52] 52 h (λ _ T hT h=>?_) λ σ w h=>?_
 · refine zm<|yv h λ _ w h=>yv h λ _ w h=>yb h λ _ w h=>yb h λ _ w h=>zn ?_
   exact zt hT h
 refine yG 1<|yp h λ _ h=>zn<|ZG<|zk<|yC h (λ h=>zs<|zr<|zm<|zn<|zk<|Zk<|Zb<|Zi rfl rfl h) λ h=>Zh<|zk<|zs<|zr<|zm<|zn<|zk<|Zk ?_
 exact Zi rfl rfl h
def Ib (t1 t6 t10:Value) (R:RT) (w:World):Prop :=
 Zu t6 t10 (.bool false) λ t11 =>
 Zq (λ (t14:Value) (w:World) =>
 Zu t11 t14 (.bool false) λ t15 =>
 R (.returned t15) w) λ K2 =>
 Zl t11 true (
 B0 .lss 3 true t1 (.int .i64 34359738368) R w λ t14 w =>
 K2 t14 w) (
 K2 undef w)
def n41 (t0 t1:Value) (R:RT) (w:World):Prop :=
 B0 .geq 3 true t0 (.int .i64 0) R w λ t6 w =>
 Zq (λ (t10:Value) (w:World) =>
 Ib t1 t6 t10 R w) λ K1 =>
 Zl t6 true (
 B0 .leq 3 false t0 t1 R w λ t10 w =>
 K1 t10 w) (
 K1 undef w)
theorem ZgI {t0 t1:Value} {R:RT} {w:World} (h:n41 t0 t1 R w):Calls Pg 149 #[t0,t1] w R:=by
 refine yD Tryz.func149 ?_
 refine zs<|zr<|zm<|zn<|zk<|zs<|Zs<|yG 3<|zm<|yb h λ _ w h=>zm<|zn<|yg1 3 2 true [8,9,10] 10 h (λ _ T hT h=>?_) λ σ w h=>?_
 · refine zm<|zm<|yb h λ _ w h=>zn ?_
   exact zt hT h
 refine yG 2<|yp h λ _ h=>zm<|zn<|yg1 2 7 true [13,14] 14 h (λ _ T hT h=>?_) λ σ w h=>?_
 · refine zm<|yb h λ _ w h=>zn ?_
   exact zt hT h
 exact yG 2<|yp h λ _ h=>zm<|zn<|ZG<|zk<|Zk<|Zi rfl rfl h
def Sy (t5 t6 t7 t56:Value) (next1:KW) (R:RT) (w:World):Prop :=
 opV Pg (Instr.extract t56 0) (Zd R) w λ t57 w =>
 opV Pg (Instr.extract t56 1) (Zd R) w λ t58 w =>
 F0 45 t5 1 R w λ t60 w =>
 L0 43 t60 R w λ t61 w =>
 X0 43 t61 t7 R w λ t63 w =>
 F0 62 t63 0 R w λ t64 w =>
 L0 9 t64 R w λ t65 w =>
 opV Pg (Instr.build 206 #[(0,t65),(1,t57),(2,t58)]) (Zd R) w λ t68 w =>
 opV Pg (Instr.buildSlice 173 1 #[(0,t68)]) (Zd R) w λ t69 w =>
 opV Pg (Builtin.append_ #[173,173] 173 #[t6,t69]) (Zd R) w λ t70 w =>
 B0 .add 3 true t7 (.int .i64 1) R w λ t29 w =>
 next1 t70 t29 w
def SG (t2 t5 t6 t7 t38:Value) (next1:KW) (R:RT) (w:World):Prop :=
 F0 24 t2 1 R w λ t51 w =>
 L0 22 t51 R w λ t52 w =>
 X0 22 t52 t38 R w λ t54 w =>
 L0 48 t54 R w λ t55 w =>
 C0 152 #[t55] R w λ t56 w =>
 Sy t5 t6 t7 t56 next1 R w
def SL (t2 t5 t6 t7 t38:Value) (next1:KW) (R:RT) (w:World):Prop :=
 B0 .lss 3 true t38 (.int .i64 0) R w λ t40 w =>
 Zq (λ (t48:Value) (w:World) =>
 Zu t40 (.bool true) t48 λ t49 =>
 Zr t49 (
 R (.returned (.int .i64 8)) w) (
 SG t2 t5 t6 t7 t38 next1 R w)) λ K3 =>
 Zl t40 false (
 F0 24 t2 1 R w λ t42 w =>
 L0 22 t42 R w λ t43 w =>
 X0 22 t43 t38 R w λ t45 w =>
 L0 48 t45 R w λ t46 w =>
 C0 47 #[t46] R w λ t47 w =>
 opV Pg (Op.unary .not t47) (Zd R) w λ t48 w =>
 K3 t48 w) (
 K3 undef w)
def TD (t1 t2 t5 t6 t7:Value) (C2:World→Prop) (next1:KW) (R:RT) (w:World):Prop :=
 qV Pg C2 (Instr.loadAt 24 t2) λ t30 =>
 qV Pg C2 (Instr.fieldAt 45 t5 1) λ t31 =>
 qV Pg C2 (Instr.loadAt 43 t31) λ t32 =>
 qV Pg C2 (Instr.indexAt 43 t32 t7) λ t34 =>
 qV Pg C2 (Instr.fieldAt 62 t34 0) λ t35 =>
 qV Pg C2 (Instr.loadAt 9 t35) λ t36 =>
 C0 45 #[t30,t36,t1] R w λ t38 w =>
 C2 w∧(
 SL t2 t5 t6 t7 t38 next1 R w)
def SB (t76 t79 t82:Value) (R:RT) (w:World):Prop :=
 Zu t79 (.bool true) t82 λ t83 =>
 Zq (λ (t86:Value) (w:World) =>
 Zu t83 (.bool true) t86 λ t87 =>
 Zr t87 (
 R (.returned (.int .i64 9)) w) (
 R (.returned (.int .i64 0)) w)) λ K5 =>
 Zl t83 false (
 B0 .gtr 3 true t76 (.int .i64 1048576) R w λ t86 w =>
 K5 t86 w) (
 K5 undef w)
def Tj (t74:Value) (R:RT) (w:World):Prop :=
 opV Pg (Instr.extract t74 0) (Zd R) w λ t75 w =>
 opV Pg (Instr.extract t74 1) (Zd R) w λ t76 w =>
 opV Pg (Instr.extract t74 2) (Zd R) w λ t77 w =>
 B0 .neq 3 true t77 (.int .i64 0) R w λ t79 w =>
 Zq (λ (t82:Value) (w:World) =>
 SB t76 t79 t82 R w) λ K4 =>
 Zl t79 false (
 B0 .lss 3 true t75 (.int .i64 0) R w λ t82 w =>
 K4 t82 w) (
 K4 undef w)
def Tw (t1 t2 t5 t6 t7:Value) (next1:KW) (R:RT) (w:World):Prop :=
 F0 45 t5 1 R w λ t24 w =>
 L0 43 t24 R w λ t25 w =>
 opV Pg (Builtin.len_ #[43] 3 #[t25]) (Zd R) w λ t26 w =>
 B0 .lss 3 false t7 t26 R w λ t27 w =>
 Zr t27 (
 Yp w λ C2 w =>
 TD t1 t2 t5 t6 t7 C2 next1 R w) (
 L0 45 t5 R w λ t72 w =>
 C0 130 #[t72,t6] R w λ t74 w =>
 Tj t74 R w)
def Tm (t1 t2 t5 t21:Value) (R:RT) (w:World):Prop :=
 opV Pg (Op.unary .not t21) (Zd R) w λ t22 w =>
 Zr t22 (
 R (.returned (.int .i64 9)) w) (
 XP (λ t6 t7 w next1 =>
 Tw t1 t2 t5 t6 t7 next1 R w) (Value.slice none 0 0) (.int .i64 0) w)
def n38 (t0 t1:Value) (R:RT) (w:World):Prop :=
 opV Pg (Instr.box 24 t0) (Zd R) w λ t2 w =>
 F0 24 t2 1 R w λ t14 w =>
 L0 22 t14 R w λ t15 w =>
 X0 22 t15 t1 R w λ t17 w =>
 F0 48 t17 7 R w λ t18 w =>
 L0 45 t18 R w λ t19 w =>
 opV Pg (Instr.alloc 45 true (.tuple #[])) (Zd R) w λ t5 w =>
 opU Pg (Instr.storeAt 45 t5 t19) (Zd R) w λ w =>
 L0 45 t5 R w λ t20 w =>
 C0 174 #[t20] R w λ t21 w =>
 Tm t1 t2 t5 t21 R w
set_option maxHeartbeats 40000000 in
theorem Zf2 {t0 t1:Value} {R:RT} {w:World} (h:n38 t0 t1 R w):Calls Pg 150 #[t0,t1] w R:=by
 refine yD Tryz.func150 ?_
 refine zs<|zr<|yv h λ _ w h=>zm<|zn<|zk<|zs<|zr<|yv h λ _ w h=>yv h λ _ w h=>zm<|yv h λ _ w h=>yv h λ _ w h=>yv h λ _ w h=>yv h λ _ w h=>?_
 refine yu h λ w h=>zn<|zk<|zs<|zs<|zr<|yv h λ _ w h=>yc h Zbo λ _ w h=>yv h λ _ w h=>zn<|zk<|yC h (λ h=>zs<|zr<|zm<|zn<|zk<|Zk<|Zb<|Zi rfl rfl h) λ h=>Zh<|zk ?_
 refine zs<|zr<|zm<|zn<|zk<|zs<|zs<|zr<|zm<|zn<|zk<|Zj<|yl2 [4,6,7,8,9,10,23,24,25,26,27,28,29,30,31,32,33,34,35,36,37,38,39,40,41,42,43,44,45,46,47,48,49,50,51,52,53,54,55,56,57,58,59,60,61,62,63,64,65,66,67,68,69,70] 6 7 h λ σ w next h=>zs<|zs ?_
 refine zr<|zm<|yv h λ _ w h=>yv h λ _ w h=>yx h λ _ w h=>yb h λ _ w h=>zn<|zk<|yC h (λ h=>?_) λ h=>?_
 · refine Zh<|zk<|zs<|Zj<|zs<|yh [8,30,31,32,33,34,35,36,37,38] h λ C hC h=>ye 0 hC h λ _ h=>?_
   refine ye 1 hC h λ _ h=>?_
   refine ye 2 hC h λ _ h=>?_
   refine yw 3 hC ?_
   refine ye 4 hC h λ _ h=>?_
   refine ye 5 hC h λ _ h=>?_
   refine ye 6 hC h λ _ h=>?_
   refine yw 7 hC ?_
   refine yo 8 ?_
   refine yc h c45 λ _ w h=>zn ?_
   obtain ⟨hC,h⟩:=h
   refine ⟨hC,?_⟩
   refine yw 9 hC ?_
   refine yz<|zk<|zs<|zs<|Zs<|yG 3<|zm<|yb h λ _ w h=>zm<|zn<|yg1 7 2 false [42,43,44,45,46,47,48] 48 h (λ _ T hT h=>?_) λ σ w h=>?_
   · refine yv h λ _ w h=>yv h λ _ w h=>zm<|yv h λ _ w h=>yv h λ _ w h=>yc h c47 λ _ w h=>yv h λ _ w h=>zn ?_
     exact zt hT h
   refine yG 1<|yp h λ _ h=>zn<|ZG<|zk<|yC h (λ h=>zs<|zr<|zm<|zn<|zk<|Zk<|Zb<|Zf<|Zb<|Zb<|Zf<|Zb<|Zi rfl rfl h) λ h=>Zh<|zk<|zs<|zr<|yv h λ _ w h=>yv h λ _ w h=>zm<|yv h λ _ w h=>?_
   refine yv h λ _ w h=>yc h ZbD λ _ w h=>zm<|yv h λ _ w h=>yv h λ _ w h=>zm<|zm<|zn<|zk<|zr<|zm<|yv h λ _ w h=>yv h λ _ w h=>zm<|yv h λ _ w h=>?_
   refine yv h λ _ w h=>yv h λ _ w h=>zm<|zm<|yB h λ _ w h=>yS h λ _ w h=>yx h λ _ w h=>zm<|zn<|Zg<|zk<|zr<|zm<|yb h λ _ w h=>zm ?_
   exact zn<|zk<|⟨rfl,h⟩
 refine Zy<|Zc<|Zc<|Zn<|zk<|zs<|zr<|yv h λ _ w h=>zm<|yc h ZeF λ _ w h=>zm<|yv h λ _ w h=>yv h λ _ w h=>yv h λ _ w h=>zm ?_
 refine zm<|zm<|zn<|zk<|zs<|zs<|Zs<|yG 3<|zm<|yb h λ _ w h=>zm<|zn<|yg1 2 2 false [81,82] 82 h (λ _ T hT h=>?_) λ σ w h=>?_
 · refine zm<|yb h λ _ w h=>zn ?_
   exact zt hT h
 refine yG 2<|yp h λ _ h=>zm<|zn<|yg1 2 6 false [85,86] 86 h (λ _ T hT h=>?_) λ σ w h=>?_
 · refine zm<|yb h λ _ w h=>zn ?_
   exact zt hT h
 refine yG 1<|yp h λ _ h=>zn<|ZG<|zk<|yC h (λ h=>zs<|zr<|zm<|zn<|zk<|Zk<|Zb<|Zi rfl rfl h) λ h=>Zh<|zk<|zs<|zr<|zm<|zn<|zk<|Zk ?_
 exact Zi rfl rfl h
def RW (t1 t3 t7:Value) (next1:KV) (R:RT) (w:World):Prop :=
 F0 24 t3 1 R w λ t13 w =>
 L0 22 t13 R w λ t14 w =>
 X0 22 t14 t7 R w λ t16 w =>
 F0 48 t16 1 R w λ t17 w =>
 L0 42 t17 R w λ t18 w =>
 B0 .eql 42 true t18 (.int .i64 9) R w λ t19 w =>
 Zq (λ (t28:Value) (w:World) =>
 Zu t19 t28 (.bool false) λ t29 =>
 Zr t29 (
 R (.returned (.bool true)) w) (
 B0 .add 3 true t7 (.int .i64 1) R w λ t12 w =>
 next1 t12 w)) λ K2 =>
 Zl t19 true (
 F0 24 t3 1 R w λ t21 w =>
 L0 22 t21 R w λ t22 w =>
 X0 22 t22 t7 R w λ t24 w =>
 F0 48 t24 9 R w λ t25 w =>
 L0 9 t25 R w λ t26 w =>
 B0 .eql 9 false t26 t1 R w λ t28 w =>
 K2 t28 w) (
 K2 undef w)
def n39 (t0 t1 t2:Value) (R:RT) (w:World):Prop :=
 opV Pg (Instr.box 24 t0) (Zd R) w λ t3 w =>
 Yi (λ t7 w next1 =>
 B0 .lss 3 false t7 t2 R w λ t10 w =>
 Zr t10 (
 RW t1 t3 t7 next1 R w) (
 R (.returned (.bool false)) w)) (.int .i64 0) w
theorem ZgR {t0 t1 t2:Value} {R:RT} {w:World} (h:n39 t0 t1 t2 R w):Calls Pg 151 #[t0,t1,t2] w R:=by
 refine yD Tryz.func151 ?_
 refine zs<|zr<|yv h λ _ w h=>zm<|zn<|zk<|zs<|zs<|zr<|zm<|zn<|zk<|Zj<|yl1 [6,7,8,9,10,11,12,13,14,15,16,17,18,19,20,21,22,23,24,25,26,27,28,29] 7 h λ σ w next h=>zs ?_
 refine zs<|zr<|zm<|zm<|yb h λ _ w h=>zn<|zk<|yC h (λ h=>?_) λ h=>?_
 · refine Zh<|zk<|zs<|Zj<|zs<|Zs<|yG 8<|yv h λ _ w h=>yv h λ _ w h=>zm<|yv h λ _ w h=>yv h λ _ w h=>yv h λ _ w h=>yb h λ _ w h=>zm ?_
   refine zn<|yg1 8 7 true [21,22,23,24,25,26,27,28] 28 h (λ _ T hT h=>?_) λ σ w h=>?_
   · refine yv h λ _ w h=>yv h λ _ w h=>zm<|yv h λ _ w h=>yv h λ _ w h=>yv h λ _ w h=>zm<|yb h λ _ w h=>zn ?_
     exact zt hT h
   refine yG 1<|yp h λ _ h=>zn<|ZG<|zk<|yC h (λ h=>zs<|zr<|zm<|zn<|zk<|Zk<|Zf<|Zb<|Zb<|Zf<|Zb<|Zi rfl rfl h) λ h=>Zh<|Zg<|zk<|zr<|zm<|yb h λ _ w h=>zm<|zn ?_
   exact zk<|⟨rfl,h⟩
 exact Zy<|Zc<|Zc<|Zn<|zk<|zs<|zr<|zm<|zn<|zk<|Zk<|Zi rfl rfl h
def Sh (t1 t3 t4:Value) (C6:World→Prop) (next5:KV) (R:RT) (w:World):Prop :=
 qV Pg C6 (Instr.fieldAt 45 t1 1) λ t54 =>
 qV Pg C6 (Instr.loadAt 43 t54) λ t55 =>
 qV Pg C6 (Instr.indexAt 43 t55 t4) λ t57 =>
 qV Pg C6 (Instr.fieldAt 62 t57 0) λ t58 =>
 qV Pg C6 (Instr.loadAt 9 t58) λ t59 =>
 qV Pg C6 (Instr.fieldAt 45 t1 1) λ t60 =>
 qV Pg C6 (Instr.loadAt 43 t60) λ t61 =>
 qV Pg C6 (Instr.indexAt 43 t61 t3) λ t63 =>
 qV Pg C6 (Instr.fieldAt 62 t63 0) λ t64 =>
 qV Pg C6 (Instr.loadAt 9 t64) λ t65 =>
 qV Pg C6 (ZM .eql 9 false t59 t65) λ t66 =>
 Zr t66 (
 R (.returned (.bool false)) w) (
 B0 .add 3 true t4 (.int .i64 1) R w λ t53 w =>
 next5 t53 w)
def Sn (t1 t3 t4:Value) (next2:KV) (next5:KV) (R:RT) (w:World):Prop :=
 B0 .lss 3 false t4 t3 R w λ t51 w =>
 Zr t51 (
 Yp w λ C6 w =>
 Sh t1 t3 t4 C6 next5 R w) (
 B0 .add 3 true t3 (.int .i64 1) R w λ t21 w =>
 next2 t21 w)
def IC (t1 t3 t29 t37:Value) (next2:KV) (R:RT) (w:World):Prop :=
 Zu t29 (.bool true) t37 λ t38 =>
 Zq (λ (t47:Value) (w:World) =>
 Zu t38 (.bool true) t47 λ t48 =>
 Zr t48 (
 R (.returned (.bool false)) w) (
 Yi (λ t4 w next5 =>
 Sn t1 t3 t4 next2 next5 R w) (.int .i64 0) w)) λ K4 =>
 Zl t38 false (
 F0 45 t1 1 R w λ t40 w =>
 L0 43 t40 R w λ t41 w =>
 X0 43 t41 t3 R w λ t43 w =>
 F0 62 t43 1 R w λ t44 w =>
 L0 3 t44 R w λ t45 w =>
 C0 190 #[t45] R w λ t46 w =>
 opV Pg (Op.unary .not t46) (Zd R) w λ t47 w =>
 K4 t47 w) (
 K4 undef w)
def SC (t1 t3 t28:Value) (next2:KV) (R:RT) (w:World):Prop :=
 opV Pg (Op.unary .not t28) (Zd R) w λ t29 w =>
 Zq (λ (t37:Value) (w:World) =>
 IC t1 t3 t29 t37 next2 R w) λ K3 =>
 Zl t29 false (
 F0 45 t1 1 R w λ t31 w =>
 L0 43 t31 R w λ t32 w =>
 X0 43 t32 t3 R w λ t34 w =>
 F0 62 t34 1 R w λ t35 w =>
 L0 3 t35 R w λ t36 w =>
 B0 .eql 3 true t36 (.int .i64 0) R w λ t37 w =>
 K3 t37 w) (
 K3 undef w)
def Ta (t1 t3:Value) (next2:KV) (R:RT) (w:World):Prop :=
 F0 45 t1 1 R w λ t22 w =>
 L0 43 t22 R w λ t23 w =>
 X0 43 t23 t3 R w λ t25 w =>
 F0 62 t25 0 R w λ t26 w =>
 L0 9 t26 R w λ t27 w =>
 C0 89 #[t27] R w λ t28 w =>
 SC t1 t3 t28 next2 R w
def O3 (t1 t3:Value) (next2:KV) (R:RT) (w:World):Prop :=
 F0 45 t1 1 R w λ t16 w =>
 L0 43 t16 R w λ t17 w =>
 opV Pg (Builtin.len_ #[43] 3 #[t17]) (Zd R) w λ t18 w =>
 B0 .lss 3 false t3 t18 R w λ t19 w =>
 Zr t19 (
 Ta t1 t3 next2 R w) (
 R (.returned (.bool true)) w)
def R3 (t1 t7:Value) (R:RT) (w:World):Prop :=
 opV Pg (Op.unary .not t7) (Zd R) w λ t8 w =>
 Zq (λ (t13:Value) (w:World) =>
 Zu t8 (.bool true) t13 λ t14 =>
 Zr t14 (
 R (.returned (.bool false)) w) (
 Yi (λ t3 w next2 =>
 O3 t1 t3 next2 R w) (.int .i64 0) w)) λ K1 =>
 Zl t8 false (
 F0 45 t1 1 R w λ t10 w =>
 L0 43 t10 R w λ t11 w =>
 opV Pg (Builtin.len_ #[43] 3 #[t11]) (Zd R) w λ t12 w =>
 B0 .gtr 3 true t12 (.int .i64 4) R w λ t13 w =>
 K1 t13 w) (
 K1 undef w)
def n17 (t0:Value) (R:RT) (w:World):Prop :=
 opV Pg (Instr.box 45 t0) (Zd R) w λ t1 w =>
 F0 45 t1 0 R w λ t5 w =>
 L0 3 t5 R w λ t6 w =>
 C0 190 #[t6] R w λ t7 w =>
 R3 t1 t7 R w
set_option maxHeartbeats 40000000 in
theorem ZgD {t0:Value} {R:RT} {w:World} (h:n17 t0 R w):Calls Pg 174 #[t0] w R:=by
 refine yD Tryz.func174 ?_
 refine zs<|zr<|yv h λ _ w h=>zm<|zn<|zk<|zs<|zs<|Zs<|yG 5<|yv h λ _ w h=>yv h λ _ w h=>yc h Zbh λ _ w h=>yv h λ _ w h=>zm ?_
 refine zn<|yg1 4 4 false [10,11,12,13] 13 h (λ _ T hT h=>?_) λ σ w h=>?_
 · refine yv h λ _ w h=>yv h λ _ w h=>yx h λ _ w h=>yb h λ _ w h=>zn ?_
   exact zt hT h
 refine yG 1<|yp h λ _ h=>zn<|ZG<|zk<|yC h (λ h=>zs<|zr<|zm<|zn<|zk<|Zk<|Zb<|Zi rfl rfl h) λ h=>Zh<|zk<|zs<|zs<|zr<|zm<|zn<|zk ?_
 refine Zj<|yl1 [2,3,4,15,16,17,18,19,20,21,22,23,24,25,26,27,28,29,30,31,32,33,34,35,36,37,38,39,40,41,42,43,44,45,46,47,48,49,50,51,52,53,54,55,56,57,58,59,60,61,62,63,64,65,66] 3 h λ σ w next h=>zs<|zs<|zr<|zm<|yv h λ _ w h=>yv h λ _ w h=>yx h λ _ w h=>yb h λ _ w h=>zn<|zk<|yC h (λ h=>?_) λ h=>?_
 · refine Zh<|zk<|zs<|Zj<|zs<|zs<|Zs<|yG 9<|yv h λ _ w h=>yv h λ _ w h=>zm<|yv h λ _ w h=>yv h λ _ w h=>yv h λ _ w h=>yc h c89 λ _ w h=>?_
   refine yv h λ _ w h=>zm<|zn<|yg1 7 8 false [31,32,33,34,35,36,37] 37 h (λ _ T hT h=>?_) λ σ w h=>?_
   · refine yv h λ _ w h=>yv h λ _ w h=>zm<|yv h λ _ w h=>yv h λ _ w h=>yv h λ _ w h=>yb h λ _ w h=>zn ?_
     exact zt hT h
   refine yG 2<|yp h λ _ h=>zm<|zn<|yg1 8 17 false [40,41,42,43,44,45,46,47] 47 h (λ _ T hT h=>?_) λ σ w h=>?_
   · refine yv h λ _ w h=>yv h λ _ w h=>zm<|yv h λ _ w h=>yv h λ _ w h=>yv h λ _ w h=>yc h Zbh λ _ w h=>yv h λ _ w h=>zn ?_
     exact zt hT h
   refine yG 1<|yp h λ _ h=>zn<|ZG<|zk<|yC h (λ h=>zs<|zr<|zm<|zn<|zk<|Zk<|Zb<|Zf<|Zb<|Zb<|Zf<|Zb<|Zi rfl rfl h) λ h=>Zh<|zk<|zs<|zr<|zm<|zn<|zk<|Zj ?_
   refine yl1 [2,4,49,50,51,52,53,54,55,56,57,58,59,60,61,62,63,64,65,66] 4 h λ σ w next h=>zs<|zs<|zr<|zm<|zm<|yb h λ _ w h=>zn<|zk<|yC h (λ h=>?_) λ h=>?_
   · refine Zh<|zk<|zs<|Zj<|zs<|yh [54,55,56,57,58,59,60,61,62,63,64,65,66] h λ C hC h=>ye 0 hC h λ _ h=>?_
     refine ye 1 hC h λ _ h=>?_
     refine yw 2 hC ?_
     refine ye 3 hC h λ _ h=>?_
     refine ye 4 hC h λ _ h=>?_
     refine ye 5 hC h λ _ h=>?_
     refine ye 6 hC h λ _ h=>?_
     refine ye 7 hC h λ _ h=>?_
     refine yw 8 hC ?_
     refine ye 9 hC h λ _ h=>?_
     refine ye 10 hC h λ _ h=>?_
     refine ye 11 hC h λ _ h=>?_
     refine ye 12 hC h λ _ h=>?_
     refine yz<|zk<|yC h (λ h=>?_) λ h=>?_
     · refine zs<|zr<|zm<|zn<|zk<|Zk<|Zf<|Zb<|Zb<|Zf<|Zf<|Zb<|Zb<|Zf<|Zb ?_
       exact Zi rfl rfl h
     exact Zh<|Zg<|zk<|zr<|zm<|yb h λ _ w h=>zm<|zn<|zk<|⟨rfl,h⟩
   exact Zy<|Zc<|Zc<|Zn<|Zg<|zk<|zr<|zm<|yb h λ _ w h=>zm<|zn<|zk<|⟨rfl,h⟩
 exact Zy<|Zc<|Zc<|Zn<|zk<|zs<|zr<|zm<|zn<|zk<|Zk<|Zi rfl rfl h
def RY (t0 t1 t5 t6:Value) (next1:KW) (R:RT) (w:World):Prop :=
 X0 173 t0 t6 R w λ t15 w =>
 F0 206 t15 0 R w λ t16 w =>
 L0 9 t16 R w λ t17 w =>
 B0 .eql 9 false t17 t1 R w λ t19 w =>
 Zq (λ (t5:Value) (w:World) =>
 B0 .add 3 true t6 (.int .i64 1) R w λ t12 w =>
 next1 t5 t12 w) λ K2 =>
 Zr t19 (
 K2 t6 w) (
 K2 t5 w)
def OT (t0 t1 t5 t6:Value) (next1:KW) (R:RT) (w:World):Prop :=
 opV Pg (Builtin.len_ #[173] 3 #[t0]) (Zd R) w λ t9 w =>
 B0 .lss 3 false t6 t9 R w λ t10 w =>
 Zr t10 (
 RY t0 t1 t5 t6 next1 R w) (
 R (.returned t5) w)
def n13 (t0 t1:Value) (R:RT) (w:World):Prop :=
 XP (λ t5 t6 w next1 =>
 OT t0 t1 t5 t6 next1 R w) (.int .i64 (-1)) (.int .i64 0) w
theorem Zea {t0 t1:Value} {R:RT} {w:World} (h:n13 t0 t1 R w):Calls Pg 175 #[t0,t1] w R:=by
 refine yD Tryz.func175 ?_
 refine zs<|zr<|zm<|zn<|zk<|zs<|zr<|zm<|zn<|zk<|zs<|zs<|zr<|zm<|zn ?_
 refine zk<|Zj<|yl2 [5,6,7,8,9,10,11,12,13,14,15,16,17,18,19,20] 5 6 h λ σ w next h=>zs<|zs<|zr<|zm<|zm<|yx h λ _ w h=>yb h λ _ w h=>zn<|zk<|yC h (λ h=>?_) λ h=>?_
 · refine Zh<|zk<|zs<|Zj<|zs<|zr<|zm<|zm<|yv h λ _ w h=>yv h λ _ w h=>yv h λ _ w h=>zm<|yb h λ _ w h=>zn<|zk ?_
   refine yJ1 [5,20] 5 h (λ _ _ hkK2 h=>?_) λ σ w h=>?_
   · refine yC h (λ h=>?_) λ h=>?_
     · refine zr<|zm<|zm<|zn<|zk ?_
       exact zt hkK2 h
     refine Zh<|zk ?_
     exact zt hkK2 h
   exact Zg<|zk<|zr<|zm<|yb h λ _ w h=>zm<|zn<|zk<|⟨rfl,h⟩
 exact Zy<|Zc<|Zc<|Zn<|zk<|zs<|zr<|zm<|zm<|zn<|zk<|Zk<|Zi rfl rfl h
def Zcr (t0 t1:Value) (R:RT) (w:World):Prop :=
 C0 192 #[t0,t1] R w λ t7 w =>
 B0 .geq 3 true t7 (.int .i64 0) R w λ t8 w =>
 R (.returned t8) w
theorem ZcF {t0 t1:Value} {R:RT} {w:World} (h:Zcr t0 t1 R w):Calls Pg 182 #[t0,t1] w R:=by
 refine yD Tryz.func182 ?_
 refine zs<|zr<|zm<|zn<|zk<|zs<|zr<|zm<|zm<|yc h Zfx λ _ w h=>yb h λ _ w h=>zm<|zn<|zk<|Zk ?_
 exact Zi rfl rfl h
def OW (t0 t1 t8:Value) (next1:KV) (R:RT) (w:World):Prop :=
 X0 200 t0 t8 R w λ t14 w =>
 L0 5 t14 R w λ t15 w =>
 Qi Pg t1 #[t15] (Zd R) w λ t16 w =>
 Zr t16 (
 R (.returned t8) w) (
 B0 .add 3 true t8 (.int .i64 1) R w λ t18 w =>
 next1 t18 w)
def ZaV (t0 t1:Value) (R:RT) (w:World):Prop :=
 opV Pg (Builtin.len_ #[200] 3 #[t0]) (Zd R) w λ t7 w =>
 Yi (λ t8 w next1 =>
 B0 .lss 3 false t8 t7 R w λ t9 w =>
 Zr t9 (
 OW t0 t1 t8 next1 R w) (
 R (.returned (.int .i64 (-1))) w)) (.int .i64 0) w
theorem ZcX {t0 t1:Value} {R:RT} {w:World} (h:ZaV t0 t1 R w):Calls Pg 183 #[t0,t1] w R:=by
 refine yD Tryz.func183 ?_
 refine zs<|zr<|zm<|zn<|zk<|zs<|zs<|zr<|zm<|yx h λ _ w h=>zm<|zn<|zk<|Zj<|yl1 [4,5,8,9,10,11,12,13,14,15,16,17,18] 8 h λ σ w next h=>?_
 refine zs<|zr<|yb h λ _ w h=>zn<|zk<|zs<|yC h (λ h=>?_) λ h=>?_
 · refine Zh<|zk<|zs<|Zj<|zs<|zr<|zm<|zm<|zn<|zk<|zs<|zr<|zm<|zm<|zm ?_
   refine yv h λ _ w h=>yv h λ _ w h=>yV h λ _ w h=>zn<|zk<|yC h (λ h=>zs<|zr<|zm<|zm<|zn<|zk<|Zk<|Zf<|Zb<|Zb<|Zf<|Zb<|Zi rfl rfl h) λ h=>Zh<|Zg<|zk<|zr<|yb h λ _ w h=>zm<|zn<|zk ?_
   exact ⟨rfl,h⟩
 exact Zy<|Zc<|Zc<|Zn<|zk<|zs<|zr<|zm<|zn<|zk<|Zk<|Zi rfl rfl h
def Sd (t0:Value) (C1:World→Prop) (R:RT) (w:World):Prop :=
 qN Pg C1 (YM t0) λ t4 =>
 qV Pg C1 (Instr.fieldAt 164 t4 5) λ t5 =>
 qV Pg C1 (Instr.fieldAt 24 t5 1) λ t6 =>
 qV Pg C1 (Instr.loadAt 22 t6) λ t7 =>
 qN Pg C1 (YM t0) λ t9 =>
 qV Pg C1 (Instr.fieldAt 164 t9 4) λ t10 =>
 qV Pg C1 (Instr.loadAt 3 t10) λ t11 =>
 qV Pg C1 (Instr.sliceAt 22 t7 none (some t11) none) λ t12 =>
 R (.returned t12) w
def n55 (t0:Value) (R:RT) (w:World):Prop :=
 Yp w λ C1 w =>
 Sd t0 C1 R w
theorem Zed {t0:Value} {R:RT} {w:World} (h:n55 t0 R w):Calls Pg 184 #[t0] w R:=by
 refine yD Tryz.func184 ?_
 refine zs<|zr<|zm<|zn<|zk<|zs<|yh [2,3,4,5,6,7,8,9,10,11,12] h λ C hC h=>yw 0 hC ?_
 refine yn 1 hC h λ _ h=>?_
 refine ye 2 hC h λ _ h=>?_
 refine ye 3 hC h λ _ h=>?_
 refine ye 4 hC h λ _ h=>?_
 refine yw 5 hC ?_
 refine yn 6 hC h λ _ h=>?_
 refine ye 7 hC h λ _ h=>?_
 refine ye 8 hC h λ _ h=>?_
 refine ye 9 hC h λ _ h=>?_
 refine yw 10 hC ?_
 exact yz<|zk<|Zk<|Zi rfl rfl h
def n69 (R:RT) (w:World):Prop :=
 opV Pg (Instr.makeMap 221 none) (Zd R) w λ t1 w =>
 opV Pg (Instr.build 219 #[(0,(.func (.func 193) #[] #[])),(1,(.func (.func 194) #[] #[]))]) (Zd R) w λ t2 w =>
 opU Pg (Instr.mapUpdate 221 t1 (.int .i64 1) t2) (Zd R) w λ w =>
 opV Pg (Instr.build 219 #[(0,(.func (.func 197) #[] #[])),(1,(.func (.func 198) #[] #[]))]) (Zd R) w λ t3 w =>
 opU Pg (Instr.mapUpdate 221 t1 (.int .i64 2) t3) (Zd R) w λ w =>
 opV Pg (Instr.build 219 #[(0,(.func (.func 199) #[] #[])),(1,(.func (.func 200) #[] #[]))]) (Zd R) w λ t4 w =>
 opU Pg (Instr.mapUpdate 221 t1 (.int .i64 3) t4) (Zd R) w λ w =>
 opV Pg (Instr.build 219 #[(0,(.func (.func 201) #[] #[])),(1,(.func (.func 202) #[] #[]))]) (Zd R) w λ t5 w =>
 opU Pg (Instr.mapUpdate 221 t1 (.int .i64 4) t5) (Zd R) w λ w =>
 opV Pg (Instr.build 219 #[(0,(.func (.func 203) #[] #[])),(1,(.func (.func 204) #[] #[]))]) (Zd R) w λ t6 w =>
 opU Pg (Instr.mapUpdate 221 t1 (.int .i64 5) t6) (Zd R) w λ w =>
 opV Pg (Instr.build 219 #[(0,(.func (.func 205) #[] #[])),(1,(.func (.func 206) #[] #[]))]) (Zd R) w λ t7 w =>
 opU Pg (Instr.mapUpdate 221 t1 (.int .i64 6) t7) (Zd R) w λ w =>
 opV Pg (Instr.build 219 #[(0,(.func (.func 207) #[] #[])),(1,(.func (.func 208) #[] #[]))]) (Zd R) w λ t8 w =>
 opU Pg (Instr.mapUpdate 221 t1 (.int .i64 7) t8) (Zd R) w λ w =>
 opV Pg (Instr.build 219 #[(0,(.func (.func 210) #[] #[])),(1,(.func (.func 211) #[] #[]))]) (Zd R) w λ t9 w =>
 opU Pg (Instr.mapUpdate 221 t1 (.int .i64 8) t9) (Zd R) w λ w =>
 opV Pg (Instr.build 219 #[(0,(.func (.func 212) #[] #[])),(1,(.func (.func 213) #[] #[]))]) (Zd R) w λ t10 w =>
 opU Pg (Instr.mapUpdate 221 t1 (.int .i64 9) t10) (Zd R) w λ w =>
 opV Pg (Instr.build 219 #[(0,(.func (.func 214) #[] #[])),(1,(.func (.func 215) #[] #[]))]) (Zd R) w λ t11 w =>
 opU Pg (Instr.mapUpdate 221 t1 (.int .i64 10) t11) (Zd R) w λ w =>
 opV Pg (Instr.build 219 #[(0,(.func (.func 216) #[] #[])),(1,(.func (.func 217) #[] #[]))]) (Zd R) w λ t12 w =>
 opU Pg (Instr.mapUpdate 221 t1 (.int .i64 11) t12) (Zd R) w λ w =>
 opV Pg (Instr.build 219 #[(0,(.func (.func 218) #[] #[])),(1,(.func (.func 219) #[] #[]))]) (Zd R) w λ t13 w =>
 opU Pg (Instr.mapUpdate 221 t1 (.int .i64 12) t13) (Zd R) w λ w =>
 R (.returned t1) w
theorem Zfn {R:RT} {w:World} (h:n69 R w):Calls Pg 185 #[] w R:=by
 refine yD Tryz.func185 ?_
 refine zs<|zr<|zm<|zn<|zk<|zs<|zr<|yv h λ _ w h=>yB h λ _ w h=>yu h λ w h=>yB h λ _ w h=>yu h λ w h=>yB h λ _ w h=>yu h λ w h=>yB h λ _ w h=>?_
 refine yu h λ w h=>yB h λ _ w h=>yu h λ w h=>yB h λ _ w h=>yu h λ w h=>yB h λ _ w h=>yu h λ w h=>yB h λ _ w h=>yu h λ w h=>yB h λ _ w h=>yu h λ w h=>yB h λ _ w h=>yu h λ w h=>yB h λ _ w h=>yu h λ w h=>?_
 exact yB h λ _ w h=>yu h λ w h=>zm<|zm<|zn<|zk<|Zk<|Zi rfl rfl h
def zY (t5 t13 t19 t22:Value) (C2:World→Prop) (next1:KW) (R:RT) (w:World):Prop :=
 qV Pg C2 (ZM .mul 3 false t19 t22) λ t23 =>
 qV Pg C2 (ZM .add 3 false t5 t23) λ t24 =>
 B0 .add 3 true t13 (.int .i64 1) R w λ t25 w =>
 next1 t24 t25 w
def zu (t1 t5 t7 t13:Value) (C2:World→Prop) (next1:KW) (R:RT) (w:World):Prop :=
 qV Pg C2 (Instr.fieldAt 62 t7 1) λ t18 =>
 qV Pg C2 (Instr.loadAt 3 t18) λ t19 =>
 qV Pg C2 (Instr.loadAt 62 t7) λ t21 =>
 Qi Pg t1 #[t21] (Zd R) w λ t22 w =>
 C2 w∧(
 zY t5 t13 t19 t22 C2 next1 R w)
def zA (t1 t5 t11 t13:Value) (next1:KW) (R:RT) (w:World):Prop :=
 X0 43 t11 t13 R w λ t15 w =>
 L0 62 t15 R w λ t16 w =>
 opV Pg (Instr.alloc 62 true (.tuple #[])) (Zd R) w λ t7 w =>
 opU Pg (Instr.storeAt 62 t7 t16) (Zd R) w λ w =>
 Yp w λ C2 w =>
 zu t1 t5 t7 t13 C2 next1 R w
def Zdf (t0 t1:Value) (R:RT) (w:World):Prop :=
 opV Pg (Instr.box 45 t0) (Zd R) w λ t2 w =>
 F0 45 t2 0 R w λ t8 w =>
 L0 3 t8 R w λ t9 w =>
 F0 45 t2 1 R w λ t10 w =>
 L0 43 t10 R w λ t11 w =>
 opV Pg (Builtin.len_ #[43] 3 #[t11]) (Zd R) w λ t12 w =>
 XP (λ t5 t13 w next1 =>
 B0 .lss 3 false t13 t12 R w λ t14 w =>
 Zr t14 (
 zA t1 t5 t11 t13 next1 R w) (
 R (.returned t5) w)) t9 (.int .i64 0) w
theorem ZcL {t0 t1:Value} {R:RT} {w:World} (h:Zdf t0 t1 R w):Calls Pg 231 #[t0,t1] w R:=by
 refine yD Tryz.func231 ?_
 refine zs<|zr<|yv h λ _ w h=>zm<|zn<|zk<|zs<|zr<|yv h λ _ w h=>yv h λ _ w h=>zm<|zn<|zk<|zs<|zs ?_
 refine zr<|yv h λ _ w h=>yv h λ _ w h=>yx h λ _ w h=>zm<|zn<|zk<|Zj<|yl2 [5,7,13,14,15,16,17,18,19,20,21,22,23,24,25] 5 13 h λ σ w next h=>zs<|zr<|yb h λ _ w h=>zn<|zk<|zs ?_
 refine yC h (λ h=>?_) λ h=>?_
 · refine Zh<|zk<|zs<|Zj<|zs<|zr<|yv h λ _ w h=>yv h λ _ w h=>yv h λ _ w h=>yu h λ w h=>zn<|zk<|yh [5,17,18,19,20,21,22,23,24] h λ C hC h=>yw 0 hC ?_
   refine ye 1 hC h λ _ h=>?_
   refine ye 2 hC h λ _ h=>?_
   refine yw 3 hC ?_
   refine ye 4 hC h λ _ h=>?_
   refine yo 5 ?_
   refine yV h λ _ w h=>zn ?_
   obtain ⟨hC,h⟩:=h
   refine ⟨hC,?_⟩
   refine ye 6 hC h λ _ h=>?_
   refine ye 7 hC h λ _ h=>?_
   refine yw 8 hC ?_
   exact yz<|Zg<|zk<|zr<|yb h λ _ w h=>zm<|zn<|zk<|⟨rfl,h⟩
 exact Zy<|Zc<|Zc<|Zn<|zk<|zs<|zr<|zm<|zm<|zn<|zk<|Zk<|Zi rfl rfl h
def Uz (t1 t3:Value) (R:RT) (w:World):Prop :=
 L0 122 t1 R w λ t17 w =>
 F0 62 t3 0 R w λ t18 w =>
 L0 9 t18 R w λ t19 w =>
 opV Pg (Instr.lookup 122 t17 t19 false) (Zd R) w λ t20 w =>
 opV Pg (Instr.field 74 t20 1) (Zd R) w λ t21 w =>
 R (.returned t21) w
def Zdh (t0 t1 t2:Value) (R:RT) (w:World):Prop :=
 opV Pg (Instr.box 62 t0) (Zd R) w λ t3 w =>
 L0 122 t1 R w λ t6 w =>
 F0 62 t3 0 R w λ t7 w =>
 L0 9 t7 R w λ t8 w =>
 opV Pg (Instr.lookup 122 t6 t8 false) (Zd R) w λ t9 w =>
 opV Pg (Instr.alloc 74 true (.tuple #[])) (Zd R) w λ t5 w =>
 opU Pg (Instr.storeAt 74 t5 t9) (Zd R) w λ w =>
 L0 4 t2 R w λ t10 w =>
 F0 62 t3 1 R w λ t11 w =>
 L0 3 t11 R w λ t12 w =>
 B0 .gtr 3 true t12 (.int .i64 0) R w λ t13 w =>
 B0 .eql 4 false t10 t13 R w λ t14 w =>
 Zr t14 (
 F0 74 t5 0 R w λ t15 w =>
 L0 3 t15 R w λ t16 w =>
 R (.returned t16) w) (
 Uz t1 t3 R w)
theorem ZbA {t0 t1 t2:Value} {R:RT} {w:World} (h:Zdh t0 t1 t2 R w):Calls Pg 232 #[t0,t1,t2] w R:=by
 refine yD Tryz.func232 ?_
 refine zs<|zr<|yv h λ _ w h=>zm<|zn<|zk<|zs<|zs<|zr<|yv h λ _ w h=>yv h λ _ w h=>yv h λ _ w h=>yv h λ _ w h=>yv h λ _ w h=>yu h λ w h=>?_
 refine zn<|zk<|zs<|zr<|yv h λ _ w h=>yv h λ _ w h=>yv h λ _ w h=>yb h λ _ w h=>yb h λ _ w h=>zn<|zk<|yC h (λ h=>zs<|zr<|yv h λ _ w h=>yv h λ _ w h=>zm<|zn<|zk<|Zk<|Zb<|Zi rfl rfl h) λ h=>Zh<|zk ?_
 exact zs<|zr<|yv h λ _ w h=>yv h λ _ w h=>yv h λ _ w h=>yv h λ _ w h=>yv h λ _ w h=>zm<|zn<|zk<|Zk<|Zi rfl rfl h
def Ai (t16 t19 t22:Value) (C1:World→Prop) (K2:KV) (R:RT) (w:World):Prop :=
 opV Pg (Instr.buildSlice 93 3 #[(0,t16),(1,t19),(2,t22)]) (Zd R) w λ t23 w =>
 C1 w∧(
 C0 158 #[t23] R w λ t24 w =>
 C1 w∧(
 qV Pg C1 (Op.unary .not t24) λ t25 =>
 K2 t25 w))
def jL (t2:Value) (C1:World→Prop) (K2:KV) (R:RT) (w:World):Prop :=
 qV Pg C1 (Instr.fieldAt 62 t2 0) λ t14 =>
 qV Pg C1 (Instr.loadAt 9 t14) λ t15 =>
 qV Pg C1 (Instr.fieldAt 62 t2 1) λ t17 =>
 qV Pg C1 (Instr.loadAt 3 t17) λ t18 =>
 qV Pg C1 (ZM .neq 3 true t18 (.int .i64 0)) λ t19 =>
 qV Pg C1 (Instr.fieldAt 62 t2 1) λ t20 =>
 qV Pg C1 (Instr.loadAt 3 t20) λ t21 =>
 C0 123 #[t15] R w λ t16 w =>
 C1 w∧(
 C0 234 #[t21] R w λ t22 w =>
 C1 w∧(
 Ai t16 t19 t22 C1 K2 R w))
def Zdk (t0 t1:Value) (R:RT) (w:World):Prop :=
 opV Pg (Instr.box 62 t0) (Zd R) w λ t2 w =>
 L0 162 t1 R w λ t5 w =>
 F0 62 t2 0 R w λ t6 w =>
 L0 9 t6 R w λ t7 w =>
 opV Pg (Instr.lookup 162 t5 t7 false) (Zd R) w λ t8 w =>
 L0 162 t1 R w λ t9 w =>
 F0 62 t2 0 R w λ t10 w =>
 L0 9 t10 R w λ t11 w =>
 opU Pg (Instr.mapUpdate 162 t9 t11 (.bool true)) (Zd R) w λ w =>
 Yp w λ C1 w =>
 Zq (λ (t25:Value) (w:World) =>
 Zu t8 (.bool true) t25 λ t26 =>
 R (.returned t26) w) λ K2 =>
 Zl t8 false (
 jL t2 C1 K2 R w) (
 K2 undef w)
theorem Zbb {t0 t1:Value} {R:RT} {w:World} (h:Zdk t0 t1 R w):Calls Pg 233 #[t0,t1] w R:=by
 refine yD Tryz.func233 ?_
 refine zs<|zr<|yv h λ _ w h=>zm<|zn<|zk<|zs<|zr<|yv h λ _ w h=>yv h λ _ w h=>yv h λ _ w h=>yv h λ _ w h=>zm<|zn<|zk ?_
 refine zs<|zr<|yv h λ _ w h=>yv h λ _ w h=>yv h λ _ w h=>yu h λ w h=>zn<|zk<|zs<|yh [3,12,13,14,15,16,17,18,19,20,21,22,23,24,25,26] h λ C hC h=>yw 0 hC ?_
 refine yw 1 hC ?_
 refine yj1 2 [13,12,11,10,4,9,8,7,6,5,3,2,1,0] [14,15,16,17,18,19,20,21,22,23,24,25] 25 h (λ _ hT hb h=>?_) (λ _ hT hb h=>?_) λ σ w hC h=>?_
 · refine ye 2 hC h λ _ h=>?_
   refine ye 3 hC h λ _ h=>?_
   refine ye 5 hC h λ _ h=>?_
   refine ye 6 hC h λ _ h=>?_
   refine ye 7 hC h λ _ h=>?_
   refine ye 8 hC h λ _ h=>?_
   refine ye 9 hC h λ _ h=>?_
   refine yo 4 ?_
   refine yc h PT λ _ w h=>zn ?_
   obtain ⟨hC,h⟩:=h
   refine ⟨hC,?_⟩
   refine yo 10 ?_
   refine yc h ZbC λ _ w h=>zn ?_
   obtain ⟨hC,h⟩:=h
   refine ⟨hC,?_⟩
   refine yo 11 ?_
   refine yS h λ _ w h=>zn ?_
   obtain ⟨hC,h⟩:=h
   refine ⟨hC,?_⟩
   refine yo 12 ?_
   refine yc h Rh λ _ w h=>zn ?_
   obtain ⟨hC,h⟩:=h
   refine ⟨hC,?_⟩
   refine ye 13 hC h λ _ h=>?_
   exact yt hT hC h
 · refine yi 2 hC ?_
   refine yi 3 hC ?_
   refine yi 5 hC ?_
   refine yi 6 hC ?_
   refine yi 7 hC ?_
   refine yi 8 hC ?_
   refine yi 9 hC ?_
   refine yi 4 hC ?_
   refine yi 10 hC ?_
   refine yi 11 hC ?_
   refine yi 12 hC ?_
   refine yi 13 hC ?_
   exact yt hT hC h
 refine yP 14 hC h λ _ h=>?_
 refine yw 15 hC ?_
 exact yz<|zk<|Zk<|Zi rfl rfl h
def ZcC (t0:Value) (R:RT) (w:World):Prop :=
 opV Pg (ZM .geq 3 true t0 (.int .i64 (-1048576))) (Zd R) w λ t4 w =>
 Zq (λ (t7:Value) (w:World) =>
 Zu t4 t7 (.bool false) λ t8 =>
 R (.returned t8) w) λ K1 =>
 Zl t4 true (
 B0 .leq 3 true t0 (.int .i64 1048576) R w λ t7 w =>
 K1 t7 w) (
 K1 undef w)
theorem Zcq {t0:Value} {R:RT} {w:World} (h:ZcC t0 R w):Calls Pg 234 #[t0] w R:=by
 refine yD Tryz.func234 ?_
 refine zs<|zr<|zm<|zn<|zk<|zs<|Zs<|yG 3<|zm<|yb h λ _ w h=>zm<|zn<|yg1 2 2 true [6,7] 7 h (λ _ T hT h=>?_) λ σ w h=>?_
 · refine zm<|yb h λ _ w h=>zn ?_
   exact zt hT h
 exact yG 2<|yp h λ _ h=>zm<|zn<|ZG<|zk<|Zk<|Zi rfl rfl h
def ZaX (t0 t1:Value) (R:RT) (w:World):Prop :=
 C0 238 #[t0,t1] R w λ t7 w =>
 B0 .geq 3 true t7 (.int .i64 0) R w λ t8 w =>
 R (.returned t8) w
theorem Zca {t0 t1:Value} {R:RT} {w:World} (h:ZaX t0 t1 R w):Calls Pg 235 #[t0,t1] w R:=by
 refine yD Tryz.func235 ?_
 refine zs<|zr<|zm<|zn<|zk<|zs<|zr<|zm<|zm<|yc h ZgN λ _ w h=>yb h λ _ w h=>zm<|zn<|zk<|Zk ?_
 exact Zi rfl rfl h
def BH (t1 t2:Value) (R:RT) (w:World):Prop :=
 F0 48 t1 5 R w λ t13 w =>
 L0 3 t13 R w λ t14 w =>
 F0 48 t1 5 R w λ t15 w =>
 L0 3 t15 R w λ t16 w =>
 opV Pg (Instr.build 74 #[(0,t14),(1,t16)]) (Zd R) w λ t17 w =>
 opU Pg (Instr.storeAt 74 t2 t17) (Zd R) w λ w =>
 qW Pg 74 t2 w λ r0 =>
 R (.returned (.tuple #[r0,(.int .i64 0)])) w
def Bp (t1 t2:Value) (R:RT) (w:World):Prop :=
 F0 48 t1 5 R w λ t18 w =>
 L0 3 t18 R w λ t19 w =>
 F0 48 t1 6 R w λ t20 w =>
 L0 3 t20 R w λ t21 w =>
 opV Pg (Instr.build 74 #[(0,t19),(1,t21)]) (Zd R) w λ t22 w =>
 opU Pg (Instr.storeAt 74 t2 t22) (Zd R) w λ w =>
 qW Pg 74 t2 w λ r0 =>
 R (.returned (.tuple #[r0,(.int .i64 0)])) w
def AR (t2:Value) (R:RT) (w:World):Prop :=
 opV Pg (Instr.build 74 #[]) (Zd R) w λ t8 w =>
 opU Pg (Instr.storeAt 74 t2 t8) (Zd R) w λ w =>
 qW Pg 74 t2 w λ r0 =>
 R (.returned (.tuple #[r0,(.int .i64 2)])) w
def AX (t1 t2:Value) (R:RT) (w:World):Prop :=
 F0 48 t1 1 R w λ t10 w =>
 L0 42 t10 R w λ t11 w =>
 B0 .eql 42 true t11 (.int .i64 2) R w λ t12 w =>
 Zr t12 (
 BH t1 t2 R w) (
 Bp t1 t2 R w)
def n51 (t0:Value) (R:RT) (w:World):Prop :=
 opV Pg (Instr.box 48 t0) (Zd R) w λ t1 w =>
 opV Pg (Instr.alloc 74 true (.tuple #[])) (Zd R) w λ t2 w =>
 L0 48 t1 R w λ t5 w =>
 C0 49 #[t5] R w λ t6 w =>
 opV Pg (Op.unary .not t6) (Zd R) w λ t7 w =>
 Zr t7 (
 AR t2 R w) (
 AX t1 t2 R w)
theorem Zey {t0:Value} {R:RT} {w:World} (h:n51 t0 R w):Calls Pg 236 #[t0] w R:=by
 refine yD Tryz.func236 ?_
 refine zs<|zr<|yv h λ _ w h=>yv h λ _ w h=>zm<|zn<|zk<|zs<|Zj<|zs<|zr<|yv h λ _ w h=>yc h c49 λ _ w h=>yv h λ _ w h=>zm ?_
 refine zn<|zk<|yC h (λ h=>zs<|zr<|yB h λ _ w h=>yu h λ w h=>zm<|zn<|zk<|Zk<|Zf<|Zb<|Yr rfl rfl rfl h) λ h=>zs<|zr<|yv h λ _ w h=>yv h λ _ w h=>yb h λ _ w h=>zm<|zn<|zk<|yC h (λ h=>zs<|zr<|yv h λ _ w h=>yv h λ _ w h=>yv h λ _ w h=>yv h λ _ w h=>yB h λ _ w h=>yu h λ w h=>zm<|zn<|zk<|Zk<|Zf<|Zb<|Yr rfl rfl rfl h) λ h=>Zh ?_
 exact Zg<|zk<|zs<|zr<|yv h λ _ w h=>yv h λ _ w h=>yv h λ _ w h=>yv h λ _ w h=>yB h λ _ w h=>yu h λ w h=>zm<|zn<|zk<|Zk<|Yr rfl rfl rfl h
def jf (t7 t14:Value) (next1:KV) (R:RT) (w:World):Prop :=
 opV Pg (Op.unary .not t14) (Zd R) w λ t15 w =>
 Zr t15 (
 R (.returned (.tuple #[])) w) (
 B0 .add 3 true t7 (.int .i64 1) R w λ t16 w =>
 next1 t16 w)
def qS (t0 t5 t7:Value) (next1:KV) (R:RT) (w:World):Prop :=
 X0 43 t5 t7 R w λ t9 w =>
 L0 62 t9 R w λ t10 w =>
 opV Pg (Instr.alloc 62 true (.tuple #[])) (Zd R) w λ t4 w =>
 opU Pg (Instr.storeAt 62 t4 t10) (Zd R) w λ w =>
 F0 62 t4 0 R w λ t12 w =>
 L0 9 t12 R w λ t13 w =>
 Qi Pg t0 #[t13] (Zd R) w λ t14 w =>
 jf t7 t14 next1 R w
def Za7 (t0 t1:Value) (R:RT) (w:World):Prop :=
 L0 43 t1 R w λ t5 w =>
 opV Pg (Builtin.len_ #[43] 3 #[t5]) (Zd R) w λ t6 w =>
 Yi (λ t7 w next1 =>
 B0 .lss 3 false t7 t6 R w λ t8 w =>
 Zr t8 (
 qS t0 t5 t7 next1 R w) (
 R (.returned (.tuple #[])) w)) (.int .i64 0) w
theorem Zcz {t0 t1:Value} {R:RT} {w:World} (h:Za7 t0 t1 R w):Calls Pg 237 #[t0,t1] w R:=by
 refine yD Tryz.func237 ?_
 refine zs<|zr<|yv h λ _ w h=>yx h λ _ w h=>zm<|zn<|zk<|Zj<|yl1 [4,7,8,9,10,11,12,13,14,15,16] 7 h λ σ w next h=>zs<|zr<|yb h λ _ w h=>zn<|zk<|zs ?_
 refine yC h (λ h=>?_) λ h=>?_
 · refine Zh<|zk<|zs<|Zj<|zs<|zr<|yv h λ _ w h=>yv h λ _ w h=>yv h λ _ w h=>yu h λ w h=>zn<|zk<|zs<|zr<|zm ?_
   refine yv h λ _ w h=>yv h λ _ w h=>yV h λ _ w h=>yv h λ _ w h=>zn<|zk<|yC h (λ h=>Zk<|Zf<|Zb<|Zb<|Zf<|ZZ rfl h) λ h=>Zh<|Zg<|zk<|zr<|yb h λ _ w h=>zm<|zn ?_
   exact zk<|⟨rfl,h⟩
 exact Zy<|Zc<|Zc<|Zn<|ZP<|ZZ rfl h
def OL (t0 t1 t8:Value) (next1:KV) (R:RT) (w:World):Prop :=
 X0 43 t0 t8 R w λ t14 w =>
 L0 62 t14 R w λ t15 w =>
 Qi Pg t1 #[t15] (Zd R) w λ t16 w =>
 Zr t16 (
 R (.returned t8) w) (
 B0 .add 3 true t8 (.int .i64 1) R w λ t18 w =>
 next1 t18 w)
def Zcc (t0 t1:Value) (R:RT) (w:World):Prop :=
 opV Pg (Builtin.len_ #[43] 3 #[t0]) (Zd R) w λ t7 w =>
 Yi (λ t8 w next1 =>
 B0 .lss 3 false t8 t7 R w λ t9 w =>
 Zr t9 (
 OL t0 t1 t8 next1 R w) (
 R (.returned (.int .i64 (-1))) w)) (.int .i64 0) w
theorem Zbr {t0 t1:Value} {R:RT} {w:World} (h:Zcc t0 t1 R w):Calls Pg 238 #[t0,t1] w R:=by
 refine yD Tryz.func238 ?_
 refine zs<|zr<|zm<|zn<|zk<|zs<|zs<|zr<|zm<|yx h λ _ w h=>zm<|zn<|zk<|Zj<|yl1 [4,5,8,9,10,11,12,13,14,15,16,17,18] 8 h λ σ w next h=>?_
 refine zs<|zr<|yb h λ _ w h=>zn<|zk<|zs<|yC h (λ h=>?_) λ h=>?_
 · refine Zh<|zk<|zs<|Zj<|zs<|zr<|zm<|zm<|zn<|zk<|zs<|zr<|zm<|zm<|zm ?_
   refine yv h λ _ w h=>yv h λ _ w h=>yV h λ _ w h=>zn<|zk<|yC h (λ h=>zs<|zr<|zm<|zm<|zn<|zk<|Zk<|Zf<|Zb<|Zb<|Zf<|Zb<|Zi rfl rfl h) λ h=>Zh<|Zg<|zk<|zr<|yb h λ _ w h=>zm<|zn<|zk ?_
   exact ⟨rfl,h⟩
 exact Zy<|Zc<|Zc<|Zn<|zk<|zs<|zr<|zm<|zn<|zk<|Zk<|Zi rfl rfl h
open Go.RowKit (intOf)
theorem Va (w0:World) (v:Value) (l:List Zm) (g:FuncId) (caps:Array Value) (p:Zm→Bool) (hs:Z4 w0 v l) (hg:Callable Pg g) (hc:qo w0 ZV g caps p l) :
 Ret Pg 134 #[v,.func (.func g) #[] caps] w0 λ r w'=>r = .int .i64 (idx p l)∧Ext w0 w':=by
 obtain ⟨A,c,rfl,hlc,hcm,hlm,hel⟩:=Ze.open hs
 refine ZbS (R:=ZQ _) ?_
 unfold ZaL
 simp (disch:=try exact DI) only [↓PR,QR,simprocAttr]
 refine ZA (λ i w=>∃ k:Nat,i = .int .i64 k∧k≤l.length∧Ext w0 w∧∀ (j:Nat) y,j < k→l[j]?=some y→p y=false) (λ i _=>l.length - (intOf i).toNat) ⟨0,rfl,by omega,Ext.refl _,λ j y h=>by omega⟩ ?_
 rintro i w ⟨k,rfl,hk,e,hb⟩
 by_cases hlt:k < l.length
 · obtain ⟨x,hx⟩:=getElem?_lt hlt
   obtain ⟨b,o,cs,rfl,hl,hA,hE⟩:=hel k x hx
   have hd:decide ((k:Int) < (l.length:Int))=true:=by simp;omega
   simp (disch:=try exact DI) only [↓PR,QR,simprocAttr,hd]
   unfold OH
   simp (disch:=try exact DI) only [↓PR,QR,simprocAttr]
   unfold W6 at hE
   obtain ⟨tv,cv,hcs,hT,hC⟩:=hE
   subst hcs
   have hV:ZV w0 (.agg (Zo x tv cv).toArray) x:=⟨tv,cv,rfl,hT,hC⟩
   simp (disch:=try exact DI) only [↓PR,QR,simprocAttr,hA.c15]
   rw [YI hg]
   simp only [Array.empty_append]
   refine Zt (hc w _ x (List.mem_of_getElem? hx) e (hV.ext e)) ?_
   rintro r w' ⟨rfl,e'⟩
   cases hp:p x with
   | true => 
    simp (disch:=try exact DI) only [↓PR,QR,simprocAttr]
    exact ⟨by rw [Qs hx hp hb],e.trans e'⟩
   | false =>
    simp (disch:=try exact DI) only [↓PR,QR,simprocAttr]
    refine ⟨⟨k+1,rfl,by omega,e.trans e',λ j y hj hy=>?_⟩,by simp [intOf];omega⟩
    by_cases hjk:j=k
    · subst hjk;rw [hx] at hy;injection hy with hy;subst hy;exact hp
    · exact hb j y (by omega) hy
 · have hd:decide ((k:Int) < (l.length:Int))=false:=by simp;omega
   simp (disch:=try exact DI) only [↓PR,QR,simprocAttr,hd]
   exact ⟨by rw [Wq λ j y hy=>hb j y (by have:=(List.getElem?_eq_some_iff.1 hy).1;omega) hy],e⟩
theorem U0 (w0:World) (v:Value) (l:List ZD) (g:FuncId) (caps:Array Value) (p:ZD→Bool) (hs:Q0 w0 v l) (hg:Callable Pg g) (hc:qo w0 Xe g caps p l) :
 Ret Pg 97 #[v,.func (.func g) #[] caps] w0 λ r w'=>r = .int .i64 (idx p l)∧Ext w0 w':=by
 obtain ⟨A,c,rfl,hlc,hcm,hlm,hel⟩:=Ze.open hs
 refine Zbn (R:=ZQ _) ?_
 unfold ZcK
 simp (disch:=try exact DI) only [↓PR,QR,simprocAttr]
 refine ZA (λ i w=>∃ k:Nat,i = .int .i64 k∧k≤l.length∧Ext w0 w∧∀ (j:Nat) y,j < k→l[j]?=some y→p y=false) (λ i _=>l.length - (intOf i).toNat) ⟨0,rfl,by omega,Ext.refl _,λ j y h=>by omega⟩ ?_
 rintro i w ⟨k,rfl,hk,e,hb⟩
 by_cases hlt:k < l.length
 · obtain ⟨x,hx⟩:=getElem?_lt hlt
   obtain ⟨b,o,cs,rfl,hl,hA,hE⟩:=hel k x hx
   have hd:decide ((k:Int) < (l.length:Int))=true:=by simp;omega
   simp (disch:=try exact DI) only [↓PR,QR,simprocAttr,hd]
   unfold Nl
   simp (disch:=try exact DI) only [↓PR,QR,simprocAttr]
   unfold GZ at hE
   obtain ⟨fv,hcs,hF⟩:=hE
   subst hcs
   have hV:Xe w0 (.agg (Zx x fv).toArray) x:=⟨fv,rfl,hF⟩
   simp (disch:=try exact DI) only [↓PR,QR,simprocAttr,hA.c2]
   rw [YI hg]
   simp only [Array.empty_append]
   refine Zt (hc w _ x (List.mem_of_getElem? hx) e (hV.ext e)) ?_
   rintro r w' ⟨rfl,e'⟩
   cases hp:p x with
   | true => 
    simp (disch:=try exact DI) only [↓PR,QR,simprocAttr]
    exact ⟨by rw [Qs hx hp hb],e.trans e'⟩
   | false =>
    simp (disch:=try exact DI) only [↓PR,QR,simprocAttr]
    refine ⟨⟨k+1,rfl,by omega,e.trans e',λ j y hj hy=>?_⟩,by simp [intOf];omega⟩
    by_cases hjk:j=k
    · subst hjk;rw [hx] at hy;injection hy with hy;subst hy;exact hp
    · exact hb j y (by omega) hy
 · have hd:decide ((k:Int) < (l.length:Int))=false:=by simp;omega
   simp (disch:=try exact DI) only [↓PR,QR,simprocAttr,hd]
   exact ⟨by rw [Wq λ j y hy=>hb j y (by have:=(List.getElem?_eq_some_iff.1 hy).1;omega) hy],e⟩
theorem Gr (w0:World) (v:Value) (l:List UInt8) (g:FuncId) (caps:Array Value) (p:UInt8→Bool) (hs:(λ w v l=>Ze w 1 SF v l) w0 v l) (hg:Callable Pg g) (hc:qo w0 (λ _ v x=>v = .int .u8 (x.toNat:Int)) g caps p l) :
 Ret Pg 183 #[v,.func (.func g) #[] caps] w0 λ r w'=>r = .int .i64 (idx p l)∧Ext w0 w':=by
 obtain ⟨A,c,rfl,hlc,hcm,hlm,hel⟩:=Ze.open hs
 refine ZcX (R:=ZQ _) ?_
 unfold ZaV
 simp (disch:=try exact DI) only [↓PR,QR,simprocAttr]
 refine ZA (λ i w=>∃ k:Nat,i = .int .i64 k∧k≤l.length∧Ext w0 w∧∀ (j:Nat) y,j < k→l[j]?=some y→p y=false) (λ i _=>l.length - (intOf i).toNat) ⟨0,rfl,by omega,Ext.refl _,λ j y h=>by omega⟩ ?_
 rintro i w ⟨k,rfl,hk,e,hb⟩
 by_cases hlt:k < l.length
 · obtain ⟨x,hx⟩:=getElem?_lt hlt
   obtain ⟨b,o,cs,rfl,hl,hA,hE⟩:=hel k x hx
   have hd:decide ((k:Int) < (l.length:Int))=true:=by simp;omega
   simp (disch:=try exact DI) only [↓PR,QR,simprocAttr,hd]
   unfold OW
   simp (disch:=try exact DI) only [↓PR,QR,simprocAttr]
   obtain rfl:=hE
   have hV:(.int .u8 (x.toNat:Int):Value) = .int .u8 (x.toNat:Int):=rfl
   simp (disch:=try exact DI) only [↓PR,QR,simprocAttr,hA.c1]
   rw [YI hg]
   simp only [Array.empty_append]
   refine Zt (hc w _ x (List.mem_of_getElem? hx) e (hV)) ?_
   rintro r w' ⟨rfl,e'⟩
   cases hp:p x with
   | true => 
    simp (disch:=try exact DI) only [↓PR,QR,simprocAttr]
    exact ⟨by rw [Qs hx hp hb],e.trans e'⟩
   | false =>
    simp (disch:=try exact DI) only [↓PR,QR,simprocAttr]
    refine ⟨⟨k+1,rfl,by omega,e.trans e',λ j y hj hy=>?_⟩,by simp [intOf];omega⟩
    by_cases hjk:j=k
    · subst hjk;rw [hx] at hy;injection hy with hy;subst hy;exact hp
    · exact hb j y (by omega) hy
 · have hd:decide ((k:Int) < (l.length:Int))=false:=by simp;omega
   simp (disch:=try exact DI) only [↓PR,QR,simprocAttr,hd]
   exact ⟨by rw [Wq λ j y hy=>hb j y (by have:=(List.getElem?_eq_some_iff.1 hy).1;omega) hy],e⟩
theorem Gw (w0 w1:World) (v:Value) (l:List ZX) (g:FuncId) (caps:Array Value) (p:Nat→Bool) (J:Nat→World→Prop) (hs:ZW w0 v l) (hg:Callable Pg g) (hJ:∀ k w,J k w→Ext w0 w) (h0:J 0 w1)
 (hc:∀ k x w u,l[k]?=some x→J k w→(λ _ v x=>v=VZ x) w u x→Ret Pg g (#[u]++caps) w λ r w'=>r = .bool (p k)∧J (k+1) w') :
 Ret Pg 238 #[v,.func (.func g) #[] caps] w1 λ r w'=>r = .int .i64 (idx p (List.range l.length))∧∃ k,J k w':=by
 obtain ⟨A,c,rfl,hlc,hcm,hlm,hel⟩:=Ze.open hs
 refine Zbr (R:=ZQ _) ?_
 unfold Zcc
 simp (disch:=try exact DI) only [↓PR,QR,simprocAttr]
 refine ZA (λ i w=>∃ k:Nat,i = .int .i64 k∧k≤l.length∧J k w∧∀ (j:Nat) y,j < k→(List.range l.length)[j]?=some y→p y=false) (λ i _=>l.length - (intOf i).toNat) ⟨0,rfl,by omega,h0,λ j y h=>by omega⟩ ?_
 rintro i w ⟨k,rfl,hk,hj,hb⟩
 have e:=hJ _ _ hj
 by_cases hlt:k < l.length
 · obtain ⟨x,hx⟩:=getElem?_lt hlt
   have hr:(List.range l.length)[k]?=some k:=by simp [hlt]
   obtain ⟨b,o,cs,rfl,hl,hA,hE⟩:=hel k x hx
   have hd:decide ((k:Int) < (l.length:Int))=true:=by simp;omega
   simp (disch:=try exact DI) only [↓PR,QR,simprocAttr,hd]
   unfold OL
   simp (disch:=try exact DI) only [↓PR,QR,simprocAttr]
   obtain rfl:=hE
   have hV:(.agg (Wj x).toArray:Value)=VZ x:=rfl
   simp (disch:=try exact DI) only [↓PR,QR,simprocAttr,hA.c2]
   rw [YI hg]
   simp only [Array.empty_append]
   refine Zt (hc k x w _ hx hj hV) ?_
   rintro r w' ⟨rfl,hj'⟩
   cases hp:p k with
   | true => 
    simp (disch:=try exact DI) only [↓PR,QR,simprocAttr]
    exact ⟨by rw [Qs hr hp hb],_,hj'⟩
   | false =>
    simp (disch:=try exact DI) only [↓PR,QR,simprocAttr]
    exact ⟨⟨k+1,rfl,by omega,hj',Wi hb hr hp⟩,by simp [intOf];omega⟩
 · have hd:decide ((k:Int) < (l.length:Int))=false:=by simp;omega
   simp (disch:=try exact DI) only [↓PR,QR,simprocAttr,hd]
   exact ⟨by rw [Wq λ j y hy=>hb j y (by have:=(List.getElem?_eq_some_iff.1 hy).1;simp at this;omega) hy],_,hj⟩
def ZcQ (t0:Value) (R:RT) (w:World):Prop :=
 opV Pg (Instr.box 48 t0) (Zd R) w λ t1 w =>
 F0 48 t1 10 R w λ t3 w =>
 L0 9 t3 R w λ t4 w =>
 opV Pg (Instr.buildSlice 82 1 #[(0,t4)]) (Zd R) w λ t5 w =>
 R (.returned t5) w
theorem Zcv {t0:Value} {R:RT} {w:World} (h:ZcQ t0 R w):Calls Pg 112 #[t0] w R:=by
 refine yD Tryz.func112 ?_
 refine zs<|zr<|yv h λ _ w h=>zm<|zn<|zk<|zs<|zr<|yv h λ _ w h=>yv h λ _ w h=>yS h λ _ w h=>zm<|zn<|zk<|Zk ?_
 exact Zi rfl rfl h
def SR (t9:Value) (R:RT) (w:World):Prop :=
 opV Pg (Builtin.max_ #[3,3] 3 #[t9,(.int .i64 0)]) (Zd R) w λ t11 w =>
 B0 .geq 3 true t9 (.int .i64 0) R w λ t13 w =>
 R (.returned (.tuple #[t11,t13])) w
def n67 (t0 t1:Value) (R:RT) (w:World):Prop :=
 C0 134 #[t0,t1] R w λ t9 w =>
 SR t9 R w
theorem Ze9 {t0 t1:Value} {R:RT} {w:World} (h:n67 t0 t1 R w):Calls Pg 113 #[t0,t1] w R:=by
 refine yD Tryz.func113 ?_
 refine zs<|zr<|zm<|zm<|zn<|zk<|zs<|zr<|zm<|zm<|yc h Za0 λ _ w h=>zm<|zn<|zk<|zs ?_
 exact zr<|zm<|yx h λ _ w h=>zm<|yb h λ _ w h=>zm<|zm<|zn<|zk<|Zk<|Yx rfl rfl rfl h
def n47 (t0 t1:Value) (R:RT) (w:World):Prop :=
 opV Pg (Instr.box 48 t0) (Zd R) w λ t2 w =>
 F0 48 t2 0 R w λ t4 w =>
 L0 9 t4 R w λ t5 w =>
 L0 9 t1 R w λ t6 w =>
 B0 .eql 9 false t5 t6 R w λ t7 w =>
 R (.returned t7) w
theorem Zgi {t0 t1:Value} {R:RT} {w:World} (h:n47 t0 t1 R w):Calls Pg 114 #[t0,t1] w R:=by
 refine yD Tryz.func114 ?_
 refine zs<|zr<|yv h λ _ w h=>zm<|zn<|zk<|zs<|zr<|yv h λ _ w h=>yv h λ _ w h=>yv h λ _ w h=>yb h λ _ w h=>zm<|zn<|zk ?_
 exact Zk<|Zi rfl rfl h
def O0 (t0 t8 t12:Value) (R:RT) (w:World):Prop :=
 Zq (λ (t14:Value) (w:World) =>
 Zq (λ (t15:Value) (w:World) =>
 Zu t8 (.bool true) t15 λ t16 =>
 R (.returned t16) w) λ K4 =>
 Zl t8 false (
 Zu t12 t14 (.bool false) λ t15 =>
 K4 t15 w) (
 K4 undef w)) λ K3 =>
 Zl t12 true (
 opV Pg (ZM .leq 5 true t0 (.int .u8 122)) (Zd R) w λ t14 w =>
 K3 t14 w) (
 K3 undef w)
def MJ (t0 t4 t7:Value) (R:RT) (w:World):Prop :=
 Zu t4 t7 (.bool false) λ t8 =>
 Zq (λ (t12:Value) (w:World) =>
 O0 t0 t8 t12 R w) λ K2 =>
 Zl t8 false (
 opV Pg (ZM .geq 5 true t0 (.int .u8 97)) (Zd R) w λ t11 w =>
 K2 t11 w) (
 K2 undef w)
def n19 (t0:Value) (R:RT) (w:World):Prop :=
 opV Pg (ZM .geq 5 true t0 (.int .u8 65)) (Zd R) w λ t4 w =>
 Zq (λ (t7:Value) (w:World) =>
 MJ t0 t4 t7 R w) λ K1 =>
 Zl t4 true (
 opV Pg (ZM .leq 5 true t0 (.int .u8 90)) (Zd R) w λ t7 w =>
 K1 t7 w) (
 K1 undef w)
theorem ZdA {t0:Value} {R:RT} {w:World} (h:n19 t0 R w):Calls Pg 117 #[t0] w R:=by
 refine yD Tryz.func117 ?_
 refine zs<|zr<|zm<|zn<|zk<|zs<|Zs<|yG 3<|zm<|yb h λ _ w h=>zm<|zn<|yg1 2 2 true [6,7] 7 h (λ _ T hT h=>?_) λ σ w h=>?_
 · refine zm<|yb h λ _ w h=>zn ?_
   exact zt hT h
 refine yG 2<|yp h λ _ h=>zm<|zn<|yg1 3 6 false [10,11,12] 12 h (λ _ T hT h=>?_) λ σ w h=>?_
 · refine zm<|yb h λ _ w h=>zm<|zn ?_
   exact zt hT h
 refine yg1 2 9 true [13,14] 14 h (λ _ T hT h=>?_) λ σ w h=>?_
 · refine zm<|yb h λ _ w h=>zn ?_
   exact zt hT h
 refine yg1 1 6 false [15] 15 h (λ _ T hT h=>?_) λ σ w h=>?_
 · refine yp h λ _ h=>zn ?_
   exact zt hT h
 exact yG 2<|yp h λ _ h=>zm<|zn<|ZG<|zk<|Zk<|Zi rfl rfl h
def n18 (t0:Value) (R:RT) (w:World):Prop :=
 opV Pg (ZM .geq 5 true t0 (.int .u8 48)) (Zd R) w λ t4 w =>
 Zq (λ (t7:Value) (w:World) =>
 Zu t4 t7 (.bool false) λ t8 =>
 R (.returned t8) w) λ K1 =>
 Zl t4 true (
 opV Pg (ZM .leq 5 true t0 (.int .u8 57)) (Zd R) w λ t7 w =>
 K1 t7 w) (
 K1 undef w)
theorem ZdG {t0:Value} {R:RT} {w:World} (h:n18 t0 R w):Calls Pg 118 #[t0] w R:=by
 refine yD Tryz.func118 ?_
 refine zs<|zr<|zm<|zn<|zk<|zs<|Zs<|yG 3<|zm<|yb h λ _ w h=>zm<|zn<|yg1 2 2 true [6,7] 7 h (λ _ T hT h=>?_) λ σ w h=>?_
 · refine zm<|yb h λ _ w h=>zn ?_
   exact zt hT h
 exact yG 2<|yp h λ _ h=>zm<|zn<|ZG<|zk<|Zk<|Zi rfl rfl h
def IY (t115 t119 t122:Value) (R:RT) (w:World):Prop :=
 Zq (λ (t123:Value) (w:World) =>
 Zu t115 t123 (.bool false) λ t124 =>
 R (.returned t124) w) λ K32 =>
 Zl t115 true (
 Zu t119 (.bool true) t122 λ t123 =>
 K32 t123 w) (
 K32 undef w)
def HZ (t1 t115 t119:Value) (R:RT) (w:World):Prop :=
 Zq (λ (t122:Value) (w:World) =>
 IY t115 t119 t122 R w) λ K31 =>
 Zl t119 false (
 F0 48 t1 13 R w λ t120 w =>
 L0 3 t120 R w λ t121 w =>
 B0 .eql 3 true t121 (.int .i64 0) R w λ t122 w =>
 K31 t122 w) (
 K31 undef w)
def HR (t1 t6 t106 t114:Value) (R:RT) (w:World):Prop :=
 Zu t106 t114 (.bool false) λ t115 =>
 Zq (λ (t119:Value) (w:World) =>
 HZ t1 t115 t119 R w) λ K30 =>
 Zl t115 true (
 C0 147 #[t6,(.int .u8 121)] R w λ t118 w =>
 K30 t118 w) (
 K30 undef w)
def H6 (t1 t6 t106 t110:Value) (R:RT) (w:World):Prop :=
 Zq (λ (t113:Value) (w:World) =>
 Zq (λ (t114:Value) (w:World) =>
 HR t1 t6 t106 t114 R w) λ K29 =>
 Zl t106 true (
 Zu t110 (.bool true) t113 λ t114 =>
 K29 t114 w) (
 K29 undef w)) λ K28 =>
 Zl t110 false (
 F0 48 t1 12 R w λ t111 w =>
 L0 3 t111 R w λ t112 w =>
 B0 .eql 3 true t112 (.int .i64 0) R w λ t113 w =>
 K28 t113 w) (
 K28 undef w)
def HM (t1 t6 t100 t105:Value) (R:RT) (w:World):Prop :=
 Zu t100 (.bool true) t105 λ t106 =>
 Zq (λ (t110:Value) (w:World) =>
 H6 t1 t6 t106 t110 R w) λ K27 =>
 Zl t106 true (
 C0 147 #[t6,(.int .u8 107)] R w λ t109 w =>
 K27 t109 w) (
 K27 undef w)
def Iw (t1 t6 t100:Value) (R:RT) (w:World):Prop :=
 Zq (λ (t105:Value) (w:World) =>
 HM t1 t6 t100 t105 R w) λ K26 =>
 Zl t100 false (
 F0 48 t1 11 R w λ t102 w =>
 L0 46 t102 R w λ t103 w =>
 opV Pg (Builtin.len_ #[46] 3 #[t103]) (Zd R) w λ t104 w =>
 B0 .eql 3 true t104 (.int .i64 0) R w λ t105 w =>
 K26 t105 w) (
 K26 undef w)
def IQ (t1 t6 t88 t97:Value) (R:RT) (w:World):Prop :=
 Zu t88 (.bool true) t97 λ t98 =>
 Zr t98 (
 R (.returned (.bool false)) w) (
 C0 147 #[t6,(.int .u8 99)] R w λ t100 w =>
 Iw t1 t6 t100 R w)
def H7 (t1 t6 t88 t93:Value) (R:RT) (w:World):Prop :=
 Zq (λ (t96:Value) (w:World) =>
 Zq (λ (t97:Value) (w:World) =>
 IQ t1 t6 t88 t97 R w) λ K25 =>
 Zl t88 false (
 Zu t93 t96 (.bool false) λ t97 =>
 K25 t97 w) (
 K25 undef w)) λ K24 =>
 Zl t93 true (
 F0 48 t1 10 R w λ t94 w =>
 L0 9 t94 R w λ t95 w =>
 opV Pg (ZM .neq 9 true t95 (.string { data := #[] })) (Zd R) w λ t96 w =>
 K24 t96 w) (
 K24 undef w)
def HP (t1 t6 t78 t87:Value) (R:RT) (w:World):Prop :=
 Zu t78 (.bool true) t87 λ t88 =>
 Zq (λ (t93:Value) (w:World) =>
 H7 t1 t6 t88 t93 R w) λ K23 =>
 Zl t88 false (
 C0 147 #[t6,(.int .u8 114)] R w λ t91 w =>
 opV Pg (Op.unary .not t91) (Zd R) w λ t92 w =>
 K23 t92 w) (
 K23 undef w)
def CB (t1 t6 t78 t83:Value) (R:RT) (w:World):Prop :=
 Zq (λ (t86:Value) (w:World) =>
 Zq (λ (t87:Value) (w:World) =>
 HP t1 t6 t78 t87 R w) λ K22 =>
 Zl t78 false (
 Zu t83 t86 (.bool false) λ t87 =>
 K22 t87 w) (
 K22 undef w)) λ K21 =>
 Zl t83 true (
 F0 48 t1 9 R w λ t84 w =>
 L0 9 t84 R w λ t85 w =>
 opV Pg (ZM .neq 9 true t85 (.string { data := #[] })) (Zd R) w λ t86 w =>
 K21 t86 w) (
 K21 undef w)
def CD (t1 t6 t68 t77:Value) (R:RT) (w:World):Prop :=
 Zu t68 (.bool true) t77 λ t78 =>
 Zq (λ (t83:Value) (w:World) =>
 CB t1 t6 t78 t83 R w) λ K20 =>
 Zl t78 false (
 C0 147 #[t6,(.int .u8 116)] R w λ t81 w =>
 opV Pg (Op.unary .not t81) (Zd R) w λ t82 w =>
 K20 t82 w) (
 K20 undef w)
def Cz (t1 t6 t68 t73:Value) (R:RT) (w:World):Prop :=
 Zq (λ (t76:Value) (w:World) =>
 Zq (λ (t77:Value) (w:World) =>
 CD t1 t6 t68 t77 R w) λ K19 =>
 Zl t68 false (
 Zu t73 t76 (.bool false) λ t77 =>
 K19 t77 w) (
 K19 undef w)) λ K18 =>
 Zl t73 true (
 F0 48 t1 8 R w λ t74 w =>
 L0 9 t74 R w λ t75 w =>
 opV Pg (ZM .neq 9 true t75 (.string { data := #[] })) (Zd R) w λ t76 w =>
 K18 t76 w) (
 K18 undef w)
def BM (t1 t6 t55 t67:Value) (R:RT) (w:World):Prop :=
 Zu t55 t67 (.bool false) λ t68 =>
 Zq (λ (t73:Value) (w:World) =>
 Cz t1 t6 t68 t73 R w) λ K17 =>
 Zl t68 false (
 C0 147 #[t6,(.int .u8 102)] R w λ t71 w =>
 opV Pg (Op.unary .not t71) (Zd R) w λ t72 w =>
 K17 t72 w) (
 K17 undef w)
def Ca (t1 t6 t55 t61:Value) (R:RT) (w:World):Prop :=
 Zq (λ (t66:Value) (w:World) =>
 Zq (λ (t67:Value) (w:World) =>
 BM t1 t6 t55 t67 R w) λ K16 =>
 Zl t55 true (
 Zu t61 (.bool true) t66 λ t67 =>
 K16 t67 w) (
 K16 undef w)) λ K15 =>
 Zl t61 false (
 F0 48 t1 7 R w λ t62 w =>
 F0 45 t62 1 R w λ t63 w =>
 L0 43 t63 R w λ t64 w =>
 opV Pg (Builtin.len_ #[43] 3 #[t64]) (Zd R) w λ t65 w =>
 B0 .neq 3 true t65 (.int .i64 0) R w λ t66 w =>
 K15 t66 w) (
 K15 undef w)
def CP (t1 t6 t54:Value) (R:RT) (w:World):Prop :=
 opV Pg (Op.unary .not t54) (Zd R) w λ t55 w =>
 Zq (λ (t61:Value) (w:World) =>
 Ca t1 t6 t55 t61 R w) λ K14 =>
 Zl t55 true (
 F0 48 t1 7 R w λ t57 w =>
 F0 45 t57 0 R w λ t58 w =>
 L0 3 t58 R w λ t59 w =>
 B0 .neq 3 true t59 (.int .i64 0) R w λ t60 w =>
 K14 t60 w) (
 K14 undef w)
def CN (t1 t6 t42 t51:Value) (R:RT) (w:World):Prop :=
 Zu t42 (.bool true) t51 λ t52 =>
 Zr t52 (
 R (.returned (.bool false)) w) (
 C0 147 #[t6,(.int .u8 115)] R w λ t54 w =>
 CP t1 t6 t54 R w)
def Ce (t1 t6 t42 t47:Value) (R:RT) (w:World):Prop :=
 Zq (λ (t50:Value) (w:World) =>
 Zq (λ (t51:Value) (w:World) =>
 CN t1 t6 t42 t51 R w) λ K13 =>
 Zl t42 false (
 Zu t47 t50 (.bool false) λ t51 =>
 K13 t51 w) (
 K13 undef w)) λ K12 =>
 Zl t47 true (
 F0 48 t1 6 R w λ t48 w =>
 L0 3 t48 R w λ t49 w =>
 B0 .neq 3 true t49 (.int .i64 0) R w λ t50 w =>
 K12 t50 w) (
 K12 undef w)
def BS (t1 t6 t32 t41:Value) (R:RT) (w:World):Prop :=
 Zu t32 (.bool true) t41 λ t42 =>
 Zq (λ (t47:Value) (w:World) =>
 Ce t1 t6 t42 t47 R w) λ K11 =>
 Zl t42 false (
 C0 147 #[t6,(.int .u8 104)] R w λ t45 w =>
 opV Pg (Op.unary .not t45) (Zd R) w λ t46 w =>
 K11 t46 w) (
 K11 undef w)
def CL (t1 t6 t32 t37:Value) (R:RT) (w:World):Prop :=
 Zq (λ (t40:Value) (w:World) =>
 Zq (λ (t41:Value) (w:World) =>
 BS t1 t6 t32 t41 R w) λ K10 =>
 Zl t32 false (
 Zu t37 t40 (.bool false) λ t41 =>
 K10 t41 w) (
 K10 undef w)) λ K9 =>
 Zl t37 true (
 F0 48 t1 5 R w λ t38 w =>
 L0 3 t38 R w λ t39 w =>
 B0 .neq 3 true t39 (.int .i64 0) R w λ t40 w =>
 K9 t40 w) (
 K9 undef w)
def CI (t1 t6 t23 t31:Value) (R:RT) (w:World):Prop :=
 Zu t23 (.bool true) t31 λ t32 =>
 Zq (λ (t37:Value) (w:World) =>
 CL t1 t6 t32 t37 R w) λ K8 =>
 Zl t32 false (
 C0 147 #[t6,(.int .u8 120)] R w λ t35 w =>
 opV Pg (Op.unary .not t35) (Zd R) w λ t36 w =>
 K8 t36 w) (
 K8 undef w)
def Cp (t1 t6 t23 t28:Value) (R:RT) (w:World):Prop :=
 Zq (λ (t30:Value) (w:World) =>
 Zq (λ (t31:Value) (w:World) =>
 CI t1 t6 t23 t31 R w) λ K7 =>
 Zl t23 false (
 Zu t28 t30 (.bool false) λ t31 =>
 K7 t31 w) (
 K7 undef w)) λ K6 =>
 Zl t28 true (
 F0 48 t1 4 R w λ t29 w =>
 L0 4 t29 R w λ t30 w =>
 K6 t30 w) (
 K6 undef w)
def Cc (t1 t6 t14 t22:Value) (R:RT) (w:World):Prop :=
 Zu t14 (.bool true) t22 λ t23 =>
 Zq (λ (t28:Value) (w:World) =>
 Cp t1 t6 t23 t28 R w) λ K5 =>
 Zl t23 false (
 C0 147 #[t6,(.int .u8 111)] R w λ t26 w =>
 opV Pg (Op.unary .not t26) (Zd R) w λ t27 w =>
 K5 t27 w) (
 K5 undef w)
def CV (t1 t6 t14 t19:Value) (R:RT) (w:World):Prop :=
 Zq (λ (t21:Value) (w:World) =>
 Zq (λ (t22:Value) (w:World) =>
 Cc t1 t6 t14 t22 R w) λ K4 =>
 Zl t14 false (
 Zu t19 t21 (.bool false) λ t22 =>
 K4 t22 w) (
 K4 undef w)) λ K3 =>
 Zl t19 true (
 F0 48 t1 3 R w λ t20 w =>
 L0 4 t20 R w λ t21 w =>
 K3 t21 w) (
 K3 undef w)
def Cl (t1 t6 t9 t13:Value) (R:RT) (w:World):Prop :=
 Zu t9 t13 (.bool false) λ t14 =>
 Zq (λ (t19:Value) (w:World) =>
 CV t1 t6 t14 t19 R w) λ K2 =>
 Zl t14 false (
 C0 147 #[t6,(.int .u8 108)] R w λ t17 w =>
 opV Pg (Op.unary .not t17) (Zd R) w λ t18 w =>
 K2 t18 w) (
 K2 undef w)
def Cw (t1 t6 t8:Value) (R:RT) (w:World):Prop :=
 opV Pg (Op.unary .not t8) (Zd R) w λ t9 w =>
 Zq (λ (t13:Value) (w:World) =>
 Cl t1 t6 t9 t13 R w) λ K1 =>
 Zl t9 true (
 F0 48 t1 2 R w λ t11 w =>
 L0 3 t11 R w λ t12 w =>
 B0 .neq 3 true t12 (.int .i64 0) R w λ t13 w =>
 K1 t13 w) (
 K1 undef w)
def n42 (t0:Value) (R:RT) (w:World):Prop :=
 opV Pg (Instr.box 48 t0) (Zd R) w λ t1 w =>
 F0 48 t1 1 R w λ t4 w =>
 L0 42 t4 R w λ t5 w =>
 C0 146 #[t5] R w λ t6 w =>
 C0 147 #[t6,(.int .u8 98)] R w λ t8 w =>
 Cw t1 t6 t8 R w
set_option maxHeartbeats 40000000 in
theorem Zfy {t0:Value} {R:RT} {w:World} (h:n42 t0 R w):Calls Pg 119 #[t0] w R:=by
 refine yD Tryz.func119 ?_
 refine zs<|zr<|yv h λ _ w h=>zm<|zn<|zk<|zs<|zr<|yv h λ _ w h=>yv h λ _ w h=>yc h ZgT λ _ w h=>zm<|zn<|zk<|zs ?_
 refine zs<|Zs<|yG 4<|zm<|yc h xO λ _ w h=>yv h λ _ w h=>zm<|zn<|yg1 3 3 true [11,12,13] 13 h (λ _ T hT h=>?_) λ σ w h=>?_
 · refine yv h λ _ w h=>yv h λ _ w h=>yb h λ _ w h=>zn ?_
   exact zt hT h
 refine yG 2<|yp h λ _ h=>zm<|zn<|yg1 4 8 false [16,17,18,19] 19 h (λ _ T hT h=>?_) λ σ w h=>?_
 · refine zm<|yc h xO λ _ w h=>yv h λ _ w h=>zm<|zn ?_
   exact zt hT h
 refine yg1 2 12 true [20,21] 21 h (λ _ T hT h=>?_) λ σ w h=>?_
 · refine yv h λ _ w h=>yv h λ _ w h=>zn ?_
   exact zt hT h
 refine yg1 1 8 false [22] 22 h (λ _ T hT h=>?_) λ σ w h=>?_
 · refine yp h λ _ h=>zn ?_
   exact zt hT h
 refine yG 2<|yp h λ _ h=>zm<|zn<|yg1 4 17 false [25,26,27,28] 28 h (λ _ T hT h=>?_) λ σ w h=>?_
 · refine zm<|yc h xO λ _ w h=>yv h λ _ w h=>zm<|zn ?_
   exact zt hT h
 refine yg1 2 21 true [29,30] 30 h (λ _ T hT h=>?_) λ σ w h=>?_
 · refine yv h λ _ w h=>yv h λ _ w h=>zn ?_
   exact zt hT h
 refine yg1 1 17 false [31] 31 h (λ _ T hT h=>?_) λ σ w h=>?_
 · refine yp h λ _ h=>zn ?_
   exact zt hT h
 refine yG 2<|yp h λ _ h=>zm<|zn<|yg1 4 26 false [34,35,36,37] 37 h (λ _ T hT h=>?_) λ σ w h=>?_
 · refine zm<|yc h xO λ _ w h=>yv h λ _ w h=>zm<|zn ?_
   exact zt hT h
 refine yg1 3 30 true [38,39,40] 40 h (λ _ T hT h=>?_) λ σ w h=>?_
 · refine yv h λ _ w h=>yv h λ _ w h=>yb h λ _ w h=>zn ?_
   exact zt hT h
 refine yg1 1 26 false [41] 41 h (λ _ T hT h=>?_) λ σ w h=>?_
 · refine yp h λ _ h=>zn ?_
   exact zt hT h
 refine yG 2<|yp h λ _ h=>zm<|zn<|yg1 4 36 false [44,45,46,47] 47 h (λ _ T hT h=>?_) λ σ w h=>?_
 · refine zm<|yc h xO λ _ w h=>yv h λ _ w h=>zm<|zn ?_
   exact zt hT h
 refine yg1 3 40 true [48,49,50] 50 h (λ _ T hT h=>?_) λ σ w h=>?_
 · refine yv h λ _ w h=>yv h λ _ w h=>yb h λ _ w h=>zn ?_
   exact zt hT h
 refine yg1 1 36 false [51] 51 h (λ _ T hT h=>?_) λ σ w h=>?_
 · refine yp h λ _ h=>zn ?_
   exact zt hT h
 refine yG 1<|yp h λ _ h=>zn<|ZG<|zk<|yC h (λ h=>zs<|zr<|zm<|zn<|zk<|Zk<|Zb<|Zi rfl rfl h) λ h=>Zh<|zk<|zs<|zs<|Zs<|yG 4<|zm<|yc h xO λ _ w h=>?_
 refine yv h λ _ w h=>zm<|zn<|yg1 5 3 true [57,58,59,60,61] 61 h (λ _ T hT h=>?_) λ σ w h=>?_
 · refine yv h λ _ w h=>yv h λ _ w h=>yv h λ _ w h=>yb h λ _ w h=>zm<|zn ?_
   exact zt hT h
 refine yg1 5 8 false [62,63,64,65,66] 66 h (λ _ T hT h=>?_) λ σ w h=>?_
 · refine yv h λ _ w h=>yv h λ _ w h=>yv h λ _ w h=>yx h λ _ w h=>yb h λ _ w h=>zn ?_
   exact zt hT h
 refine yg1 1 3 true [67] 67 h (λ _ T hT h=>?_) λ σ w h=>?_
 · refine yp h λ _ h=>zn ?_
   exact zt hT h
 refine yG 2<|yp h λ _ h=>zm<|zn<|yg1 4 16 false [70,71,72,73] 73 h (λ _ T hT h=>?_) λ σ w h=>?_
 · refine zm<|yc h xO λ _ w h=>yv h λ _ w h=>zm<|zn ?_
   exact zt hT h
 refine yg1 3 20 true [74,75,76] 76 h (λ _ T hT h=>?_) λ σ w h=>?_
 · refine yv h λ _ w h=>yv h λ _ w h=>yb h λ _ w h=>zn ?_
   exact zt hT h
 refine yg1 1 16 false [77] 77 h (λ _ T hT h=>?_) λ σ w h=>?_
 · refine yp h λ _ h=>zn ?_
   exact zt hT h
 refine yG 2<|yp h λ _ h=>zm<|zn<|yg1 4 26 false [80,81,82,83] 83 h (λ _ T hT h=>?_) λ σ w h=>?_
 · refine zm<|yc h xO λ _ w h=>yv h λ _ w h=>zm<|zn ?_
   exact zt hT h
 refine yg1 3 30 true [84,85,86] 86 h (λ _ T hT h=>?_) λ σ w h=>?_
 · refine yv h λ _ w h=>yv h λ _ w h=>yb h λ _ w h=>zn ?_
   exact zt hT h
 refine yg1 1 26 false [87] 87 h (λ _ T hT h=>?_) λ σ w h=>?_
 · refine yp h λ _ h=>zn ?_
   exact zt hT h
 refine yG 2<|yp h λ _ h=>zm<|zn<|yg1 4 36 false [90,91,92,93] 93 h (λ _ T hT h=>?_) λ σ w h=>?_
 · refine zm<|yc h xO λ _ w h=>yv h λ _ w h=>zm<|zn ?_
   exact zt hT h
 refine yg1 3 40 true [94,95,96] 96 h (λ _ T hT h=>?_) λ σ w h=>?_
 · refine yv h λ _ w h=>yv h λ _ w h=>yb h λ _ w h=>zn ?_
   exact zt hT h
 refine yg1 1 36 false [97] 97 h (λ _ T hT h=>?_) λ σ w h=>?_
 · refine yp h λ _ h=>zn ?_
   exact zt hT h
 refine yG 1<|yp h λ _ h=>zn<|ZG<|zk<|yC h (λ h=>zs<|zr<|zm<|zn<|zk<|Zk<|Zb<|Zi rfl rfl h) λ h=>Zh<|zk<|zs<|Zs<|yG 3<|zm<|yc h xO λ _ w h=>zm ?_
 refine zn<|yg1 4 2 false [102,103,104,105] 105 h (λ _ T hT h=>?_) λ σ w h=>?_
 · refine yv h λ _ w h=>yv h λ _ w h=>yx h λ _ w h=>yb h λ _ w h=>zn ?_
   exact zt hT h
 refine yG 2<|yp h λ _ h=>zm<|zn<|yg1 3 8 true [108,109,110] 110 h (λ _ T hT h=>?_) λ σ w h=>?_
 · refine zm<|yc h xO λ _ w h=>zm<|zn ?_
   exact zt hT h
 refine yg1 3 11 false [111,112,113] 113 h (λ _ T hT h=>?_) λ σ w h=>?_
 · refine yv h λ _ w h=>yv h λ _ w h=>yb h λ _ w h=>zn ?_
   exact zt hT h
 refine yg1 1 8 true [114] 114 h (λ _ T hT h=>?_) λ σ w h=>?_
 · refine yp h λ _ h=>zn ?_
   exact zt hT h
 refine yG 2<|yp h λ _ h=>zm<|zn<|yg1 3 17 true [117,118,119] 119 h (λ _ T hT h=>?_) λ σ w h=>?_
 · refine zm<|yc h xO λ _ w h=>zm<|zn ?_
   exact zt hT h
 refine yg1 3 20 false [120,121,122] 122 h (λ _ T hT h=>?_) λ σ w h=>?_
 · refine yv h λ _ w h=>yv h λ _ w h=>yb h λ _ w h=>zn ?_
   exact zt hT h
 refine yg1 1 17 true [123] 123 h (λ _ T hT h=>?_) λ σ w h=>?_
 · refine yp h λ _ h=>zn ?_
   exact zt hT h
 exact yG 2<|yp h λ _ h=>zm<|zn<|ZG<|zk<|Zk<|Zi rfl rfl h
def Sj (t0 t1 t3:Value) (K1:World→Prop) (R:RT) (w:World):Prop :=
 opV Pg (Instr.typeAssert t3 20 90 true) (Zd R) w λ t8 w =>
 opV Pg (Instr.extract t8 0) (Zd R) w λ t9 w =>
 opV Pg (Instr.extract t8 1) (Zd R) w λ t10 w =>
 opU Pg (Instr.storeAt 90 t0 t9) (Zd R) w λ w =>
 opU Pg (Instr.storeAt 4 t1 t10) (Zd R) w λ w =>
 L0 4 t1 R w λ t11 w =>
 opV Pg (Op.unary .not t11) (Zd R) w λ t12 w =>
 Zr t12 (
 opV Pg (Instr.panic t3) (Zd R) w λ _ w =>
 False) (
 K1 w)
def n66 (t0 t1 t3:Value) (R:RT) (w:World):Prop :=
 opV Pg (ZM .neq 20 true t3 .nilIface) (Zd R) w λ t5 w =>
 Zq (λ (w:World) =>
 R (.returned (.tuple #[])) w) λ K1 =>
 Zr t5 (
 Sj t0 t1 t3 K1 R w) (
 K1 w)
theorem ZbB {t0 t1:Value} {u:FrameMode} {R:Ending→FrameMode→World→Prop} {w:World} (h:n66 t0 t1 (Sw.recM u).1 (λ e w=>R e (Sw.recM u).2 w) w):CallsDIn Fence.wide 0 Pg 121 #[t0,t1] u w R:=by
 refine Aw (args:=[t0,t1]) (d:=3) Tryz.func121 rfl (Nat.le_of_ble_eq_true rfl) rfl rfl rfl rfl ?_
 generalize (recM u).1=t3 at h ⊢
 generalize hR:(λ e w=>R e (recM u).2 w)=R' at h ⊢
 clear hR
 revert h
 generalize R'=R
 intro h
 unfold n66 at h
 refine zm<|zn<|zs<|zr<|zm<|yb h λ _ w h=>zn<|zk<|yJ0 [6,7,8,9,10,11,12,13] h (λ _ _ hkK1 h=>?_) λ σ w h=>?_
 · refine yC h (λ h=>?_) λ h=>?_
   · refine zs<|zr<|zm<|yv h λ _ w h=>zm<|yv h λ _ w h=>yv h λ _ w h=>yu h λ w h=>yu h λ w h=>zn<|zk<|zs<|zr<|yv h λ _ w h=>yv h λ _ w h=>?_
     refine zn<|zk<|yC h (λ h=>zr<|zm<|yv h λ _ w h=>zn<|h.elim) λ h=>Zh<|zk ?_
     exact zt hkK1 h
   refine Zh<|zk ?_
   exact zt hkK1 h
 exact ZP<|ZZ rfl h
def H8 (t0 t2:Value) (C1:World→Prop) (R:RT) (w:World):Prop :=
 qN Pg C1 (YM t0) λ t9 =>
 qV Pg C1 (Instr.fieldAt 164 t9 3) λ t10 =>
 qV Pg C1 (Instr.loadAt 3 t10) λ t11 =>
 qN Pg C1 (YM t0) λ t13 =>
 qV Pg C1 (Instr.fieldAt 164 t13 4) λ t14 =>
 qV Pg C1 (Instr.loadAt 3 t14) λ t15 =>
 qV Pg C1 (Instr.build 90 #[(0,t11),(1,t15),(2,t2)]) λ t17 =>
 qV Pg C1 (Instr.makeInterface 90 t17) λ t18 =>
 opV Pg (Instr.panic t18) (Zd R) w λ _ w =>
 False
def n60 (t0 t1 t2:Value) (R:RT) (w:World):Prop :=
 opV Pg (Op.unary .not t1) (Zd R) w λ t7 w =>
 Zr t7 (
 Yp w λ C1 w =>
 H8 t0 t2 C1 R w) (
 R (.returned (.tuple #[])) w)
theorem ZgU {t0 t1 t2:Value} {R:RT} {w:World} (h:n60 t0 t1 t2 R w):Calls Pg 122 #[t0,t1,t2] w R:=by
 refine yD Tryz.func122 ?_
 refine zs<|zr<|zm<|yv h λ _ w h=>zn<|zk<|yC h (λ h=>?_) λ h=>?_
 · refine yh [8,9,10,11,12,13,14,15,16,17,18] h λ C hC h=>yw 0 hC ?_
   refine yn 1 hC h λ _ h=>?_
   refine ye 2 hC h λ _ h=>?_
   refine ye 3 hC h λ _ h=>?_
   refine yw 4 hC ?_
   refine yn 5 hC h λ _ h=>?_
   refine ye 6 hC h λ _ h=>?_
   refine ye 7 hC h λ _ h=>?_
   refine yw 8 hC ?_
   refine ye 9 hC h λ _ h=>?_
   refine ye 10 hC h λ _ h=>?_
   refine yo 11 ?_
   exact yv h λ _ w h=>zn<|h.elim
 exact Zh<|ZP<|ZZ rfl h
def Gj (t0 t11 t15:Value) (R:RT) (w:World):Prop :=
 Zu t11 t15 (.bool false) λ t16 =>
 Zq (λ (t22:Value) (w:World) =>
 Zu t16 t22 (.bool false) λ t23 =>
 R (.returned t23) w) λ K2 =>
 Zl t16 true (
 opV Pg (Go.convert 9 200 t0) (Zd R) w λ t19 w =>
 Yq Pg 159 #[t19,(.func (.func 155) #[] #[])] (Zd R) w λ t21 w =>
 opV Pg (Op.unary .not t21) (Zd R) w λ t22 w =>
 K2 t22 w) (
 K2 undef w)
def J3 (t0 t11:Value) (R:RT) (w:World):Prop :=
 Zq (λ (t15:Value) (w:World) =>
 Gj t0 t11 t15 R w) λ K1 =>
 Zl t11 true (
 opV Pg (Instr.index 9 t0 (.int .i64 0)) (Zd R) w λ t14 w =>
 C0 156 #[t14] R w λ t15 w =>
 K1 t15 w) (
 K1 undef w)
def ZbZ (t0:Value) (R:RT) (w:World):Prop :=
 opV Pg (Builtin.len_ #[9] 3 #[t0]) (Zd R) w λ t5 w =>
 B0 .geq 3 true t5 (.int .i64 1) R w λ t6 w =>
 opV Pg (Builtin.len_ #[9] 3 #[t0]) (Zd R) w λ t8 w =>
 B0 .leq 3 true t8 (.int .i64 32) R w λ t9 w =>
 opV Pg (Instr.buildSlice 93 2 #[(0,t6),(1,t9)]) (Zd R) w λ t10 w =>
 C0 158 #[t10] R w λ t11 w =>
 J3 t0 t11 R w
theorem Zc6 {t0:Value} {R:RT} {w:World} (h:ZbZ t0 R w):Calls Pg 123 #[t0] w R:=by
 refine yD Tryz.func123 ?_
 refine zs<|zr<|zm<|zn<|zk<|zs<|zr<|zm<|zn<|zk<|zs<|Zs<|yG 9<|zm<|yx h λ _ w h=>?_
 refine yb h λ _ w h=>zm<|yx h λ _ w h=>yb h λ _ w h=>yS h λ _ w h=>yc h Rh λ _ w h=>zm<|zn<|yg1 3 8 true [13,14,15] 15 h (λ _ T hT h=>?_) λ σ w h=>?_
 · refine zm<|yv h λ _ w h=>yc h Zck λ _ w h=>zn ?_
   exact zt hT h
 refine yG 2<|yp h λ _ h=>zm<|zn<|yg1 5 13 true [18,19,20,21,22] 22 h (λ _ T hT h=>?_) λ σ w h=>?_
 · refine zm<|yv h λ _ w h=>zm<|yc h ZfZ λ _ w h=>yv h λ _ w h=>zn ?_
   exact zt hT h
 exact yG 2<|yp h λ _ h=>zm<|zn<|ZG<|zk<|Zk<|Zi rfl rfl h
def Dy (t6 t52 t64 t68:Value) (next6:KV) (ds:List Deferred) (R:RT) (w:World):Prop :=
 Zu t64 t68 (.bool false) λ t69 =>
 opU Pg (Instr.storeAt 4 t6 t69) (Zw Pg ds [] R) w λ w =>
 opV Pg (ZM .add 3 true t52 (.int .i64 1)) (Zw Pg ds [] R) w λ t70 w =>
 next6 t70 w
def M3 (t6 t8 t52:Value) (next6:KV) (ds:List Deferred) (R:RT) (w:World):Prop :=
 opV Pg (Instr.loadAt 4 t6) (Zw Pg ds [] R) w λ t64 w =>
 Zq (λ (t68:Value) (w:World) =>
 Dy t6 t52 t64 t68 next6 ds R w) λ K7 =>
 Zl t64 true (
 opV Pg (Instr.fieldAt 48 t8 4) (Zw Pg ds [] R) w λ t66 w =>
 opV Pg (Instr.loadAt 4 t66) (Zw Pg ds [] R) w λ t67 w =>
 opV Pg (Op.unary .not t67) (Zw Pg ds [] R) w λ t68 w =>
 K7 t68 w) (
 K7 undef w)
def Oh (t2 t6 t76:Value) (Kr8:World→Prop) (Qr8:List PanicEntry→World→Prop) (R:RT) (w:World):Prop :=
 opV Pg (Instr.loadAt 4 t6) Qr8 w λ t85 w =>
 Zq (λ (t92:Value) (w:World) =>
 Zu t85 t92 (.bool false) λ t93 =>
 opU Pg (Instr.storeAt 4 t6 t93) Qr8 w λ w =>
 Kr8 w) λ K11 =>
 Zl t85 true (
 opV Pg (Instr.loadAt 140 t2) Qr8 w λ t87 w =>
 opN Pg (YM t87) Qr8 w λ t88 w =>
 opV Pg (Instr.fieldAt 164 t88 2) Qr8 w λ t89 w =>
 opV Pg (Instr.loadAt 162 t89) Qr8 w λ t90 w =>
 opV Pg (Instr.lookup 162 t90 t76 false) Qr8 w λ t92 w =>
 K11 t92 w) (
 K11 undef w)
def MG (t2 t6 t9 t76:Value) (C9:World→Prop) (Kr8:World→Prop) (Qr8:List PanicEntry→World→Prop) (R:RT) (w:World):Prop :=
 qV Pg C9 (Instr.loadAt 3 t9) λ t77 =>
 qV Pg C9 (Instr.loadAt 140 t2) λ t78 =>
 qN Pg C9 (YM t78) λ t79 =>
 qV Pg C9 (Instr.fieldAt 164 t79 1) λ t80 =>
 qV Pg C9 (Instr.loadAt 161 t80) λ t81 =>
 qV Pg C9 (Instr.lookup 161 t81 t76 false) λ t83 =>
 qV Pg C9 (Builtin.max_ #[3,3] 3 #[t77,t83]) λ t84 =>
 opU Pg (Instr.storeAt 3 t9 t84) Qr8 w λ w =>
 VS w λ C10 w =>
 Oh t2 t6 t76 Kr8 Qr8 R w
def M9 (t2 t9:Value) (ds:List Deferred) (R:RT) (w:World):Prop :=
 opV Pg (Instr.loadAt 140 t2) (Zw Pg ds [] R) w λ t113 w =>
 opV Pg (Instr.loadAt 3 t9) (Zw Pg ds [] R) w λ t114 w =>
 opV Pg (ZM .lss 3 true t114 (.int .i64 16)) (Zw Pg ds [] R) w λ t115 w =>
 Yq Pg 122 #[t113,t115,(.int .i64 10)] (Zw Pg ds [] R) w λ t116 w =>
 VP Pg ds [] R w
def OU (t2 t9 t103 t108 t111:Value) (C12:World→Prop) (ds:List Deferred) (R:RT) (w:World):Prop :=
 qV Pg C12 (Instr.extract t111 1) λ t112 =>
 opU Pg (Instr.entryStore 162 t103 t112 t108) (Zw Pg ds [] R) w λ w =>
 VS w λ C13 w =>
 M9 t2 t9 ds R w
def Nz (t2 t9 t97 t103 t105 t107 t108 t109:Value) (C12:World→Prop) (ds:List Deferred) (R:RT) (w:World):Prop :=
 qV Pg C12 (Instr.extract t109 1) λ t110 =>
 opU Pg (Instr.entryStore 161 t97 t110 t107) (Zw Pg ds [] R) w λ w =>
 C12 w∧(
 opV Pg (Instr.mapEntry 162 t103 t105) (Zw Pg ds [] R) w λ t111 w =>
 C12 w∧(
 OU t2 t9 t103 t108 t111 C12 ds R w))
def IU (t2 t3 t6 t9:Value) (C12:World→Prop) (ds:List Deferred) (R:RT) (w:World):Prop :=
 qV Pg C12 (Instr.loadAt 140 t2) λ t94 =>
 qN Pg C12 (YM t94) λ t95 =>
 qV Pg C12 (Instr.fieldAt 164 t95 1) λ t96 =>
 qV Pg C12 (Instr.loadAt 161 t96) λ t97 =>
 qV Pg C12 (Instr.fieldAt 24 t3 0) λ t98 =>
 qV Pg C12 (Instr.loadAt 9 t98) λ t99 =>
 qV Pg C12 (Instr.loadAt 140 t2) λ t100 =>
 qN Pg C12 (YM t100) λ t101 =>
 qV Pg C12 (Instr.fieldAt 164 t101 2) λ t102 =>
 qV Pg C12 (Instr.loadAt 162 t102) λ t103 =>
 qV Pg C12 (Instr.fieldAt 24 t3 0) λ t104 =>
 qV Pg C12 (Instr.loadAt 9 t104) λ t105 =>
 qV Pg C12 (Instr.loadAt 3 t9) λ t106 =>
 qV Pg C12 (ZM .add 3 true t106 (.int .i64 1)) λ t107 =>
 qV Pg C12 (Instr.loadAt 4 t6) λ t108 =>
 opV Pg (Instr.mapEntry 161 t97 t99) (Zw Pg ds [] R) w λ t109 w =>
 C12 w∧(
 Nz t2 t9 t97 t103 t105 t107 t108 t109 C12 ds R w)
def N2 (t2 t3 t6 t9 t75:Value) (ds:List Deferred) (R:RT) (w:World):Prop :=
 zy Pg t75 ds (λ l8 t76 w Kr8 Xr8 Qr8 =>
 AU l8 w λ w =>
 Yp w λ C9 w =>
 MG t2 t6 t9 t76 C9 Kr8 Qr8 R w) (λ ch ds w=>Zw Pg ds [] R ch w) w (λ ds w =>
 Yp w λ C12 w =>
 IU t2 t3 t6 t9 C12 ds R w) []
def BT (t2 t3 t6:Value) (ds:List Deferred) (R:RT) (w:World):Prop :=
 opV Pg (Instr.loadAt 140 t2) (Zw Pg ds [] R) w λ t71 w =>
 opN Pg (YM t71) (Zw Pg ds [] R) w λ t72 w =>
 opV Pg (Instr.fieldAt 164 t72 4) (Zw Pg ds [] R) w λ t73 w =>
 opU Pg (Instr.storeAt 3 t73 (.int .i64 (-1))) (Zw Pg ds [] R) w λ w =>
 opV Pg (Instr.alloc 3 true (.tuple #[])) (Zw Pg ds [] R) w λ t9 w =>
 opU Pg (Instr.storeAt 3 t9 (.int .i64 0)) (Zw Pg ds [] R) w λ w =>
 opV Pg (Instr.loadAt 24 t3) (Zw Pg ds [] R) w λ t74 w =>
 Yq Pg 32 #[t74] (Zw Pg ds [] R) w λ t75 w =>
 N2 t2 t3 t6 t9 t75 ds R w
def EU (t2 t6 t50 t52:Value) (next6:KV) (ds:List Deferred) (R:RT) (w:World):Prop :=
 opV Pg (Instr.indexAt 22 t50 t52) (Zw Pg ds [] R) w λ t55 w =>
 opV Pg (Instr.loadAt 48 t55) (Zw Pg ds [] R) w λ t56 w =>
 opV Pg (Instr.alloc 48 true (.tuple #[])) (Zw Pg ds [] R) w λ t8 w =>
 opU Pg (Instr.storeAt 48 t8 t56) (Zw Pg ds [] R) w λ w =>
 opV Pg (Instr.loadAt 140 t2) (Zw Pg ds [] R) w λ t57 w =>
 opN Pg (YM t57) (Zw Pg ds [] R) w λ t59 w =>
 opV Pg (Instr.fieldAt 164 t59 4) (Zw Pg ds [] R) w λ t60 w =>
 opU Pg (Instr.storeAt 3 t60 t52) (Zw Pg ds [] R) w λ w =>
 opV Pg (Instr.loadAt 140 t2) (Zw Pg ds [] R) w λ t61 w =>
 opV Pg (Instr.loadAt 48 t8) (Zw Pg ds [] R) w λ t62 w =>
 Yq Pg 160 #[t61,t62] (Zw Pg ds [] R) w λ t63 w =>
 M3 t6 t8 t52 next6 ds R w
def BR (t2 t3 t6 t50 t51 t52:Value) (next6:KV) (ds:List Deferred) (R:RT) (w:World):Prop :=
 opV Pg (ZM .lss 3 false t52 t51) (Zw Pg ds [] R) w λ t53 w =>
 Zr t53 (
 EU t2 t6 t50 t52 next6 ds R w) (
 BT t2 t3 t6 ds R w)
def j3 (t2 t3:Value) (ds:List Deferred) (R:RT) (w:World):Prop :=
 opV Pg (Instr.alloc 4 true (.tuple #[])) (Zw Pg ds [] R) w λ t6 w =>
 opU Pg (Instr.storeAt 4 t6 (.bool true)) (Zw Pg ds [] R) w λ w =>
 opV Pg (Instr.fieldAt 24 t3 1) (Zw Pg ds [] R) w λ t49 w =>
 opV Pg (Instr.loadAt 22 t49) (Zw Pg ds [] R) w λ t50 w =>
 opV Pg (Builtin.len_ #[22] 3 #[t50]) (Zw Pg ds [] R) w λ t51 w =>
 Yi (λ t52 w next6 =>
 BR t2 t3 t6 t50 t51 t52 next6 ds R w) (.int .i64 0) w
def Fu (t2 t3:Value) (ds:List Deferred) (R:RT) (w:World):Prop :=
 opV Pg (Instr.loadAt 140 t2) (Zw Pg ds [] R) w λ t37 w =>
 opV Pg (Instr.fieldAt 24 t3 1) (Zw Pg ds [] R) w λ t38 w =>
 opV Pg (Instr.loadAt 22 t38) (Zw Pg ds [] R) w λ t39 w =>
 opV Pg (Builtin.len_ #[22] 3 #[t39]) (Zw Pg ds [] R) w λ t40 w =>
 opV Pg (ZM .geq 3 true t40 (.int .i64 1)) (Zw Pg ds [] R) w λ t41 w =>
 Zq (λ (t46:Value) (w:World) =>
 Zu t41 t46 (.bool false) λ t47 =>
 Yq Pg 122 #[t37,t47,(.int .i64 3)] (Zw Pg ds [] R) w λ t48 w =>
 j3 t2 t3 ds R w) λ K5 =>
 Zl t41 true (
 opV Pg (Instr.fieldAt 24 t3 1) (Zw Pg ds [] R) w λ t43 w =>
 opV Pg (Instr.loadAt 22 t43) (Zw Pg ds [] R) w λ t44 w =>
 opV Pg (Builtin.len_ #[22] 3 #[t44]) (Zw Pg ds [] R) w λ t45 w =>
 opV Pg (ZM .leq 3 true t45 (.int .i64 40)) (Zw Pg ds [] R) w λ t46 w =>
 K5 t46 w) (
 K5 undef w)
def Fw (t2 t3:Value) (C4:World→Prop) (ds:List Deferred) (R:RT) (w:World):Prop :=
 qV Pg C4 (Instr.loadAt 140 t2) λ t24 =>
 qN Pg C4 (YM t24) λ t25 =>
 qV Pg C4 (Instr.fieldAt 164 t25 1) λ t26 =>
 qV Pg C4 (Instr.loadAt 161 t26) λ t27 =>
 qV Pg C4 (Instr.fieldAt 24 t3 0) λ t28 =>
 qV Pg C4 (Instr.loadAt 9 t28) λ t29 =>
 qV Pg C4 (Instr.lookup 161 t27 t29 true) λ t30 =>
 qV Pg C4 (Instr.extract t30 0) λ t31 =>
 qV Pg C4 (Instr.extract t30 1) λ t32 =>
 opV Pg (Instr.loadAt 140 t2) (Zw Pg ds [] R) w λ t33 w =>
 opV Pg (Op.unary .not t32) (Zw Pg ds [] R) w λ t35 w =>
 Yq Pg 122 #[t33,t35,(.int .i64 2)] (Zw Pg ds [] R) w λ t36 w =>
 Fu t2 t3 ds R w
def Hs (t2 t3:Value) (C3:World→Prop) (ds:List Deferred) (R:RT) (w:World):Prop :=
 qV Pg C3 (Instr.loadAt 140 t2) λ t18 =>
 qV Pg C3 (Instr.fieldAt 24 t3 0) λ t19 =>
 qV Pg C3 (Instr.loadAt 9 t19) λ t20 =>
 Yq Pg 123 #[t20] (Zw Pg ds [] R) w λ t21 w =>
 C3 w∧(
 Yq Pg 122 #[t18,t21,(.int .i64 1)] (Zw Pg ds [] R) w λ t22 w =>
 C3 w∧(
 Yp w λ C4 w =>
 Fw t2 t3 C4 ds R w))
def BW (t2 t3 t12:Value) (C1:World→Prop) (ds:List Deferred) (R:RT) (w:World):Prop :=
 qN Pg C1 (YM t12) λ t16 =>
 qV Pg C1 (Instr.fieldAt 164 t16 4) λ t17 =>
 opU Pg (Instr.storeAt 3 t17 (.int .i64 (-1))) (Zw Pg ds [] R) w λ w =>
 VS w λ C2 w =>
 Yp w λ C3 w =>
 Hs t2 t3 C3 ds R w
def FZ (t2 t3:Value) (C1:World→Prop) (ds:List Deferred) (R:RT) (w:World):Prop :=
 qV Pg C1 (Instr.loadAt 140 t2) λ t11 =>
 qV Pg C1 (Instr.loadAt 140 t2) λ t12 =>
 qV Pg C1 (Instr.loadAt 24 t3) λ t13 =>
 qN Pg C1 (YM t11) λ t14 =>
 qV Pg C1 (Instr.fieldAt 164 t14 5) λ t15 =>
 opU Pg (Instr.storeAt 24 t15 t13) (Zw Pg ds [] R) w λ w =>
 C1 w∧(
 BW t2 t3 t12 C1 ds R w)
def n61 (t0 t1:Value) (R:RT) (w:World):Prop :=
 (λ (ds:List Deferred) =>
 opV Pg (Instr.box 140 t0) (Zw Pg ds [] R) w λ t2 w =>
 opV Pg (Instr.box 24 t1) (Zw Pg ds [] R) w λ t3 w =>
 Yp w λ C1 w =>
 FZ t2 t3 C1 ds R w) []
set_option maxHeartbeats 40000000 in
theorem ZgZ {t0 t1:Value} {R:RT} {w:World} (h:n61 t0 t1 R w):Calls Pg 124 #[t0,t1] w R:=by
 refine yE Tryz.func124 ?_
 unfold n61 at h
 dsimp only at h
 refine zs<|zr<|yv h λ _ w h=>yv h λ _ w h=>zn<|zk<|zs<|yh [11,12,13,14,15,16,17] h λ C hC h=>ye 0 hC h λ _ h=>?_
 refine ye 1 hC h λ _ h=>?_
 refine ye 2 hC h λ _ h=>?_
 refine yn 3 hC h λ _ h=>?_
 refine ye 4 hC h λ _ h=>?_
 refine yo 5 ?_
 refine yu h λ w h=>zn ?_
 obtain ⟨hC,h⟩:=h
 refine ⟨hC,?_⟩
 refine yn 6 hC h λ _ h=>?_
 refine ye 7 hC h λ _ h=>?_
 refine yq 8 2 ?_
 refine yu h λ w h=>zn ?_
 obtain ⟨C2,hC,h⟩:=h
 refine ⟨C2,hC,?_⟩
 refine yz<|zk<|zs<|yh [18,19,20,21,22] h λ C hC h=>ye 0 hC h λ _ h=>?_
 refine ye 1 hC h λ _ h=>?_
 refine ye 2 hC h λ _ h=>?_
 refine yo 3 ?_
 refine yc h PT λ _ w h=>zn ?_
 obtain ⟨hC,h⟩:=h
 refine ⟨hC,?_⟩
 refine yo 4 ?_
 refine yc h VQ λ _ w h=>zn ?_
 obtain ⟨hC,h⟩:=h
 refine ⟨hC,?_⟩
 refine yz<|zk<|zs<|yh [4,5,23,24,25,26,27,28,29,30,31,32] h λ C hC h=>ye 0 hC h λ _ h=>?_
 refine yn 1 hC h λ _ h=>?_
 refine ye 2 hC h λ _ h=>?_
 refine ye 3 hC h λ _ h=>?_
 refine ye 4 hC h λ _ h=>?_
 refine ye 5 hC h λ _ h=>?_
 refine ye 6 hC h λ _ h=>?_
 refine yw 7 hC ?_
 refine ye 8 hC h λ _ h=>?_
 refine ye 9 hC h λ _ h=>?_
 refine yw 10 hC ?_
 refine yw 11 hC ?_
 refine yz<|zk<|zs<|zr<|yv h λ _ w h=>zm<|yv h λ _ w h=>yc h VQ λ _ w h=>zn<|zk<|zs<|Zs<|yG 6<|yv h λ _ w h=>yv h λ _ w h=>?_
 refine yv h λ _ w h=>yx h λ _ w h=>yb h λ _ w h=>zm<|zn<|yg1 4 5 true [43,44,45,46] 46 h (λ _ T hT h=>?_) λ σ w h=>?_
 · refine yv h λ _ w h=>yv h λ _ w h=>yx h λ _ w h=>yb h λ _ w h=>zn ?_
   exact zt hT h
 refine yG 2<|yp h λ _ h=>yc h VQ λ _ w h=>zn<|ZG<|zk<|zs<|zr<|yv h λ _ w h=>yu h λ w h=>zn<|zk<|zs<|zs<|zr ?_
 refine yv h λ _ w h=>yv h λ _ w h=>yx h λ _ w h=>zm<|zn<|zk<|Zj<|yl1 [7,8,52,53,54,55,56,57,58,59,60,61,62,63,64,65,66,67,68,69,70] 52 h λ σ w next h=>zs<|zr<|yb h λ _ w h=>zn<|zk<|zs<|yC h (λ h=>?_) λ h=>?_
 · refine Zh<|zk<|zs<|Zj<|zs<|zr<|zm<|yv h λ _ w h=>yv h λ _ w h=>yv h λ _ w h=>zm<|yu h λ w h=>zn<|zk<|zs ?_
   refine zr<|yv h λ _ w h=>zm<|yN h λ _ w h=>yv h λ _ w h=>yu h λ w h=>zn<|zk<|zs<|zr<|yv h λ _ w h=>yv h λ _ w h=>yc h Zga λ _ w h=>zn<|zk ?_
   refine Zs<|yG 2<|yv h λ _ w h=>zm<|zn<|yg1 3 1 true [66,67,68] 68 h (λ _ T hT h=>?_) λ σ w h=>?_
   · refine yv h λ _ w h=>yv h λ _ w h=>yv h λ _ w h=>zn ?_
     exact zt hT h
   exact yG 2<|yp h λ _ h=>yu h λ w h=>zn<|ZG<|Zg<|zk<|zr<|yb h λ _ w h=>zm<|zn<|zk<|⟨rfl,h⟩
 refine Zy<|Zc<|Zc<|Zn<|zk<|zs<|zr<|yv h λ _ w h=>yN h λ _ w h=>yv h λ _ w h=>yu h λ w h=>zn<|zk<|zs<|zr ?_
 refine yv h λ _ w h=>yu h λ w h=>zn<|zk<|zs<|zs<|zr<|yv h λ _ w h=>yc h c32 λ _ w h=>zn<|zk<|Zj<|Ue [] h rfl (λ l8 t76 w Kr8 Xr8 Qr8 h=>?_) (λ ds w h=>?_) (λ c ds w h=>?_) (λ ch ds w h=>XR rfl h)
 · refine zr<|zm<|zn<|zk ?_
   obtain ⟨hr,h⟩:=h
   refine ⟨rfl,hr,λ w hb=>?_⟩
   have h:=h w hb
   refine Zj<|zs<|yh [77,78,79,80,81,82,83,84] h λ C hC h=>ye 0 hC h λ _ h=>?_
   refine ye 1 hC h λ _ h=>?_
   refine yn 2 hC h λ _ h=>?_
   refine ye 3 hC h λ _ h=>?_
   refine ye 4 hC h λ _ h=>?_
   refine yw 5 hC ?_
   refine ye 6 hC h λ _ h=>?_
   refine ye 7 hC h λ _ h=>?_
   refine yq 8 1 ?_
   refine yu h λ w h=>zn ?_
   obtain ⟨C10,hC,h⟩:=h
   refine ⟨C10,hC,?_⟩
   refine yz<|zk<|Zs<|yG 2<|yv h λ _ w h=>zm<|zn<|yg1 6 1 true [87,88,89,90,91,92] 92 h (λ _ T hT h=>?_) λ σ w h=>?_
   · refine yv h λ _ w h=>yN h λ _ w h=>yv h λ _ w h=>yv h λ _ w h=>zm<|yv h λ _ w h=>zn ?_
     exact zt hT h
   exact yG 2<|yp h λ _ h=>yu h λ w h=>zn<|ZG<|Zg<|⟨rfl,h⟩
 · refine Zg<|zk<|zs<|yh [94,95,96,97,98,99,100,101,102,103,104,105,106,107,108,109,110,111,112] h λ C hC h=>ye 0 hC h λ _ h=>?_
   refine yn 1 hC h λ _ h=>?_
   refine ye 2 hC h λ _ h=>?_
   refine ye 3 hC h λ _ h=>?_
   refine ye 4 hC h λ _ h=>?_
   refine ye 5 hC h λ _ h=>?_
   refine ye 6 hC h λ _ h=>?_
   refine yn 7 hC h λ _ h=>?_
   refine ye 8 hC h λ _ h=>?_
   refine ye 9 hC h λ _ h=>?_
   refine ye 10 hC h λ _ h=>?_
   refine ye 11 hC h λ _ h=>?_
   refine ye 12 hC h λ _ h=>?_
   refine ye 13 hC h λ _ h=>?_
   refine ye 14 hC h λ _ h=>?_
   refine yo 15 ?_
   refine yv h λ _ w h=>zn ?_
   obtain ⟨hC,h⟩:=h
   refine ⟨hC,?_⟩
   refine ye 16 hC h λ _ h=>?_
   refine yo 17 ?_
   refine yu h λ w h=>zn ?_
   obtain ⟨hC,h⟩:=h
   refine ⟨hC,?_⟩
   refine yo 18 ?_
   refine yv h λ _ w h=>zn ?_
   obtain ⟨hC,h⟩:=h
   refine ⟨hC,?_⟩
   refine ye 19 hC h λ _ h=>?_
   refine yq 20 1 ?_
   refine yu h λ w h=>zn ?_
   obtain ⟨C13,hC,h⟩:=h
   refine ⟨C13,hC,?_⟩
   exact yz<|zk<|zr<|yv h λ _ w h=>yv h λ _ w h=>yb h λ _ w h=>yc h VQ λ _ w h=>zn<|zf<|Xb rfl h
 exact h.elim
end Go.Proofs.YtfjjgjjlebllmaaGreat
