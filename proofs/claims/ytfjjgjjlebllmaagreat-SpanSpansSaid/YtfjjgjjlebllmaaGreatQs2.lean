/-
  Lemmas for the claim.
-/
import Derived.Test.YtfjjgjjlebllmaaGreatQs1
set_option linter.all false
set_option maxHeartbeats 4000000
set_option maxRecDepth 100000
open Go.Instr (loadAt storeAt fieldAt indexAt buildSlice mapUpdate makeFunc)
open Go.Proofs.Tryz
namespace Go.Sw
open Go.RowKit (Below)
def Yk {α:Type} (w:Wd) (base:Nat) (T:TypeId) (n:Nat) (enc:α→List Vl) (v:Vl) (l:List α):Prop:=
 w.ownsRow base T n v l.length (l.flatMap enc)
theorem FJ {w w':Wd} {base n m:Nat} {T:TypeId} {v:Vl} {xs:List Vl} (h:w.ownsRow base T n v m xs) (e:Ext w w'):w'.ownsRow base T n v m xs:=
 h.kept (row:=none) ⟨e.os,e.tape,e.output,e.size,λ k hk _=>e.block k hk⟩ (by cases hv:v.ownBlock<;>simp)
theorem D3 {w:Wd} {base base' n m:Nat} {T:TypeId} {v:Vl} {xs:List Vl} (h:w.ownsRow base T n v m xs) (hb:base'≤base):w.ownsRow base' T n v m xs:=by
 refine ⟨h.1,?_⟩
 rcases h.2 with h2 | ⟨g,cap,cur,h1,h2,h3⟩
 · exact .inl h2
 · exact .inr ⟨g,cap,cur,h1,Nat.le_trans hb h2,h3⟩
theorem Yk.ext {α:Type} {w w':Wd} {base n:Nat} {T:TypeId} {enc:α→List Vl} {v:Vl} {l:List α} (h:Yk w base T n enc v l) (e:Ext w w'):Yk w' base T n enc v l:=FJ h e
theorem Yk.base {α:Type} {w:Wd} {base base' n:Nat} {T:TypeId} {enc:α→List Vl} {v:Vl} {l:List α} (h:Yk w base T n enc v l) (hb:base'≤base):Yk w base' T n enc v l:=D3 h hb
theorem Yk.nil {α:Type} (w:Wd) (base n:Nat) (T:TypeId) (enc:α→List Vl):Yk w base T n enc (.slice none 0 0) []:=w.ownsRow_nil base T n
theorem Wl {α:Type} {enc:α→List Vl} {n:Nat} (hn:∀ x,(enc x).length=n):∀ (l:List α) (k:Nat) (x:α) (j:Nat) (v:Vl),l[k]?=some x→(enc x)[j]?=some v→(l.flatMap enc)[k*n+j]?=some v
 | [],k,x,j,v,h,_=>by simp at h
 | y::l,0,x,j,v,h,hv=>by
  simp only [List.getElem?_cons_zero,Option.some.injEq] at h
  subst h
  have hj:j < (enc y).length:=(List.getElem?_eq_some_iff.1 hv).1
  rw [List.flatMap_cons,Nat.zero_mul,Nat.zero_add,List.getElem?_append_left hj];exact hv
 | y::l,k+1,x,j,v,h,hv=>by
  rw [List.flatMap_cons,List.getElem?_append_right (by rw [hn,Nat.add_mul];omega)]
  have:=Wl hn l k x j v (by simpa using h) hv
  rw [hn,Nat.add_mul]
  rw [show k*n+1*n+j - n=k*n+j by omega]
  exact this
theorem Yk.slice {α:Type} {w:Wd} {base n:Nat} {T:TypeId} {enc:α→List Vl} {v:Vl} {l:List α} {E:Wd→List Vl→α→Prop} (h:Yk w base T n enc v l) (hn:∀ x,(enc x).length=n) (hE:∀ x,x∈l→E w (enc x) x):Zd w n E v l:=by
 obtain ⟨h1,h2⟩:=h
 rcases h2 with ⟨rfl,h0⟩ | ⟨g,cap,cur,rfl,hb,hg,hc,hm,hs,ht⟩
 · have:l=[]:=List.eq_nil_of_length_eq_zero h0
   subst this;exact Zd.nil w n E
 · refine ⟨_,cap,rfl,hc,by simp only [maxLen] at hm;omega,λ _=>⟨g,0,rfl,λ k x hx=>⟨enc x,hn x,λ j v hv=>?_,hE x (List.mem_of_getElem? hx)⟩⟩⟩
   have hk:k < l.length:=(List.getElem?_eq_some_iff.1 hx).1
   have hj:j < n:=by have:=(List.getElem?_eq_some_iff.1 hv).1;rwa [hn] at this
   have:=Wl hn l k x j v hx hv
   rw [← ht,List.getElem?_take] at this
   split at this
   · rw [cell_of_row w g _ cur T (0,0) hg,Nat.zero_add]
     simpa using this
   · cases this
theorem Yk.new {α:Type} (w:Wd) (T:TypeId) (n:Nat) (enc:α→List Vl) (l:List α) (hn:∀ x,(enc x).length=n) (hl:l.length≤9223372036854775807):Yk (w.alloc (.cells (l.flatMap enc).toArray T)) w.heap.size T n enc (.slice (some ⟨w.heap.size,0,none⟩) l.length l.length) l:=by
 have Xl:(l.flatMap enc).length=l.length*n:=by
  clear hl
  induction l with
  | nil=>simp
  | cons a l ih=>rw [List.flatMap_cons,List.length_append,hn,ih,List.length_cons,Nat.add_mul];omega
 exact ⟨Xl,.inr ⟨_,_,_,rfl,Nat.le_refl _,World.alloc_heap_new w _,Nat.le_refl _,by simp only [maxLen];omega,by simpa using Xl,by rw [← Xl];exact List.take_length⟩⟩
abbrev Cs (n:Nat):Type:={cs:List Vl // cs.length=n}
def Kk {α:Type} (n:Nat) (E:List Vl→α→Prop) (css:List (Cs n)) (l:List α):Prop:=css.length=l.length∧∀ (k:Nat) (x:α) (cs:Cs n),l[k]?=some x→css[k]?=some cs→E cs.1 x
theorem Kk.imp {α:Type} {n:Nat} {E E':List Vl→α→Prop} {css:List (Cs n)} {l:List α} (h:Kk n E css l) (hE:∀ cs x,E cs x→E' cs x):Kk n E' css l:=⟨h.1,λ k x cs hx hc=>hE _ _ (h.2 k x cs hx hc)⟩
theorem Kk.mem {α:Type} {n:Nat} {E:List Vl→α→Prop} {css:List (Cs n)} {l:List α} (h:Kk n E css l) {cs:Cs n} (hc:cs∈css):∃ x∈l,E cs.1 x:=by
 obtain ⟨k,hk⟩:=List.getElem?_of_mem hc
 obtain ⟨x,hx⟩:=getElem?_lt (l:=l) (k:=k) (by rw [← h.1];exact (List.getElem?_eq_some_iff.1 hk).1)
 exact ⟨x,List.mem_of_getElem? hx,h.2 k x cs hx hk⟩
theorem KK {n:Nat}:BK (λ (_:Wd) (cs:List Vl) (x:Cs n)=>cs=x.1):=λ _ _ _ _ _ h=>h
theorem Zd.raw {α:Type} {w:Wd} {n:Nat} {E:Wd→List Vl→α→Prop} {v:Vl} {l:List α} (h:Zd w n E v l) :
 ∃ css:List (Cs n),Zd w n (λ _ cs x=>cs=x.1) v css∧Kk n (E w) css l:=by
 obtain ⟨A,c,rfl,hlc,hcm,hlm,Y3⟩:=Zd.open h
 have hex:∀ k,∃ cs:Cs n,∀ x,l[k]?=some x→∃ b o,A=some ⟨b,o,none⟩∧Z6 w b (o+k*n) cs.1∧E w cs.1 x:=by
  intro k
  cases hx:l[k]? with
  | none=>exact ⟨⟨List.replicate n .nilIface,by simp⟩,λ x h=>by cases h⟩
  | some x=>
   obtain ⟨b,o,cs,h1,h2,h3,h4⟩:=Y3 k x hx
   exact ⟨⟨cs,h2⟩,λ y hy=>by injection hy with hy;subst hy;exact ⟨b,o,h1,h3,h4⟩⟩
 let f:=λ k=>Classical.choose (hex k)
 have hf:∀ k x,l[k]?=some x→∃ b o,A=some ⟨b,o,none⟩∧Z6 w b (o+k*n) (f k).1∧E w (f k).1 x:=λ k=>Classical.choose_spec (hex k)
 refine ⟨(List.range l.length).map f,⟨A,c,by simp,by simpa using hlc,hcm,λ Xv=>?_⟩,by simp,λ k x cs hx hcs=>?_⟩
 · have hl0:0 < l.length:=by
    cases hl:l with
    | nil=>rw [hl] at Xv;simp at Xv
    | cons=>simp
   obtain ⟨x,hx⟩:=getElem?_lt hl0
   obtain ⟨b,o,hA,_⟩:=hf 0 x hx
   refine ⟨b,o,hA,λ k cs hcs=>?_⟩
   simp only [List.getElem?_map,Option.map_eq_some_iff] at hcs
   obtain ⟨i,hi,rfl⟩:=hcs
   obtain ⟨hk,he⟩:=List.getElem?_eq_some_iff.1 hi
   simp only [List.length_range] at hk
   rw [List.getElem_range] at he
   subst he
   obtain ⟨y,hy⟩:=getElem?_lt hk
   obtain ⟨b',o',hA',h3,h4⟩:=hf k y hy
   rw [hA] at hA'
   injection hA' with hA'
   injection hA' with h5 h6
   subst h5 h6
   exact ⟨(f k).1,(f k).2,h3,rfl⟩
 · obtain ⟨_,_,_,_,h4⟩:=hf k x hx
   have hk:k < l.length:=(List.getElem?_eq_some_iff.1 hx).1
   simp only [List.getElem?_map,List.getElem?_range hk,Option.map_some,Option.some.injEq] at hcs
   rw [← hcs];exact h4
theorem Yk.reads {α:Type} {w:Wd} {base n:Nat} {T:TypeId} {v:Vl} {css:List (Cs n)} {l:List α} {E:Wd→List Vl→α→Prop} (h:Yk w base T n Subtype.val v css) (hm:Kk n (E w) css l):Zd w n E v l:=by
 have hs:Zd w n (λ _ cs (x:Cs n)=>cs=x.1) v css:=h.slice (λ x=>x.2) (λ _ _=>rfl)
 obtain ⟨A,c,h1,h2,h3,h4⟩:=hs
 rw [hm.1] at h1 h2
 refine ⟨A,c,h1,h2,h3,λ Xv=>?_⟩
 have hne':css≠[]:=by
  rintro rfl
  have:=hm.1
  exact Xv (List.eq_nil_of_length_eq_zero (by simpa using this.symm))
 obtain ⟨b,o,hA,h5⟩:=h4 hne'
 refine ⟨b,o,hA,λ k x hx=>?_⟩
 obtain ⟨cs,hcs⟩:=getElem?_lt (l:=css) (k:=k) (by rw [hm.1];exact (List.getElem?_eq_some_iff.1 hx).1)
 obtain ⟨cs',h6,h7,rfl⟩:=h5 k cs hcs
 exact ⟨cs.1,cs.2,h7,hm.2 k x cs hx hcs⟩
theorem Za {w:Wd} {b:Nat} {cs:AVl} {T:TypeId} (h:w.heap[b]?=some (.cells cs T (0,0))):(∀ o,w.cell? ⟨b,o,none⟩=cs[o]?)∧∀ o,w.frozen? ⟨b,o,none⟩=false:=
 ⟨λ o=>cell_of_row w b o cs T (0,0) h,λ o=>by unfold World.frozen?;rw [h];simp⟩
theorem ZE {w:Wd} {b o:Nat} {cs:AVl} {T:TypeId} {fr:Nat×Nat} (h:w.heap[b]?=some (.cells cs T fr)) (v:Vl):(w.setCell ⟨b,o,none⟩ v).heap[b]?=some (.cells (cs.setIfInBounds o v) T fr):=by
 simp only [World.setCell,Array.getElem?_modify,h]
 simp
def setObj (o:Nat) (v:Vl):Obj→Obj
 | .cells cs T fr => .cells (cs.setIfInBounds o v) T fr
 | x=>x
theorem Y2 (o:Nat) (v:Vl) (cs:AVl) (T:TypeId) (fr:Nat×Nat):setObj o v (.cells cs T fr) = .cells (cs.setIfInBounds o v) T fr:=rfl
theorem Y1 {w:Wd} {b o:Nat} {v:Vl}:(w.setCell ⟨b,o,none⟩ v).heap[b]?=(w.heap[b]?).map (setObj o v):=by
 simp only [World.setCell,Array.getElem?_modify]
 cases w.heap[b]? with
 | none=>simp
 | some x=>simp;cases x<;>rfl
theorem ZG (w:Wd) (cs:AVl) (T:TypeId):(w.alloc (.cells cs T)).heap[w.heap.size]?=some (.cells cs T (0,0)):=World.alloc_heap_new w _
def WR (w:Wd) (b:Nat) (T:TypeId):Prop:=∃ cur fr,w.heap[b]?=some (.cells cur T fr)
def YY (b:Nat) (w w':Wd):Prop:=∀ g,g≠b→w'.heap[g]?=w.heap[g]?
theorem YY.setCell (w:Wd) (b o:Nat) (v:Vl):YY b w (w.setCell ⟨b,o,none⟩ v):=λ g hg=>Below.heap_setCell w ⟨b,o,none⟩ v g hg
def UH {α:Type} (w:Wd) (lo hi:Nat) (T:TypeId) (n:Nat) (enc:α→List Vl) (v:Vl) (l:List α):Prop:=Yk w lo T n enc v l∧∀ b,v.ownBlock=some b→b < hi
theorem Yk.range {α:Type} {w:Wd} {lo n:Nat} {T:TypeId} {enc:α→List Vl} {v:Vl} {l:List α} (h:Yk w lo T n enc v l):UH w lo w.heap.size T n enc v l:=⟨h,λ b hb=>(h.lt b hb).2⟩
theorem UH.ext {α:Type} {w w':Wd} {lo hi n:Nat} {T:TypeId} {enc:α→List Vl} {v:Vl} {l:List α} (h:UH w lo hi T n enc v l) (e:Ext w w'):UH w' lo hi T n enc v l:=⟨h.1.ext e,h.2⟩
theorem UH.mono {α:Type} {w:Wd} {lo lo' hi hi' n:Nat} {T:TypeId} {enc:α→List Vl} {v:Vl} {l:List α} (h:UH w lo hi T n enc v l) (h1:lo'≤lo) (h2:hi≤hi'):UH w lo' hi' T n enc v l:=⟨h.1.base h1,λ b hb=>Nat.lt_of_lt_of_le (h.2 b hb) h2⟩
theorem UH.only {α:Type} {w w':Wd} {lo hi n b:Nat} {T:TypeId} {enc:α→List Vl} {v:Vl} {l:List α} (h:UH w lo hi T n enc v l) (ho:YY b w w') (hb:hi≤b∨b < lo∨∃ T',WR w b T'∧T'≠T):UH w' lo hi T n enc v l:=by
 refine ⟨⟨h.1.1,?_⟩,h.2⟩
 rcases h.1.2 with h2 | ⟨g,cap,cur,h1,h2,h3,h4⟩
 · exact .inl h2
 · refine .inr ⟨g,cap,cur,h1,h2,?_,h4⟩
   rw [ho g ?_];exact h3
   rintro rfl
   rcases hb with hb | hb | ⟨T',⟨cur',fr,hc⟩,hT⟩
   · have:=h.2 g (by rw [h1];rfl)
     omega
   · omega
   · rw [h3] at hc;injection hc with hc;injection hc with _ hc _;exact hT hc.symm
theorem Yk.row {α:Type} {w:Wd} {lo n:Nat} {T:TypeId} {enc:α→List Vl} {v:Vl} {l:List α} (h:Yk w lo T n enc v l) (hn:∀ x,(enc x).length=n) (hl:0 < l.length) :
 ∃ g cap,v = .slice (some ⟨g,0,none⟩) l.length cap∧lo≤g∧g < w.heap.size∧WR w g T∧(∀ o,w.frozen? ⟨g,o,none⟩=false)∧∀ k x,l[k]?=some x→Z6 w g (k*n) (enc x):=by
 rcases h.2 with ⟨rfl,h0⟩ | ⟨g,cap,cur,rfl,hb,hg,hc,hm,hs,ht⟩
 · omega
 · refine ⟨g,cap,rfl,hb,(Array.getElem?_eq_some_iff.1 hg).1,⟨_,_,hg⟩,λ o=>by unfold World.frozen?;rw [hg];simp,λ k x hx j v hv=>?_⟩
   have:=Wl hn l k x j v hx hv
   rw [← ht,List.getElem?_take] at this
   split at this
   · rw [cell_of_row w g _ cur T (0,0) hg]
     simpa using this
   · cases this
theorem JG {n:Nat}:∀ (css:List (Cs n)) (k:Nat) (cs:Cs n) (j:Nat) (u:Vl),css[k]?=some cs→j < n→(css.flatMap Subtype.val).set (k*n+j) u=(css.set k ⟨cs.1.set j u,by simp [cs.2]⟩).flatMap Subtype.val
 | [],k,cs,j,u,h,_=>by simp at h
 | y::l,0,cs,j,u,h,hj=>by
  simp only [List.getElem?_cons_zero,Option.some.injEq] at h
  subst h
  rw [List.set_cons_zero,List.flatMap_cons,List.flatMap_cons,Nat.zero_mul,Nat.zero_add,List.set_append_left _ _ (by rw [y.2];exact hj)]
 | y::l,k+1,cs,j,u,h,hj=>by
  have hk:(k+1)*n=k*n+n:=by rw [Nat.add_mul,Nat.one_mul]
  rw [List.set_cons_succ,List.flatMap_cons,List.flatMap_cons,List.set_append_right _ _ (by rw [y.2,hk];omega),y.2,hk,show k*n+n+j - n=k*n+j by omega]
  rw [JG l k cs j u (by simpa using h) hj]
theorem Yk.set {w:Wd} {lo n g cap len:Nat} {T:TypeId} {css:List (Cs n)} (h:Yk w lo T n Subtype.val (.slice (some ⟨g,0,none⟩) len cap) css) {k:Nat} {cs:Cs n} (hk:css[k]?=some cs) {j:Nat} (hj:j < n) (u:Vl) :
 Yk (w.setCell ⟨g,k*n+j,none⟩ u) lo T n Subtype.val (.slice (some ⟨g,0,none⟩) len cap) (css.set k ⟨cs.1.set j u,by simp [cs.2]⟩):=by
 have hkl:k < css.length:=(List.getElem?_eq_some_iff.1 hk).1
 refine ⟨?_,?_⟩
 · rw [← JG css k cs j u hk hj,List.length_set,List.length_set];exact h.1
 rcases h.2 with ⟨h0,_⟩ | ⟨g',cap',cur,h1,hb,hg,hc,hm,hs,ht⟩
 · cases h0
 · injection h1 with h1 h1' h1''
   injection h1 with h1
   injection h1 with h1
   subst h1 h1''
   refine .inr ⟨g,cap,cur.setIfInBounds (k*n+j) u,by rw [List.length_set,← h1'],hb,?_,by rw [List.length_set];exact hc,hm,by simpa using hs,?_⟩
   · simp only [World.setCell,Array.getElem?_modify,hg]
     simp
   · rw [List.length_set,← JG css k cs j u hk hj,← ht,Array.toList_setIfInBounds,List.take_set]
theorem WR.only {w w':Wd} {b b':Nat} {T:TypeId} (h:WR w b T) (ho:YY b' w w') (hb:b≠b'):WR w' b T:=by
 obtain ⟨cur,fr,h⟩:=h
 exact ⟨cur,fr,by rw [ho b hb];exact h⟩
theorem WR.ext {w w':Wd} {b:Nat} {T:TypeId} (h:WR w b T) (e:Ext w w'):WR w' b T:=by
 obtain ⟨cur,fr,h⟩:=h
 exact ⟨cur,fr,e.obj h⟩
theorem Yk.mates {α:Type} {w:Wd} {lo n:Nat} {T:TypeId} {enc:α→List Vl} {v:Vl} {css:List (Cs n)} {l:List α} (h:Yk w lo T n Subtype.val v css) (hm:Kk n (λ cs x=>cs=enc x) css l):Yk w lo T n enc v l:=by
 have he:css.flatMap Subtype.val=l.flatMap enc:=by
  have:css.map Subtype.val=l.map enc:=by
   apply List.ext_getElem?
   intro i
   rw [List.getElem?_map,List.getElem?_map]
   cases hc:css[i]? with
   | none=>
    have:l[i]?=none:=by rw [List.getElem?_eq_none_iff] at hc ⊢;rw [← hm.1];exact hc
    rw [this];rfl
   | some cs=>
    obtain ⟨x,hx⟩:=getElem?_lt (l:=l) (k:=i) (by rw [← hm.1];exact (List.getElem?_eq_some_iff.1 hc).1)
    rw [hx]
    simp only [Option.map_some,Option.some.injEq]
    exact hm.2 i x cs hx hc
  rw [List.flatMap_def,List.flatMap_def,this]
 unfold Yk at *
 rw [← he,← hm.1];exact h
section
variable {P:Program} {QP:PEn} {w:Wd}
theorem KZ {t ty T n m:Nat} {z:Vl} {agg:Bool} {k:KV} (ht:P.underlying t=some (.slice T)) (hT:ZH P T agg n m z) (B A:Option Addr) (len cap c:Nat) (hc:len≤cap) :
 opV P (Builtin.append_ #[t,t] ty #[.slice B len cap,.slice A 0 c]) QP w k=k (.slice B len cap) w:=by
 obtain ⟨⟨i,hi,hs,hby,hzz⟩,_⟩:=hT
 refine Yi ?_
 cases A with
 | none=>cases B<;>simp [Builtin.append_,run_underlying ht,sizeOf,typeInfo,hi,Builtin.lenOf,Builtin.firstCells,hc,storeCells]
 | some a=>cases B<;>simp [Builtin.append_,run_underlying ht,sizeOf,typeInfo,hi,Builtin.lenOf,Builtin.firstCells,hc,storeCells,loadCells,loadCellsFrom]
theorem QT {α:Type} {t ty T n m:Nat} {z:Vl} {agg:Bool} {enc:α→List Vl} {v:Vl} {l l':List α} {base:Nat} {k:KV}
 (ht:P.underlying t=some (.slice T)) (hT:ZH P T agg n m z) (hz:z.cells.size=n) (h0:0 < n) (hn:∀ x,(enc x).length=n) (h1:∀ x,x∈l'→∀ u∈enc x,u.oneCell'=true)
 (BS:Yk w base T n enc v l) {b o c:Nat} (hc:∀ j x,l'[j]?=some x→Z6 w b (o+j*n) (enc x)) (GE:base≤w.heap.size) (hm:(l.length+l'.length)*m≤140737488355328) (hb:l.length+l'.length≤140737488355328)
 (hk:∀ v' w',Yk w' base T n enc v' (l++l')→w.grownBy w' v.ownBlock→k v' w') :
 opV P (Builtin.append_ #[t,t] ty #[v,.slice (some ⟨b,o,none⟩) l'.length c]) QP w k:=by
 obtain ⟨⟨i,hi,hs,hby,hzz⟩,_⟩:=hT
 have hfl:(l'.flatMap enc).length=l'.length*n:=by
  clear hm hb hc h1 hk
  induction l' with
  | nil=>simp
  | cons a l ih=>rw [List.flatMap_cons,List.length_append,hn,ih,List.length_cons,Nat.add_mul];omega
 have hcells:∀ j u,(l'.flatMap enc)[j]?=some u→w.cell? ((⟨b,o,none⟩:Addr).add j)=some u:=by
  intro j u hu
  have hj:j < l'.length*n:=by have:=(List.getElem?_eq_some_iff.1 hu).1;rwa [hfl] at this
  have hq:j / n < l'.length:=Nat.div_lt_of_lt_mul (by rw [Nat.mul_comm];exact hj)
  obtain ⟨x,hx⟩:=getElem?_lt hq
  have hjn:j % n < (enc x).length:=by rw [hn];exact Nat.mod_lt _ h0
  have hdm:j / n*n+j % n=j:=by rw [Nat.mul_comm];exact Nat.div_add_mod j n
  have hg:=Wl hn l' (j / n) x (j % n) _ hx (List.getElem?_eq_getElem hjn)
  rw [hdm,hu] at hg
  injection hg with hg
  rw [Addr.add_lit]
  have:=hc _ _ hx (j % n) _ (List.getElem?_eq_getElem hjn)
  rw [hg,← this]
  congr 2;omega
 obtain ⟨v',w',hr,ho,hg,_⟩:=run_append_own (P:=P) w base t ty T i z n m ht hi hzz hs hby hz h0 v l.length (l.flatMap enc) BS ⟨b,o,none⟩ l'.length c (l'.flatMap enc) hfl hcells
  (by intro u hu;obtain ⟨x,hx,hux⟩:=List.mem_flatMap.1 hu;exact h1 x hx u hux) (by simp only [maxLen];omega) hm GE
 rw [Yi hr]
 refine hk v' w' ?_ hg
 unfold Yk
 rw [List.flatMap_append,List.length_append];exact ho
end
end Go.Sw
namespace Go.Proofs.YtfjjgjjlebllmaaGreat
open Sw
noncomputable abbrev Pg:=Tryz.prog
def L0 (T:TypeId) (a:Vl) (R:RT) (w:Wd) (k:KV):Prop:=opV Pg (loadAt T a) (Zh R) w k
theorem ZcG (T:TypeId) (a:Vl) (R:RT) (w:Wd) (k:KV):L0 T a R w k=opV Pg (loadAt T a) (Zh R) w k:=rfl
def F0 (T:TypeId) (a:Vl) (i:Nat) (R:RT) (w:Wd) (k:KV):Prop:=opV Pg (fieldAt T a i) (Zh R) w k
theorem ZcC (T:TypeId) (a:Vl) (i:Nat) (R:RT) (w:Wd) (k:KV):F0 T a i R w k=opV Pg (fieldAt T a i) (Zh R) w k:=rfl
def X0 (T:TypeId) (a i:Vl) (R:RT) (w:Wd) (k:KV):Prop:=opV Pg (indexAt T a i) (Zh R) w k
theorem ZcL (T:TypeId) (a i:Vl) (R:RT) (w:Wd) (k:KV):X0 T a i R w k=opV Pg (indexAt T a i) (Zh R) w k:=rfl
def B0 (o:BinOp) (T:TypeId) (c:Bool) (a b:Vl) (R:RT) (w:Wd) (k:KV):Prop:=opV Pg (ZI o T c a b) (Zh R) w k
theorem Zcz (o:BinOp) (T:TypeId) (c:Bool) (a b:Vl) (R:RT) (w:Wd) (k:KV):B0 o T c a b R w k=opV Pg (ZI o T c a b) (Zh R) w k:=rfl
def C0 (f:FuncId) (a:AVl) (R:RT) (w:Wd) (k:KV):Prop:=Yt Pg f a (Zh R) w k
theorem ZcA (f:FuncId) (a:AVl) (R:RT) (w:Wd) (k:KV):C0 f a R w k=Yt Pg f a (Zh R) w k:=rfl
def G0 (T U:TypeId) (a:Vl) (R:RT) (w:Wd) (k:KV):Prop:=opV Pg (Builtin.len_ #[T] U #[a]) (Zh R) w k
theorem ZcD (T U:TypeId) (a:Vl) (R:RT) (w:Wd) (k:KV):G0 T U a R w k=opV Pg (Builtin.len_ #[T] U #[a]) (Zh R) w k:=rfl
def E0 (a:Vl) (i:Nat) (R:RT) (w:Wd) (k:KV):Prop:=opV Pg (Instr.extract a i) (Zh R) w k
theorem ZcB (a:Vl) (i:Nat) (R:RT) (w:Wd) (k:KV):E0 a i R w k=opV Pg (Instr.extract a i) (Zh R) w k:=rfl
def N0 (a:Vl) (R:RT) (w:Wd) (k:KV):Prop:=opV Pg (Op.unary .not a) (Zh R) w k
theorem ZcI (a:Vl) (R:RT) (w:Wd) (k:KV):N0 a R w k=opV Pg (Op.unary .not a) (Zh R) w k:=rfl
def S0 (T:TypeId) (a b:Vl) (R:RT) (w:Wd) (k:WPr):Prop:=opU Pg (storeAt T a b) (Zh R) w k
theorem ZcK (T:TypeId) (a b:Vl) (R:RT) (w:Wd) (k:WPr):S0 T a b R w k=opU Pg (storeAt T a b) (Zh R) w k:=rfl
def I0 (T:TypeId) (a:Vl) (C:WPr) (k:Vl→Prop):Prop:=qV Pg C (loadAt T a) k
theorem ZcE (T:TypeId) (a:Vl) (C:WPr) (k:Vl→Prop):I0 T a C k=qV Pg C (loadAt T a) k:=rfl
def J0 (T:TypeId) (a:Vl) (i:Nat) (C:WPr) (k:Vl→Prop):Prop:=qV Pg C (fieldAt T a i) k
theorem ZcF (T:TypeId) (a:Vl) (i:Nat) (C:WPr) (k:Vl→Prop):J0 T a i C k=qV Pg C (fieldAt T a i) k:=rfl
def M0 (T:TypeId) (a i:Vl) (C:WPr) (k:Vl→Prop):Prop:=qV Pg C (indexAt T a i) k
theorem ZcH (T:TypeId) (a i:Vl) (C:WPr) (k:Vl→Prop):M0 T a i C k=qV Pg C (indexAt T a i) k:=rfl
abbrev OQ0 (ds:LDf) (T:TypeId) (a:Vl) (R:RT):List PanicEntry→Wd→Prop:=ZP Pg ds [(some T,a)] R
def ZbV (d:TypeDesc):Bool:=match d with | .struct _ | .array _ _=>true | _=>false
theorem Xj {P:Program} {T:TypeId} {agg:Bool} {n:Nat} {z:Vl} {d:TypeDesc} (h:(P.info? T).map (λ i=>(i.size,i.zero))=some (n,some z)) (hu:P.underlying T=some d) (ha:ZbV d=agg):ZH P T agg n (P.bytesOf T) z:=by
 obtain ⟨i,hi,he⟩:=Option.map_eq_some_iff.1 h
 simp only [Prod.mk.injEq] at he
 exact ⟨⟨i,hi,he.1,by simp [Program.bytesOf,hi],he.2⟩,d,hu,ha⟩
theorem ty3:ZH Pg 3 false 1 (Pg.bytesOf 3) (.int .i64 0):=Xj (by kernel_rfl) underlying3 rfl
theorem by3:Pg.bytesOf 3≤4096:=Nat.le_of_ble_eq_true (by kernel_rfl)
theorem ty4:ZH Pg 4 false 1 (Pg.bytesOf 4) (.bool false):=Xj (by kernel_rfl) underlying4 rfl
theorem by4:Pg.bytesOf 4≤4096:=Nat.le_of_ble_eq_true (by kernel_rfl)
theorem ty5:ZH Pg 5 false 1 (Pg.bytesOf 5) (.int .u8 0):=Xj (by kernel_rfl) underlying5 rfl
theorem ty9:ZH Pg 9 false 1 (Pg.bytesOf 9) (.string ByteArray.empty):=Xj (by kernel_rfl) underlying9 rfl
theorem by9:Pg.bytesOf 9≤4096:=Nat.le_of_ble_eq_true (by kernel_rfl)
theorem NA:ZH Pg 22 false 1 (Pg.bytesOf 22) (.slice none 0 0):=Xj (by kernel_rfl) underlying22 rfl
theorem Ki:ZH Pg 24 true 2 (Pg.bytesOf 24) (.agg #[.string ByteArray.empty,.slice none 0 0]):=Xj (by kernel_rfl) underlying24 rfl
theorem Zgx:Pg.bytesOf 24≤4096:=Nat.le_of_ble_eq_true (by kernel_rfl)
theorem SC:ZH Pg 26 false 1 (Pg.bytesOf 26) (.slice none 0 0):=Xj (by kernel_rfl) underlying26 rfl
theorem I6:ZH Pg 28 true 3 (Pg.bytesOf 28) (.agg #[.string ByteArray.empty,.slice none 0 0,.string ByteArray.empty]):=Xj (by kernel_rfl) underlying28 rfl
theorem TN:ZH Pg 30 false 1 (Pg.bytesOf 30) (.slice none 0 0):=Xj (by kernel_rfl) underlying30 rfl
theorem Zcr:ZH Pg 31 false 1 (Pg.bytesOf 31) (.int .i64 0):=Xj (by kernel_rfl) underlying31 rfl
theorem xj:ZH Pg 42 false 1 (Pg.bytesOf 42) (.int .i64 0):=Xj (by kernel_rfl) underlying42 rfl
theorem Hj:ZH Pg 43 false 1 (Pg.bytesOf 43) (.slice none 0 0):=Xj (by kernel_rfl) underlying43 rfl
theorem GB:ZH Pg 45 true 2 (Pg.bytesOf 45) (.agg #[.int .i64 0,.slice none 0 0]):=Xj (by kernel_rfl) underlying45 rfl
theorem jB:ZH Pg 46 false 1 (Pg.bytesOf 46) (.slice none 0 0):=Xj (by kernel_rfl) underlying46 rfl
theorem V2:ZH Pg 48 true 15 (Pg.bytesOf 48) (.agg #[.string ByteArray.empty,.int .i64 0,.int .i64 0,.bool false,.bool false,.int .i64 0,.int .i64 0,.int .i64 0,.slice none 0 0,.string ByteArray.empty,.string ByteArray.empty,.string ByteArray.empty,.slice none 0 0,.int .i64 0,.int .i64 0]):=Xj (by kernel_rfl) underlying48 rfl
theorem Zgy:Pg.bytesOf 48≤4096:=Nat.le_of_ble_eq_true (by kernel_rfl)
theorem jC:ZH Pg 60 true 3 (Pg.bytesOf 60) (.agg #[.int .i64 0,.int .i64 0,.string ByteArray.empty]):=Xj (by kernel_rfl) underlying60 rfl
theorem Zgz:Pg.bytesOf 60≤4096:=Nat.le_of_ble_eq_true (by kernel_rfl)
theorem B5:ZH Pg 62 true 2 (Pg.bytesOf 62) (.agg #[.string ByteArray.empty,.int .i64 0]):=Xj (by kernel_rfl) underlying62 rfl
theorem ZgA:Pg.bytesOf 62≤4096:=Nat.le_of_ble_eq_true (by kernel_rfl)
theorem Zcs:ZH Pg 71 false 1 (Pg.bytesOf 71) (.slice none 0 0):=Xj (by kernel_rfl) underlying71 rfl
theorem UY:ZH Pg 74 true 2 (Pg.bytesOf 74) (.agg #[.int .i64 0,.int .i64 0]):=Xj (by kernel_rfl) underlying74 rfl
theorem xk:ZH Pg 76 true 2 (Pg.bytesOf 76) (.agg #[.int .i64 0,.int .i64 0]):=Xj (by kernel_rfl) underlying76 rfl
theorem ZbL:Pg.bytesOf 76≤4096:=Nat.le_of_ble_eq_true (by kernel_rfl)
theorem Zct:ZH Pg 82 false 1 (Pg.bytesOf 82) (.slice none 0 0):=Xj (by kernel_rfl) underlying82 rfl
theorem Zgm:ZH Pg 88 false 1 (Pg.bytesOf 88) (.int .i64 0):=Xj (by kernel_rfl) underlying88 rfl
theorem NB:ZH Pg 90 true 3 (Pg.bytesOf 90) (.agg #[.int .i64 0,.int .i64 0,.int .i64 0]):=Xj (by kernel_rfl) underlying90 rfl
theorem Sy:ZH Pg 119 false 1 (Pg.bytesOf 119) (.slice none 0 0):=Xj (by kernel_rfl) underlying119 rfl
theorem jr:ZH Pg 122 false 1 (Pg.bytesOf 122) (.map none):=Xj (by kernel_rfl) underlying122 rfl
theorem Kz:ZH Pg 124 true 3 (Pg.bytesOf 124) (.agg #[.string ByteArray.empty,.slice none 0 0,.map none]):=Xj (by kernel_rfl) underlying124 rfl
theorem ZcM:Pg.bytesOf 124≤4096:=Nat.le_of_ble_eq_true (by kernel_rfl)
theorem Sz:ZH Pg 140 false 1 (Pg.bytesOf 140) (.pointer none):=Xj (by kernel_rfl) underlying140 rfl
theorem Mk:ZH Pg 144 true 13 (Pg.bytesOf 144) (.agg #[.string ByteArray.empty,.string ByteArray.empty,.string ByteArray.empty,.string ByteArray.empty,.int .i64 0,.int .i64 0,.int .i64 0,.int .i64 0,.int .i64 0,.int .i64 0,.int .i64 0,.bool false,.bool false]):=Xj (by kernel_rfl) underlying144 rfl
theorem Hh:ZH Pg 161 false 1 (Pg.bytesOf 161) (.map none):=Xj (by kernel_rfl) underlying161 rfl
theorem BF:ZH Pg 162 false 1 (Pg.bytesOf 162) (.map none):=Xj (by kernel_rfl) underlying162 rfl
theorem Zgj:ZH Pg 164 true 9 (Pg.bytesOf 164) (.agg #[.string ByteArray.empty,.slice none 0 0,.string ByteArray.empty,.map none,.map none,.int .i64 0,.int .i64 0,.string ByteArray.empty,.slice none 0 0]):=Xj (by kernel_rfl) underlying164 rfl
theorem Zgk:ZH Pg 169 false 1 (Pg.bytesOf 169) (.nilFunc):=Xj (by kernel_rfl) underlying169 rfl
theorem jt:ZH Pg 206 true 3 (Pg.bytesOf 206) (.agg #[.string ByteArray.empty,.int .i64 0,.int .i64 0]):=Xj (by kernel_rfl) underlying206 rfl
theorem TS:Pg.bytesOf 206≤4096:=Nat.le_of_ble_eq_true (by kernel_rfl)
theorem SA:ZH Pg 216 false 1 (Pg.bytesOf 216) (.nilFunc):=Xj (by kernel_rfl) underlying216 rfl
theorem SB:ZH Pg 217 false 1 (Pg.bytesOf 217) (.nilFunc):=Xj (by kernel_rfl) underlying217 rfl
theorem Hi:ZH Pg 219 true 2 (Pg.bytesOf 219) (.agg #[.nilFunc,.nilFunc]):=Xj (by kernel_rfl) underlying219 rfl
theorem Zgl:ZH Pg 236 false 1 (Pg.bytesOf 236) (.nilFunc):=Xj (by kernel_rfl) underlying236 rfl
theorem ZhQ {w:Wd} (a0 b0:Int) (a1 b1:Int) (a2 b2:BAr):(Op.equalIn (9999+1) 60 (.agg #[.int .i64 a0,.int .i64 a1,.string a2]) (.agg #[.int .i64 b0,.int .i64 b1,.string b2])).run Pg w = .ok (decide (a0=b0)&&(decide (a1=b1)&&(decide (a2=b2)&&true))) w:=
 Vq underlying60 (by kernel_rfl) (Ye rfl (Y6 ty3 rfl) (Y6 ty3 rfl) (Ji underlying3) (Ye rfl (Y6 ty3 rfl) (Y6 ty3 rfl) (Ji underlying3) (Ye rfl (Y6 ty9 rfl) (Y6 ty9 rfl) (Kp underlying9) UA)))
theorem ZhR {w:Wd} (a0 b0:BAr) (a1 b1:Int):(Op.equalIn (9999+1) 62 (.agg #[.string a0,.int .i64 a1]) (.agg #[.string b0,.int .i64 b1])).run Pg w = .ok (decide (a0=b0)&&(decide (a1=b1)&&true)) w:=
 Vq underlying62 (by kernel_rfl) (Ye rfl (Y6 ty9 rfl) (Y6 ty9 rfl) (Kp underlying9) (Ye rfl (Y6 ty3 rfl) (Y6 ty3 rfl) (Ji underlying3) UA))
theorem Zdf {w:Wd} (a0 b0:Int) (a1 b1:Int):(Op.equalIn (9999+1) 74 (.agg #[.int .i64 a0,.int .i64 a1]) (.agg #[.int .i64 b0,.int .i64 b1])).run Pg w = .ok (decide (a0=b0)&&(decide (a1=b1)&&true)) w:=
 Vq underlying74 (by kernel_rfl) (Ye rfl (Y6 ty3 rfl) (Y6 ty3 rfl) (Ji underlying3) (Ye rfl (Y6 ty3 rfl) (Y6 ty3 rfl) (Ji underlying3) UA))
theorem Zde {w:Wd} (a0 b0:BAr) (a1 b1:BAr) (a2 b2:BAr) (a3 b3:BAr) (a4 b4:Int) (a5 b5:Int) (a6 b6:Int) (a7 b7:Int) (a8 b8:Int) (a9 b9:Int) (a10 b10:Int) (a11 b11:Bool) (a12 b12:Bool):(Op.equalIn (9999+1) 144 (.agg #[.string a0,.string a1,.string a2,.string a3,.int .i64 a4,.int .i64 a5,.int .i64 a6,.int .i64 a7,.int .i64 a8,.int .i64 a9,.int .i64 a10,.bool a11,.bool a12]) (.agg #[.string b0,.string b1,.string b2,.string b3,.int .i64 b4,.int .i64 b5,.int .i64 b6,.int .i64 b7,.int .i64 b8,.int .i64 b9,.int .i64 b10,.bool b11,.bool b12])).run Pg w = .ok (decide (a0=b0)&&(decide (a1=b1)&&(decide (a2=b2)&&(decide (a3=b3)&&(decide (a4=b4)&&(decide (a5=b5)&&(decide (a6=b6)&&(decide (a7=b7)&&(decide (a8=b8)&&(decide (a9=b9)&&(decide (a10=b10)&&(decide (a11=b11)&&(decide (a12=b12)&&true))))))))))))) w:=
 Vq underlying144 (by kernel_rfl) (Ye rfl (Y6 ty9 rfl) (Y6 ty9 rfl) (Kp underlying9) (Ye rfl (Y6 ty9 rfl) (Y6 ty9 rfl) (Kp underlying9) (Ye rfl (Y6 ty9 rfl) (Y6 ty9 rfl) (Kp underlying9) (Ye rfl (Y6 ty9 rfl) (Y6 ty9 rfl) (Kp underlying9) (Ye rfl (Y6 xj rfl) (Y6 xj rfl) (Ji underlying42) (Ye rfl (Y6 ty3 rfl) (Y6 ty3 rfl) (Ji underlying3) (Ye rfl (Y6 ty3 rfl) (Y6 ty3 rfl) (Ji underlying3) (Ye rfl (Y6 ty3 rfl) (Y6 ty3 rfl) (Ji underlying3) (Ye rfl (Y6 ty3 rfl) (Y6 ty3 rfl) (Ji underlying3) (Ye rfl (Y6 ty3 rfl) (Y6 ty3 rfl) (Ji underlying3) (Ye rfl (Y6 ty3 rfl) (Y6 ty3 rfl) (Ji underlying3) (Ye rfl (Y6 ty4 rfl) (Y6 ty4 rfl) (N5 underlying4) (Ye rfl (Y6 ty4 rfl) (Y6 ty4 rfl) (N5 underlying4) UA)))))))))))))
section
variable {QP:PEn} {w:Wd} {k:KV}
def o0:=Xi (QP:=QP) (w:=w) (k:=k) ty3
theorem o1:(∀ u,opV Pg (Instr.alloc 3 true u) QP w k=k (.pointer (some ⟨w.heap.size,0,none⟩)) (w.alloc (.cells ((.int .i64 0):Vl).cells 3))):=(YE ty3)
def o2:=Xi (QP:=QP) (w:=w) (k:=k) ty4
theorem o3:(∀ c a b,opV Pg (ZI .eql 4 c (.bool a) (.bool b)) QP w k=k (.bool (a == b)) w):=(Tw underlying4)
theorem o4:(∀ c a b,opV Pg (ZI .neq 4 c (.bool a) (.bool b)) QP w k=k (.bool (a != b)) w):=(Tx underlying4)
theorem o5:(∀ u,opV Pg (Instr.alloc 4 true u) QP w k=k (.pointer (some ⟨w.heap.size,0,none⟩)) (w.alloc (.cells ((.bool false):Vl).cells 4))):=(YE ty4)
def o6:=Xi (QP:=QP) (w:=w) (k:=k) ty5
def o7:=Xi (QP:=QP) (w:=w) (k:=k) ty9
theorem o8:(∀ r s,opV Pg (Builtin.len_ #[9] r #[.string s]) QP w k=k (.int .i64 (s.size:Int)) w):=(λ r=>BT (r:=r) underlying9)
def o9:=Xi (QP:=QP) (w:=w) (k:=k) NA
theorem o10:(∀ r a n c,opV Pg (Builtin.len_ #[22] r #[.slice a n c]) QP w k=k (.int .i64 (n:Int)) w):=(λ r=>Xm (r:=r) underlying22)
theorem o11:(∀ b o len cap ik (i:Nat),i < len→opV Pg (indexAt 22 (.slice (some ⟨b,o,none⟩) len cap) (.int ik (i:Int))) QP w k=k (.pointer (some ⟨b,o+i*15,none⟩)) w):=(YN underlying22 V2)
def o12:=Qx (QP:=QP) (w:=w) (k:=k) (i:=0) (ft:=9) (n:=1) underlying24 rfl ty9 rfl
def o13:=Yf (QP:=QP) (w:=w) (k:=k) (i:=1) (ft:=22) (off:=1) (n:=1) underlying24 rfl NA rfl
theorem o14:(∀ b o,opV Pg (loadAt 24 (.pointer (some ⟨b,o,none⟩))) QP w k=Z7 [w.cell? ⟨b,o,none⟩,w.cell? ⟨b,o+1,none⟩] (λ vs=>k (.agg vs.toArray) w) (zy Pg (loadAt 24 (.pointer (some ⟨b,o,none⟩))) QP w k)):=(by intro b o;exact Wp Ki b o _ rfl)
theorem o15:(∀ u,opV Pg (Instr.alloc 24 true u) QP w k=k (.pointer (some ⟨w.heap.size,0,none⟩)) (w.alloc (.cells ((.agg #[.string ByteArray.empty,.slice none 0 0]):Vl).cells 24))):=(YE Ki)
def o16:=Xi (QP:=QP) (w:=w) (k:=k) SC
theorem o17:(∀ r a n c,opV Pg (Builtin.len_ #[26] r #[.slice a n c]) QP w k=k (.int .i64 (n:Int)) w):=(λ r=>Xm (r:=r) underlying26)
theorem o18:(∀ b o len cap ik (i:Nat),i < len→opV Pg (indexAt 26 (.slice (some ⟨b,o,none⟩) len cap) (.int ik (i:Int))) QP w k=k (.pointer (some ⟨b,o+i*2,none⟩)) w):=(YN underlying26 Ki)
def o19:=Qx (QP:=QP) (w:=w) (k:=k) (i:=0) (ft:=9) (n:=1) underlying28 rfl ty9 rfl
def o20:=Yf (QP:=QP) (w:=w) (k:=k) (i:=1) (ft:=26) (off:=1) (n:=1) underlying28 rfl SC rfl
def o21:=Yf (QP:=QP) (w:=w) (k:=k) (i:=2) (ft:=9) (off:=2) (n:=1) underlying28 rfl ty9 rfl
theorem o22:(∀ b o,opV Pg (loadAt 28 (.pointer (some ⟨b,o,none⟩))) QP w k=Z7 [w.cell? ⟨b,o,none⟩,w.cell? ⟨b,o+1,none⟩,w.cell? ⟨b,o+2,none⟩] (λ vs=>k (.agg vs.toArray) w) (zy Pg (loadAt 28 (.pointer (some ⟨b,o,none⟩))) QP w k)):=(by intro b o;exact Wp I6 b o _ rfl)
theorem o23:(∀ u,opV Pg (Instr.alloc 28 true u) QP w k=k (.pointer (some ⟨w.heap.size,0,none⟩)) (w.alloc (.cells ((.agg #[.string ByteArray.empty,.slice none 0 0,.string ByteArray.empty]):Vl).cells 28))):=(YE I6)
def o24:=Xi (QP:=QP) (w:=w) (k:=k) TN
theorem o25:(∀ r a n c,opV Pg (Builtin.len_ #[30] r #[.slice a n c]) QP w k=k (.int .i64 (n:Int)) w):=(λ r=>Xm (r:=r) underlying30)
theorem o26:(∀ b o len cap ik (i:Nat),i < len→opV Pg (indexAt 30 (.slice (some ⟨b,o,none⟩) len cap) (.int ik (i:Int))) QP w k=k (.pointer (some ⟨b,o+i*1,none⟩)) w):=(YN underlying30 ty3)
theorem o27:(∀ u,opV Pg (Instr.alloc 30 true u) QP w k=k (.pointer (some ⟨w.heap.size,0,none⟩)) (w.alloc (.cells ((.slice none 0 0):Vl).cells 30))):=(YE TN)
theorem o28:(∀ u,opV Pg (Instr.alloc 31 true u) QP w k=k (.pointer (some ⟨w.heap.size,0,none⟩)) (w.alloc (.cells ((.int .i64 0):Vl).cells 31))):=(YE Zcr)
def o29:=Xi (QP:=QP) (w:=w) (k:=k) xj
def o30:=Xi (QP:=QP) (w:=w) (k:=k) Hj
theorem o31:(∀ r a n c,opV Pg (Builtin.len_ #[43] r #[.slice a n c]) QP w k=k (.int .i64 (n:Int)) w):=(λ r=>Xm (r:=r) underlying43)
theorem o32:(∀ b o len cap ik (i:Nat),i < len→opV Pg (indexAt 43 (.slice (some ⟨b,o,none⟩) len cap) (.int ik (i:Int))) QP w k=k (.pointer (some ⟨b,o+i*2,none⟩)) w):=(YN underlying43 B5)
theorem o33:(∀ u,opV Pg (Instr.alloc 43 true u) QP w k=k (.pointer (some ⟨w.heap.size,0,none⟩)) (w.alloc (.cells ((.slice none 0 0):Vl).cells 43))):=(YE Hj)
def o34:=Qx (QP:=QP) (w:=w) (k:=k) (i:=0) (ft:=3) (n:=1) underlying45 rfl ty3 rfl
def o35:=Yf (QP:=QP) (w:=w) (k:=k) (i:=1) (ft:=43) (off:=1) (n:=1) underlying45 rfl Hj rfl
theorem o36:(∀ b o,opV Pg (loadAt 45 (.pointer (some ⟨b,o,none⟩))) QP w k=Z7 [w.cell? ⟨b,o,none⟩,w.cell? ⟨b,o+1,none⟩] (λ vs=>k (.agg vs.toArray) w) (zy Pg (loadAt 45 (.pointer (some ⟨b,o,none⟩))) QP w k)):=(by intro b o;exact Wp GB b o _ rfl)
theorem o37:(∀ u,opV Pg (Instr.alloc 45 true u) QP w k=k (.pointer (some ⟨w.heap.size,0,none⟩)) (w.alloc (.cells ((.agg #[.int .i64 0,.slice none 0 0]):Vl).cells 45))):=(YE GB)
def o38:=Xi (QP:=QP) (w:=w) (k:=k) jB
theorem o39:(∀ r a n c,opV Pg (Builtin.len_ #[46] r #[.slice a n c]) QP w k=k (.int .i64 (n:Int)) w):=(λ r=>Xm (r:=r) underlying46)
theorem o40:(∀ b o len cap ik (i:Nat),i < len→opV Pg (indexAt 46 (.slice (some ⟨b,o,none⟩) len cap) (.int ik (i:Int))) QP w k=k (.pointer (some ⟨b,o+i*3,none⟩)) w):=(YN underlying46 jC)
def o41:=Qx (QP:=QP) (w:=w) (k:=k) (i:=0) (ft:=9) (n:=1) underlying48 rfl ty9 rfl
def o42:=Yf (QP:=QP) (w:=w) (k:=k) (i:=1) (ft:=42) (off:=1) (n:=1) underlying48 rfl xj rfl
def o43:=Yf (QP:=QP) (w:=w) (k:=k) (i:=2) (ft:=3) (off:=2) (n:=1) underlying48 rfl ty3 rfl
def o44:=Yf (QP:=QP) (w:=w) (k:=k) (i:=3) (ft:=4) (off:=3) (n:=1) underlying48 rfl ty4 rfl
def o45:=Yf (QP:=QP) (w:=w) (k:=k) (i:=4) (ft:=4) (off:=4) (n:=1) underlying48 rfl ty4 rfl
def o46:=Yf (QP:=QP) (w:=w) (k:=k) (i:=5) (ft:=3) (off:=5) (n:=1) underlying48 rfl ty3 rfl
def o47:=Yf (QP:=QP) (w:=w) (k:=k) (i:=6) (ft:=3) (off:=6) (n:=1) underlying48 rfl ty3 rfl
def o48:=Yf (QP:=QP) (w:=w) (k:=k) (i:=7) (ft:=45) (off:=7) (n:=2) underlying48 rfl GB rfl
def o49:=Yf (QP:=QP) (w:=w) (k:=k) (i:=8) (ft:=9) (off:=9) (n:=1) underlying48 rfl ty9 rfl
def o50:=Yf (QP:=QP) (w:=w) (k:=k) (i:=9) (ft:=9) (off:=10) (n:=1) underlying48 rfl ty9 rfl
def o51:=Yf (QP:=QP) (w:=w) (k:=k) (i:=10) (ft:=9) (off:=11) (n:=1) underlying48 rfl ty9 rfl
def o52:=Yf (QP:=QP) (w:=w) (k:=k) (i:=11) (ft:=46) (off:=12) (n:=1) underlying48 rfl jB rfl
def o53:=Yf (QP:=QP) (w:=w) (k:=k) (i:=12) (ft:=3) (off:=13) (n:=1) underlying48 rfl ty3 rfl
def o54:=Yf (QP:=QP) (w:=w) (k:=k) (i:=13) (ft:=3) (off:=14) (n:=1) underlying48 rfl ty3 rfl
theorem o55:(∀ b o,opV Pg (loadAt 48 (.pointer (some ⟨b,o,none⟩))) QP w k=Z7 [w.cell? ⟨b,o,none⟩,w.cell? ⟨b,o+1,none⟩,w.cell? ⟨b,o+2,none⟩,w.cell? ⟨b,o+3,none⟩,w.cell? ⟨b,o+4,none⟩,w.cell? ⟨b,o+5,none⟩,w.cell? ⟨b,o+6,none⟩,w.cell? ⟨b,o+7,none⟩,w.cell? ⟨b,o+8,none⟩,w.cell? ⟨b,o+9,none⟩,w.cell? ⟨b,o+10,none⟩,w.cell? ⟨b,o+11,none⟩,w.cell? ⟨b,o+12,none⟩,w.cell? ⟨b,o+13,none⟩,w.cell? ⟨b,o+14,none⟩] (λ vs=>k (.agg vs.toArray) w) (zy Pg (loadAt 48 (.pointer (some ⟨b,o,none⟩))) QP w k)):=(by intro b o;exact Wp V2 b o _ rfl)
theorem o56:(∀ u,opV Pg (Instr.alloc 48 true u) QP w k=k (.pointer (some ⟨w.heap.size,0,none⟩)) (w.alloc (.cells ((.agg #[.string ByteArray.empty,.int .i64 0,.int .i64 0,.bool false,.bool false,.int .i64 0,.int .i64 0,.int .i64 0,.slice none 0 0,.string ByteArray.empty,.string ByteArray.empty,.string ByteArray.empty,.slice none 0 0,.int .i64 0,.int .i64 0]):Vl).cells 48))):=(YE V2)
def o57:=Qx (QP:=QP) (w:=w) (k:=k) (i:=0) (ft:=3) (n:=1) underlying60 rfl ty3 rfl
def o58:=Yf (QP:=QP) (w:=w) (k:=k) (i:=1) (ft:=3) (off:=1) (n:=1) underlying60 rfl ty3 rfl
def o59:=Yf (QP:=QP) (w:=w) (k:=k) (i:=2) (ft:=9) (off:=2) (n:=1) underlying60 rfl ty9 rfl
theorem o60:(∀ b o,opV Pg (loadAt 60 (.pointer (some ⟨b,o,none⟩))) QP w k=Z7 [w.cell? ⟨b,o,none⟩,w.cell? ⟨b,o+1,none⟩,w.cell? ⟨b,o+2,none⟩] (λ vs=>k (.agg vs.toArray) w) (zy Pg (loadAt 60 (.pointer (some ⟨b,o,none⟩))) QP w k)):=(by intro b o;exact Wp jC b o _ rfl)
theorem o61:(∀ u,opV Pg (Instr.alloc 60 true u) QP w k=k (.pointer (some ⟨w.heap.size,0,none⟩)) (w.alloc (.cells ((.agg #[.int .i64 0,.int .i64 0,.string ByteArray.empty]):Vl).cells 60))):=(YE jC)
def o62:=Qx (QP:=QP) (w:=w) (k:=k) (i:=0) (ft:=9) (n:=1) underlying62 rfl ty9 rfl
def o63:=Yf (QP:=QP) (w:=w) (k:=k) (i:=1) (ft:=3) (off:=1) (n:=1) underlying62 rfl ty3 rfl
theorem o64:(∀ b o,opV Pg (loadAt 62 (.pointer (some ⟨b,o,none⟩))) QP w k=Z7 [w.cell? ⟨b,o,none⟩,w.cell? ⟨b,o+1,none⟩] (λ vs=>k (.agg vs.toArray) w) (zy Pg (loadAt 62 (.pointer (some ⟨b,o,none⟩))) QP w k)):=(by intro b o;exact Wp B5 b o _ rfl)
theorem o65:(∀ u,opV Pg (Instr.alloc 62 true u) QP w k=k (.pointer (some ⟨w.heap.size,0,none⟩)) (w.alloc (.cells ((.agg #[.string ByteArray.empty,.int .i64 0]):Vl).cells 62))):=(YE B5)
theorem o67:(∀ r a n c,opV Pg (Builtin.len_ #[71] r #[.slice a n c]) QP w k=k (.int .i64 (n:Int)) w):=(λ r=>Xm (r:=r) underlying71)
theorem o68:(∀ b o len cap ik (i:Nat),i < len→opV Pg (indexAt 71 (.slice (some ⟨b,o,none⟩) len cap) (.int ik (i:Int))) QP w k=k (.pointer (some ⟨b,o+i*2,none⟩)) w):=(YN underlying71 xk)
theorem o69:(∀ u,opV Pg (Instr.alloc 71 true u) QP w k=k (.pointer (some ⟨w.heap.size,0,none⟩)) (w.alloc (.cells ((.slice none 0 0):Vl).cells 71))):=(YE Zcs)
def o70:=Qx (QP:=QP) (w:=w) (k:=k) (i:=0) (ft:=3) (n:=1) underlying74 rfl ty3 rfl
def o71:=Yf (QP:=QP) (w:=w) (k:=k) (i:=1) (ft:=3) (off:=1) (n:=1) underlying74 rfl ty3 rfl
theorem o72:(∀ v0 v1,opV Pg (Instr.field 74 (.agg #[v0,v1]) 1) QP w k=k v1 w):=(by intro v0 v1;exact It underlying74 rfl ty3 rfl)
theorem o73:(∀ b o,opV Pg (loadAt 74 (.pointer (some ⟨b,o,none⟩))) QP w k=Z7 [w.cell? ⟨b,o,none⟩,w.cell? ⟨b,o+1,none⟩] (λ vs=>k (.agg vs.toArray) w) (zy Pg (loadAt 74 (.pointer (some ⟨b,o,none⟩))) QP w k)):=(by intro b o;exact Wp UY b o _ rfl)
theorem o74:(∀ u,opV Pg (Instr.alloc 74 true u) QP w k=k (.pointer (some ⟨w.heap.size,0,none⟩)) (w.alloc (.cells ((.agg #[.int .i64 0,.int .i64 0]):Vl).cells 74))):=(YE UY)
def o75:=Qx (QP:=QP) (w:=w) (k:=k) (i:=0) (ft:=3) (n:=1) underlying76 rfl ty3 rfl
def o76:=Yf (QP:=QP) (w:=w) (k:=k) (i:=1) (ft:=3) (off:=1) (n:=1) underlying76 rfl ty3 rfl
theorem o77:(∀ b o,opV Pg (loadAt 76 (.pointer (some ⟨b,o,none⟩))) QP w k=Z7 [w.cell? ⟨b,o,none⟩,w.cell? ⟨b,o+1,none⟩] (λ vs=>k (.agg vs.toArray) w) (zy Pg (loadAt 76 (.pointer (some ⟨b,o,none⟩))) QP w k)):=(by intro b o;exact Wp xk b o _ rfl)
theorem o78:(∀ u,opV Pg (Instr.alloc 76 true u) QP w k=k (.pointer (some ⟨w.heap.size,0,none⟩)) (w.alloc (.cells ((.agg #[.int .i64 0,.int .i64 0]):Vl).cells 76))):=(YE xk)
def o81:=Xi (QP:=QP) (w:=w) (k:=k) Zct
theorem o82:(∀ r a n c,opV Pg (Builtin.len_ #[82] r #[.slice a n c]) QP w k=k (.int .i64 (n:Int)) w):=(λ r=>Xm (r:=r) underlying82)
theorem o83:(∀ b o len cap ik (i:Nat),i < len→opV Pg (indexAt 82 (.slice (some ⟨b,o,none⟩) len cap) (.int ik (i:Int))) QP w k=k (.pointer (some ⟨b,o+i*1,none⟩)) w):=(YN underlying82 ty9)
theorem o84:(∀ u,opV Pg (Instr.alloc 82 true u) QP w k=k (.pointer (some ⟨w.heap.size,0,none⟩)) (w.alloc (.cells ((.slice none 0 0):Vl).cells 82))):=(YE Zct)
theorem o85:(∀ b o,opV Pg (loadAt 90 (.pointer (some ⟨b,o,none⟩))) QP w k=Z7 [w.cell? ⟨b,o,none⟩,w.cell? ⟨b,o+1,none⟩,w.cell? ⟨b,o+2,none⟩] (λ vs=>k (.agg vs.toArray) w) (zy Pg (loadAt 90 (.pointer (some ⟨b,o,none⟩))) QP w k)):=(by intro b o;exact Wp NB b o _ rfl)
theorem o86:(∀ u,opV Pg (Instr.alloc 90 true u) QP w k=k (.pointer (some ⟨w.heap.size,0,none⟩)) (w.alloc (.cells ((.agg #[.int .i64 0,.int .i64 0,.int .i64 0]):Vl).cells 90))):=(YE NB)
theorem o87:(∀ r a n c,opV Pg (Builtin.len_ #[93] r #[.slice a n c]) QP w k=k (.int .i64 (n:Int)) w):=(λ r=>Xm (r:=r) underlying93)
theorem o88:(∀ b o len cap ik (i:Nat),i < len→opV Pg (indexAt 93 (.slice (some ⟨b,o,none⟩) len cap) (.int ik (i:Int))) QP w k=k (.pointer (some ⟨b,o+i*1,none⟩)) w):=(YN underlying93 ty4)
theorem o90:(∀ b o len cap ik (i:Nat),i < len→opV Pg (indexAt 119 (.slice (some ⟨b,o,none⟩) len cap) (.int ik (i:Int))) QP w k=k (.pointer (some ⟨b,o+i*3,none⟩)) w):=(YN underlying119 Kz)
theorem o91:(∀ u,opV Pg (Instr.alloc 119 true u) QP w k=k (.pointer (some ⟨w.heap.size,0,none⟩)) (w.alloc (.cells ((.slice none 0 0):Vl).cells 119))):=(YE Sy)
def o92:=Xi (QP:=QP) (w:=w) (k:=k) jr
theorem o93:(∀ u,opV Pg (Instr.alloc 122 true u) QP w k=k (.pointer (some ⟨w.heap.size,0,none⟩)) (w.alloc (.cells ((.map none):Vl).cells 122))):=(YE jr)
def o94:=Qx (QP:=QP) (w:=w) (k:=k) (i:=0) (ft:=24) (n:=2) underlying124 rfl Ki rfl
def o95:=Yf (QP:=QP) (w:=w) (k:=k) (i:=1) (ft:=122) (off:=2) (n:=1) underlying124 rfl jr rfl
theorem o96:(∀ b o,opV Pg (loadAt 124 (.pointer (some ⟨b,o,none⟩))) QP w k=Z7 [w.cell? ⟨b,o,none⟩,w.cell? ⟨b,o+1,none⟩,w.cell? ⟨b,o+2,none⟩] (λ vs=>k (.agg vs.toArray) w) (zy Pg (loadAt 124 (.pointer (some ⟨b,o,none⟩))) QP w k)):=(by intro b o;exact Wp Kz b o _ rfl)
theorem o97:(∀ u,opV Pg (Instr.alloc 124 true u) QP w k=k (.pointer (some ⟨w.heap.size,0,none⟩)) (w.alloc (.cells ((.agg #[.string ByteArray.empty,.slice none 0 0,.map none]):Vl).cells 124))):=(YE Kz)
def o98:=Xi (QP:=QP) (w:=w) (k:=k) Sz
theorem o99:(∀ u,opV Pg (Instr.alloc 144 true u) QP w k=k (.pointer (some ⟨w.heap.size,0,none⟩)) (w.alloc (.cells ((.agg #[.string ByteArray.empty,.string ByteArray.empty,.string ByteArray.empty,.string ByteArray.empty,.int .i64 0,.int .i64 0,.int .i64 0,.int .i64 0,.int .i64 0,.int .i64 0,.int .i64 0,.bool false,.bool false]):Vl).cells 144))):=(YE Mk)
def Zjh:=Xi (QP:=QP) (w:=w) (k:=k) Hh
def Zji:=Xi (QP:=QP) (w:=w) (k:=k) BF
theorem Zjj:(∀ u,opV Pg (Instr.alloc 162 true u) QP w k=k (.pointer (some ⟨w.heap.size,0,none⟩)) (w.alloc (.cells ((.map none):Vl).cells 162))):=(YE BF)
def ZfT:=Yf (QP:=QP) (w:=w) (k:=k) (i:=1) (ft:=161) (off:=3) (n:=1) underlying164 rfl Hh rfl
def ZfU:=Yf (QP:=QP) (w:=w) (k:=k) (i:=2) (ft:=162) (off:=4) (n:=1) underlying164 rfl BF rfl
def ZfV:=Yf (QP:=QP) (w:=w) (k:=k) (i:=3) (ft:=3) (off:=5) (n:=1) underlying164 rfl ty3 rfl
def ZfW:=Yf (QP:=QP) (w:=w) (k:=k) (i:=4) (ft:=3) (off:=6) (n:=1) underlying164 rfl ty3 rfl
def Zjk:=Yf (QP:=QP) (w:=w) (k:=k) (i:=5) (ft:=24) (off:=7) (n:=2) underlying164 rfl Ki rfl
theorem Zjl:(∀ r a n c,opV Pg (Builtin.len_ #[173] r #[.slice a n c]) QP w k=k (.int .i64 (n:Int)) w):=(λ r=>Xm (r:=r) underlying173)
theorem ZfX:(∀ b o len cap ik (i:Nat),i < len→opV Pg (indexAt 173 (.slice (some ⟨b,o,none⟩) len cap) (.int ik (i:Int))) QP w k=k (.pointer (some ⟨b,o+i*3,none⟩)) w):=(YN underlying173 jt)
theorem Zjm:(∀ r a n c,opV Pg (Builtin.len_ #[200] r #[.slice a n c]) QP w k=k (.int .i64 (n:Int)) w):=(λ r=>Xm (r:=r) underlying200)
theorem Zjn:(∀ b o len cap ik (i:Nat),i < len→opV Pg (indexAt 200 (.slice (some ⟨b,o,none⟩) len cap) (.int ik (i:Int))) QP w k=k (.pointer (some ⟨b,o+i*1,none⟩)) w):=(YN underlying200 ty5)
def Zjo:=Qx (QP:=QP) (w:=w) (k:=k) (i:=0) (ft:=9) (n:=1) underlying206 rfl ty9 rfl
def ZfY:=Yf (QP:=QP) (w:=w) (k:=k) (i:=1) (ft:=3) (off:=1) (n:=1) underlying206 rfl ty3 rfl
def ZfZ:=Yf (QP:=QP) (w:=w) (k:=k) (i:=2) (ft:=3) (off:=2) (n:=1) underlying206 rfl ty3 rfl
theorem Zjp:(∀ b o,opV Pg (loadAt 206 (.pointer (some ⟨b,o,none⟩))) QP w k=Z7 [w.cell? ⟨b,o,none⟩,w.cell? ⟨b,o+1,none⟩,w.cell? ⟨b,o+2,none⟩] (λ vs=>k (.agg vs.toArray) w) (zy Pg (loadAt 206 (.pointer (some ⟨b,o,none⟩))) QP w k)):=(by intro b o;exact Wp jt b o _ rfl)
theorem Zjq:(∀ u,opV Pg (Instr.alloc 206 true u) QP w k=k (.pointer (some ⟨w.heap.size,0,none⟩)) (w.alloc (.cells ((.agg #[.string ByteArray.empty,.int .i64 0,.int .i64 0]):Vl).cells 206))):=(YE jt)
def Zjr:=Xi (QP:=QP) (w:=w) (k:=k) SA
def Zjs:=Xi (QP:=QP) (w:=w) (k:=k) SB
def Zjt:=Qx (QP:=QP) (w:=w) (k:=k) (i:=0) (ft:=216) (n:=1) underlying219 rfl SA rfl
def Zju:=Yf (QP:=QP) (w:=w) (k:=k) (i:=1) (ft:=217) (off:=1) (n:=1) underlying219 rfl SB rfl
theorem Zjv:(∀ u,opV Pg (Instr.alloc 219 true u) QP w k=k (.pointer (some ⟨w.heap.size,0,none⟩)) (w.alloc (.cells ((.agg #[.nilFunc,.nilFunc]):Vl).cells 219))):=(YE Hi)
def Zjw:=Xi (QP:=QP) (w:=w) (k:=k) Zgl
theorem Zjx:(∀ v0 v1:Vl,v0.oneCell'=true→v1.oneCell'=true→opV Pg (Instr.build 24 #[(0,v0),(1,v1)]) QP w k=k (.agg #[v0,v1]) w):=(by intro v0 v1 hv0 hv1;exact YH (places := #[(0,1),(1,1)]) underlying24 Ki (by intro w;simp [List.mapM_cons,Sem.run_bind,Sw.run_sizeOf NA,Sw.run_sizeOf ty9]) (by simp [Instr.fill,ZL,Zt hv0,Zt hv1]))
theorem Zf0:(∀ v1:Vl,v1.oneCell'=true→opV Pg (Instr.build 24 #[(1,v1)]) QP w k=k (.agg #[.string ByteArray.empty,v1]) w):=(by intro v1 hv1;exact YH (places := #[(0,1),(1,1)]) underlying24 Ki (by intro w;simp [List.mapM_cons,Sem.run_bind,Sw.run_sizeOf NA,Sw.run_sizeOf ty9]) (by simp [Instr.fill,ZL,Zt hv1]))
theorem Zjy:(∀ v0 v2 v1:Vl,v0.oneCell'=true→v2.oneCell'=true→v1.oneCell'=true→opV Pg (Instr.build 28 #[(0,v0),(2,v2),(1,v1)]) QP w k=k (.agg #[v0,v1,v2]) w):=(by intro v0 v2 v1 hv0 hv2 hv1;exact YH (places := #[(0,1),(1,1),(2,1)]) underlying28 I6 (by intro w;simp [List.mapM_cons,Sem.run_bind,Sw.run_sizeOf SC,Sw.run_sizeOf ty9]) (by simp [Instr.fill,ZL,Zt hv0,Zt hv2,Zt hv1]))
theorem Zjz:(opV Pg (Instr.build 45 #[]) QP w k=k (.agg #[.int .i64 0,.slice none 0 0]) w):=(by exact YH (places := #[(0,1),(1,1)]) underlying45 GB (by intro w;simp [List.mapM_cons,Sem.run_bind,Sw.run_sizeOf ty3,Sw.run_sizeOf Hj]) (by simp [Instr.fill,ZL]))
theorem ZjA:(∀ v0 v1:Vl,v0.oneCell'=true→v1.oneCell'=true→opV Pg (Instr.build 45 #[(0,v0),(1,v1)]) QP w k=k (.agg #[v0,v1]) w):=(by intro v0 v1 hv0 hv1;exact YH (places := #[(0,1),(1,1)]) underlying45 GB (by intro w;simp [List.mapM_cons,Sem.run_bind,Sw.run_sizeOf ty3,Sw.run_sizeOf Hj]) (by simp [Instr.fill,ZL,Zt hv0,Zt hv1]))
theorem ZjB:(∀ v1:Vl,v1.oneCell'=true→opV Pg (Instr.build 45 #[(1,v1)]) QP w k=k (.agg #[.int .i64 0,v1]) w):=(by intro v1 hv1;exact YH (places := #[(0,1),(1,1)]) underlying45 GB (by intro w;simp [List.mapM_cons,Sem.run_bind,Sw.run_sizeOf ty3,Sw.run_sizeOf Hj]) (by simp [Instr.fill,ZL,Zt hv1]))
theorem ZjC:(∀ v0 v1:Vl,v0.oneCell'=true→v1.oneCell'=true→opV Pg (Instr.build 48 #[(0,v0),(1,v1)]) QP w k=k (.agg #[v0,v1,.int .i64 0,.bool false,.bool false,.int .i64 0,.int .i64 0,.int .i64 0,.slice none 0 0,.string ByteArray.empty,.string ByteArray.empty,.string ByteArray.empty,.slice none 0 0,.int .i64 0,.int .i64 0]) w):=(by intro v0 v1 hv0 hv1;exact YH (places := #[(0,1),(1,1),(2,1),(3,1),(4,1),(5,1),(6,1),(7,2),(9,1),(10,1),(11,1),(12,1),(13,1),(14,1)]) underlying48 V2 (by intro w;simp [List.mapM_cons,Sem.run_bind,Sw.run_sizeOf ty3,Sw.run_sizeOf ty4,Sw.run_sizeOf xj,Sw.run_sizeOf GB,Sw.run_sizeOf jB,Sw.run_sizeOf ty9]) (by simp [Instr.fill,ZL,Zt hv0,Zt hv1]))
theorem ZjD:(∀ v0 v1 v2:Vl,v0.oneCell'=true→v1.oneCell'=true→v2.oneCell'=true→opV Pg (Instr.build 48 #[(0,v0),(1,v1),(2,v2)]) QP w k=k (.agg #[v0,v1,v2,.bool false,.bool false,.int .i64 0,.int .i64 0,.int .i64 0,.slice none 0 0,.string ByteArray.empty,.string ByteArray.empty,.string ByteArray.empty,.slice none 0 0,.int .i64 0,.int .i64 0]) w):=(by intro v0 v1 v2 hv0 hv1 hv2;exact YH (places := #[(0,1),(1,1),(2,1),(3,1),(4,1),(5,1),(6,1),(7,2),(9,1),(10,1),(11,1),(12,1),(13,1),(14,1)]) underlying48 V2 (by intro w;simp [List.mapM_cons,Sem.run_bind,Sw.run_sizeOf ty3,Sw.run_sizeOf ty4,Sw.run_sizeOf xj,Sw.run_sizeOf GB,Sw.run_sizeOf jB,Sw.run_sizeOf ty9]) (by simp [Instr.fill,ZL,Zt hv0,Zt hv1,Zt hv2]))
theorem ZjE:(∀ v0 v1 v2 v6:Vl,v0.oneCell'=true→v1.oneCell'=true→v2.oneCell'=true→v6.oneCell'=true→opV Pg (Instr.build 48 #[(0,v0),(1,v1),(2,v2),(6,v6)]) QP w k=k (.agg #[v0,v1,v2,.bool false,.bool false,.int .i64 0,v6,.int .i64 0,.slice none 0 0,.string ByteArray.empty,.string ByteArray.empty,.string ByteArray.empty,.slice none 0 0,.int .i64 0,.int .i64 0]) w):=(by intro v0 v1 v2 v6 hv0 hv1 hv2 hv6;exact YH (places := #[(0,1),(1,1),(2,1),(3,1),(4,1),(5,1),(6,1),(7,2),(9,1),(10,1),(11,1),(12,1),(13,1),(14,1)]) underlying48 V2 (by intro w;simp [List.mapM_cons,Sem.run_bind,Sw.run_sizeOf ty3,Sw.run_sizeOf ty4,Sw.run_sizeOf xj,Sw.run_sizeOf GB,Sw.run_sizeOf jB,Sw.run_sizeOf ty9]) (by simp [Instr.fill,ZL,Zt hv0,Zt hv1,Zt hv2,Zt hv6]))
theorem ZjF:(∀ v0 v1 v6:Vl,v0.oneCell'=true→v1.oneCell'=true→v6.oneCell'=true→opV Pg (Instr.build 48 #[(0,v0),(1,v1),(6,v6)]) QP w k=k (.agg #[v0,v1,.int .i64 0,.bool false,.bool false,.int .i64 0,v6,.int .i64 0,.slice none 0 0,.string ByteArray.empty,.string ByteArray.empty,.string ByteArray.empty,.slice none 0 0,.int .i64 0,.int .i64 0]) w):=(by intro v0 v1 v6 hv0 hv1 hv6;exact YH (places := #[(0,1),(1,1),(2,1),(3,1),(4,1),(5,1),(6,1),(7,2),(9,1),(10,1),(11,1),(12,1),(13,1),(14,1)]) underlying48 V2 (by intro w;simp [List.mapM_cons,Sem.run_bind,Sw.run_sizeOf ty3,Sw.run_sizeOf ty4,Sw.run_sizeOf xj,Sw.run_sizeOf GB,Sw.run_sizeOf jB,Sw.run_sizeOf ty9]) (by simp [Instr.fill,ZL,Zt hv0,Zt hv1,Zt hv6]))
theorem ZjG:(∀ v0 v1 v7_0 v7_1:Vl,v0.oneCell'=true→v1.oneCell'=true→opV Pg (Instr.build 48 #[(0,v0),(1,v1),(7,(.agg #[v7_0,v7_1]))]) QP w k=k (.agg #[v0,v1,.int .i64 0,.bool false,.bool false,.int .i64 0,.int .i64 0,v7_0,v7_1,.string ByteArray.empty,.string ByteArray.empty,.string ByteArray.empty,.slice none 0 0,.int .i64 0,.int .i64 0]) w):=(by intro v0 v1 v7_0 v7_1 hv0 hv1;exact YH (places := #[(0,1),(1,1),(2,1),(3,1),(4,1),(5,1),(6,1),(7,2),(9,1),(10,1),(11,1),(12,1),(13,1),(14,1)]) underlying48 V2 (by intro w;simp [List.mapM_cons,Sem.run_bind,Sw.run_sizeOf ty3,Sw.run_sizeOf ty4,Sw.run_sizeOf xj,Sw.run_sizeOf GB,Sw.run_sizeOf jB,Sw.run_sizeOf ty9]) (by simp [Instr.fill,ZL,Zt hv0,Zt hv1]))
theorem ZjH:(∀ v0 v1 v8 v7_0 v7_1:Vl,v0.oneCell'=true→v1.oneCell'=true→v8.oneCell'=true→opV Pg (Instr.build 48 #[(0,v0),(1,v1),(8,v8),(7,(.agg #[v7_0,v7_1]))]) QP w k=k (.agg #[v0,v1,.int .i64 0,.bool false,.bool false,.int .i64 0,.int .i64 0,v7_0,v7_1,v8,.string ByteArray.empty,.string ByteArray.empty,.slice none 0 0,.int .i64 0,.int .i64 0]) w):=(by intro v0 v1 v8 v7_0 v7_1 hv0 hv1 hv8;exact YH (places := #[(0,1),(1,1),(2,1),(3,1),(4,1),(5,1),(6,1),(7,2),(9,1),(10,1),(11,1),(12,1),(13,1),(14,1)]) underlying48 V2 (by intro w;simp [List.mapM_cons,Sem.run_bind,Sw.run_sizeOf ty3,Sw.run_sizeOf ty4,Sw.run_sizeOf xj,Sw.run_sizeOf GB,Sw.run_sizeOf jB,Sw.run_sizeOf ty9]) (by simp [Instr.fill,ZL,Zt hv0,Zt hv1,Zt hv8]))
theorem ZjI:(∀ v0 v1 v12 v10:Vl,v0.oneCell'=true→v1.oneCell'=true→v12.oneCell'=true→v10.oneCell'=true→opV Pg (Instr.build 48 #[(0,v0),(1,v1),(12,v12),(10,v10)]) QP w k=k (.agg #[v0,v1,.int .i64 0,.bool false,.bool false,.int .i64 0,.int .i64 0,.int .i64 0,.slice none 0 0,.string ByteArray.empty,.string ByteArray.empty,v10,.slice none 0 0,v12,.int .i64 0]) w):=(by intro v0 v1 v12 v10 hv0 hv1 hv12 hv10;exact YH (places := #[(0,1),(1,1),(2,1),(3,1),(4,1),(5,1),(6,1),(7,2),(9,1),(10,1),(11,1),(12,1),(13,1),(14,1)]) underlying48 V2 (by intro w;simp [List.mapM_cons,Sem.run_bind,Sw.run_sizeOf ty3,Sw.run_sizeOf ty4,Sw.run_sizeOf xj,Sw.run_sizeOf GB,Sw.run_sizeOf jB,Sw.run_sizeOf ty9]) (by simp [Instr.fill,ZL,Zt hv0,Zt hv1,Zt hv12,Zt hv10]))
theorem ZjJ:(∀ v1 v2:Vl,v1.oneCell'=true→v2.oneCell'=true→opV Pg (Instr.build 48 #[(1,v1),(2,v2)]) QP w k=k (.agg #[.string ByteArray.empty,v1,v2,.bool false,.bool false,.int .i64 0,.int .i64 0,.int .i64 0,.slice none 0 0,.string ByteArray.empty,.string ByteArray.empty,.string ByteArray.empty,.slice none 0 0,.int .i64 0,.int .i64 0]) w):=(by intro v1 v2 hv1 hv2;exact YH (places := #[(0,1),(1,1),(2,1),(3,1),(4,1),(5,1),(6,1),(7,2),(9,1),(10,1),(11,1),(12,1),(13,1),(14,1)]) underlying48 V2 (by intro w;simp [List.mapM_cons,Sem.run_bind,Sw.run_sizeOf ty3,Sw.run_sizeOf ty4,Sw.run_sizeOf xj,Sw.run_sizeOf GB,Sw.run_sizeOf jB,Sw.run_sizeOf ty9]) (by simp [Instr.fill,ZL,Zt hv1,Zt hv2]))
theorem ZjK:(∀ v0 v1:Vl,v0.oneCell'=true→v1.oneCell'=true→opV Pg (Instr.build 62 #[(0,v0),(1,v1)]) QP w k=k (.agg #[v0,v1]) w):=(by intro v0 v1 hv0 hv1;exact YH (places := #[(0,1),(1,1)]) underlying62 B5 (by intro w;simp [List.mapM_cons,Sem.run_bind,Sw.run_sizeOf ty3,Sw.run_sizeOf ty9]) (by simp [Instr.fill,ZL,Zt hv0,Zt hv1]))
theorem ZjL:(opV Pg (Instr.build 74 #[]) QP w k=k (.agg #[.int .i64 0,.int .i64 0]) w):=(by exact YH (places := #[(0,1),(1,1)]) underlying74 UY (by intro w;simp [List.mapM_cons,Sem.run_bind,Sw.run_sizeOf ty3]) (by simp [Instr.fill,ZL]))
theorem Zf1:(∀ v0 v1:Vl,v0.oneCell'=true→v1.oneCell'=true→opV Pg (Instr.build 74 #[(0,v0),(1,v1)]) QP w k=k (.agg #[v0,v1]) w):=(by intro v0 v1 hv0 hv1;exact YH (places := #[(0,1),(1,1)]) underlying74 UY (by intro w;simp [List.mapM_cons,Sem.run_bind,Sw.run_sizeOf ty3]) (by simp [Instr.fill,ZL,Zt hv0,Zt hv1]))
theorem ZjM:(∀ v1:Vl,v1.oneCell'=true→opV Pg (Instr.build 74 #[(1,v1)]) QP w k=k (.agg #[.int .i64 0,v1]) w):=(by intro v1 hv1;exact YH (places := #[(0,1),(1,1)]) underlying74 UY (by intro w;simp [List.mapM_cons,Sem.run_bind,Sw.run_sizeOf ty3]) (by simp [Instr.fill,ZL,Zt hv1]))
theorem Zf2:(∀ v0 v1:Vl,v0.oneCell'=true→v1.oneCell'=true→opV Pg (Instr.build 76 #[(0,v0),(1,v1)]) QP w k=k (.agg #[v0,v1]) w):=(by intro v0 v1 hv0 hv1;exact YH (places := #[(0,1),(1,1)]) underlying76 xk (by intro w;simp [List.mapM_cons,Sem.run_bind,Sw.run_sizeOf ty3]) (by simp [Instr.fill,ZL,Zt hv0,Zt hv1]))
theorem ZjN:(opV Pg (Instr.build 90 #[]) QP w k=k (.agg #[.int .i64 0,.int .i64 0,.int .i64 0]) w):=(by exact YH (places := #[(0,1),(1,1),(2,1)]) underlying90 NB (by intro w;simp [List.mapM_cons,Sem.run_bind,Sw.run_sizeOf ty3,Sw.run_sizeOf Zgm]) (by simp [Instr.fill,ZL]))
theorem Zf3:(∀ v0 v1 v2:Vl,v0.oneCell'=true→v1.oneCell'=true→v2.oneCell'=true→opV Pg (Instr.build 90 #[(0,v0),(1,v1),(2,v2)]) QP w k=k (.agg #[v0,v1,v2]) w):=(by intro v0 v1 v2 hv0 hv1 hv2;exact YH (places := #[(0,1),(1,1),(2,1)]) underlying90 NB (by intro w;simp [List.mapM_cons,Sem.run_bind,Sw.run_sizeOf ty3,Sw.run_sizeOf Zgm]) (by simp [Instr.fill,ZL,Zt hv0,Zt hv1,Zt hv2]))
theorem ZjO:(opV Pg (Instr.build 124 #[]) QP w k=k (.agg #[.string ByteArray.empty,.slice none 0 0,.map none]) w):=(by exact YH (places := #[(0,2),(2,1)]) underlying124 Kz (by intro w;simp [List.mapM_cons,Sem.run_bind,Sw.run_sizeOf jr,Sw.run_sizeOf Ki]) (by simp [Instr.fill,ZL]))
theorem ZjP:(∀ v0_0 v0_1 v1:Vl,v1.oneCell'=true→opV Pg (Instr.build 124 #[(0,(.agg #[v0_0,v0_1])),(1,v1)]) QP w k=k (.agg #[v0_0,v0_1,v1]) w):=(by intro v0_0 v0_1 v1 hv1;exact YH (places := #[(0,2),(2,1)]) underlying124 Kz (by intro w;simp [List.mapM_cons,Sem.run_bind,Sw.run_sizeOf jr,Sw.run_sizeOf Ki]) (by simp [Instr.fill,ZL,Zt hv1]))
theorem ZjQ:(∀ v0 v1 v2 v3 v4 v5 v6 v7 v8 v9 v10 v11 v12:Vl,v0.oneCell'=true→v1.oneCell'=true→v2.oneCell'=true→v3.oneCell'=true→v4.oneCell'=true→v5.oneCell'=true→v6.oneCell'=true→v7.oneCell'=true→v8.oneCell'=true→v9.oneCell'=true→v10.oneCell'=true→v11.oneCell'=true→v12.oneCell'=true→opV Pg (Instr.build 144 #[(0,v0),(1,v1),(2,v2),(3,v3),(4,v4),(5,v5),(6,v6),(7,v7),(8,v8),(9,v9),(10,v10),(11,v11),(12,v12)]) QP w k=k (.agg #[v0,v1,v2,v3,v4,v5,v6,v7,v8,v9,v10,v11,v12]) w):=(by intro v0 v1 v2 v3 v4 v5 v6 v7 v8 v9 v10 v11 v12 hv0 hv1 hv2 hv3 hv4 hv5 hv6 hv7 hv8 hv9 hv10 hv11 hv12;exact YH (places := #[(0,1),(1,1),(2,1),(3,1),(4,1),(5,1),(6,1),(7,1),(8,1),(9,1),(10,1),(11,1),(12,1)]) underlying144 Mk (by intro w;simp [List.mapM_cons,Sem.run_bind,Sw.run_sizeOf ty3,Sw.run_sizeOf ty4,Sw.run_sizeOf xj,Sw.run_sizeOf ty9]) (by simp [Instr.fill,ZL,Zt hv0,Zt hv1,Zt hv2,Zt hv3,Zt hv4,Zt hv5,Zt hv6,Zt hv7,Zt hv8,Zt hv9,Zt hv10,Zt hv11,Zt hv12]))
theorem ZjR:(∀ v0_0 v0_1 v0_2 v1 v2 v3 v4:Vl,v1.oneCell'=true→v2.oneCell'=true→v3.oneCell'=true→v4.oneCell'=true→opV Pg (Instr.build 164 #[(0,(.agg #[v0_0,v0_1,v0_2])),(1,v1),(2,v2),(3,v3),(4,v4)]) QP w k=k (.agg #[v0_0,v0_1,v0_2,v1,v2,v3,v4,.string ByteArray.empty,.slice none 0 0]) w):=(by intro v0_0 v0_1 v0_2 v1 v2 v3 v4 hv1 hv2 hv3 hv4;exact YH (places := #[(0,3),(3,1),(4,1),(5,1),(6,1),(7,2)]) underlying164 Zgj (by intro w;simp [List.mapM_cons,Sem.run_bind,Sw.run_sizeOf Hh,Sw.run_sizeOf BF,Sw.run_sizeOf Ki,Sw.run_sizeOf I6,Sw.run_sizeOf ty3]) (by simp [Instr.fill,ZL,Zt hv1,Zt hv2,Zt hv3,Zt hv4]))
theorem ZjS:(∀ v0 v1 v2:Vl,v0.oneCell'=true→v1.oneCell'=true→v2.oneCell'=true→opV Pg (Instr.build 206 #[(0,v0),(1,v1),(2,v2)]) QP w k=k (.agg #[v0,v1,v2]) w):=(by intro v0 v1 v2 hv0 hv1 hv2;exact YH (places := #[(0,1),(1,1),(2,1)]) underlying206 jt (by intro w;simp [List.mapM_cons,Sem.run_bind,Sw.run_sizeOf ty3,Sw.run_sizeOf ty9]) (by simp [Instr.fill,ZL,Zt hv0,Zt hv1,Zt hv2]))
theorem ZjT:(∀ v0 v1:Vl,v0.oneCell'=true→v1.oneCell'=true→opV Pg (Instr.build 219 #[(0,v0),(1,v1)]) QP w k=k (.agg #[v0,v1]) w):=(by intro v0 v1 hv0 hv1;exact YH (places := #[(0,1),(1,1)]) underlying219 Hi (by intro w;simp [List.mapM_cons,Sem.run_bind,Sw.run_sizeOf SA,Sw.run_sizeOf SB]) (by simp [Instr.fill,ZL,Zt hv0,Zt hv1]))
theorem ZjU:(opV Pg (buildSlice 22 0 #[]) QP w k=k (.slice (some ⟨w.heap.size,0,none⟩) 0 0) (w.alloc (.cells #[] 48))):=(by exact Ys underlying22 V2 (by decide) (base := #[]) (by kernel_rfl) (by simp [Instr.fill,ZL]))
theorem ZjV:(∀ v0_0 v0_1 v0_2 v0_3 v0_4 v0_5 v0_6 v0_7 v0_8 v0_9 v0_10 v0_11 v0_12 v0_13 v0_14 v1_0 v1_1 v1_2 v1_3 v1_4 v1_5 v1_6 v1_7 v1_8 v1_9 v1_10 v1_11 v1_12 v1_13 v1_14:Vl,opV Pg (buildSlice 22 2 #[(0,(.agg #[v0_0,v0_1,v0_2,v0_3,v0_4,v0_5,v0_6,v0_7,v0_8,v0_9,v0_10,v0_11,v0_12,v0_13,v0_14])),(1,(.agg #[v1_0,v1_1,v1_2,v1_3,v1_4,v1_5,v1_6,v1_7,v1_8,v1_9,v1_10,v1_11,v1_12,v1_13,v1_14]))]) QP w k=k (.slice (some ⟨w.heap.size,0,none⟩) 2 2) (w.alloc (.cells #[v0_0,v0_1,v0_2,v0_3,v0_4,v0_5,v0_6,v0_7,v0_8,v0_9,v0_10,v0_11,v0_12,v0_13,v0_14,v1_0,v1_1,v1_2,v1_3,v1_4,v1_5,v1_6,v1_7,v1_8,v1_9,v1_10,v1_11,v1_12,v1_13,v1_14] 48))):=(by intro v0_0 v0_1 v0_2 v0_3 v0_4 v0_5 v0_6 v0_7 v0_8 v0_9 v0_10 v0_11 v0_12 v0_13 v0_14 v1_0 v1_1 v1_2 v1_3 v1_4 v1_5 v1_6 v1_7 v1_8 v1_9 v1_10 v1_11 v1_12 v1_13 v1_14;exact Ys underlying22 V2 (by decide) (base := #[.string ByteArray.empty,.int .i64 0,.int .i64 0,.bool false,.bool false,.int .i64 0,.int .i64 0,.int .i64 0,.slice none 0 0,.string ByteArray.empty,.string ByteArray.empty,.string ByteArray.empty,.slice none 0 0,.int .i64 0,.int .i64 0,.string ByteArray.empty,.int .i64 0,.int .i64 0,.bool false,.bool false,.int .i64 0,.int .i64 0,.int .i64 0,.slice none 0 0,.string ByteArray.empty,.string ByteArray.empty,.string ByteArray.empty,.slice none 0 0,.int .i64 0,.int .i64 0]) (by kernel_rfl) (by simp [Instr.fill,ZL]))
theorem ZjW:(∀ v0_0 v0_1 v0_2 v0_3 v0_4 v0_5 v0_6 v0_7 v0_8 v0_9 v0_10 v0_11 v0_12 v0_13 v0_14 v1_0 v1_1 v1_2 v1_3 v1_4 v1_5 v1_6 v1_7 v1_8 v1_9 v1_10 v1_11 v1_12 v1_13 v1_14 v2_0 v2_1 v2_2 v2_3 v2_4 v2_5 v2_6 v2_7 v2_8 v2_9 v2_10 v2_11 v2_12 v2_13 v2_14 v3_0 v3_1 v3_2 v3_3 v3_4 v3_5 v3_6 v3_7 v3_8 v3_9 v3_10 v3_11 v3_12 v3_13 v3_14 v4_0 v4_1 v4_2 v4_3 v4_4 v4_5 v4_6 v4_7 v4_8 v4_9 v4_10 v4_11 v4_12 v4_13 v4_14:Vl,opV Pg (buildSlice 22 5 #[(0,(.agg #[v0_0,v0_1,v0_2,v0_3,v0_4,v0_5,v0_6,v0_7,v0_8,v0_9,v0_10,v0_11,v0_12,v0_13,v0_14])),(1,(.agg #[v1_0,v1_1,v1_2,v1_3,v1_4,v1_5,v1_6,v1_7,v1_8,v1_9,v1_10,v1_11,v1_12,v1_13,v1_14])),(2,(.agg #[v2_0,v2_1,v2_2,v2_3,v2_4,v2_5,v2_6,v2_7,v2_8,v2_9,v2_10,v2_11,v2_12,v2_13,v2_14])),(3,(.agg #[v3_0,v3_1,v3_2,v3_3,v3_4,v3_5,v3_6,v3_7,v3_8,v3_9,v3_10,v3_11,v3_12,v3_13,v3_14])),(4,(.agg #[v4_0,v4_1,v4_2,v4_3,v4_4,v4_5,v4_6,v4_7,v4_8,v4_9,v4_10,v4_11,v4_12,v4_13,v4_14]))]) QP w k=k (.slice (some ⟨w.heap.size,0,none⟩) 5 5) (w.alloc (.cells #[v0_0,v0_1,v0_2,v0_3,v0_4,v0_5,v0_6,v0_7,v0_8,v0_9,v0_10,v0_11,v0_12,v0_13,v0_14,v1_0,v1_1,v1_2,v1_3,v1_4,v1_5,v1_6,v1_7,v1_8,v1_9,v1_10,v1_11,v1_12,v1_13,v1_14,v2_0,v2_1,v2_2,v2_3,v2_4,v2_5,v2_6,v2_7,v2_8,v2_9,v2_10,v2_11,v2_12,v2_13,v2_14,v3_0,v3_1,v3_2,v3_3,v3_4,v3_5,v3_6,v3_7,v3_8,v3_9,v3_10,v3_11,v3_12,v3_13,v3_14,v4_0,v4_1,v4_2,v4_3,v4_4,v4_5,v4_6,v4_7,v4_8,v4_9,v4_10,v4_11,v4_12,v4_13,v4_14] 48))):=(by intro v0_0 v0_1 v0_2 v0_3 v0_4 v0_5 v0_6 v0_7 v0_8 v0_9 v0_10 v0_11 v0_12 v0_13 v0_14 v1_0 v1_1 v1_2 v1_3 v1_4 v1_5 v1_6 v1_7 v1_8 v1_9 v1_10 v1_11 v1_12 v1_13 v1_14 v2_0 v2_1 v2_2 v2_3 v2_4 v2_5 v2_6 v2_7 v2_8 v2_9 v2_10 v2_11 v2_12 v2_13 v2_14 v3_0 v3_1 v3_2 v3_3 v3_4 v3_5 v3_6 v3_7 v3_8 v3_9 v3_10 v3_11 v3_12 v3_13 v3_14 v4_0 v4_1 v4_2 v4_3 v4_4 v4_5 v4_6 v4_7 v4_8 v4_9 v4_10 v4_11 v4_12 v4_13 v4_14;exact Ys underlying22 V2 (by decide) (base := #[.string ByteArray.empty,.int .i64 0,.int .i64 0,.bool false,.bool false,.int .i64 0,.int .i64 0,.int .i64 0,.slice none 0 0,.string ByteArray.empty,.string ByteArray.empty,.string ByteArray.empty,.slice none 0 0,.int .i64 0,.int .i64 0,.string ByteArray.empty,.int .i64 0,.int .i64 0,.bool false,.bool false,.int .i64 0,.int .i64 0,.int .i64 0,.slice none 0 0,.string ByteArray.empty,.string ByteArray.empty,.string ByteArray.empty,.slice none 0 0,.int .i64 0,.int .i64 0,.string ByteArray.empty,.int .i64 0,.int .i64 0,.bool false,.bool false,.int .i64 0,.int .i64 0,.int .i64 0,.slice none 0 0,.string ByteArray.empty,.string ByteArray.empty,.string ByteArray.empty,.slice none 0 0,.int .i64 0,.int .i64 0,.string ByteArray.empty,.int .i64 0,.int .i64 0,.bool false,.bool false,.int .i64 0,.int .i64 0,.int .i64 0,.slice none 0 0,.string ByteArray.empty,.string ByteArray.empty,.string ByteArray.empty,.slice none 0 0,.int .i64 0,.int .i64 0,.string ByteArray.empty,.int .i64 0,.int .i64 0,.bool false,.bool false,.int .i64 0,.int .i64 0,.int .i64 0,.slice none 0 0,.string ByteArray.empty,.string ByteArray.empty,.string ByteArray.empty,.slice none 0 0,.int .i64 0,.int .i64 0]) (by kernel_rfl) (by simp [Instr.fill,ZL]))
theorem ZjX:(opV Pg (buildSlice 26 0 #[]) QP w k=k (.slice (some ⟨w.heap.size,0,none⟩) 0 0) (w.alloc (.cells #[] 24))):=(by exact Ys underlying26 Ki (by decide) (base := #[]) (by kernel_rfl) (by simp [Instr.fill,ZL]))
theorem ZjY:(∀ v0_0 v0_1 v1_0 v1_1:Vl,opV Pg (buildSlice 26 2 #[(0,(.agg #[v0_0,v0_1])),(1,(.agg #[v1_0,v1_1]))]) QP w k=k (.slice (some ⟨w.heap.size,0,none⟩) 2 2) (w.alloc (.cells #[v0_0,v0_1,v1_0,v1_1] 24))):=(by intro v0_0 v0_1 v1_0 v1_1;exact Ys underlying26 Ki (by decide) (base := #[.string ByteArray.empty,.slice none 0 0,.string ByteArray.empty,.slice none 0 0]) (by kernel_rfl) (by simp [Instr.fill,ZL]))
theorem ZjZ:(∀ v0:Vl,v0.oneCell'=true→opV Pg (buildSlice 30 1 #[(0,v0)]) QP w k=k (.slice (some ⟨w.heap.size,0,none⟩) 1 1) (w.alloc (.cells #[v0] 3))):=(by intro v0 hv0;exact Ys underlying30 ty3 (by decide) (base := #[.int .i64 0]) (by kernel_rfl) (by simp [Instr.fill,ZL,Zt hv0]))
theorem Zj0:(∀ v0 v1:Vl,v0.oneCell'=true→v1.oneCell'=true→opV Pg (buildSlice 30 2 #[(0,v0),(1,v1)]) QP w k=k (.slice (some ⟨w.heap.size,0,none⟩) 2 2) (w.alloc (.cells #[v0,v1] 3))):=(by intro v0 v1 hv0 hv1;exact Ys underlying30 ty3 (by decide) (base := #[.int .i64 0,.int .i64 0]) (by kernel_rfl) (by simp [Instr.fill,ZL,Zt hv0,Zt hv1]))
theorem Zj1:(opV Pg (buildSlice 43 0 #[]) QP w k=k (.slice (some ⟨w.heap.size,0,none⟩) 0 0) (w.alloc (.cells #[] 62))):=(by exact Ys underlying43 B5 (by decide) (base := #[]) (by kernel_rfl) (by simp [Instr.fill,ZL]))
theorem Zj2:(∀ v0_0 v0_1:Vl,opV Pg (buildSlice 43 1 #[(0,(.agg #[v0_0,v0_1]))]) QP w k=k (.slice (some ⟨w.heap.size,0,none⟩) 1 1) (w.alloc (.cells #[v0_0,v0_1] 62))):=(by intro v0_0 v0_1;exact Ys underlying43 B5 (by decide) (base := #[.string ByteArray.empty,.int .i64 0]) (by kernel_rfl) (by simp [Instr.fill,ZL]))
theorem Zj3:(opV Pg (buildSlice 46 0 #[]) QP w k=k (.slice (some ⟨w.heap.size,0,none⟩) 0 0) (w.alloc (.cells #[] 60))):=(by exact Ys underlying46 jC (by decide) (base := #[]) (by kernel_rfl) (by simp [Instr.fill,ZL]))
theorem Zj4:(∀ v0_0 v0_1:Vl,opV Pg (buildSlice 71 1 #[(0,(.agg #[v0_0,v0_1]))]) QP w k=k (.slice (some ⟨w.heap.size,0,none⟩) 1 1) (w.alloc (.cells #[v0_0,v0_1] 76))):=(by intro v0_0 v0_1;exact Ys underlying71 xk (by decide) (base := #[.int .i64 0,.int .i64 0]) (by kernel_rfl) (by simp [Instr.fill,ZL]))
theorem Zj5:(∀ v0:Vl,v0.oneCell'=true→opV Pg (buildSlice 82 1 #[(0,v0)]) QP w k=k (.slice (some ⟨w.heap.size,0,none⟩) 1 1) (w.alloc (.cells #[v0] 9))):=(by intro v0 hv0;exact Ys underlying82 ty9 (by decide) (base := #[.string ByteArray.empty]) (by kernel_rfl) (by simp [Instr.fill,ZL,Zt hv0]))
theorem Zj6:(∀ v0 v1 v2 v3 v4 v5 v6 v7 v8 v9 v10 v11 v12:Vl,v0.oneCell'=true→v1.oneCell'=true→v2.oneCell'=true→v3.oneCell'=true→v4.oneCell'=true→v5.oneCell'=true→v6.oneCell'=true→v7.oneCell'=true→v8.oneCell'=true→v9.oneCell'=true→v10.oneCell'=true→v11.oneCell'=true→v12.oneCell'=true→opV Pg (buildSlice 82 13 #[(0,v0),(1,v1),(2,v2),(3,v3),(4,v4),(5,v5),(6,v6),(7,v7),(8,v8),(9,v9),(10,v10),(11,v11),(12,v12)]) QP w k=k (.slice (some ⟨w.heap.size,0,none⟩) 13 13) (w.alloc (.cells #[v0,v1,v2,v3,v4,v5,v6,v7,v8,v9,v10,v11,v12] 9))):=(by intro v0 v1 v2 v3 v4 v5 v6 v7 v8 v9 v10 v11 v12 hv0 hv1 hv2 hv3 hv4 hv5 hv6 hv7 hv8 hv9 hv10 hv11 hv12;exact Ys underlying82 ty9 (by decide) (base := #[.string ByteArray.empty,.string ByteArray.empty,.string ByteArray.empty,.string ByteArray.empty,.string ByteArray.empty,.string ByteArray.empty,.string ByteArray.empty,.string ByteArray.empty,.string ByteArray.empty,.string ByteArray.empty,.string ByteArray.empty,.string ByteArray.empty,.string ByteArray.empty]) (by kernel_rfl) (by simp [Instr.fill,ZL,Zt hv0,Zt hv1,Zt hv2,Zt hv3,Zt hv4,Zt hv5,Zt hv6,Zt hv7,Zt hv8,Zt hv9,Zt hv10,Zt hv11,Zt hv12]))
theorem Zj7:(∀ v0:Vl,v0.oneCell'=true→opV Pg (buildSlice 93 1 #[(0,v0)]) QP w k=k (.slice (some ⟨w.heap.size,0,none⟩) 1 1) (w.alloc (.cells #[v0] 4))):=(by intro v0 hv0;exact Ys underlying93 ty4 (by decide) (base := #[.bool false]) (by kernel_rfl) (by simp [Instr.fill,ZL,Zt hv0]))
theorem Zj8:(∀ v0 v1:Vl,v0.oneCell'=true→v1.oneCell'=true→opV Pg (buildSlice 93 2 #[(0,v0),(1,v1)]) QP w k=k (.slice (some ⟨w.heap.size,0,none⟩) 2 2) (w.alloc (.cells #[v0,v1] 4))):=(by intro v0 v1 hv0 hv1;exact Ys underlying93 ty4 (by decide) (base := #[.bool false,.bool false]) (by kernel_rfl) (by simp [Instr.fill,ZL,Zt hv0,Zt hv1]))
theorem Zj9:(∀ v0 v1 v2:Vl,v0.oneCell'=true→v1.oneCell'=true→v2.oneCell'=true→opV Pg (buildSlice 93 3 #[(0,v0),(1,v1),(2,v2)]) QP w k=k (.slice (some ⟨w.heap.size,0,none⟩) 3 3) (w.alloc (.cells #[v0,v1,v2] 4))):=(by intro v0 v1 v2 hv0 hv1 hv2;exact Ys underlying93 ty4 (by decide) (base := #[.bool false,.bool false,.bool false]) (by kernel_rfl) (by simp [Instr.fill,ZL,Zt hv0,Zt hv1,Zt hv2]))
theorem Zka:(∀ v0_0 v0_1 v0_2:Vl,opV Pg (buildSlice 119 1 #[(0,(.agg #[v0_0,v0_1,v0_2]))]) QP w k=k (.slice (some ⟨w.heap.size,0,none⟩) 1 1) (w.alloc (.cells #[v0_0,v0_1,v0_2] 124))):=(by intro v0_0 v0_1 v0_2;exact Ys underlying119 Kz (by decide) (base := #[.string ByteArray.empty,.slice none 0 0,.map none]) (by kernel_rfl) (by simp [Instr.fill,ZL]))
theorem Zkb:(∀ v0_0 v0_1 v0_2:Vl,opV Pg (buildSlice 173 1 #[(0,(.agg #[v0_0,v0_1,v0_2]))]) QP w k=k (.slice (some ⟨w.heap.size,0,none⟩) 1 1) (w.alloc (.cells #[v0_0,v0_1,v0_2] 206))):=(by intro v0_0 v0_1 v0_2;exact Ys underlying173 jt (by decide) (base := #[.string ByteArray.empty,.int .i64 0,.int .i64 0]) (by kernel_rfl) (by simp [Instr.fill,ZL]))
theorem Zkc:(∀ q n,opV Pg (Go.convert 3 188 (.int q n)) QP w k=k (.int .u64 (IntKind.u64.wrap n)) w):=(Bb (by rw [underlying3];rfl) underlying188)
theorem Zkd:(∀ q n,opV Pg (Go.convert 188 3 (.int q n)) QP w k=k (.int .i64 (IntKind.i64.wrap n)) w):=(Bb (by rw [underlying188];rfl) underlying3)
theorem Zke:(∀ v,opV Pg (Instr.makeInterface 90 v) QP w k=k (.iface 90 v) w):=(RU underlying90 rfl)
theorem Zkf:(∀ c A n m,opV Pg (ZI .eql 22 c (.slice A n m) (.slice none 0 0)) QP w k=k (.bool A.isNone) w):=(Gu underlying22)
theorem Zkg:(∀ c A n m,opV Pg (ZI .eql 26 c (.slice A n m) (.slice none 0 0)) QP w k=k (.bool A.isNone) w):=(Gu underlying26)
theorem Zkh:(∀ c A n m,opV Pg (ZI .eql 43 c (.slice A n m) (.slice none 0 0)) QP w k=k (.bool A.isNone) w):=(Gu underlying43)
theorem Zki:(∀ c A n m,opV Pg (ZI .eql 46 c (.slice A n m) (.slice none 0 0)) QP w k=k (.bool A.isNone) w):=(Gu underlying46)
theorem Zkj:(∀ c (a0 b0:Int) (a1 b1:Int) (a2 b2:BAr),opV Pg (ZI .neq 60 c (.agg #[.int .i64 a0,.int .i64 a1,.string a2]) (.agg #[.int .i64 b0,.int .i64 b1,.string b2])) QP w k=k (.bool (!(decide (a0=b0)&&(decide (a1=b1)&&(decide (a2=b2)&&true))))) w):=(by intro c a0 b0 a1 b1 a2 b2;exact A9 (by kernel_rfl) (λ w=>ZhQ a0 b0 a1 b1 a2 b2) c)
theorem Zkk:(∀ c (a0 b0:BAr) (a1 b1:Int),opV Pg (ZI .neq 62 c (.agg #[.string a0,.int .i64 a1]) (.agg #[.string b0,.int .i64 b1])) QP w k=k (.bool (!(decide (a0=b0)&&(decide (a1=b1)&&true)))) w):=(by intro c a0 b0 a1 b1;exact A9 (by kernel_rfl) (λ w=>ZhR a0 b0 a1 b1) c)
theorem Zkl:(∀ c f x y,opV Pg (ZI .eql 69 c (.func f x y) .nilFunc) QP w k=k (.bool false) w):=(M6 underlying69)
theorem Zkm:(∀ c (a0 b0:Int) (a1 b1:Int),opV Pg (ZI .eql 74 c (.agg #[.int .i64 a0,.int .i64 a1]) (.agg #[.int .i64 b0,.int .i64 b1])) QP w k=k (.bool (decide (a0=b0)&&(decide (a1=b1)&&true))) w):=(by intro c a0 b0 a1 b1;exact FG (by kernel_rfl) (λ w=>Zdf a0 b0 a1 b1) c)
theorem Zkn:(∀ c (a0 b0:Int) (a1 b1:Int),opV Pg (ZI .neq 74 c (.agg #[.int .i64 a0,.int .i64 a1]) (.agg #[.int .i64 b0,.int .i64 b1])) QP w k=k (.bool (!(decide (a0=b0)&&(decide (a1=b1)&&true)))) w):=(by intro c a0 b0 a1 b1;exact A9 (by kernel_rfl) (λ w=>Zdf a0 b0 a1 b1) c)
theorem Zko:(∀ c (a0 b0:BAr) (a1 b1:BAr) (a2 b2:BAr) (a3 b3:BAr) (a4 b4:Int) (a5 b5:Int) (a6 b6:Int) (a7 b7:Int) (a8 b8:Int) (a9 b9:Int) (a10 b10:Int) (a11 b11:Bool) (a12 b12:Bool),opV Pg (ZI .eql 144 c (.agg #[.string a0,.string a1,.string a2,.string a3,.int .i64 a4,.int .i64 a5,.int .i64 a6,.int .i64 a7,.int .i64 a8,.int .i64 a9,.int .i64 a10,.bool a11,.bool a12]) (.agg #[.string b0,.string b1,.string b2,.string b3,.int .i64 b4,.int .i64 b5,.int .i64 b6,.int .i64 b7,.int .i64 b8,.int .i64 b9,.int .i64 b10,.bool b11,.bool b12])) QP w k=k (.bool (decide (a0=b0)&&(decide (a1=b1)&&(decide (a2=b2)&&(decide (a3=b3)&&(decide (a4=b4)&&(decide (a5=b5)&&(decide (a6=b6)&&(decide (a7=b7)&&(decide (a8=b8)&&(decide (a9=b9)&&(decide (a10=b10)&&(decide (a11=b11)&&(decide (a12=b12)&&true)))))))))))))) w):=(by intro c a0 b0 a1 b1 a2 b2 a3 b3 a4 b4 a5 b5 a6 b6 a7 b7 a8 b8 a9 b9 a10 b10 a11 b11 a12 b12;exact FG (by kernel_rfl) (λ w=>Zde a0 b0 a1 b1 a2 b2 a3 b3 a4 b4 a5 b5 a6 b6 a7 b7 a8 b8 a9 b9 a10 b10 a11 b11 a12 b12) c)
end
theorem YW {P:Program} {C:WPr} [Xg C] {k:Vl→Prop} {s:Nat→Nat→Sem Vl} {v:Nat→Nat→Vl} (h:∀ QP w k b o,opV P (s b o) QP w k=k (v b o) w) (b o:Nat):qV P C (s b o) k=k (v b o):=YO λ QP w k=>h QP w k b o
def Zgt {QP:PEn} {w:Wd} {ku:WPr}:=And.intro (XF (QP:=QP) (w:=w) (ku:=ku) ty3)<|And.intro (XF (QP:=QP) (w:=w) (ku:=ku) ty4)<|And.intro (XF (QP:=QP) (w:=w) (ku:=ku) ty9)<|And.intro (XF (QP:=QP) (w:=w) (ku:=ku) NA)<|And.intro (XF (QP:=QP) (w:=w) (ku:=ku) SC)<|And.intro (XF (QP:=QP) (w:=w) (ku:=ku) TN)<|And.intro (XF (QP:=QP) (w:=w) (ku:=ku) Zcr)<|And.intro (XF (QP:=QP) (w:=w) (ku:=ku) Hj)<|And.intro (XF (QP:=QP) (w:=w) (ku:=ku) jB)<|And.intro ((by intro b T' u0 u1 u2 u3 u4 u5 u6 u7 u8 u9 u10 u11 u12 u13 u14 v0 v1 v2 v3 v4 v5 v6 v7 v8 v9 v10 v11 v12 v13 v14 hb h0 h1 h2 h3 h4 h5 h6 h7 h8 h9 h10 h11 h12 h13 h14;exact CJ V2 b hb _ T' _ rfl rfl (by intro v hv;simp only [List.mem_cons,List.not_mem_nil,or_false] at hv;rcases hv with rfl | rfl | rfl | rfl | rfl | rfl | rfl | rfl | rfl | rfl | rfl | rfl | rfl | rfl | rfl<;>assumption)):(∀ (b:Nat) (T':TypeId) u0 u1 u2 u3 u4 u5 u6 u7 u8 u9 u10 u11 u12 u13 u14 v0 v1 v2 v3 v4 v5 v6 v7 v8 v9 v10 v11 v12 v13 v14,b=w.heap.size→v0.oneCell'=true→v1.oneCell'=true→v2.oneCell'=true→v3.oneCell'=true→v4.oneCell'=true→v5.oneCell'=true→v6.oneCell'=true→v7.oneCell'=true→v8.oneCell'=true→v9.oneCell'=true→v10.oneCell'=true→v11.oneCell'=true→v12.oneCell'=true→v13.oneCell'=true→v14.oneCell'=true→opU Pg (storeAt 48 (.pointer (some ⟨b,0,none⟩)) (.agg #[v0,v1,v2,v3,v4,v5,v6,v7,v8,v9,v10,v11,v12,v13,v14])) QP (w.alloc (.cells #[u0,u1,u2,u3,u4,u5,u6,u7,u8,u9,u10,u11,u12,u13,u14] T')) ku=ku (w.alloc (.cells #[v0,v1,v2,v3,v4,v5,v6,v7,v8,v9,v10,v11,v12,v13,v14] T'))))<|And.intro (XF (QP:=QP) (w:=w) (ku:=ku) Zcs)<|And.intro (XF (QP:=QP) (w:=w) (ku:=ku) Sy)<|And.intro (XF (QP:=QP) (w:=w) (ku:=ku) jr)<|And.intro ((by intro b T' u0 u1 u2 u3 u4 u5 u6 u7 u8 u9 u10 u11 u12 v0 v1 v2 v3 v4 v5 v6 v7 v8 v9 v10 v11 v12 hb h0 h1 h2 h3 h4 h5 h6 h7 h8 h9 h10 h11 h12;exact CJ Mk b hb _ T' _ rfl rfl (by intro v hv;simp only [List.mem_cons,List.not_mem_nil,or_false] at hv;rcases hv with rfl | rfl | rfl | rfl | rfl | rfl | rfl | rfl | rfl | rfl | rfl | rfl | rfl<;>assumption)):(∀ (b:Nat) (T':TypeId) u0 u1 u2 u3 u4 u5 u6 u7 u8 u9 u10 u11 u12 v0 v1 v2 v3 v4 v5 v6 v7 v8 v9 v10 v11 v12,b=w.heap.size→v0.oneCell'=true→v1.oneCell'=true→v2.oneCell'=true→v3.oneCell'=true→v4.oneCell'=true→v5.oneCell'=true→v6.oneCell'=true→v7.oneCell'=true→v8.oneCell'=true→v9.oneCell'=true→v10.oneCell'=true→v11.oneCell'=true→v12.oneCell'=true→opU Pg (storeAt 144 (.pointer (some ⟨b,0,none⟩)) (.agg #[v0,v1,v2,v3,v4,v5,v6,v7,v8,v9,v10,v11,v12])) QP (w.alloc (.cells #[u0,u1,u2,u3,u4,u5,u6,u7,u8,u9,u10,u11,u12] T')) ku=ku (w.alloc (.cells #[v0,v1,v2,v3,v4,v5,v6,v7,v8,v9,v10,v11,v12] T'))))<|(XF (QP:=QP) (w:=w) (ku:=ku) BF)
def Zgo {QP:PEn} {w:Wd} {ku:WPr}:=And.intro ((by intro b o v0 v1 h0 h1;exact Qy Ki b o _ rfl (by intro v hv;simp only [List.mem_cons,List.not_mem_nil,or_false] at hv;rcases hv with rfl | rfl<;>assumption) _ rfl _ rfl):(∀ b o v0 v1,v0.oneCell'=true→v1.oneCell'=true→opU Pg (storeAt 24 (.pointer (some ⟨b,o,none⟩)) (.agg #[v0,v1])) QP w ku=Z7 [w.cell? ⟨b,o,none⟩,w.cell? ⟨b,o+1,none⟩] (λ _=>Qw [w.frozen? ⟨b,o,none⟩,w.frozen? ⟨b,o+1,none⟩] (ku ((w.setCell ⟨b,o,none⟩ v0).setCell ⟨b,o+1,none⟩ v1)) (VG Pg (storeAt 24 (.pointer (some ⟨b,o,none⟩)) (.agg #[v0,v1])) QP w ku)) (VG Pg (storeAt 24 (.pointer (some ⟨b,o,none⟩)) (.agg #[v0,v1])) QP w ku)))<|And.intro ((by intro b o v0 v1 v2 h0 h1 h2;exact Qy I6 b o _ rfl (by intro v hv;simp only [List.mem_cons,List.not_mem_nil,or_false] at hv;rcases hv with rfl | rfl | rfl<;>assumption) _ rfl _ rfl):(∀ b o v0 v1 v2,v0.oneCell'=true→v1.oneCell'=true→v2.oneCell'=true→opU Pg (storeAt 28 (.pointer (some ⟨b,o,none⟩)) (.agg #[v0,v1,v2])) QP w ku=Z7 [w.cell? ⟨b,o,none⟩,w.cell? ⟨b,o+1,none⟩,w.cell? ⟨b,o+2,none⟩] (λ _=>Qw [w.frozen? ⟨b,o,none⟩,w.frozen? ⟨b,o+1,none⟩,w.frozen? ⟨b,o+2,none⟩] (ku (((w.setCell ⟨b,o,none⟩ v0).setCell ⟨b,o+1,none⟩ v1).setCell ⟨b,o+2,none⟩ v2)) (VG Pg (storeAt 28 (.pointer (some ⟨b,o,none⟩)) (.agg #[v0,v1,v2])) QP w ku)) (VG Pg (storeAt 28 (.pointer (some ⟨b,o,none⟩)) (.agg #[v0,v1,v2])) QP w ku)))<|And.intro ((by intro b o v0 v1 h0 h1;exact Qy GB b o _ rfl (by intro v hv;simp only [List.mem_cons,List.not_mem_nil,or_false] at hv;rcases hv with rfl | rfl<;>assumption) _ rfl _ rfl):(∀ b o v0 v1,v0.oneCell'=true→v1.oneCell'=true→opU Pg (storeAt 45 (.pointer (some ⟨b,o,none⟩)) (.agg #[v0,v1])) QP w ku=Z7 [w.cell? ⟨b,o,none⟩,w.cell? ⟨b,o+1,none⟩] (λ _=>Qw [w.frozen? ⟨b,o,none⟩,w.frozen? ⟨b,o+1,none⟩] (ku ((w.setCell ⟨b,o,none⟩ v0).setCell ⟨b,o+1,none⟩ v1)) (VG Pg (storeAt 45 (.pointer (some ⟨b,o,none⟩)) (.agg #[v0,v1])) QP w ku)) (VG Pg (storeAt 45 (.pointer (some ⟨b,o,none⟩)) (.agg #[v0,v1])) QP w ku)))<|And.intro ((by intro b o v0 v1 v2 h0 h1 h2;exact Qy jC b o _ rfl (by intro v hv;simp only [List.mem_cons,List.not_mem_nil,or_false] at hv;rcases hv with rfl | rfl | rfl<;>assumption) _ rfl _ rfl):(∀ b o v0 v1 v2,v0.oneCell'=true→v1.oneCell'=true→v2.oneCell'=true→opU Pg (storeAt 60 (.pointer (some ⟨b,o,none⟩)) (.agg #[v0,v1,v2])) QP w ku=Z7 [w.cell? ⟨b,o,none⟩,w.cell? ⟨b,o+1,none⟩,w.cell? ⟨b,o+2,none⟩] (λ _=>Qw [w.frozen? ⟨b,o,none⟩,w.frozen? ⟨b,o+1,none⟩,w.frozen? ⟨b,o+2,none⟩] (ku (((w.setCell ⟨b,o,none⟩ v0).setCell ⟨b,o+1,none⟩ v1).setCell ⟨b,o+2,none⟩ v2)) (VG Pg (storeAt 60 (.pointer (some ⟨b,o,none⟩)) (.agg #[v0,v1,v2])) QP w ku)) (VG Pg (storeAt 60 (.pointer (some ⟨b,o,none⟩)) (.agg #[v0,v1,v2])) QP w ku)))<|And.intro ((by intro b o v0 v1 h0 h1;exact Qy B5 b o _ rfl (by intro v hv;simp only [List.mem_cons,List.not_mem_nil,or_false] at hv;rcases hv with rfl | rfl<;>assumption) _ rfl _ rfl):(∀ b o v0 v1,v0.oneCell'=true→v1.oneCell'=true→opU Pg (storeAt 62 (.pointer (some ⟨b,o,none⟩)) (.agg #[v0,v1])) QP w ku=Z7 [w.cell? ⟨b,o,none⟩,w.cell? ⟨b,o+1,none⟩] (λ _=>Qw [w.frozen? ⟨b,o,none⟩,w.frozen? ⟨b,o+1,none⟩] (ku ((w.setCell ⟨b,o,none⟩ v0).setCell ⟨b,o+1,none⟩ v1)) (VG Pg (storeAt 62 (.pointer (some ⟨b,o,none⟩)) (.agg #[v0,v1])) QP w ku)) (VG Pg (storeAt 62 (.pointer (some ⟨b,o,none⟩)) (.agg #[v0,v1])) QP w ku)))<|And.intro ((by intro b o v0 v1 h0 h1;exact Qy UY b o _ rfl (by intro v hv;simp only [List.mem_cons,List.not_mem_nil,or_false] at hv;rcases hv with rfl | rfl<;>assumption) _ rfl _ rfl):(∀ b o v0 v1,v0.oneCell'=true→v1.oneCell'=true→opU Pg (storeAt 74 (.pointer (some ⟨b,o,none⟩)) (.agg #[v0,v1])) QP w ku=Z7 [w.cell? ⟨b,o,none⟩,w.cell? ⟨b,o+1,none⟩] (λ _=>Qw [w.frozen? ⟨b,o,none⟩,w.frozen? ⟨b,o+1,none⟩] (ku ((w.setCell ⟨b,o,none⟩ v0).setCell ⟨b,o+1,none⟩ v1)) (VG Pg (storeAt 74 (.pointer (some ⟨b,o,none⟩)) (.agg #[v0,v1])) QP w ku)) (VG Pg (storeAt 74 (.pointer (some ⟨b,o,none⟩)) (.agg #[v0,v1])) QP w ku)))<|And.intro ((by intro b o v0 v1 h0 h1;exact Qy xk b o _ rfl (by intro v hv;simp only [List.mem_cons,List.not_mem_nil,or_false] at hv;rcases hv with rfl | rfl<;>assumption) _ rfl _ rfl):(∀ b o v0 v1,v0.oneCell'=true→v1.oneCell'=true→opU Pg (storeAt 76 (.pointer (some ⟨b,o,none⟩)) (.agg #[v0,v1])) QP w ku=Z7 [w.cell? ⟨b,o,none⟩,w.cell? ⟨b,o+1,none⟩] (λ _=>Qw [w.frozen? ⟨b,o,none⟩,w.frozen? ⟨b,o+1,none⟩] (ku ((w.setCell ⟨b,o,none⟩ v0).setCell ⟨b,o+1,none⟩ v1)) (VG Pg (storeAt 76 (.pointer (some ⟨b,o,none⟩)) (.agg #[v0,v1])) QP w ku)) (VG Pg (storeAt 76 (.pointer (some ⟨b,o,none⟩)) (.agg #[v0,v1])) QP w ku)))<|And.intro ((by intro b o v0 v1 v2 h0 h1 h2;exact Qy NB b o _ rfl (by intro v hv;simp only [List.mem_cons,List.not_mem_nil,or_false] at hv;rcases hv with rfl | rfl | rfl<;>assumption) _ rfl _ rfl):(∀ b o v0 v1 v2,v0.oneCell'=true→v1.oneCell'=true→v2.oneCell'=true→opU Pg (storeAt 90 (.pointer (some ⟨b,o,none⟩)) (.agg #[v0,v1,v2])) QP w ku=Z7 [w.cell? ⟨b,o,none⟩,w.cell? ⟨b,o+1,none⟩,w.cell? ⟨b,o+2,none⟩] (λ _=>Qw [w.frozen? ⟨b,o,none⟩,w.frozen? ⟨b,o+1,none⟩,w.frozen? ⟨b,o+2,none⟩] (ku (((w.setCell ⟨b,o,none⟩ v0).setCell ⟨b,o+1,none⟩ v1).setCell ⟨b,o+2,none⟩ v2)) (VG Pg (storeAt 90 (.pointer (some ⟨b,o,none⟩)) (.agg #[v0,v1,v2])) QP w ku)) (VG Pg (storeAt 90 (.pointer (some ⟨b,o,none⟩)) (.agg #[v0,v1,v2])) QP w ku)))<|And.intro ((by intro b o v0 v1 v2 h0 h1 h2;exact Qy Kz b o _ rfl (by intro v hv;simp only [List.mem_cons,List.not_mem_nil,or_false] at hv;rcases hv with rfl | rfl | rfl<;>assumption) _ rfl _ rfl):(∀ b o v0 v1 v2,v0.oneCell'=true→v1.oneCell'=true→v2.oneCell'=true→opU Pg (storeAt 124 (.pointer (some ⟨b,o,none⟩)) (.agg #[v0,v1,v2])) QP w ku=Z7 [w.cell? ⟨b,o,none⟩,w.cell? ⟨b,o+1,none⟩,w.cell? ⟨b,o+2,none⟩] (λ _=>Qw [w.frozen? ⟨b,o,none⟩,w.frozen? ⟨b,o+1,none⟩,w.frozen? ⟨b,o+2,none⟩] (ku (((w.setCell ⟨b,o,none⟩ v0).setCell ⟨b,o+1,none⟩ v1).setCell ⟨b,o+2,none⟩ v2)) (VG Pg (storeAt 124 (.pointer (some ⟨b,o,none⟩)) (.agg #[v0,v1,v2])) QP w ku)) (VG Pg (storeAt 124 (.pointer (some ⟨b,o,none⟩)) (.agg #[v0,v1,v2])) QP w ku)))<|And.intro ((by intro b o v0 v1 v2 h0 h1 h2;exact Qy jt b o _ rfl (by intro v hv;simp only [List.mem_cons,List.not_mem_nil,or_false] at hv;rcases hv with rfl | rfl | rfl<;>assumption) _ rfl _ rfl):(∀ b o v0 v1 v2,v0.oneCell'=true→v1.oneCell'=true→v2.oneCell'=true→opU Pg (storeAt 206 (.pointer (some ⟨b,o,none⟩)) (.agg #[v0,v1,v2])) QP w ku=Z7 [w.cell? ⟨b,o,none⟩,w.cell? ⟨b,o+1,none⟩,w.cell? ⟨b,o+2,none⟩] (λ _=>Qw [w.frozen? ⟨b,o,none⟩,w.frozen? ⟨b,o+1,none⟩,w.frozen? ⟨b,o+2,none⟩] (ku (((w.setCell ⟨b,o,none⟩ v0).setCell ⟨b,o+1,none⟩ v1).setCell ⟨b,o+2,none⟩ v2)) (VG Pg (storeAt 206 (.pointer (some ⟨b,o,none⟩)) (.agg #[v0,v1,v2])) QP w ku)) (VG Pg (storeAt 206 (.pointer (some ⟨b,o,none⟩)) (.agg #[v0,v1,v2])) QP w ku)))<|((by intro b o v0 v1 h0 h1;exact Qy Hi b o _ rfl (by intro v hv;simp only [List.mem_cons,List.not_mem_nil,or_false] at hv;rcases hv with rfl | rfl<;>assumption) _ rfl _ rfl):(∀ b o v0 v1,v0.oneCell'=true→v1.oneCell'=true→opU Pg (storeAt 219 (.pointer (some ⟨b,o,none⟩)) (.agg #[v0,v1])) QP w ku=Z7 [w.cell? ⟨b,o,none⟩,w.cell? ⟨b,o+1,none⟩] (λ _=>Qw [w.frozen? ⟨b,o,none⟩,w.frozen? ⟨b,o+1,none⟩] (ku ((w.setCell ⟨b,o,none⟩ v0).setCell ⟨b,o+1,none⟩ v1)) (VG Pg (storeAt 219 (.pointer (some ⟨b,o,none⟩)) (.agg #[v0,v1])) QP w ku)) (VG Pg (storeAt 219 (.pointer (some ⟨b,o,none⟩)) (.agg #[v0,v1])) QP w ku)))
section
def Zgu {w:Wd} {k:Vl→Prop}:=And.intro (Qm (w:=w) (k:=k) ty3)<|And.intro (UE (w:=w) (k:=k) ty3)<|And.intro (Qm (w:=w) (k:=k) ty4)<|And.intro (UE (w:=w) (k:=k) ty4)<|And.intro (Qm (w:=w) (k:=k) ty9)<|And.intro (UE (w:=w) (k:=k) ty9)<|And.intro (Qm (w:=w) (k:=k) NA)<|And.intro ((by intro b o;exact VB Ki b o _ rfl):(∀ b o,qV Pg (EC w) (loadAt 24 (.pointer (some ⟨b,o,none⟩))) k=Z7 [w.cell? ⟨b,o,none⟩,w.cell? ⟨b,o+1,none⟩] (λ vs=>k (.agg vs.toArray)) (qVx Pg (EC w) (loadAt 24 (.pointer (some ⟨b,o,none⟩))) k)))<|And.intro (Qm (w:=w) (k:=k) SC)<|And.intro ((by intro b o;exact VB I6 b o _ rfl):(∀ b o,qV Pg (EC w) (loadAt 28 (.pointer (some ⟨b,o,none⟩))) k=Z7 [w.cell? ⟨b,o,none⟩,w.cell? ⟨b,o+1,none⟩,w.cell? ⟨b,o+2,none⟩] (λ vs=>k (.agg vs.toArray)) (qVx Pg (EC w) (loadAt 28 (.pointer (some ⟨b,o,none⟩))) k)))<|And.intro (Qm (w:=w) (k:=k) TN)<|And.intro (Qm (w:=w) (k:=k) xj)<|And.intro (Qm (w:=w) (k:=k) Hj)<|And.intro ((by intro b o;exact VB GB b o _ rfl):(∀ b o,qV Pg (EC w) (loadAt 45 (.pointer (some ⟨b,o,none⟩))) k=Z7 [w.cell? ⟨b,o,none⟩,w.cell? ⟨b,o+1,none⟩] (λ vs=>k (.agg vs.toArray)) (qVx Pg (EC w) (loadAt 45 (.pointer (some ⟨b,o,none⟩))) k)))<|And.intro (Qm (w:=w) (k:=k) jB)<|And.intro ((by intro b o;exact VB V2 b o _ rfl):(∀ b o,qV Pg (EC w) (loadAt 48 (.pointer (some ⟨b,o,none⟩))) k=Z7 [w.cell? ⟨b,o,none⟩,w.cell? ⟨b,o+1,none⟩,w.cell? ⟨b,o+2,none⟩,w.cell? ⟨b,o+3,none⟩,w.cell? ⟨b,o+4,none⟩,w.cell? ⟨b,o+5,none⟩,w.cell? ⟨b,o+6,none⟩,w.cell? ⟨b,o+7,none⟩,w.cell? ⟨b,o+8,none⟩,w.cell? ⟨b,o+9,none⟩,w.cell? ⟨b,o+10,none⟩,w.cell? ⟨b,o+11,none⟩,w.cell? ⟨b,o+12,none⟩,w.cell? ⟨b,o+13,none⟩,w.cell? ⟨b,o+14,none⟩] (λ vs=>k (.agg vs.toArray)) (qVx Pg (EC w) (loadAt 48 (.pointer (some ⟨b,o,none⟩))) k)))<|And.intro ((by intro b o;exact VB jC b o _ rfl):(∀ b o,qV Pg (EC w) (loadAt 60 (.pointer (some ⟨b,o,none⟩))) k=Z7 [w.cell? ⟨b,o,none⟩,w.cell? ⟨b,o+1,none⟩,w.cell? ⟨b,o+2,none⟩] (λ vs=>k (.agg vs.toArray)) (qVx Pg (EC w) (loadAt 60 (.pointer (some ⟨b,o,none⟩))) k)))<|And.intro ((by intro b o;exact VB B5 b o _ rfl):(∀ b o,qV Pg (EC w) (loadAt 62 (.pointer (some ⟨b,o,none⟩))) k=Z7 [w.cell? ⟨b,o,none⟩,w.cell? ⟨b,o+1,none⟩] (λ vs=>k (.agg vs.toArray)) (qVx Pg (EC w) (loadAt 62 (.pointer (some ⟨b,o,none⟩))) k)))<|And.intro (Qm (w:=w) (k:=k) Zcs)<|And.intro ((by intro b o;exact VB UY b o _ rfl):(∀ b o,qV Pg (EC w) (loadAt 74 (.pointer (some ⟨b,o,none⟩))) k=Z7 [w.cell? ⟨b,o,none⟩,w.cell? ⟨b,o+1,none⟩] (λ vs=>k (.agg vs.toArray)) (qVx Pg (EC w) (loadAt 74 (.pointer (some ⟨b,o,none⟩))) k)))<|And.intro ((by intro b o;exact VB xk b o _ rfl):(∀ b o,qV Pg (EC w) (loadAt 76 (.pointer (some ⟨b,o,none⟩))) k=Z7 [w.cell? ⟨b,o,none⟩,w.cell? ⟨b,o+1,none⟩] (λ vs=>k (.agg vs.toArray)) (qVx Pg (EC w) (loadAt 76 (.pointer (some ⟨b,o,none⟩))) k)))<|And.intro (Qm (w:=w) (k:=k) jr)<|And.intro ((by intro b o;exact VB Kz b o _ rfl):(∀ b o,qV Pg (EC w) (loadAt 124 (.pointer (some ⟨b,o,none⟩))) k=Z7 [w.cell? ⟨b,o,none⟩,w.cell? ⟨b,o+1,none⟩,w.cell? ⟨b,o+2,none⟩] (λ vs=>k (.agg vs.toArray)) (qVx Pg (EC w) (loadAt 124 (.pointer (some ⟨b,o,none⟩))) k)))<|And.intro (Qm (w:=w) (k:=k) Sz)<|(UE (w:=w) (k:=k) Sz)
def Zgv {w:Wd} {k:Vl→Prop}:=And.intro (Qm (w:=w) (k:=k) Hh)<|And.intro (UE (w:=w) (k:=k) Hh)<|And.intro (Qm (w:=w) (k:=k) BF)<|And.intro (UE (w:=w) (k:=k) BF)<|And.intro (FS (w:=w) (k:=k) ty4)<|And.intro ((by intro b o;exact Kv I6 b o _ rfl):(∀ b o,qW Pg 28 (.pointer (some ⟨b,o,none⟩)) w k=Z7 [w.cell? ⟨b,o,none⟩,w.cell? ⟨b,o+1,none⟩,w.cell? ⟨b,o+2,none⟩] (λ vs=>k (.agg vs.toArray)) (qWx Pg 28 (.pointer (some ⟨b,o,none⟩)) w k)))<|And.intro (FS (w:=w) (k:=k) Zcr)<|And.intro ((by intro b o;exact Kv UY b o _ rfl):(∀ b o,qW Pg 74 (.pointer (some ⟨b,o,none⟩)) w k=Z7 [w.cell? ⟨b,o,none⟩,w.cell? ⟨b,o+1,none⟩] (λ vs=>k (.agg vs.toArray)) (qWx Pg 74 (.pointer (some ⟨b,o,none⟩)) w k)))<|And.intro ((by intro b o;exact Kv xk b o _ rfl):(∀ b o,qW Pg 76 (.pointer (some ⟨b,o,none⟩)) w k=Z7 [w.cell? ⟨b,o,none⟩,w.cell? ⟨b,o+1,none⟩] (λ vs=>k (.agg vs.toArray)) (qWx Pg 76 (.pointer (some ⟨b,o,none⟩)) w k)))<|And.intro ((by intro b o;exact Kv NB b o _ rfl):(∀ b o,qW Pg 90 (.pointer (some ⟨b,o,none⟩)) w k=Z7 [w.cell? ⟨b,o,none⟩,w.cell? ⟨b,o+1,none⟩,w.cell? ⟨b,o+2,none⟩] (λ vs=>k (.agg vs.toArray)) (qWx Pg 90 (.pointer (some ⟨b,o,none⟩)) w k)))<|And.intro ((by intro b o;exact Kv Kz b o _ rfl):(∀ b o,qW Pg 124 (.pointer (some ⟨b,o,none⟩)) w k=Z7 [w.cell? ⟨b,o,none⟩,w.cell? ⟨b,o+1,none⟩,w.cell? ⟨b,o+2,none⟩] (λ vs=>k (.agg vs.toArray)) (qWx Pg 124 (.pointer (some ⟨b,o,none⟩)) w k)))<|((by intro b o;exact Kv Mk b o _ rfl):(∀ b o,qW Pg 144 (.pointer (some ⟨b,o,none⟩)) w k=Z7 [w.cell? ⟨b,o,none⟩,w.cell? ⟨b,o+1,none⟩,w.cell? ⟨b,o+2,none⟩,w.cell? ⟨b,o+3,none⟩,w.cell? ⟨b,o+4,none⟩,w.cell? ⟨b,o+5,none⟩,w.cell? ⟨b,o+6,none⟩,w.cell? ⟨b,o+7,none⟩,w.cell? ⟨b,o+8,none⟩,w.cell? ⟨b,o+9,none⟩,w.cell? ⟨b,o+10,none⟩,w.cell? ⟨b,o+11,none⟩,w.cell? ⟨b,o+12,none⟩] (λ vs=>k (.agg vs.toArray)) (qWx Pg 144 (.pointer (some ⟨b,o,none⟩)) w k)))
def Zgp {C:WPr} [Xg C] {k:Vl→Prop}:=And.intro ((by intros;apply YO;intros;apply o10<;>assumption):(∀ r a n c,qV Pg C (Builtin.len_ #[22] r #[.slice a n c]) k=k (.int .i64 (n:Int))))<|And.intro ((by intros;apply YO;intros;apply o11<;>assumption):(∀ b o len cap ik (i:Nat),i < len→qV Pg C (indexAt 22 (.slice (some ⟨b,o,none⟩) len cap) (.int ik (i:Int))) k=k (.pointer (some ⟨b,o+i*15,none⟩))))<|And.intro (YW (C:=C) (k:=k) λ QP w k => @o12 QP w k)<|And.intro (YW (C:=C) (k:=k) λ QP w k => @o13 QP w k)<|And.intro ((by intros;apply YO;intros;apply o18<;>assumption):(∀ b o len cap ik (i:Nat),i < len→qV Pg C (indexAt 26 (.slice (some ⟨b,o,none⟩) len cap) (.int ik (i:Int))) k=k (.pointer (some ⟨b,o+i*2,none⟩))))<|And.intro (YW (C:=C) (k:=k) λ QP w k => @o20 QP w k)<|And.intro (YW (C:=C) (k:=k) λ QP w k => @o21 QP w k)<|And.intro ((by intros;apply YO;intros;apply o25<;>assumption):(∀ r a n c,qV Pg C (Builtin.len_ #[30] r #[.slice a n c]) k=k (.int .i64 (n:Int))))<|And.intro ((by intros;apply YO;intros;apply o26<;>assumption):(∀ b o len cap ik (i:Nat),i < len→qV Pg C (indexAt 30 (.slice (some ⟨b,o,none⟩) len cap) (.int ik (i:Int))) k=k (.pointer (some ⟨b,o+i*1,none⟩))))<|And.intro ((by intros;apply YO;intros;apply o31<;>assumption):(∀ r a n c,qV Pg C (Builtin.len_ #[43] r #[.slice a n c]) k=k (.int .i64 (n:Int))))<|And.intro ((by intros;apply YO;intros;apply o32<;>assumption):(∀ b o len cap ik (i:Nat),i < len→qV Pg C (indexAt 43 (.slice (some ⟨b,o,none⟩) len cap) (.int ik (i:Int))) k=k (.pointer (some ⟨b,o+i*2,none⟩))))<|And.intro (YW (C:=C) (k:=k) λ QP w k => @o34 QP w k)<|And.intro (YW (C:=C) (k:=k) λ QP w k => @o35 QP w k)<|And.intro ((by intros;apply YO;intros;apply o40<;>assumption):(∀ b o len cap ik (i:Nat),i < len→qV Pg C (indexAt 46 (.slice (some ⟨b,o,none⟩) len cap) (.int ik (i:Int))) k=k (.pointer (some ⟨b,o+i*3,none⟩))))<|And.intro (YW (C:=C) (k:=k) λ QP w k => @o41 QP w k)<|And.intro (YW (C:=C) (k:=k) λ QP w k => @o42 QP w k)<|And.intro (YW (C:=C) (k:=k) λ QP w k => @o43 QP w k)<|And.intro (YW (C:=C) (k:=k) λ QP w k => @o46 QP w k)<|And.intro (YW (C:=C) (k:=k) λ QP w k => @o47 QP w k)<|And.intro (YW (C:=C) (k:=k) λ QP w k => @o48 QP w k)<|And.intro (YW (C:=C) (k:=k) λ QP w k => @o49 QP w k)<|And.intro (YW (C:=C) (k:=k) λ QP w k => @o50 QP w k)<|And.intro (YW (C:=C) (k:=k) λ QP w k => @o51 QP w k)<|And.intro (YW (C:=C) (k:=k) λ QP w k => @o52 QP w k)<|And.intro (YW (C:=C) (k:=k) λ QP w k => @o57 QP w k)<|And.intro (YW (C:=C) (k:=k) λ QP w k => @o58 QP w k)<|And.intro (YW (C:=C) (k:=k) λ QP w k => @o59 QP w k)<|And.intro (YW (C:=C) (k:=k) λ QP w k => @o62 QP w k)<|And.intro (YW (C:=C) (k:=k) λ QP w k => @o63 QP w k)<|((by intros;apply YO;intros;apply o67<;>assumption):(∀ r a n c,qV Pg C (Builtin.len_ #[71] r #[.slice a n c]) k=k (.int .i64 (n:Int))))
def Zgq {C:WPr} [Xg C] {k:Vl→Prop}:=And.intro ((by intros;apply YO;intros;apply o68<;>assumption):(∀ b o len cap ik (i:Nat),i < len→qV Pg C (indexAt 71 (.slice (some ⟨b,o,none⟩) len cap) (.int ik (i:Int))) k=k (.pointer (some ⟨b,o+i*2,none⟩))))<|And.intro (YW (C:=C) (k:=k) λ QP w k => @o70 QP w k)<|And.intro (YW (C:=C) (k:=k) λ QP w k => @o71 QP w k)<|And.intro (YW (C:=C) (k:=k) λ QP w k => @o75 QP w k)<|And.intro (YW (C:=C) (k:=k) λ QP w k => @o76 QP w k)<|And.intro ((by intros;apply YO;intros;apply o83<;>assumption):(∀ b o len cap ik (i:Nat),i < len→qV Pg C (indexAt 82 (.slice (some ⟨b,o,none⟩) len cap) (.int ik (i:Int))) k=k (.pointer (some ⟨b,o+i*1,none⟩))))<|And.intro ((by intros;apply YO;intros;apply o88<;>assumption):(∀ b o len cap ik (i:Nat),i < len→qV Pg C (indexAt 93 (.slice (some ⟨b,o,none⟩) len cap) (.int ik (i:Int))) k=k (.pointer (some ⟨b,o+i*1,none⟩))))<|And.intro ((by intros;apply YO;intros;apply o90<;>assumption):(∀ b o len cap ik (i:Nat),i < len→qV Pg C (indexAt 119 (.slice (some ⟨b,o,none⟩) len cap) (.int ik (i:Int))) k=k (.pointer (some ⟨b,o+i*3,none⟩))))<|And.intro (YW (C:=C) (k:=k) λ QP w k => @o94 QP w k)<|And.intro (YW (C:=C) (k:=k) λ QP w k => @o95 QP w k)<|And.intro (YW (C:=C) (k:=k) λ QP w k => @ZfT QP w k)<|And.intro (YW (C:=C) (k:=k) λ QP w k => @ZfU QP w k)<|And.intro (YW (C:=C) (k:=k) λ QP w k => @ZfV QP w k)<|And.intro (YW (C:=C) (k:=k) λ QP w k => @ZfW QP w k)<|And.intro (YW (C:=C) (k:=k) λ QP w k => @Zjk QP w k)<|And.intro ((by intros;apply YO;intros;apply ZfX<;>assumption):(∀ b o len cap ik (i:Nat),i < len→qV Pg C (indexAt 173 (.slice (some ⟨b,o,none⟩) len cap) (.int ik (i:Int))) k=k (.pointer (some ⟨b,o+i*3,none⟩))))<|And.intro (YW (C:=C) (k:=k) λ QP w k => @ZfY QP w k)<|And.intro (YW (C:=C) (k:=k) λ QP w k => @ZfZ QP w k)<|((by intros;apply YO;intros;apply Zf0<;>assumption):(∀ v1:Vl,v1.oneCell'=true→qV Pg C (Instr.build 24 #[(1,v1)]) k=k (.agg #[.string ByteArray.empty,v1])))
def Zgr {C:WPr} [Xg C] {k:Vl→Prop}:=And.intro ((by intros;apply YO;intros;apply Zf1<;>assumption):(∀ v0 v1:Vl,v0.oneCell'=true→v1.oneCell'=true→qV Pg C (Instr.build 74 #[(0,v0),(1,v1)]) k=k (.agg #[v0,v1])))<|And.intro ((by intros;apply YO;intros;apply Zf2<;>assumption):(∀ v0 v1:Vl,v0.oneCell'=true→v1.oneCell'=true→qV Pg C (Instr.build 76 #[(0,v0),(1,v1)]) k=k (.agg #[v0,v1])))<|And.intro ((by intros;apply YO;intros;apply Zf3<;>assumption):(∀ v0 v1 v2:Vl,v0.oneCell'=true→v1.oneCell'=true→v2.oneCell'=true→qV Pg C (Instr.build 90 #[(0,v0),(1,v1),(2,v2)]) k=k (.agg #[v0,v1,v2])))<|((by intros;apply YO;intros;apply Zke<;>assumption):(∀ v,qV Pg C (Instr.makeInterface 90 v) k=k (.iface 90 v)))
def Zgs {C:WPr} [Xg C] {k:Vl→Prop}:=And.intro ((by intros;apply YO;intros;apply Zkj<;>assumption):(∀ c (a0 b0:Int) (a1 b1:Int) (a2 b2:BAr),qV Pg C (ZI .neq 60 c (.agg #[.int .i64 a0,.int .i64 a1,.string a2]) (.agg #[.int .i64 b0,.int .i64 b1,.string b2])) k=k (.bool (!(decide (a0=b0)&&(decide (a1=b1)&&(decide (a2=b2)&&true)))))))<|And.intro ((by intros;apply YO;intros;apply Zkk<;>assumption):(∀ c (a0 b0:BAr) (a1 b1:Int),qV Pg C (ZI .neq 62 c (.agg #[.string a0,.int .i64 a1]) (.agg #[.string b0,.int .i64 b1])) k=k (.bool (!(decide (a0=b0)&&(decide (a1=b1)&&true))))))<|And.intro ((by intros;apply YO;intros;apply Zkn<;>assumption):(∀ c (a0 b0:Int) (a1 b1:Int),qV Pg C (ZI .neq 74 c (.agg #[.int .i64 a0,.int .i64 a1]) (.agg #[.int .i64 b0,.int .i64 b1])) k=k (.bool (!(decide (a0=b0)&&(decide (a1=b1)&&true))))))<|((by intros;apply YO;intros;apply Zko<;>assumption):(∀ c (a0 b0:BAr) (a1 b1:BAr) (a2 b2:BAr) (a3 b3:BAr) (a4 b4:Int) (a5 b5:Int) (a6 b6:Int) (a7 b7:Int) (a8 b8:Int) (a9 b9:Int) (a10 b10:Int) (a11 b11:Bool) (a12 b12:Bool),qV Pg C (ZI .eql 144 c (.agg #[.string a0,.string a1,.string a2,.string a3,.int .i64 a4,.int .i64 a5,.int .i64 a6,.int .i64 a7,.int .i64 a8,.int .i64 a9,.int .i64 a10,.bool a11,.bool a12]) (.agg #[.string b0,.string b1,.string b2,.string b3,.int .i64 b4,.int .i64 b5,.int .i64 b6,.int .i64 b7,.int .i64 b8,.int .i64 b9,.int .i64 b10,.bool b11,.bool b12])) k=k (.bool (decide (a0=b0)&&(decide (a1=b1)&&(decide (a2=b2)&&(decide (a3=b3)&&(decide (a4=b4)&&(decide (a5=b5)&&(decide (a6=b6)&&(decide (a7=b7)&&(decide (a8=b8)&&(decide (a9=b9)&&(decide (a10=b10)&&(decide (a11=b11)&&(decide (a12=b12)&&true))))))))))))))))
end
def PR:=And.intro @ZcG<|And.intro @ZcC<|And.intro @ZcL<|And.intro @Zcz<|And.intro @ZcA<|And.intro @ZcD<|And.intro @ZcB<|And.intro @ZcI<|And.intro @ZcK<|And.intro @ZcE<|And.intro @ZcF<|And.intro @ZcH<|And.intro @GEN<|And.intro @Iw<|And.intro @CTL<|And.intro @GENQ<|And.intro @o0<|And.intro @o1<|And.intro @o2<|And.intro @o3<|And.intro @o5<|And.intro @o6<|And.intro @o7<|And.intro @o8<|And.intro @o9<|And.intro @o10<|And.intro @o11<|And.intro @o12<|And.intro @o13<|And.intro @o14<|And.intro @o15<|And.intro @o16<|And.intro @o17<|And.intro @o18<|And.intro @o19<|And.intro @o20<|And.intro @o21<|And.intro @o22<|And.intro @o23<|And.intro @o24<|And.intro @o25<|And.intro @o26<|And.intro @o27<|And.intro @o28<|And.intro @o29<|And.intro @o30<|And.intro @o31<|And.intro @o32<|And.intro @o33<|And.intro @o34<|And.intro @o35<|And.intro @o36<|And.intro @o37<|And.intro @o38<|And.intro @o39<|And.intro @o40<|And.intro @o41<|And.intro @o42<|And.intro @o43<|And.intro @o44<|And.intro @o45<|And.intro @o46<|And.intro @o47<|And.intro @o48<|And.intro @o49<|And.intro @o50<|And.intro @o51<|And.intro @o52<|And.intro @o53<|And.intro @o54<|And.intro @o55<|And.intro @o56<|And.intro @o57<|And.intro @o58<|And.intro @o59<|And.intro @o60<|And.intro @o61<|And.intro @o62<|And.intro @o63<|And.intro @o64<|And.intro @o65<|And.intro @o67<|And.intro @o68<|And.intro @o69<|And.intro @o70<|And.intro @o71<|And.intro @o72<|And.intro @o73<|And.intro @o74<|And.intro @o75<|And.intro @o76<|And.intro @o77<|And.intro @o78<|And.intro @o81<|And.intro @o82<|And.intro @o83<|And.intro @o84<|And.intro @o85<|And.intro @o86<|And.intro @o87<|And.intro @o88<|And.intro @o91<|And.intro @o92<|And.intro @o93<|And.intro @o94<|And.intro @o95<|And.intro @o96<|And.intro @o97<|And.intro @o98<|And.intro @o99<|And.intro @Zjh<|And.intro @Zji<|And.intro @Zjj<|And.intro @ZfT<|And.intro @ZfU<|And.intro @ZfV<|And.intro @ZfW<|And.intro @Zjl<|And.intro @ZfX<|And.intro @Zjm<|And.intro @Zjn<|And.intro @Zjo<|And.intro @ZfY<|And.intro @ZfZ<|And.intro @Zjp<|And.intro @Zjq<|And.intro @Zjr<|And.intro @Zjs<|And.intro @Zjt<|And.intro @Zju<|And.intro @Zjv<|And.intro @Zjw<|And.intro @Zjx<|And.intro @Zf0<|And.intro @Zjy<|And.intro @Zjz<|And.intro @ZjA<|And.intro @ZjB<|And.intro @ZjC<|And.intro @ZjD<|And.intro @ZjE<|And.intro @ZjF<|And.intro @ZjG<|And.intro @ZjH<|And.intro @ZjI<|And.intro @ZjJ<|And.intro @ZjK<|And.intro @ZjL<|And.intro @Zf1<|And.intro @ZjM<|And.intro @Zf2<|And.intro @ZjN<|And.intro @Zf3<|And.intro @ZjO<|And.intro @ZjP<|And.intro @ZjQ<|And.intro @ZjR<|And.intro @ZjS<|And.intro @ZjT<|And.intro @ZjU<|And.intro @ZjV<|And.intro @ZjW<|And.intro @ZjX<|And.intro @ZjY<|And.intro @ZjZ<|And.intro @Zj0<|And.intro @Zj1<|And.intro @Zj2<|And.intro @Zj3<|And.intro @Zj4<|And.intro @Zj5<|And.intro @Zj6<|And.intro @Zj7<|And.intro @Zj8<|And.intro @Zj9<|And.intro @Zka<|And.intro @Zkb<|And.intro @Zkc<|And.intro @Zkd<|And.intro @Zkf<|And.intro @Zkg<|And.intro @Zkh<|And.intro @Zki<|And.intro @Zkl<|And.intro @Zkm<|And.intro @Zgt<|And.intro @Zgu<|And.intro @Zgv<|And.intro @Zgp<|And.intro @Zgq<|And.intro @Zgr<|And.intro @Zgs<|And.intro @joinK_eq<|And.intro @D2<|And.intro @Zco<|And.intro @ER <| @R2
def QR:=And.intro @Zgo<|And.intro @N2<|And.intro @FF<|And.intro @DY<|And.intro @Iq<|And.intro @D0<|And.intro @Oe<|And.intro @MQ<|And.intro @STD<|And.intro @MS<|And.intro @MT<|And.intro @YM<|And.intro @ME<|And.intro @EM<|And.intro @Sk<|And.intro @NV<|And.intro @HL<|And.intro @TH<|And.intro @NH<|And.intro @List.setIfInBounds_toArray.{0}<|And.intro @List.set_cons_zero.{0}<|And.intro @List.set_cons_succ.{0}<|And.intro @decide_true<|And.intro @decide_false<|And.intro @Bool.false_eq_true<|And.intro @Option.isSome_some.{0}<|And.intro @Option.isSome_none.{0}<|And.intro @Option.getD_some.{0}<|And.intro @Option.getD_none.{0}<|And.intro @Di<|And.intro @Qs<|And.intro @Option.map_some.{0,0}<|And.intro @List.getElem?_toArray.{0}<|And.intro @List.getElem?_cons_succ.{0}<|And.intro @List.getElem?_cons_zero.{0}<|And.intro @Nat.zero_add<|And.intro @World.size_alloc<|And.intro @World.size_setCell<|And.intro @World.size_drew<|And.intro @putW_size<|And.intro @Bool.not_true<|And.intro @Bool.not_false<|And.intro @Bool.and_true<|And.intro @Bool.true_and<|And.intro @Bool.and_false<|And.intro @Bool.false_and<|And.intro @Bool.or_true<|And.intro @Bool.true_or<|And.intro @Bool.or_false<|And.intro @Bool.false_or <| @Bool.not_not
theorem SZ:type_of% (And.intro @World.size_alloc<|And.intro @World.size_setCell<|And.intro @World.size_drew<|And.intro @World.putObj_size <| @putW_size):=(And.intro @World.size_alloc<|And.intro @World.size_setCell<|And.intro @World.size_drew<|And.intro @World.putObj_size <| @putW_size)
theorem DI {p:Prop} (h:p:=by first | assumption | (simp only [ONE];done) | rfl | (simp only [SZ];done) | omega | (simp only [SZ] at *;omega)):p:=h
theorem ee {a b:Wd} (h:Ext a b:=by repeat' first | exact Ext.refl _ | assumption | apply Ext.alloc | apply Ext.wdrew | apply Ext.drew | (refine Ext.setCell ?_ (by first | omega | (simp only [SZ] at *;omega)) _) | (refine Ext.putObj ?_ (by first | omega | (simp only [SZ] at *;omega)) _) | (refine Ext.trans ?_ (by assumption))):Ext a b:=h
structure Z3 where
 field:BAr
 factor:Int
 deriving DecidableEq
structure W6 where
 low:Int
 high:Int
 of:BAr
 deriving DecidableEq
structure Zl where
 name:BAr
 kind:Int
 bits:Int
 little:Bool
 loose:Bool
 low:Int
 high:Int
 base:Int
 terms:List Z3
 of:BAr
 tag:BAr
 fr:BAr
 cases:List W6
 check:Int
 key:Int
 deriving DecidableEq
structure ZC where
 name:BAr
 fields:List Zl
 deriving DecidableEq
structure YQ where
 name:BAr
 msgs:List ZC
 start:BAr
 deriving DecidableEq
abbrev Ve (t:Z3):List Vl:=[.string t.field,.int .i64 t.factor]
abbrev W8 (c:W6):List Vl:=[.int .i64 c.low,.int .i64 c.high,.string c.of]
abbrev Zm (f:Zl) (tv cv:Vl):List Vl:=[.string f.name,.int .i64 f.kind,.int .i64 f.bits,.bool f.little,.bool f.loose,.int .i64 f.low,.int .i64 f.high,.int .i64 f.base,tv,.string f.of,.string f.tag,.string f.fr,cv,.int .i64 f.check,.int .i64 f.key]
abbrev Z8 (m:ZC) (fv:Vl):List Vl:=[.string m.name,fv]
abbrev Zz (d:YQ) (mv:Vl):List Vl:=[.string d.name,mv,.string d.start]
def zN (_:Wd) (cs:List Vl) (t:Z3):Prop:=cs=Ve t
def jO (_:Wd) (cs:List Vl) (c:W6):Prop:=cs=W8 c
def ZV (w:Wd) (v:Vl) (l:List Z3):Prop:=Zd w 2 zN v l
def Yc (w:Wd) (v:Vl) (l:List W6):Prop:=Zd w 3 jO v l
def Up (w:Wd) (cs:List Vl) (f:Zl):Prop:=∃ tv cv,cs=Zm f tv cv∧ZV w tv f.terms∧Yc w cv f.cases
def Yq (w:Wd) (v:Vl) (l:List Zl):Prop:=Zd w 15 Up v l
def GW (w:Wd) (cs:List Vl) (m:ZC):Prop:=∃ fv,cs=Z8 m fv∧Yq w fv m.fields
def Vi (w:Wd) (v:Vl) (l:List ZC):Prop:=Zd w 2 GW v l
def TR (_:Wd) (cs:List Vl) (b:UInt8):Prop:=cs=[.int .u8 b.toNat]
def En (_:Wd) (cs:List Vl) (b:Bool):Prop:=cs=[.bool b]
def zM (_:Wd) (cs:List Vl) (s:BAr):Prop:=cs=[.string s]
def Mp (_:Wd) (cs:List Vl) (n:Int):Prop:=cs=[.int .i64 n]
theorem Fc:BK zN:=λ _ _ _ _ _ h=>h
theorem Fb:BK jO:=λ _ _ _ _ _ h=>h
theorem Lk:BK zM:=λ _ _ _ _ _ h=>h
theorem Ti:BK Mp:=λ _ _ _ _ _ h=>h
theorem xL:BK Up:=λ _ _ _ _ e ⟨tv,cv,h,h1,h2⟩=>⟨tv,cv,h,h1.ext Fc e,h2.ext Fb e⟩
theorem Ds:BK GW:=λ _ _ _ _ e ⟨fv,h,h1⟩=>⟨fv,h,h1.ext xL e⟩
theorem ZV.ext {w w':Wd} {v:Vl} {l:List Z3} (h:ZV w v l) (e:Ext w w'):ZV w' v l:=Zd.ext Fc h e
theorem Yc.ext {w w':Wd} {v:Vl} {l:List W6} (h:Yc w v l) (e:Ext w w'):Yc w' v l:=Zd.ext Fb h e
theorem Yq.ext {w w':Wd} {v:Vl} {l:List Zl} (h:Yq w v l) (e:Ext w w'):Yq w' v l:=Zd.ext xL h e
theorem Vi.ext {w w':Wd} {v:Vl} {l:List ZC} (h:Vi w v l) (e:Ext w w'):Vi w' v l:=Zd.ext Ds h e
theorem Up.op {w:Wd} {cs:List Vl} {f:Zl} (h:Up w cs f):∃ tv cv,cs=Zm f tv cv∧ZV w tv f.terms∧Yc w cv f.cases∧tv.oneCell'=true∧cv.oneCell'=true:=by
 obtain ⟨tv,cv,h1,h2,h3⟩:=h;exact ⟨tv,cv,h1,h2,h3,Zd.oneCell h2,Zd.oneCell h3⟩
def Yh (w:Wd) (v:Vl) (f:Zl):Prop:=∃ tv cv,v = .agg (Zm f tv cv).toArray∧ZV w tv f.terms∧Yc w cv f.cases
def Qr (w:Wd) (v:Vl) (m:ZC):Prop:=∃ fv,v = .agg (Z8 m fv).toArray∧Yq w fv m.fields
def YT (w:Wd) (v:Vl) (d:YQ):Prop:=∃ mv,v = .agg (Zz d mv).toArray∧Vi w mv d.msgs
def KD (w:Wd) (v:Vl) (base:Int) (ts:List Z3):Prop:=∃ tv,v = .agg #[.int .i64 base,tv]∧ZV w tv ts
def Kc (t:Z3):Vl := .agg (Ve t).toArray
theorem Yh.ext {w w':Wd} {v:Vl} {f:Zl} (h:Yh w v f) (e:Ext w w'):Yh w' v f:=by obtain ⟨tv,cv,h,h1,h2⟩:=h;exact ⟨tv,cv,h,h1.ext e,h2.ext e⟩
theorem Yh.op {w:Wd} {v:Vl} {f:Zl} (h:Yh w v f):∃ tv cv,v = .agg (Zm f tv cv).toArray∧ZV w tv f.terms∧Yc w cv f.cases∧tv.oneCell'=true∧cv.oneCell'=true:=by
 obtain ⟨tv,cv,h1,h2,h3⟩:=h;exact ⟨tv,cv,h1,h2,h3,Zd.oneCell h2,Zd.oneCell h3⟩
theorem Qr.ext {w w':Wd} {v:Vl} {m:ZC} (h:Qr w v m) (e:Ext w w'):Qr w' v m:=by obtain ⟨fv,h,h1⟩:=h;exact ⟨fv,h,h1.ext e⟩
def jW {α:Type} (w0:Wd) (V:Wd→Vl→α→Prop) (g:FuncId) (caps:AVl) (p:α→Bool) (l:List α):Prop:=
 ∀ w v x,x∈l→Ext w0 w→V w v x→Ret Pg g (#[v]++caps) w λ r w'=>r = .bool (p x)∧Ext w w'
end Go.Proofs.YtfjjgjjlebllmaaGreat
namespace Go.Sw
section
variable {P:Program} {N:Nat} {ro:Option Nat} {QP:KP} {T:Env→LDf→Wd→Prop} {o:Oper} {rest:List Oper} {ρ:Env} {ds:LDf} {w:Wd}
theorem zm {v:Vl} (h:ZX P N ro QP T rest (put N ρ o.dst v) ds w) (hs:execOp (ev ρ) o=Sem.pure (.value v):=by exact rfl) (hd:XA o.op=false:=by exact rfl):ZX P N ro QP T (o::rest) ρ ds w:=Sq hd hs h
theorem zt {S:List Nat} {J G:Env→Wd→Prop} (hT:∀ ρ' w,Fr S ρ ρ'→J ρ' w→G ρ' w) {ρ':Env} {w:Wd} (h:J ρ' w) (hf:Fr S ρ ρ':=by repeat (first | exact Fr.refl _ _ | refine Fr.put rfl ?_ | refine Fr.put_none ?_ | refine Fr.mix rfl ?_ | refine Fr.skipAll rfl ?_)):G ρ' w:=hT ρ' w hf h
end
theorem zr {P:Program} {N:Nat} {ro:Option Nat} {id:Nat} {l:List Oper} {Q:K} {QP:KP} {ρ:Env} {ds:LDf} {w:Wd} (h:ZX P N ro QP (λ ρ ds w=>Q .normal ρ ds w) l ρ ds w) (hu:V3 l=true:=by exact rfl):den P N ro (.region id l.toArray false) Q QP ρ ds w:=IY hu h
theorem zn:type_of% @Mh := @Mh
theorem zk:type_of% @He := @He
theorem zs:type_of% @Mi := @Mi
end Go.Sw
namespace Go.Sw
open Go.RowKit (Below)
structure LW (B:Nat) (w w':Wd):Prop where
 os:w'.os=w.os
 tape:w'.tape=w.tape
 output:w'.output=w.output
 size:w.heap.size≤w'.heap.size
 block:∀ b,b < w.heap.size→w'.heap[b]?=w.heap[b]?∨(B≤b∧((∃ r,w.heap[b]?=some (.loop r))∨∃ d,w.heap[b]?=some (.deferred d)))
theorem LW.mono {B B':Nat} {w w':Wd} (h:LW B w w') (hb:B'≤B):LW B' w w':=⟨h.os,h.tape,h.output,h.size,λ b hl=>(h.block b hl).imp_right λ h=>⟨by omega,h.2⟩⟩
theorem LW.of {B:Nat} {w w':Wd} (e:Ext w w'):LW B w w':=⟨e.os,e.tape,e.output,e.size,λ b hb => .inl (e.block b hb)⟩
theorem LW.loop {B l:Nat} {w:Wd} {r:Loop} (hb:B≤l) (hl:w.heap[l]?=some (.loop r)) (o:Obj):LW B w (w.putObj l o):=⟨rfl,rfl,rfl,by simp,λ b _=>by
 by_cases e:b=l
 · exact .inr ⟨by omega,.inl ⟨r,by rw [e];exact hl⟩⟩
 · exact .inl (World.putObj_heap_other e)⟩
def Yo (B:Nat) (I:WPr):Prop:=∀ w w',LW B w w'→I w→I w'
theorem Yo.ext {B:Nat} {I:WPr} (h:Yo B I) {w w':Wd} (hI:I w) (e:Ext w w'):I w':=h _ _ (.of e) hI
theorem Yo.loop {B l:Nat} {I:WPr} (h:Yo B I) {w:Wd} {r:Loop} (hb:B≤l) (hI:I w) (hl:w.heap[l]?=some (.loop r)) (o:Obj):I (w.putObj l o):=h _ _ (.loop hb hl o) hI
theorem Yo.busied {B l:Nat} {I:WPr} {w w':Wd} (h:Yo B I) (hb:xr l w w') (hl:B≤l) (hI:I w):I w':=by
 obtain ⟨r,hr,rfl⟩:=hb
 exact h.loop hl hI hr _
theorem Yo.mono {B B':Nat} {I:WPr} (h:Yo B I) (hb:B≤B'):Yo B' I:=λ _ _ hl=>h _ _ (hl.mono hb)
theorem Yo.and {B:Nat} {I J:WPr} (h:Yo B I) (k:Yo B J):Yo B (λ w=>I w∧J w):=λ w w' hl hh=>⟨h _ _ hl hh.1,k _ _ hl hh.2⟩
theorem Yo.ex {B:Nat} {α:Sort _} {I:α→Wd→Prop} (h:∀ x,Yo B (I x)):Yo B (λ w=>∃ x,I x w):=λ w w' hl ⟨x,hx⟩=>⟨x,h x _ _ hl hx⟩
theorem Yo.const (B:Nat) (p:Prop):Yo B (λ _=>p):=λ _ _ _ h=>h
theorem Yo.from {B:Nat} {w0:Wd} (hb:w0.heap.size≤B):Yo B (Ext w0):=λ w w' hl e=>⟨hl.os.trans e.os,hl.tape.trans e.tape,hl.output.trans e.output,Nat.le_trans e.size hl.size,λ k hk=>by
 have:=e.size
 rcases hl.block k (by omega) with h | ⟨h,_⟩
 · rw [h];exact e.block k hk
 · omega⟩
theorem Yo.has (B:Nat) {b:Nat} {o:Obj} (h1:∀ r,o ≠ .loop r) (h2:∀ d,o ≠ .deferred d):Yo B (λ w=>w.heap[b]?=some o):=λ w w' hl h=>by
 rcases hl.block b (Array.getElem?_eq_some_iff.1 h).1 with e | ⟨_,⟨r,e⟩ | ⟨d,e⟩⟩
 · rw [e];exact h
 · rw [h] at e;injection e with e;exact absurd e (h1 r)
 · rw [h] at e;injection e with e;exact absurd e (h2 d)
theorem Yo.low {B b:Nat} (hb:b < B) (o:Obj):Yo B (λ w=>w.heap[b]?=some o):=λ w w' hl h=>by
 rcases hl.block b (Array.getElem?_eq_some_iff.1 h).1 with e | ⟨e,_⟩
 · rw [e];exact h
 · omega
def KR (B:Nat) (w w':Wd):Prop:=w.heap.size≤w'.heap.size∧(∀ (b:Nat) (r:Loop),w.heap[b]?=some (.loop r)→∃ st p,w'.heap[b]?=some (.loop { r with state:=st,pending:=p })) ∧
 (∀ (b:Nat),w.heap[b]?=some (.deferred (some []))→w'.heap[b]?=some (.deferred (some [])))∧∀ (b:Nat),B≤b→b < w.heap.size→(∀ r,w.heap[b]?≠some (.loop r))→w'.heap[b]?=w.heap[b]?
section
variable {B:Nat} {w w1 w2:Wd}
theorem KR.refl (B:Nat) (w:Wd):KR B w w:=⟨Nat.le_refl _,λ b r h=>⟨r.state,r.pending,h⟩,λ _ h=>h,λ _ _ _ _=>rfl⟩
theorem KR.of (e:Ext w w1):KR B w w1:=⟨e.size,λ b r h=>⟨r.state,r.pending,e.obj h⟩,λ _ h=>e.obj h,λ b _ hl _=>e.block b hl⟩
theorem KR.setCell (h:KR B w w1) (b o:Nat) (v:Vl) (hb:b < B∨w.heap.size≤b):KR B w (w1.setCell ⟨b,o,none⟩ v):=⟨by simpa using h.1,λ b r hb=>by
 obtain ⟨st,p,h1⟩:=h.2.1 b r hb
 exact ⟨st,p,(KeepsOthers.setCell w1 _ v).same _ _ h1 rfl⟩,λ b hb=>(KeepsOthers.setCell w1 _ v).same _ _ (h.2.2.1 b hb) rfl,λ b' hb' hl hr=>by
 rw [YM (by omega)];exact h.2.2.2 b' hb' hl hr⟩
theorem KR.turn {l:Nat} {r:Loop} (hl:w.heap[l]?=some (.loop r)) (st:LoopState) (p:Option Code):KR B w (w.putObj l (.loop { r with state:=st,pending:=p })):=⟨by simp,λ b r' hb=>by
 by_cases e:b=l
 · subst e
   rw [hl] at hb;injection hb with hb;injection hb with hb;subst hb
   exact ⟨st,p,World.putObj_heap_same (Array.getElem?_eq_some_iff.1 hl).1⟩
 · rw [World.putObj_heap_other e];exact ⟨r'.state,r'.pending,hb⟩,λ b hb=>by
 by_cases e:b=l
 · subst e;rw [hl] at hb;cases hb
 · rw [World.putObj_heap_other e];exact hb,λ b _ _ hr=>by
 by_cases e:b=l
 · subst e;exact absurd hl (hr _)
 · rw [World.putObj_heap_other e]⟩
theorem KR.busied {l:Nat} (h:xr l w w1):KR B w w1:=by
 obtain ⟨r,hr,rfl⟩:=h
 exact KR.turn hr .busy r.pending
end
def Jv (B:Nat) (R:WPr):Prop:=∀ w w',KR B w w'→R w→R w'
theorem Xc.firm (rec:Loop) (B b:Nat):Jv B (Xc rec b):=λ w w' h ⟨h1,st,p,h2⟩=>by
 obtain ⟨st',p',h3⟩:=h.2.1 _ _ h2
 exact ⟨h.2.2.1 _ h1,st',p',h3⟩
theorem Jv.and {B:Nat} {R S:WPr} (h:Jv B R) (k:Jv B S):Jv B (λ w=>R w∧S w):=λ w w' e hh=>⟨h _ _ e hh.1,k _ _ e hh.2⟩
theorem Jv.true {B:Nat}:Jv B (λ _=>True):=λ _ _ _ _=>trivial
theorem Jv.has {B b:Nat} {o:Obj} (hb:B≤b) (ho:∀ r,o ≠ .loop r):Jv B (λ w=>w.heap[b]?=some o):=λ w w' h k=>by
 show w'.heap[b]?=some o
 rw [h.2.2.2 b hb (Array.getElem?_eq_some_iff.1 k).1 (λ r e=>by rw [k] at e;injection e with e;exact ho r e)];exact k
theorem U3 {b want:Bool} {p q:Prop} (h1:b=true→Zn (.bool true) want p q) (h2:b=false→Zn (.bool false) want p q):Zn (.bool b) want p q:=by
 cases b
 · exact h2 rfl
 · exact h1 rfl
theorem W0 {b:Bool} {p q:Prop} (h1:b=true→p) (h2:b=false→q):Zq (.bool b) p q:=by
 cases b
 · exact h2 rfl
 · exact h1 rfl
section
variable {P:Program} {QP:PEn} {w:Wd} {k:KV}
theorem Bh (t:TypeId) (c:Bool) (kd:IntKind) (a b:Int) (hb:b≠0):opV P (ZI .quo t c (.int kd a) (.int kd b)) QP w k=k (.int kd (kd.wrap (a.tdiv b))) w:=Yi (by
 rw [Xe _ _ _ _ _ _ rfl]
 show Sem.run P (Op.intDiv .quo kd a b) w=_
 unfold Op.intDiv
 rw [if_neg hb];rfl)
end
section
variable {P:Program} {fn:Func} {R:RT} {ρ:Env} {w:Wd}
theorem BZ {t u:Tmp} {c:TypeId} {v:Vl} (hf:fn.results = #[.tmp t,.cell u c]) (tmps:AVl) (h:(do loadVar c (← asAddr (tmps.getD u undef)):Sem Vl).run P w = .ok v w):(results fn tmps).run P w = .ok (.tuple #[tmps.getD t undef,v]) w:=by
 rw [Sem.run_bind] at h
 simp [results,hf,Sem.run_bind]
 cases hr:(asAddr (tmps.getD u undef)).run P w with
 | ok a w'=>rw [← Array.getD_eq_getD_getElem?,hr];rw [hr] at h;simp [Result.andThen] at h ⊢;rw [h]
 | halt x w'=>rw [hr] at h;simp [Result.andThen] at h
theorem Hy {t u:Tmp} {c:TypeId} {a b:Vl} (hf:fn.results = #[.tmp t,.cell u c]) (h1:ρ t=a) (h2:ρ u=b) (h:qW P c b w λ v=>R (.returned (.tuple #[a,v])) w):U0 P fn R .ret ρ [] w:=by
 obtain ⟨v,hv,h⟩:=h
 exact ⟨rfl,λ tmps ht=>⟨_,BZ hf tmps (by rw [ht,h2];exact hv),by rw [ht,h1];exact h⟩⟩
end
end Go.Sw
namespace Go.Sw
section
variable {P:Program} {N:Nat} {ro:Option Nat} {QP:KP} {T:Env→LDf→Wd→Prop} {o:Oper} {rest:List Oper} {ρ:Env} {ds:LDf} {w:Wd} {ty:TypeId} {dst:Option Nat} {d:Nat} {pos:String} {after:Array Edge} {g:Option (Nat×Bool)} {QP':PEn} {k:KV}
theorem yv {s:Sem Vl} (h:opV P s QP' w k) (hk:∀ v w,k v w→ZX P N ro QP T rest (put N ρ o.dst v) ds w) (hs:execOp (ev ρ) o=(do pure (.value (← s))):=by exact rfl) (hd:XA o.op=false:=by exact rfl) (hp:∀ ch w,QP' ch w→QP ch ρ ds w:=by first | exact λ _ _ h=>⟨rfl,h⟩ | exact λ _ _ h=>Ql rfl h | exact λ _ _ h _ _=>⟨rfl,h⟩ | exact λ _ _ h=>WV rfl rfl h | exact λ _ _ h=>h):ZX P N ro QP T (o::rest) ρ ds w:=Gx h hd hs hp hk
theorem yu {s:Sem Unit} {k:WPr} (h:opU P s QP' w k) (hk:∀ w,k w→ZX P N ro QP T rest (put N ρ o.dst undef) ds w) (hs:execOp (ev ρ) o=(do s;pure .skip):=by exact rfl) (hd:XA o.op=false:=by exact rfl) (hp:∀ ch w,QP' ch w→QP ch ρ ds w:=by first | exact λ _ _ h=>⟨rfl,h⟩ | exact λ _ _ h=>Ql rfl h | exact λ _ _ h _ _=>⟨rfl,h⟩ | exact λ _ _ h=>WV rfl rfl h | exact λ _ _ h=>h):ZX P N ro QP T (o::rest) ρ ds w:=St h hd hs hp hk
theorem yN {s:Sem Next} (h:opN P s QP' w k) (hk:∀ v w,k v w→ZX P N ro QP T rest (put N ρ o.dst v) ds w) (hs:execOp (ev ρ) o=s:=by exact rfl) (hd:XA o.op=false:=by exact rfl) (hp:∀ ch w,QP' ch w→QP ch ρ ds w:=by first | exact λ _ _ h=>⟨rfl,h⟩ | exact λ _ _ h=>Ql rfl h | exact λ _ _ h _ _=>⟨rfl,h⟩ | exact λ _ _ h=>WV rfl rfl h | exact λ _ _ h=>h):ZX P N ro QP T (o::rest) ρ ds w:=Sr h hd hs hp hk
theorem yb {op:BinOp} {t:TypeId} {x y:Operand} {t2:TypeId} {c:Bool} {a b:Vl} (h:opV P (ZI op t c a b) QP' w k) (hk:∀ v w',k v w'→ZX P N ro QP T rest (put N ρ (some d) v) ds w') (hc:(U4 x||U4 y)=c:=by exact rfl) (h1:ev ρ x=a:=by exact rfl) (h2:ev ρ y=b:=by exact rfl) (hp:∀ ch w,QP' ch w→QP ch ρ ds w:=by first | exact λ _ _ h=>⟨rfl,h⟩ | exact λ _ _ h=>Ql rfl h | exact λ _ _ h _ _=>⟨rfl,h⟩ | exact λ _ _ h=>WV rfl rfl h | exact λ _ _ h=>h) :
 ZX P N ro QP T (⟨some d,.binOp op t x y t2,ty,pos,after,g⟩::rest) ρ ds w:=TI h hc h1 h2 hp hk
theorem yc {f:FuncId} {l:List Operand} {ats:Array TypeId} {args:List Vl} (h:Yt P f args.toArray QP' w k) (hf:Callable P f) (hk:∀ v w',k v w'→ZX P N ro QP T rest (put N ρ dst v) ds w') (h2:l.map (ev ρ)=args:=by exact rfl) (hp:∀ ch w,QP' ch w→QP ch ρ ds w:=by first | exact λ _ _ h=>⟨rfl,h⟩ | exact λ _ _ h=>Ql rfl h | exact λ _ _ h _ _=>⟨rfl,h⟩ | exact λ _ _ h=>WV rfl rfl h | exact λ _ _ h=>h) :
 ZX P N ro QP T (⟨dst,.call ⟨.value (.func f),l.toArray,ats⟩,ty,pos,after,g⟩::rest) ρ ds w:=Sl h hf h2 hp hk
theorem yV {fo:Operand} {l:List Operand} {ats:Array TypeId} {fv:Vl} {args:List Vl} (h:XB P fv args.toArray QP' w k) (hk:∀ v w',k v w'→ZX P N ro QP T rest (put N ρ dst v) ds w') (h1:ev ρ fo=fv:=by exact rfl) (h2:l.map (ev ρ)=args:=by exact rfl) (hp:∀ ch w,QP' ch w→QP ch ρ ds w:=by first | exact λ _ _ h=>⟨rfl,h⟩ | exact λ _ _ h=>Ql rfl h | exact λ _ _ h _ _=>⟨rfl,h⟩ | exact λ _ _ h=>WV rfl rfl h | exact λ _ _ h=>h) :
 ZX P N ro QP T (⟨dst,.call ⟨.value fo,l.toArray,ats⟩,ty,pos,after,g⟩::rest) ρ ds w:=CR h h1 h2 hp hk
theorem yx {b:Builtin} {l:List Operand} {ats:Array TypeId} {s:Sem Vl} (h:opV P s QP' w k) (hk:∀ v w',k v w'→ZX P N ro QP T rest (put N ρ (some d) v) ds w') (hs:builtin b ats ty ((l.map λ | .const _=>true | _=>false).toArray) (l.map (ev ρ)).toArray=(do pure (.value (← s))):=by exact rfl) (hp:∀ ch w,QP' ch w→QP ch ρ ds w:=by first | exact λ _ _ h=>⟨rfl,h⟩ | exact λ _ _ h=>Ql rfl h | exact λ _ _ h _ _=>⟨rfl,h⟩ | exact λ _ _ h=>WV rfl rfl h | exact λ _ _ h=>h) :
 ZX P N ro QP T (⟨some d,.call ⟨.builtin b,l.toArray,ats⟩,ty,pos,after,g⟩::rest) ρ ds w:=Hc h hs hp hk
theorem yB {t:TypeId} {ps:List (Nat×Operand)} {vs:List (Nat×Vl)} (h:opV P (Instr.build t vs.toArray) QP' w k) (hk:∀ v w',k v w'→ZX P N ro QP T rest (put N ρ (some d) v) ds w') (h2:(ps.map λ (i,x)=>(i,ev ρ x))=vs:=by exact rfl) (hp:∀ ch w,QP' ch w→QP ch ρ ds w:=by first | exact λ _ _ h=>⟨rfl,h⟩ | exact λ _ _ h=>Ql rfl h | exact λ _ _ h _ _=>⟨rfl,h⟩ | exact λ _ _ h=>WV rfl rfl h | exact λ _ _ h=>h) :
 ZX P N ro QP T (⟨some d,.build t ps.toArray,ty,pos,after,g⟩::rest) ρ ds w:=Nj h h2 hp hk
theorem yS {t:TypeId} {n:Nat} {ps:List (Nat×Operand)} {vs:List (Nat×Vl)} (h:opV P (buildSlice t n vs.toArray) QP' w k) (hk:∀ v w',k v w'→ZX P N ro QP T rest (put N ρ (some d) v) ds w') (h2:(ps.map λ (i,x)=>(i,ev ρ x))=vs:=by exact rfl) (hp:∀ ch w,QP' ch w→QP ch ρ ds w:=by first | exact λ _ _ h=>⟨rfl,h⟩ | exact λ _ _ h=>Ql rfl h | exact λ _ _ h _ _=>⟨rfl,h⟩ | exact λ _ _ h=>WV rfl rfl h | exact λ _ _ h=>h) :
 ZX P N ro QP T (⟨some d,.buildSlice t n ps.toArray,ty,pos,after,g⟩::rest) ρ ds w:=By h h2 hp hk
theorem yF {fn:Fn} {fs cs:List Operand} {vf vs:List Vl} (h:opV P (makeFunc fn vf.toArray vs.toArray) QP' w k) (hk:∀ v w',k v w'→ZX P N ro QP T rest (put N ρ (some d) v) ds w') (h1:fs.map (ev ρ)=vf:=by exact rfl) (h2:cs.map (ev ρ)=vs:=by exact rfl) (hp:∀ ch w,QP' ch w→QP ch ρ ds w:=by first | exact λ _ _ h=>⟨rfl,h⟩ | exact λ _ _ h=>Ql rfl h | exact λ _ _ h _ _=>⟨rfl,h⟩ | exact λ _ _ h=>WV rfl rfl h | exact λ _ _ h=>h) :
 ZX P N ro QP T (⟨some d,.makeFunc fn fs.toArray cs.toArray,ty,pos,after,g⟩::rest) ρ ds w:=Eh h h1 h2 hp hk
theorem yp {c a b:Operand} {vc va vb:Vl} {k:Vl→Prop} (h:Zw vc va vb k) (hk:∀ v,k v→ZX P N ro QP T rest (put N ρ (some d) v) ds w) (h1:ev ρ c=vc:=by exact rfl) (h2:ev ρ a=va:=by exact rfl) (h3:ev ρ b=vb:=by exact rfl):ZX P N ro QP T (⟨some d,.pick c a b,ty,pos,after,g⟩::rest) ρ ds w:=Ss h h1 h2 h3 hk
theorem yt {S:List Nat} {J G:Env→Wd→Prop} {C:WPr} (hT:∀ ρ' w,Fr S ρ ρ'→C w→J ρ' w→G ρ' w) {ρ':Env} {w:Wd} (hC:C w) (h:J ρ' w) (hf:Fr S ρ ρ':=by repeat (first | exact Fr.refl _ _ | refine Fr.put rfl ?_ | refine Fr.put_none ?_ | refine Fr.mix rfl ?_ | refine Fr.skipAll rfl ?_)):G ρ' w:=hT ρ' w hf hC h
end
section
variable {P:Program} {N:Nat} {ro:Option Nat} {ops:Array Oper} {Q:Env→LDf→Wd→Prop} {QP0:List PanicEntry→LDf→Wd→Prop} {QP:KP} {C:WPr} {fuel:Nat} {done:List Nat} {o:Oper} {ρ:Env} {ds:LDf} {w:Wd}
theorem ye (i:Nat) {k:Vl→Prop} (hC:C w) {s:Sem Vl} (h:qV P C s k) (hk:∀ v,k v→XP P N ro ops Q (λ ch _ ds w=>QP0 ch ds w) C fuel (i::done) (put N ρ o.dst v) ds w) (hi:ops[i]?=some o:=by exact rfl) (hr:(YV ops done).contains i=true:=by kernel_rfl) (hf:ym ops done i=true:=by kernel_rfl) (hg:∀ p q,Xf ops o ρ p q=p:=by first | exact λ _ _=>rfl | exact λ _ _=>Xd (by assumption)) (hd:XA o.op=false:=by exact rfl) (hs:∀ v,(∀ w,C w→s.run P w = .ok v w)→∀ w,C w→(execOp (ev ρ) o).run P w = .ok (.value v) w:=by first | exact λ _ h=>Bn rfl h | exact λ _ h=>Zcn rfl rfl rfl h | exact λ _ h=>IA rfl h | exact λ _ h=>Sa rfl h | exact λ _ h=>FR rfl rfl h) :
 XP P N ro ops Q (λ ch _ ds w=>QP0 ch ds w) C (fuel+1) done ρ ds w:=let ⟨v,hv,hkv⟩:=h;Ka i hC hi hr hf hg hd (hs v hv) (hk v hkv)
theorem yn (i:Nat) {k:Vl→Prop} (hC:C w) {s:Sem Next} (h:qN P C s k) (hk:∀ v,k v→XP P N ro ops Q (λ ch _ ds w=>QP0 ch ds w) C fuel (i::done) (put N ρ o.dst v) ds w) (hi:ops[i]?=some o:=by exact rfl) (hr:(YV ops done).contains i=true:=by kernel_rfl) (hf:ym ops done i=true:=by kernel_rfl) (hg:∀ p q,Xf ops o ρ p q=p:=by first | exact λ _ _=>rfl | exact λ _ _=>Xd (by assumption)) (hd:XA o.op=false:=by exact rfl) (hs:execOp (ev ρ) o=s:=by exact rfl) :
 XP P N ro ops Q (λ ch _ ds w=>QP0 ch ds w) C (fuel+1) done ρ ds w:=let ⟨v,hv,hkv⟩:=h;Ka i hC hi hr hf hg hd (Zcm hs hv) (hk v hkv)
theorem yw (i:Nat) {v:Vl} (hC:C w) (h:XP P N ro ops Q (λ ch _ ds w=>QP0 ch ds w) C fuel (i::done) (put N ρ o.dst v) ds w) (hi:ops[i]?=some o:=by exact rfl) (hr:(YV ops done).contains i=true:=by kernel_rfl) (hf:ym ops done i=true:=by kernel_rfl) (hg:∀ p q,Xf ops o ρ p q=p:=by first | exact λ _ _=>rfl | exact λ _ _=>Xd (by assumption)) (hd:XA o.op=false:=by exact rfl) (hs:execOp (ev ρ) o=Sem.pure (.value v):=by exact rfl) :
 XP P N ro ops Q (λ ch _ ds w=>QP0 ch ds w) C (fuel+1) done ρ ds w:=Ka i hC hi hr hf hg hd (Oy hs) h
theorem yi (i:Nat) (hC:C w) (h:XP P N ro ops Q (λ ch _ ds w=>QP0 ch ds w) C fuel (i::done) (put N ρ o.dst undef) ds w) (hi:ops[i]?=some o:=by exact rfl) (hr:(YV ops done).contains i=true:=by kernel_rfl) (hf:ym ops done i=true:=by kernel_rfl) (hg:∀ p q,Xf ops o ρ p q=q:=by exact λ _ _=>Ww (by assumption)) :
 XP P N ro ops Q (λ ch _ ds w=>QP0 ch ds w) C (fuel+1) done ρ ds w:=Nn i hC hi hr hf hg h
theorem yP (i:Nat) {c a b:Operand} {d:Nat} {ty:TypeId} {pos:String} {after:Array Edge} {g:Option (Nat×Bool)} {vc va vb:Vl} {k:Vl→Prop} (hC:C w) (h:Zw vc va vb k) (hk:∀ v,k v→XP P N ro ops Q (λ ch _ ds w=>QP0 ch ds w) C fuel (i::done) (put N ρ (some d) v) ds w) (hi:ops[i]?=some ⟨some d,.pick c a b,ty,pos,after,g⟩:=by exact rfl) (hr:(YV ops done).contains i=true:=by kernel_rfl) (hf:ym ops done i=true:=by kernel_rfl) (hg:∀ p q,Xf ops ⟨some d,.pick c a b,ty,pos,after,g⟩ ρ p q=p:=by first | exact λ _ _=>rfl | exact λ _ _=>Xd (by assumption)) (h1:ev ρ c=vc:=by exact rfl) (h2:ev ρ a=va:=by exact rfl) (h3:ev ρ b=vb:=by exact rfl) :
 XP P N ro ops Q (λ ch _ ds w=>QP0 ch ds w) C (fuel+1) done ρ ds w:=by
 obtain ⟨t,ht,h⟩:=Iy h
 exact Ka i hC hi hr hf hg rfl (R7 (h1.trans ht) h2 h3) (hk _ h)
theorem yo (i:Nat) (h:ZX P N ro QP (λ ρ ds w=>C w∧XP P N ro ops Q QP C fuel (i::done) ρ ds w) [o] ρ ds w) (hi:ops[i]?=some o:=by exact rfl) (hr:YV ops done=[i]:=by kernel_rfl) (hg:∀ p q,Xf ops o ρ p q=p:=by first | exact λ _ _=>rfl | exact λ _ _=>Xd (by assumption)):XP P N ro ops Q QP C (fuel+1) done ρ ds w:=Nm i hi hr hg h
theorem yr (i:Nat) (h:ZX P N ro QP (λ ρ ds w=>∃ C':Wd→Prop,(∀ x,C' x→C x)∧C' w∧XP P N ro ops Q QP C' fuel (i::done) ρ ds w) [o] ρ ds w) (hi:ops[i]?=some o:=by exact rfl) (hr:YV ops done=[i]:=by kernel_rfl) (hg:∀ p q,Xf ops o ρ p q=p:=by first | exact λ _ _=>rfl | exact λ _ _=>Xd (by assumption)):XP P N ro ops Q QP C (fuel+1) done ρ ds w:=Hd i hi hr hg h
theorem yq (i n:Nat) (h:ZX P N ro QP (λ ρ ds w=>∃ C':Wd→Prop,C' w∧XP P N ro ops Q QP C' fuel (i::done) ρ ds w) [o] ρ ds w) (hi:ops[i]?=some o:=by exact rfl) (hr:YV ops done=[i]:=by kernel_rfl) (hm:UB ops n done i=true:=by kernel_rfl) (hg:∀ p q,Xf ops o ρ p q=p:=by first | exact λ _ _=>rfl | exact λ _ _=>Xd (by assumption)):XP P N ro ops Q QP C (fuel+1) done ρ ds w:=No i n hi hr hm hg h
theorem yz (h:Q ρ ds w) (hr:YV ops done=[]:=by kernel_rfl):XP P N ro ops Q QP C fuel done ρ ds w:=Sn hr h
theorem yh (S:List Nat) {id:Nat} {l:List Oper} {Q:K} {f:(Wd→Prop)→Wd→Prop} (h:Yy w f) (hk:∀ C:Wd→Prop,C (drew w)→f C (drew w)→XP P N ro l.toArray (Q .normal) (λ ch _ ds w=>∀ ρ',Fr S ρ ρ'→QP ch ρ' ds w) C l.length [] ρ ds (drew w)) (hm:P.follows .mixedOrders=true:=by kernel_rfl) (hS:l.all (λ o=>match o.dst with | some d=>S.contains d | none=>true)=true:=by kernel_rfl):den P N ro (.region id l.toArray true) Q QP ρ ds w:=let ⟨C,hC,hf⟩:=h;So S hm hS C (hk C hC hf)
theorem yj1 (fuel':Nat) (done' S:List Nat) (x0:Nat) {K0:KV} {A B:(Vl→Wd→Prop)→Prop} {v:Vl} {want:Bool} (h:Zr K0 λ K=>Zn v want (A K) (B K))
 (h1:∀ K:Vl→Wd→Prop,(∀ ρ' w,Fr S ρ ρ'→C w→K (ρ' x0) w→XP P N ro ops Q QP C fuel' done' ρ' ds w)→XH v=some want→A K→XP P N ro ops Q QP C fuel done ρ ds w) (h2:∀ K:Vl→Wd→Prop,(∀ ρ' w,Fr S ρ ρ'→C w→K (ρ' x0) w→XP P N ro ops Q QP C fuel' done' ρ' ds w)→XH v≠some want→B K→XP P N ro ops Q QP C fuel done ρ ds w)
 (hJ:∀ σ w,C w→K0 (σ x0) w→XP P N ro ops Q QP C fuel' done' (mix S ρ σ) ds w):XP P N ro ops Q QP C fuel done ρ ds w:=
 Nl fuel' done' S (λ ρ w=>K0 (ρ x0) w) (λ _ hT=>(Dq h).elim (λ h=>h1 K0 hT h.1 h.2) (λ h=>h2 K0 hT h.1 h.2)) hJ
end
section
variable {P:Program} {N:Nat} {ro:Option Nat} {c:Code} {Q:K} {QP:KP} {ρ:Env} {ds:LDf} {w:Wd}
theorem yl1 (W:List Nat) (x0:Nat) {body:Vl→Wd→(Vl→Wd→Prop)→Prop} {a0:Vl} (h:YS body a0 w) (hr:∀ σ w (k:KV),body (σ x0) w k→den P N ro c (Q1 (λ ρ' ds' w'=>ds'=ds∧k (ρ' x0) w') Q) QP (mix W ρ σ) ds w) (hW:((XM c).all (W.contains ·)&&W.all ((XM c).contains ·))=true:=by kernel_rfl) (h0:ρ x0=a0:=by exact rfl):den P N ro (.loop c) Q QP ρ ds w:=by
 obtain ⟨I,μ,hi,hb⟩:=h
 subst h0
 exact Bz W hW (λ ρ w=>I (ρ x0) w) (λ ρ w=>μ (ρ x0) w) hi λ σ w hI=>hr σ w _ (hb _ _ hI)
theorem yL1 (W:List Nat) (x0:Nat) {body:LDf→Vl→Wd→(LDf→Vl→Wd→Prop)→Prop} {a0:Vl} (h:HP body ds a0 w) (hr:∀ σ ds w (k:LDf→Vl→Wd→Prop),body ds (σ x0) w k→den P N ro c (Q1 (λ ρ' ds' w'=>k ds' (ρ' x0) w') Q) QP (mix W ρ σ) ds w) (hW:((XM c).all (W.contains ·)&&W.all ((XM c).contains ·))=true:=by kernel_rfl) (h0:ρ x0=a0:=by exact rfl):den P N ro (.loop c) Q QP ρ ds w:=by
 obtain ⟨I,μ,hi,hb⟩:=h
 subst h0
 exact Nr W hW (λ ρ ds w=>I ds (ρ x0) w) (λ ρ w=>μ (ρ x0) w) hi λ σ ds w hI=>hr σ ds w _ (hb _ _ _ hI)
theorem yl2 (W:List Nat) (x0 x1:Nat) {body:Vl→Vl→Wd→(Vl→Vl→Wd→Prop)→Prop} {a0 a1:Vl} (h:Qi body a0 a1 w) (hr:∀ σ w (k:KW),body (σ x0) (σ x1) w k→den P N ro c (Q1 (λ ρ' ds' w'=>ds'=ds∧k (ρ' x0) (ρ' x1) w') Q) QP (mix W ρ σ) ds w) (hW:((XM c).all (W.contains ·)&&W.all ((XM c).contains ·))=true:=by kernel_rfl) (h0:ρ x0=a0:=by exact rfl) (h1:ρ x1=a1:=by exact rfl):den P N ro (.loop c) Q QP ρ ds w:=by
 obtain ⟨I,μ,hi,hb⟩:=h
 subst h0 h1
 exact Bz W hW (λ ρ w=>I (ρ x0) (ρ x1) w) (λ ρ w=>μ (ρ x0) (ρ x1) w) hi λ σ w hI=>hr σ w _ (hb _ _ _ hI)
theorem yl3 (W:List Nat) (x0 x1 x2:Nat) {body:Vl→Vl→Vl→Wd→(Vl→Vl→Vl→Wd→Prop)→Prop} {a0 a1 a2:Vl} (h:Fk body a0 a1 a2 w) (hr:∀ σ w (k:Vl→Vl→Vl→Wd→Prop),body (σ x0) (σ x1) (σ x2) w k→den P N ro c (Q1 (λ ρ' ds' w'=>ds'=ds∧k (ρ' x0) (ρ' x1) (ρ' x2) w') Q) QP (mix W ρ σ) ds w) (hW:((XM c).all (W.contains ·)&&W.all ((XM c).contains ·))=true:=by kernel_rfl) (h0:ρ x0=a0:=by exact rfl) (h1:ρ x1=a1:=by exact rfl) (h2:ρ x2=a2:=by exact rfl):den P N ro (.loop c) Q QP ρ ds w:=by
 obtain ⟨I,μ,hi,hb⟩:=h
 subst h0 h1 h2
 exact Bz W hW (λ ρ w=>I (ρ x0) (ρ x1) (ρ x2) w) (λ ρ w=>μ (ρ x0) (ρ x1) (ρ x2) w) hi λ σ w hI=>hr σ w _ (hb _ _ _ _ hI)
theorem yJ0 (S:List Nat) {K0:WPr} {f:(Wd→Prop)→Prop} (h:Zr K0 f) (hc:∀ (K:WPr) (k':Env→LDf→Wd→Prop),(∀ ρ' w,Fr S ρ ρ'→K w→k' ρ' ds w)→f K→den P N ro c (Q1 k' Q) QP ρ ds w) (hJ:∀ σ w,K0 w→Q .normal (mix S ρ σ) ds w):den P N ro c Q QP ρ ds w:=
 CS S (λ ρ w=>K0 w) (λ k' hk=>hc K0 k' hk h) hJ
theorem yJ1 (S:List Nat) (x0:Nat) {K0:KV} {f:(Vl→Wd→Prop)→Prop} (h:Zr K0 f) (hc:∀ (K:KV) (k':Env→LDf→Wd→Prop),(∀ ρ' w,Fr S ρ ρ'→K (ρ' x0) w→k' ρ' ds w)→f K→den P N ro c (Q1 k' Q) QP ρ ds w) (hJ:∀ σ w,K0 (σ x0) w→Q .normal (mix S ρ σ) ds w):den P N ro c Q QP ρ ds w:=
 CS S (λ ρ w=>K0 (ρ x0) w) (λ k' hk=>hc K0 k' hk h) hJ
theorem yC {x:Operand} {A B:Code} {v:Vl} {p q:Prop} (h:Zq v p q) (hp:p→den P N ro A Q QP ρ ds w) (hq:q→den P N ro B Q QP ρ ds w) (hv:ev ρ x=v:=by exact rfl):den P N ro (.cond x A B) Q QP ρ ds w:=Sm h hv hp hq
theorem yG (n:Nat) {ops:Array Oper} {l:List Oper} (h:ZX P N ro QP (λ ρ ds w=>Yp P N ro ops Q QP (l.drop n) none ρ ds w) (l.take n) ρ ds w) (hu:V3 (l.take n)=true:=by exact rfl):Yp P N ro ops Q QP l none ρ ds w:=TJ n hu h
theorem yg1 (n j:Nat) (want:Bool) (S:List Nat) (x0:Nat) {ops:Array Oper} {l:List Oper} {K0:KV} {A:(Vl→Wd→Prop)→Prop} {v:Vl} {u0:Vl} (h:Zr K0 λ K=>Zn v want (A K) (K u0 w))
 (hc:∀ (K:KV) (T:Env→LDf→Wd→Prop),(∀ ρ' w,Fr S ρ ρ'→K (ρ' x0) w→T ρ' ds w)→A K→ZX P N ro QP T (l.take n) ρ ds w) (hJ:∀ σ w,K0 (σ x0) w→Yp P N ro ops Q QP (l.drop n) none (mix S ρ σ) ds w) (hok:EP ops j want (l.take n) (l.drop n)=true:=by exact rfl) (hv:QB ops ρ j=v:=by exact rfl) (hf:Fr S ρ (skipAll N (l.take n) ρ):=by exact Fr.skipAll rfl (Fr.refl _ _)) (hu0:skipAll N (l.take n) ρ x0=u0:=by exact rfl):Yp P N ro ops Q QP l none ρ ds w:=by
 subst hu0;exact IV n j want S (λ ρ w=>K0 (ρ x0) w) hok hv (λ T hT=>U2 h (hc K0 T hT) λ h=>hT _ _ hf h) hJ
end
section
variable {P:Program} {f:FuncId} {fn:Func} {c:Code} {args:List Vl} {w:Wd} {R:RT}
theorem yD (hf:P.funcs[f]?=some fn) (h:den P fn.ntmps none c (U0 P fn R) (xy R) (Ae args) [] w) (hb:fn.body=some c:=by exact rfl) (hn:args.length≤fn.ntmps:=by exact Nat.le_of_ble_eq_true rfl):Calls P f args.toArray w R:=Dh hf hb hn h
theorem yE (hf:P.funcs[f]?=some fn) (h:den P fn.ntmps none c (j0 P fn R) (jF P fn R) (Ae args) [] w) (hb:fn.body=some c:=by exact rfl) (hn:args.length≤fn.ntmps:=by exact Nat.le_of_ble_eq_true rfl):Calls P f args.toArray w R:=BN hf hb hn h
end
end Go.Sw
namespace Go.Proofs.YtfjjgjjlebllmaaGreat
open Sw
theorem c3:Sw.Callable Pg 3:=⟨_,func3,by kernel_rfl,rfl⟩
theorem c4:Sw.Callable Pg 4:=⟨_,func4,by kernel_rfl,rfl⟩
theorem c5:Sw.Callable Pg 5:=⟨_,func5,by kernel_rfl,rfl⟩
theorem c6:Sw.Callable Pg 6:=⟨_,func6,by kernel_rfl,rfl⟩
theorem c7:Sw.Callable Pg 7:=⟨_,func7,by kernel_rfl,rfl⟩
theorem c8:Sw.Callable Pg 8:=⟨_,func8,by kernel_rfl,rfl⟩
theorem c9:Sw.Callable Pg 9:=⟨_,func9,by kernel_rfl,rfl⟩
theorem c10:Sw.Callable Pg 10:=⟨_,func10,by kernel_rfl,rfl⟩
theorem c11:Sw.Callable Pg 11:=⟨_,func11,by kernel_rfl,rfl⟩
theorem c12:Sw.Callable Pg 12:=⟨_,func12,by kernel_rfl,rfl⟩
theorem c13:Sw.Callable Pg 13:=⟨_,func13,by kernel_rfl,rfl⟩
theorem c14:Sw.Callable Pg 14:=⟨_,func14,by kernel_rfl,rfl⟩
theorem c20:Sw.Callable Pg 20:=⟨_,func20,by kernel_rfl,rfl⟩
theorem c22:Sw.Callable Pg 22:=⟨_,func22,by kernel_rfl,rfl⟩
theorem c23:Sw.Callable Pg 23:=⟨_,func23,by kernel_rfl,rfl⟩
theorem c28:Sw.Callable Pg 28:=⟨_,func28,by kernel_rfl,rfl⟩
theorem c29:Sw.Callable Pg 29:=⟨_,func29,by kernel_rfl,rfl⟩
theorem c31:Sw.Callable Pg 31:=⟨_,func31,by kernel_rfl,rfl⟩
theorem c32:Sw.Callable Pg 32:=⟨_,func32,by kernel_rfl,rfl⟩
theorem c33:Sw.Callable Pg 33:=⟨_,func33,by kernel_rfl,rfl⟩
theorem c34:Sw.Callable Pg 34:=⟨_,func34,by kernel_rfl,rfl⟩
theorem c35:Sw.Callable Pg 35:=⟨_,func35,by kernel_rfl,rfl⟩
theorem c36:Sw.Callable Pg 36:=⟨_,func36,by kernel_rfl,rfl⟩
theorem c37:Sw.Callable Pg 37:=⟨_,func37,by kernel_rfl,rfl⟩
theorem c45:Sw.Callable Pg 45:=⟨_,func45,by kernel_rfl,rfl⟩
theorem c47:Sw.Callable Pg 47:=⟨_,func47,by kernel_rfl,rfl⟩
theorem c49:Sw.Callable Pg 49:=⟨_,func49,by kernel_rfl,rfl⟩
theorem c51:Sw.Callable Pg 51:=⟨_,func51,by kernel_rfl,rfl⟩
theorem c52:Sw.Callable Pg 52:=⟨_,func52,by kernel_rfl,rfl⟩
theorem c53:Sw.Callable Pg 53:=⟨_,func53,by kernel_rfl,rfl⟩
theorem c54:Sw.Callable Pg 54:=⟨_,func54,by kernel_rfl,rfl⟩
theorem c55:Sw.Callable Pg 55:=⟨_,func55,by kernel_rfl,rfl⟩
theorem c56:Sw.Callable Pg 56:=⟨_,func56,by kernel_rfl,rfl⟩
theorem c58:Sw.Callable Pg 58:=⟨_,func58,by kernel_rfl,rfl⟩
theorem c59:Sw.Callable Pg 59:=⟨_,func59,by kernel_rfl,rfl⟩
theorem c60:Sw.Callable Pg 60:=⟨_,func60,by kernel_rfl,rfl⟩
theorem c61:Sw.Callable Pg 61:=⟨_,func61,by kernel_rfl,rfl⟩
theorem c62:Sw.Callable Pg 62:=⟨_,func62,by kernel_rfl,rfl⟩
theorem c66:Sw.Callable Pg 66:=⟨_,func66,by kernel_rfl,rfl⟩
theorem c67:Sw.Callable Pg 67:=⟨_,func67,by kernel_rfl,rfl⟩
theorem c68:Sw.Callable Pg 68:=⟨_,func68,by kernel_rfl,rfl⟩
theorem c69:Sw.Callable Pg 69:=⟨_,func69,by kernel_rfl,rfl⟩
theorem c70:Sw.Callable Pg 70:=⟨_,func70,by kernel_rfl,rfl⟩
theorem c71:Sw.Callable Pg 71:=⟨_,func71,by kernel_rfl,rfl⟩
theorem c72:Sw.Callable Pg 72:=⟨_,func72,by kernel_rfl,rfl⟩
theorem c73:Sw.Callable Pg 73:=⟨_,func73,by kernel_rfl,rfl⟩
theorem c74:Sw.Callable Pg 74:=⟨_,func74,by kernel_rfl,rfl⟩
theorem c75:Sw.Callable Pg 75:=⟨_,func75,by kernel_rfl,rfl⟩
theorem c76:Sw.Callable Pg 76:=⟨_,func76,by kernel_rfl,rfl⟩
theorem c77:Sw.Callable Pg 77:=⟨_,func77,by kernel_rfl,rfl⟩
theorem c78:Sw.Callable Pg 78:=⟨_,func78,by kernel_rfl,rfl⟩
theorem c79:Sw.Callable Pg 79:=⟨_,func79,by kernel_rfl,rfl⟩
theorem c80:Sw.Callable Pg 80:=⟨_,func80,by kernel_rfl,rfl⟩
theorem c82:Sw.Callable Pg 82:=⟨_,func82,by kernel_rfl,rfl⟩
theorem c83:Sw.Callable Pg 83:=⟨_,func83,by kernel_rfl,rfl⟩
theorem c87:Sw.Callable Pg 87:=⟨_,func87,by kernel_rfl,rfl⟩
theorem c88:Sw.Callable Pg 88:=⟨_,func88,by kernel_rfl,rfl⟩
theorem c89:Sw.Callable Pg 89:=⟨_,func89,by kernel_rfl,rfl⟩
theorem c90:Sw.Callable Pg 90:=⟨_,func90,by kernel_rfl,rfl⟩
theorem c93:Sw.Callable Pg 93:=⟨_,func93,by kernel_rfl,rfl⟩
theorem c94:Sw.Callable Pg 94:=⟨_,func94,by kernel_rfl,rfl⟩
theorem c95:Sw.Callable Pg 95:=⟨_,func95,by kernel_rfl,rfl⟩
theorem c96:Sw.Callable Pg 96:=⟨_,func96,by kernel_rfl,rfl⟩
theorem c97:Sw.Callable Pg 97:=⟨_,func97,by kernel_rfl,rfl⟩
theorem c98:Sw.Callable Pg 98:=⟨_,func98,by kernel_rfl,rfl⟩
theorem c99:Sw.Callable Pg 99:=⟨_,func99,by kernel_rfl,rfl⟩
theorem ZgB:Sw.Callable Pg 100:=⟨_,func100,by kernel_rfl,rfl⟩
theorem Ew:Sw.Callable Pg 101:=⟨_,func101,by kernel_rfl,rfl⟩
theorem Ex:Sw.Callable Pg 102:=⟨_,func102,by kernel_rfl,rfl⟩
theorem ZgC:Sw.Callable Pg 103:=⟨_,func103,by kernel_rfl,rfl⟩
theorem ZgD:Sw.Callable Pg 104:=⟨_,func104,by kernel_rfl,rfl⟩
theorem ZgE:Sw.Callable Pg 105:=⟨_,func105,by kernel_rfl,rfl⟩
theorem ZcN:Sw.Callable Pg 106:=⟨_,func106,by kernel_rfl,rfl⟩
theorem ZgF:Sw.Callable Pg 107:=⟨_,func107,by kernel_rfl,rfl⟩
theorem ZcO:Sw.Callable Pg 108:=⟨_,func108,by kernel_rfl,rfl⟩
theorem ZcP:Sw.Callable Pg 109:=⟨_,func109,by kernel_rfl,rfl⟩
theorem ZgG:Sw.Callable Pg 113:=⟨_,func113,by kernel_rfl,rfl⟩
theorem ZgH:Sw.Callable Pg 114:=⟨_,func114,by kernel_rfl,rfl⟩
theorem ZcQ:Sw.Callable Pg 117:=⟨_,func117,by kernel_rfl,rfl⟩
theorem ZgI:Sw.Callable Pg 118:=⟨_,func118,by kernel_rfl,rfl⟩
theorem ZgJ:Sw.Callable Pg 119:=⟨_,func119,by kernel_rfl,rfl⟩
theorem ZgK:Sw.Callable Pg 120:=⟨_,func120,by kernel_rfl,rfl⟩
theorem ZcR:Sw.Callable Pg 121:=⟨_,func121,by kernel_rfl,rfl⟩
theorem UZ:Sw.Callable Pg 122:=⟨_,func122,by kernel_rfl,rfl⟩
theorem SO:Sw.Callable Pg 123:=⟨_,func123,by kernel_rfl,rfl⟩
theorem ZgL:Sw.Callable Pg 124:=⟨_,func124,by kernel_rfl,rfl⟩
theorem ZgM:Sw.Callable Pg 125:=⟨_,func125,by kernel_rfl,rfl⟩
theorem ZgN:Sw.Callable Pg 126:=⟨_,func126,by kernel_rfl,rfl⟩
theorem ZcS:Sw.Callable Pg 127:=⟨_,func127,by kernel_rfl,rfl⟩
theorem ZgO:Sw.Callable Pg 128:=⟨_,func128,by kernel_rfl,rfl⟩
theorem ZgP:Sw.Callable Pg 129:=⟨_,func129,by kernel_rfl,rfl⟩
theorem ZcT:Sw.Callable Pg 130:=⟨_,func130,by kernel_rfl,rfl⟩
theorem ZgQ:Sw.Callable Pg 131:=⟨_,func131,by kernel_rfl,rfl⟩
theorem SP:Sw.Callable Pg 132:=⟨_,func132,by kernel_rfl,rfl⟩
theorem ZcU:Sw.Callable Pg 133:=⟨_,func133,by kernel_rfl,rfl⟩
theorem ZcV:Sw.Callable Pg 134:=⟨_,func134,by kernel_rfl,rfl⟩
theorem ZgR:Sw.Callable Pg 146:=⟨_,func146,by kernel_rfl,rfl⟩
theorem jw:Sw.Callable Pg 147:=⟨_,func147,by kernel_rfl,rfl⟩
theorem ZgS:Sw.Callable Pg 148:=⟨_,func148,by kernel_rfl,rfl⟩
theorem ZgT:Sw.Callable Pg 149:=⟨_,func149,by kernel_rfl,rfl⟩
theorem ZbM:Sw.Callable Pg 150:=⟨_,func150,by kernel_rfl,rfl⟩
theorem ZgU:Sw.Callable Pg 151:=⟨_,func151,by kernel_rfl,rfl⟩
theorem ZbN:Sw.Callable Pg 152:=⟨_,func152,by kernel_rfl,rfl⟩
theorem ZgV:Sw.Callable Pg 153:=⟨_,func153,by kernel_rfl,rfl⟩
theorem ZgW:Sw.Callable Pg 154:=⟨_,func154,by kernel_rfl,rfl⟩
theorem ZgX:Sw.Callable Pg 155:=⟨_,func155,by kernel_rfl,rfl⟩
theorem ZcW:Sw.Callable Pg 156:=⟨_,func156,by kernel_rfl,rfl⟩
theorem ZgY:Sw.Callable Pg 157:=⟨_,func157,by kernel_rfl,rfl⟩
theorem SQ:Sw.Callable Pg 158:=⟨_,func158,by kernel_rfl,rfl⟩
theorem ZgZ:Sw.Callable Pg 159:=⟨_,func159,by kernel_rfl,rfl⟩
theorem Zg0:Sw.Callable Pg 160:=⟨_,func160,by kernel_rfl,rfl⟩
theorem ZcX:Sw.Callable Pg 161:=⟨_,func161,by kernel_rfl,rfl⟩
theorem Zg1:Sw.Callable Pg 162:=⟨_,func162,by kernel_rfl,rfl⟩
theorem ZcY:Sw.Callable Pg 163:=⟨_,func163,by kernel_rfl,rfl⟩
theorem Zg2:Sw.Callable Pg 164:=⟨_,func164,by kernel_rfl,rfl⟩
theorem Zg3:Sw.Callable Pg 165:=⟨_,func165,by kernel_rfl,rfl⟩
theorem Zg4:Sw.Callable Pg 166:=⟨_,func166,by kernel_rfl,rfl⟩
theorem Zg5:Sw.Callable Pg 167:=⟨_,func167,by kernel_rfl,rfl⟩
theorem Zg6:Sw.Callable Pg 168:=⟨_,func168,by kernel_rfl,rfl⟩
theorem Zg7:Sw.Callable Pg 169:=⟨_,func169,by kernel_rfl,rfl⟩
theorem Zg8:Sw.Callable Pg 170:=⟨_,func170,by kernel_rfl,rfl⟩
theorem Zg9:Sw.Callable Pg 171:=⟨_,func171,by kernel_rfl,rfl⟩
theorem Zha:Sw.Callable Pg 172:=⟨_,func172,by kernel_rfl,rfl⟩
theorem Zhb:Sw.Callable Pg 173:=⟨_,func173,by kernel_rfl,rfl⟩
theorem ZcZ:Sw.Callable Pg 174:=⟨_,func174,by kernel_rfl,rfl⟩
theorem Zc0:Sw.Callable Pg 175:=⟨_,func175,by kernel_rfl,rfl⟩
theorem Zhc:Sw.Callable Pg 182:=⟨_,func182,by kernel_rfl,rfl⟩
theorem Zhd:Sw.Callable Pg 183:=⟨_,func183,by kernel_rfl,rfl⟩
theorem Mx:Sw.Callable Pg 184:=⟨_,func184,by kernel_rfl,rfl⟩
theorem Zc1:Sw.Callable Pg 185:=⟨_,func185,by kernel_rfl,rfl⟩
theorem Zhe:Sw.Callable Pg 186:=⟨_,func186,by kernel_rfl,rfl⟩
theorem Zhf:Sw.Callable Pg 187:=⟨_,func187,by kernel_rfl,rfl⟩
theorem Zc2:Sw.Callable Pg 188:=⟨_,func188,by kernel_rfl,rfl⟩
theorem Zc3:Sw.Callable Pg 189:=⟨_,func189,by kernel_rfl,rfl⟩
theorem Zc4:Sw.Callable Pg 190:=⟨_,func190,by kernel_rfl,rfl⟩
theorem Zhg:Sw.Callable Pg 192:=⟨_,func192,by kernel_rfl,rfl⟩
theorem Zhh:Sw.Callable Pg 193:=⟨_,func193,by kernel_rfl,rfl⟩
theorem Zhi:Sw.Callable Pg 194:=⟨_,func194,by kernel_rfl,rfl⟩
theorem Zc5:Sw.Callable Pg 195:=⟨_,func195,by kernel_rfl,rfl⟩
theorem Dg:Sw.Callable Pg 196:=⟨_,func196,by kernel_rfl,rfl⟩
theorem Zhj:Sw.Callable Pg 197:=⟨_,func197,by kernel_rfl,rfl⟩
theorem Zhk:Sw.Callable Pg 198:=⟨_,func198,by kernel_rfl,rfl⟩
theorem Zhl:Sw.Callable Pg 199:=⟨_,func199,by kernel_rfl,rfl⟩
theorem Zhm:Sw.Callable Pg 200:=⟨_,func200,by kernel_rfl,rfl⟩
theorem Zhn:Sw.Callable Pg 201:=⟨_,func201,by kernel_rfl,rfl⟩
theorem ZbO:Sw.Callable Pg 202:=⟨_,func202,by kernel_rfl,rfl⟩
theorem Zho:Sw.Callable Pg 203:=⟨_,func203,by kernel_rfl,rfl⟩
theorem Zhp:Sw.Callable Pg 204:=⟨_,func204,by kernel_rfl,rfl⟩
theorem Zhq:Sw.Callable Pg 205:=⟨_,func205,by kernel_rfl,rfl⟩
theorem Zhr:Sw.Callable Pg 206:=⟨_,func206,by kernel_rfl,rfl⟩
theorem Zhs:Sw.Callable Pg 207:=⟨_,func207,by kernel_rfl,rfl⟩
theorem Zht:Sw.Callable Pg 208:=⟨_,func208,by kernel_rfl,rfl⟩
theorem ZbP:Sw.Callable Pg 209:=⟨_,func209,by kernel_rfl,rfl⟩
theorem Zhu:Sw.Callable Pg 210:=⟨_,func210,by kernel_rfl,rfl⟩
theorem Zhv:Sw.Callable Pg 211:=⟨_,func211,by kernel_rfl,rfl⟩
theorem Zhw:Sw.Callable Pg 212:=⟨_,func212,by kernel_rfl,rfl⟩
theorem Zhx:Sw.Callable Pg 213:=⟨_,func213,by kernel_rfl,rfl⟩
theorem Zhy:Sw.Callable Pg 214:=⟨_,func214,by kernel_rfl,rfl⟩
theorem Zhz:Sw.Callable Pg 215:=⟨_,func215,by kernel_rfl,rfl⟩
theorem ZhA:Sw.Callable Pg 216:=⟨_,func216,by kernel_rfl,rfl⟩
theorem ZhB:Sw.Callable Pg 217:=⟨_,func217,by kernel_rfl,rfl⟩
theorem ZhC:Sw.Callable Pg 218:=⟨_,func218,by kernel_rfl,rfl⟩
theorem ZhD:Sw.Callable Pg 219:=⟨_,func219,by kernel_rfl,rfl⟩
theorem SR:Sw.Callable Pg 220:=⟨_,func220,by kernel_rfl,rfl⟩
theorem Zc6:Sw.Callable Pg 221:=⟨_,func221,by kernel_rfl,rfl⟩
theorem ZhE:Sw.Callable Pg 222:=⟨_,func222,by kernel_rfl,rfl⟩
theorem ZbQ:Sw.Callable Pg 223:=⟨_,func223,by kernel_rfl,rfl⟩
theorem NU:Sw.Callable Pg 224:=⟨_,func224,by kernel_rfl,rfl⟩
theorem Zc7:Sw.Callable Pg 225:=⟨_,func225,by kernel_rfl,rfl⟩
theorem ZhF:Sw.Callable Pg 226:=⟨_,func226,by kernel_rfl,rfl⟩
theorem ZhG:Sw.Callable Pg 227:=⟨_,func227,by kernel_rfl,rfl⟩
theorem ZhH:Sw.Callable Pg 228:=⟨_,func228,by kernel_rfl,rfl⟩
theorem ZhI:Sw.Callable Pg 229:=⟨_,func229,by kernel_rfl,rfl⟩
theorem Zc8:Sw.Callable Pg 230:=⟨_,func230,by kernel_rfl,rfl⟩
theorem ZhJ:Sw.Callable Pg 231:=⟨_,func231,by kernel_rfl,rfl⟩
theorem ZhK:Sw.Callable Pg 232:=⟨_,func232,by kernel_rfl,rfl⟩
theorem ZhL:Sw.Callable Pg 233:=⟨_,func233,by kernel_rfl,rfl⟩
theorem Zc9:Sw.Callable Pg 234:=⟨_,func234,by kernel_rfl,rfl⟩
theorem ZhM:Sw.Callable Pg 235:=⟨_,func235,by kernel_rfl,rfl⟩
theorem ZhN:Sw.Callable Pg 236:=⟨_,func236,by kernel_rfl,rfl⟩
theorem Zda:Sw.Callable Pg 237:=⟨_,func237,by kernel_rfl,rfl⟩
theorem ZhO:Sw.Callable Pg 238:=⟨_,func238,by kernel_rfl,rfl⟩
def Fw (a b c:Vl) (ds:LDf) (R:RT) (w:Wd):Prop:=
 opV Pg (Instr.build 90 #[]) (ZP Pg ds [(none,c),(some 90,a),(some 4,b)] R) w λ d w=>
 opU Pg (storeAt 90 a d) (ZP Pg ds [(none,c),(some 90,a),(some 4,b)] R) w λ w=>
 opU Pg (storeAt 4 b (.bool false)) (ZP Pg ds [(none,c),(some 90,a),(some 4,b)] R) w λ w=>
 Us Pg ds [(none,c),(some 90,a),(some 4,b)] R w
def Fx (f c d b:Vl) (a:WPr) (ds:LDf) (R:RT) (w:Wd):Prop:=
 qN Pg a (Xb b) λ g=>
 J0 164 g 1 a λ h=>
 I0 161 h a λ i=>
 J0 28 f 2 a λ j=>
 I0 9 j a λ k=>
 qV Pg a (Instr.lookup 161 i k true) λ e=>
 qV Pg a (Instr.extract e 0) λ m=>
 qV Pg a (Instr.extract e 1) λ l=>
 Yt Pg 122 #[b,l,(.int .i64 11)] (ZP Pg ds [(none,b),(some 90,c),(some 4,d)] R) w λ n w=>
 Fw c d b ds R w
def Fy (d b c a:Vl) (ds:LDf) (R:RT) (w:Wd):Prop:=
 opN Pg (Xb a) (ZP Pg ds [(none,a),(some 90,b),(some 4,c)] R) w λ e w=>
 opV Pg (fieldAt 164 e 3) (ZP Pg ds [(none,a),(some 90,b),(some 4,c)] R) w λ f w=>
 opU Pg (storeAt 3 f (.int .i64 (-1))) (ZP Pg ds [(none,a),(some 90,b),(some 4,c)] R) w λ w=>
 Yy w λ g w=>
 Fx d b c a g ds R w
def Fz (b c a f d:Vl) (ZT:KV) (ds:LDf) (R:RT) (w:Wd):Prop:=
 opV Pg (indexAt 26 f d) (ZP Pg ds [(none,a),(some 90,b),(some 4,c)] R) w λ g w=>
 opV Pg (loadAt 24 g) (ZP Pg ds [(none,a),(some 90,b),(some 4,c)] R) w λ h w=>
 opV Pg (Instr.alloc 24 true (.tuple #[])) (ZP Pg ds [(none,a),(some 90,b),(some 4,c)] R) w λ e w=>
 opU Pg (storeAt 24 e h) (ZP Pg ds [(none,a),(some 90,b),(some 4,c)] R) w λ w=>
 opN Pg (Xb a) (ZP Pg ds [(none,a),(some 90,b),(some 4,c)] R) w λ i w=>
 opV Pg (fieldAt 164 i 3) (ZP Pg ds [(none,a),(some 90,b),(some 4,c)] R) w λ j w=>
 opU Pg (storeAt 3 j d) (ZP Pg ds [(none,a),(some 90,b),(some 4,c)] R) w λ w=>
 opV Pg (loadAt 24 e) (ZP Pg ds [(none,a),(some 90,b),(some 4,c)] R) w λ k w=>
 Yt Pg 124 #[a,k] (ZP Pg ds [(none,a),(some 90,b),(some 4,c)] R) w λ m w=>
 opV Pg (ZI .add 3 true d (.int .i64 1)) (ZP Pg ds [(none,a),(some 90,b),(some 4,c)] R) w λ l w=>
 ZT l w
def CC (e a b c f g d:Vl) (ZT:KV) (ds:LDf) (R:RT) (w:Wd):Prop:=
 opV Pg (ZI .lss 3 false d g) (ZP Pg ds [(none,c),(some 90,a),(some 4,b)] R) w λ h w=>
 Zq h (
 Fz a b c f d ZT ds R w) (
 Fy e a b c ds R w)
def A5 (d a b c:Vl) (ds:LDf) (R:RT) (w:Wd):Prop:=
 opV Pg (fieldAt 28 d 1) (ZP Pg ds [(none,c),(some 90,a),(some 4,b)] R) w λ f w=>
 opV Pg (loadAt 26 f) (ZP Pg ds [(none,c),(some 90,a),(some 4,b)] R) w λ e w=>
 opV Pg (Builtin.len_ #[26] 3 #[e]) (ZP Pg ds [(none,c),(some 90,a),(some 4,b)] R) w λ g w=>
 YS (λ h w ZT=>
 CC d a b c e g h ZT ds R w) (.int .i64 0) w
def LP (d b c a e f:Vl) (ds:LDf) (R:RT) (w:Wd):Prop:=
 Zw e f (.bool false) λ g=>
 Yt Pg 122 #[a,g,(.int .i64 3)] (ZP Pg ds [(none,a),(some 90,b),(some 4,c)] R) w λ h w=>
 A5 d b c a ds R w
def LQ (d a b c:Vl) (e:KV) (ds:LDf) (R:RT) (w:Wd):Prop:=
 opV Pg (fieldAt 28 d 1) (ZP Pg ds [(none,c),(some 90,a),(some 4,b)] R) w λ f w=>
 opV Pg (loadAt 26 f) (ZP Pg ds [(none,c),(some 90,a),(some 4,b)] R) w λ g w=>
 opV Pg (Builtin.len_ #[26] 3 #[g]) (ZP Pg ds [(none,c),(some 90,a),(some 4,b)] R) w λ h w=>
 opV Pg (ZI .leq 3 true h (.int .i64 60)) (ZP Pg ds [(none,c),(some 90,a),(some 4,b)] R) w λ i w=>
 e i w
def FA (d a b c:Vl) (ds:LDf) (R:RT) (w:Wd):Prop:=
 opV Pg (fieldAt 28 d 1) (ZP Pg ds [(none,c),(some 90,a),(some 4,b)] R) w λ g w=>
 opV Pg (loadAt 26 g) (ZP Pg ds [(none,c),(some 90,a),(some 4,b)] R) w λ h w=>
 opV Pg (Builtin.len_ #[26] 3 #[h]) (ZP Pg ds [(none,c),(some 90,a),(some 4,b)] R) w λ i w=>
 opV Pg (ZI .geq 3 true i (.int .i64 1)) (ZP Pg ds [(none,c),(some 90,a),(some 4,b)] R) w λ e w=>
 Zr (λ (j:Vl) (w:Wd)=>
 LP d a b c e j ds R w) λ f=>
 Zn e true (
 LQ d a b c f ds R w) (
 f undef w)
def n74 (e:Vl) (R:RT) (w:Wd):Prop:=
 (λ (ds:LDf)=>
 opV Pg (Instr.box 28 e) (ZP Pg ds [(none,undef),(some 90,undef),(some 4,undef)] R) w λ d w=>
 opV Pg (Instr.alloc 90 true (.tuple #[])) (ZP Pg ds [(none,(Value.pointer none)),(some 90,undef),(some 4,undef)] R) w λ a w=>
 opV Pg (Instr.alloc 4 true (.tuple #[])) (ZP Pg ds [(none,(Value.pointer none)),(some 90,a),(some 4,undef)] R) w λ b w=>
 opV Pg (loadAt 28 d) (ZP Pg ds [(none,(Value.pointer none)),(some 90,a),(some 4,b)] R) w λ f w=>
 opV Pg (Instr.makeMap 161 none) (ZP Pg ds [(none,(Value.pointer none)),(some 90,a),(some 4,b)] R) w λ g w=>
 opV Pg (Instr.makeMap 162 none) (ZP Pg ds [(none,(Value.pointer none)),(some 90,a),(some 4,b)] R) w λ h w=>
 opV Pg (Instr.build 164 #[(0,f),(1,g),(2,h),(3,(.int .i64 (-1))),(4,(.int .i64 (-1)))]) (ZP Pg ds [(none,(Value.pointer none)),(some 90,a),(some 4,b)] R) w λ i w=>
 opV Pg (Instr.box 164 i) (ZP Pg ds [(none,(Value.pointer none)),(some 90,a),(some 4,b)] R) w λ c w=>
 opV Pg (makeFunc (.func 121) #[] #[a,b]) (ZP Pg ds [(none,c),(some 90,a),(some 4,b)] R) w λ j w=>
 Zdb Pg j #[] ds w λ ds w=>
 opV Pg (fieldAt 28 d 0) (ZP Pg ds [(none,c),(some 90,a),(some 4,b)] R) w λ k w=>
 opV Pg (loadAt 9 k) (ZP Pg ds [(none,c),(some 90,a),(some 4,b)] R) w λ l w=>
 Yt Pg 123 #[l] (ZP Pg ds [(none,c),(some 90,a),(some 4,b)] R) w λ m w=>
 Yt Pg 122 #[c,m,(.int .i64 1)] (ZP Pg ds [(none,c),(some 90,a),(some 4,b)] R) w λ n w=>
 FA d a b c ds R w) []
theorem ZiS {t0:Vl} {R:RT} {w:Wd} (h:n74 t0 R w):Calls Pg 93 #[t0] w R:=by
 refine yE func93 ?_
 unfold n74 at h
 dsimp only at h
 refine zs<|zr<|yv h λ _ w h=>zm<|yv h λ _ w h=>yv h λ _ w h=>zn<|zk<|zs<|zr<|yv h λ _ w h=>yv h λ _ w h=>yv h λ _ w h=>yB h λ _ w h=>yv h λ _ w h=>?_
 refine zm<|zn<|zk<|zs<|zr<|yF h λ _ w h=>?_
 refine Nk h rfl rfl ?_;intro ds w h
 refine zn<|zk<|zs<|zr<|zm<|yv h λ _ w h=>yv h λ _ w h=>yc h SO λ _ w h=>yc h UZ λ _ w h=>zn<|zk<|zs<|Zu<|yG 6<|zm ?_
 refine yv h λ _ w h=>yv h λ _ w h=>yx h λ _ w h=>yb h λ _ w h=>zm<|zn<|yg1 4 5 true [26,27,28,29] 29 h (λ _ T hT h=>?_) λ σ w h=>?_
 · refine yv h λ _ w h=>yv h λ _ w h=>yx h λ _ w h=>yb h λ _ w h=>zn ?_
   exact zt hT h
 refine yG 2<|yp h λ _ h=>yc h UZ λ _ w h=>zn<|ZQ<|zk<|zs<|zs<|zr<|yv h λ _ w h=>yv h λ _ w h=>yx h λ _ w h=>zm<|zn<|zk ?_
 refine Zj<|yl1 [5,6,35,36,37,38,39,40,41,42,43,44,45,46,47] 35 h λ σ w next h=>zs<|zr<|yb h λ _ w h=>zn<|zk<|zs<|yC h (λ h=>?_) λ h=>?_
 · refine Zi<|zk<|zs<|Zj<|zs<|zr<|zm<|yv h λ _ w h=>yv h λ _ w h=>yv h λ _ w h=>zm<|yu h λ w h=>zn<|zk<|zs ?_
   refine zr<|zm<|zm<|yN h λ _ w h=>yv h λ _ w h=>yu h λ w h=>zn<|zk<|zr<|zm<|yv h λ _ w h=>yc h ZgL λ _ w h=>zn<|Zg<|zk ?_
   exact zr<|yb h λ _ w h=>zm<|zn<|zk<|⟨rfl,h⟩
 refine ZA<|Zc<|Zc<|Zp<|zk<|zs<|zr<|zm<|yN h λ _ w h=>yv h λ _ w h=>yu h λ w h=>zn<|zk<|zs<|yh [7,8,51,52,53,54,55,56,57,58,59,60] h λ C hC h=>?_
 refine yw 0 hC ?_
 refine yn 1 hC h λ _ h=>?_
 refine ye 2 hC h λ _ h=>?_
 refine ye 3 hC h λ _ h=>?_
 refine ye 4 hC h λ _ h=>?_
 refine ye 5 hC h λ _ h=>?_
 refine ye 6 hC h λ _ h=>?_
 refine yw 7 hC ?_
 refine ye 8 hC h λ _ h=>?_
 refine ye 9 hC h λ _ h=>?_
 refine yw 10 hC ?_
 refine yw 11 hC ?_
 refine yz<|zk<|zs<|zr<|zm<|zm<|yc h UZ λ _ w h=>zn<|zk<|zs<|zr<|zm<|yB h λ _ w h=>zm<|yu h λ w h=>?_
 exact yu h λ w h=>zn<|zk<|Ze<|Y9 rfl h
def Zdi (c:Vl) (R:RT) (w:Wd):Prop:=
 opV Pg (Instr.box 48 c) (Zh R) w λ a w=>
 opV Pg (Instr.alloc 144 true (.tuple #[])) (Zh R) w λ b w=>
 F0 48 a 0 R w λ d w=>
 L0 9 d R w λ e w=>
 F0 48 a 8 R w λ f w=>
 L0 9 f R w λ g w=>
 F0 48 a 9 R w λ h w=>
 L0 9 h R w λ i w=>
 F0 48 a 10 R w λ j w=>
 L0 9 j R w λ k w=>
 F0 48 a 1 R w λ l w=>
 L0 42 l R w λ m w=>
 F0 48 a 2 R w λ n w=>
 L0 3 n R w λ o w=>
 F0 48 a 5 R w λ p w=>
 L0 3 p R w λ q w=>
 F0 48 a 6 R w λ r w=>
 L0 3 r R w λ s w=>
 F0 48 a 7 R w λ t w=>
 F0 45 t 0 R w λ u w=>
 L0 3 u R w λ v w=>
 F0 48 a 12 R w λ x w=>
 L0 3 x R w λ y w=>
 F0 48 a 13 R w λ z w=>
 L0 3 z R w λ A w=>
 F0 48 a 3 R w λ B w=>
 L0 4 B R w λ C w=>
 F0 48 a 4 R w λ D w=>
 L0 4 D R w λ E w=>
 opV Pg (Instr.build 144 #[(0,e),(1,g),(2,i),(3,k),(4,m),(5,o),(6,q),(7,s),(8,v),(9,y),(10,A),(11,C),(12,E)]) (Zh R) w λ G w=>
 S0 144 b G R w λ w=>
 qW Pg 144 b w λ r0=>
 R (.returned r0) w
theorem Zdj {t0:Vl} {R:RT} {w:Wd} (h:Zdi t0 R w):Calls Pg 94 #[t0] w R:=by
 refine yD func94 ?_
 refine zs<|zr<|yv h λ _ w h=>yv h λ _ w h=>zn<|zk<|zs<|zr<|yv h λ _ w h=>yv h λ _ w h=>yv h λ _ w h=>yv h λ _ w h=>yv h λ _ w h=>yv h λ _ w h=>yv h λ _ w h=>?_
 refine yv h λ _ w h=>yv h λ _ w h=>yv h λ _ w h=>yv h λ _ w h=>yv h λ _ w h=>yv h λ _ w h=>yv h λ _ w h=>yv h λ _ w h=>yv h λ _ w h=>yv h λ _ w h=>yv h λ _ w h=>yv h λ _ w h=>yv h λ _ w h=>yv h λ _ w h=>yv h λ _ w h=>?_
 exact yv h λ _ w h=>yv h λ _ w h=>yv h λ _ w h=>yv h λ _ w h=>yv h λ _ w h=>yB h λ _ w h=>yu h λ w h=>zn<|zk<|Ze<|Ya rfl rfl h
def JR (c d b:Vl) (a:WPr) (Zo:KV) (R:RT) (w:Wd):Prop:=
 M0 43 c b a λ e=>
 I0 62 e a λ f=>
 M0 43 d b a λ g=>
 I0 62 g a λ h=>
 qV Pg a (ZI .neq 62 false f h) λ i=>
 Zq i (
 R (.returned (.bool false)) w) (
 B0 .add 3 true b (.int .i64 1) R w λ j w=>
 Zo j w)
def JS (a c:Vl) (R:RT) (w:Wd):Prop:=
 G0 43 3 a R w λ d w=>
 YS (λ b w Zo=>
 B0 .lss 3 false b d R w λ e w=>
 Zq e (
 Yy w λ f w=>
 JR a c b f Zo R w) (
 R (.returned (.bool true)) w)) (.int .i64 0) w
def Zeo (a b:Vl) (R:RT) (w:Wd):Prop:=
 G0 43 3 a R w λ c w=>
 G0 43 3 b R w λ d w=>
 B0 .neq 3 false c d R w λ e w=>
 Zq e (
 R (.returned (.bool false)) w) (
 JS a b R w)
theorem Zep {t0 t1:Vl} {R:RT} {w:Wd} (h:Zeo t0 t1 R w):Calls Pg 95 #[t0,t1] w R:=by
 refine yD func95 ?_
 refine zs<|zr<|zm<|zn<|zk<|zs<|zs<|zr<|zm<|yx h λ _ w h=>zm<|yx h λ _ w h=>yb h λ _ w h=>zn<|zk ?_
 refine yC h (λ h=>zs<|zr<|zm<|zn<|zk<|Ze<|Zb<|Zk rfl rfl h) λ h=>Zi<|zk<|zs<|zs<|zr<|zm<|yx h λ _ w h=>zm<|zn<|zk<|Zj<|yl1 [4,5,13,14,15,16,17,18,19,20,21,22,23,24,25] 13 h λ σ w next h=>zs ?_
 refine zr<|yb h λ _ w h=>zn<|zk<|zs<|yC h (λ h=>?_) λ h=>?_
 · refine Zi<|zk<|zs<|Zj<|zs<|zr<|zm<|zm<|zn<|zk<|zs<|yh [16,17,18,19,20,21,22,23,24] h λ C hC h=>yw 0 hC ?_
   refine yw 1 hC ?_
   refine ye 2 hC h λ _ h=>?_
   refine ye 3 hC h λ _ h=>?_
   refine yw 4 hC ?_
   refine yw 5 hC ?_
   refine ye 6 hC h λ _ h=>?_
   refine ye 7 hC h λ _ h=>?_
   refine ye 8 hC h λ _ h=>?_
   exact yz<|zk<|yC h (λ h=>zs<|zr<|zm<|zn<|zk<|Ze<|Zf<|Zb<|Zb<|Zf<|Zb<|Zk rfl rfl h) λ h=>Zi<|Zg<|zk<|zr<|yb h λ _ w h=>zm<|zn<|zk<|⟨rfl,h⟩
 exact ZA<|Zc<|Zc<|Zp<|zk<|zs<|zr<|zm<|zn<|zk<|Ze<|Zk rfl rfl h
def JP (c d b:Vl) (a:WPr) (Zo:KV) (R:RT) (w:Wd):Prop:=
 M0 46 c b a λ e=>
 I0 60 e a λ f=>
 M0 46 d b a λ g=>
 I0 60 g a λ h=>
 qV Pg a (ZI .neq 60 false f h) λ i=>
 Zq i (
 R (.returned (.bool false)) w) (
 B0 .add 3 true b (.int .i64 1) R w λ j w=>
 Zo j w)
def JQ (a c:Vl) (R:RT) (w:Wd):Prop:=
 G0 46 3 a R w λ d w=>
 YS (λ b w Zo=>
 B0 .lss 3 false b d R w λ e w=>
 Zq e (
 Yy w λ f w=>
 JP a c b f Zo R w) (
 R (.returned (.bool true)) w)) (.int .i64 0) w
def Zem (a b:Vl) (R:RT) (w:Wd):Prop:=
 G0 46 3 a R w λ c w=>
 G0 46 3 b R w λ d w=>
 B0 .neq 3 false c d R w λ e w=>
 Zq e (
 R (.returned (.bool false)) w) (
 JQ a b R w)
theorem Zen {t0 t1:Vl} {R:RT} {w:Wd} (h:Zem t0 t1 R w):Calls Pg 96 #[t0,t1] w R:=by
 refine yD func96 ?_
 refine zs<|zr<|zm<|zn<|zk<|zs<|zs<|zr<|zm<|yx h λ _ w h=>zm<|yx h λ _ w h=>yb h λ _ w h=>zn<|zk ?_
 refine yC h (λ h=>zs<|zr<|zm<|zn<|zk<|Ze<|Zb<|Zk rfl rfl h) λ h=>Zi<|zk<|zs<|zs<|zr<|zm<|yx h λ _ w h=>zm<|zn<|zk<|Zj<|yl1 [4,5,13,14,15,16,17,18,19,20,21,22,23,24,25] 13 h λ σ w next h=>zs ?_
 refine zr<|yb h λ _ w h=>zn<|zk<|zs<|yC h (λ h=>?_) λ h=>?_
 · refine Zi<|zk<|zs<|Zj<|zs<|zr<|zm<|zm<|zn<|zk<|zs<|yh [16,17,18,19,20,21,22,23,24] h λ C hC h=>yw 0 hC ?_
   refine yw 1 hC ?_
   refine ye 2 hC h λ _ h=>?_
   refine ye 3 hC h λ _ h=>?_
   refine yw 4 hC ?_
   refine yw 5 hC ?_
   refine ye 6 hC h λ _ h=>?_
   refine ye 7 hC h λ _ h=>?_
   refine ye 8 hC h λ _ h=>?_
   exact yz<|zk<|yC h (λ h=>zs<|zr<|zm<|zn<|zk<|Ze<|Zf<|Zb<|Zb<|Zf<|Zb<|Zk rfl rfl h) λ h=>Zi<|Zg<|zk<|zr<|yb h λ _ w h=>zm<|zn<|zk<|⟨rfl,h⟩
 exact ZA<|Zc<|Zc<|Zp<|zk<|zs<|zr<|zm<|zn<|zk<|Ze<|Zk rfl rfl h
def OQ (b c a:Vl) (Zo:KV) (R:RT) (w:Wd):Prop:=
 X0 26 b a R w λ d w=>
 L0 24 d R w λ e w=>
 XB Pg c #[e] (Zh R) w λ f w=>
 Zq f (
 R (.returned a) w) (
 B0 .add 3 true a (.int .i64 1) R w λ g w=>
 Zo g w)
def Zes (a c:Vl) (R:RT) (w:Wd):Prop:=
 G0 26 3 a R w λ d w=>
 YS (λ b w Zo=>
 B0 .lss 3 false b d R w λ e w=>
 Zq e (
 OQ a c b Zo R w) (
 R (.returned (.int .i64 (-1))) w)) (.int .i64 0) w
theorem Zet {t0 t1:Vl} {R:RT} {w:Wd} (h:Zes t0 t1 R w):Calls Pg 97 #[t0,t1] w R:=by
 refine yD func97 ?_
 refine zs<|zr<|zm<|zn<|zk<|zs<|zs<|zr<|zm<|yx h λ _ w h=>zm<|zn<|zk<|Zj<|yl1 [4,5,8,9,10,11,12,13,14,15,16,17,18] 8 h λ σ w next h=>?_
 refine zs<|zr<|yb h λ _ w h=>zn<|zk<|zs<|yC h (λ h=>?_) λ h=>?_
 · refine Zi<|zk<|zs<|Zj<|zs<|zr<|zm<|zm<|zn<|zk<|zs<|zr<|zm<|zm<|zm ?_
   refine yv h λ _ w h=>yv h λ _ w h=>yV h λ _ w h=>zn<|zk<|yC h (λ h=>zs<|zr<|zm<|zm<|zn<|zk<|Ze<|Zf<|Zb<|Zb<|Zf<|Zb<|Zk rfl rfl h) λ h=>Zi<|Zg<|zk<|zr<|yb h λ _ w h=>zm<|zn<|zk ?_
   exact ⟨rfl,h⟩
 exact ZA<|Zc<|Zc<|Zp<|zk<|zs<|zr<|zm<|zn<|zk<|Ze<|Zk rfl rfl h
def HX (b c a:Vl) (Zo:KV) (R:RT) (w:Wd):Prop:=
 X0 82 b a R w λ d w=>
 L0 9 d R w λ e w=>
 B0 .eql 9 false c e R w λ f w=>
 Zq f (
 R (.returned a) w) (
 B0 .add 3 true a (.int .i64 1) R w λ g w=>
 Zo g w)
def ZeA (a c:Vl) (R:RT) (w:Wd):Prop:=
 G0 82 3 a R w λ d w=>
 YS (λ b w Zo=>
 B0 .lss 3 false b d R w λ e w=>
 Zq e (
 HX a c b Zo R w) (
 R (.returned (.int .i64 (-1))) w)) (.int .i64 0) w
theorem ZeB {t0 t1:Vl} {R:RT} {w:Wd} (h:ZeA t0 t1 R w):Calls Pg 98 #[t0,t1] w R:=by
 refine yD func98 ?_
 refine zs<|zr<|zm<|zn<|zk<|zs<|zs<|zr<|zm<|yx h λ _ w h=>zm<|zn<|zk<|Zj<|yl1 [4,5,8,9,10,11,12,13,14,15,16,17,18] 8 h λ σ w next h=>?_
 refine zs<|zr<|yb h λ _ w h=>zn<|zk<|zs<|yC h (λ h=>?_) λ h=>?_
 · refine Zi<|zk<|zs<|Zj<|zs<|zr<|zm<|zm<|zn<|zk<|zs<|zr<|zm<|zm<|zm ?_
   refine yv h λ _ w h=>yv h λ _ w h=>yb h λ _ w h=>zn<|zk<|yC h (λ h=>zs<|zr<|zm<|zm<|zn<|zk<|Ze<|Zf<|Zb<|Zb<|Zf<|Zb<|Zk rfl rfl h) λ h=>Zi<|Zg<|zk<|zr<|yb h λ _ w h=>zm<|zn<|zk ?_
   exact ⟨rfl,h⟩
 exact ZA<|Zc<|Zc<|Zp<|zk<|zs<|zr<|zm<|zn<|zk<|Ze<|Zk rfl rfl h
def n49 (a c:Vl) (R:RT) (w:Wd):Prop:=
 B0 .gtr 3 true a (.int .i64 0) R w λ d w=>
 Zr (λ (b:Vl) (w:Wd)=>
 Zw d b (.bool false) λ f=>
 Zq f (
 R (.returned (.int .i64 1099511627776)) w) (
 B0 .mul 3 false a c R w λ g w=>
 R (.returned g) w)) λ e=>
 Zn d true (
 B0 .quo 3 true (.int .i64 1099511627776) a R w λ h w=>
 B0 .gtr 3 false c h R w λ b w=>
 e b w) (
 e undef w)
theorem Ziu {t0 t1:Vl} {R:RT} {w:Wd} (h:n49 t0 t1 R w):Calls Pg 133 #[t0,t1] w R:=by
 refine yD func133 ?_
 refine zs<|zr<|zm<|zn<|zk<|zs<|zs<|Zu<|yG 3<|zm<|yb h λ _ w h=>zm<|zn<|yg1 4 2 true [8,9,10,11] 11 h (λ _ T hT h=>?_) λ σ w h=>?_
 · refine zm<|zm<|yb h λ _ w h=>yb h λ _ w h=>zn ?_
   exact zt hT h
 refine yG 1<|yp h λ _ h=>zn<|ZQ<|zk<|yC h (λ h=>zs<|zr<|zm<|zn<|zk<|Ze<|Zb<|Zk rfl rfl h) λ h=>Zi<|zk<|zs<|zr<|zm<|zm<|yb h λ _ w h=>zm ?_
 exact zn<|zk<|Ze<|Zk rfl rfl h
def OP (b c a:Vl) (Zo:KV) (R:RT) (w:Wd):Prop:=
 X0 22 b a R w λ d w=>
 L0 48 d R w λ e w=>
 XB Pg c #[e] (Zh R) w λ f w=>
 Zq f (
 R (.returned a) w) (
 B0 .add 3 true a (.int .i64 1) R w λ g w=>
 Zo g w)
def Zeq (a c:Vl) (R:RT) (w:Wd):Prop:=
 G0 22 3 a R w λ d w=>
 YS (λ b w Zo=>
 B0 .lss 3 false b d R w λ e w=>
 Zq e (
 OP a c b Zo R w) (
 R (.returned (.int .i64 (-1))) w)) (.int .i64 0) w
theorem Zer {t0 t1:Vl} {R:RT} {w:Wd} (h:Zeq t0 t1 R w):Calls Pg 134 #[t0,t1] w R:=by
 refine yD func134 ?_
 refine zs<|zr<|zm<|zn<|zk<|zs<|zs<|zr<|zm<|yx h λ _ w h=>zm<|zn<|zk<|Zj<|yl1 [4,5,8,9,10,11,12,13,14,15,16,17,18] 8 h λ σ w next h=>?_
 refine zs<|zr<|yb h λ _ w h=>zn<|zk<|zs<|yC h (λ h=>?_) λ h=>?_
 · refine Zi<|zk<|zs<|Zj<|zs<|zr<|zm<|zm<|zn<|zk<|zs<|zr<|zm<|zm<|zm ?_
   refine yv h λ _ w h=>yv h λ _ w h=>yV h λ _ w h=>zn<|zk<|yC h (λ h=>zs<|zr<|zm<|zm<|zn<|zk<|Ze<|Zf<|Zb<|Zb<|Zf<|Zb<|Zk rfl rfl h) λ h=>Zi<|Zg<|zk<|zr<|yb h λ _ w h=>zm<|zn<|zk ?_
   exact ⟨rfl,h⟩
 exact ZA<|Zc<|Zc<|Zp<|zk<|zs<|zr<|zm<|zn<|zk<|Ze<|Zk rfl rfl h
def n38 (a:Vl) (R:RT) (w:Wd):Prop:=
 opV Pg (buildSlice 82 13 #[(0,(.string { data := #[] })),(1,(.string { data := #[98,108,120,104] })),(2,(.string { data := #[98,108,120] })),(3,(.string { data := #[111,120,104] })),(4,(.string { data := #[115] })),(5,(.string { data := #[120,104] })),(6,(.string { data := #[111,104] })),(7,(.string { data := #[102,115] })),(8,(.string { data := #[102] })),(9,(.string { data := #[116,99] })),(10,(.string { data := #[98] })),(11,(.string { data := #[114,107] })),(12,(.string { data := #[102,115,121] }))]) (Zh R) w λ b w=>
 X0 82 b a R w λ c w=>
 L0 9 c R w λ d w=>
 R (.returned d) w
theorem Zij {t0:Vl} {R:RT} {w:Wd} (h:n38 t0 R w):Calls Pg 146 #[t0] w R:=by
 refine yD func146 ?_
 refine zs<|zr<|zm<|zn<|zk<|zs<|zr<|yS h λ _ w h=>zm<|yv h λ _ w h=>yv h λ _ w h=>zm<|zn<|zk<|Ze ?_
 exact Zk rfl rfl h
def ZaA (b c a:Vl) (Zo:KV) (R:RT) (w:Wd):Prop:=
 opV Pg (Instr.index 9 b a) (Zh R) w λ d w=>
 B0 .eql 5 false d c R w λ e w=>
 Zq e (
 R (.returned (.bool true)) w) (
 B0 .add 3 true a (.int .i64 1) R w λ f w=>
 Zo f w)
def ZaB (a c b:Vl) (Zo:KV) (R:RT) (w:Wd):Prop:=
 G0 9 3 a R w λ d w=>
 B0 .lss 3 false b d R w λ e w=>
 Zq e (
 ZaA a c b Zo R w) (
 R (.returned (.bool false)) w)
def n32 (a b:Vl) (R:RT) (w:Wd):Prop:=
 YS (λ c w Zo=>
 ZaB a b c Zo R w) (.int .i64 0) w
theorem Zie {t0 t1:Vl} {R:RT} {w:Wd} (h:n32 t0 t1 R w):Calls Pg 147 #[t0,t1] w R:=by
 refine yD func147 ?_
 refine zs<|zr<|zm<|zn<|zk<|zs<|zs<|zr<|zm<|zn<|zk<|Zj<|yl1 [4,5,6,7,8,9,10,11,12,13,14,15,16] 5 h λ σ w next h=>zs<|zs ?_
 refine zr<|zm<|zm<|yx h λ _ w h=>yb h λ _ w h=>zn<|zk<|yC h (λ h=>?_) λ h=>?_
 · refine Zi<|zk<|zs<|Zj<|zs<|zr<|zm<|zm<|yv h λ _ w h=>zm<|yb h λ _ w h=>zn<|zk<|yC h (λ h=>zs<|zr<|zm<|zn<|zk<|Ze<|Zf<|Zb<|Zb<|Zf<|Zb<|Zk rfl rfl h) λ h=>?_
   exact Zi<|Zg<|zk<|zr<|zm<|yb h λ _ w h=>zm<|zn<|zk<|⟨rfl,h⟩
 exact ZA<|Zc<|Zc<|Zp<|zk<|zs<|zr<|zm<|zn<|zk<|Ze<|Zk rfl rfl h
def AS (d e f g:Vl) (R:RT) (w:Wd):Prop:=
 Zw f (.bool true) g λ b=>
 Zr (λ (a:Vl) (w:Wd)=>
 Zw b (.bool true) a λ h=>
 Zq h (
 R (.returned (.int .i64 7)) w) (
 R (.returned (.int .i64 0)) w)) λ c=>
 Zn b false (
 F0 48 d 2 R w λ i w=>
 L0 3 i R w λ j w=>
 B0 .shl 3 true (.int .i64 1) j R w λ k w=>
 B0 .geq 3 false e k R w λ a w=>
 c a w) (
 c undef w)
def Fs (a c:Vl) (R:RT) (w:Wd):Prop:=
 F0 48 a 5 R w λ f w=>
 L0 3 f R w λ g w=>
 B0 .lss 3 true g (.int .i64 0) R w λ d w=>
 Zr (λ (b:Vl) (w:Wd)=>
 AS a c d b R w) λ e=>
 Zn d false (
 F0 48 a 5 R w λ h w=>
 L0 3 h R w λ i w=>
 B0 .gtr 3 false i c R w λ b w=>
 e b w) (
 e undef w)
def Ft (a:Vl) (R:RT) (w:Wd):Prop:=
 F0 48 a 6 R w λ c w=>
 L0 3 c R w λ d w=>
 F0 48 a 1 R w λ e w=>
 L0 42 e R w λ f w=>
 B0 .eql 42 true f (.int .i64 2) R w λ g w=>
 Zr (λ (h:Vl) (w:Wd)=>
 Fs a h R w) λ b=>
 Zq g (
 F0 48 a 5 R w λ i w=>
 L0 3 i R w λ j w=>
 b j w) (
 b d w)
def qT (d b e f:Vl) (R:RT) (w:Wd):Prop:=
 Zr (λ (a:Vl) (w:Wd)=>
 Zw b (.bool true) a λ g=>
 Zq g (
 R (.returned (.int .i64 6)) w) (
 Ft d R w)) λ c=>
 Zn b false (
 Zw e f (.bool false) λ a=>
 c a w) (
 c undef w)
def qU (b e c:Vl) (R:RT) (w:Wd):Prop:=
 Zr (λ (a:Vl) (w:Wd)=>
 qT b e c a R w) λ d=>
 Zn c true (
 F0 48 b 2 R w λ f w=>
 L0 3 f R w λ g w=>
 B0 .neq 3 true g (.int .i64 32) R w λ a w=>
 d a w) (
 d undef w)
def qX (b c d:Vl) (R:RT) (w:Wd):Prop:=
 Zr (λ (a:Vl) (w:Wd)=>
 Zr (λ (g:Vl) (w:Wd)=>
 qU b c g R w) λ e=>
 Zn c false (
 Zw d a (.bool false) λ h=>
 e h w) (
 e undef w)) λ f=>
 Zn d true (
 F0 48 b 2 R w λ i w=>
 L0 3 i R w λ j w=>
 B0 .neq 3 true j (.int .i64 24) R w λ a w=>
 f a w) (
 f undef w)
def qZ (b c d:Vl) (R:RT) (w:Wd):Prop:=
 Zr (λ (a:Vl) (w:Wd)=>
 Zr (λ (g:Vl) (w:Wd)=>
 qX b c g R w) λ e=>
 Zn c false (
 Zw d a (.bool false) λ h=>
 e h w) (
 e undef w)) λ f=>
 Zn d true (
 F0 48 b 2 R w λ i w=>
 L0 3 i R w λ j w=>
 B0 .neq 3 true j (.int .i64 16) R w λ a w=>
 f a w) (
 f undef w)
def ja (a d e:Vl) (R:RT) (w:Wd):Prop:=
 Zw d (.bool true) e λ b=>
 Zr (λ (f:Vl) (w:Wd)=>
 qZ a b f R w) λ c=>
 Zn b false (
 F0 48 a 3 R w λ g w=>
 L0 4 g R w λ h w=>
 c h w) (
 c undef w)
def n35 (e:Vl) (R:RT) (w:Wd):Prop:=
 opV Pg (Instr.box 48 e) (Zh R) w λ a w=>
 F0 48 a 2 R w λ f w=>
 L0 3 f R w λ g w=>
 B0 .lss 3 true g (.int .i64 1) R w λ c w=>
 Zr (λ (b:Vl) (w:Wd)=>
 ja a c b R w) λ d=>
 Zn c false (
 F0 48 a 2 R w λ h w=>
 L0 3 h R w λ i w=>
 B0 .gtr 3 true i (.int .i64 32) R w λ b w=>
 d b w) (
 d undef w)
theorem Zig {t0:Vl} {R:RT} {w:Wd} (h:n35 t0 R w):Calls Pg 148 #[t0] w R:=by
 refine yD func148 ?_
 refine zs<|zr<|yv h λ _ w h=>zm<|zn<|zk<|zs<|zs<|Zu<|yG 4<|yv h λ _ w h=>yv h λ _ w h=>yb h λ _ w h=>zm<|zn ?_
 refine yg1 3 3 false [8,9,10] 10 h (λ _ T hT h=>?_) λ σ w h=>?_
 · refine yv h λ _ w h=>yv h λ _ w h=>yb h λ _ w h=>zn ?_
   exact zt hT h
 refine yG 2<|yp h λ _ h=>zm<|zn<|yg1 3 8 false [13,14,15] 15 h (λ _ T hT h=>?_) λ σ w h=>?_
 · refine yv h λ _ w h=>yv h λ _ w h=>zm<|zn ?_
   exact zt hT h
 refine yg1 3 11 true [16,17,18] 18 h (λ _ T hT h=>?_) λ σ w h=>?_
 · refine yv h λ _ w h=>yv h λ _ w h=>yb h λ _ w h=>zn ?_
   exact zt hT h
 refine yg1 2 8 false [19,20] 20 h (λ _ T hT h=>?_) λ σ w h=>?_
 · refine yp h λ _ h=>zm<|zn ?_
   exact zt hT h
 refine yg1 3 16 true [21,22,23] 23 h (λ _ T hT h=>?_) λ σ w h=>?_
 · refine yv h λ _ w h=>yv h λ _ w h=>yb h λ _ w h=>zn ?_
   exact zt hT h
 refine yg1 2 8 false [24,25] 25 h (λ _ T hT h=>?_) λ σ w h=>?_
 · refine yp h λ _ h=>zm<|zn ?_
   exact zt hT h
 refine yg1 3 21 true [26,27,28] 28 h (λ _ T hT h=>?_) λ σ w h=>?_
 · refine yv h λ _ w h=>yv h λ _ w h=>yb h λ _ w h=>zn ?_
   exact zt hT h
 refine yg1 1 8 false [29] 29 h (λ _ T hT h=>?_) λ σ w h=>?_
 · refine yp h λ _ h=>zn ?_
   exact zt hT h
 refine yG 1<|yp h λ _ h=>zn<|ZQ<|zk<|yC h (λ h=>zs<|zr<|zm<|zn<|zk<|Ze<|Zb<|Zk rfl rfl h) λ h=>Zi<|zk<|zs<|zr<|yv h λ _ w h=>yv h λ _ w h=>zm<|zn ?_
 refine zk<|zs<|zs<|zr<|yv h λ _ w h=>yv h λ _ w h=>yb h λ _ w h=>zn<|zk<|yJ1 [3,36,37] 3 h (λ _ _ hkK9 h=>?_) λ σ w h=>?_
 · refine yC h (λ h=>?_) λ h=>?_
   · refine zr<|yv h λ _ w h=>yv h λ _ w h=>zm<|zn<|zk ?_
     exact zt hkK9 h
   refine Zi<|zk ?_
   exact zt hkK9 h
 refine zk<|zs<|zs<|Zu<|yG 4<|yv h λ _ w h=>yv h λ _ w h=>yb h λ _ w h=>zm<|zn<|yg1 4 3 false [42,43,44,45] 45 h (λ _ T hT h=>?_) λ σ w h=>?_
 · refine yv h λ _ w h=>yv h λ _ w h=>zm<|yb h λ _ w h=>zn ?_
   exact zt hT h
 refine yG 2<|yp h λ _ h=>zm<|zn<|yg1 5 9 false [48,49,50,51,52] 52 h (λ _ T hT h=>?_) λ σ w h=>?_
 · refine zm<|yv h λ _ w h=>yv h λ _ w h=>yb h λ _ w h=>yb h λ _ w h=>zn ?_
   exact zt hT h
 refine yG 1<|yp h λ _ h=>zn<|ZQ<|zk<|yC h (λ h=>zs<|zr<|zm<|zn<|zk<|Ze<|Zb<|Zk rfl rfl h) λ h=>Zi<|zk<|zs<|zr<|zm<|zn<|zk<|Ze ?_
 exact Zk rfl rfl h
def Ly (d e f:Vl) (R:RT) (w:Wd):Prop:=
 Zw e f (.bool false) λ b=>
 Zr (λ (a:Vl) (w:Wd)=>
 Zw b a (.bool false) λ g=>
 R (.returned g) w) λ c=>
 Zn b true (
 B0 .lss 3 true d (.int .i64 34359738368) R w λ a w=>
 c a w) (
 c undef w)
def n39 (b c:Vl) (R:RT) (w:Wd):Prop:=
 B0 .geq 3 true b (.int .i64 0) R w λ d w=>
 Zr (λ (a:Vl) (w:Wd)=>
 Ly c d a R w) λ e=>
 Zn d true (
 B0 .leq 3 false b c R w λ a w=>
 e a w) (
 e undef w)
theorem Zik {t0 t1:Vl} {R:RT} {w:Wd} (h:n39 t0 t1 R w):Calls Pg 149 #[t0,t1] w R:=by
 refine yD func149 ?_
 refine zs<|zr<|zm<|zn<|zk<|zs<|Zu<|yG 3<|zm<|yb h λ _ w h=>zm<|zn<|yg1 3 2 true [8,9,10] 10 h (λ _ T hT h=>?_) λ σ w h=>?_
 · refine zm<|zm<|yb h λ _ w h=>zn ?_
   exact zt hT h
 refine yG 2<|yp h λ _ h=>zm<|zn<|yg1 2 7 true [13,14] 14 h (λ _ T hT h=>?_) λ σ w h=>?_
 · refine zm<|yb h λ _ w h=>zn ?_
   exact zt hT h
 exact yG 2<|yp h λ _ h=>zm<|zn<|ZQ<|zk<|Ze<|Zk rfl rfl h
def ZaC (c d a b:Vl) (Zo:KW) (R:RT) (w:Wd):Prop:=
 E0 b 0 R w λ e w=>
 E0 b 1 R w λ f w=>
 F0 45 c 1 R w λ g w=>
 L0 43 g R w λ h w=>
 X0 43 h a R w λ i w=>
 F0 62 i 0 R w λ j w=>
 L0 9 j R w λ k w=>
 opV Pg (Instr.build 206 #[(0,k),(1,e),(2,f)]) (Zh R) w λ l w=>
 opV Pg (buildSlice 173 1 #[(0,l)]) (Zh R) w λ m w=>
 opV Pg (Builtin.append_ #[173,173] 173 #[d,m]) (Zh R) w λ n w=>
 B0 .add 3 true a (.int .i64 1) R w λ o w=>
 Zo n o w
def ZaD (a b c d e:Vl) (Zo:KW) (R:RT) (w:Wd):Prop:=
 F0 24 a 1 R w λ f w=>
 L0 22 f R w λ g w=>
 X0 22 g e R w λ h w=>
 L0 48 h R w λ i w=>
 C0 152 #[i] R w λ j w=>
 ZaC b c d j Zo R w
def ZaE (c f g h a:Vl) (Zo:KW) (R:RT) (w:Wd):Prop:=
 B0 .lss 3 true a (.int .i64 0) R w λ d w=>
 Zr (λ (b:Vl) (w:Wd)=>
 Zw d (.bool true) b λ i=>
 Zq i (
 R (.returned (.int .i64 8)) w) (
 ZaD c f g h a Zo R w)) λ e=>
 Zn d false (
 F0 24 c 1 R w λ j w=>
 L0 22 j R w λ k w=>
 X0 22 k a R w λ l w=>
 L0 48 l R w λ m w=>
 C0 47 #[m] R w λ n w=>
 N0 n R w λ b w=>
 e b w) (
 e undef w)
def ZaF (e b c f d:Vl) (a:WPr) (Zo:KW) (R:RT) (w:Wd):Prop:=
 I0 24 b a λ g=>
 J0 45 c 1 a λ h=>
 I0 43 h a λ i=>
 M0 43 i d a λ j=>
 J0 62 j 0 a λ k=>
 I0 9 k a λ l=>
 C0 45 #[g,l,e] R w λ m w=>
 a w∧(
 ZaE b c f d m Zo R w)
def ZaG (d e f:Vl) (R:RT) (w:Wd):Prop:=
 Zw e (.bool true) f λ b=>
 Zr (λ (a:Vl) (w:Wd)=>
 Zw b (.bool true) a λ g=>
 Zq g (
 R (.returned (.int .i64 9)) w) (
 R (.returned (.int .i64 0)) w)) λ c=>
 Zn b false (
 B0 .gtr 3 true d (.int .i64 1048576) R w λ a w=>
 c a w) (
 c undef w)
def ZaH (a:Vl) (R:RT) (w:Wd):Prop:=
 E0 a 0 R w λ e w=>
 E0 a 1 R w λ f w=>
 E0 a 2 R w λ g w=>
 B0 .neq 3 true g (.int .i64 0) R w λ c w=>
 Zr (λ (b:Vl) (w:Wd)=>
 ZaG f c b R w) λ d=>
 Zn c false (
 B0 .lss 3 true e (.int .i64 0) R w λ b w=>
 d b w) (
 d undef w)
def ZaI (d e a b c:Vl) (Zo:KW) (R:RT) (w:Wd):Prop:=
 F0 45 a 1 R w λ f w=>
 L0 43 f R w λ g w=>
 G0 43 3 g R w λ h w=>
 B0 .lss 3 false c h R w λ i w=>
 Zq i (
 Yy w λ j w=>
 ZaF d e a b c j Zo R w) (
 L0 45 a R w λ k w=>
 C0 130 #[k,b] R w λ l w=>
 ZaH l R w)
def ZaJ (a b c d:Vl) (R:RT) (w:Wd):Prop:=
 N0 d R w λ e w=>
 Zq e (
 R (.returned (.int .i64 9)) w) (
 Qi (λ f g w Zo=>
 ZaI a b c f g Zo R w) (Value.slice none 0 0) (.int .i64 0) w)
def n36 (d b:Vl) (R:RT) (w:Wd):Prop:=
 opV Pg (Instr.box 24 d) (Zh R) w λ c w=>
 F0 24 c 1 R w λ e w=>
 L0 22 e R w λ f w=>
 X0 22 f b R w λ g w=>
 F0 48 g 7 R w λ h w=>
 L0 45 h R w λ i w=>
 opV Pg (Instr.alloc 45 true (.tuple #[])) (Zh R) w λ a w=>
 S0 45 a i R w λ w=>
 L0 45 a R w λ j w=>
 C0 174 #[j] R w λ k w=>
 ZaJ b c a k R w
set_option maxHeartbeats 40000000 in
theorem Zih {t0 t1:Vl} {R:RT} {w:Wd} (h:n36 t0 t1 R w):Calls Pg 150 #[t0,t1] w R:=by
 refine yD func150 ?_
 refine zs<|zr<|yv h λ _ w h=>zm<|zn<|zk<|zs<|zr<|yv h λ _ w h=>yv h λ _ w h=>zm<|yv h λ _ w h=>yv h λ _ w h=>yv h λ _ w h=>yv h λ _ w h=>?_
 refine yu h λ w h=>zn<|zk<|zs<|zs<|zr<|yv h λ _ w h=>yc h ZcZ λ _ w h=>yv h λ _ w h=>zn<|zk<|yC h (λ h=>zs<|zr<|zm<|zn<|zk<|Ze<|Zb<|Zk rfl rfl h) λ h=>Zi<|zk ?_
 refine zs<|zr<|zm<|zn<|zk<|zs<|zs<|zr<|zm<|zn<|zk<|Zj<|yl2 [4,6,7,8,9,10,23,24,25,26,27,28,29,30,31,32,33,34,35,36,37,38,39,40,41,42,43,44,45,46,47,48,49,50,51,52,53,54,55,56,57,58,59,60,61,62,63,64,65,66,67,68,69,70] 6 7 h λ σ w next h=>zs<|zs ?_
 refine zr<|zm<|yv h λ _ w h=>yv h λ _ w h=>yx h λ _ w h=>yb h λ _ w h=>zn<|zk<|yC h (λ h=>?_) λ h=>?_
 · refine Zi<|zk<|zs<|Zj<|zs<|yh [8,30,31,32,33,34,35,36,37,38] h λ C hC h=>ye 0 hC h λ _ h=>?_
   refine ye 1 hC h λ _ h=>?_
   refine ye 2 hC h λ _ h=>?_
   refine yw 3 hC ?_
   refine ye 4 hC h λ _ h=>?_
   refine ye 5 hC h λ _ h=>?_
   refine ye 6 hC h λ _ h=>?_
   refine yw 7 hC ?_
   refine yo 8 ?_
   refine yc h c45 λ _ w h=>zn ?_
   obtain ⟨hC,h⟩:=h
   refine ⟨hC,?_⟩
   refine yw 9 hC ?_
   refine yz<|zk<|zs<|zs<|Zu<|yG 3<|zm<|yb h λ _ w h=>zm<|zn<|yg1 7 2 false [42,43,44,45,46,47,48] 48 h (λ _ T hT h=>?_) λ σ w h=>?_
   · refine yv h λ _ w h=>yv h λ _ w h=>zm<|yv h λ _ w h=>yv h λ _ w h=>yc h c47 λ _ w h=>yv h λ _ w h=>zn ?_
     exact zt hT h
   refine yG 1<|yp h λ _ h=>zn<|ZQ<|zk<|yC h (λ h=>zs<|zr<|zm<|zn<|zk<|Ze<|Zb<|Zf<|Zb<|Zb<|Zf<|Zb<|Zk rfl rfl h) λ h=>Zi<|zk<|zs<|zr<|yv h λ _ w h=>yv h λ _ w h=>zm<|yv h λ _ w h=>?_
   refine yv h λ _ w h=>yc h ZbN λ _ w h=>zm<|yv h λ _ w h=>yv h λ _ w h=>zm<|zm<|zn<|zk<|zr<|zm<|yv h λ _ w h=>yv h λ _ w h=>zm<|yv h λ _ w h=>?_
   refine yv h λ _ w h=>yv h λ _ w h=>zm<|zm<|yB h λ _ w h=>yS h λ _ w h=>yx h λ _ w h=>zm<|zn<|Zg<|zk<|zr<|zm<|yb h λ _ w h=>zm ?_
   exact zn<|zk<|⟨rfl,h⟩
 refine ZA<|Zc<|Zc<|Zp<|zk<|zs<|zr<|yv h λ _ w h=>zm<|yc h ZcT λ _ w h=>zm<|yv h λ _ w h=>yv h λ _ w h=>yv h λ _ w h=>zm ?_
 refine zm<|zm<|zn<|zk<|zs<|zs<|Zu<|yG 3<|zm<|yb h λ _ w h=>zm<|zn<|yg1 2 2 false [81,82] 82 h (λ _ T hT h=>?_) λ σ w h=>?_
 · refine zm<|yb h λ _ w h=>zn ?_
   exact zt hT h
 refine yG 2<|yp h λ _ h=>zm<|zn<|yg1 2 6 false [85,86] 86 h (λ _ T hT h=>?_) λ σ w h=>?_
 · refine zm<|yb h λ _ w h=>zn ?_
   exact zt hT h
 refine yG 1<|yp h λ _ h=>zn<|ZQ<|zk<|yC h (λ h=>zs<|zr<|zm<|zn<|zk<|Ze<|Zb<|Zk rfl rfl h) λ h=>Zi<|zk<|zs<|zr<|zm<|zn<|zk<|Ze ?_
 exact Zk rfl rfl h
def ZaK (f c a:Vl) (Zo:KV) (R:RT) (w:Wd):Prop:=
 F0 24 c 1 R w λ g w=>
 L0 22 g R w λ h w=>
 X0 22 h a R w λ i w=>
 F0 48 i 1 R w λ j w=>
 L0 42 j R w λ k w=>
 B0 .eql 42 true k (.int .i64 9) R w λ d w=>
 Zr (λ (b:Vl) (w:Wd)=>
 Zw d b (.bool false) λ l=>
 Zq l (
 R (.returned (.bool true)) w) (
 B0 .add 3 true a (.int .i64 1) R w λ m w=>
 Zo m w)) λ e=>
 Zn d true (
 F0 24 c 1 R w λ n w=>
 L0 22 n R w λ o w=>
 X0 22 o a R w λ p w=>
 F0 48 p 9 R w λ q w=>
 L0 9 q R w λ r w=>
 B0 .eql 9 false r f R w λ b w=>
 e b w) (
 e undef w)
def n37 (b c d:Vl) (R:RT) (w:Wd):Prop:=
 opV Pg (Instr.box 24 b) (Zh R) w λ e w=>
 YS (λ a w Zo=>
 B0 .lss 3 false a d R w λ f w=>
 Zq f (
 ZaK c e a Zo R w) (
 R (.returned (.bool false)) w)) (.int .i64 0) w
theorem Zii {t0 t1 t2:Vl} {R:RT} {w:Wd} (h:n37 t0 t1 t2 R w):Calls Pg 151 #[t0,t1,t2] w R:=by
 refine yD func151 ?_
 refine zs<|zr<|yv h λ _ w h=>zm<|zn<|zk<|zs<|zs<|zr<|zm<|zn<|zk<|Zj<|yl1 [6,7,8,9,10,11,12,13,14,15,16,17,18,19,20,21,22,23,24,25,26,27,28,29] 7 h λ σ w next h=>zs ?_
 refine zs<|zr<|zm<|zm<|yb h λ _ w h=>zn<|zk<|yC h (λ h=>?_) λ h=>?_
 · refine Zi<|zk<|zs<|Zj<|zs<|Zu<|yG 8<|yv h λ _ w h=>yv h λ _ w h=>zm<|yv h λ _ w h=>yv h λ _ w h=>yv h λ _ w h=>yb h λ _ w h=>zm ?_
   refine zn<|yg1 8 7 true [21,22,23,24,25,26,27,28] 28 h (λ _ T hT h=>?_) λ σ w h=>?_
   · refine yv h λ _ w h=>yv h λ _ w h=>zm<|yv h λ _ w h=>yv h λ _ w h=>yv h λ _ w h=>zm<|yb h λ _ w h=>zn ?_
     exact zt hT h
   refine yG 1<|yp h λ _ h=>zn<|ZQ<|zk<|yC h (λ h=>zs<|zr<|zm<|zn<|zk<|Ze<|Zf<|Zb<|Zb<|Zf<|Zb<|Zk rfl rfl h) λ h=>Zi<|Zg<|zk<|zr<|zm<|yb h λ _ w h=>zm<|zn ?_
   exact zk<|⟨rfl,h⟩
 exact ZA<|Zc<|Zc<|Zp<|zk<|zs<|zr<|zm<|zn<|zk<|Ze<|Zk rfl rfl h
def Pw (b c d:Vl) (a:WPr) (e:WPr) (R:RT) (w:Wd):Prop:=
 a w∧(
 Yt Pg 101 #[c,d,(.func (.func 172) #[] #[])] (Zh R) w λ f w=>
 a w∧(
 S0 74 b f R w λ w=>
 Xt w λ g w=>
 e w))
def Px (b c:Vl) (a:WPr) (d:WPr) (R:RT) (w:Wd):Prop:=
 I0 74 b a λ e=>
 J0 48 c 2 a λ f=>
 I0 3 f a λ g=>
 C0 102 #[g] R w λ h w=>
 Pw b e h a d R w
def Py (b c d:Vl) (a:WPr) (e:WPr) (R:RT) (w:Wd):Prop:=
 a w∧(
 Yt Pg 101 #[c,d,(.func (.func 173) #[] #[])] (Zh R) w λ f w=>
 a w∧(
 S0 74 b f R w λ w=>
 Xt w λ g w=>
 e w))
def Pz (c b d:Vl) (a:WPr) (e:WPr) (R:RT) (w:Wd):Prop:=
 I0 74 b a λ f=>
 I0 124 c a λ g=>
 I0 48 d a λ h=>
 C0 127 #[g,h] R w λ i w=>
 Py b f i a e R w
def PA (d b a e:Vl) (Zo:KV) (R:RT) (w:Wd):Prop:=
 F0 48 a 1 R w λ f w=>
 L0 42 f R w λ g w=>
 B0 .eql 42 true g (.int .i64 10) R w λ h w=>
 Zr (λ (w:Wd)=>
 B0 .add 3 true e (.int .i64 1) R w λ i w=>
 Zo i w) λ c=>
 Zq h (
 Yy w λ j w=>
 Px b a j c R w) (
 Yy w λ k w=>
 Pz d b a k c R w)
def PB (a b c:Vl) (R:RT) (w:Wd):Prop:=
 F0 124 b 0 R w λ d w=>
 F0 24 d 1 R w λ e w=>
 L0 22 e R w λ f w=>
 G0 22 3 f R w λ g w=>
 L0 74 c R w λ h w=>
 XB Pg a #[g,h] (Zh R) w λ i w=>
 R (.returned (.tuple #[])) w
def PC (d e b f a:Vl) (Zo:KV) (R:RT) (w:Wd):Prop:=
 X0 22 f a R w λ g w=>
 L0 48 g R w λ h w=>
 opV Pg (Instr.alloc 48 true (.tuple #[])) (Zh R) w λ c w=>
 S0 48 c h R w λ w=>
 L0 74 b R w λ i w=>
 XB Pg d #[a,i] (Zh R) w λ j w=>
 N0 j R w λ k w=>
 Zq k (
 R (.returned (.tuple #[])) w) (
 PA e b c a Zo R w)
def Zb3 (b a:Vl) (R:RT) (w:Wd):Prop:=
 opV Pg (Instr.alloc 74 true (.tuple #[])) (Zh R) w λ c w=>
 F0 124 a 0 R w λ f w=>
 F0 24 f 1 R w λ g w=>
 L0 22 g R w λ d w=>
 G0 22 3 d R w λ h w=>
 YS (λ e w Zo=>
 B0 .lss 3 false e h R w λ i w=>
 Zq i (
 PC b a c d e Zo R w) (
 PB b a c R w)) (.int .i64 0) w
theorem Zfv {t0 t1:Vl} {R:RT} {w:Wd} (h:Zb3 t0 t1 R w):Calls Pg 171 #[t0,t1] w R:=by
 refine yD func171 ?_
 unfold Zb3 at h
 refine zs<|zr<|yv h λ _ w h=>zn<|zk<|zs<|zs<|zr<|yv h λ _ w h=>yv h λ _ w h=>yv h λ _ w h=>yx h λ _ w h=>zm<|zn<|zk ?_
 refine Zj<|yl1 [4,5,10,11,12,13,14,15,16,17,18,19,20,21,22,23,24,25,26,27,28,29,30,31,32,33] 10 h λ σ w next h=>zs<|zr<|yb h λ _ w h=>zn<|zk<|zs<|yC h (λ h=>?_) λ h=>?_
 · refine Zi<|zk<|zs<|Zj<|zs<|zr<|zm<|yv h λ _ w h=>yv h λ _ w h=>yv h λ _ w h=>zm<|yu h λ w h=>zn<|zk<|zs ?_
   refine zs<|zr<|zm<|zm<|yv h λ _ w h=>yV h λ _ w h=>yv h λ _ w h=>zn<|zk<|yC h (λ h=>Ze<|Zb<|Zf<|Zb<|Zb<|Zf<|Zb<|Z1 rfl h) λ h=>Zi<|zk<|zs<|zr ?_
   refine yv h λ _ w h=>yv h λ _ w h=>yb h λ _ w h=>zn<|zk<|yJ0 [23,24,25,26,27,28,29,30,31,32] h (λ _ _ hkK2 h=>?_) λ σ w h=>?_
   · refine yC h (λ h=>?_) λ h=>?_
     · refine yh [23,24,25,26,27] h λ C hC h=>ye 0 hC h λ _ h=>?_
       refine ye 1 hC h λ _ h=>?_
       refine ye 2 hC h λ _ h=>?_
       refine yo 3 ?_
       refine yc h Ex λ _ w h=>zn ?_
       obtain ⟨hC,h⟩:=h
       refine ⟨hC,?_⟩
       refine yo 4 ?_
       refine yc h Ew λ _ w h=>zn ?_
       obtain ⟨hC,h⟩:=h
       refine ⟨hC,?_⟩
       refine yq 5 1 ?_
       refine yu h λ w h=>zn ?_
       obtain ⟨C4,hC,h⟩:=h
       refine ⟨C4,hC,?_⟩
       refine yz<|zk ?_
       exact zt hkK2 h
     refine yh [28,29,30,31,32] h λ C hC h=>ye 0 hC h λ _ h=>?_
     refine ye 1 hC h λ _ h=>?_
     refine ye 2 hC h λ _ h=>?_
     refine yo 3 ?_
     refine yc h ZcS λ _ w h=>zn ?_
     obtain ⟨hC,h⟩:=h
     refine ⟨hC,?_⟩
     refine yo 4 ?_
     refine yc h Ew λ _ w h=>zn ?_
     obtain ⟨hC,h⟩:=h
     refine ⟨hC,?_⟩
     refine yq 5 1 ?_
     refine yu h λ w h=>zn ?_
     obtain ⟨C6,hC,h⟩:=h
     refine ⟨C6,hC,?_⟩
     refine yz<|zk ?_
     exact zt hkK2 h
   exact Zg<|zk<|zr<|yb h λ _ w h=>zm<|zn<|zk<|⟨rfl,h⟩
 refine ZA<|Zc<|Zc<|Zp<|zk<|zr<|zm<|yv h λ _ w h=>yv h λ _ w h=>yv h λ _ w h=>yx h λ _ w h=>yv h λ _ w h=>yV h λ _ w h=>zn<|ZU ?_
 exact Z1 rfl h
def ZfI (b a:Vl) (R:RT) (w:Wd):Prop:=
 B0 .add 3 false b a R w λ c w=>
 B0 .sub 3 true c (.int .i64 1) R w λ d w=>
 B0 .quo 3 false d a R w λ e w=>
 B0 .mul 3 false e a R w λ f w=>
 opV Pg (Builtin.min_ #[3,3] 3 #[(.int .i64 1099511627776),f]) (Zh R) w λ g w=>
 R (.returned g) w
theorem ZfJ {t0 t1:Vl} {R:RT} {w:Wd} (h:ZfI t0 t1 R w):Calls Pg 172 #[t0,t1] w R:=by
 refine yD func172 ?_
 refine zs<|zr<|zm<|zn<|zk<|zs<|zr<|zm<|zm<|yb h λ _ w h=>yb h λ _ w h=>zm<|yb h λ _ w h=>zm<|yb h λ _ w h=>?_
 exact yx h λ _ w h=>zm<|zn<|zk<|Ze<|Zk rfl rfl h
def ZfC (a b:Vl) (R:RT) (w:Wd):Prop:=
 B0 .add 3 false a b R w λ c w=>
 opV Pg (Builtin.min_ #[3,3] 3 #[(.int .i64 1099511627776),c]) (Zh R) w λ d w=>
 R (.returned d) w
theorem ZfD {t0 t1:Vl} {R:RT} {w:Wd} (h:ZfC t0 t1 R w):Calls Pg 173 #[t0,t1] w R:=by
 refine yD func173 ?_
 refine zs<|zr<|zm<|zn<|zk<|zs<|zr<|zm<|zm<|yb h λ _ w h=>yx h λ _ w h=>zm<|zn<|zk<|Ze ?_
 exact Zk rfl rfl h
def Zah (b d c:Vl) (a:WPr) (Xs:KV) (R:RT) (w:Wd):Prop:=
 J0 45 b 1 a λ e=>
 I0 43 e a λ f=>
 M0 43 f c a λ g=>
 J0 62 g 0 a λ h=>
 I0 9 h a λ i=>
 J0 45 b 1 a λ j=>
 I0 43 j a λ k=>
 M0 43 k d a λ l=>
 J0 62 l 0 a λ m=>
 I0 9 m a λ n=>
 qV Pg a (ZI .eql 9 false i n) λ o=>
 Zq o (
 R (.returned (.bool false)) w) (
 B0 .add 3 true c (.int .i64 1) R w λ p w=>
 Xs p w)
def Zai (c a b:Vl) (ZT:KV) (Xs:KV) (R:RT) (w:Wd):Prop:=
 B0 .lss 3 false b a R w λ d w=>
 Zq d (
 Yy w λ e w=>
 Zah c a b e Xs R w) (
 B0 .add 3 true a (.int .i64 1) R w λ f w=>
 ZT f w)
def Lr (b c f g:Vl) (ZT:KV) (R:RT) (w:Wd):Prop:=
 Zw f (.bool true) g λ d=>
 Zr (λ (a:Vl) (w:Wd)=>
 Zw d (.bool true) a λ h=>
 Zq h (
 R (.returned (.bool false)) w) (
 YS (λ i w Xs=>
 Zai b c i ZT Xs R w) (.int .i64 0) w)) λ e=>
 Zn d false (
 F0 45 b 1 R w λ j w=>
 L0 43 j R w λ k w=>
 X0 43 k c R w λ l w=>
 F0 62 l 1 R w λ m w=>
 L0 3 m R w λ n w=>
 C0 190 #[n] R w λ o w=>
 N0 o R w λ a w=>
 e a w) (
 e undef w)
def Zaj (b c f:Vl) (ZT:KV) (R:RT) (w:Wd):Prop:=
 N0 f R w λ d w=>
 Zr (λ (a:Vl) (w:Wd)=>
 Lr b c d a ZT R w) λ e=>
 Zn d false (
 F0 45 b 1 R w λ g w=>
 L0 43 g R w λ h w=>
 X0 43 h c R w λ i w=>
 F0 62 i 1 R w λ j w=>
 L0 3 j R w λ k w=>
 B0 .eql 3 true k (.int .i64 0) R w λ a w=>
 e a w) (
 e undef w)
def Zak (a b:Vl) (ZT:KV) (R:RT) (w:Wd):Prop:=
 F0 45 a 1 R w λ c w=>
 L0 43 c R w λ d w=>
 X0 43 d b R w λ e w=>
 F0 62 e 0 R w λ f w=>
 L0 9 f R w λ g w=>
 C0 89 #[g] R w λ h w=>
 Zaj a b h ZT R w
def PQ (a b:Vl) (ZT:KV) (R:RT) (w:Wd):Prop:=
 F0 45 a 1 R w λ c w=>
 L0 43 c R w λ d w=>
 G0 43 3 d R w λ e w=>
 B0 .lss 3 false b e R w λ f w=>
 Zq f (
 Zak a b ZT R w) (
 R (.returned (.bool true)) w)
def Zal (b e:Vl) (R:RT) (w:Wd):Prop:=
 N0 e R w λ c w=>
 Zr (λ (a:Vl) (w:Wd)=>
 Zw c (.bool true) a λ f=>
 Zq f (
 R (.returned (.bool false)) w) (
 YS (λ g w ZT=>
 PQ b g ZT R w) (.int .i64 0) w)) λ d=>
 Zn c false (
 F0 45 b 1 R w λ h w=>
 L0 43 h R w λ i w=>
 G0 43 3 i R w λ j w=>
 B0 .gtr 3 true j (.int .i64 4) R w λ a w=>
 d a w) (
 d undef w)
def n18 (b:Vl) (R:RT) (w:Wd):Prop:=
 opV Pg (Instr.box 45 b) (Zh R) w λ a w=>
 F0 45 a 0 R w λ c w=>
 L0 3 c R w λ d w=>
 C0 190 #[d] R w λ e w=>
 Zal a e R w
set_option maxHeartbeats 40000000 in
theorem Zh0 {t0:Vl} {R:RT} {w:Wd} (h:n18 t0 R w):Calls Pg 174 #[t0] w R:=by
 refine yD func174 ?_
 refine zs<|zr<|yv h λ _ w h=>zm<|zn<|zk<|zs<|zs<|Zu<|yG 5<|yv h λ _ w h=>yv h λ _ w h=>yc h Zc4 λ _ w h=>yv h λ _ w h=>zm ?_
 refine zn<|yg1 4 4 false [10,11,12,13] 13 h (λ _ T hT h=>?_) λ σ w h=>?_
 · refine yv h λ _ w h=>yv h λ _ w h=>yx h λ _ w h=>yb h λ _ w h=>zn ?_
   exact zt hT h
 refine yG 1<|yp h λ _ h=>zn<|ZQ<|zk<|yC h (λ h=>zs<|zr<|zm<|zn<|zk<|Ze<|Zb<|Zk rfl rfl h) λ h=>Zi<|zk<|zs<|zs<|zr<|zm<|zn<|zk ?_
 refine Zj<|yl1 [2,3,4,15,16,17,18,19,20,21,22,23,24,25,26,27,28,29,30,31,32,33,34,35,36,37,38,39,40,41,42,43,44,45,46,47,48,49,50,51,52,53,54,55,56,57,58,59,60,61,62,63,64,65,66] 3 h λ σ w next h=>zs<|zs<|zr<|zm<|yv h λ _ w h=>yv h λ _ w h=>yx h λ _ w h=>yb h λ _ w h=>zn<|zk<|yC h (λ h=>?_) λ h=>?_
 · refine Zi<|zk<|zs<|Zj<|zs<|zs<|Zu<|yG 9<|yv h λ _ w h=>yv h λ _ w h=>zm<|yv h λ _ w h=>yv h λ _ w h=>yv h λ _ w h=>yc h c89 λ _ w h=>?_
   refine yv h λ _ w h=>zm<|zn<|yg1 7 8 false [31,32,33,34,35,36,37] 37 h (λ _ T hT h=>?_) λ σ w h=>?_
   · refine yv h λ _ w h=>yv h λ _ w h=>zm<|yv h λ _ w h=>yv h λ _ w h=>yv h λ _ w h=>yb h λ _ w h=>zn ?_
     exact zt hT h
   refine yG 2<|yp h λ _ h=>zm<|zn<|yg1 8 17 false [40,41,42,43,44,45,46,47] 47 h (λ _ T hT h=>?_) λ σ w h=>?_
   · refine yv h λ _ w h=>yv h λ _ w h=>zm<|yv h λ _ w h=>yv h λ _ w h=>yv h λ _ w h=>yc h Zc4 λ _ w h=>yv h λ _ w h=>zn ?_
     exact zt hT h
   refine yG 1<|yp h λ _ h=>zn<|ZQ<|zk<|yC h (λ h=>zs<|zr<|zm<|zn<|zk<|Ze<|Zb<|Zf<|Zb<|Zb<|Zf<|Zb<|Zk rfl rfl h) λ h=>Zi<|zk<|zs<|zr<|zm<|zn<|zk<|Zj ?_
   refine yl1 [2,4,49,50,51,52,53,54,55,56,57,58,59,60,61,62,63,64,65,66] 4 h λ σ w next h=>zs<|zs<|zr<|zm<|zm<|yb h λ _ w h=>zn<|zk<|yC h (λ h=>?_) λ h=>?_
   · refine Zi<|zk<|zs<|Zj<|zs<|yh [54,55,56,57,58,59,60,61,62,63,64,65,66] h λ C hC h=>ye 0 hC h λ _ h=>?_
     refine ye 1 hC h λ _ h=>?_
     refine yw 2 hC ?_
     refine ye 3 hC h λ _ h=>?_
     refine ye 4 hC h λ _ h=>?_
     refine ye 5 hC h λ _ h=>?_
     refine ye 6 hC h λ _ h=>?_
     refine ye 7 hC h λ _ h=>?_
     refine yw 8 hC ?_
     refine ye 9 hC h λ _ h=>?_
     refine ye 10 hC h λ _ h=>?_
     refine ye 11 hC h λ _ h=>?_
     refine ye 12 hC h λ _ h=>?_
     refine yz<|zk<|yC h (λ h=>?_) λ h=>?_
     · refine zs<|zr<|zm<|zn<|zk<|Ze<|Zf<|Zb<|Zb<|Zf<|Zf<|Zb<|Zb<|Zf<|Zb ?_
       exact Zk rfl rfl h
     exact Zi<|Zg<|zk<|zr<|zm<|yb h λ _ w h=>zm<|zn<|zk<|⟨rfl,h⟩
   exact ZA<|Zc<|Zc<|Zp<|Zg<|zk<|zr<|zm<|yb h λ _ w h=>zm<|zn<|zk<|⟨rfl,h⟩
 exact ZA<|Zc<|Zc<|Zp<|zk<|zs<|zr<|zm<|zn<|zk<|Ze<|Zk rfl rfl h
def Zac (d e a b:Vl) (Zo:KW) (R:RT) (w:Wd):Prop:=
 X0 173 d b R w λ f w=>
 F0 206 f 0 R w λ g w=>
 L0 9 g R w λ h w=>
 B0 .eql 9 false h e R w λ i w=>
 Zr (λ (a:Vl) (w:Wd)=>
 B0 .add 3 true b (.int .i64 1) R w λ j w=>
 Zo a j w) λ c=>
 Zq i (
 c b w) (
 c a w)
def OZ (a d b c:Vl) (Zo:KW) (R:RT) (w:Wd):Prop:=
 G0 173 3 a R w λ e w=>
 B0 .lss 3 false c e R w λ f w=>
 Zq f (
 Zac a d b c Zo R w) (
 R (.returned b) w)
def n14 (a b:Vl) (R:RT) (w:Wd):Prop:=
 Qi (λ c d w Zo=>
 OZ a b c d Zo R w) (.int .i64 (-1)) (.int .i64 0) w
theorem ZhX {t0 t1:Vl} {R:RT} {w:Wd} (h:n14 t0 t1 R w):Calls Pg 175 #[t0,t1] w R:=by
 refine yD func175 ?_
 refine zs<|zr<|zm<|zn<|zk<|zs<|zr<|zm<|zn<|zk<|zs<|zs<|zr<|zm<|zn ?_
 refine zk<|Zj<|yl2 [5,6,7,8,9,10,11,12,13,14,15,16,17,18,19,20] 5 6 h λ σ w next h=>zs<|zs<|zr<|zm<|zm<|yx h λ _ w h=>yb h λ _ w h=>zn<|zk<|yC h (λ h=>?_) λ h=>?_
 · refine Zi<|zk<|zs<|Zj<|zs<|zr<|zm<|zm<|yv h λ _ w h=>yv h λ _ w h=>yv h λ _ w h=>zm<|yb h λ _ w h=>zn<|zk ?_
   refine yJ1 [5,20] 5 h (λ _ _ hkK2 h=>?_) λ σ w h=>?_
   · refine yC h (λ h=>?_) λ h=>?_
     · refine zr<|zm<|zm<|zn<|zk ?_
       exact zt hkK2 h
     refine Zi<|zk ?_
     exact zt hkK2 h
   exact Zg<|zk<|zr<|zm<|yb h λ _ w h=>zm<|zn<|zk<|⟨rfl,h⟩
 exact ZA<|Zc<|Zc<|Zp<|zk<|zs<|zr<|zm<|zm<|zn<|zk<|Ze<|Zk rfl rfl h
def Zei (a b:Vl) (R:RT) (w:Wd):Prop:=
 C0 192 #[a,b] R w λ c w=>
 B0 .geq 3 true c (.int .i64 0) R w λ d w=>
 R (.returned d) w
theorem Zej {t0 t1:Vl} {R:RT} {w:Wd} (h:Zei t0 t1 R w):Calls Pg 182 #[t0,t1] w R:=by
 refine yD func182 ?_
 refine zs<|zr<|zm<|zn<|zk<|zs<|zr<|zm<|zm<|yc h Zhg λ _ w h=>yb h λ _ w h=>zm<|zn<|zk<|Ze ?_
 exact Zk rfl rfl h
def OS (b c a:Vl) (Zo:KV) (R:RT) (w:Wd):Prop:=
 X0 200 b a R w λ d w=>
 L0 5 d R w λ e w=>
 XB Pg c #[e] (Zh R) w λ f w=>
 Zq f (
 R (.returned a) w) (
 B0 .add 3 true a (.int .i64 1) R w λ g w=>
 Zo g w)
def Zew (a c:Vl) (R:RT) (w:Wd):Prop:=
 G0 200 3 a R w λ d w=>
 YS (λ b w Zo=>
 B0 .lss 3 false b d R w λ e w=>
 Zq e (
 OS a c b Zo R w) (
 R (.returned (.int .i64 (-1))) w)) (.int .i64 0) w
theorem Zex {t0 t1:Vl} {R:RT} {w:Wd} (h:Zew t0 t1 R w):Calls Pg 183 #[t0,t1] w R:=by
 refine yD func183 ?_
 refine zs<|zr<|zm<|zn<|zk<|zs<|zs<|zr<|zm<|yx h λ _ w h=>zm<|zn<|zk<|Zj<|yl1 [4,5,8,9,10,11,12,13,14,15,16,17,18] 8 h λ σ w next h=>?_
 refine zs<|zr<|yb h λ _ w h=>zn<|zk<|zs<|yC h (λ h=>?_) λ h=>?_
 · refine Zi<|zk<|zs<|Zj<|zs<|zr<|zm<|zm<|zn<|zk<|zs<|zr<|zm<|zm<|zm ?_
   refine yv h λ _ w h=>yv h λ _ w h=>yV h λ _ w h=>zn<|zk<|yC h (λ h=>zs<|zr<|zm<|zm<|zn<|zk<|Ze<|Zf<|Zb<|Zb<|Zf<|Zb<|Zk rfl rfl h) λ h=>Zi<|Zg<|zk<|zr<|yb h λ _ w h=>zm<|zn<|zk ?_
   exact ⟨rfl,h⟩
 exact ZA<|Zc<|Zc<|Zp<|zk<|zs<|zr<|zm<|zn<|zk<|Ze<|Zk rfl rfl h
def Zbc (b:Vl) (a:WPr) (R:RT) (w:Wd):Prop:=
 qN Pg a (Xb b) λ c=>
 J0 164 c 5 a λ d=>
 J0 24 d 1 a λ e=>
 I0 22 e a λ f=>
 qN Pg a (Xb b) λ g=>
 J0 164 g 4 a λ h=>
 I0 3 h a λ i=>
 qV Pg a (Instr.sliceAt 22 f none (some i) none) λ j=>
 R (.returned j) w
def n64 (a:Vl) (R:RT) (w:Wd):Prop:=
 Yy w λ b w=>
 Zbc a b R w
theorem ZiI {t0:Vl} {R:RT} {w:Wd} (h:n64 t0 R w):Calls Pg 184 #[t0] w R:=by
 refine yD func184 ?_
 refine zs<|zr<|zm<|zn<|zk<|zs<|yh [2,3,4,5,6,7,8,9,10,11,12] h λ C hC h=>yw 0 hC ?_
 refine yn 1 hC h λ _ h=>?_
 refine ye 2 hC h λ _ h=>?_
 refine ye 3 hC h λ _ h=>?_
 refine ye 4 hC h λ _ h=>?_
 refine yw 5 hC ?_
 refine yn 6 hC h λ _ h=>?_
 refine ye 7 hC h λ _ h=>?_
 refine ye 8 hC h λ _ h=>?_
 refine ye 9 hC h λ _ h=>?_
 refine yw 10 hC ?_
 exact yz<|zk<|Ze<|Zk rfl rfl h
def n78 (R:RT) (w:Wd):Prop:=
 opV Pg (Instr.makeMap 221 none) (Zh R) w λ a w=>
 opV Pg (Instr.build 219 #[(0,(.func (.func 193) #[] #[])),(1,(.func (.func 194) #[] #[]))]) (Zh R) w λ b w=>
 opU Pg (mapUpdate 221 a (.int .i64 1) b) (Zh R) w λ w=>
 opV Pg (Instr.build 219 #[(0,(.func (.func 197) #[] #[])),(1,(.func (.func 198) #[] #[]))]) (Zh R) w λ c w=>
 opU Pg (mapUpdate 221 a (.int .i64 2) c) (Zh R) w λ w=>
 opV Pg (Instr.build 219 #[(0,(.func (.func 199) #[] #[])),(1,(.func (.func 200) #[] #[]))]) (Zh R) w λ d w=>
 opU Pg (mapUpdate 221 a (.int .i64 3) d) (Zh R) w λ w=>
 opV Pg (Instr.build 219 #[(0,(.func (.func 201) #[] #[])),(1,(.func (.func 202) #[] #[]))]) (Zh R) w λ e w=>
 opU Pg (mapUpdate 221 a (.int .i64 4) e) (Zh R) w λ w=>
 opV Pg (Instr.build 219 #[(0,(.func (.func 203) #[] #[])),(1,(.func (.func 204) #[] #[]))]) (Zh R) w λ f w=>
 opU Pg (mapUpdate 221 a (.int .i64 5) f) (Zh R) w λ w=>
 opV Pg (Instr.build 219 #[(0,(.func (.func 205) #[] #[])),(1,(.func (.func 206) #[] #[]))]) (Zh R) w λ g w=>
 opU Pg (mapUpdate 221 a (.int .i64 6) g) (Zh R) w λ w=>
 opV Pg (Instr.build 219 #[(0,(.func (.func 207) #[] #[])),(1,(.func (.func 208) #[] #[]))]) (Zh R) w λ h w=>
 opU Pg (mapUpdate 221 a (.int .i64 7) h) (Zh R) w λ w=>
 opV Pg (Instr.build 219 #[(0,(.func (.func 210) #[] #[])),(1,(.func (.func 211) #[] #[]))]) (Zh R) w λ i w=>
 opU Pg (mapUpdate 221 a (.int .i64 8) i) (Zh R) w λ w=>
 opV Pg (Instr.build 219 #[(0,(.func (.func 212) #[] #[])),(1,(.func (.func 213) #[] #[]))]) (Zh R) w λ j w=>
 opU Pg (mapUpdate 221 a (.int .i64 9) j) (Zh R) w λ w=>
 opV Pg (Instr.build 219 #[(0,(.func (.func 214) #[] #[])),(1,(.func (.func 215) #[] #[]))]) (Zh R) w λ k w=>
 opU Pg (mapUpdate 221 a (.int .i64 10) k) (Zh R) w λ w=>
 opV Pg (Instr.build 219 #[(0,(.func (.func 216) #[] #[])),(1,(.func (.func 217) #[] #[]))]) (Zh R) w λ l w=>
 opU Pg (mapUpdate 221 a (.int .i64 11) l) (Zh R) w λ w=>
 opV Pg (Instr.build 219 #[(0,(.func (.func 218) #[] #[])),(1,(.func (.func 219) #[] #[]))]) (Zh R) w λ m w=>
 opU Pg (mapUpdate 221 a (.int .i64 12) m) (Zh R) w λ w=>
 R (.returned a) w
theorem ZiV {R:RT} {w:Wd} (h:n78 R w):Calls Pg 185 #[] w R:=by
 refine yD func185 ?_
 refine zs<|zr<|zm<|zn<|zk<|zs<|zr<|yv h λ _ w h=>yB h λ _ w h=>yu h λ w h=>yB h λ _ w h=>yu h λ w h=>yB h λ _ w h=>yu h λ w h=>yB h λ _ w h=>?_
 refine yu h λ w h=>yB h λ _ w h=>yu h λ w h=>yB h λ _ w h=>yu h λ w h=>yB h λ _ w h=>yu h λ w h=>yB h λ _ w h=>yu h λ w h=>yB h λ _ w h=>yu h λ w h=>yB h λ _ w h=>yu h λ w h=>yB h λ _ w h=>yu h λ w h=>?_
 exact yB h λ _ w h=>yu h λ w h=>zm<|zm<|zn<|zk<|Ze<|Zk rfl rfl h
def Zff (a b:Vl) (R:RT) (w:Wd):Prop:=
 C0 187 #[a] R w λ c w=>
 B0 .mul 3 false c b R w λ d w=>
 R (.returned d) w
theorem Zfg {t0 t1:Vl} {R:RT} {w:Wd} (h:Zff t0 t1 R w):Calls Pg 186 #[t0,t1] w R:=by
 refine yD func186 ?_
 refine zs<|zr<|zm<|zn<|zk<|zs<|zr<|zm<|yc h Zhf λ _ w h=>zm<|yb h λ _ w h=>zm<|zn<|zk<|Ze ?_
 exact Zk rfl rfl h
def O8 (a b:Vl) (Zo:KW) (R:RT) (w:Wd):Prop:=
 B0 .geq 3 true a (.int .i64 128) R w λ c w=>
 Zq c (
 opV Pg (ZI .shr 3 true a (.int .u64 7)) (Zh R) w λ d w=>
 B0 .add 3 true b (.int .i64 1) R w λ e w=>
 Zo d e w) (
 R (.returned b) w)
def Ze2 (a:Vl) (R:RT) (w:Wd):Prop:=
 Qi (λ a b w Zo=>
 O8 a b Zo R w) a (.int .i64 1) w
theorem Ze3 {t0:Vl} {R:RT} {w:Wd} (h:Ze2 t0 R w):Calls Pg 187 #[t0] w R:=by
 refine yD func187 ?_
 refine zs<|zr<|zm<|zn<|zk<|zs<|zs<|zr<|zm<|zn<|zk<|Zj<|yl2 [0,2,3,4,5,6,7,8] 0 2 h λ σ w next h=>zs<|zs ?_
 refine zr<|zm<|yb h λ _ w h=>zn<|zk<|yC h (λ h=>?_) λ h=>?_
 · refine Zi<|zk<|zs<|Zj<|zr<|zm<|yb h λ _ w h=>zm<|zn<|Zg<|zk<|zr<|zm<|yb h λ _ w h=>zm ?_
   exact zn<|zk<|⟨rfl,h⟩
 exact ZA<|Zc<|Zc<|Zp<|zk<|zs<|zr<|zm<|zm<|zn<|zk<|Ze<|Zk rfl rfl h
def qb (b c d e:Vl) (a:WPr) (Zo:KW) (R:RT) (w:Wd):Prop:=
 qV Pg a (ZI .mul 3 false d e) λ f=>
 qV Pg a (ZI .add 3 false b f) λ g=>
 B0 .add 3 true c (.int .i64 1) R w λ h w=>
 Zo g h w
def qc (c d b e:Vl) (a:WPr) (Zo:KW) (R:RT) (w:Wd):Prop:=
 J0 62 b 1 a λ f=>
 I0 3 f a λ g=>
 I0 62 b a λ h=>
 XB Pg c #[h] (Zh R) w λ i w=>
 a w∧(
 qb d e g i a Zo R w)
def qd (c d e a:Vl) (Zo:KW) (R:RT) (w:Wd):Prop:=
 X0 43 e a R w λ f w=>
 L0 62 f R w λ g w=>
 opV Pg (Instr.alloc 62 true (.tuple #[])) (Zh R) w λ b w=>
 S0 62 b g R w λ w=>
 Yy w λ h w=>
 qc c d b a h Zo R w
def Zd0 (e f:Vl) (R:RT) (w:Wd):Prop:=
 opV Pg (Instr.box 45 e) (Zh R) w λ a w=>
 F0 45 a 0 R w λ g w=>
 L0 3 g R w λ h w=>
 F0 45 a 1 R w λ i w=>
 L0 43 i R w λ b w=>
 G0 43 3 b R w λ j w=>
 Qi (λ c d w Zo=>
 B0 .lss 3 false d j R w λ k w=>
 Zq k (
 qd f c b d Zo R w) (
 R (.returned c) w)) h (.int .i64 0) w
theorem Zd1 {t0 t1:Vl} {R:RT} {w:Wd} (h:Zd0 t0 t1 R w):Calls Pg 231 #[t0,t1] w R:=by
 refine yD func231 ?_
 refine zs<|zr<|yv h λ _ w h=>zm<|zn<|zk<|zs<|zr<|yv h λ _ w h=>yv h λ _ w h=>zm<|zn<|zk<|zs<|zs ?_
 refine zr<|yv h λ _ w h=>yv h λ _ w h=>yx h λ _ w h=>zm<|zn<|zk<|Zj<|yl2 [5,7,13,14,15,16,17,18,19,20,21,22,23,24,25] 5 13 h λ σ w next h=>zs<|zr<|yb h λ _ w h=>zn<|zk<|zs ?_
 refine yC h (λ h=>?_) λ h=>?_
 · refine Zi<|zk<|zs<|Zj<|zs<|zr<|yv h λ _ w h=>yv h λ _ w h=>yv h λ _ w h=>yu h λ w h=>zn<|zk<|yh [5,17,18,19,20,21,22,23,24] h λ C hC h=>yw 0 hC ?_
   refine ye 1 hC h λ _ h=>?_
   refine ye 2 hC h λ _ h=>?_
   refine yw 3 hC ?_
   refine ye 4 hC h λ _ h=>?_
   refine yo 5 ?_
   refine yV h λ _ w h=>zn ?_
   obtain ⟨hC,h⟩:=h
   refine ⟨hC,?_⟩
   refine ye 6 hC h λ _ h=>?_
   refine ye 7 hC h λ _ h=>?_
   refine yw 8 hC ?_
   exact yz<|Zg<|zk<|zr<|yb h λ _ w h=>zm<|zn<|zk<|⟨rfl,h⟩
 exact ZA<|Zc<|Zc<|Zp<|zk<|zs<|zr<|zm<|zm<|zn<|zk<|Ze<|Zk rfl rfl h
def KT (a b:Vl) (R:RT) (w:Wd):Prop:=
 L0 122 a R w λ c w=>
 F0 62 b 0 R w λ d w=>
 L0 9 d R w λ e w=>
 opV Pg (Instr.lookup 122 c e false) (Zh R) w λ f w=>
 opV Pg (Instr.field 74 f 1) (Zh R) w λ g w=>
 R (.returned g) w
def ZdF (d b e:Vl) (R:RT) (w:Wd):Prop:=
 opV Pg (Instr.box 62 d) (Zh R) w λ a w=>
 L0 122 b R w λ f w=>
 F0 62 a 0 R w λ g w=>
 L0 9 g R w λ h w=>
 opV Pg (Instr.lookup 122 f h false) (Zh R) w λ i w=>
 opV Pg (Instr.alloc 74 true (.tuple #[])) (Zh R) w λ c w=>
 S0 74 c i R w λ w=>
 L0 4 e R w λ j w=>
 F0 62 a 1 R w λ k w=>
 L0 3 k R w λ l w=>
 B0 .gtr 3 true l (.int .i64 0) R w λ m w=>
 B0 .eql 4 false j m R w λ n w=>
 Zq n (
 F0 74 c 0 R w λ o w=>
 L0 3 o R w λ p w=>
 R (.returned p) w) (
 KT b a R w)
theorem ZdG {t0 t1 t2:Vl} {R:RT} {w:Wd} (h:ZdF t0 t1 t2 R w):Calls Pg 232 #[t0,t1,t2] w R:=by
 refine yD func232 ?_
 refine zs<|zr<|yv h λ _ w h=>zm<|zn<|zk<|zs<|zs<|zr<|yv h λ _ w h=>yv h λ _ w h=>yv h λ _ w h=>yv h λ _ w h=>yv h λ _ w h=>yu h λ w h=>?_
 refine zn<|zk<|zs<|zr<|yv h λ _ w h=>yv h λ _ w h=>yv h λ _ w h=>yb h λ _ w h=>yb h λ _ w h=>zn<|zk<|yC h (λ h=>zs<|zr<|yv h λ _ w h=>yv h λ _ w h=>zm<|zn<|zk<|Ze<|Zb<|Zk rfl rfl h) λ h=>Zi<|zk ?_
 exact zs<|zr<|yv h λ _ w h=>yv h λ _ w h=>yv h λ _ w h=>yv h λ _ w h=>yv h λ _ w h=>zm<|zn<|zk<|Ze<|Zk rfl rfl h
def AL (b c d:Vl) (a:WPr) (e:KV) (R:RT) (w:Wd):Prop:=
 opV Pg (buildSlice 93 3 #[(0,b),(1,c),(2,d)]) (Zh R) w λ f w=>
 a w∧(
 C0 158 #[f] R w λ g w=>
 a w∧(
 qV Pg a (Op.unary .not g) λ h=>
 e h w))
def AM (b:Vl) (a:WPr) (c:KV) (R:RT) (w:Wd):Prop:=
 J0 62 b 0 a λ d=>
 I0 9 d a λ e=>
 J0 62 b 1 a λ f=>
 I0 3 f a λ g=>
 qV Pg a (ZI .neq 3 true g (.int .i64 0)) λ h=>
 J0 62 b 1 a λ i=>
 I0 3 i a λ j=>
 C0 123 #[e] R w λ k w=>
 a w∧(
 C0 234 #[j] R w λ l w=>
 a w∧(
 AL k h l a c R w))
def ZdR (e b:Vl) (R:RT) (w:Wd):Prop:=
 opV Pg (Instr.box 62 e) (Zh R) w λ a w=>
 L0 162 b R w λ f w=>
 F0 62 a 0 R w λ g w=>
 L0 9 g R w λ h w=>
 opV Pg (Instr.lookup 162 f h false) (Zh R) w λ c w=>
 L0 162 b R w λ i w=>
 F0 62 a 0 R w λ j w=>
 L0 9 j R w λ k w=>
 opU Pg (mapUpdate 162 i k (.bool true)) (Zh R) w λ w=>
 Yy w λ l w=>
 Zr (λ (m:Vl) (w:Wd)=>
 Zw c (.bool true) m λ n=>
 R (.returned n) w) λ d=>
 Zn c false (
 AM a l d R w) (
 d undef w)
theorem ZdS {t0 t1:Vl} {R:RT} {w:Wd} (h:ZdR t0 t1 R w):Calls Pg 233 #[t0,t1] w R:=by
 refine yD func233 ?_
 refine zs<|zr<|yv h λ _ w h=>zm<|zn<|zk<|zs<|zr<|yv h λ _ w h=>yv h λ _ w h=>yv h λ _ w h=>yv h λ _ w h=>zm<|zn<|zk ?_
 refine zs<|zr<|yv h λ _ w h=>yv h λ _ w h=>yv h λ _ w h=>yu h λ w h=>zn<|zk<|zs<|yh [3,12,13,14,15,16,17,18,19,20,21,22,23,24,25,26] h λ C hC h=>yw 0 hC ?_
 refine yw 1 hC ?_
 refine yj1 2 [13,12,11,10,4,9,8,7,6,5,3,2,1,0] [14,15,16,17,18,19,20,21,22,23,24,25] 25 h (λ _ hT hb h=>?_) (λ _ hT hb h=>?_) λ σ w hC h=>?_
 · refine ye 2 hC h λ _ h=>?_
   refine ye 3 hC h λ _ h=>?_
   refine ye 5 hC h λ _ h=>?_
   refine ye 6 hC h λ _ h=>?_
   refine ye 7 hC h λ _ h=>?_
   refine ye 8 hC h λ _ h=>?_
   refine ye 9 hC h λ _ h=>?_
   refine yo 4 ?_
   refine yc h SO λ _ w h=>zn ?_
   obtain ⟨hC,h⟩:=h
   refine ⟨hC,?_⟩
   refine yo 10 ?_
   refine yc h Zc9 λ _ w h=>zn ?_
   obtain ⟨hC,h⟩:=h
   refine ⟨hC,?_⟩
   refine yo 11 ?_
   refine yS h λ _ w h=>zn ?_
   obtain ⟨hC,h⟩:=h
   refine ⟨hC,?_⟩
   refine yo 12 ?_
   refine yc h SQ λ _ w h=>zn ?_
   obtain ⟨hC,h⟩:=h
   refine ⟨hC,?_⟩
   refine ye 13 hC h λ _ h=>?_
   exact yt hT hC h
 · refine yi 2 hC ?_
   refine yi 3 hC ?_
   refine yi 5 hC ?_
   refine yi 6 hC ?_
   refine yi 7 hC ?_
   refine yi 8 hC ?_
   refine yi 9 hC ?_
   refine yi 4 hC ?_
   refine yi 10 hC ?_
   refine yi 11 hC ?_
   refine yi 12 hC ?_
   refine yi 13 hC ?_
   exact yt hT hC h
 refine yP 14 hC h λ _ h=>?_
 refine yw 15 hC ?_
 exact yz<|zk<|Ze<|Zk rfl rfl h
def Zd2 (b:Vl) (R:RT) (w:Wd):Prop:=
 opV Pg (ZI .geq 3 true b (.int .i64 (-1048576))) (Zh R) w λ c w=>
 Zr (λ (a:Vl) (w:Wd)=>
 Zw c a (.bool false) λ e=>
 R (.returned e) w) λ d=>
 Zn c true (
 B0 .leq 3 true b (.int .i64 1048576) R w λ a w=>
 d a w) (
 d undef w)
theorem Zd3 {t0:Vl} {R:RT} {w:Wd} (h:Zd2 t0 R w):Calls Pg 234 #[t0] w R:=by
 refine yD func234 ?_
 refine zs<|zr<|zm<|zn<|zk<|zs<|Zu<|yG 3<|zm<|yb h λ _ w h=>zm<|zn<|yg1 2 2 true [6,7] 7 h (λ _ T hT h=>?_) λ σ w h=>?_
 · refine zm<|yb h λ _ w h=>zn ?_
   exact zt hT h
 exact yG 2<|yp h λ _ h=>zm<|zn<|ZQ<|zk<|Ze<|Zk rfl rfl h
def Zee (a b:Vl) (R:RT) (w:Wd):Prop:=
 C0 238 #[a,b] R w λ c w=>
 B0 .geq 3 true c (.int .i64 0) R w λ d w=>
 R (.returned d) w
theorem Zef {t0 t1:Vl} {R:RT} {w:Wd} (h:Zee t0 t1 R w):Calls Pg 235 #[t0,t1] w R:=by
 refine yD func235 ?_
 refine zs<|zr<|zm<|zn<|zk<|zs<|zr<|zm<|zm<|yc h ZhO λ _ w h=>yb h λ _ w h=>zm<|zn<|zk<|Ze ?_
 exact Zk rfl rfl h
def Cv (a b:Vl) (R:RT) (w:Wd):Prop:=
 F0 48 a 5 R w λ c w=>
 L0 3 c R w λ d w=>
 F0 48 a 5 R w λ e w=>
 L0 3 e R w λ f w=>
 opV Pg (Instr.build 74 #[(0,d),(1,f)]) (Zh R) w λ g w=>
 S0 74 b g R w λ w=>
 qW Pg 74 b w λ r0=>
 R (.returned (.tuple #[r0,(.int .i64 0)])) w
def Cw (a b:Vl) (R:RT) (w:Wd):Prop:=
 F0 48 a 5 R w λ c w=>
 L0 3 c R w λ d w=>
 F0 48 a 6 R w λ e w=>
 L0 3 e R w λ f w=>
 opV Pg (Instr.build 74 #[(0,d),(1,f)]) (Zh R) w λ g w=>
 S0 74 b g R w λ w=>
 qW Pg 74 b w λ r0=>
 R (.returned (.tuple #[r0,(.int .i64 0)])) w
def Cx (a:Vl) (R:RT) (w:Wd):Prop:=
 opV Pg (Instr.build 74 #[]) (Zh R) w λ b w=>
 S0 74 a b R w λ w=>
 qW Pg 74 a w λ r0=>
 R (.returned (.tuple #[r0,(.int .i64 2)])) w
def Cy (a b:Vl) (R:RT) (w:Wd):Prop:=
 F0 48 a 1 R w λ c w=>
 L0 42 c R w λ d w=>
 B0 .eql 42 true d (.int .i64 2) R w λ e w=>
 Zq e (
 Cv a b R w) (
 Cw a b R w)
def n59 (c:Vl) (R:RT) (w:Wd):Prop:=
 opV Pg (Instr.box 48 c) (Zh R) w λ a w=>
 opV Pg (Instr.alloc 74 true (.tuple #[])) (Zh R) w λ b w=>
 L0 48 a R w λ d w=>
 C0 49 #[d] R w λ e w=>
 N0 e R w λ f w=>
 Zq f (
 Cx b R w) (
 Cy a b R w)
theorem ZiD {t0:Vl} {R:RT} {w:Wd} (h:n59 t0 R w):Calls Pg 236 #[t0] w R:=by
 refine yD func236 ?_
 refine zs<|zr<|yv h λ _ w h=>yv h λ _ w h=>zm<|zn<|zk<|zs<|Zj<|zs<|zr<|yv h λ _ w h=>yc h c49 λ _ w h=>yv h λ _ w h=>zm ?_
 refine zn<|zk<|yC h (λ h=>zs<|zr<|yB h λ _ w h=>yu h λ w h=>zm<|zn<|zk<|Ze<|Zf<|Zb<|Yw rfl rfl rfl h) λ h=>zs<|zr<|yv h λ _ w h=>yv h λ _ w h=>yb h λ _ w h=>zm<|zn<|zk<|yC h (λ h=>zs<|zr<|yv h λ _ w h=>yv h λ _ w h=>yv h λ _ w h=>yv h λ _ w h=>yB h λ _ w h=>yu h λ w h=>zm<|zn<|zk<|Ze<|Zf<|Zb<|Yw rfl rfl rfl h) λ h=>Zi ?_
 exact Zg<|zk<|zs<|zr<|yv h λ _ w h=>yv h λ _ w h=>yv h λ _ w h=>yv h λ _ w h=>yB h λ _ w h=>yu h λ w h=>zm<|zn<|zk<|Ze<|Yw rfl rfl rfl h
def AJ (a b:Vl) (Zo:KV) (R:RT) (w:Wd):Prop:=
 N0 b R w λ c w=>
 Zq c (
 R (.returned (.tuple #[])) w) (
 B0 .add 3 true a (.int .i64 1) R w λ d w=>
 Zo d w)
def AK (c d a:Vl) (Zo:KV) (R:RT) (w:Wd):Prop:=
 X0 43 d a R w λ e w=>
 L0 62 e R w λ f w=>
 opV Pg (Instr.alloc 62 true (.tuple #[])) (Zh R) w λ b w=>
 S0 62 b f R w λ w=>
 F0 62 b 0 R w λ g w=>
 L0 9 g R w λ h w=>
 XB Pg c #[h] (Zh R) w λ i w=>
 AJ a i Zo R w
def ZdN (c d:Vl) (R:RT) (w:Wd):Prop:=
 L0 43 d R w λ a w=>
 G0 43 3 a R w λ e w=>
 YS (λ b w Zo=>
 B0 .lss 3 false b e R w λ f w=>
 Zq f (
 AK c a b Zo R w) (
 R (.returned (.tuple #[])) w)) (.int .i64 0) w
theorem ZdO {t0 t1:Vl} {R:RT} {w:Wd} (h:ZdN t0 t1 R w):Calls Pg 237 #[t0,t1] w R:=by
 refine yD func237 ?_
 refine zs<|zr<|yv h λ _ w h=>yx h λ _ w h=>zm<|zn<|zk<|Zj<|yl1 [4,7,8,9,10,11,12,13,14,15,16] 7 h λ σ w next h=>zs<|zr<|yb h λ _ w h=>zn<|zk<|zs ?_
 refine yC h (λ h=>?_) λ h=>?_
 · refine Zi<|zk<|zs<|Zj<|zs<|zr<|yv h λ _ w h=>yv h λ _ w h=>yv h λ _ w h=>yu h λ w h=>zn<|zk<|zs<|zr<|zm ?_
   refine yv h λ _ w h=>yv h λ _ w h=>yV h λ _ w h=>yv h λ _ w h=>zn<|zk<|yC h (λ h=>Ze<|Zf<|Zb<|Zb<|Zf<|Z1 rfl h) λ h=>Zi<|Zg<|zk<|zr<|yb h λ _ w h=>zm<|zn ?_
   exact zk<|⟨rfl,h⟩
 exact ZA<|Zc<|Zc<|Zp<|ZU<|Z1 rfl h
def OR (b c a:Vl) (Zo:KV) (R:RT) (w:Wd):Prop:=
 X0 43 b a R w λ d w=>
 L0 62 d R w λ e w=>
 XB Pg c #[e] (Zh R) w λ f w=>
 Zq f (
 R (.returned a) w) (
 B0 .add 3 true a (.int .i64 1) R w λ g w=>
 Zo g w)
def Zeu (a c:Vl) (R:RT) (w:Wd):Prop:=
 G0 43 3 a R w λ d w=>
 YS (λ b w Zo=>
 B0 .lss 3 false b d R w λ e w=>
 Zq e (
 OR a c b Zo R w) (
 R (.returned (.int .i64 (-1))) w)) (.int .i64 0) w
theorem Zev {t0 t1:Vl} {R:RT} {w:Wd} (h:Zeu t0 t1 R w):Calls Pg 238 #[t0,t1] w R:=by
 refine yD func238 ?_
 refine zs<|zr<|zm<|zn<|zk<|zs<|zs<|zr<|zm<|yx h λ _ w h=>zm<|zn<|zk<|Zj<|yl1 [4,5,8,9,10,11,12,13,14,15,16,17,18] 8 h λ σ w next h=>?_
 refine zs<|zr<|yb h λ _ w h=>zn<|zk<|zs<|yC h (λ h=>?_) λ h=>?_
 · refine Zi<|zk<|zs<|Zj<|zs<|zr<|zm<|zm<|zn<|zk<|zs<|zr<|zm<|zm<|zm ?_
   refine yv h λ _ w h=>yv h λ _ w h=>yV h λ _ w h=>zn<|zk<|yC h (λ h=>zs<|zr<|zm<|zm<|zn<|zk<|Ze<|Zf<|Zb<|Zb<|Zf<|Zb<|Zk rfl rfl h) λ h=>Zi<|Zg<|zk<|zr<|yb h λ _ w h=>zm<|zn<|zk ?_
   exact ⟨rfl,h⟩
 exact ZA<|Zc<|Zc<|Zp<|zk<|zs<|zr<|zm<|zn<|zk<|Ze<|Zk rfl rfl h
open Go.RowKit (intOf)
theorem Uu (w0:Wd) (v:Vl) (l:List Zl) (g:FuncId) (caps:AVl) (p:Zl→Bool) (hs:Yq w0 v l) (hg:Callable Pg g) (hc:jW w0 Yh g caps p l) :
 Ret Pg 134 #[v,.func (.func g) #[] caps] w0 λ r w'=>r = .int .i64 (idx p l)∧Ext w0 w':=by
 obtain ⟨A,c,rfl,hlc,hcm,hlm,Y3⟩:=Zd.open hs
 refine Zer (R:=ZO _) ?_
 unfold Zeq
 simp (disch:=try exact DI) only [↓PR,QR,simprocAttr]
 refine ZF (λ i w=>∃ k:Nat,i = .int .i64 k∧k≤l.length∧Ext w0 w∧∀ (j:Nat) y,j < k→l[j]?=some y→p y=false) (λ i _=>l.length - (intOf i).toNat) ⟨0,rfl,by omega,Ext.refl _,λ j y h=>by omega⟩ ?_
 rintro i w ⟨k,rfl,hk,e,hb⟩
 by_cases Yv:k < l.length
 · obtain ⟨x,hx⟩:=getElem?_lt Yv
   obtain ⟨b,o,cs,rfl,hl,hA,hE⟩:=Y3 k x hx
   have hd:decide ((k:Int) < (l.length:Int))=true:=by simp;omega
   simp (disch:=try exact DI) only [↓PR,QR,simprocAttr,hd]
   unfold OP
   simp (disch:=try exact DI) only [↓PR,QR,simprocAttr]
   unfold Up at hE
   obtain ⟨tv,cv,hcs,hT,hC⟩:=hE
   subst hcs
   have hV:Yh w0 (.agg (Zm x tv cv).toArray) x:=⟨tv,cv,rfl,hT,hC⟩
   simp (disch:=try exact DI) only [↓PR,QR,simprocAttr,hA.c15]
   rw [YZ hg]
   simp only [Array.empty_append]
   refine Zs (hc w _ x (List.mem_of_getElem? hx) e (hV.ext e)) ?_
   rintro r w' ⟨rfl,e'⟩
   cases hp:p x with
   | true => 
    simp (disch:=try exact DI) only [↓PR,QR,simprocAttr]
    exact ⟨by rw [WU hx hp hb],e.trans e'⟩
   | false=>
    simp (disch:=try exact DI) only [↓PR,QR,simprocAttr]
    refine ⟨⟨k+1,rfl,by omega,e.trans e',λ j y hj hy=>?_⟩,by simp [intOf];omega⟩
    by_cases hjk:j=k
    · subst hjk;rw [hx] at hy;injection hy with hy;subst hy;exact hp
    · exact hb j y (by omega) hy
 · have hd:decide ((k:Int) < (l.length:Int))=false:=by simp;omega
   simp (disch:=try exact DI) only [↓PR,QR,simprocAttr,hd]
   exact ⟨by rw [Ud λ j y hy=>hb j y (by have:=(List.getElem?_eq_some_iff.1 hy).1;omega) hy],e⟩
theorem Jo (w0:Wd) (v:Vl) (l:List ZC) (g:FuncId) (caps:AVl) (p:ZC→Bool) (hs:Vi w0 v l) (hg:Callable Pg g) (hc:jW w0 Qr g caps p l) :
 Ret Pg 97 #[v,.func (.func g) #[] caps] w0 λ r w'=>r = .int .i64 (idx p l)∧Ext w0 w':=by
 obtain ⟨A,c,rfl,hlc,hcm,hlm,Y3⟩:=Zd.open hs
 refine Zet (R:=ZO _) ?_
 unfold Zes
 simp (disch:=try exact DI) only [↓PR,QR,simprocAttr]
 refine ZF (λ i w=>∃ k:Nat,i = .int .i64 k∧k≤l.length∧Ext w0 w∧∀ (j:Nat) y,j < k→l[j]?=some y→p y=false) (λ i _=>l.length - (intOf i).toNat) ⟨0,rfl,by omega,Ext.refl _,λ j y h=>by omega⟩ ?_
 rintro i w ⟨k,rfl,hk,e,hb⟩
 by_cases Yv:k < l.length
 · obtain ⟨x,hx⟩:=getElem?_lt Yv
   obtain ⟨b,o,cs,rfl,hl,hA,hE⟩:=Y3 k x hx
   have hd:decide ((k:Int) < (l.length:Int))=true:=by simp;omega
   simp (disch:=try exact DI) only [↓PR,QR,simprocAttr,hd]
   unfold OQ
   simp (disch:=try exact DI) only [↓PR,QR,simprocAttr]
   unfold GW at hE
   obtain ⟨fv,hcs,hF⟩:=hE
   subst hcs
   have hV:Qr w0 (.agg (Z8 x fv).toArray) x:=⟨fv,rfl,hF⟩
   simp (disch:=try exact DI) only [↓PR,QR,simprocAttr,hA.c2]
   rw [YZ hg]
   simp only [Array.empty_append]
   refine Zs (hc w _ x (List.mem_of_getElem? hx) e (hV.ext e)) ?_
   rintro r w' ⟨rfl,e'⟩
   cases hp:p x with
   | true => 
    simp (disch:=try exact DI) only [↓PR,QR,simprocAttr]
    exact ⟨by rw [WU hx hp hb],e.trans e'⟩
   | false=>
    simp (disch:=try exact DI) only [↓PR,QR,simprocAttr]
    refine ⟨⟨k+1,rfl,by omega,e.trans e',λ j y hj hy=>?_⟩,by simp [intOf];omega⟩
    by_cases hjk:j=k
    · subst hjk;rw [hx] at hy;injection hy with hy;subst hy;exact hp
    · exact hb j y (by omega) hy
 · have hd:decide ((k:Int) < (l.length:Int))=false:=by simp;omega
   simp (disch:=try exact DI) only [↓PR,QR,simprocAttr,hd]
   exact ⟨by rw [Ud λ j y hy=>hb j y (by have:=(List.getElem?_eq_some_iff.1 hy).1;omega) hy],e⟩
theorem GX (w0:Wd) (v:Vl) (l:List UInt8) (g:FuncId) (caps:AVl) (p:UInt8→Bool) (hs:(λ w v l=>Zd w 1 TR v l) w0 v l) (hg:Callable Pg g) (hc:jW w0 (λ _ v x=>v = .int .u8 (x.toNat:Int)) g caps p l) :
 Ret Pg 183 #[v,.func (.func g) #[] caps] w0 λ r w'=>r = .int .i64 (idx p l)∧Ext w0 w':=by
 obtain ⟨A,c,rfl,hlc,hcm,hlm,Y3⟩:=Zd.open hs
 refine Zex (R:=ZO _) ?_
 unfold Zew
 simp (disch:=try exact DI) only [↓PR,QR,simprocAttr]
 refine ZF (λ i w=>∃ k:Nat,i = .int .i64 k∧k≤l.length∧Ext w0 w∧∀ (j:Nat) y,j < k→l[j]?=some y→p y=false) (λ i _=>l.length - (intOf i).toNat) ⟨0,rfl,by omega,Ext.refl _,λ j y h=>by omega⟩ ?_
 rintro i w ⟨k,rfl,hk,e,hb⟩
 by_cases Yv:k < l.length
 · obtain ⟨x,hx⟩:=getElem?_lt Yv
   obtain ⟨b,o,cs,rfl,hl,hA,hE⟩:=Y3 k x hx
   have hd:decide ((k:Int) < (l.length:Int))=true:=by simp;omega
   simp (disch:=try exact DI) only [↓PR,QR,simprocAttr,hd]
   unfold OS
   simp (disch:=try exact DI) only [↓PR,QR,simprocAttr]
   obtain rfl:=hE
   have hV:(.int .u8 (x.toNat:Int):Vl) = .int .u8 (x.toNat:Int):=rfl
   simp (disch:=try exact DI) only [↓PR,QR,simprocAttr,hA.c1]
   rw [YZ hg]
   simp only [Array.empty_append]
   refine Zs (hc w _ x (List.mem_of_getElem? hx) e (hV)) ?_
   rintro r w' ⟨rfl,e'⟩
   cases hp:p x with
   | true => 
    simp (disch:=try exact DI) only [↓PR,QR,simprocAttr]
    exact ⟨by rw [WU hx hp hb],e.trans e'⟩
   | false=>
    simp (disch:=try exact DI) only [↓PR,QR,simprocAttr]
    refine ⟨⟨k+1,rfl,by omega,e.trans e',λ j y hj hy=>?_⟩,by simp [intOf];omega⟩
    by_cases hjk:j=k
    · subst hjk;rw [hx] at hy;injection hy with hy;subst hy;exact hp
    · exact hb j y (by omega) hy
 · have hd:decide ((k:Int) < (l.length:Int))=false:=by simp;omega
   simp (disch:=try exact DI) only [↓PR,QR,simprocAttr,hd]
   exact ⟨by rw [Ud λ j y hy=>hb j y (by have:=(List.getElem?_eq_some_iff.1 hy).1;omega) hy],e⟩
theorem zO (w0 w1:Wd) (v:Vl) (l:List Z3) (g:FuncId) (caps:AVl) (p:Nat→Bool) (J:Nat→Wd→Prop) (hs:ZV w0 v l) (hg:Callable Pg g) (hJ:∀ k w,J k w→Ext w0 w) (h0:J 0 w1)
 (hc:∀ k x w u,l[k]?=some x→J k w→(λ _ v x=>v=Kc x) w u x→Ret Pg g (#[u]++caps) w λ r w'=>r = .bool (p k)∧J (k+1) w') :
 Ret Pg 238 #[v,.func (.func g) #[] caps] w1 λ r w'=>r = .int .i64 (idx p (List.range l.length))∧∃ k,J k w':=by
 obtain ⟨A,c,rfl,hlc,hcm,hlm,Y3⟩:=Zd.open hs
 refine Zev (R:=ZO _) ?_
 unfold Zeu
 simp (disch:=try exact DI) only [↓PR,QR,simprocAttr]
 refine ZF (λ i w=>∃ k:Nat,i = .int .i64 k∧k≤l.length∧J k w∧∀ (j:Nat) y,j < k→(List.range l.length)[j]?=some y→p y=false) (λ i _=>l.length - (intOf i).toNat) ⟨0,rfl,by omega,h0,λ j y h=>by omega⟩ ?_
 rintro i w ⟨k,rfl,hk,hj,hb⟩
 have e:=hJ _ _ hj
 by_cases Yv:k < l.length
 · obtain ⟨x,hx⟩:=getElem?_lt Yv
   have hr:(List.range l.length)[k]?=some k:=by simp [Yv]
   obtain ⟨b,o,cs,rfl,hl,hA,hE⟩:=Y3 k x hx
   have hd:decide ((k:Int) < (l.length:Int))=true:=by simp;omega
   simp (disch:=try exact DI) only [↓PR,QR,simprocAttr,hd]
   unfold OR
   simp (disch:=try exact DI) only [↓PR,QR,simprocAttr]
   obtain rfl:=hE
   have hV:(.agg (Ve x).toArray:Vl)=Kc x:=rfl
   simp (disch:=try exact DI) only [↓PR,QR,simprocAttr,hA.c2]
   rw [YZ hg]
   simp only [Array.empty_append]
   refine Zs (hc k x w _ hx hj hV) ?_
   rintro r w' ⟨rfl,hj'⟩
   cases hp:p k with
   | true => 
    simp (disch:=try exact DI) only [↓PR,QR,simprocAttr]
    exact ⟨by rw [WU hr hp hb],_,hj'⟩
   | false=>
    simp (disch:=try exact DI) only [↓PR,QR,simprocAttr]
    exact ⟨⟨k+1,rfl,by omega,hj',V8 hb hr hp⟩,by simp [intOf];omega⟩
 · have hd:decide ((k:Int) < (l.length:Int))=false:=by simp;omega
   simp (disch:=try exact DI) only [↓PR,QR,simprocAttr,hd]
   exact ⟨by rw [Ud λ j y hy=>hb j y (by have:=(List.getElem?_eq_some_iff.1 hy).1;simp at this;omega) hy],_,hj⟩
def Zbw (a:Vl) (R:RT) (w:Wd):Prop:=
 opV Pg (Builtin.max_ #[3,3] 3 #[a,(.int .i64 0)]) (Zh R) w λ b w=>
 B0 .geq 3 true a (.int .i64 0) R w λ c w=>
 R (.returned (.tuple #[b,c])) w
def n76 (a b:Vl) (R:RT) (w:Wd):Prop:=
 C0 134 #[a,b] R w λ c w=>
 Zbw c R w
theorem ZiT {t0 t1:Vl} {R:RT} {w:Wd} (h:n76 t0 t1 R w):Calls Pg 113 #[t0,t1] w R:=by
 refine yD func113 ?_
 refine zs<|zr<|zm<|zm<|zn<|zk<|zs<|zr<|zm<|zm<|yc h ZcV λ _ w h=>zm<|zn<|zk<|zs ?_
 exact zr<|zm<|yx h λ _ w h=>zm<|yb h λ _ w h=>zm<|zm<|zn<|zk<|Ze<|Qe rfl rfl rfl h
def n55 (a b:Vl) (R:RT) (w:Wd):Prop:=
 opV Pg (Instr.box 48 a) (Zh R) w λ c w=>
 F0 48 c 0 R w λ d w=>
 L0 9 d R w λ e w=>
 L0 9 b R w λ f w=>
 B0 .eql 9 false e f R w λ g w=>
 R (.returned g) w
theorem Ziz {t0 t1:Vl} {R:RT} {w:Wd} (h:n55 t0 t1 R w):Calls Pg 114 #[t0,t1] w R:=by
 refine yD func114 ?_
 refine zs<|zr<|yv h λ _ w h=>zm<|zn<|zk<|zs<|zr<|yv h λ _ w h=>yv h λ _ w h=>yv h λ _ w h=>yb h λ _ w h=>zm<|zn<|zk ?_
 exact Ze<|Zk rfl rfl h
def PS (g c d:Vl) (R:RT) (w:Wd):Prop:=
 Zr (λ (a:Vl) (w:Wd)=>
 Zr (λ (b:Vl) (w:Wd)=>
 Zw c (.bool true) b λ h=>
 R (.returned h) w) λ e=>
 Zn c false (
 Zw d a (.bool false) λ b=>
 e b w) (
 e undef w)) λ f=>
 Zn d true (
 opV Pg (ZI .leq 5 true g (.int .u8 122)) (Zh R) w λ a w=>
 f a w) (
 f undef w)
def PT (a d e:Vl) (R:RT) (w:Wd):Prop:=
 Zw d e (.bool false) λ b=>
 Zr (λ (f:Vl) (w:Wd)=>
 PS a b f R w) λ c=>
 Zn b false (
 opV Pg (ZI .geq 5 true a (.int .u8 97)) (Zh R) w λ g w=>
 c g w) (
 c undef w)
def n20 (a:Vl) (R:RT) (w:Wd):Prop:=
 opV Pg (ZI .geq 5 true a (.int .u8 65)) (Zh R) w λ c w=>
 Zr (λ (b:Vl) (w:Wd)=>
 PT a c b R w) λ d=>
 Zn c true (
 opV Pg (ZI .leq 5 true a (.int .u8 90)) (Zh R) w λ b w=>
 d b w) (
 d undef w)
theorem Zh2 {t0:Vl} {R:RT} {w:Wd} (h:n20 t0 R w):Calls Pg 117 #[t0] w R:=by
 refine yD func117 ?_
 refine zs<|zr<|zm<|zn<|zk<|zs<|Zu<|yG 3<|zm<|yb h λ _ w h=>zm<|zn<|yg1 2 2 true [6,7] 7 h (λ _ T hT h=>?_) λ σ w h=>?_
 · refine zm<|yb h λ _ w h=>zn ?_
   exact zt hT h
 refine yG 2<|yp h λ _ h=>zm<|zn<|yg1 3 6 false [10,11,12] 12 h (λ _ T hT h=>?_) λ σ w h=>?_
 · refine zm<|yb h λ _ w h=>zm<|zn ?_
   exact zt hT h
 refine yg1 2 9 true [13,14] 14 h (λ _ T hT h=>?_) λ σ w h=>?_
 · refine zm<|yb h λ _ w h=>zn ?_
   exact zt hT h
 refine yg1 1 6 false [15] 15 h (λ _ T hT h=>?_) λ σ w h=>?_
 · refine yp h λ _ h=>zn ?_
   exact zt hT h
 exact yG 2<|yp h λ _ h=>zm<|zn<|ZQ<|zk<|Ze<|Zk rfl rfl h
def n19 (b:Vl) (R:RT) (w:Wd):Prop:=
 opV Pg (ZI .geq 5 true b (.int .u8 48)) (Zh R) w λ c w=>
 Zr (λ (a:Vl) (w:Wd)=>
 Zw c a (.bool false) λ e=>
 R (.returned e) w) λ d=>
 Zn c true (
 opV Pg (ZI .leq 5 true b (.int .u8 57)) (Zh R) w λ a w=>
 d a w) (
 d undef w)
theorem Zh1 {t0:Vl} {R:RT} {w:Wd} (h:n19 t0 R w):Calls Pg 118 #[t0] w R:=by
 refine yD func118 ?_
 refine zs<|zr<|zm<|zn<|zk<|zs<|Zu<|yG 3<|zm<|yb h λ _ w h=>zm<|zn<|yg1 2 2 true [6,7] 7 h (λ _ T hT h=>?_) λ σ w h=>?_
 · refine zm<|yb h λ _ w h=>zn ?_
   exact zt hT h
 exact yG 2<|yp h λ _ h=>zm<|zn<|ZQ<|zk<|Ze<|Zk rfl rfl h
def Lz (b d e:Vl) (R:RT) (w:Wd):Prop:=
 Zr (λ (a:Vl) (w:Wd)=>
 Zw b a (.bool false) λ f=>
 R (.returned f) w) λ c=>
 Zn b true (
 Zw d (.bool true) e λ a=>
 c a w) (
 c undef w)
def LA (d e b:Vl) (R:RT) (w:Wd):Prop:=
 Zr (λ (a:Vl) (w:Wd)=>
 Lz e b a R w) λ c=>
 Zn b false (
 F0 48 d 13 R w λ f w=>
 L0 3 f R w λ g w=>
 B0 .eql 3 true g (.int .i64 0) R w λ a w=>
 c a w) (
 c undef w)
def LB (c d e f:Vl) (R:RT) (w:Wd):Prop:=
 Zw e f (.bool false) λ a=>
 Zr (λ (g:Vl) (w:Wd)=>
 LA c a g R w) λ b=>
 Zn a true (
 C0 147 #[d,(.int .u8 121)] R w λ h w=>
 b h w) (
 b undef w)
def LC (c h d e:Vl) (R:RT) (w:Wd):Prop:=
 Zr (λ (a:Vl) (w:Wd)=>
 Zr (λ (b:Vl) (w:Wd)=>
 LB c h d b R w) λ f=>
 Zn d true (
 Zw e (.bool true) a λ b=>
 f b w) (
 f undef w)) λ g=>
 Zn e false (
 F0 48 c 12 R w λ i w=>
 L0 3 i R w λ j w=>
 B0 .eql 3 true j (.int .i64 0) R w λ a w=>
 g a w) (
 g undef w)
def LD (d a e f:Vl) (R:RT) (w:Wd):Prop:=
 Zw e (.bool true) f λ b=>
 Zr (λ (g:Vl) (w:Wd)=>
 LC d a b g R w) λ c=>
 Zn b true (
 C0 147 #[a,(.int .u8 107)] R w λ h w=>
 c h w) (
 c undef w)
def LF (b e c:Vl) (R:RT) (w:Wd):Prop:=
 Zr (λ (a:Vl) (w:Wd)=>
 LD b e c a R w) λ d=>
 Zn c false (
 F0 48 b 11 R w λ f w=>
 L0 46 f R w λ g w=>
 G0 46 3 g R w λ h w=>
 B0 .eql 3 true h (.int .i64 0) R w λ a w=>
 d a w) (
 d undef w)
def LG (b a c d:Vl) (R:RT) (w:Wd):Prop:=
 Zw c (.bool true) d λ e=>
 Zq e (
 R (.returned (.bool false)) w) (
 C0 147 #[a,(.int .u8 99)] R w λ f w=>
 LF b a f R w)
def LH (c h d e:Vl) (R:RT) (w:Wd):Prop:=
 Zr (λ (a:Vl) (w:Wd)=>
 Zr (λ (b:Vl) (w:Wd)=>
 LG c h d b R w) λ f=>
 Zn d false (
 Zw e a (.bool false) λ b=>
 f b w) (
 f undef w)) λ g=>
 Zn e true (
 F0 48 c 10 R w λ i w=>
 L0 9 i R w λ j w=>
 opV Pg (ZI .neq 9 true j (.string { data := #[] })) (Zh R) w λ a w=>
 g a w) (
 g undef w)
def LI (d a e f:Vl) (R:RT) (w:Wd):Prop:=
 Zw e (.bool true) f λ b=>
 Zr (λ (g:Vl) (w:Wd)=>
 LH d a b g R w) λ c=>
 Zn b false (
 C0 147 #[a,(.int .u8 114)] R w λ h w=>
 N0 h R w λ i w=>
 c i w) (
 c undef w)
def DC (c h d e:Vl) (R:RT) (w:Wd):Prop:=
 Zr (λ (a:Vl) (w:Wd)=>
 Zr (λ (b:Vl) (w:Wd)=>
 LI c h d b R w) λ f=>
 Zn d false (
 Zw e a (.bool false) λ b=>
 f b w) (
 f undef w)) λ g=>
 Zn e true (
 F0 48 c 9 R w λ i w=>
 L0 9 i R w λ j w=>
 opV Pg (ZI .neq 9 true j (.string { data := #[] })) (Zh R) w λ a w=>
 g a w) (
 g undef w)
def DD (d a e f:Vl) (R:RT) (w:Wd):Prop:=
 Zw e (.bool true) f λ b=>
 Zr (λ (g:Vl) (w:Wd)=>
 DC d a b g R w) λ c=>
 Zn b false (
 C0 147 #[a,(.int .u8 116)] R w λ h w=>
 N0 h R w λ i w=>
 c i w) (
 c undef w)
def DE (c h d e:Vl) (R:RT) (w:Wd):Prop:=
 Zr (λ (a:Vl) (w:Wd)=>
 Zr (λ (b:Vl) (w:Wd)=>
 DD c h d b R w) λ f=>
 Zn d false (
 Zw e a (.bool false) λ b=>
 f b w) (
 f undef w)) λ g=>
 Zn e true (
 F0 48 c 8 R w λ i w=>
 L0 9 i R w λ j w=>
 opV Pg (ZI .neq 9 true j (.string { data := #[] })) (Zh R) w λ a w=>
 g a w) (
 g undef w)
def DF (d a e f:Vl) (R:RT) (w:Wd):Prop:=
 Zw e f (.bool false) λ b=>
 Zr (λ (g:Vl) (w:Wd)=>
 DE d a b g R w) λ c=>
 Zn b false (
 C0 147 #[a,(.int .u8 102)] R w λ h w=>
 N0 h R w λ i w=>
 c i w) (
 c undef w)
def DG (c h d e:Vl) (R:RT) (w:Wd):Prop:=
 Zr (λ (a:Vl) (w:Wd)=>
 Zr (λ (b:Vl) (w:Wd)=>
 DF c h d b R w) λ f=>
 Zn d true (
 Zw e (.bool true) a λ b=>
 f b w) (
 f undef w)) λ g=>
 Zn e false (
 F0 48 c 7 R w λ i w=>
 F0 45 i 1 R w λ j w=>
 L0 43 j R w λ k w=>
 G0 43 3 k R w λ l w=>
 B0 .neq 3 true l (.int .i64 0) R w λ a w=>
 g a w) (
 g undef w)
def DH (a d e:Vl) (R:RT) (w:Wd):Prop:=
 N0 e R w λ b w=>
 Zr (λ (f:Vl) (w:Wd)=>
 DG a d b f R w) λ c=>
 Zn b true (
 F0 48 a 7 R w λ g w=>
 F0 45 g 0 R w λ h w=>
 L0 3 h R w λ i w=>
 B0 .neq 3 true i (.int .i64 0) R w λ j w=>
 c j w) (
 c undef w)
def DJ (b a c d:Vl) (R:RT) (w:Wd):Prop:=
 Zw c (.bool true) d λ e=>
 Zq e (
 R (.returned (.bool false)) w) (
 C0 147 #[a,(.int .u8 115)] R w λ f w=>
 DH b a f R w)
def DK (c h d e:Vl) (R:RT) (w:Wd):Prop:=
 Zr (λ (a:Vl) (w:Wd)=>
 Zr (λ (b:Vl) (w:Wd)=>
 DJ c h d b R w) λ f=>
 Zn d false (
 Zw e a (.bool false) λ b=>
 f b w) (
 f undef w)) λ g=>
 Zn e true (
 F0 48 c 6 R w λ i w=>
 L0 3 i R w λ j w=>
 B0 .neq 3 true j (.int .i64 0) R w λ a w=>
 g a w) (
 g undef w)
def DL (d a e f:Vl) (R:RT) (w:Wd):Prop:=
 Zw e (.bool true) f λ b=>
 Zr (λ (g:Vl) (w:Wd)=>
 DK d a b g R w) λ c=>
 Zn b false (
 C0 147 #[a,(.int .u8 104)] R w λ h w=>
 N0 h R w λ i w=>
 c i w) (
 c undef w)
def DM (c h d e:Vl) (R:RT) (w:Wd):Prop:=
 Zr (λ (a:Vl) (w:Wd)=>
 Zr (λ (b:Vl) (w:Wd)=>
 DL c h d b R w) λ f=>
 Zn d false (
 Zw e a (.bool false) λ b=>
 f b w) (
 f undef w)) λ g=>
 Zn e true (
 F0 48 c 5 R w λ i w=>
 L0 3 i R w λ j w=>
 B0 .neq 3 true j (.int .i64 0) R w λ a w=>
 g a w) (
 g undef w)
def DN (d a e f:Vl) (R:RT) (w:Wd):Prop:=
 Zw e (.bool true) f λ b=>
 Zr (λ (g:Vl) (w:Wd)=>
 DM d a b g R w) λ c=>
 Zn b false (
 C0 147 #[a,(.int .u8 120)] R w λ h w=>
 N0 h R w λ i w=>
 c i w) (
 c undef w)
def DO (c h d e:Vl) (R:RT) (w:Wd):Prop:=
 Zr (λ (a:Vl) (w:Wd)=>
 Zr (λ (b:Vl) (w:Wd)=>
 DN c h d b R w) λ f=>
 Zn d false (
 Zw e a (.bool false) λ b=>
 f b w) (
 f undef w)) λ g=>
 Zn e true (
 F0 48 c 4 R w λ i w=>
 L0 4 i R w λ a w=>
 g a w) (
 g undef w)
def DP (d a e f:Vl) (R:RT) (w:Wd):Prop:=
 Zw e (.bool true) f λ b=>
 Zr (λ (g:Vl) (w:Wd)=>
 DO d a b g R w) λ c=>
 Zn b false (
 C0 147 #[a,(.int .u8 111)] R w λ h w=>
 N0 h R w λ i w=>
 c i w) (
 c undef w)
def DQ (c h d e:Vl) (R:RT) (w:Wd):Prop:=
 Zr (λ (a:Vl) (w:Wd)=>
 Zr (λ (b:Vl) (w:Wd)=>
 DP c h d b R w) λ f=>
 Zn d false (
 Zw e a (.bool false) λ b=>
 f b w) (
 f undef w)) λ g=>
 Zn e true (
 F0 48 c 3 R w λ i w=>
 L0 4 i R w λ a w=>
 g a w) (
 g undef w)
def DR (d a e f:Vl) (R:RT) (w:Wd):Prop:=
 Zw e f (.bool false) λ b=>
 Zr (λ (g:Vl) (w:Wd)=>
 DQ d a b g R w) λ c=>
 Zn b false (
 C0 147 #[a,(.int .u8 108)] R w λ h w=>
 N0 h R w λ i w=>
 c i w) (
 c undef w)
def DS (b e f:Vl) (R:RT) (w:Wd):Prop:=
 N0 f R w λ c w=>
 Zr (λ (a:Vl) (w:Wd)=>
 DR b e c a R w) λ d=>
 Zn c true (
 F0 48 b 2 R w λ g w=>
 L0 3 g R w λ h w=>
 B0 .neq 3 true h (.int .i64 0) R w λ a w=>
 d a w) (
 d undef w)
def n40 (c:Vl) (R:RT) (w:Wd):Prop:=
 opV Pg (Instr.box 48 c) (Zh R) w λ a w=>
 F0 48 a 1 R w λ d w=>
 L0 42 d R w λ e w=>
 C0 146 #[e] R w λ b w=>
 C0 147 #[b,(.int .u8 98)] R w λ f w=>
 DS a b f R w
set_option maxHeartbeats 40000000 in
theorem Zil {t0:Vl} {R:RT} {w:Wd} (h:n40 t0 R w):Calls Pg 119 #[t0] w R:=by
 refine yD func119 ?_
 refine zs<|zr<|yv h λ _ w h=>zm<|zn<|zk<|zs<|zr<|yv h λ _ w h=>yv h λ _ w h=>yc h ZgR λ _ w h=>zm<|zn<|zk<|zs ?_
 refine zs<|Zu<|yG 4<|zm<|yc h jw λ _ w h=>yv h λ _ w h=>zm<|zn<|yg1 3 3 true [11,12,13] 13 h (λ _ T hT h=>?_) λ σ w h=>?_
 · refine yv h λ _ w h=>yv h λ _ w h=>yb h λ _ w h=>zn ?_
   exact zt hT h
 refine yG 2<|yp h λ _ h=>zm<|zn<|yg1 4 8 false [16,17,18,19] 19 h (λ _ T hT h=>?_) λ σ w h=>?_
 · refine zm<|yc h jw λ _ w h=>yv h λ _ w h=>zm<|zn ?_
   exact zt hT h
 refine yg1 2 12 true [20,21] 21 h (λ _ T hT h=>?_) λ σ w h=>?_
 · refine yv h λ _ w h=>yv h λ _ w h=>zn ?_
   exact zt hT h
 refine yg1 1 8 false [22] 22 h (λ _ T hT h=>?_) λ σ w h=>?_
 · refine yp h λ _ h=>zn ?_
   exact zt hT h
 refine yG 2<|yp h λ _ h=>zm<|zn<|yg1 4 17 false [25,26,27,28] 28 h (λ _ T hT h=>?_) λ σ w h=>?_
 · refine zm<|yc h jw λ _ w h=>yv h λ _ w h=>zm<|zn ?_
   exact zt hT h
 refine yg1 2 21 true [29,30] 30 h (λ _ T hT h=>?_) λ σ w h=>?_
 · refine yv h λ _ w h=>yv h λ _ w h=>zn ?_
   exact zt hT h
 refine yg1 1 17 false [31] 31 h (λ _ T hT h=>?_) λ σ w h=>?_
 · refine yp h λ _ h=>zn ?_
   exact zt hT h
 refine yG 2<|yp h λ _ h=>zm<|zn<|yg1 4 26 false [34,35,36,37] 37 h (λ _ T hT h=>?_) λ σ w h=>?_
 · refine zm<|yc h jw λ _ w h=>yv h λ _ w h=>zm<|zn ?_
   exact zt hT h
 refine yg1 3 30 true [38,39,40] 40 h (λ _ T hT h=>?_) λ σ w h=>?_
 · refine yv h λ _ w h=>yv h λ _ w h=>yb h λ _ w h=>zn ?_
   exact zt hT h
 refine yg1 1 26 false [41] 41 h (λ _ T hT h=>?_) λ σ w h=>?_
 · refine yp h λ _ h=>zn ?_
   exact zt hT h
 refine yG 2<|yp h λ _ h=>zm<|zn<|yg1 4 36 false [44,45,46,47] 47 h (λ _ T hT h=>?_) λ σ w h=>?_
 · refine zm<|yc h jw λ _ w h=>yv h λ _ w h=>zm<|zn ?_
   exact zt hT h
 refine yg1 3 40 true [48,49,50] 50 h (λ _ T hT h=>?_) λ σ w h=>?_
 · refine yv h λ _ w h=>yv h λ _ w h=>yb h λ _ w h=>zn ?_
   exact zt hT h
 refine yg1 1 36 false [51] 51 h (λ _ T hT h=>?_) λ σ w h=>?_
 · refine yp h λ _ h=>zn ?_
   exact zt hT h
 refine yG 1<|yp h λ _ h=>zn<|ZQ<|zk<|yC h (λ h=>zs<|zr<|zm<|zn<|zk<|Ze<|Zb<|Zk rfl rfl h) λ h=>Zi<|zk<|zs<|zs<|Zu<|yG 4<|zm<|yc h jw λ _ w h=>?_
 refine yv h λ _ w h=>zm<|zn<|yg1 5 3 true [57,58,59,60,61] 61 h (λ _ T hT h=>?_) λ σ w h=>?_
 · refine yv h λ _ w h=>yv h λ _ w h=>yv h λ _ w h=>yb h λ _ w h=>zm<|zn ?_
   exact zt hT h
 refine yg1 5 8 false [62,63,64,65,66] 66 h (λ _ T hT h=>?_) λ σ w h=>?_
 · refine yv h λ _ w h=>yv h λ _ w h=>yv h λ _ w h=>yx h λ _ w h=>yb h λ _ w h=>zn ?_
   exact zt hT h
 refine yg1 1 3 true [67] 67 h (λ _ T hT h=>?_) λ σ w h=>?_
 · refine yp h λ _ h=>zn ?_
   exact zt hT h
 refine yG 2<|yp h λ _ h=>zm<|zn<|yg1 4 16 false [70,71,72,73] 73 h (λ _ T hT h=>?_) λ σ w h=>?_
 · refine zm<|yc h jw λ _ w h=>yv h λ _ w h=>zm<|zn ?_
   exact zt hT h
 refine yg1 3 20 true [74,75,76] 76 h (λ _ T hT h=>?_) λ σ w h=>?_
 · refine yv h λ _ w h=>yv h λ _ w h=>yb h λ _ w h=>zn ?_
   exact zt hT h
 refine yg1 1 16 false [77] 77 h (λ _ T hT h=>?_) λ σ w h=>?_
 · refine yp h λ _ h=>zn ?_
   exact zt hT h
 refine yG 2<|yp h λ _ h=>zm<|zn<|yg1 4 26 false [80,81,82,83] 83 h (λ _ T hT h=>?_) λ σ w h=>?_
 · refine zm<|yc h jw λ _ w h=>yv h λ _ w h=>zm<|zn ?_
   exact zt hT h
 refine yg1 3 30 true [84,85,86] 86 h (λ _ T hT h=>?_) λ σ w h=>?_
 · refine yv h λ _ w h=>yv h λ _ w h=>yb h λ _ w h=>zn ?_
   exact zt hT h
 refine yg1 1 26 false [87] 87 h (λ _ T hT h=>?_) λ σ w h=>?_
 · refine yp h λ _ h=>zn ?_
   exact zt hT h
 refine yG 2<|yp h λ _ h=>zm<|zn<|yg1 4 36 false [90,91,92,93] 93 h (λ _ T hT h=>?_) λ σ w h=>?_
 · refine zm<|yc h jw λ _ w h=>yv h λ _ w h=>zm<|zn ?_
   exact zt hT h
 refine yg1 3 40 true [94,95,96] 96 h (λ _ T hT h=>?_) λ σ w h=>?_
 · refine yv h λ _ w h=>yv h λ _ w h=>yb h λ _ w h=>zn ?_
   exact zt hT h
 refine yg1 1 36 false [97] 97 h (λ _ T hT h=>?_) λ σ w h=>?_
 · refine yp h λ _ h=>zn ?_
   exact zt hT h
 refine yG 1<|yp h λ _ h=>zn<|ZQ<|zk<|yC h (λ h=>zs<|zr<|zm<|zn<|zk<|Ze<|Zb<|Zk rfl rfl h) λ h=>Zi<|zk<|zs<|Zu<|yG 3<|zm<|yc h jw λ _ w h=>zm ?_
 refine zn<|yg1 4 2 false [102,103,104,105] 105 h (λ _ T hT h=>?_) λ σ w h=>?_
 · refine yv h λ _ w h=>yv h λ _ w h=>yx h λ _ w h=>yb h λ _ w h=>zn ?_
   exact zt hT h
 refine yG 2<|yp h λ _ h=>zm<|zn<|yg1 3 8 true [108,109,110] 110 h (λ _ T hT h=>?_) λ σ w h=>?_
 · refine zm<|yc h jw λ _ w h=>zm<|zn ?_
   exact zt hT h
 refine yg1 3 11 false [111,112,113] 113 h (λ _ T hT h=>?_) λ σ w h=>?_
 · refine yv h λ _ w h=>yv h λ _ w h=>yb h λ _ w h=>zn ?_
   exact zt hT h
 refine yg1 1 8 true [114] 114 h (λ _ T hT h=>?_) λ σ w h=>?_
 · refine yp h λ _ h=>zn ?_
   exact zt hT h
 refine yG 2<|yp h λ _ h=>zm<|zn<|yg1 3 17 true [117,118,119] 119 h (λ _ T hT h=>?_) λ σ w h=>?_
 · refine zm<|yc h jw λ _ w h=>zm<|zn ?_
   exact zt hT h
 refine yg1 3 20 false [120,121,122] 122 h (λ _ T hT h=>?_) λ σ w h=>?_
 · refine yv h λ _ w h=>yv h λ _ w h=>yb h λ _ w h=>zn ?_
   exact zt hT h
 refine yg1 1 17 true [123] 123 h (λ _ T hT h=>?_) λ σ w h=>?_
 · refine yp h λ _ h=>zn ?_
   exact zt hT h
 exact yG 2<|yp h λ _ h=>zm<|zn<|ZQ<|zk<|Ze<|Zk rfl rfl h
def Zbv (d a b:Vl) (e:WPr) (R:RT) (w:Wd):Prop:=
 opV Pg (Instr.typeAssert b 20 90 true) (Zh R) w λ c w=>
 E0 c 0 R w λ f w=>
 E0 c 1 R w λ g w=>
 S0 90 d f R w λ w=>
 S0 4 a g R w λ w=>
 L0 4 a R w λ h w=>
 N0 h R w λ i w=>
 Zq i (
 opV Pg (Instr.panic b) (Zh R) w λ _ w=>
 False) (
 e w)
def n75 (c d a:Vl) (R:RT) (w:Wd):Prop:=
 opV Pg (ZI .neq 20 true a .nilIface) (Zh R) w λ e w=>
 Zr (λ (w:Wd)=>
 R (.returned (.tuple #[])) w) λ b=>
 Zq e (
 Zbv c d a b R w) (
 b w)
theorem ZfP {t0 t1:Vl} {u:FrameMode} {R:Ending→FrameMode→Wd→Prop} {w:Wd} (h:n75 t0 t1 (Sw.recM u).1 (λ e w=>R e (Sw.recM u).2 w) w):CallsDIn Fence.wide 0 Pg 121 #[t0,t1] u w R:=by
 refine BO (args:=[t0,t1]) (d:=3) func121 rfl (Nat.le_of_ble_eq_true rfl) rfl rfl rfl rfl ?_
 generalize (recM u).1=t3 at h ⊢
 generalize hR:(λ e w=>R e (recM u).2 w)=R' at h ⊢
 clear hR
 revert h
 generalize R'=R
 intro h
 unfold n75 at h
 refine zm<|zn<|zs<|zr<|zm<|yb h λ _ w h=>zn<|zk<|yJ0 [6,7,8,9,10,11,12,13] h (λ _ _ hkK1 h=>?_) λ σ w h=>?_
 · refine yC h (λ h=>?_) λ h=>?_
   · refine zs<|zr<|zm<|yv h λ _ w h=>zm<|yv h λ _ w h=>yv h λ _ w h=>yu h λ w h=>yu h λ w h=>zn<|zk<|zs<|zr<|yv h λ _ w h=>yv h λ _ w h=>?_
     refine zn<|zk<|yC h (λ h=>zr<|zm<|yv h λ _ w h=>zn<|h.elim) λ h=>Zi<|zk ?_
     exact zt hkK1 h
   refine Zi<|zk ?_
   exact zt hkK1 h
 exact ZU<|Z1 rfl h
def LL (b c:Vl) (a:WPr) (R:RT) (w:Wd):Prop:=
 qN Pg a (Xb b) λ d=>
 J0 164 d 3 a λ e=>
 I0 3 e a λ f=>
 qN Pg a (Xb b) λ g=>
 J0 164 g 4 a λ h=>
 I0 3 h a λ i=>
 qV Pg a (Instr.build 90 #[(0,f),(1,i),(2,c)]) λ j=>
 qV Pg a (Instr.makeInterface 90 j) λ k=>
 opV Pg (Instr.panic k) (Zh R) w λ _ w=>
 False
def n69 (a b c:Vl) (R:RT) (w:Wd):Prop:=
 N0 b R w λ d w=>
 Zq d (
 Yy w λ e w=>
 LL a c e R w) (
 R (.returned (.tuple #[])) w)
theorem ZiN {t0 t1 t2:Vl} {R:RT} {w:Wd} (h:n69 t0 t1 t2 R w):Calls Pg 122 #[t0,t1,t2] w R:=by
 refine yD func122 ?_
 refine zs<|zr<|zm<|yv h λ _ w h=>zn<|zk<|yC h (λ h=>?_) λ h=>?_
 · refine yh [8,9,10,11,12,13,14,15,16,17,18] h λ C hC h=>yw 0 hC ?_
   refine yn 1 hC h λ _ h=>?_
   refine ye 2 hC h λ _ h=>?_
   refine ye 3 hC h λ _ h=>?_
   refine yw 4 hC ?_
   refine yn 5 hC h λ _ h=>?_
   refine ye 6 hC h λ _ h=>?_
   refine ye 7 hC h λ _ h=>?_
   refine yw 8 hC ?_
   refine ye 9 hC h λ _ h=>?_
   refine ye 10 hC h λ _ h=>?_
   refine yo 11 ?_
   exact yv h λ _ w h=>zn<|h.elim
 exact Zi<|ZU<|Z1 rfl h
def za (d e f:Vl) (R:RT) (w:Wd):Prop:=
 Zw e f (.bool false) λ b=>
 Zr (λ (a:Vl) (w:Wd)=>
 Zw b a (.bool false) λ g=>
 R (.returned g) w) λ c=>
 Zn b true (
 opV Pg (Go.convert 9 200 d) (Zh R) w λ h w=>
 Yt Pg 159 #[h,(.func (.func 155) #[] #[])] (Zh R) w λ i w=>
 N0 i R w λ a w=>
 c a w) (
 c undef w)
def zf (b c:Vl) (R:RT) (w:Wd):Prop:=
 Zr (λ (a:Vl) (w:Wd)=>
 za b c a R w) λ d=>
 Zn c true (
 opV Pg (Instr.index 9 b (.int .i64 0)) (Zh R) w λ e w=>
 C0 156 #[e] R w λ a w=>
 d a w) (
 d undef w)
def ZdH (a:Vl) (R:RT) (w:Wd):Prop:=
 G0 9 3 a R w λ b w=>
 B0 .geq 3 true b (.int .i64 1) R w λ c w=>
 G0 9 3 a R w λ d w=>
 B0 .leq 3 true d (.int .i64 32) R w λ e w=>
 opV Pg (buildSlice 93 2 #[(0,c),(1,e)]) (Zh R) w λ f w=>
 C0 158 #[f] R w λ g w=>
 zf a g R w
theorem ZdI {t0:Vl} {R:RT} {w:Wd} (h:ZdH t0 R w):Calls Pg 123 #[t0] w R:=by
 refine yD func123 ?_
 refine zs<|zr<|zm<|zn<|zk<|zs<|zr<|zm<|zn<|zk<|zs<|Zu<|yG 9<|zm<|yx h λ _ w h=>?_
 refine yb h λ _ w h=>zm<|yx h λ _ w h=>yb h λ _ w h=>yS h λ _ w h=>yc h SQ λ _ w h=>zm<|zn<|yg1 3 8 true [13,14,15] 15 h (λ _ T hT h=>?_) λ σ w h=>?_
 · refine zm<|yv h λ _ w h=>yc h ZcW λ _ w h=>zn ?_
   exact zt hT h
 refine yG 2<|yp h λ _ h=>zm<|zn<|yg1 5 13 true [18,19,20,21,22] 22 h (λ _ T hT h=>?_) λ σ w h=>?_
 · refine zm<|yv h λ _ w h=>zm<|yc h ZgZ λ _ w h=>yv h λ _ w h=>zn ?_
   exact zt hT h
 exact yG 2<|yp h λ _ h=>zm<|zn<|ZQ<|zk<|Ze<|Zk rfl rfl h
def Fv (a b c d:Vl) (Qk:KV) (ds:LDf) (R:RT) (w:Wd):Prop:=
 Zw c d (.bool false) λ e=>
 opU Pg (storeAt 4 a e) (ZP Pg ds [] R) w λ w=>
 opV Pg (ZI .add 3 true b (.int .i64 1)) (ZP Pg ds [] R) w λ f w=>
 Qk f w
def Rw (b e f:Vl) (Qk:KV) (ds:LDf) (R:RT) (w:Wd):Prop:=
 opV Pg (loadAt 4 b) (ZP Pg ds [] R) w λ c w=>
 Zr (λ (a:Vl) (w:Wd)=>
 Fv b f c a Qk ds R w) λ d=>
 Zn c true (
 opV Pg (fieldAt 48 e 4) (ZP Pg ds [] R) w λ g w=>
 opV Pg (loadAt 4 g) (ZP Pg ds [] R) w λ h w=>
 opV Pg (Op.unary .not h) (ZP Pg ds [] R) w λ a w=>
 d a w) (
 d undef w)
def Rx (f c g:Vl) (h:WPr) (a:PEn) (R:RT) (w:Wd):Prop:=
 opV Pg (loadAt 4 c) a w λ d w=>
 Zr (λ (b:Vl) (w:Wd)=>
 Zw d b (.bool false) λ i=>
 opU Pg (storeAt 4 c i) a w λ w=>
 h w) λ e=>
 Zn d true (
 opV Pg (loadAt 140 f) a w λ j w=>
 opN Pg (Xb j) a w λ k w=>
 opV Pg (fieldAt 164 k 2) a w λ l w=>
 opV Pg (loadAt 162 l) a w λ m w=>
 opV Pg (Instr.lookup 162 m g false) a w λ b w=>
 e b w) (
 e undef w)
def Ry (b f c d:Vl) (a:WPr) (g:WPr) (e:PEn) (R:RT) (w:Wd):Prop:=
 I0 3 c a λ h=>
 I0 140 b a λ i=>
 qN Pg a (Xb i) λ j=>
 J0 164 j 1 a λ k=>
 I0 161 k a λ l=>
 qV Pg a (Instr.lookup 161 l d false) λ m=>
 qV Pg a (Builtin.max_ #[3,3] 3 #[h,m]) λ n=>
 opU Pg (storeAt 3 c n) e w λ w=>
 Xt w λ o w=>
 Rx b f d g e R w
def Rz (a b:Vl) (ds:LDf) (R:RT) (w:Wd):Prop:=
 opV Pg (loadAt 140 a) (ZP Pg ds [] R) w λ c w=>
 opV Pg (loadAt 3 b) (ZP Pg ds [] R) w λ d w=>
 opV Pg (ZI .lss 3 true d (.int .i64 16)) (ZP Pg ds [] R) w λ e w=>
 Yt Pg 122 #[c,e,(.int .i64 10)] (ZP Pg ds [] R) w λ f w=>
 Us Pg ds [] R w
def RA (a b c d e:Vl) (f:WPr) (ds:LDf) (R:RT) (w:Wd):Prop:=
 qV Pg f (Instr.extract e 1) λ g=>
 opU Pg (Instr.entryStore 162 c g d) (ZP Pg ds [] R) w λ w=>
 Xt w λ h w=>
 Rz a b ds R w
def RB (c d e b f g h i:Vl) (a:WPr) (ds:LDf) (R:RT) (w:Wd):Prop:=
 qV Pg a (Instr.extract i 1) λ j=>
 opU Pg (Instr.entryStore 161 e j g) (ZP Pg ds [] R) w λ w=>
 a w∧(
 opV Pg (Instr.mapEntry 162 b f) (ZP Pg ds [] R) w λ k w=>
 a w∧(
 RA c d b h k a ds R w))
def LM (b c f d:Vl) (a:WPr) (ds:LDf) (R:RT) (w:Wd):Prop:=
 I0 140 b a λ g=>
 qN Pg a (Xb g) λ h=>
 J0 164 h 1 a λ i=>
 I0 161 i a λ e=>
 J0 24 c 0 a λ j=>
 I0 9 j a λ k=>
 I0 140 b a λ l=>
 qN Pg a (Xb l) λ m=>
 J0 164 m 2 a λ n=>
 I0 162 n a λ o=>
 J0 24 c 0 a λ p=>
 I0 9 p a λ q=>
 I0 3 d a λ r=>
 qV Pg a (ZI .add 3 true r (.int .i64 1)) λ s=>
 I0 4 f a λ t=>
 opV Pg (Instr.mapEntry 161 e k) (ZP Pg ds [] R) w λ u w=>
 a w∧(
 RB b d e o q s t u a ds R w)
def RC (a d b c e:Vl) (ds:LDf) (R:RT) (w:Wd):Prop:=
 Bo Pg e ds (λ l8 f w g k h=>
 zW l8 w λ w=>
 Yy w λ i w=>
 Ry a b c f i g h R w) (λ ch ds w=>ZP Pg ds [] R ch w) w (λ ds w=>
 Yy w λ j w=>
 LM a d b c j ds R w) []
def DT (a b d:Vl) (ds:LDf) (R:RT) (w:Wd):Prop:=
 opV Pg (loadAt 140 a) (ZP Pg ds [] R) w λ e w=>
 opN Pg (Xb e) (ZP Pg ds [] R) w λ f w=>
 opV Pg (fieldAt 164 f 4) (ZP Pg ds [] R) w λ g w=>
 opU Pg (storeAt 3 g (.int .i64 (-1))) (ZP Pg ds [] R) w λ w=>
 opV Pg (Instr.alloc 3 true (.tuple #[])) (ZP Pg ds [] R) w λ c w=>
 opU Pg (storeAt 3 c (.int .i64 0)) (ZP Pg ds [] R) w λ w=>
 opV Pg (loadAt 24 b) (ZP Pg ds [] R) w λ h w=>
 Yt Pg 32 #[h] (ZP Pg ds [] R) w λ i w=>
 RC a b d c i ds R w
def If (c d e a:Vl) (Qk:KV) (ds:LDf) (R:RT) (w:Wd):Prop:=
 opV Pg (indexAt 22 e a) (ZP Pg ds [] R) w λ f w=>
 opV Pg (loadAt 48 f) (ZP Pg ds [] R) w λ g w=>
 opV Pg (Instr.alloc 48 true (.tuple #[])) (ZP Pg ds [] R) w λ b w=>
 opU Pg (storeAt 48 b g) (ZP Pg ds [] R) w λ w=>
 opV Pg (loadAt 140 c) (ZP Pg ds [] R) w λ h w=>
 opN Pg (Xb h) (ZP Pg ds [] R) w λ i w=>
 opV Pg (fieldAt 164 i 4) (ZP Pg ds [] R) w λ j w=>
 opU Pg (storeAt 3 j a) (ZP Pg ds [] R) w λ w=>
 opV Pg (loadAt 140 c) (ZP Pg ds [] R) w λ k w=>
 opV Pg (loadAt 48 b) (ZP Pg ds [] R) w λ l w=>
 Yt Pg 160 #[k,l] (ZP Pg ds [] R) w λ m w=>
 Rw d b a Qk ds R w
def DU (a d b e f c:Vl) (Qk:KV) (ds:LDf) (R:RT) (w:Wd):Prop:=
 opV Pg (ZI .lss 3 false c f) (ZP Pg ds [] R) w λ g w=>
 Zq g (
 If a b e c Qk ds R w) (
 DT a d b ds R w)
def A1 (d a:Vl) (ds:LDf) (R:RT) (w:Wd):Prop:=
 opV Pg (Instr.alloc 4 true (.tuple #[])) (ZP Pg ds [] R) w λ b w=>
 opU Pg (storeAt 4 b (.bool true)) (ZP Pg ds [] R) w λ w=>
 opV Pg (fieldAt 24 a 1) (ZP Pg ds [] R) w λ e w=>
 opV Pg (loadAt 22 e) (ZP Pg ds [] R) w λ c w=>
 opV Pg (Builtin.len_ #[22] 3 #[c]) (ZP Pg ds [] R) w λ f w=>
 YS (λ g w Qk=>
 DU d a b c f g Qk ds R w) (.int .i64 0) w
def Ig (c a:Vl) (ds:LDf) (R:RT) (w:Wd):Prop:=
 opV Pg (loadAt 140 c) (ZP Pg ds [] R) w λ f w=>
 opV Pg (fieldAt 24 a 1) (ZP Pg ds [] R) w λ g w=>
 opV Pg (loadAt 22 g) (ZP Pg ds [] R) w λ h w=>
 opV Pg (Builtin.len_ #[22] 3 #[h]) (ZP Pg ds [] R) w λ i w=>
 opV Pg (ZI .geq 3 true i (.int .i64 1)) (ZP Pg ds [] R) w λ d w=>
 Zr (λ (b:Vl) (w:Wd)=>
 Zw d b (.bool false) λ j=>
 Yt Pg 122 #[f,j,(.int .i64 3)] (ZP Pg ds [] R) w λ n w=>
 A1 c a ds R w) λ e=>
 Zn d true (
 opV Pg (fieldAt 24 a 1) (ZP Pg ds [] R) w λ k w=>
 opV Pg (loadAt 22 k) (ZP Pg ds [] R) w λ l w=>
 opV Pg (Builtin.len_ #[22] 3 #[l]) (ZP Pg ds [] R) w λ m w=>
 opV Pg (ZI .leq 3 true m (.int .i64 40)) (ZP Pg ds [] R) w λ b w=>
 e b w) (
 e undef w)
def Ih (b c:Vl) (a:WPr) (ds:LDf) (R:RT) (w:Wd):Prop:=
 I0 140 b a λ e=>
 qN Pg a (Xb e) λ f=>
 J0 164 f 1 a λ g=>
 I0 161 g a λ h=>
 J0 24 c 0 a λ i=>
 I0 9 i a λ j=>
 qV Pg a (Instr.lookup 161 h j true) λ d=>
 qV Pg a (Instr.extract d 0) λ n=>
 qV Pg a (Instr.extract d 1) λ k=>
 opV Pg (loadAt 140 b) (ZP Pg ds [] R) w λ l w=>
 opV Pg (Op.unary .not k) (ZP Pg ds [] R) w λ m w=>
 Yt Pg 122 #[l,m,(.int .i64 2)] (ZP Pg ds [] R) w λ o w=>
 Ig b c ds R w
def Ii (b c:Vl) (a:WPr) (ds:LDf) (R:RT) (w:Wd):Prop:=
 I0 140 b a λ d=>
 J0 24 c 0 a λ e=>
 I0 9 e a λ f=>
 Yt Pg 123 #[f] (ZP Pg ds [] R) w λ g w=>
 a w∧(
 Yt Pg 122 #[d,g,(.int .i64 1)] (ZP Pg ds [] R) w λ i w=>
 a w∧(
 Yy w λ h w=>
 Ih b c h ds R w))
def DV (b c d:Vl) (a:WPr) (ds:LDf) (R:RT) (w:Wd):Prop:=
 qN Pg a (Xb d) λ e=>
 J0 164 e 4 a λ f=>
 opU Pg (storeAt 3 f (.int .i64 (-1))) (ZP Pg ds [] R) w λ w=>
 Xt w λ h w=>
 Yy w λ g w=>
 Ii b c g ds R w
def Ij (b c:Vl) (a:WPr) (ds:LDf) (R:RT) (w:Wd):Prop:=
 I0 140 b a λ d=>
 I0 140 b a λ e=>
 I0 24 c a λ f=>
 qN Pg a (Xb d) λ g=>
 J0 164 g 5 a λ h=>
 opU Pg (storeAt 24 h f) (ZP Pg ds [] R) w λ w=>
 a w∧(
 DV b c e a ds R w)
def n70 (a b:Vl) (R:RT) (w:Wd):Prop:=
 (λ (ds:LDf)=>
 opV Pg (Instr.box 140 a) (ZP Pg ds [] R) w λ c w=>
 opV Pg (Instr.box 24 b) (ZP Pg ds [] R) w λ d w=>
 Yy w λ e w=>
 Ij c d e ds R w) []
set_option maxHeartbeats 40000000 in
theorem ZiO {t0 t1:Vl} {R:RT} {w:Wd} (h:n70 t0 t1 R w):Calls Pg 124 #[t0,t1] w R:=by
 refine yE func124 ?_
 unfold n70 at h
 dsimp only at h
 refine zs<|zr<|yv h λ _ w h=>yv h λ _ w h=>zn<|zk<|zs<|yh [11,12,13,14,15,16,17] h λ C hC h=>ye 0 hC h λ _ h=>?_
 refine ye 1 hC h λ _ h=>?_
 refine ye 2 hC h λ _ h=>?_
 refine yn 3 hC h λ _ h=>?_
 refine ye 4 hC h λ _ h=>?_
 refine yo 5 ?_
 refine yu h λ w h=>zn ?_
 obtain ⟨hC,h⟩:=h
 refine ⟨hC,?_⟩
 refine yn 6 hC h λ _ h=>?_
 refine ye 7 hC h λ _ h=>?_
 refine yq 8 2 ?_
 refine yu h λ w h=>zn ?_
 obtain ⟨C2,hC,h⟩:=h
 refine ⟨C2,hC,?_⟩
 refine yz<|zk<|zs<|yh [18,19,20,21,22] h λ C hC h=>ye 0 hC h λ _ h=>?_
 refine ye 1 hC h λ _ h=>?_
 refine ye 2 hC h λ _ h=>?_
 refine yo 3 ?_
 refine yc h SO λ _ w h=>zn ?_
 obtain ⟨hC,h⟩:=h
 refine ⟨hC,?_⟩
 refine yo 4 ?_
 refine yc h UZ λ _ w h=>zn ?_
 obtain ⟨hC,h⟩:=h
 refine ⟨hC,?_⟩
 refine yz<|zk<|zs<|yh [4,5,23,24,25,26,27,28,29,30,31,32] h λ C hC h=>ye 0 hC h λ _ h=>?_
 refine yn 1 hC h λ _ h=>?_
 refine ye 2 hC h λ _ h=>?_
 refine ye 3 hC h λ _ h=>?_
 refine ye 4 hC h λ _ h=>?_
 refine ye 5 hC h λ _ h=>?_
 refine ye 6 hC h λ _ h=>?_
 refine yw 7 hC ?_
 refine ye 8 hC h λ _ h=>?_
 refine ye 9 hC h λ _ h=>?_
 refine yw 10 hC ?_
 refine yw 11 hC ?_
 refine yz<|zk<|zs<|zr<|yv h λ _ w h=>zm<|yv h λ _ w h=>yc h UZ λ _ w h=>zn<|zk<|zs<|Zu<|yG 6<|yv h λ _ w h=>yv h λ _ w h=>?_
 refine yv h λ _ w h=>yx h λ _ w h=>yb h λ _ w h=>zm<|zn<|yg1 4 5 true [43,44,45,46] 46 h (λ _ T hT h=>?_) λ σ w h=>?_
 · refine yv h λ _ w h=>yv h λ _ w h=>yx h λ _ w h=>yb h λ _ w h=>zn ?_
   exact zt hT h
 refine yG 2<|yp h λ _ h=>yc h UZ λ _ w h=>zn<|ZQ<|zk<|zs<|zr<|yv h λ _ w h=>yu h λ w h=>zn<|zk<|zs<|zs<|zr ?_
 refine yv h λ _ w h=>yv h λ _ w h=>yx h λ _ w h=>zm<|zn<|zk<|Zj<|yl1 [7,8,52,53,54,55,56,57,58,59,60,61,62,63,64,65,66,67,68,69,70] 52 h λ σ w next h=>zs<|zr<|yb h λ _ w h=>zn<|zk<|zs<|yC h (λ h=>?_) λ h=>?_
 · refine Zi<|zk<|zs<|Zj<|zs<|zr<|zm<|yv h λ _ w h=>yv h λ _ w h=>yv h λ _ w h=>zm<|yu h λ w h=>zn<|zk<|zs ?_
   refine zr<|yv h λ _ w h=>zm<|yN h λ _ w h=>yv h λ _ w h=>yu h λ w h=>zn<|zk<|zs<|zr<|yv h λ _ w h=>yv h λ _ w h=>yc h Zg0 λ _ w h=>zn<|zk ?_
   refine Zu<|yG 2<|yv h λ _ w h=>zm<|zn<|yg1 3 1 true [66,67,68] 68 h (λ _ T hT h=>?_) λ σ w h=>?_
   · refine yv h λ _ w h=>yv h λ _ w h=>yv h λ _ w h=>zn ?_
     exact zt hT h
   exact yG 2<|yp h λ _ h=>yu h λ w h=>zn<|ZQ<|Zg<|zk<|zr<|yb h λ _ w h=>zm<|zn<|zk<|⟨rfl,h⟩
 refine ZA<|Zc<|Zc<|Zp<|zk<|zs<|zr<|yv h λ _ w h=>yN h λ _ w h=>yv h λ _ w h=>yu h λ w h=>zn<|zk<|zs<|zr ?_
 refine yv h λ _ w h=>yu h λ w h=>zn<|zk<|zs<|zs<|zr<|yv h λ _ w h=>yc h c32 λ _ w h=>zn<|zk<|Zj<|Gw [] h rfl (λ l8 t76 w Kr8 Xr8 Qr8 h=>?_) (λ ds w h=>?_) (λ c ds w h=>?_) (λ ch ds w h=>Ql rfl h)
 · refine zr<|zm<|zn<|zk ?_
   obtain ⟨hr,h⟩:=h
   refine ⟨rfl,hr,λ w hb=>?_⟩
   have h:=h w hb
   refine Zj<|zs<|yh [77,78,79,80,81,82,83,84] h λ C hC h=>ye 0 hC h λ _ h=>?_
   refine ye 1 hC h λ _ h=>?_
   refine yn 2 hC h λ _ h=>?_
   refine ye 3 hC h λ _ h=>?_
   refine ye 4 hC h λ _ h=>?_
   refine yw 5 hC ?_
   refine ye 6 hC h λ _ h=>?_
   refine ye 7 hC h λ _ h=>?_
   refine yq 8 1 ?_
   refine yu h λ w h=>zn ?_
   obtain ⟨C10,hC,h⟩:=h
   refine ⟨C10,hC,?_⟩
   refine yz<|zk<|Zu<|yG 2<|yv h λ _ w h=>zm<|zn<|yg1 6 1 true [87,88,89,90,91,92] 92 h (λ _ T hT h=>?_) λ σ w h=>?_
   · refine yv h λ _ w h=>yN h λ _ w h=>yv h λ _ w h=>yv h λ _ w h=>zm<|yv h λ _ w h=>zn ?_
     exact zt hT h
   exact yG 2<|yp h λ _ h=>yu h λ w h=>zn<|ZQ<|Zg<|⟨rfl,h⟩
 · refine Zg<|zk<|zs<|yh [94,95,96,97,98,99,100,101,102,103,104,105,106,107,108,109,110,111,112] h λ C hC h=>ye 0 hC h λ _ h=>?_
   refine yn 1 hC h λ _ h=>?_
   refine ye 2 hC h λ _ h=>?_
   refine ye 3 hC h λ _ h=>?_
   refine ye 4 hC h λ _ h=>?_
   refine ye 5 hC h λ _ h=>?_
   refine ye 6 hC h λ _ h=>?_
   refine yn 7 hC h λ _ h=>?_
   refine ye 8 hC h λ _ h=>?_
   refine ye 9 hC h λ _ h=>?_
   refine ye 10 hC h λ _ h=>?_
   refine ye 11 hC h λ _ h=>?_
   refine ye 12 hC h λ _ h=>?_
   refine ye 13 hC h λ _ h=>?_
   refine ye 14 hC h λ _ h=>?_
   refine yo 15 ?_
   refine yv h λ _ w h=>zn ?_
   obtain ⟨hC,h⟩:=h
   refine ⟨hC,?_⟩
   refine ye 16 hC h λ _ h=>?_
   refine yo 17 ?_
   refine yu h λ w h=>zn ?_
   obtain ⟨hC,h⟩:=h
   refine ⟨hC,?_⟩
   refine yo 18 ?_
   refine yv h λ _ w h=>zn ?_
   obtain ⟨hC,h⟩:=h
   refine ⟨hC,?_⟩
   refine ye 19 hC h λ _ h=>?_
   refine yq 20 1 ?_
   refine yu h λ w h=>zn ?_
   obtain ⟨C13,hC,h⟩:=h
   refine ⟨C13,hC,?_⟩
   exact yz<|zk<|zr<|yv h λ _ w h=>yv h λ _ w h=>yb h λ _ w h=>yc h UZ λ _ w h=>zn<|zV<|Y9 rfl h
 exact h.elim
def PI (b a c:Vl) (R:RT) (w:Wd):Prop:=
 X0 119 c b R w λ d w=>
 L0 124 d R w λ e w=>
 S0 124 a e R w λ w=>
 qW Pg 124 a w λ r0=>
 R (.returned (.tuple #[r0,(.int .i64 0)])) w
def H1 (a:Vl) (R:RT) (w:Wd):Prop:=
 opV Pg (Instr.build 124 #[]) (Zh R) w λ b w=>
 S0 124 a b R w λ w=>
 qW Pg 124 a w λ r0=>
 R (.returned (.tuple #[r0,(.int .i64 3)])) w
def DA (b c a d e:Vl) (R:RT) (w:Wd):Prop:=
 Zw d (.bool true) e λ f=>
 Zq f (
 H1 a R w) (
 L0 28 c R w λ g w=>
 C0 78 #[g] R w λ h w=>
 PI b a h R w)
def PJ (a:Vl) (R:RT) (w:Wd):Prop:=
 opV Pg (Instr.build 124 #[]) (Zh R) w λ b w=>
 S0 124 a b R w λ w=>
 qW Pg 124 a w λ r0=>
 R (.returned (.tuple #[r0,(.int .i64 2)])) w
def DB (a c f:Vl) (R:RT) (w:Wd):Prop:=
 B0 .lss 3 true a (.int .i64 0) R w λ d w=>
 Zr (λ (b:Vl) (w:Wd)=>
 DA a c f d b R w) λ e=>
 Zn d false (
 F0 28 c 1 R w λ g w=>
 L0 26 g R w λ h w=>
 G0 26 3 h R w λ i w=>
 B0 .geq 3 false a i R w λ b w=>
 e b w) (
 e undef w)
def Zfy (c d:Vl) (R:RT) (w:Wd):Prop:=
 opV Pg (Instr.box 28 c) (Zh R) w λ a w=>
 opV Pg (Instr.alloc 124 true (.tuple #[])) (Zh R) w λ b w=>
 L0 28 a R w λ e w=>
 C0 29 #[e] R w λ f w=>
 N0 f R w λ g w=>
 Zq g (
 PJ b R w) (
 DB d a b R w)
theorem Zfz {t0 t1:Vl} {R:RT} {w:Wd} (h:Zfy t0 t1 R w):Calls Pg 125 #[t0,t1] w R:=by
 refine yD func125 ?_
 refine zs<|zr<|yv h λ _ w h=>yv h λ _ w h=>zm<|zn<|zk<|zs<|Zj<|zs<|zr<|yv h λ _ w h=>yc h c29 λ _ w h=>yv h λ _ w h=>zm ?_
 refine zn<|zk<|yC h (λ h=>zs<|zr<|yB h λ _ w h=>yu h λ w h=>zm<|zn<|zk<|Ze<|Zf<|Zb<|Yw rfl rfl rfl h) λ h=>zs<|Zu<|yG 3<|zm<|yb h λ _ w h=>zm<|zn<|yg1 5 2 false [15,16,17,18,19] 19 h (λ _ T hT h=>?_) λ σ w h=>?_
 · refine zm<|yv h λ _ w h=>yv h λ _ w h=>yx h λ _ w h=>yb h λ _ w h=>zn ?_
   exact zt hT h
 refine yG 2<|yp h λ _ h=>zm<|zn<|ZQ<|zk<|yC h (λ h=>zs<|zr<|yB h λ _ w h=>yu h λ w h=>zm<|zn<|zk<|Ze<|Zf<|Zb<|Yw rfl rfl rfl h) λ h=>Zi<|Zg<|zk<|zs<|zr<|yv h λ _ w h=>yc h c78 λ _ w h=>?_
 exact zm<|yv h λ _ w h=>yv h λ _ w h=>yu h λ w h=>zm<|zn<|zk<|Ze<|Yw rfl rfl rfl h
def OU (d b c:Vl) (a:WPr) (R:RT) (w:Wd):Prop:=
 I0 124 b a λ e=>
 J0 124 b 0 a λ f=>
 J0 24 f 1 a λ g=>
 I0 22 g a λ h=>
 I0 3 d a λ i=>
 M0 22 h i a λ j=>
 I0 48 j a λ k=>
 C0 127 #[e,k] R w λ l w=>
 a w∧(
 S0 74 c l R w λ w=>
 Xt w λ m w=>
 qW Pg 74 c w λ r0=>
 R (.returned r0) w)
def ZeE (a b:Vl) (R:RT) (w:Wd):Prop:=
 opV Pg (Instr.box 124 a) (Zh R) w λ c w=>
 opV Pg (Instr.alloc 74 true (.tuple #[])) (Zh R) w λ d w=>
 Yy w λ e w=>
 OU b c d e R w
theorem ZeF {t0 t1:Vl} {R:RT} {w:Wd} (h:ZeE t0 t1 R w):Calls Pg 126 #[t0,t1] w R:=by
 refine yD func126 ?_
 refine zs<|zr<|yv h λ _ w h=>yv h λ _ w h=>zn<|zk<|zs<|yh [4,5,6,7,8,9,10,11] h λ C hC h=>ye 0 hC h λ _ h=>?_
 refine ye 1 hC h λ _ h=>?_
 refine ye 2 hC h λ _ h=>?_
 refine ye 3 hC h λ _ h=>?_
 refine ye 4 hC h λ _ h=>?_
 refine ye 5 hC h λ _ h=>?_
 refine ye 6 hC h λ _ h=>?_
 refine yo 7 ?_
 refine yc h ZcS λ _ w h=>zn ?_
 obtain ⟨hC,h⟩:=h
 refine ⟨hC,?_⟩
 refine yq 8 1 ?_
 refine yu h λ w h=>zn ?_
 obtain ⟨C2,hC,h⟩:=h
 refine ⟨C2,hC,?_⟩
 exact yz<|zk<|Ze<|Ya rfl rfl h
end Go.Proofs.YtfjjgjjlebllmaaGreat
