/-
  phrasebooklaw13.ValueInverts returns true for every two values, and leaves its arguments as they were; no condition is asked but that the tables of the library lie as the program lays them (the card ties them).
-/
import Derived.Test.YtcffhmapmaahnaaGreatDoorVg4
set_option linter.all false
set_option maxHeartbeats 4000000
set_option maxRecDepth 100000
namespace Go.Proofs.YtcffhmapmaahnaaGreatDoor
open Sw
open Go.RowKit (intOf Below)
theorem path_put (to:Tr):∀ (l:List Stp) (t:Tr),pathT l t=none↔putT to l t=none
 | [],t=>by simp [pathT,putT]
 | x::l,t=>by
  rw [pathT,putT]
  cases findT (mkB x.1) x.2 t.ps with
  | none=>simp
  | some i =>
   simp only
   cases t.ps[i]? with
   | none=>simp
   | some p =>
    simp only [Option.map_eq_none_iff]
    exact path_put to l p
theorem sum_set {l:List Tr} {i:Nat} {p q:Tr} (h:l[i]?=some p):((l.set i q).map nodesT).sum+nodesT p=(l.map nodesT).sum+nodesT q:=by
 induction l generalizing i with
 | nil=>cases h
 | cons a l ih =>
  cases i with
  | zero =>
   simp only [List.getElem?_cons_zero,Option.some.injEq] at h
   subst h
   rw [List.set_cons_zero,List.map_cons,List.map_cons,List.sum_cons,List.sum_cons]
   omega
  | succ i =>
   have:=ih (i:=i) (by simpa using h)
   rw [List.set_cons_succ,List.map_cons,List.map_cons,List.sum_cons,List.sum_cons]
   omega
theorem put_nodes (to:Tr):∀ (l:List Stp) (t t3:Tr),putT to l t=some t3→nodesT t3≤nodesT t+nodesT to
 | [],t,t3,h=>by
  injection h with h
  rw [← h]
  omega
 | x::l,t,t3,h=>by
  rw [putT] at h
  cases hf:findT (mkB x.1) x.2 t.ps with
  | none=>rw [hf] at h;cases h
  | some i =>
   rw [hf] at h
   simp only at h
   cases hi:t.ps[i]? with
   | none=>rw [hi] at h;cases h
   | some p =>
    rw [hi] at h
    obtain ⟨q,hq,rfl⟩:=Option.map_eq_some_iff.1 h
    have h1:=put_nodes to l p q hq
    have h2:=sum_set (q:=q) hi
    cases t with
    | mk n ps =>
     rw [nodesT_mk,nodesT_mk]
     change ((ps.set i q).map nodesT).sum+_=(ps.map nodesT).sum+_ at h2
     show 1+((ps.set i q).map nodesT).sum≤_
     omega
theorem val_fin {A w:World} {p:Nat} {d0 d1 d2 d3 d4 e:Value} {Q:Value→World→Prop} (hp:A.heap.size≤p) (eA:Ext A w) (hQ:∀ w',Ext A w'→(∀ k,k≠p→w'.heap[k]?=w.heap[k]?)→w'.heap.size=w.heap.size→Q (.tuple #[.agg #[d0,d1,d2,d3,d4],e]) w') :
 Q (.tuple #[.agg #[d0,d1,d2,d3,d4],e]) (setCells w p 0 [d0,d1,d2,d3,d4]):=by
 have gE:Ext A (setCells w p 0 [d0,d1,d2,d3,d4]):=setCells_ext [d0,d1,d2,d3,d4] w 0 A eA hp
 have gO:Only p w (setCells w p 0 [d0,d1,d2,d3,d4]):=setCells_only [d0,d1,d2,d3,d4] w 0
 exact hQ _ gE (fun k hk=>gO k hk) (setCells_size [d0,d1,d2,d3,d4] (b:=p) w 0)
theorem InS.same {w w':World} {lo hi B:Nat} (hk:∀ b,lo≤b→b < hi→b < w.heap.size→w'.heap[b]?=w.heap[b]?) (t:Tr):∀ cs,InS w lo hi B t cs→InS w' lo hi B t cs:=by
 have hrow:∀ {T:TypeId} {n len:Nat} {E E':Nat→List Value→Prop} {v:Value},RowIn w lo hi T n E len v→(∀ k cs,E k cs→E' k cs)→RowIn w' lo hi T n E' len v:=by
  intro T n len E E' v h hE
  obtain ⟨A,c,rfl,hc,hk'⟩:=h
  refine ⟨A,c,rfl,hc,fun k hkl=>?_⟩
  obtain ⟨b,cur,cs,a1,a2,a3,a4,a5,a6,a7⟩:=hk' k hkl
  exact ⟨b,cur,cs,a1,a2,a3,(hk b a2 a3 (Array.getElem?_eq_some_iff.1 a4).1).trans a4,a5,a6,hE _ _ a7⟩
 refine Tr.ind (p:=fun t=>∀ cs,InS w lo hi B t cs→InS w' lo hi B t cs) ?_ t
 intro n ps ih cs h
 obtain ⟨nm,i,bv,hv,pv,rfl,g1,g2,g3⟩:=InS_mk.1 h
 refine InS_mk.2 ⟨nm,i,bv,hv,pv,rfl,hrow g1 fun _ _ h=>h,hrow g2 fun _ _ h=>h,hrow g3 ?_⟩
 rintro _ _ ⟨x,hx,h⟩
 exact ⟨x,hx,ih x (List.mem_of_getElem? hx) _ h⟩
theorem InT.same {w w':World} {lo hi B:Nat} {t:Tr} {cs:List Value} (h:InT w lo hi B t cs) (hk:∀ b,lo≤b→b < hi→b < w.heap.size→w'.heap[b]?=w.heap[b]?):InT w' lo hi B t cs:=⟨h.1.keep (Nat.le_refl _) (Nat.le_refl _) hk,InS.same hk t cs h.2⟩
theorem trCells_one {n:Nd} {a b c:Value} (ha:a.oneCell'=true) (hb:b.oneCell'=true) (hc:c.oneCell'=true):∀ v∈trCells n a b c,v.oneCell'=true:=by
 intro v hv
 unfold trCells at hv
 rcases List.mem_cons.1 hv with h | hv
 · rw [h];rfl
 rcases List.mem_cons.1 hv with h | hv
 · rw [h];rfl
 rcases List.mem_cons.1 hv with h | hv
 · rw [h];exact ha
 rcases List.mem_cons.1 hv with h | hv
 · rw [h];exact hb
 rcases List.mem_cons.1 hv with h | hv
 · rw [h];exact hc
 · cases hv
def SetK (w0:World) (B:Nat) (s:List UInt8) (t to:Tr) (r:Value) (w':World):Prop:=Ext w0 w'∧if validT t=true∧validT to=true then match stepsP s with
 | none=>r = .tuple #[zeroV,.int .i64 6]
 | some l=>match putT to l t with
  | none=>r = .tuple #[zeroV,.int .i64 9]
  | some t3=>if validT t3=true then ∃ cs lo hi,r = .tuple #[.agg cs.toArray,.int .i64 0]∧InT w' lo hi B t3 cs∧w0.heap.size≤lo∧hi≤w'.heap.size else r = .tuple #[zeroV,.int .i64 3]
 else r = .tuple #[zeroV,.int .i64 2]
theorem Set_ret {w0:World} (hE:EnvOK w0) (B:Nat) (v u:Value) (t to:Tr) (s:List UInt8) (hs:s.length≤100000000) (hv:ValAt w0 v t) (hu:ValAt w0 u to) (hb:nodesT t≤1000000000) (hb2:nodesT to≤1000000000) (hB:hnT B t=true) (hB2:hnT B to=true):Ret Pg 20 #[v,.string (mkB s),u] w0 fun r w'=>SetK w0 B s t to r w':=by
 obtain ⟨bv,hv',pv,rfl,hbB,hbH,hbT,o1,o2,o3⟩:=hv.op
 obtain ⟨bu,hu',pu,rfl,huB,huH,huT,p1,p2,p3⟩:=hu.op
 refine n44s (R:=retR _) ?_;unfold n44
 simp (disch:=try exact DI) only [↓PR,QR,simprocAttr]
 rw [show (Value.agg (trCells t.nd bv hv' pv).toArray).cells=(trCells t.nd bv hv' pv).toArray from rfl,show (Value.agg (trCells to.nd bu hu' pu).toArray).cells=(trCells to.nd bu hu' pu).toArray from rfl]
 have c1:=heap_new w0 #[.string t.nd.name,.int .i64 t.nd.int,bv,hv',pv] 26
 change (w0.alloc (.cells (trCells t.nd bv hv' pv).toArray 26)).heap[w0.heap.size]?=_ at c1
 have e1:Ext w0 (w0.alloc (.cells (trCells t.nd bv hv' pv).toArray 26)):=(Ext.refl w0).alloc _
 have z1:(w0.alloc (.cells (trCells t.nd bv hv' pv).toArray 26)).heap.size=w0.heap.size+1:=by simp
 generalize (w0.alloc (.cells (trCells t.nd bv hv' pv).toArray 26))=w1 at *
 have c2:=heap_new w1 #[.string to.nd.name,.int .i64 to.nd.int,bu,hu',pu] 26
 change (w1.alloc (.cells (trCells to.nd bu hu' pu).toArray 26)).heap[w1.heap.size]?=_ at c2
 have e2:Ext w1 (w1.alloc (.cells (trCells to.nd bu hu' pu).toArray 26)):=(Ext.refl w1).alloc _
 have z2:(w1.alloc (.cells (trCells to.nd bu hu' pu).toArray 26)).heap.size=w1.heap.size+1:=by simp
 generalize (w1.alloc (.cells (trCells to.nd bu hu' pu).toArray 26))=w2 at *
 have c3:=heap_new w2 #[.string ByteArray.empty,.int .i64 0,.slice none 0 0,.slice none 0 0,.slice none 0 0] 26
 have e3:Ext w2 (w2.alloc (.cells #[.string ByteArray.empty,.int .i64 0,.slice none 0 0,.slice none 0 0,.slice none 0 0] 26)):=ee
 generalize (w2.alloc (.cells #[.string ByteArray.empty,.int .i64 0,.slice none 0 0,.slice none 0 0,.slice none 0 0] 26))=w3 at *
 rw [z2] at c3 ⊢
 rw [z1] at c2 c3 ⊢
 have e:=e1.trans (e2.trans e3)
 have c1:=e3.obj (e2.obj c1)
 have c2:=e3.obj c2
 clear e1 e2 e3 z1 z2
 have hV:ValAt w0 (.agg (trCells t.nd bv hv' pv).toArray) t:=⟨_,_,_,rfl,hbB,hbH,hbT⟩
 have hU:ValAt w0 (.agg (trCells to.nd bu hu' pu).toArray) to:=⟨_,_,_,rfl,huB,huH,huT⟩
 refine zcr (Valid_ret w3 _ t (hV.ext e) hb) fun w4 e4=>?_
 have c1:=e4.obj c1
 have c2:=e4.obj c2
 have c3:=e4.obj c3
 have e:=e.trans e4
 clear e4
 unfold n44c8 joinK
 cases hva:validT t with
 | false =>
  simp (disch:=try exact DI) only [↓PR,QR,simprocAttr]
  unfold n44c7
  simp (disch:=try exact DI) only [↓PR,QR,simprocAttr]
  unfold n44c6
  refine zero_out (A:=w0) (by omega) e c3 fun w' e' _=>⟨e',?_⟩
  rw [hva]
  simp
 | true =>
  simp (disch:=try exact DI) only [↓PR,QR,simprocAttr,(cells_of_heap c2).1]
  refine zcr (Valid_ret w4 _ to (hU.ext e) hb2) fun w5 e5=>?_
  have c1:=e5.obj c1
  have c2:=e5.obj c2
  have c3:=e5.obj c3
  have e:=e.trans e5
  clear e5
  unfold n44c7
  cases hvu:validT to with
  | false =>
   simp (disch:=try exact DI) only [↓PR,QR,simprocAttr]
   unfold n44c6
   refine zero_out (A:=w0) (by omega) e c3 fun w' e' _=>⟨e',?_⟩
   rw [hva,hvu]
   simp
  | true =>
   simp (disch:=try exact DI) only [↓PR,QR,simprocAttr,(cells_of_heap c1).1]
   refine callK_ret (Copy_ret t w5 _ (hV.ext e) (valid_fit hva)) ?_
   rintro _ w6 ⟨⟨cs6,rfl,hO6⟩,e6⟩
   have c1:=e6.obj c1
   have c2:=e6.obj c2
   have c3:=e6.obj c3
   have lt3:=(Array.getElem?_eq_some_iff.1 (show w5.heap[w0.heap.size+1+1]?=_ by assumption)).1
   have e:=e.trans e6
   obtain ⟨b6,h6,q6,rfl,_,_,_,f1,f2,f3⟩:=hO6.read.op
   unfold n44c5
   simp (disch:=try exact DI) only [↓PR,QR,simprocAttr]
   have c4:=heap_new w6 #[.string t.nd.name,.int .i64 t.nd.int,b6,h6,q6] 26
   have e7:Ext w6 (w6.alloc (.cells #[.string t.nd.name,.int .i64 t.nd.int,b6,h6,q6] 26)):=ee
   have z7:(w6.alloc (.cells #[.string t.nd.name,.int .i64 t.nd.int,b6,h6,q6] 26)).heap.size=w6.heap.size+1:=by simp
   generalize (w6.alloc (.cells #[.string t.nd.name,.int .i64 t.nd.int,b6,h6,q6] 26))=w7 at *
   have hO7:=hO6.ext e7
   have c1:=e7.obj c1
   have c2:=e7.obj c2
   have c3:=e7.obj c3
   have e:=e.trans e7
   generalize hq0:w6.heap.size=q at *
   have hle6:w5.heap.size≤q:=by have:=e6.size;omega
   have hel:ElemAt w7 q 0 (trCells t.nd b6 h6 q6):=fun j u hu=>by
    rw [Nat.zero_add,(cells_of_heap c4).1]
    simpa [trCells] using hu
   refine callK_ret (at_ret (hE.ext e) q 0 _ t s hs hel rfl hO7.read (valid_nodes hva)) ?_
   rintro r w8 ⟨e8,hr⟩
   have c1:=e8.obj c1
   have c2:=e8.obj c2
   have c3:=e8.obj c3
   have c4':=e8.obj c4
   have e:=e.trans e8
   unfold n44c4
   cases hP:stepsP s with
   | none =>
    rw [hP] at hr
    simp only at hr
    subst hr
    simp (disch:=try exact DI) only [↓PR,QR,simprocAttr,(cells_of_heap c3).1,(cells_of_heap c3).2]
    refine zero_fin (A:=w0) (Q:=SetK w0 B s t to) (by omega) e fun w' e' _=>⟨e',?_⟩
    rw [hva,hvu,hP]
    simp
   | some l =>
    rw [hP] at hr
    simp only at hr
    cases hpt:pathT l t with
    | none =>
     rw [hpt] at hr
     simp only at hr
     subst hr
     simp (disch:=try exact DI) only [↓PR,QR,simprocAttr,(cells_of_heap c3).1,(cells_of_heap c3).2]
     refine zero_fin (A:=w0) (Q:=SetK w0 B s t to) (by omega) e fun w' e' _=>⟨e',?_⟩
     rw [hva,hvu,hP]
     simp [(path_put to l t).1 hpt]
    | some is =>
     rw [hpt] at hr
     obtain ⟨b',o',t',cs',rfl,hptr,hat,h5,hA',hT'⟩:=hr
     simp (disch:=try exact DI) only [↓PR,QR,simprocAttr,(cells_of_heap c2).1]
     refine callK_ret (Copy_ret to w8 _ (hU.ext e) (valid_fit hvu)) ?_
     rintro _ w9 ⟨⟨cs9,rfl,hO9⟩,e9⟩
     have z8:=e8.size
     obtain ⟨b9,h9,q9,rfl,_,_,_,k1,k2,k3⟩:=hO9.read.op
     have hput:∃ cur:Array Value,w9.heap[b']?=some (.cells cur 26 (0,0))∧o'+5≤cur.size∧w5.heap.size≤b'∧b'≤q∧∃ t3 cs3,putT to l t=some t3∧(setCells w9 b' o' (trCells to.nd b9 h9 q9)).heap[q]?=some (.cells cs3.toArray 26 (0,0))∧InT (setCells w9 b' o' (trCells to.nd b9 h9 q9)) w5.heap.size w9.heap.size B t3 cs3:=by
      have e79:=e8.trans e9
      have c49:=e79.obj c4
      have z9:=e9.size
      cases l with
      | nil =>
       injection hpt with hpt
       subst hpt
       obtain ⟨rfl,rfl⟩:=hptr
       have hoW:Only q w9 (setCells w9 q 0 (trCells to.nd b9 h9 q9)):=scOnly _ _ _
       have g2:=setCells_heap [.string to.nd.name,.int .i64 to.nd.int,b9,h9,q9] 0 c49
       rw [setA_all (vs:=[.string to.nd.name,.int .i64 to.nd.int,b9,h9,q9]) (cs := #[.string t.nd.name,.int .i64 t.nd.int,b6,h6,q6]) rfl] at g2
       exact ⟨_,c49,Nat.le_refl _,hle6,Nat.le_refl _,to,_,rfl,g2,InT.mono (InT.of _ (hO9.only hoW (.inr (by omega))) hB2) (by omega) (Nat.le_refl _) (Nat.le_refl _)⟩
      | cons x l =>
       obtain ⟨r1,r2,⟨cur,r3,r4⟩,t3,r5,r6⟩:=put_own (cs2:=⟨trCells to.nd b9 h9 q9,rfl⟩) hO9 hB2 l x t w5.heap.size q q 0 b' o' _ is (hO7.ext e79) hB (by omega) hpt (hel.ext e79) (hptr.ext e79)
       exact ⟨cur,r3,r4,r1,by omega,t3,_,r5,(scOnly _ _ _ q (by omega)).trans c49,r6⟩
     obtain ⟨cur,hcur,hsz,hb5,hbq,t3,cs3,hput3,hq3,hI3⟩:=hput
     have c3:=e9.obj c3
     have e:=e.trans e9
     unfold n44c3
     rw [op_nil,scStore ty26 hcur o' (trCells to.nd b9 h9 q9) hsz rfl (trCells_one k1 k2 k3)]
     have hoW:Only b' w9 (setCells w9 b' o' (trCells to.nd b9 h9 q9)):=scOnly _ _ _
     have zW:(setCells w9 b' o' (trCells to.nd b9 h9 q9)).heap.size=w9.heap.size:=setCells_size (trCells to.nd b9 h9 q9) (b:=b') w9 o'
     have eW:Ext w0 (setCells w9 b' o' (trCells to.nd b9 h9 q9)):=scExt (by omega) _ _ e
     generalize setCells w9 b' o' (trCells to.nd b9 h9 q9)=w10 at *
     have c3:=(hoW _ (by omega)).trans c3
     obtain ⟨b3,h3,q3,rfl,g1,g2,g3,g4,g5,g6⟩:=hI3.1.all.op
     have hn3:=put_nodes to l t t3 hput3
     have hva':=valid_nodes hva
     have hvu':=valid_nodes hvu
     have hq3:w10.heap[q]?=some (.cells #[.string t3.nd.name,.int .i64 t3.nd.int,b3,h3,q3] 26 (0,0)):=hq3
     simp (disch:=try exact DI) only [↓PR,QR,simprocAttr,(cells_of_heap hq3).1]
     refine zcr (Valid_ret w10 _ t3 ⟨_,_,_,rfl,g1,g2,g3⟩ (by omega)) fun w11 e11=>?_
     have c3:=e11.obj c3
     have hq3:=e11.obj hq3
     have eW:=eW.trans e11
     cases hv3:validT t3 with
     | false =>
      simp (disch:=try exact DI) only [↓PR,QR,simprocAttr]
      unfold n44c1
      refine zero_out (A:=w0) (by omega) eW c3 fun w' e' _=>⟨e',?_⟩
      rw [hva,hvu,hP]
      simp [hput3,hv3]
     | true =>
      simp (disch:=try exact DI) only [↓PR,QR,simprocAttr]
      unfold n44c2
      simp (disch:=try exact DI) only [↓PR,QR,simprocAttr,(cells_of_heap hq3).1,(cells_of_heap c3).1,(cells_of_heap c3).2]
      refine val_fin (A:=w0) (w:=w11) (p:=w0.heap.size+1+1) (d0 := .string t3.nd.name) (d1 := .int .i64 t3.nd.int) (d2:=b3) (d3:=h3) (d4:=q3) (e := .int .i64 0) (Q:=SetK w0 B s t to) (by omega) eW fun w' e' k' z'=>⟨e',?_⟩
      rw [hva,hvu,hP]
      simp only [hput3,hv3,and_self,if_true]
      have z11:=e11.size
      exact ⟨_,w5.heap.size,w9.heap.size,rfl,hI3.same fun b h1 h2 h3=>(k' b (by omega)).trans (e11.block b h3),by omega,by omega⟩
def dotB (path b:List UInt8):List UInt8:=if path=[] then b else path++46::b
def stepB (nm:ByteArray) (n:Nat):List UInt8:=nm.data.toList++if n=0 then [] else 58::Go.Lib.decDigits n
def cntB (seen:List ByteArray) (nm:ByteArray):Nat:=(seen.filter fun x=>decide (x=nm)).length
def partsW {α:Type _} (path:List UInt8):List ByteArray→List Tr→List (List UInt8→α)→List α
 | seen,p::ps,r::rs=>r (dotB path (stepB p.nd.name (cntB seen p.nd.name)))::partsW path (seen++[p.nd.name]) ps rs
 | _,_,_=>[]
noncomputable def walkT:Tr→List UInt8→List (List UInt8×Tr):=Tr.fold fun n ps rs path=>(path,.mk n ps)::(partsW path [] ps rs).flatten
theorem walkT_mk (n:Nd) (ps:List Tr) (path:List UInt8):walkT (.mk n ps) path=(path,.mk n ps)::(partsW path [] ps (ps.map walkT)).flatten:=by
 unfold walkT
 rw [Tr.fold_mk]
def belowB (path:List UInt8) (ps:List Tr) (k:Nat) (p:Tr):List UInt8:=dotB path (stepB p.nd.name (cntB ((ps.take k).map fun x=>x.nd.name) p.nd.name))
theorem partsW_len {α:Type _} {path:List UInt8} {f:Tr→List UInt8→α}:∀ {ps:List Tr} {seen:List ByteArray},(partsW path seen ps (ps.map f)).length=ps.length
 | [],_=>rfl
 | p::ps,seen=>by
  show (partsW path (seen++[p.nd.name]) ps (ps.map f)).length+1=ps.length+1
  rw [partsW_len]
theorem partsW_get {α:Type _} {path:List UInt8} {f:Tr→List UInt8→α}:∀ {ps:List Tr} {seen:List ByteArray} {k:Nat} {p:Tr},ps[k]?=some p→(partsW path seen ps (ps.map f))[k]?=some (f p (dotB path (stepB p.nd.name (cntB (seen++(ps.take k).map fun x=>x.nd.name) p.nd.name))))
 | [],_,_,_,h=>by cases h
 | q::ps,seen,0,p,h=>by
  simp only [List.getElem?_cons_zero,Option.some.injEq] at h
  subst h
  simp [partsW]
 | q::ps,seen,k+1,p,h=>by
  have:=partsW_get (path:=path) (f:=f) (ps:=ps) (seen:=seen++[q.nd.name]) (k:=k) (p:=p) (by simpa using h)
  show (partsW path (seen++[q.nd.name]) ps (ps.map f))[k]?=_
  rw [this]
  simp
def K3 (X:World) (a b c:Nat):World→Prop:=fun u=>u.heap[a]?=X.heap[a]?∧u.heap[b]?=X.heap[b]?∧u.heap[c]?=X.heap[c]?
instance (X:World) (a b c:Nat):ClassNe (K3 X a b c):=⟨⟨X,rfl,rfl,rfl⟩⟩
theorem drawK_introK {w:World} (a b c:Nat) {f:(World→Prop)→World→Prop} (h:f (K3 (drew w) a b c) (drew w)):drawK w f:=⟨K3 (drew w) a b c,⟨rfl,rfl,rfl⟩,h⟩
section
variable {X:World} {a b c:Nat}
theorem K3.at {u:World} (e:K3 X a b c u) {p:Nat} (hp:p=a∨p=b∨p=c):u.heap[p]?=X.heap[p]?:=by
 rcases hp with rfl | rfl | rfl
 · exact e.1
 · exact e.2.1
 · exact e.2.2
theorem qK_one {T:TypeId} {n m:Nat} {z v:Value} {k:Value→Prop} {p:Nat} (h:TyInfo Pg T false n m z) {cs:Array Value} {T':TypeId} (hp:p=a∨p=b∨p=c) (hc:X.heap[p]?=some (.cells cs T' (0,0))) {o:Nat} (hv:cs[o]?=some v):qV Pg (K3 X a b c) (Instr.loadAt T (.pointer (some ⟨p,o,none⟩))) k=k v :=
 qV_eqC fun w' e=>run_of_op (P:=Pg) (w:=w') (s:=Instr.loadAt T (.pointer (some ⟨p,o,none⟩))) (v:=v) (fun QP k=>op_load1 h (by
  have:w'.heap[p]?=X.heap[p]?:=K3.at e hp
  rw [(cells_of_heap (this.trans hc)).1];exact hv))
theorem qK_all {T:TypeId} {n m:Nat} {z:Value} {k:Value→Prop} {p:Nat} (h:TyInfo Pg T true n m z) {cs:List Value} {T':TypeId} (hp:p=a∨p=b∨p=c) (hc:X.heap[p]?=some (.cells cs.toArray T' (0,0))) (hl:cs.length=n):qV Pg (K3 X a b c) (Instr.loadAt T (.pointer (some ⟨p,0,none⟩))) k=k (.agg cs.toArray) :=
 qV_eqC fun w' e=>run_of_op (P:=Pg) (w:=w') (s:=Instr.loadAt T (.pointer (some ⟨p,0,none⟩))) (v := .agg cs.toArray) (fun QP k=>op_load (ElemAt.loads (cs:=cs) (fun j v hv=>by
  have:w'.heap[p]?=X.heap[p]?:=K3.at e hp
  rw [Nat.zero_add,(cells_of_heap (this.trans hc)).1];simpa using hv) h hl))
end
theorem outs7 {Q:Bks→World→Prop} (hQ:Lasts7 Q) {V:Bks} {L:List (Option TypeId×Value)} {R:RT} {bs:List Nat} (hk:∀ w,Q V w→outX Pg [] L R w):∀ {w:World},bs.Nodup→(∀ b∈bs,MarkAt b w)→(∀ b∈bs,V b)→Q V w→outX Pg (bs.map Sw.mark) L R w:=by
 induction bs with
 | nil=>exact fun _ _ _ h=>hk _ h
 | cons b bs ih =>
  intro w hn hm hB h
  obtain ⟨hb,hn'⟩:=List.nodup_cons.1 hn
  have hmb:=hm b (List.mem_cons_self ..)
  refine outX_mark hmb (ih hn' (fun c hc=>?_) (fun c hc=>hB c (List.mem_cons_of_mem _ hc)) (hQ.put (hB b (List.mem_cons_self ..)) h _))
  exact (World.putObj_heap_other (fun (e:c=b)=>hb (by rw [← e];exact hc))).trans (hm c (List.mem_cons_of_mem _ hc))
theorem outq7 {Q:Bks→World→Prop} (hQ:Lasts7 Q) {V:Bks} {L:List (Option TypeId×Value)} {R:RT} {ch:List PanicEntry} {bs:List Nat} (hk:∀ w,Q V w→R (.panicked ch) w):∀ {w:World},bs.Nodup→(∀ b∈bs,MarkAt b w)→(∀ b∈bs,V b)→Q V w→outQ Pg (bs.map Sw.mark) L R ch w:=by
 induction bs with
 | nil=>intro w _ _ _ h;rw [List.map_nil,outQ_nil];exact hk _ h
 | cons b bs ih =>
  intro w hn hm hB h
  obtain ⟨hb,hn'⟩:=List.nodup_cons.1 hn
  have hmb:=hm b (List.mem_cons_self ..)
  refine outQ_mark hmb (ih hn' (fun c hc=>?_) (fun c hc=>hB c (List.mem_cons_of_mem _ hc)) (hQ.put (hB b (List.mem_cons_self ..)) h _))
  exact (World.putObj_heap_other (fun (e:c=b)=>hb (by rw [← e];exact hc))).trans (hm c (List.mem_cons_of_mem _ hc))
theorem LW7.shrink {V V':Bks} (w:World) (h:∀ b,V' b→V b):LW7 V V' w w:=⟨rfl,rfl,rfl,Nat.le_refl _,fun _ _ _=>rfl,fun b hb => .inl (h b hb)⟩
structure Rg (A:World) (lo hi:Nat) (u:World):Prop where
 env:EnvOK u
 size:hi≤u.heap.size
 same:∀ b,lo≤b→b < hi→u.heap[b]?=A.heap[b]?
theorem Rg.ext {A:World} {lo hi:Nat} {u u':World} (h:Rg A lo hi u) (e:Ext u u'):Rg A lo hi u':=⟨h.env.ext e,Nat.le_trans h.size e.size,fun b h1 h2=>(e.block b (Nat.lt_of_lt_of_le h2 h.size)).trans (h.same b h1 h2)⟩
theorem Rg.eti {A:World} {lo hi:Nat} {u:World} (h:Rg A lo hi u) {cs:List Value} {t:Tr} (hE:ETi A lo hi cs t):ETr u cs t:=(hE.keep (w':=u) (Nat.le_refl _) (Nat.le_refl _) fun k h1 h2 _=>h.same k h1 h2).all
theorem Rg.elem {A:World} {lo hi:Nat} {u:World} (h:Rg A lo hi u) {b o:Nat} {cs:List Value} (hE:ElemAt (restr A lo hi) b o cs):ElemAt u b o cs:=fun j v hv=>by
 obtain ⟨h1,h2⟩:=restr_cell (hE j v hv)
 rw [← h2]
 exact World.cell?_of_block (h.same b h1.1 h1.2)
theorem val_of_eti {w:World} {n:Nd} {ps:List Tr} {bv hv pv:Value} (h:ETr w (trCells n bv hv pv) (.mk n ps)):ValAt w (.agg (trCells n bv hv pv).toArray) (.mk n ps):=by
 obtain ⟨x1,x2,x3,hx,y1,y2,y3⟩:=ETr_of.1 h
 exact ⟨x1,x2,x3,by rw [hx],y1,y2,y3⟩
def WalkY (L:List (List UInt8×Tr)):Nat→Nat→Value→Value→Bks→World→Prop:=fun base k x y V w=>∃ q cs lo hi,L[k]?=some q∧x = .string (mkB q.1)∧y = .agg cs.toArray∧OwnT w q.2 lo hi cs∧base≤lo∧hi≤w.heap.size∧∀ b,lo≤b→b < hi→¬ V b
def WalkP (p1 p2:Nat) (path:List UInt8) (cs:List Value) (w:World):Prop:=w.heap[p1]?=some (.cells #[.string (mkB path)] 9 (0,0))∧w.heap[p2]?=some (.cells cs.toArray 26 (0,0))
def WalkSeq (A:World) (lo hi:Nat) (t:Tr) (path:List UInt8) (cs:List Value):Prop:=∀ p1 p2,hi≤p1→hi≤p2→p1≠p2→SeqIt7 Pg 82 #[.pointer (some ⟨p1,0,none⟩),.pointer (some ⟨p2,0,none⟩)] (walkT t path).length (WalkY (walkT t path)) (fun _=>False) (fun _=>True) (fun w=>Rg A lo hi w∧WalkP p1 p2 path cs w)
theorem walk_ret (w0:World) (path:List UInt8) (t:Tr) (bv hv pv:Value) (o1:bv.oneCell'=true) (o2:hv.oneCell'=true) (o3:pv.oneCell'=true):Ret Pg 59 #[.agg (trCells t.nd bv hv pv).toArray,.string (mkB path)] w0 fun r w'=>r = .func (.func 82) #[] #[.pointer (some ⟨w0.heap.size+1,0,none⟩),.pointer (some ⟨w0.heap.size,0,none⟩)]∧WalkP (w0.heap.size+1) w0.heap.size path (trCells t.nd bv hv pv) w'∧Ext w0 w':=by
 refine n69s (R:=retR _) ?_;unfold n69
 simp (disch:=try exact DI) only [↓PR,QR,simprocAttr]
 have c1:=heap_new w0 #[.string t.nd.name,.int .i64 t.nd.int,bv,hv,pv] 26
 change (w0.alloc (.cells (trCells t.nd bv hv pv).toArray 26)).heap[w0.heap.size]?=_ at c1
 have e1:Ext w0 (w0.alloc (.cells (trCells t.nd bv hv pv).toArray 26)):=(Ext.refl w0).alloc _
 have z1:(w0.alloc (.cells (trCells t.nd bv hv pv).toArray 26)).heap.size=w0.heap.size+1:=by simp
 have c2:=heap_new (w0.alloc (.cells (trCells t.nd bv hv pv).toArray 26)) #[.string (mkB path)] 9
 rw [z1] at c2
 have e2:Ext (w0.alloc (.cells (trCells t.nd bv hv pv).toArray 26)) ((w0.alloc (.cells (trCells t.nd bv hv pv).toArray 26)).alloc (.cells #[.string (mkB path)] 9)):=(Ext.refl _).alloc _
 exact ⟨trivial,⟨c2,e2.obj c1⟩,e1.trans e2⟩
def Vk (p3 m:Nat) (bs:List Nat):Bks:=fun b=>b=p3∨b=m∨b∈bs
structure WkI (J:Nat→Bks→World→Prop) (LL:List (List (List UInt8×Tr))) (ps:List Tr) (path:List UInt8) (cs:List Value) (p1 p2 p3 m:Nat) (yv:Value) (k:Nat) (bs:List Nat) (w:World):Prop where
 j:J (offL LL k+1) (Vk p3 m bs) w
 s1:w.heap[p1]?=some (.cells #[.string (mkB path)] 9 (0,0))
 s2:w.heap[p2]?=some (.cells cs.toArray 26 (0,0))
 s3:w.heap[p3]?=some (.cells #[yv] 97 (0,0))
 mp:∃ L c,MapS w m L c∧∀ nm,(Sw.look L nm).getD (Value.int .i64 0) = .int .i64 (cntB ((ps.take k).map fun x=>x.nd.name) nm:Int)
 nd:bs.Nodup
 mks:∀ b∈bs,MarkAt b w
 bs3:∀ b∈bs,p3≤b
 n1:p1 < p3
 n2:p2 < p3
 n3:p3 < m
 n4:m < w.heap.size
theorem WkI.ext {J:Nat→Bks→World→Prop} (hJl:∀ k,Lasts7 (J k)) {LL:List (List (List UInt8×Tr))} {ps:List Tr} {path:List UInt8} {cs:List Value} {p1 p2 p3 m:Nat} {yv:Value} {k:Nat} {bs:List Nat} {w w':World} (H:WkI J LL ps path cs p1 p2 p3 m yv k bs w) (e:Ext w w'):WkI J LL ps path cs p1 p2 p3 m yv k bs w':=by
 obtain ⟨L,c,h1,h2⟩:=H.mp
 exact ⟨(hJl _).ext H.j e,e.obj H.s1,e.obj H.s2,e.obj H.s3,⟨L,c,h1.ext e,h2⟩,H.nd,fun b hb=>(H.mks b hb).ext e,H.bs3,H.n1,H.n2,H.n3,Nat.lt_of_lt_of_le H.n4 e.size⟩
theorem or_lasts {J:Bks→World→Prop} (h:Lasts7 J) (U:Bks):Lasts7 (fun V w=>J (fun b=>U b∨V b) w):=fun V V' w w' hl hI=>h _ _ _ _ ⟨hl.os,hl.tape,hl.output,hl.size,fun b hb hv=>hl.block b hb fun h=>hv (.inr h),fun b hb=>by
 rcases hb with hb | hb
 · exact .inl (.inl hb)
 · exact (hl.new b hb).imp_left .inr⟩ hI
theorem marks_lasts (bs:List Nat):Lasts7 (fun V w=>∀ b∈bs,¬ V b∧w.heap[b]?=some (.deferred (some []))):=fun V V' w w' hl h b hb=>Lasts7.has _ _ _ _ hl (h b hb)
def WkR (J:Nat→Bks→World→Prop) (Jx:Bks→World→Prop) (Jp:List PanicEntry→Bks→World→Prop) (N:Nat):Ending→World→Prop:=fun e w'=>match e with
 | .returned _=>∃ V,J N V w'∨Jx V w'
 | .panicked ch=>∃ V,Jp ch V w'
 | .outgrown=>False
theorem walk_tail {A:World} {rl rh:Nat} {J:Nat→Bks→World→Prop} {Jx:Bks→World→Prop} {Jp:List PanicEntry→Bks→World→Prop} {n:Nd} {ps:List Tr} {LL:List (List (List UInt8×Tr))} {path:List UInt8} {csv:List Value} {p1 p2 p3 m p6 k:Nat} {yv:Value} {bs:List Nat} {x:Tr} {bx hx' px:Value} {w:World} {next2:List Deferred→Value→World→Prop} (hFP:∀ k V w,J k V w→Rg A rl rh w∧WalkP p1 p2 path csv w) (hFPx:∀ V w,Jx V w→Rg A rl rh w∧WalkP p1 p2 path csv w) (hJl:∀ k,Lasts7 (J k)) (hJx:Lasts7 Jx) (hJp:∀ ch,Lasts7 (Jp ch)) (hA3:rh≤p3) (hy:yv.oneCell'=true)
 (hstep:∀ k,k < ((path,Tr.mk n ps)::LL.flatten).length→∀ x y V w',WalkY ((path,Tr.mk n ps)::LL.flatten) p3 k x y V w'→(∀ b,V b→False∨p3≤b)→∀ Rk,Firm7 V Rk→J k V w'→Rk w'→callV Pg yv #[x,y] (fun ch w''=>Rk w''∧Jp ch V w'') w' (fun v w''=>Rk w''∧((v = .bool true∧J (k+1) V w'')∨(v = .bool false∧Jx V w''))))
 (H:WkI J LL ps path csv p1 p2 p3 m yv k bs w) (hx:ps[k]?=some x) (hLk:LL[k]?=some (walkT x (belowB path ps k x))) (hpl:path.length≤900000000) (hnb:nameB x.nd.name=true) (hkl:k≤1000000000) (f1:bx.oneCell'=true) (f2:hx'.oneCell'=true) (f3:px.oneCell'=true) (ih:WalkSeq A rl rh x (belowB path ps k x) (trCells x.nd bx hx' px)) (h6:w.heap[p6]?=some (.cells #[.string x.nd.name,.int .i64 x.nd.int,bx,hx',px] 26 (0,0)))
 (hnext:∀ r w',WkI J LL ps path csv p1 p2 p3 m yv (k+1) (r::bs) w'→next2 ((r::bs).map Sw.mark) (.int .i64 ((k+1:Nat):Int)) w') :
 n70c5 (.pointer (some ⟨p1,0,none⟩)) (.pointer (some ⟨p3,0,none⟩)) (.pointer (some ⟨p6,0,none⟩)) (.string (mkB (stepB x.nd.name (cntB ((ps.take k).map fun x=>x.nd.name) x.nd.name)))) (.map (some m)) (.int .i64 (k:Int)) next2 (bs.map Sw.mark) (WkR J Jx Jp ((path,Tr.mk n ps)::LL.flatten).length) w:=by
 unfold n70c5 joinK
 obtain ⟨L,c,hM,hLc⟩:=H.mp
 simp (disch:=try exact DI) only [↓PR,QR,simprocAttr,(cells_of_heap h6).1]
 rw [op_lookup1S Tryz.underlying123 Tryz.underlying9 ty3 hM,hLc]
 have hcl:cntB ((ps.take k).map fun x=>x.nd.name) x.nd.name≤k:=by
  unfold cntB
  refine Nat.le_trans (List.length_filter_le _ _) ?_
  rw [List.length_map,List.length_take]
  omega
 have hwc:IntKind.i64.wrap ((cntB ((ps.take k).map fun x=>x.nd.name) x.nd.name:Int)+1)=((cntB ((ps.take k).map fun x=>x.nd.name) x.nd.name+1:Nat):Int):=wrap_succ (by omega)
 simp (disch:=try exact DI) only [↓PR,QR,simprocAttr,hwc]
 rw [op_mapUpdateS Tryz.underlying123 Tryz.underlying9 hM]
 have hm6:p6≠m:=fun e=>by
  have:=hM.obj
  rw [← e,h6] at this
  cases this
 have n1:=H.n1
 have n2:=H.n2
 have n3:=H.n3
 have n4:=H.n4
 have hM7:=hM.put x.nd.name (.int .i64 ((cntB ((ps.take k).map fun x=>x.nd.name) x.nd.name+1:Nat):Int))
 have hLc7:∀ nm,(Sw.look (putL L c x.nd.name (.int .i64 ((cntB ((ps.take k).map fun x=>x.nd.name) x.nd.name+1:Nat):Int))) nm).getD (.int .i64 0) = .int .i64 (cntB ((ps.take (k+1)).map fun x=>x.nd.name) nm:Int):=by
  intro nm
  rw [look_put]
  have hc:cntB ((ps.take (k+1)).map fun x=>x.nd.name) nm=cntB ((ps.take k).map fun x=>x.nd.name) nm+if x.nd.name=nm then 1 else 0:=by
   rw [List.take_add_one,hx,Option.toList_some,List.map_append]
   unfold cntB
   rw [List.filter_append,List.length_append]
   by_cases h:x.nd.name=nm<;>simp [h]
  rw [hc]
  by_cases h:nm=x.nd.name
  · rw [if_pos h,if_pos h.symm,h]
    rfl
  · rw [if_neg h,if_neg (fun e=>h e.symm),hLc,Nat.add_zero]
 generalize putL L c x.nd.name (.int .i64 ((cntB ((ps.take k).map fun x=>x.nd.name) x.nd.name+1:Nat):Int))=L7 at *
 generalize putC L c x.nd.name=c7 at *
 have hoth:∀ {p:Nat} {o:Obj},p≠m→w.heap[p]?=some o→(w.putObj m (mapObjS L7 c7)).heap[p]?=some o:=fun hne h=>(World.putObj_heap_other hne).trans h
 have s1:=hoth (by omega) H.s1
 have s2:=hoth (by omega) H.s2
 have s3:=hoth (by omega) H.s3
 have h6:=hoth hm6 h6
 have J7:=(hJl _).put (l:=m) (.inr (.inl rfl)) H.j (mapObjS L7 c7)
 have hmk7:∀ b∈bs,MarkAt b (w.putObj m (mapObjS L7 c7)):=fun b hb=>(World.putObj_heap_other (fun e=>by
  have:=hM.obj
  rw [← e] at this
  have h2:w.heap[b]?=_:=H.mks b hb
  rw [h2] at this
  cases this)).trans (H.mks b hb)
 have z7:(w.putObj m (mapObjS L7 c7)).heap.size=w.heap.size:=by simp
 change MapS (w.putObj m (mapObjS L7 c7)) m L7 c7 at hM7
 generalize w.putObj m (mapObjS L7 c7)=w7 at *
 have hA7:=(hFP _ _ _ J7).1
 have hnl:x.nd.name.data.toList.length≤32:=by
  unfold nameB at hnb
  simp only [Bool.and_eq_true,decide_eq_true_eq] at hnb
  have:=hnb.1.1.2
  have e:=Go.Lib.size_eq x.nd.name
  omega
 have hsl:(stepB x.nd.name (cntB ((ps.take k).map fun x=>x.nd.name) x.nd.name)).length≤100:=by
  unfold stepB
  rw [List.length_append]
  have:=decD_small 11 (cntB ((ps.take k).map fun x=>x.nd.name) x.nd.name) (by omega)
  split
  · rw [List.length_nil];omega
  · rw [List.length_cons];omega
 have hgo:callK Pg 59 #[.agg #[.string x.nd.name,.int .i64 x.nd.int,bx,hx',px],.string (mkB (belowB path ps k x))] (outQ Pg (bs.map Sw.mark) [] (WkR J Jx Jp ((path,Tr.mk n ps)::LL.flatten).length)) w7 fun t51 w=>n70c3 (.pointer (some ⟨p3,0,none⟩)) (.int .i64 (k:Int)) t51 next2 (bs.map Sw.mark) (WkR J Jx Jp ((path,Tr.mk n ps)::LL.flatten).length) w:=by
  refine callK_ret (walk_ret w7 (belowB path ps k x) x bx hx' px f1 f2 f3) ?_
  rintro _ w9 ⟨rfl,hWP,e9⟩
  unfold n70c3
  have J9:=(hJl _).ext J7 e9
  have s1:=e9.obj s1
  have s2:=e9.obj s2
  have s3:=e9.obj s3
  have hM9:=hM7.ext e9
  have hmk9:∀ b∈bs,MarkAt b w9:=fun b hb=>(hmk7 b hb).ext e9
  have z9:=e9.size
  have q1lt:=(Array.getElem?_eq_some_iff.1 hWP.1).1
  have hA7z:=hA7.size
  have hbl:∀ b∈bs,b < w7.heap.size:=fun b hb=>(Array.getElem?_eq_some_iff.1 (hmk7 b hb)).1
  have hoK:=offL_le hLk
  let U:Bks:=fun b=>Vk p3 m (w9.heap.size::bs) b∨b=w7.heap.size∨b=w7.heap.size+1
  have hUR:∀ b,U b→b≤w9.heap.size:=by
   rintro b ((h | h | h) | h | h)
   · omega
   · omega
   · rcases List.mem_cons.1 h with h | h
     · omega
     · have:=hbl b h;omega
   · omega
   · omega
  let qc:Array Value:=(trCells x.nd bx hx' px).toArray
  let I:Nat→Bks→World→Prop:=fun j V u=>J (offL LL k+1+j) (fun b=>U b∨V b) u∧(¬ V (w7.heap.size+1)∧u.heap[w7.heap.size+1]?=some (.cells #[.string (mkB (belowB path ps k x))] 9 (0,0)))∧(¬ V w7.heap.size∧u.heap[w7.heap.size]?=some (.cells qc 26 (0,0)))∧(¬ V p3∧u.heap[p3]?=some (.cells #[yv] 97 (0,0)))∧(¬ V m∧u.heap[m]?=some (mapObjS L7 c7))∧∀ b∈bs,¬ V b∧u.heap[b]?=some (.deferred (some []))
  let Ix:Nat→Bks→World→Prop:=fun c V u=>c=0∧Jx (fun b=>U b∨V b) u∧(¬ V (w7.heap.size+1)∧u.heap[w7.heap.size+1]?=some (.cells #[.string (mkB (belowB path ps k x))] 9 (0,0)))∧(¬ V w7.heap.size∧u.heap[w7.heap.size]?=some (.cells qc 26 (0,0)))∧∀ b∈bs,¬ V b∧u.heap[b]?=some (.deferred (some []))
  let Ip:List PanicEntry→Bks→World→Prop:=fun ch V u=>Jp ch (fun b=>U b∨V b) u∧∀ b∈bs,¬ V b∧u.heap[b]?=some (.deferred (some []))
  have hI0:I 0 (fun _=>False) w9:=by
   refine ⟨hJl _ _ _ _ _ (LW7.more (e9.trans (Ext.refl _)) fun b hb=>?_) J7,⟨fun h=>h,hWP.1⟩,⟨fun h=>h,hWP.2⟩,⟨fun h=>h,s3⟩,⟨fun h=>h,hM9.obj⟩,fun b hb=>⟨fun h=>h,hmk9 b hb⟩⟩
   rcases hb with ((h | h | h) | h | h) | h
   · exact .inl (.inl h)
   · exact .inl (.inr (.inl h))
   · rcases List.mem_cons.1 h with h | h
     · exact .inr (by omega)
     · exact .inl (.inr (.inr h))
   · exact .inr (by omega)
   · exact .inr (by omega)
   · exact h.elim
  refine ⟨_,_,_,_,_,_,_,I,Ix,Ip,rfl,c82,ih (w7.heap.size+1) w7.heap.size (by omega) (by omega) (by omega),fun w' e'=>trivial,fun b hb=>hb.elim,hI0,fun j V u h=>⟨(hFP _ _ _ h.1).1,h.2.1.2,h.2.2.1.2⟩,fun c V u h=>⟨(hFPx _ _ h.2.1).1,h.2.2.1.2,h.2.2.2.1.2⟩,fun j=>(or_lasts (hJl _) U).and (Lasts7.has.and (Lasts7.has.and (Lasts7.has.and (Lasts7.has.and (marks_lasts bs))))),fun c=>(Lasts7.const _).and ((or_lasts hJx U).and (Lasts7.has.and (Lasts7.has.and (marks_lasts bs)))),fun ch=>(or_lasts (hJp ch) U).and (marks_lasts bs),?_,?_,?_,?_⟩
  · intro Rk V hR hV0 j xx yy u hj hY hIu hRu hltu hready
    obtain ⟨q,csq,lo,hi,hq,rfl,rfl,hOq,hlo,hhi,hdis⟩:=hY
    obtain ⟨yb,yh,yp,rfl,_,_,_,g1,g2,g3⟩:=hOq.read.op
    unfold n70c2
    simp (disch:=try exact DI) only [↓PR,QR,simprocAttr]
    change busyK _ (u.alloc (.cells #[.string q.2.nd.name,.int .i64 q.2.nd.int,yb,yh,yp] 26)) _
    have eA:Ext u (u.alloc (.cells #[.string q.2.nd.name,.int .i64 q.2.nd.int,yb,yh,yp] 26)):=ee
    have oA:=heap_new u #[.string q.2.nd.name,.int .i64 q.2.nd.int,yb,yh,yp] 26
    generalize (u.alloc (.cells #[.string q.2.nd.name,.int .i64 q.2.nd.int,yb,yh,yp] 26))=Y at eA oA ⊢
    generalize hpu:u.heap.size=pu at oA ⊢
    refine ⟨by obtain ⟨r,h1,h2⟩:=hready;exact ⟨r,eA.obj h1,h2⟩,fun w5 hbz=>?_⟩
    have hR5:=hR _ _ (KR7.busied hbz) (hR _ _ (KR7.of eA) hRu)
    have hLI:Lasts7 (I j):=(or_lasts (hJl _) U).and (Lasts7.has.and (Lasts7.has.and (Lasts7.has.and (Lasts7.has.and (marks_lasts bs)))))
    obtain ⟨J5,n1',n2',n3',n4',n5'⟩:=hLI.busied hbz (show plusB V w9.heap.size (w9.heap.size+1) from .inr (.inr rfl)) (hLI.ext hIu eA)
    have hbk:∀ b,b≠w9.heap.size+1→w5.heap[b]?=Y.heap[b]?:=by
     obtain ⟨r,_,rfl⟩:=hbz
     exact fun b hb=>World.putObj_heap_other hb
    have hz5:Y.heap.size=w5.heap.size:=by
     obtain ⟨r,_,rfl⟩:=hbz
     simp
    have qA:=(hbk pu (by omega)).trans oA
    have hO5:=OwnT.only (bk:=w9.heap.size+1) hbk (hOq.ext eA) (.inr (by omega))
    have zY:=eA.size
    unfold n70c1
    simp (disch:=try exact DI) only [↓PR,QR,simprocAttr,(cells_of_heap n3'.2).1,(cells_of_heap qA).1]
    have hs:=hstep (offL LL k+1+j) (by rw [List.length_cons];omega) (.string (mkB q.1)) (.agg (trCells q.2.nd yb yh yp).toArray) (fun b=>U b∨plusB V w9.heap.size b) w5 ⟨q,_,lo,hi,by rw [show offL LL k+1+j=(offL LL k+j)+1 by omega,List.getElem?_cons_succ,flat_at hLk hj];exact hq,rfl,rfl,hO5,by omega,by omega,fun b h1 h2 h3=>?_⟩ (fun b hb => .inr ?_) (fun u=>Rk u∧(u.heap[w7.heap.size+1]?=some (.cells #[.string (mkB (belowB path ps k x))] 9 (0,0))∧(u.heap[w7.heap.size]?=some (.cells qc 26 (0,0))∧(u.heap[p3]?=some (.cells #[yv] 97 (0,0))∧(u.heap[m]?=some (mapObjS L7 c7)∧∀ b∈bs,u.heap[b]?=some (.deferred (some []))))))) ((hR.sub fun b h => .inr h).and ((Firm7.has (.inl (.inr (.inr rfl))) (by simp)).and ((Firm7.has (.inl (.inr (.inl rfl))) (by simp)).and ((Firm7.has (.inl (.inl (.inl rfl))) (by simp)).and ((Firm7.has (.inl (.inl (.inr (.inl rfl)))) (by simp [mapObj])).and fun w w' h hm b hb=>h.defer b (hm b hb)))))) J5 ⟨hR5,n1'.2,n2'.2,n3'.2,n4'.2,fun b hb=>(n5' b hb).2⟩
    · refine callV_mono hs (fun ch w h=>⟨h.1.1,h.2,fun b hb=>⟨(n5' b hb).1,h.1.2.2.2.2.2 b hb⟩⟩) ?_
      rintro v w6 ⟨⟨hR6,k1,k2,k3,k4,k5⟩,⟨rfl,J6⟩ | ⟨rfl,J6⟩⟩
      · simp (disch:=try exact DI) only [↓PR,QR,simprocAttr]
        exact ⟨hR6,by rw [← Nat.add_assoc];exact J6,⟨n1'.1,k1⟩,⟨n2'.1,k2⟩,⟨n3'.1,k3⟩,⟨n4'.1,k4⟩,fun b hb=>⟨(n5' b hb).1,k5 b hb⟩⟩
      · simp (disch:=try exact DI) only [↓PR,QR,simprocAttr]
        exact ⟨hR6,rfl,J6,⟨n1'.1,k1⟩,⟨n2'.1,k2⟩,fun b hb=>⟨(n5' b hb).1,k5 b hb⟩⟩
    · rcases h3 with h3 | h3 | h3
      · have:=hUR b h3;omega
      · exact hdis b h1 h2 h3
      · omega
    · rcases hb with ((h | h | h) | h | h) | h | h
      · omega
      · omega
      · rcases List.mem_cons.1 h with h | h
        · omega
        · exact H.bs3 b h
      · omega
      · omega
      · rcases hV0 b h with h | h
        · exact h.elim
        · omega
      · omega
  · rintro V u ⟨K1,K2,K3,K4,K5,K6⟩ hmk
    have hwk:IntKind.i64.wrap ((k:Int)+1)=((k+1:Nat):Int):=by rw [wrap_ok (by omega) (by omega)];omega
    simp (disch:=try exact DI) only [↓PR,QR,simprocAttr,hwk]
    have huz:=(Array.getElem?_eq_some_iff.1 (show u.heap[w9.heap.size]?=_ from hmk)).1
    have hFu:=(hFP _ _ _ K1).2
    refine hnext w9.heap.size u ⟨?_,hFu.1,hFu.2,K4.2,⟨L7,c7,hM9.of_obj (K5.2.trans hM9.obj.symm),hLc7⟩,List.nodup_cons.2 ⟨fun h=>by have:=hbl _ h;omega,H.nd⟩,fun b hb=>?_,fun b hb=>?_,n1,n2,n3,by omega⟩
    · rw [offL_succ hLk,Nat.add_right_comm]
      exact hJl _ _ _ _ _ (LW7.shrink u fun b hb => .inl (.inl hb)) K1
    · rcases List.mem_cons.1 hb with rfl | hb
      · exact hmk
      · exact (K6 b hb).2
    · rcases List.mem_cons.1 hb with rfl | hb
      · omega
      · exact H.bs3 b hb
  · rintro c V u ⟨rfl,K1,K3,K4,K2⟩ hmk
    refine outs7 (bs:=w9.heap.size::bs) (Q:=Jx) (V:=fun b=>U b∨V b) hJx (fun w h=>?_) (List.nodup_cons.2 ⟨fun h=>by have:=hbl _ h;omega,H.nd⟩) (fun b hb=>?_) (fun b hb => .inl (.inl (.inr (.inr hb)))) K1
    · simp (disch:=try exact DI) only [↓PR,QR,simprocAttr,outX_nil,retV,resOne]
      exact ⟨_,.inr h⟩
    · rcases List.mem_cons.1 hb with rfl | hb
      · exact hmk
      · exact (K2 b hb).2
  · rintro ch V u ⟨K1,K2⟩ hmk
    refine outq7 (bs:=w9.heap.size::bs) (Q:=Jp ch) (V:=fun b=>U b∨V b) (hJp ch) (fun w h=>⟨_,h⟩) (List.nodup_cons.2 ⟨fun h=>by have:=hbl _ h;omega,H.nd⟩) (fun b hb=>?_) (fun b hb => .inl (.inl (.inr (.inr hb)))) K1
    rcases List.mem_cons.1 hb with rfl | hb
    · exact hmk
    · exact (K2 b hb).2
 unfold belowB at hgo
 generalize stepB x.nd.name (cntB ((ps.take k).map fun x=>x.nd.name) x.nd.name)=sb at *
 by_cases hp0:path=[]
 · subst hp0
   rw [show dotB [] sb=sb from if_pos rfl] at hgo
   rw [show mkB []=(⟨#[]⟩:ByteArray) from rfl] at s1
   simp (disch:=try exact DI) only [↓PR,QR,simprocAttr,(cells_of_heap s1).1,(cells_of_heap h6).1]
   exact hgo
 · have hpn:¬ mkB path=(⟨#[]⟩:ByteArray):=fun h=>hp0 (by
    have:=congrArg (fun b:ByteArray=>b.data.toList) h
    rwa [mkB_data] at this)
   rw [show dotB path sb=(path++[46])++sb by unfold dotB;rw [if_neg hp0];simp] at hgo
   simp (disch:=try exact DI) only [↓PR,QR,simprocAttr,(cells_of_heap s1).1,hpn]
   unfold n70c4
   simp (disch:=try exact DI) only [↓PR,QR,simprocAttr,(cells_of_heap s1).1]
   rw [show (⟨#[46]⟩:ByteArray)=mkB [46] from rfl,op_saddL _ _ _ _ (by simp;omega)]
   simp (disch:=try exact DI) only [↓PR,QR,simprocAttr]
   rw [op_saddL _ _ _ _ (by simp;omega)]
   simp (disch:=try exact DI) only [↓PR,QR,simprocAttr,(cells_of_heap h6).1]
   exact hgo
theorem walk_parts {A:World} {rl rh:Nat} {n:Nd} {ps:List Tr} {path:List UInt8} {bv hv pv:Value} (hT0:ETi A rl rh (trCells n bv hv pv) (.mk n ps)) (hfit:fitT (.mk n ps)=true) (hnb:∀ p∈ps,nameB p.nd.name=true) (hpl:path.length≤900000000)
 (ih:∀ (k:Nat) (p:Tr) (b1 h1 p1:Value),ps[k]?=some p→ETi A rl rh (trCells p.nd b1 h1 p1) p→WalkSeq A rl rh p (belowB path ps k p) (trCells p.nd b1 h1 p1)):WalkSeq A rl rh (.mk n ps) path (trCells n bv hv pv):=by
 obtain ⟨hB,hH,hT⟩:BytesOf (restr A rl rh) bv n.bytes∧HdrsOf (restr A rl rh) hv n.hdrs∧TrsOf (restr A rl rh) pv ps:=by
  obtain ⟨x1,x2,x3,hx,y1,y2,y3⟩:=ETr_mk.1 hT0
  unfold trCells at hx
  injection hx with _ hx
  injection hx with _ hx
  injection hx with e1 hx
  injection hx with e2 hx
  injection hx with e3 _
  subst e1 e2 e3
  exact ⟨y1,y2,y3⟩
 obtain ⟨LL,hLL⟩:∃ LL:List (List (List UInt8×Tr)),LL=partsW path [] ps (ps.map walkT):=⟨_,rfl⟩
 have hLk:∀ (k:Nat) (p:Tr),ps[k]?=some p→LL[k]?=some (walkT p (belowB path ps k p)):=fun k p hp=>by
  rw [hLL,partsW_get hp]
  rfl
 have hLlen:LL.length=ps.length:=by rw [hLL,partsW_len]
 have hL:walkT (.mk n ps) path=(path,.mk n ps)::LL.flatten:=by rw [walkT_mk,hLL]
 have o1:=SliceOf.oneCell hB
 have o2:=SliceOf.oneCell hH
 have o3:=SliceOf.oneCell hT
 intro p1 p2 hA1 hA2 h12 yv J Jx Jp w hy hPre hFP hFPx hJl hJx hJp hstep h0
 obtain ⟨hA,q1,q2⟩:=hFP _ _ _ h0
 have hz1:=(Array.getElem?_eq_some_iff.1 q1).1
 have hz2:=(Array.getElem?_eq_some_iff.1 q2).1
 rw [hL] at hstep ⊢
 refine n70s (t0:=yv) ?_
 unfold n70
 simp (disch:=try exact DI) only [↓PR,QR,simprocAttr]
 simp only [cells_one hy]
 have eW:Ext w (w.alloc (.cells #[yv] 97)):=ee
 have oW:=heap_new w #[yv] 97
 generalize (w.alloc (.cells #[yv] 97))=Z at eW oW ⊢
 generalize hp3:w.heap.size=p3 at *
 refine drawK_introK p3 p1 p2 ?_
 have eD:Ext Z (drew Z):=(Ext.refl Z).drew
 have eD':=eW.trans eD
 have oD:=eD.obj oW
 generalize drew Z=D at *
 have d1:=eD'.obj q1
 have d2:=eD'.obj q2
 have Q1:=fun {k:Value→Prop}=>qK_one (a:=p3) (b:=p1) (c:=p2) (k:=k) (o:=0) ty97 (.inl rfl) oD rfl
 have Q2:=fun {k:Value→Prop}=>qK_one (a:=p3) (b:=p1) (c:=p2) (k:=k) (o:=0) ty9 (.inr (.inl rfl)) d1 rfl
 have Q3:=fun {k:Value→Prop}=>qK_all (a:=p3) (b:=p1) (c:=p2) (k:=k) (cs:=trCells n bv hv pv) ty26 (.inr (.inr rfl)) d2 rfl
 unfold n70c10
 simp (disch:=try exact DI) only [↓PR,QR,simprocAttr,Q1,Q2,Q3]
 have hVD:ValAt D (.agg (trCells n bv hv pv).toArray) (.mk n ps):=val_of_eti ((hA.ext eD').eti hT0)
 refine callK_ret (Copy_ret (.mk n ps) D _ hVD hfit) ?_
 rintro _ w3 ⟨⟨cs3,rfl,hO3⟩,e3⟩
 have hpD:=(Array.getElem?_eq_some_iff.1 oD).1
 have hk3:∀ p,p < D.heap.size→w3.heap[p]?=D.heap[p]?:=fun p hp=>e3.block p hp
 have zD:=eD'.size
 refine ⟨⟨hk3 _ hpD,hk3 _ (by omega),hk3 _ (by omega)⟩,?_⟩
 unfold n70c9
 have r1:=e3.obj d1
 have r2:=e3.obj d2
 have r3:=e3.obj oD
 have J3:J 0 (fun b=>b=p3) w3:=hJl 0 _ _ _ _ (LW7.more (eD'.trans e3) fun b hb => .inr (by omega)) h0
 have hs:=hstep 0 (by simp) (.string (mkB path)) (.agg cs3.toArray) (fun b=>b=p3) w3 ⟨(path,.mk n ps),cs3,D.heap.size,w3.heap.size,rfl,rfl,rfl,hO3,by omega,Nat.le_refl _,fun b h1 h2 h3=>by omega⟩ (fun b hb => .inr (by omega)) (fun u=>u.heap[p3]?=some (.cells #[yv] 97 (0,0))) (Firm7.has rfl (by simp)) J3 r3
 refine callV_mono hs (fun ch w h=>⟨_,h.2⟩) ?_
 rintro v w4 ⟨s3,hv4⟩
 have s12:WalkP p1 p2 path (trCells n bv hv pv) w4:=by
  rcases hv4 with ⟨_,J4⟩ | ⟨_,J4⟩
  · exact (hFP _ _ _ J4).2
  · exact (hFPx _ _ J4).2
 obtain ⟨s1,s2⟩:=s12
 refine ⟨⟨s3.trans oD.symm,s1.trans d1.symm,s2.trans d2.symm⟩,?_⟩
 rcases hv4 with ⟨rfl,J4⟩ | ⟨rfl,J4⟩
 case inr =>
  simp (disch:=try exact DI) only [↓PR,QR,simprocAttr,outX_nil,retV,resOne]
  exact ⟨_,.inr J4⟩
 have hA4:=(hFP _ _ _ J4).1
 simp (disch:=try exact DI) only [↓PR,QR,simprocAttr]
 unfold n70c8
 rw [op_makeMap]
 have e5:Ext w4 (w4.alloc (.map #[] 0)):=(Ext.refl _).alloc _
 have hM:=MapS.new w4
 have z5:(w4.alloc (.map #[] 0)).heap.size=w4.heap.size+1:=by simp
 have hz3:=(Array.getElem?_eq_some_iff.1 s3).1
 have hz4:=(Array.getElem?_eq_some_iff.1 s1).1
 have hz5:=(Array.getElem?_eq_some_iff.1 s2).1
 have J5:J 1 (Vk p3 w4.heap.size []) (w4.alloc (.map #[] 0)):=hJl 1 _ _ _ _ (LW7.more e5 fun b hb=>by
  rcases hb with h | h | h
  · exact .inl h
  · exact .inr (by omega)
  · cases h) J4
 have s1:=e5.obj s1
 have s2:=e5.obj s2
 have s3:=e5.obj s3
 generalize (w4.alloc (.map #[] 0))=w5 at *
 generalize hm:w4.heap.size=m at *
 clear e5 e3 hO3 r1 r2 r3 J3 hVD Q1 Q2 Q3 d1 d2 oD hs hk3 hA4 J4
 obtain ⟨B0,c0,rfl,hlc,hcm,hlm,hel⟩:=SliceOf.open hT
 have s2c:=(cells_of_heap s2).1 4
 change w5.cell? _=some (Value.slice B0 ps.length c0) at s2c
 simp (disch:=try exact DI) only [↓PR,QR,simprocAttr,s2c]
 refine loopM1_intro (fun ds a w'=>∃ (k:Nat) (bs:List Nat),a = .int .i64 k∧ds=bs.map Sw.mark∧k≤ps.length∧WkI J LL ps path (trCells n bv hv (.slice B0 ps.length c0)) p1 p2 p3 m yv k bs w') (fun a _=>ps.length - (intOf a).toNat) ⟨0,[],rfl,rfl,by omega,?_⟩ ?_
 · exact ⟨J5,s1,s2,s3,⟨[],0,hM,fun nm=>rfl⟩,List.nodup_nil,(fun b h=>by cases h),(fun b h=>by cases h),by omega,by omega,by omega,by omega⟩
 rintro ds _ w6 ⟨k,bs,rfl,rfl,hkl,H⟩
 have hA6:=(hFP _ _ _ H.j).1
 by_cases hlt:k < ps.length
 case neg =>
  obtain rfl:k=ps.length:=by omega
  have d:decide ((ps.length:Int) < (ps.length:Int))=false:=decide_eq_false (by omega)
  simp (disch:=try exact DI) only [↓PR,QR,simprocAttr,d]
  refine outs7 (Q:=fun V w=>J (offL LL ps.length+1) V w) (hJl _) (fun w h=>?_) H.nd H.mks (fun b hb => .inr (.inr hb)) H.j
  simp (disch:=try exact DI) only [↓PR,QR,simprocAttr,outX_nil,retV,resOne]
  refine ⟨Vk p3 m bs,.inl ?_⟩
  have:offL LL ps.length=LL.flatten.length:=by rw [← offL_all,hLlen]
  rw [this] at h
  exact h
 have d:decide ((k:Int) < (ps.length:Int))=true:=decide_eq_true (by omega)
 have dk:(k:Int) < (ps.length:Int):=by omega
 obtain ⟨x,hx⟩:=getElem?_lt hlt
 obtain ⟨b,o,cs,rfl,h5,hAx,hEx⟩:=hel k x hx
 obtain ⟨bv',hv',pv',rfl,hB',hH',hT',f1,f2,f3⟩:=hEx.op
 obtain ⟨L,c,hM6,hLc⟩:=H.mp
 simp (disch:=try exact DI) only [↓PR,QR,simprocAttr,d]
 unfold n70c7
 simp (disch:=try exact DI) only [↓PR,QR,simprocAttr,dk,(hA6.elem hAx).c5 (Ext.refl _)]
 have e7:Ext w6 (w6.alloc (.cells #[.string x.nd.name,.int .i64 x.nd.int,bv',hv',pv'] 26)):=ee
 have o7:=heap_new w6 #[.string x.nd.name,.int .i64 x.nd.int,bv',hv',pv'] 26
 have H7:=H.ext hJl e7
 have hM7:=hM6.ext e7
 generalize (w6.alloc (.cells #[.string x.nd.name,.int .i64 x.nd.int,bv',hv',pv'] 26))=w7 at *
 generalize w6.heap.size=p6 at *
 have hA7:=(hFP _ _ _ H7.j).1
 have hkn:ps.length≤1048576:=(fitT_mk hfit).2.2.1
 have hcl:cntB ((ps.take k).map fun x=>x.nd.name) x.nd.name≤k:=by
  unfold cntB
  refine Nat.le_trans (List.length_filter_le _ _) ?_
  rw [List.length_map,List.length_take]
  omega
 have hnl:x.nd.name.data.toList.length≤32:=by
  have hnb:=hnb x (List.mem_of_getElem? hx)
  unfold nameB at hnb
  simp only [Bool.and_eq_true,decide_eq_true_eq] at hnb
  have:=hnb.1.1.2
  have e:=Go.Lib.size_eq x.nd.name
  omega
 have hname:x.nd.name=mkB x.nd.name.data.toList:=bytes_ext (by rw [mkB_data])
 have hgo:∀ w8,Ext w7 w8→n70c5 (.pointer (some ⟨p1,0,none⟩)) (.pointer (some ⟨p3,0,none⟩)) (.pointer (some ⟨p6,0,none⟩)) (.string (mkB (stepB x.nd.name (cntB ((ps.take k).map fun x=>x.nd.name) x.nd.name)))) (.map (some m)) (.int .i64 (k:Int)) (fun ds' a0' w'=>(∃ (k:Nat) (bs:List Nat),a0' = .int .i64 k∧ds'=bs.map Sw.mark∧k≤ps.length∧WkI J LL ps path (trCells n bv hv (.slice (some ⟨b,o,none⟩) ps.length c0)) p1 p2 p3 m yv k bs w')∧ps.length - (intOf a0').toNat < ps.length - (intOf (.int .i64 (k:Int))).toNat) (bs.map Sw.mark) (WkR J Jx Jp ((path,Tr.mk n ps)::LL.flatten).length) w8:=fun w8 e8 =>
  walk_tail hFP hFPx hJl hJx hJp (by omega) hy hstep (H7.ext hJl e8) hx (hLk k x hx) hpl (hnb x (List.mem_of_getElem? hx)) (by omega) f1 f2 f3 (ih k x bv' hv' pv' hx hEx) (e8.obj o7) fun r w' h=>⟨⟨k+1,r::bs,rfl,rfl,by omega,h⟩,meas_lt (kd := .i64) hlt⟩
 rw [op_lookup1S Tryz.underlying123 Tryz.underlying9 ty3 hM7,hLc]
 unfold joinK
 generalize hcc:cntB ((ps.take k).map fun x=>x.nd.name) x.nd.name=cc at *
 by_cases hc0:cc=0
 · have hd:¬ (0:Int) < (cc:Int):=by omega
   simp (disch:=try exact DI) only [↓PR,QR,simprocAttr,hd]
   have hst:mkB (stepB x.nd.name cc)=x.nd.name:=by
    unfold stepB
    rw [if_pos hc0,List.append_nil,← hname]
   rw [hst] at hgo
   exact hgo w7 (Ext.refl _)
 · have hd:(0:Int) < (cc:Int):=by omega
   simp (disch:=try exact DI) only [↓PR,QR,simprocAttr,hd]
   refine zcr (Itoa_ret hA7.env.tab (cc:Int) (by omega) (by omega)) fun w8 e8=>?_
   have hdl:=decD_small 11 cc (by omega)
   have hit:decB (cc:Int)=mkB (Go.Lib.decDigits cc):=by
    unfold decB
    rw [itoa_pos (by omega),Int.toNat_natCast]
    rfl
   have hst:mkB (stepB x.nd.name cc)=mkB (x.nd.name.data.toList++([58]++Go.Lib.decDigits cc)):=by
    unfold stepB
    rw [if_neg hc0]
    rfl
   rw [hst] at hgo
   unfold n70c6
   rw [hit,show (⟨#[58]⟩:ByteArray)=mkB [58] from rfl,op_saddL _ _ _ _ (by simp;omega)]
   have hgo8:=hgo w8 e8
   generalize hnl2:x.nd.name.data.toList=nl at *
   rw [hname]
   rw [op_saddL _ _ _ _ (by simp;omega)]
   exact hgo8
theorem name_len {s:ByteArray} (h:nameB s=true):s.data.toList.length≤32:=by
 unfold nameB at h
 simp only [Bool.and_eq_true,decide_eq_true_eq] at h
 have:=h.1.1.2
 have e:=Go.Lib.size_eq s
 omega
theorem step_len {s:ByteArray} (h:nameB s=true) {n:Nat} (hn:n≤1000000000):(stepB s n).length≤100:=by
 have:=name_len h
 have h2:=decD_small 11 n (by omega)
 unfold stepB
 rw [List.length_append]
 split
 · rw [List.length_nil];omega
 · rw [List.length_cons];omega
theorem cnt_le (l:List ByteArray) (s:ByteArray):cntB l s≤l.length:=List.length_filter_le _ _
theorem below_len {path:List UInt8} {ps:List Tr} {k:Nat} {p:Tr} (h:nameB p.nd.name=true) (hp:ps.length≤1048576):(belowB path ps k p).length≤path.length+101:=by
 have h1:=cnt_le ((ps.take k).map fun x=>x.nd.name) p.nd.name
 rw [List.length_map,List.length_take] at h1
 have h2:=step_len h (n:=cntB ((ps.take k).map fun x=>x.nd.name) p.nd.name) (by omega)
 unfold belowB dotB
 split
 · omega
 · rw [List.length_append,List.length_cons];omega
theorem walk_seq {A:World} {rl rh:Nat} (t:Tr):∀ (path:List UInt8) (bv hv pv:Value),ETi A rl rh (trCells t.nd bv hv pv) t→allT nodeB t=true→fitT t=true→path.length+200*heightT t≤900000000→WalkSeq A rl rh t path (trCells t.nd bv hv pv):=by
 refine Tr.ind (p:=fun t=>∀ (path:List UInt8) (bv hv pv:Value),ETi A rl rh (trCells t.nd bv hv pv) t→allT nodeB t=true→fitT t=true→path.length+200*heightT t≤900000000→WalkSeq A rl rh t path (trCells t.nd bv hv pv)) ?_ t
 intro n ps ih path bv hv pv hV hn hf hl
 rw [heightT_mk] at hl
 rw [allT_mk,Bool.and_eq_true,List.all_eq_true] at hn
 obtain ⟨hf1,hf2,hf3,hf4⟩:=fitT_mk hf
 have hnb:∀ p∈ps,nameB p.nd.name=true:=fun p hp=>by
  have:=hn.2 p hp
  cases p with
  | mk n2 ps2 =>
   rw [allT_mk,Bool.and_eq_true] at this
   have h:=this.1
   unfold nodeB at h
   rw [Bool.and_eq_true] at h
   exact h.1
 refine walk_parts hV hf hnb (by omega) fun k p b1 h1 p1 hp hVp=>ih p (List.mem_of_getElem? hp) _ b1 h1 p1 hVp (hn.2 p (List.mem_of_getElem? hp)) (hf4 p (List.mem_of_getElem? hp)) ?_
 have hm:=(foldr_max_le (l:=ps.map heightT) (m:=(ps.map heightT).foldr max 0)).1 (Nat.le_refl _) _ (List.mem_map_of_mem (List.mem_of_getElem? hp))
 have:=below_len (path:=path) (k:=k) (hnb p (List.mem_of_getElem? hp)) hf3
 omega
def WalkK (w0:World) (t:Tr) (r:Value) (w':World):Prop:=Ext w0 w'∧if validT t=true then ∃ bv hv pv lo p2,r = .func (.func 82) #[] #[.pointer (some ⟨p2+1,0,none⟩),.pointer (some ⟨p2,0,none⟩)]∧WalkP (p2+1) p2 [] (trCells t.nd bv hv pv) w'∧OwnT w' t lo p2 (trCells t.nd bv hv pv)∧w0.heap.size≤lo∧p2+1 < w'.heap.size else r = .func (.func 58) #[] #[]
theorem Walk_ret {w0:World} (v:Value) (t:Tr) (hv:ValAt w0 v t) (hb:nodesT t≤1000000000):Ret Pg 22 #[v] w0 fun r w'=>WalkK w0 t r w':=by
 obtain ⟨bv,hv',pv,rfl,hB,hH,hT,o1,o2,o3⟩:=hv.op
 refine n47s (R:=retR _) ?_;unfold n47
 simp (disch:=try exact DI) only [↓PR,QR,simprocAttr]
 have c1:=heap_new w0 #[.string t.nd.name,.int .i64 t.nd.int,bv,hv',pv] 26
 change (w0.alloc (.cells (trCells t.nd bv hv' pv).toArray 26)).heap[w0.heap.size]?=_ at c1
 have e1:Ext w0 (w0.alloc (.cells (trCells t.nd bv hv' pv).toArray 26)):=(Ext.refl w0).alloc _
 generalize (w0.alloc (.cells (trCells t.nd bv hv' pv).toArray 26))=w1 at *
 have hV:ValAt w1 (.agg (trCells t.nd bv hv' pv).toArray) t:=ValAt.ext ⟨_,_,_,rfl,hB,hH,hT⟩ e1
 refine zcr (Valid_ret w1 _ t hV hb) fun w2 e2=>?_
 have e:=e1.trans e2
 cases hva:validT t with
 | false =>
  simp (disch:=try exact DI) only [↓PR,QR,simprocAttr]
  refine ⟨e,?_⟩
  rw [hva]
  rfl
 | true =>
  have c1:=e2.obj c1
  simp (disch:=try exact DI) only [↓PR,QR,simprocAttr]
  unfold n47c1
  simp (disch:=try exact DI) only [↓PR,QR,simprocAttr,(cells_of_heap c1).1]
  refine callK_ret (Copy_ret t w2 _ (hV.ext e2) (valid_fit hva)) ?_
  rintro _ w3 ⟨⟨cs3,rfl,hO3⟩,e3⟩
  obtain ⟨bv3,hv3,pv3,rfl,_,_,_,g1,g2,g3⟩:=hO3.read.op
  refine callK_ret (walk_ret w3 [] t bv3 hv3 pv3 g1 g2 g3) ?_
  rintro _ w4 ⟨rfl,hW,e4⟩
  simp (disch:=try exact DI) only [↓PR,QR,simprocAttr]
  refine ⟨e.trans (e3.trans e4),?_⟩
  rw [hva]
  exact ⟨bv3,hv3,pv3,w2.heap.size,w3.heap.size,rfl,hW,hO3.ext e4,e.size,(Array.getElem?_eq_some_iff.1 hW.1).1⟩
theorem valid_hn {t:Tr} (h:validT t=true):hnT 1048576 t=true:=by
 unfold validT at h
 simp only [Bool.and_eq_true,decide_eq_true_eq] at h
 have key:∀ t:Tr,allT nodeB t=true→hnT 1048576 t=true:=fun t=>by
  refine Tr.ind (p:=fun t=>allT nodeB t=true→hnT 1048576 t=true) ?_ t
  intro n ps ih h
  unfold hnT at ih ⊢
  rw [allT_mk,Bool.and_eq_true,List.all_eq_true] at h ⊢
  refine ⟨?_,List.all_eq_true.2 fun x hx=>ih x hx (h.2 x hx)⟩
  have h1:=h.1
  unfold nodeB at h1
  simp only [Bool.and_eq_true,decide_eq_true_eq] at h1
  intro y hy
  have h2:=List.all_eq_true.1 h1.2.2.2.2.2 y hy
  unfold hdrB at h2
  simp only [Bool.and_eq_true,decide_eq_true_eq] at h2
  exact decide_eq_true h2.1
 exact key t h.2
theorem walk_at {A:World} {t:Tr} {bv hv pv:Value} {lo p2:Nat} (hO:OwnT A t lo p2 (trCells t.nd bv hv pv)) (hval:validT t=true):WalkSeq A lo p2 t [] (trCells t.nd bv hv pv):=by
 have h1:=(InT.of (B:=1048576) _ hO (valid_hn hval)).1
 have hh:heightT t≤40:=by
  unfold validT at hval
  simp only [Bool.and_eq_true,decide_eq_true_eq] at hval
  exact hval.1.2
 have hn:allT nodeB t=true:=by
  unfold validT at hval
  simp only [Bool.and_eq_true,decide_eq_true_eq] at hval
  exact hval.2
 exact walk_seq t [] bv hv pv h1 hn (valid_fit hval) (by rw [List.length_nil];omega)
abbrev lf (s:List UInt8):Tr := .mk ⟨mkB s,0,[],[]⟩ []
abbrev ka:Tr := .mk ⟨mkB [97],5,[],[]⟩ []
abbrev kx:Tr := .mk ⟨mkB [120],0,[10],[]⟩ []
abbrev kl:Tr := .mk ⟨mkB [108],0,[],[]⟩ [kx,lf [120]]
abbrev kh:Tr := .mk ⟨mkB [104],0,[],[(mkB [65],mkB [98,99])]⟩ []
abbrev kT:Tr := .mk ⟨mkB [109],0,[],[]⟩ [ka,kl,kh]
abbrev kl2:Tr := .mk ⟨mkB [108],0,[],[]⟩ [lf [121],lf [120]]
abbrev kT2:Tr := .mk ⟨mkB [109],0,[],[]⟩ [ka,kl2,kh]
abbrev kS:List UInt8:=[109,40,97,61,53,32,108,40,120,35,48,97,32,120,41,32,104,91,52,49,58,54,50,54,51,93,41]
abbrev kS2:List UInt8:=[109,40,97,61,53,32,108,40,121,32,120,41,32,104,91,52,49,58,54,50,54,51,93,41]
theorem itoa1 {n:Nat} (h:n < 10):Go.Lib.itoa (n:Int)=[UInt8.ofNat (48+n)]:=by rw [itoa_pos (by omega),Int.toNat_natCast,Go.Lib.decDigits_one h]
theorem intL5:intL 5=[61,53]:=by
 unfold intL
 rw [if_neg (by decide),show (5:Int)=((5:Nat):Int) from rfl,itoa1 (by decide)]
 rfl
theorem t_ka:textT ka=[97,61,53]:=by
 rw [textT_mk]
 unfold nodeL
 simp only [intL5]
 rfl
theorem t_lf (s:List UInt8):textT (lf s)=s:=by
 rw [textT_mk]
 unfold nodeL
 simp [intL,bytL,joinP,mkB_data]
theorem t_kx:textT kx=[120,35,48,97]:=by rw [textT_mk];rfl
theorem t_kl:textT kl=[108,40,120,35,48,97,32,120,41]:=by
 rw [textT_mk]
 simp only [List.map_cons,List.map_nil,t_kx,t_lf]
 rfl
theorem t_kl2:textT kl2=[108,40,121,32,120,41]:=by
 rw [textT_mk]
 simp only [List.map_cons,List.map_nil,t_lf]
 rfl
theorem t_kh:textT kh=[104,91,52,49,58,54,50,54,51,93]:=by rw [textT_mk];rfl
theorem t_kT:textT kT=kS:=by
 rw [textT_mk]
 simp only [List.map_cons,List.map_nil,t_ka,t_kl,t_kh]
 rfl
theorem t_kT2:textT kT2=kS2:=by
 rw [textT_mk]
 simp only [List.map_cons,List.map_nil,t_ka,t_kl2,t_kh]
 rfl
theorem v_of (t:Tr) (h1:nodesT t≤65536) (h2:heightT t≤40) (h3:allT nodeB t=true):validT t=true:=by
 unfold validT
 rw [h3,decide_eq_true h1,decide_eq_true h2]
 rfl
theorem v_kT:validT kT=true:=by
 refine v_of _ ?_ ?_ ?_
 · simp only [nodesT_mk,List.map_cons,List.map_nil];decide
 · simp only [heightT_mk,List.map_cons,List.map_nil];decide
 · simp only [allT_mk,List.all_cons,List.all_nil];decide
theorem v_kT2:validT kT2=true:=by
 refine v_of _ ?_ ?_ ?_
 · simp only [nodesT_mk,List.map_cons,List.map_nil];decide
 · simp only [heightT_mk,List.map_cons,List.map_nil];decide
 · simp only [allT_mk,List.all_cons,List.all_nil];decide
theorem v_lf {s:List UInt8} (h:nodeB ⟨mkB s,0,[],[]⟩=true):validT (lf s)=true:=by
 refine v_of _ ?_ ?_ ?_
 · simp only [nodesT_mk,List.map_nil];decide
 · simp only [heightT_mk,List.map_nil];decide
 · simp only [allT_mk,List.all_nil,h];rfl
theorem nodes_kT:nodesT kT=6:=by simp only [nodesT_mk,List.map_cons,List.map_nil];rfl
theorem p_kT:parseR RP kS=some kT:=(parseR_iff RP_ok _ _).2 ⟨v_kT,t_kT⟩
theorem p_y:parseR RP [121]=some (lf [121]):=(parseR_iff RP_ok _ _).2 ⟨v_lf (by decide),t_lf _⟩
theorem p_a:parseR RP [97]=some (lf [97]):=(parseR_iff RP_ok _ _).2 ⟨v_lf (by decide),t_lf _⟩
abbrev k1:Tr := .mk ⟨mkB [97],1,[],[]⟩ []
abbrev k00:Tr := .mk ⟨mkB [97],0,[0],[]⟩ []
abbrev kb:Tr := .mk ⟨mkB [97],0,[],[]⟩ [lf [98]]
abbrev kbb:Tr := .mk ⟨mkB [97],0,[],[]⟩ [lf [98],lf [98]]
theorem intL1:intL 1=[61,49]:=by
 unfold intL
 rw [if_neg (by decide),show (1:Int)=((1:Nat):Int) from rfl,itoa1 (by decide)]
 rfl
theorem p_a1:parseR RP [97,61,49]=some k1:=by
 refine (parseR_iff RP_ok _ _).2 ⟨?_,?_⟩
 · refine v_of _ ?_ ?_ ?_
   · simp only [nodesT_mk,List.map_cons,List.map_nil];decide
   · simp only [heightT_mk,List.map_cons,List.map_nil];decide
   · simp only [allT_mk,List.all_cons,List.all_nil];decide
 · rw [textT_mk]
   unfold nodeL
   simp only [intL1]
   rfl
theorem p_a00:parseR RP [97,35,48,48]=some k00:=by
 refine (parseR_iff RP_ok _ _).2 ⟨?_,by rw [textT_mk];rfl⟩
 refine v_of _ ?_ ?_ ?_
 · simp only [nodesT_mk,List.map_cons,List.map_nil];decide
 · simp only [heightT_mk,List.map_cons,List.map_nil];decide
 · simp only [allT_mk,List.all_cons,List.all_nil];decide
theorem p_ab:parseR RP [97,40,98,41]=some kb:=by
 refine (parseR_iff RP_ok _ _).2 ⟨?_,by rw [textT_mk];simp only [List.map_cons,List.map_nil,t_lf];rfl⟩
 refine v_of _ ?_ ?_ ?_
 · simp only [nodesT_mk,List.map_cons,List.map_nil];decide
 · simp only [heightT_mk,List.map_cons,List.map_nil];decide
 · simp only [allT_mk,List.all_cons,List.all_nil];decide
theorem p_abb:parseR RP [97,40,98,32,98,41]=some kbb:=by
 refine (parseR_iff RP_ok _ _).2 ⟨?_,by rw [textT_mk];simp only [List.map_cons,List.map_nil,t_lf];rfl⟩
 refine v_of _ ?_ ?_ ?_
 · simp only [nodesT_mk,List.map_cons,List.map_nil];decide
 · simp only [heightT_mk,List.map_cons,List.map_nil];decide
 · simp only [allT_mk,List.all_cons,List.all_nil];decide
theorem r_a0:parseR RP [97,61,48]=none:=by
 unfold parseR
 rw [show readV RP 40 [97,61,48]=some (lf [97],[]) from by kernel_rfl]
 simp only
 rw [if_neg (fun h=>by have:=h.2;rw [t_lf] at this;cases this)]
theorem r_a0A:parseR RP [97,35,48,65]=none:=by
 unfold parseR
 rw [show readV RP 40 [97,35,48,65]=none from by kernel_rfl]
theorem r_abc:parseR RP [97,40,98,32,32,99,41]=none:=by
 unfold parseR
 rw [show readV RP 40 [97,40,98,32,32,99,41]=some (.mk ⟨mkB [97],0,[],[]⟩ [lf [98],lf [],lf [99]],[]) from by kernel_rfl]
 simp only
 rw [if_neg (fun h=>by
  have:=h.1
  unfold validT at this
  simp only [allT_mk,List.all_cons,List.all_nil] at this
  revert this
  simp only [nodesT_mk,heightT_mk,List.map_cons,List.map_nil]
  decide)]
theorem c_1:cmpT (lf [97]) k1 = -1∧cmpT k1 (lf [97])=1:=by constructor<;>rw [cmpT_mk]<;>decide
theorem c_2:cmpT k00 k1 = -1∧cmpT k1 k00=1:=by constructor<;>rw [cmpT_mk]<;>decide
theorem c_lf (s:List UInt8) (h:cmpN ⟨mkB s,0,[],[]⟩ ⟨mkB s,0,[],[]⟩=0):cmpT (lf s) (lf s)=0:=by
 rw [cmpT_mk]
 exact (if_pos h).trans rfl
theorem c_3:cmpT kb kbb = -1∧cmpT kbb kb=1:=by
 have h0:cmpN ⟨mkB [97],0,[],[]⟩ ⟨mkB [97],0,[],[]⟩=0:=by decide
 have h1:=c_lf [98] (by decide)
 constructor
 · rw [cmpT_mk]
   refine (if_pos h0).trans ?_
   show listsC cmpT [lf [98]] [lf [98],lf [98]] = -1
   simp only [listsC,h1,if_true]
 · rw [cmpT_mk]
   refine (if_pos h0).trans ?_
   show listsC cmpT [lf [98],lf [98]] [lf [98]]=1
   simp only [listsC,h1,if_true]
theorem s_lx1:stepsP [108,46,120,58,49]=some [([108],0),([120],1)]:=by kernel_rfl
theorem s_a:stepsP [97]=some [([97],0)]:=by kernel_rfl
theorem s_lx2:stepsP [108,46,120,58,50]=some [([108],0),([120],2)]:=by kernel_rfl
theorem s_llx:stepsP [108,46,46,120]=none:=by kernel_rfl
theorem s_lx0:stepsP [108,46,120,58,48]=none:=by kernel_rfl
theorem s_lx:stepsP [108,46,120]=some [([108],0),([120],0)]:=by kernel_rfl
theorem a_lx1:atT [([108],0),([120],1)] kT=some (lf [120]):=by kernel_rfl
theorem a_a:atT [([97],0)] kT=some ka:=by kernel_rfl
theorem a_lx2:atT [([108],0),([120],2)] kT=none:=by kernel_rfl
theorem u_lx:putT (lf [121]) [([108],0),([120],0)] kT=some kT2:=by kernel_rfl
theorem w_kT:(walkT kT []).map Prod.fst=[[],[97],[108],[108,46,120],[108,46,120,58,49],[104]]:=by
 have h1:cntB ([]++[kx.nd.name]) (lf [120]).nd.name=1:=by decide
 have h2:stepB (lf [120]).nd.name 1=[120,58,49]:=by
  unfold stepB
  rw [if_neg (by decide),Go.Lib.decDigits_one (by decide)]
  rfl
 simp only [walkT_mk,List.map_cons,List.map_nil,partsW,h1,h2]
 rfl
theorem cmp_zero:cmpT tr0 tr0=0:=by
 unfold tr0
 rw [cmpT_mk]
 exact (if_pos (by decide)).trans rfl
def GetsH (path want:List UInt8) (no:Int) (t:Tr):Prop:=(no=0∧∃ l t',stepsP path=some l∧atT l t=some t'∧textT t'=want∧want.length≤100000000)∨(no=6∧stepsP path=none)∨(no=9∧∃ l,stepsP path=some l∧atT l t=none)
theorem gets_ret {w0:World} (hE:EnvOK w0) (v:Value) (t:Tr) (path want:List UInt8) (no:Int) (hpl:path.length≤100000000) (hv:ValAt w0 v t) (hval:validT t=true) (h:GetsH path want no t):Ret Pg 33 #[v,.string (mkB path),.string (mkB want),.int .i64 no] w0 fun r w'=>r = .bool true∧Ext w0 w':=by
 obtain ⟨bv,hv',pv,rfl,hB,hH,hT,o1,o2,o3⟩:=hv.op
 have hn:=valid_nodes hval
 refine n10s (R:=retR _) ?_;unfold n10
 simp (disch:=try exact DI) only [↓PR,QR,simprocAttr]
 have e1:Ext w0 (w0.alloc (.cells (trCells t.nd bv hv' pv).toArray 26)):=(Ext.refl w0).alloc _
 generalize (w0.alloc (.cells (trCells t.nd bv hv' pv).toArray 26))=w1 at *
 have hV:ValAt w1 (.agg (trCells t.nd bv hv' pv).toArray) t:=ValAt.ext ⟨_,_,_,rfl,hB,hH,hT⟩ e1
 refine callK_ret (Get_ret (hE.ext e1) _ t path hpl hV (by omega)) ?_
 rintro r w2 ⟨e2,hr⟩
 rw [if_pos hval] at hr
 unfold n10c4
 have hzero:∀ e:Int,e≠0→r = .tuple #[zeroV,.int .i64 e]→no=e→n10c4 (.string (mkB want)) (.int .i64 no) r (retR fun r w'=>r = .bool true∧Ext w0 w') w2:=by
  intro e he hre hne
  have hre':r = .tuple #[.agg #[.string ByteArray.empty,.int .i64 0,.slice none 0 0,.slice none 0 0,.slice none 0 0],.int .i64 e]:=hre
  have hd:(no != 0)=true:=by rw [hne];simpa using he
  have hd2:(e == no)=true:=by rw [hne];simp
  rw [hre']
  unfold n10c4
  simp (disch:=try exact DI) only [↓PR,QR,simprocAttr,hd,hd2]
  have o3:=heap_new w2 #[.string ByteArray.empty,.int .i64 0,.slice none 0 0,.slice none 0 0,.slice none 0 0] 26
  have e3:Ext w2 (w2.alloc (.cells #[.string ByteArray.empty,.int .i64 0,.slice none 0 0,.slice none 0 0,.slice none 0 0] 26)):=ee
  generalize (w2.alloc (.cells #[.string ByteArray.empty,.int .i64 0,.slice none 0 0,.slice none 0 0,.slice none 0 0] 26))=w3 at *
  unfold n10c3 joinK
  simp (disch:=try exact DI) only [↓PR,QR,simprocAttr,hd2,(cells_of_heap o3).1]
  refine zcr (Equal_ret w3 _ _ tr0 tr0 (ValAt.zero _) (ValAt.zero _)) fun w4 e4=>?_
  rw [cmp_zero]
  simp (disch:=try exact DI) only [↓PR,QR,simprocAttr,hd2]
  exact ⟨trivial,e1.trans (e2.trans (e3.trans e4))⟩
 rcases h with ⟨rfl,l,t',hs,ha,htx,hwl⟩ | ⟨hno,hs⟩ | ⟨hno,l,hs,ha⟩
 · rw [hs] at hr
   simp only [ha] at hr
   obtain ⟨cs,lo,hi,rfl,hO,h1,h2⟩:=hr
   obtain ⟨b3,h3,q3,rfl,g1,g2,g3,g4,g5,g6⟩:=hO.read.op
   clear hzero
   simp (disch:=try exact DI) only [↓PR,QR,simprocAttr]
   have o3:=heap_new w2 #[.string t'.nd.name,.int .i64 t'.nd.int,b3,h3,q3] 26
   have e3:Ext w2 (w2.alloc (.cells #[.string t'.nd.name,.int .i64 t'.nd.int,b3,h3,q3] 26)):=ee
   have hV3:ValAt w2 (.agg #[.string t'.nd.name,.int .i64 t'.nd.int,b3,h3,q3]) t':=⟨b3,h3,q3,rfl,g1,g2,g3⟩
   have hval':=validT_at l t t' hval ha
   have hn':=valid_nodes hval'
   refine zcr (Text_ret _ _ t' (hV3.ext e3) (hE.ext (e1.trans (e2.trans e3))).tab (by omega) (by rw [htx];omega)) fun w4 e4=>?_
   rw [if_pos hval',htx]
   unfold n10c2 joinK
   simp (disch:=try exact DI) only [↓PR,QR,simprocAttr]
   unfold n10c1 joinK
   simp (disch:=try exact DI) only [↓PR,QR,simprocAttr]
   exact ⟨trivial,e1.trans (e2.trans (e3.trans e4))⟩
 · rw [hs] at hr
   exact hzero 6 (by decide) hr hno
 · rw [hs] at hr
   simp only [ha] at hr
   exact hzero 9 (by decide) hr hno
theorem refused_ret {w0:World} (hE:EnvOK w0) (s:List UInt8) (hs:s.length≤100000000) (h:parseR RP s=none):Ret Pg 36 #[.string (mkB s)] w0 fun r w'=>r = .bool true∧Ext w0 w':=by
 refine n13s (R:=retR _) ?_;unfold n13
 refine callK_ret (Parse_ret w0 (mkB s) hE (by rw [mkB_size];omega)) ?_
 rintro r w1 ⟨e1,v,c,rfl,hr⟩
 rw [mkB_data,h] at hr
 obtain ⟨rfl,hv⟩:=hr
 obtain ⟨bv,hv',pv,rfl,_,_,_,o1,o2,o3⟩:=hv.op
 unfold n13c1
 simp (disch:=try exact DI) only [↓PR,QR,simprocAttr]
 exact ⟨trivial,e1.trans ((Ext.refl _).alloc _)⟩
theorem before_ret {w0:World} (hE:EnvOK w0) (a b:List UInt8) (ha:a.length≤100000000) (hb:b.length≤100000000) (t u:Tr) (h1:parseR RP a=some t) (h2:parseR RP b=some u) (h3:cmpT t u = -1∧cmpT u t=1):Ret Pg 35 #[.string (mkB a),.string (mkB b)] w0 fun r w'=>r = .bool true∧Ext w0 w':=by
 refine n9s (R:=retR _) ?_;unfold n9
 refine callK_ret (Parse_ret w0 (mkB a) hE (by rw [mkB_size];omega)) ?_
 rintro r w1 ⟨e1,v,c,rfl,hr⟩
 rw [mkB_data,h1] at hr
 obtain ⟨rfl,hv⟩:=hr
 obtain ⟨bv,hv',pv,rfl,g1,g2,g3,o1,o2,o3⟩:=hv.op
 have hV1:ValAt w1 (.agg #[.string t.nd.name,.int .i64 t.nd.int,bv,hv',pv]) t:=⟨_,_,_,rfl,g1,g2,g3⟩
 unfold n9c4
 simp (disch:=try exact DI) only [↓PR,QR,simprocAttr]
 have c1:=heap_new w1 #[.string t.nd.name,.int .i64 t.nd.int,bv,hv',pv] 26
 have e2:Ext w1 (w1.alloc (.cells #[.string t.nd.name,.int .i64 t.nd.int,bv,hv',pv] 26)):=ee
 generalize (w1.alloc (.cells #[.string t.nd.name,.int .i64 t.nd.int,bv,hv',pv] 26))=w2 at *
 refine callK_ret (Parse_ret w2 (mkB b) (hE.ext (e1.trans e2)) (by rw [mkB_size];omega)) ?_
 rintro r w3 ⟨e3,v2,c2,rfl,hr2⟩
 rw [mkB_data,h2] at hr2
 obtain ⟨rfl,hv2⟩:=hr2
 obtain ⟨bv2,hv2',pv2,rfl,k1,k2,k3,p1,p2,p3⟩:=hv2.op
 have hV2:ValAt w3 (.agg #[.string u.nd.name,.int .i64 u.nd.int,bv2,hv2',pv2]) u:=⟨_,_,_,rfl,k1,k2,k3⟩
 have c1:=e3.obj c1
 unfold n9c3 joinK
 simp (disch:=try exact DI) only [↓PR,QR,simprocAttr]
 have c2:=heap_new w3 #[.string u.nd.name,.int .i64 u.nd.int,bv2,hv2',pv2] 26
 have e4:Ext w3 (w3.alloc (.cells #[.string u.nd.name,.int .i64 u.nd.int,bv2,hv2',pv2] 26)):=ee
 generalize (w3.alloc (.cells #[.string u.nd.name,.int .i64 u.nd.int,bv2,hv2',pv2] 26))=w4 at *
 have c1:=e4.obj c1
 unfold n9c2 joinK
 simp (disch:=try exact DI) only [↓PR,QR,simprocAttr,(cells_of_heap c1).1,(cells_of_heap c2).1]
 refine zcr (Compare_ret t w4 _ _ u (hV1.ext (e2.trans (e3.trans e4))) (hV2.ext e4)) fun w5 e5=>?_
 have c1:=e5.obj c1
 have c2:=e5.obj c2
 rw [h3.1]
 simp (disch:=try exact DI) only [↓PR,QR,simprocAttr]
 unfold n9c1 joinK
 simp (disch:=try exact DI) only [↓PR,QR,simprocAttr,(cells_of_heap c1).1,(cells_of_heap c2).1]
 refine zcr (Compare_ret u w5 _ _ t (hV2.ext (e4.trans e5)) (hV1.ext (e2.trans (e3.trans (e4.trans e5))))) fun w6 e6=>?_
 rw [h3.2]
 simp (disch:=try exact DI) only [↓PR,QR,simprocAttr]
 exact ⟨trivial,e1.trans (e2.trans (e3.trans (e4.trans (e5.trans e6))))⟩
theorem text_ret {w0:World} (hE:EnvOK w0) (s path to want:List UInt8) (hs:s.length≤100000000) (hp:path.length≤100000000) (ht:to.length≤100000000) (t u t3:Tr) (l:List Stp) (h1:parseR RP s=some t) (h2:parseR RP to=some u) (h3:stepsP path=some l) (h4:putT u l t=some t3) (h5:validT t3=true) (h6:textT t3=want) (hw:want.length≤100000000):Ret Pg 34 #[.string (mkB s),.string (mkB path),.string (mkB to)] w0 fun r w'=>r = .string (mkB want)∧Ext w0 w':=by
 have hv1:=((parseR_iff RP_ok _ _).1 h1).1
 have hv2:=((parseR_iff RP_ok _ _).1 h2).1
 have n1:=valid_nodes hv1
 have n2:=valid_nodes hv2
 have n3:=valid_nodes h5
 refine n15s (R:=retR _) ?_;unfold n15
 refine callK_ret (Parse_ret w0 (mkB s) hE (by rw [mkB_size];omega)) ?_
 rintro r w1 ⟨e1,v,c,rfl,hr⟩
 rw [mkB_data,h1] at hr
 obtain ⟨rfl,hv⟩:=hr
 obtain ⟨bv,hv',pv,rfl,g1,g2,g3,o1,o2,o3⟩:=hv.op
 have hV1:ValAt w1 (.agg #[.string t.nd.name,.int .i64 t.nd.int,bv,hv',pv]) t:=⟨_,_,_,rfl,g1,g2,g3⟩
 unfold n15c6
 simp (disch:=try exact DI) only [↓PR,QR,simprocAttr]
 have c1:=heap_new w1 #[.string t.nd.name,.int .i64 t.nd.int,bv,hv',pv] 26
 have e2:Ext w1 (w1.alloc (.cells #[.string t.nd.name,.int .i64 t.nd.int,bv,hv',pv] 26)):=ee
 generalize (w1.alloc (.cells #[.string t.nd.name,.int .i64 t.nd.int,bv,hv',pv] 26))=w2 at *
 refine callK_ret (Parse_ret w2 (mkB to) (hE.ext (e1.trans e2)) (by rw [mkB_size];omega)) ?_
 rintro r w3 ⟨e3,v2,c2,rfl,hr2⟩
 rw [mkB_data,h2] at hr2
 obtain ⟨rfl,hvv⟩:=hr2
 obtain ⟨bv2,hv2',pv2,rfl,k1,k2,k3,p1,p2,p3⟩:=hvv.op
 have hV2:ValAt w3 (.agg #[.string u.nd.name,.int .i64 u.nd.int,bv2,hv2',pv2]) u:=⟨_,_,_,rfl,k1,k2,k3⟩
 have c1:=e3.obj c1
 unfold n15c5
 simp (disch:=try exact DI) only [↓PR,QR,simprocAttr,fun o=>(cells_of_heap (((Ext.refl w3).alloc o).obj c1)).1]
 have c2:=heap_new w3 #[.string u.nd.name,.int .i64 u.nd.int,bv2,hv2',pv2] 26
 have e4:Ext w3 (w3.alloc (.cells #[.string u.nd.name,.int .i64 u.nd.int,bv2,hv2',pv2] 26)):=ee
 generalize (w3.alloc (.cells #[.string u.nd.name,.int .i64 u.nd.int,bv2,hv2',pv2] 26))=w4 at *
 have e04:=e1.trans (e2.trans (e3.trans e4))
 refine callK_ret (Set_ret (hE.ext e04) 1048576 _ _ t u path hp (hV1.ext (e2.trans (e3.trans e4))) (hV2.ext e4) (by omega) (by omega) (valid_hn hv1) (valid_hn hv2)) ?_
 rintro r w5 ⟨e5,hr⟩
 rw [if_pos ⟨hv1,hv2⟩,h3] at hr
 simp only [h4,h5,if_true] at hr
 obtain ⟨cs,lo,hi,rfl,hI,_,_⟩:=hr
 obtain ⟨b3,h3',q3,rfl,m1,m2,m3,m4,m5,m6⟩:=hI.1.all.op
 unfold n15c4
 simp (disch:=try exact DI) only [↓PR,QR,simprocAttr]
 have e6:Ext w5 (w5.alloc (.cells #[.string t3.nd.name,.int .i64 t3.nd.int,b3,h3',q3] 26)):=ee
 have hV3:ValAt w5 (.agg #[.string t3.nd.name,.int .i64 t3.nd.int,b3,h3',q3]) t3:=⟨_,_,_,rfl,m1,m2,m3⟩
 generalize (w5.alloc (.cells #[.string t3.nd.name,.int .i64 t3.nd.int,b3,h3',q3] 26))=w6 at *
 refine zcr (Text_ret w6 _ t3 (hV3.ext e6) (hE.ext (e04.trans (e5.trans e6))).tab (by omega) (by rw [h6];omega)) fun w7 e7=>?_
 rw [if_pos h5,h6]
 unfold n15c3 joinK
 simp (disch:=try exact DI) only [↓PR,QR,simprocAttr]
 unfold n15c2 joinK
 simp (disch:=try exact DI) only [↓PR,QR,simprocAttr]
 unfold n15c1 joinK
 simp (disch:=try exact DI) only [↓PR,QR,simprocAttr]
 exact ⟨trivial,e04.trans (e5.trans (e6.trans e7))⟩
abbrev wantL:List (List UInt8):=[[],[97],[108],[108,46,120],[108,46,120,58,49],[104]]
theorem Lasts7.reg {A:World} {lo hi:Nat}:Lasts7 (fun V u=>(∀ b,lo≤b→b < hi→¬ V b∧u.heap[b]?=A.heap[b]?)∧hi≤u.heap.size):=fun V V' w w' hl ⟨h,hs⟩=>⟨fun b h1 h2=>by
 obtain ⟨g1,g2⟩:=h b h1 h2
 refine ⟨fun hv=>?_,(hl.block b (by omega) g1).trans g2⟩
 rcases hl.new b hv with hv | hv
 · exact g1 hv
 · omega,Nat.le_trans hs hl.size⟩
abbrev wantW:Array Value := #[.string ⟨#[]⟩,.string ⟨#[97]⟩,.string ⟨#[108]⟩,.string ⟨#[108,46,120]⟩,.string ⟨#[108,46,120,58,49]⟩,.string ⟨#[104]⟩]
theorem want_get:∀ (j:Nat) (wl:List UInt8),wantL[j]?=some wl→wantW[j]?=some (.string (mkB wl))
 | 0,_,h=>by cases h;rfl
 | 1,_,h=>by cases h;rfl
 | 2,_,h=>by cases h;rfl
 | 3,_,h=>by cases h;rfl
 | 4,_,h=>by cases h;rfl
 | 5,_,h=>by cases h;rfl
 | _+6,_,h=>by cases h
theorem walk_len:(walkT kT []).length=6:=by
 have:=congrArg List.length w_kT
 rwa [List.length_map] at this
def KnI (w0 A:World) (b0 q lo p2:Nat) (k:Nat) (V:Bks) (u:World):Prop:=(Ext w0 u∧∀ b,V b→w0.heap.size≤b)∧((∀ b,lo≤b→b < p2→¬ V b∧u.heap[b]?=A.heap[b]?)∧p2≤u.heap.size)∧(¬ V b0∧u.heap[b0]?=some (.cells #[.bool false] 4 (0,0)))∧(¬ V q∧u.heap[q]?=some (.cells wantW 9 (0,0)))∧(¬ V (q+1)∧u.heap[q+1]?=some (.cells #[.slice (some ⟨q,0,none⟩) 6 6] 65 (0,0)))∧(¬ V (q+2)∧u.heap[q+2]?=some (.cells #[.int .i64 (k:Int)] 3 (0,0)))
theorem KnI.lasts (w0 A:World) (b0 q lo p2 k:Nat):Lasts7 (KnI w0 A b0 q lo p2 k):=Lasts7.from.and (Lasts7.reg.and (Lasts7.has.and (Lasts7.has.and (Lasts7.has.and Lasts7.has))))
theorem known_ret {w0:World} (hE:EnvOK w0):Ret Pg 11 #[] w0 fun r w'=>r = .bool true∧Ext w0 w':=by
 refine n11s (R:=retR _) ?_;unfold n11
 simp (disch:=try exact DI) only [↓PR,QR,simprocAttr]
 have c0:=heap_new w0 #[.bool false] 4
 have e0:Ext w0 (w0.alloc (.cells #[.bool false] 4)):=ee
 have z0:(w0.alloc (.cells #[.bool false] 4)).heap.size=w0.heap.size+1:=by simp
 generalize (w0.alloc (.cells #[.bool false] 4))=w1 at *
 generalize hb0:w0.heap.size=b0 at *
 refine callK_ret (Parse_ret w1 (mkB kS) (hE.ext e0) (by rw [mkB_size];decide)) ?_
 rintro r w2 ⟨e1,v,c,rfl,hr⟩
 rw [mkB_data,p_kT] at hr
 obtain ⟨rfl,hv⟩:=hr
 obtain ⟨bv,hv',pv,rfl,g1,g2,g3,o1,o2,o3⟩:=hv.op
 have e:=e0.trans e1
 have c0:=e1.obj c0
 unfold n11c23
 simp (disch:=try exact DI) only [↓PR,QR,simprocAttr]
 have c1:=heap_new w2 #[.string kT.nd.name,.int .i64 kT.nd.int,bv,hv',pv] 26
 have e2:Ext w2 (w2.alloc (.cells #[.string kT.nd.name,.int .i64 kT.nd.int,bv,hv',pv] 26)):=ee
 have hV:ValAt w2 (.agg #[.string kT.nd.name,.int .i64 kT.nd.int,bv,hv',pv]) kT:=⟨_,_,_,rfl,g1,g2,g3⟩
 generalize (w2.alloc (.cells #[.string kT.nd.name,.int .i64 kT.nd.int,bv,hv',pv] 26))=w3 at *
 generalize hb1:w2.heap.size=b1 at *
 have hV:=hV.ext e2
 have e:=e.trans e2
 have c0:=e2.obj c0
 refine zcr (Text_ret w3 _ kT hV (hE.ext e).tab (by rw [nodes_kT];decide) (by rw [t_kT];decide)) fun w4 e3=>?_
 rw [if_pos v_kT,t_kT]
 have hV:=hV.ext e3
 have e:=e.trans e3
 have c0:=e3.obj c0
 have c1:=e3.obj c1
 unfold n11c22 joinK
 simp (disch:=try exact DI) only [↓PR,QR,simprocAttr]
 unfold n11c21 joinK
 have hd:(mkB kS)=(⟨#[109,40,97,61,53,32,108,40,120,35,48,97,32,120,41,32,104,91,52,49,58,54,50,54,51,93,41]⟩:ByteArray):=rfl
 simp (disch:=try exact DI) only [↓PR,QR,simprocAttr,hd]
 unfold n11c20 joinK
 simp (disch:=try exact DI) only [↓PR,QR,simprocAttr,(cells_of_heap c1).1]
 refine zcr (Nodes_ret w4 _ kT hV (by rw [nodes_kT];decide)) fun w5 e4=>?_
 rw [nodes_kT]
 have hV:=hV.ext e4
 have e:=e.trans e4
 have c0:=e4.obj c0
 have c1:=e4.obj c1
 simp (disch:=try exact DI) only [↓PR,QR,simprocAttr]
 unfold n11c19 joinK
 simp (disch:=try exact DI) only [↓PR,QR,simprocAttr,(cells_of_heap c1).1]
 refine zcr (gets_ret (hE.ext e) _ kT [108,46,120,58,49] [120] 0 (by decide) hV v_kT (.inl ⟨rfl,_,_,s_lx1,a_lx1,t_lf _,by decide⟩)) fun w6 e5=>?_
 have hV:=hV.ext e5
 have e:=e.trans e5
 have c0:=e5.obj c0
 have c1:=e5.obj c1
 simp (disch:=try exact DI) only [↓PR,QR,simprocAttr]
 unfold n11c18 joinK
 simp (disch:=try exact DI) only [↓PR,QR,simprocAttr,(cells_of_heap c1).1]
 refine zcr (gets_ret (hE.ext e) _ kT [97] [97,61,53] 0 (by decide) hV v_kT (.inl ⟨rfl,_,_,s_a,a_a,t_ka,by decide⟩)) fun w7 e6=>?_
 have hV:=hV.ext e6
 have e:=e.trans e6
 have c0:=e6.obj c0
 have c1:=e6.obj c1
 simp (disch:=try exact DI) only [↓PR,QR,simprocAttr]
 unfold n11c17 joinK
 simp (disch:=try exact DI) only [↓PR,QR,simprocAttr,(cells_of_heap c1).1]
 refine zcr (gets_ret (hE.ext e) _ kT [108,46,120,58,50] [] 9 (by decide) hV v_kT (.inr (.inr ⟨rfl,_,s_lx2,a_lx2⟩))) fun w8 e7=>?_
 have hV:=hV.ext e7
 have e:=e.trans e7
 have c0:=e7.obj c0
 have c1:=e7.obj c1
 simp (disch:=try exact DI) only [↓PR,QR,simprocAttr]
 unfold n11c16 joinK
 simp (disch:=try exact DI) only [↓PR,QR,simprocAttr,(cells_of_heap c1).1]
 refine zcr (gets_ret (hE.ext e) _ kT [108,46,46,120] [] 6 (by decide) hV v_kT (.inr (.inl ⟨rfl,s_llx⟩))) fun w9 e8=>?_
 have hV:=hV.ext e8
 have e:=e.trans e8
 have c0:=e8.obj c0
 have c1:=e8.obj c1
 simp (disch:=try exact DI) only [↓PR,QR,simprocAttr]
 unfold n11c15 joinK
 simp (disch:=try exact DI) only [↓PR,QR,simprocAttr,(cells_of_heap c1).1]
 refine zcr (gets_ret (hE.ext e) _ kT [108,46,120,58,48] [] 6 (by decide) hV v_kT (.inr (.inl ⟨rfl,s_lx0⟩))) fun w10 e9=>?_
 have hV:=hV.ext e9
 have e:=e.trans e9
 have c0:=e9.obj c0
 have c1:=e9.obj c1
 simp (disch:=try exact DI) only [↓PR,QR,simprocAttr]
 unfold n11c14
 simp (disch:=try exact DI) only [↓PR,QR,simprocAttr]
 unfold n11c13
 simp (disch:=try exact DI) only [↓PR,QR,simprocAttr,fun a b c=>(cells_of_heap (((((Ext.refl w10).alloc a).alloc b).alloc c).obj c1)).1]
 have k1:=heap_new w10 #[.string ⟨#[]⟩,.string ⟨#[97]⟩,.string ⟨#[108]⟩,.string ⟨#[108,46,120]⟩,.string ⟨#[108,46,120,58,49]⟩,.string ⟨#[104]⟩] 9
 have a1:Ext w10 (w10.alloc (.cells #[.string ⟨#[]⟩,.string ⟨#[97]⟩,.string ⟨#[108]⟩,.string ⟨#[108,46,120]⟩,.string ⟨#[108,46,120,58,49]⟩,.string ⟨#[104]⟩] 9)):=ee
 have y1:(w10.alloc (.cells #[.string ⟨#[]⟩,.string ⟨#[97]⟩,.string ⟨#[108]⟩,.string ⟨#[108,46,120]⟩,.string ⟨#[108,46,120,58,49]⟩,.string ⟨#[104]⟩] 9)).heap.size=w10.heap.size+1:=by simp
 generalize (w10.alloc (.cells #[.string ⟨#[]⟩,.string ⟨#[97]⟩,.string ⟨#[108]⟩,.string ⟨#[108,46,120]⟩,.string ⟨#[108,46,120,58,49]⟩,.string ⟨#[104]⟩] 9))=w11 at *
 generalize hq:w10.heap.size=q at *
 have k2:=heap_new w11 #[.slice (some ⟨q,0,none⟩) 6 6] 65
 have a2:Ext w11 (w11.alloc (.cells #[.slice (some ⟨q,0,none⟩) 6 6] 65)):=ee
 have y2:(w11.alloc (.cells #[.slice (some ⟨q,0,none⟩) 6 6] 65)).heap.size=w11.heap.size+1:=by simp
 generalize (w11.alloc (.cells #[.slice (some ⟨q,0,none⟩) 6 6] 65))=w12 at *
 have k3:=heap_new w12 #[.int .i64 0] 3
 have a3:Ext w12 (w12.alloc (.cells #[.int .i64 0] 3)):=ee
 have y3:(w12.alloc (.cells #[.int .i64 0] 3)).heap.size=w12.heap.size+1:=by simp
 generalize (w12.alloc (.cells #[.int .i64 0] 3))=w13 at *
 rw [y1] at k2
 rw [y2,y1] at k3
 simp only [y2,y1]
 have a:=a1.trans (a2.trans a3)
 have e:=e.trans a
 have hV:=hV.ext a
 have c0:=a.obj c0
 have k1:=a3.obj (a2.obj k1)
 have k2:=a3.obj k2
 refine callK_ret (Walk_ret _ kT hV (by rw [nodes_kT];decide)) ?_
 rintro r w14 ⟨e14,hr⟩
 rw [if_pos v_kT] at hr
 obtain ⟨xb,xh,xp,lo,p2,rfl,hWP,hO,hlo,hp2⟩:=hr
 have e:=e.trans e14
 have c0:=e14.obj c0
 have k1:=e14.obj k1
 have k2:=e14.obj k2
 have k3:=e14.obj k3
 unfold n11c12
 rw [op_eqNilF Tryz.underlying43]
 simp (disch:=try exact DI) only [↓PR,QR,simprocAttr]
 unfold n11c11
 rw [y1]
 have zlo:w13.heap.size≤lo:=hlo
 have z13:w13.heap.size=q+3:=by rw [y3,y2,y1]
 have hlp:=hO.le
 have hbq:b0 < q:=by
  have h0:=(Array.getElem?_eq_some_iff.1 (show w10.heap[b0]?=_ from by assumption)).1
  omega
 have H0:KnI w0 w14 b0 q lo (p2+2) 0 (fun _=>False) w14:=⟨⟨e,fun b hb=>hb.elim⟩,⟨fun b h1 h2=>⟨fun h=>h,rfl⟩,by omega⟩,⟨fun h=>h,c0⟩,⟨fun h=>h,k1⟩,⟨fun h=>h,k2⟩,⟨fun h=>h,k3⟩⟩
 refine ⟨_,_,_,_,_,_,_,KnI w0 w14 b0 q lo (p2+2),fun _ _ _=>False,fun _ _ _=>False,rfl,c82,walk_at hO v_kT (p2+1) p2 (by omega) (Nat.le_refl _) (by omega),fun w' e'=>trivial,fun b hb=>hb.elim,H0,fun k V u h=>⟨⟨hE.ext h.1.1,Nat.le_trans (Nat.le_add_right p2 2) h.2.1.2,fun b h1 h2=>(h.2.1.1 b h1 (by omega)).2⟩,(h.2.1.1 _ (by omega) (by omega)).2.trans hWP.1,(h.2.1.1 _ (by omega) (by omega)).2.trans hWP.2⟩,fun c V u h=>h.elim,fun k=>KnI.lasts _ _ _ _ _ _ _,fun c=>Lasts7.const _,fun ch=>Lasts7.const _,?_,?_,?_,?_⟩
 · intro Rk V hR hV0 j xx yy u hj hY hI hRu hltu hready
   obtain ⟨qq,cs,lo',hi',hq',rfl,rfl,_⟩:=hY
   have hw:wantL[j]?=some qq.1:=by
    have:=congrArg (fun l=>l[j]?) w_kT
    simp only [List.getElem?_map,hq',Option.map_some] at this
    exact this.symm
   have hwc:=want_get j qq.1 hw
   rw [walk_len] at hj
   refine ⟨hready,fun w5 hbz=>?_⟩
   have hR5:=hR _ _ (KR7.busied hbz) hRu
   have H5:=(KnI.lasts w0 w14 b0 q lo (p2+2) j).busied hbz (show plusB V w14.heap.size (w14.heap.size+1) from .inr (.inr rfl)) hI
   obtain ⟨i1,i2,i3,i4,i5,i6⟩:=H5
   have hdj:¬ ((6:Int)≤(j:Int)):=by omega
   have hdk:(j:Int) < 6:=by omega
   have hdj2:¬ (((6:Nat):Int)≤(j:Int)):=by omega
   have hdk2:(j:Int) < ((6:Nat):Int):=by omega
   have hwj:IntKind.i64.wrap ((j:Int)+1)=((j+1:Nat):Int):=wrap_succ (by omega)
   have hcell:w5.cell? ⟨q,j,none⟩=some (.string (mkB qq.1)):=by rw [(cells_of_heap i4.2).1];exact hwc
   unfold n11c2 joinK
   simp (disch:=try exact DI) only [↓PR,QR,simprocAttr,(cells_of_heap i6.2).1,(cells_of_heap i5.2).1,hdj,hdk,hdj2,hdk2,Nat.mul_one,hcell]
   unfold n11c1
   simp (disch:=try exact DI) only [↓PR,QR,simprocAttr,(cells_of_heap i6.2).1,(cells_of_heap i6.2).2,hwj]
   refine ⟨hR _ _ ((KR7.refl _ w5).setCell _ _ _ (.inl i6.1)) hR5,⟨⟨i1.1.os,i1.1.tape,i1.1.output,by simpa using i1.1.size,fun b hb=>?_⟩,i1.2⟩,⟨fun b h1 h2=>⟨(i2.1 b h1 h2).1,?_⟩,by simpa using i2.2⟩,⟨i3.1,?_⟩,⟨i4.1,?_⟩,⟨i5.1,?_⟩,i6.1,heap_set (o:=0) i6.2 _⟩
   · rw [heap_setE (by omega)];exact i1.1.block b hb
   · rw [heap_setE (by omega)];exact (i2.1 b h1 h2).2
   · rw [heap_setE (by omega)];exact i3.2
   · rw [heap_setE (by omega)];exact i4.2
   · rw [heap_setE (by omega)];exact i5.2
 · intro V u H hmk
   rw [walk_len] at H
   obtain ⟨i1,i2,i3,i4,i5,i6⟩:=H
   unfold n11c10 joinK
   simp (disch:=try exact DI) only [↓PR,QR,simprocAttr,(cells_of_heap i6.2).1,(cells_of_heap i5.2).1]
   have eu:=i1.1
   have cu:=i3.2
   have mu:=hmk
   have h66:((6:Int) == ((6:Nat):Int))=true:=rfl
   refine zcr (text_ret (hE.ext eu) kS [108,46,120] [121] kS2 (by decide) (by decide) (by decide) kT (lf [121]) kT2 _ p_kT p_y s_lx u_lx v_kT2 t_kT2 (by decide)) fun u20 f20=>?_
   have eu:=eu.trans f20
   have cu:=f20.obj cu
   have mu:=MarkAt.ext mu f20
   have hd2:(mkB kS2)=(⟨#[109,40,97,61,53,32,108,40,121,32,120,41,32,104,91,52,49,58,54,50,54,51,93,41]⟩:ByteArray):=rfl
   unfold n11c9
   simp (disch:=try exact DI) only [↓PR,QR,simprocAttr,hd2,h66]
   unfold n11c8 joinK
   simp (disch:=try exact DI) only [↓PR,QR,simprocAttr,h66]
   refine zcr (before_ret (hE.ext eu) [97] [97,61,49] (by decide) (by decide) _ _ p_a p_a1 c_1) fun u21 f21=>?_
   have eu:=eu.trans f21
   have cu:=f21.obj cu
   have mu:=MarkAt.ext mu f21
   unfold n11c7 joinK
   simp (disch:=try exact DI) only [↓PR,QR,simprocAttr,h66]
   refine zcr (before_ret (hE.ext eu) [97,35,48,48] [97,61,49] (by decide) (by decide) _ _ p_a00 p_a1 c_2) fun u22 f22=>?_
   have eu:=eu.trans f22
   have cu:=f22.obj cu
   have mu:=MarkAt.ext mu f22
   unfold n11c6 joinK
   simp (disch:=try exact DI) only [↓PR,QR,simprocAttr,h66]
   refine zcr (before_ret (hE.ext eu) [97,40,98,41] [97,40,98,32,98,41] (by decide) (by decide) _ _ p_ab p_abb c_3) fun u23 f23=>?_
   have eu:=eu.trans f23
   have cu:=f23.obj cu
   have mu:=MarkAt.ext mu f23
   unfold n11c5 joinK
   simp (disch:=try exact DI) only [↓PR,QR,simprocAttr,h66]
   refine zcr (refused_ret (hE.ext eu) [97,61,48] (by decide) r_a0) fun u24 f24=>?_
   have eu:=eu.trans f24
   have cu:=f24.obj cu
   have mu:=MarkAt.ext mu f24
   unfold n11c4 joinK
   simp (disch:=try exact DI) only [↓PR,QR,simprocAttr,h66]
   refine zcr (refused_ret (hE.ext eu) [97,35,48,65] (by decide) r_a0A) fun u25 f25=>?_
   have eu:=eu.trans f25
   have cu:=f25.obj cu
   have mu:=MarkAt.ext mu f25
   unfold n11c3 joinK
   simp (disch:=try exact DI) only [↓PR,QR,simprocAttr,h66]
   refine zcr (refused_ret (hE.ext eu) [97,40,98,32,32,99,41] (by decide) r_abc) fun u26 f26=>?_
   have eu:=eu.trans f26
   have cu:=f26.obj cu
   have mu:=MarkAt.ext mu f26
   simp (disch:=try exact DI) only [↓PR,QR,simprocAttr,(cells_of_heap cu).1,(cells_of_heap cu).2]
   have cv:=heap_set (o:=0) cu (.bool true)
   change _=some (Obj.cells #[.bool true] 4 (0,0)) at cv
   refine outX_mark (MarkAt.setCell mu _ _) ?_
   simp (disch:=try exact DI) only [↓PR,QR,simprocAttr,outX_nil,retV,resOne,cell_putMark (MarkAt.setCell mu ⟨b0,0,none⟩ (.bool true)),(cells_of_heap cv).1]
   refine ⟨trivial,eu.os,eu.tape,eu.output,by simpa using eu.size,fun b hb=>?_⟩
   rw [World.putObj_heap_other (by have:=e.size;have:=hWP.1;omega),heap_setE (by omega)]
   exact eu.block b hb
 · rintro c V u h
   exact h.elim
 · rintro ch V u h
   exact h.elim
theorem listsC_refl {α:Type} {f:α→α→Int}:∀ {l:List α},(∀ x∈l,f x x=0)→listsC f l l=0
 | [],_=>rfl
 | x::l,h=>by
  rw [listsC,if_pos (h x (List.mem_cons_self ..))]
  exact listsC_refl fun y hy=>h y (List.mem_cons_of_mem _ hy)
theorem cmpB_refl:∀ l:List UInt8,Go.Lib.compareBytes l l=0
 | []=>rfl
 | a::l=>by
  have h:¬ a < a:=UInt8.lt_irrefl a
  unfold Go.Lib.compareBytes
  rw [if_neg h,if_neg h]
  exact cmpB_refl l
theorem cmpH_refl (h:ByteArray×ByteArray):cmpH h h=0:=by
 unfold cmpH cmpS
 rw [cmpB_refl,cmpB_refl]
 rfl
theorem cmpN_refl (n:Nd):cmpN n n=0:=by
 unfold cmpN cmpS
 rw [cmpB_refl,cmpB_refl,listsC_refl fun x _=>cmpH_refl x,show Go.Lib.compareInt n.int n.int=0 by unfold Go.Lib.compareInt;simp]
 rfl
theorem cmp_refl (t:Tr):cmpT t t=0:=by
 refine Tr.ind (p:=fun t=>cmpT t t=0) ?_ t
 intro n ps ih
 rw [cmpT_mk]
 exact (if_pos (cmpN_refl n)).trans (listsC_refl ih)
end Go.Proofs.YtcffhmapmaahnaaGreatDoor
namespace Go.Sw
open Go.ChangeShapes Go.WideShapes Go.RowKit Go.ChangeAt Go.Deep
theorem list_of {α:Type} {p:Nat→α→Prop}:∀ (n:Nat),(∀ i,i < n→∃ x,p i x)→∃ l:List α,l.length=n∧∀ k x,l[k]?=some x→p k x
 | 0,_=>⟨[],rfl,fun k x h=>by simp at h⟩
 | n+1,h=>by
  obtain ⟨l,hl,hp⟩:=list_of n (fun i hi=>h i (by omega))
  obtain ⟨x,hx⟩:=h n (by omega)
  refine ⟨l++[x],by simp [hl],fun k y hy=>?_⟩
  rw [List.getElem?_append] at hy
  split at hy
  · exact hp k y hy
  · have hk:k=n:=by
     have:=(List.getElem?_eq_some_iff.1 hy).1
     simp at this
     omega
    subst hk
    simp [hl] at hy
    subst hy
    exact hx
section
variable {H:Type} {enc:TypeId×Value→H} {P:Program} {w:World} {base:Nat} {spare:Nat→Bool} {held:Bool}
theorem weightsAll_mem {e:TypeId} {m:Nat} {d:DataW H}:∀ {l:List (DataW H)},d∈l→m∈d.weights P e→m∈DataW.weightsAll P e l
 | [],h,_=>by cases h
 | a::l,h,hm=>by
  rw [DataW.weightsAll,List.mem_append]
  rcases List.mem_cons.1 h with rfl | h
  · exact .inl hm
  · exact .inr (weightsAll_mem h hm)
def Reached (P:Program) (t:TypeId) (d:DataW H):Prop:=∀ m∈d.weights P t,m≤reachBytes
theorem reached_of {ts:List TypeId} {ds:List (DataW H)} (h:(DataW.weightsEach P ts ds).all (· ≤ reachBytes)=true) {j:Nat} {t:TypeId} {d:DataW H} (ht:ts[j]?=some t) (hd:ds[j]?=some d):Reached P t d:=fun m hm=>by
 have:=List.all_eq_true.1 h _ (DataW.weights_mem_each ht hd m hm)
 simpa using this
theorem trodAll_stays (hl:laidOutB P=true) {W W':World} (he:Ext W W'):∀ {ts:List TypeId} {vs:List Value} {ds:List (DataW H)} {ps:List MemPlace},(∀ t∈ts,P.readableRec t=true∧t < P.types.size)→(∀ x∈ps,x.block < W.heap.size) →
 DataW.TrodAll enc P W 0 (fun _=>true) true ts vs ds ps→DataW.TrodAll enc P W' 0 (fun b=>decide (b < W.heap.size)) true ts vs ds ps
 | [],_,_,_,_,_,h=>by obtain ⟨rfl,rfl,rfl⟩:=trodAll_nil h;exact trodAll_mk0
 | t::ts,_,_,_,hr,hlt,h=>by
  obtain ⟨v,vs1,d,ds1,a,b,rfl,rfl,rfl,h1,h2⟩:=trodAll_cons h
  refine ⟨a,b,?_,trodAll_stays hl he (fun t ht=>hr t (List.mem_cons_of_mem _ ht)) (fun x hx=>hlt x (List.mem_append_right _ hx)) h2,rfl⟩
  exact Below.trod hl (hr t (List.mem_cons_self ..)).1 (hr t (List.mem_cons_self ..)).2 h1 ⟨he.os,he.tape,he.output,he.size,he.block⟩ (fun x hx=>hlt x (List.mem_append_left _ hx))
theorem law_post {f:Func} {s:ChangeSpec} {W W':World} {args:Array Value} {ds gs:List (DataW H)} {before:List MemPlace} {tb:TypeId} (hl:laidOutB P=true) (hr:∀ t∈f.params.toList,P.readableRec t=true∧t < P.types.size) (hs:s.vars=[])
 (hW:DataW.Whole enc P f.params.toList s.vars false W args.toList ds gs before) (he:Ext W W') (hres:f.resultTypes = #[tb]) (htb:P.underlying tb=some .bool) (hfn:(s.fn H ds).results=[.lit (.bool true)]) (hargs:(s.fn H ds).args=ds) (hvars:(s.fn H ds).vars=[]) :
 s.post enc P f false true false false W args (.bool true) W':=by
 have hW':=hW
 obtain ⟨p,q,hA,hV,rfl,_,_⟩:=hW
 rw [hs] at hV
 obtain ⟨rfl,rfl⟩:=trodVars_none hV
 have hlt:∀ x∈p,x.block < W.heap.size:=fun x hx=>hW'.lt x (by simpa using hx)
 rw [List.append_nil] at hW'
 refine ⟨ds,[],p,[],p,[],hW',?_,?_,?_,Below.frame ⟨he.os,he.tape,he.output,he.size,he.block⟩ _,fun h=>by cases h⟩
 · rw [List.append_nil,hfn,hres]
   exact trodAll_mk1 (shut_bool htb _)
 · rw [List.append_nil,hargs]
   exact trodAll_stays hl he hr hlt hA
 · rw [List.append_nil,hvars,hs]
   exact rfl
end
end Go.Sw
namespace Go.Proofs.YtcffhmapmaahnaaGreatDoor
open Sw
open Go.RowKit Go.Deep
def role_laid:List (String×DataW Unit):=[("math/bits.deBruijn32tab", Rows.laid_math_bits_deBruijn32tab),("math/bits.deBruijn64tab", Rows.laid_math_bits_deBruijn64tab),("internal/strconv.uint64pow10", Rows.laid_internal_strconv_uint64pow10),("unicode/utf8.acceptRanges", Rows.laid_unicode_utf8_acceptRanges),("strconv.ErrRange", Rows.laid_strconv_ErrRange),("strconv.ErrSyntax", Rows.laid_strconv_ErrSyntax),("unicode/utf8.first", Rows.laid_unicode_utf8_first)]
theorem role_own:ownKnob Pg.godebug=none:=by kernel_rfl
theorem role_laidOut:laidOutB Pg=true:=by kernel_rfl
theorem role_met (os:Os) (args:Array Value):laidMetH Pg role_laid ((World.laidAll Pg os role_laid).forCall (fun _ _=>0) ⟨#[],args,[]⟩).memory:=by
 rw [MakeChecks.laidMetH_plain _ _ _ (by kernel_rfl)]
 exact laidMet_laidAll _ (by kernel_rfl) (by kernel_rfl)
theorem role_tab {W:World} (h:laidMetH Pg role_laid W):TabOK W:=by
 rw [MakeChecks.laidMetH_plain _ _ _ (by kernel_rfl)] at h
 have h3:=laidMet.tail (laidMet.tail h)
 have he:(Rows.laid_internal_strconv_uint64pow10:DataW Unit)=Go.Lib.tabData .u64 Go.Lib.pow10Tab:=by kernel_rfl
 rw [he] at h3
 obtain ⟨g,hg⟩:=Option.isSome_iff_exists.1 gPow
 have hty:(Pg.globals[g]?).map (·.type)=some 187:=by
  have h1:(Pg.globalNamed "internal/strconv.uint64pow10").bind (fun g=>(Pg.globals[g]?).map (·.type))=some 187:=by kernel_rfl
  rw [hg] at h1
  exact h1
 exact Go.Lib.tabIs_of_head hg hty Tryz.underlying187 Tryz.underlying163 (by kernel_rfl) (by kernel_rfl) h3
theorem role_star : "*" ++ "errors.errorString" = "*errors.errorString" := by decide
theorem role_rowErr (u:TypeId) (h:Pg.typeName? 3 u=some "*errors.errorString"):u=181 :=
 typeName_ptr_named (nm := "errors.errorString") (by rw [role_star];kernel_rfl) (by kernel_rfl) (by decide) u (by rw [role_star];exact h)
theorem role_env {W:World} (hs:W.ShapedOpen Pg) (h:laidMetH Pg role_laid W):EnvOK W:=by
 refine ⟨role_tab h,Go.Proofs.cell_of_shapedOpen_int (k := .i64) hs (of_decide_eq_true (by kernel_rfl)) (zero := #[.int .i64 0]) (t:=3) (by kernel_rfl) rfl (by kernel_rfl) (by kernel_rfl) Tryz.underlying3,?_,?_⟩
 · rw [MakeChecks.laidMetH_plain _ _ _ (by kernel_rfl)] at h
   have h5:=h.tail.tail.tail.tail.tail
   obtain ⟨a,s,hv,_⟩:=laid_sentinel (g:=1) h5 (by kernel_rfl) (by kernel_rfl) Tryz.underlying113 role_rowErr Tryz.underlying181 Tryz.underlying183 rfl rfl Tryz.underlying9 (by kernel_rfl) (by kernel_rfl)
   refine ⟨_,by rw [World.var?_cell (show Pg.globalNamed "strconv.ErrSyntax" = some 1 by kernel_rfl) hv 0];rfl,.inr ⟨_,_,rfl⟩⟩
 · rw [MakeChecks.laidMetH_plain _ _ _ (by kernel_rfl)] at h
   have h5:=h.tail.tail.tail.tail
   obtain ⟨a,s,hv,_⟩:=laid_sentinel (g:=2) h5 (by kernel_rfl) (by kernel_rfl) Tryz.underlying113 role_rowErr Tryz.underlying181 Tryz.underlying183 rfl rfl Tryz.underlying9 (by kernel_rfl) (by kernel_rfl)
   refine ⟨_,by rw [World.var?_cell (show Pg.globalNamed "strconv.ErrRange" = some 2 by kernel_rfl) hv 0];rfl,.inr ⟨_,_,rfl⟩⟩
theorem handed_and {H:Type} {enc:TypeId×Value→H} {a:Assume} {C:Checked} {os:Os} {f:FuncId} {fn:Func} {s:ChangeSpec} {conds:List PathCond} {apart fresh handsOn again:Bool} {X:World→Array Value→Prop}
 (hX:∀ (w w':World) (args:Array Value),w.heap=w'.heap→X w args→X w' args)
 (own:ownKnob C.prog.godebug=none) (started:os.Started) (noInit:C.prog.inits.idxOf? f=none) (hfn:C.prog.funcs[f]?=some fn)
 (witness:∃ (w:World) (tape:Tape) (i:Input),w.os=os∧(w.forCall tape i).Shaped C.prog∧i.vars=[]∧Input.okWide C.prog (w.forCall tape i) .any w.heap.size f i ∧
  ((s.pre enc C.prog fn conds apart (w.forCall tape i).memory i.args∧X (w.forCall tape i).memory i.args)∧sizedMet enc C.prog fn (OpenSpec.ofChange s) apart (w.forCall tape i).memory i.args)∧a.holds C.prog (lone (Frame.enter C.prog f i.args .normal) [] (w.forCall tape i)))
 (contract:∀ (W:World) (base:Nat) (args:Array Value) (ds gs:List (DataW H)) (before:List MemPlace),
  (∀ (j:Nat) t v,fn.params[j]?=some t→args[j]?=some v→Value.okWide C.prog W .any base t v) →
  DataW.Whole enc C.prog fn.params.toList s.vars apart W args.toList ds gs before →
  conds.all (PathCond.test C.prog ⟨fn.params.toList,ds,s.plain.varTypes C.prog,gs⟩)=true →
  (DataW.weightsEach C.prog (fn.params.toList++s.plain.varTypes C.prog) (ds++gs)).all (· ≤ reachBytes)=true→X W args→W.ShapedOpen C.prog →
  a.holds C.prog (lone (Frame.enter C.prog f args .normal) [] W) →
  Calls C.prog f args W fun e W'=>∃ v,e = .returned v∧s.post enc C.prog fn apart fresh handsOn again W args v W') :
 ReturnsInHanded a C os f .any (fun w args=>(s.pre enc C.prog fn conds apart w args∧X w args)∧sizedMet enc C.prog fn (OpenSpec.ofChange s) apart w args) (s.post enc C.prog fn apart fresh handsOn again):=by
 refine returnsInHanded_of_calls own started noInit witness ?_
 intro w tape i _ hsh _ hok hpre hholds
 obtain ⟨_,_,_,fn',hfn',_,_,_,_,hval⟩:=hok
 have e:fn'=fn:=Option.some.inj (hfn'.symm.trans hfn)
 subst e
 obtain ⟨⟨⟨ds,gs,before,hw,hc⟩,hx⟩,hz⟩:=hpre
 have hw':=DataW.Whole.of_heap (w':=w.forCall tape i) (by rfl) hw
 refine (contract (w.forCall tape i) w.heap.size i.args ds gs before hval hw' hc (hz.weights hw) (hX _ _ _ (by rfl) hx) hsh hholds).mono fun e W' ⟨v,he,hp⟩=>?_
 subst he
 exact ChangeSpec.post_blind hp
end Go.Proofs.YtcffhmapmaahnaaGreatDoor
namespace Go.Proofs.YtcffhmapmaahnaaGreatDoor
open Sw
open Go.ChangeShapes Go.WideShapes Go.RowKit Go.ChangeAt Go.Deep
section
variable {H:Type} {enc:TypeId×Value→H} {w:World} {base:Nat} {spare:Nat→Bool} {held:Bool}
theorem slice_of_trodF {α:Type} {E:World→List Value→α→Prop} {Q:α→Prop} {t e:TypeId} {n fuel:Nat} {cs:List Value} {x:DataW H×List MemPlace} (ht:Pg.underlying t=some (.slice e)) (hn:Pg.cellsOf e=n) (hb1:1≤Pg.bytesOf e) (h0:0 < n)
 (hE:∀ m cs' y,m < fuel→DataW.trod enc Pg w base spare held m e cs'=some y→Reached Pg e y.1→∃ x,E w cs' x∧Q x) (h:DataW.trod enc Pg w base spare held fuel t cs=some x) (hr:Reached Pg t x.1):∃ v l,cs=[v]∧SliceOf w n E v l∧(∀ x∈l,Q x)∧l.length≤140737488355328:=by
 rcases DataW.trod_slice ht h with ⟨rfl,_⟩ | ⟨a,len,cap,elems,rest,k,hk,rfl,hx,hb,hl,hm,hel,hget,hs1,hs2⟩
 · exact ⟨_,[],rfl,SliceOf.nil _ _ _,fun x hx=>by (cases hx),Nat.zero_le _⟩
 · subst hx
   have hw0:=hr ((elems.length+rest.length)*Pg.bytesOf e) (by simp only [DataW.weights,ht];simp)
   have hlen:len≤140737488355328:=by
    have:len*1≤(elems.length+rest.length)*Pg.bytesOf e:=Nat.mul_le_mul (by omega) hb1
    simp only [reachBytes] at hw0
    omega
   obtain ⟨l,hll,hp⟩:=list_of (p:=fun i (x:α)=>∃ cs',w.cells? base (a.add (i*n)) n=some cs'∧E w cs' x∧Q x) len (fun i hi=>by
    have h1:=hget i hi
    obtain ⟨y,hy⟩:=getElem?_lt (l:=elems) (k:=i) (by omega)
    rw [hy,hn] at h1
    obtain ⟨cs',h2,h3⟩:=Option.bind_eq_some_iff.1 h1
    obtain ⟨x,hx⟩:=hE _ _ _ (by omega) h3 (fun q hq=>hr q (by
     simp only [DataW.weights,ht,List.mem_cons,List.mem_append]
     exact .inr (.inl (weightsAll_mem (List.mem_map.2 ⟨y,List.mem_of_getElem? hy,rfl⟩) hq))))
    exact ⟨x,cs',h2,hx⟩)
   refine ⟨_,l,rfl,⟨some a,cap,by rw [hll],by rw [hll];exact hl,by simp only [maxLen] at hm;omega,fun hne=>?_⟩,fun x hx=>?_,by omega⟩
   · obtain ⟨b,o,spot⟩:=a
     have hspot:spot=none:=by
      have:0 < l.length:=List.length_pos_iff.2 hne
      obtain ⟨y,hy⟩:=getElem?_lt this
      obtain ⟨cs',h1,_⟩:=hp 0 y hy
      obtain ⟨_,h2,h3⟩:=World.cells?_some h1
      have h4:=h3 0 h0
      rw [List.getElem?_eq_getElem (by omega)] at h4
      simpa [Addr.add] using World.cell?_spot h4
     subst hspot
     refine ⟨b,o,rfl,fun k x hx=>?_⟩
     obtain ⟨cs',h1,h2,_⟩:=hp k x hx
     obtain ⟨_,h3,h4⟩:=World.cells?_some h1
     refine ⟨cs',h3,fun j v hv=>?_,h2⟩
     have h5:=h4 j (by have:=(List.getElem?_eq_some_iff.1 hv).1;omega)
     rw [hv] at h5
     simpa [Addr.add_lit] using h5
   · obtain ⟨k,hk⟩:=List.getElem?_of_mem hx
     obtain ⟨_,_,_,hq⟩:=hp k x hk
     exact hq
theorem struct_of_trodF {fs:Array Field} {t:TypeId} {n fuel:Nat} {cs:List Value} {x:DataW H×List MemPlace} (ht:Pg.underlying t=some (.struct fs)) (hn:Pg.cellsOf t=n) (h:DataW.trod enc Pg w base spare held fuel t cs=some x) (hr:Reached Pg t x.1) :
 cs.length=n∧∃ m,m < fuel∧∀ (i:Nat) (ty off k:Nat),(fs[i]?).map (fun f=>(f.type,f.offset))=some (ty,off)→Pg.cellsOf ty=k→∃ y,DataW.trod enc Pg w base spare held m ty ((cs.drop off).take k)=some y∧Reached Pg ty y.1:=by
 obtain ⟨xs,m,hm,rfl,hl,hlen,hf⟩:=DataW.trod_struct ht h
 refine ⟨hl.trans hn,m,by omega,fun i ty off k hi hk=>?_⟩
 obtain ⟨f,hfi,he⟩:=Option.map_eq_some_iff.1 hi
 injection he with h1 h2
 subst h1 h2 hk
 have hil:i < xs.length:=by rw [hlen];exact (Array.getElem?_eq_some_iff.1 hfi).1
 refine ⟨xs[i],(hf i f hfi).trans (List.getElem?_eq_getElem hil),fun q hq=>hr q ?_⟩
 simp only [DataW.weights,ht]
 refine DataW.weights_mem_each (j:=i) (t:=f.type) (d:=xs[i].1) ?_ ?_ q hq
 · rw [List.getElem?_map,Array.getElem?_toList,hfi];rfl
 · rw [List.getElem?_map,List.getElem?_eq_getElem hil];rfl
theorem cellsVal:Pg.cellsOf 26=5:=by kernel_rfl
theorem cellsHdr:Pg.cellsOf 74=2:=by kernel_rfl
theorem cellsString:Pg.cellsOf 9=1:=by kernel_rfl
theorem cellsInt:Pg.cellsOf 3=1:=by kernel_rfl
theorem cellsU8:Pg.cellsOf 5=1:=by kernel_rfl
theorem cellsBs:Pg.cellsOf 22=1:=by kernel_rfl
theorem cellsHs:Pg.cellsOf 23=1:=by kernel_rfl
theorem cellsVs:Pg.cellsOf 24=1:=by kernel_rfl
theorem bytesVal:1≤Pg.bytesOf 26:=Nat.le_of_ble_eq_true (by kernel_rfl)
theorem bytesHdr:1≤Pg.bytesOf 74:=Nat.le_of_ble_eq_true (by kernel_rfl)
theorem bytesU8:1≤Pg.bytesOf 5:=Nat.le_of_ble_eq_true (by kernel_rfl)
theorem hdr_of {m:Nat} {cs:List Value} {y:DataW H×List MemPlace} (h:DataW.trod enc Pg w base spare held m 74 cs=some y) (hr:Reached Pg 74 y.1):∃ x,EHdr w cs x:=by
 obtain ⟨hl,n,_,hf⟩:=struct_of_trodF Tryz.underlying74 cellsHdr h hr
 obtain ⟨y0,h0,r0⟩:=hf 0 9 0 1 rfl cellsString
 obtain ⟨y1,h1,r1⟩:=hf 1 9 1 1 rfl cellsString
 match cs,hl with
 | [c0,c1],_ =>
  obtain ⟨s,e0,_⟩:=DataW.trod_string Tryz.underlying9 h0
  obtain ⟨k,e1,_⟩:=DataW.trod_string Tryz.underlying9 h1
  simp at e0 e1
  subst e0 e1
  exact ⟨(s,k),rfl⟩
theorem byte_of {m:Nat} {cs:List Value} {y:DataW H×List MemPlace} (h:DataW.trod enc Pg w base spare held m 5 cs=some y):∃ x:UInt8,EByte w cs x:=by
 obtain ⟨k,rfl,_,hw⟩:=DataW.trod_int Tryz.underlying5 h
 have hk:0≤k∧k≤255:=by
  have h2:(decide (IntKind.u8.min≤k)&&decide (k≤IntKind.u8.max))=true:=hw
  rw [Bool.and_eq_true,decide_eq_true_eq,decide_eq_true_eq,show IntKind.u8.min=0 from rfl,show IntKind.u8.max=255 from rfl] at h2
  exact h2
 refine ⟨UInt8.ofNat k.toNat,?_⟩
 show [Value.int .u8 k]=[Value.int .u8 ((UInt8.ofNat k.toNat).toNat:Int)]
 rw [UInt8.toNat_ofNat',Nat.mod_eq_of_lt (by omega)]
 congr 2
 omega
theorem value_of:∀ (m:Nat) (cs:List Value) (y:DataW H×List MemPlace),DataW.trod enc Pg w base spare held m 26 cs=some y→Reached Pg 26 y.1→∃ t,ETr w cs t:=by
 intro m
 induction m using Nat.strongRecOn with
 | ind m ih =>
  intro cs y h hr
  obtain ⟨hl,n,hn,hf⟩:=struct_of_trodF Tryz.underlying26 cellsVal h hr
  obtain ⟨y0,h0,r0⟩:=hf 0 9 0 1 rfl cellsString
  obtain ⟨y1,h1,r1⟩:=hf 1 3 1 1 rfl cellsInt
  obtain ⟨y2,h2,r2⟩:=hf 2 22 2 1 rfl cellsBs
  obtain ⟨y3,h3,r3⟩:=hf 3 23 3 1 rfl cellsHs
  obtain ⟨y4,h4,r4⟩:=hf 4 24 4 1 rfl cellsVs
  match cs,hl with
  | [c0,c1,c2,c3,c4],_ =>
   obtain ⟨s,e0,_⟩:=DataW.trod_string Tryz.underlying9 h0
   obtain ⟨k,e1,_⟩:=DataW.trod_int Tryz.underlying3 h1
   obtain ⟨v2,l2,e2,hS2,_,_⟩:=slice_of_trodF (E:=EByte) (Q:=fun _=>True) Tryz.underlying22 cellsU8 bytesU8 (by decide) (fun _ _ _ _ h hr=>let ⟨x,hx⟩:=byte_of h; ⟨x,hx,trivial⟩) h2 r2
   obtain ⟨v3,l3,e3,hS3,_,_⟩:=slice_of_trodF (E:=EHdr) (Q:=fun _=>True) Tryz.underlying23 cellsHdr bytesHdr (by decide) (fun _ _ _ _ h hr=>let ⟨x,hx⟩:=hdr_of h hr; ⟨x,hx,trivial⟩) h3 r3
   obtain ⟨v4,l4,e4,hS4,_,_⟩:=slice_of_trodF (E:=ETr) (Q:=fun _=>True) Tryz.underlying24 cellsVal bytesVal (by decide) (fun m' _ _ hm' h hr=>let ⟨x,hx⟩:=ih m' (by omega) _ _ h hr; ⟨x,hx,trivial⟩) h4 r4
   simp at e0 e1 e2 e3 e4
   subst e0 e1 e2 e3 e4
   exact ⟨.mk ⟨s,k,l2,l3⟩ l4,ETr_mk.2 ⟨_,_,_,rfl,hS2,hS3,hS4⟩⟩
theorem val_val {r:Reach} {b0:Nat} {v:Value} {d:DataW H} {ps:List MemPlace} (hval:Value.okWide Pg w r b0 26 v) (h:DataW.Trod enc Pg w base spare held 26 v d ps) (hr:Reached Pg 26 d):∃ t:Tr,ValAt w v t∧True:=by
 obtain ⟨cs,rfl,_⟩:=okWide_struct Tryz.underlying26 hval
 obtain ⟨fuel,hf⟩:=h
 obtain ⟨t,ht⟩:=value_of _ _ _ hf hr
 obtain ⟨bv,hv,pv,hc,g1,g2,g3⟩:=ETr_of.1 ht
 exact ⟨t,⟨bv,hv,pv,congrArg Value.agg (by rw [← hc,cells_agg]),g1,g2,g3⟩,trivial⟩
end
end Go.Proofs.YtcffhmapmaahnaaGreatDoor
namespace Go.Proofs.YtcffhmapmaahnaaGreatDoor
open Sw
open Go.RowKit (intOf Below)
theorem allT_imp {f g:Nd→Bool} (h:∀ n,f n=true→g n=true) (t:Tr):allT f t=true→allT g t=true:=by
 refine Tr.ind (p:=fun t=>allT f t=true→allT g t=true) ?_ t
 intro n ps ih ht
 rw [allT_mk,Bool.and_eq_true,List.all_eq_true] at ht ⊢
 exact ⟨h n ht.1,fun x hx=>ih x hx (ht.2 x hx)⟩
theorem hdrs_small (t:Tr):allT smallN t=true→hdrsT t≤110*nodesT t:=by
 refine Tr.ind (p:=fun t=>allT smallN t=true→hdrsT t≤110*nodesT t) ?_ t
 intro n ps ih ht
 rw [allT_mk,Bool.and_eq_true,List.all_eq_true] at ht
 have h1:n.hdrs.length≤110:=by
  have:=ht.1
  unfold smallN at this
  simp only [Bool.and_eq_true,decide_eq_true_eq] at this
  omega
 have h2:∀ l:List Tr,(∀ x∈l,hdrsT x≤110*nodesT x)→(l.map hdrsT).sum≤110*(l.map nodesT).sum:=by
  intro l
  induction l with
  | nil=>intro _;simp
  | cons a l ihl =>
   intro h
   have ha:=h a (List.mem_cons_self ..)
   have:=ihl fun x hx=>h x (List.mem_cons_of_mem _ hx)
   rw [List.map_cons,List.map_cons,List.sum_cons,List.sum_cons]
   omega
 have h3:=h2 ps fun x hx=>ih x hx (ht.2 x hx)
 rw [hdrsT_mk,nodesT_mk]
 omega
structure RsI (w0:World) (s:List UInt8) (k:Nat) (v:Value) (rows:List Stp) (w:World):Prop where
 e:Ext w0 w
 own:OwnE w w0.heap.size 61 2 encS v rows
 st:stepsL ((splitB 46 s).take k)=some (rows.map capS)
 len:rows.length=k
 bnd:∀ x∈rows,x.2≤9223372036854775807
theorem small_of {t:Tr} (h2:allT smallN t=true) (h1:nodesT t≤200):shortT t=true∧fitT t=true∧hnT 1048576 t=true∧hdrsT t≤22000:=by
 have h3:=hdrs_small t h2
 refine ⟨allT_imp (fun n hn=>?_) t h2,?_,allT_imp (fun n hn=>?_) t h2,by omega⟩
 · unfold smallN at hn
   unfold shortN
   simp only [Bool.and_eq_true,decide_eq_true_eq,List.all_eq_true] at hn ⊢
   refine ⟨⟨by omega,by omega⟩,fun x hx=>?_⟩
   have:=hn.2.2.2 x hx
   unfold smallH at this
   simp only [Bool.and_eq_true,decide_eq_true_eq] at this
   omega
 · unfold fitT
   rw [Bool.and_eq_true,decide_eq_true_eq]
   refine ⟨allT_imp (fun n hn=>?_) t h2,by omega⟩
   unfold smallN at hn
   unfold fitN
   simp only [Bool.and_eq_true,decide_eq_true_eq] at hn ⊢
   omega
 · unfold smallN at hn
   simp only [Bool.and_eq_true,decide_eq_true_eq,List.all_eq_true] at hn ⊢
   intro x hx
   have:=hn.2.2.2 x hx
   unfold smallH at this
   simp only [Bool.and_eq_true,decide_eq_true_eq] at this
   omega
theorem part_small {t p:Tr} (h:allT smallN t=true) (hp:p∈t.ps):allT smallN p=true:=by
 cases t with
 | mk n ps =>
  rw [allT_mk,Bool.and_eq_true,List.all_eq_true] at h
  exact h.2 p hp
theorem at_small:∀ (l:List Stp) (t t':Tr),atT l t=some t'→allT smallN t=true→allT smallN t'=true∧nodesT t'≤nodesT t
 | [],t,t',h,hs=>by
  injection h with h
  rw [← h]
  exact ⟨hs,Nat.le_refl _⟩
 | x::l,t,t',h,hs=>by
  rw [atT] at h
  cases hf:findT (mkB x.1) x.2 t.ps with
  | none=>rw [hf] at h;cases h
  | some i =>
   rw [hf] at h
   simp only at h
   cases hi:t.ps[i]? with
   | none=>rw [hi] at h;cases h
   | some p =>
    rw [hi] at h
    have hm:=List.mem_of_getElem? hi
    obtain ⟨h1,h2⟩:=at_small l p t' h (part_small hs hm)
    have:=(nodesT_ps t).2 p hm
    exact ⟨h1,by omega⟩
theorem zero_small:allT smallN tr0=true∧nodesT tr0≤200:=by
 unfold tr0
 rw [allT_mk,nodesT_mk]
 exact ⟨by decide,by decide⟩
noncomputable def getE (t:Tr) (s:List UInt8):Int×Tr:=if validT t=true then match stepsP s with
 | none=>(6,tr0)
 | some l=>match atT l t with
  | none=>(9,tr0)
  | some t'=>(0,t')
 else (2,tr0)
theorem InT_zero (w:World) (lo hi B:Nat):InT w lo hi B tr0 [.string ByteArray.empty,.int .i64 0,.slice none 0 0,.slice none 0 0,.slice none 0 0]:=by
 unfold tr0 nd0
 exact InT_mk (css:=[]) (bv := .slice none 0 0) (hv := .slice none 0 0) (pv := .slice none 0 0) ⟨OwnE.nil _ _ _ _ _,fun b h=>by cases h⟩ ⟨OwnE.nil _ _ _ _ _,fun b h=>by cases h⟩ ⟨OwnE.nil _ _ _ _ _,fun b h=>by cases h⟩ (fun h hh=>by cases hh) rfl fun k c x hc=>by cases hc
theorem get_shape {w0 w':World} {s:List UInt8} {t:Tr} {r:Value} (h:GetK w0 s t r w') (hs:allT smallN t=true) (hn:nodesT t≤200):Ext w0 w'∧∃ cs lo hi,r = .tuple #[.agg cs.toArray,.int .i64 (getE t s).1]∧InT w' lo hi 1048576 (getE t s).2 cs∧w0.heap.size≤lo∧hi≤w'.heap.size:=by
 obtain ⟨e,h⟩:=h
 refine ⟨e,?_⟩
 have hz:=e.size
 unfold getE
 by_cases hv:validT t=true
 · rw [if_pos hv] at h ⊢
   cases hP:stepsP s with
   | none =>
    rw [hP] at h
    exact ⟨_,w0.heap.size,w0.heap.size,h,InT_zero _ _ _ _,Nat.le_refl _,hz⟩
   | some l =>
    rw [hP] at h
    simp only at h ⊢
    cases ha:atT l t with
    | none =>
     rw [ha] at h
     exact ⟨_,w0.heap.size,w0.heap.size,h,InT_zero _ _ _ _,Nat.le_refl _,hz⟩
    | some t' =>
     rw [ha] at h
     obtain ⟨cs,lo,hi,rfl,hO,h1,h2⟩:=h
     obtain ⟨g1,g2⟩:=at_small l t t' ha hs
     exact ⟨cs,lo,hi,rfl,InT.of _ hO (small_of g1 (by omega)).2.2.1,h1,h2⟩
 · rw [if_neg hv] at h ⊢
   exact ⟨_,w0.heap.size,w0.heap.size,h,InT_zero _ _ _ _,Nat.le_refl _,hz⟩
noncomputable def setE (t to:Tr) (s:List UInt8):Int×Tr:=if validT t=true∧validT to=true then match stepsP s with
 | none=>(6,tr0)
 | some l=>match putT to l t with
  | none=>(9,tr0)
  | some t3=>if validT t3=true then (0,t3) else (3,tr0)
 else (2,tr0)
theorem set_shape {w0 w':World} {B:Nat} {s:List UInt8} {t to:Tr} {r:Value} (h:SetK w0 B s t to r w'):Ext w0 w'∧∃ cs lo hi,r = .tuple #[.agg cs.toArray,.int .i64 (setE t to s).1]∧InT w' lo hi B (setE t to s).2 cs∧w0.heap.size≤lo∧hi≤w'.heap.size:=by
 obtain ⟨e,h⟩:=h
 refine ⟨e,?_⟩
 have hz:=e.size
 unfold setE
 by_cases hv:validT t=true∧validT to=true
 · rw [if_pos hv] at h ⊢
   cases hP:stepsP s with
   | none =>
    rw [hP] at h
    exact ⟨_,w0.heap.size,w0.heap.size,h,InT_zero _ _ _ _,Nat.le_refl _,hz⟩
   | some l =>
    rw [hP] at h
    simp only at h ⊢
    cases ha:putT to l t with
    | none =>
     rw [ha] at h
     exact ⟨_,w0.heap.size,w0.heap.size,h,InT_zero _ _ _ _,Nat.le_refl _,hz⟩
    | some t3 =>
     rw [ha] at h
     simp only at h ⊢
     by_cases hv3:validT t3=true
     · rw [if_pos hv3] at h ⊢
       exact h
     · rw [if_neg hv3] at h ⊢
       exact ⟨_,w0.heap.size,w0.heap.size,h,InT_zero _ _ _ _,Nat.le_refl _,hz⟩
 · rw [if_neg hv] at h ⊢
   exact ⟨_,w0.heap.size,w0.heap.size,h,InT_zero _ _ _ _,Nat.le_refl _,hz⟩
theorem walk_count (t:Tr):∀ path,(walkT t path).length=nodesT t:=by
 refine Tr.ind (p:=fun t=>∀ path,(walkT t path).length=nodesT t) ?_ t
 intro n ps ih path
 rw [walkT_mk,nodesT_mk,List.length_cons]
 have key:∀ (ps:List Tr) (seen:List ByteArray),(∀ x∈ps,∀ path,(walkT x path).length=nodesT x)→(partsW path seen ps (ps.map walkT)).flatten.length=(ps.map nodesT).sum:=by
  intro ps
  induction ps with
  | nil=>intro seen _;rfl
  | cons p ps ih =>
   intro seen h
   show (walkT p _++(partsW path (seen++[p.nd.name]) ps (ps.map walkT)).flatten).length=_
   rw [List.length_append,h p (List.mem_cons_self ..),ih _ fun x hx=>h x (List.mem_cons_of_mem _ hx)]
   rfl
 rw [key ps [] ih]
 omega
theorem flat_split {α:Type _}:∀ {LL:List (List α)} {i:Nat} {q:α},LL.flatten[i]?=some q→∃ k l j,LL[k]?=some l∧l[j]?=some q∧i=offL LL k+j
 | [],i,q,h=>by simp at h
 | a::LL,i,q,h=>by
  rw [List.flatten_cons] at h
  by_cases hi:i < a.length
  · rw [List.getElem?_append_left hi] at h
    exact ⟨0,a,i,rfl,h,by simp [offL]⟩
  · rw [List.getElem?_append_right (by omega)] at h
    obtain ⟨k,l,j,h1,h2,h3⟩:=flat_split h
    refine ⟨k+1,l,j,by simpa using h1,h2,?_⟩
    unfold offL at h3 ⊢
    rw [List.take_succ_cons,List.map_cons,List.sum_cons]
    omega
theorem name_ne {s:ByteArray} (h:nameB s=true) (c:UInt8) (hc:wordB c=false):s.data.toList.all (neB c)=true:=by
 unfold nameB at h
 simp only [Bool.and_eq_true] at h
 refine List.all_eq_true.2 fun x hx=>?_
 have:=List.all_eq_true.1 h.2 x hx
 unfold neB
 exact decide_eq_true fun e=>by rw [e,hc] at this;cases this
theorem split_app (c:UInt8) (b:List UInt8):∀ a:List UInt8,splitB c (a++c::b)=splitB c a++splitB c b
 | []=>by
  show splitB c (c::b)=[[]]++splitB c b
  rw [splitB,if_pos rfl]
  rfl
 | x::a=>by
  have ih:=split_app c b a
  rw [List.cons_append,splitB,splitB,ih]
  by_cases h:x=c
  · rw [if_pos h,if_pos h]
    rfl
  · rw [if_neg h,if_neg h]
    cases hs:splitB c a with
    | nil=>exact absurd hs (splitB_ne c a)
    | cons p ps=>rfl
theorem split_one (c:UInt8) {b:List UInt8} (h:b.all (neB c)=true):splitB c b=[b]:=by rw [splitB_eq,if_pos h]
theorem dec_ne (c:UInt8) (hc:digN c=false) (n:Nat):(Go.Lib.decDigits n).all (neB c)=true:=by
 have h:=(dec_ok n).2.1
 refine List.all_eq_true.2 fun x hx=>?_
 have:=List.all_eq_true.1 h x hx
 unfold neB
 exact decide_eq_true fun e=>by rw [e,hc] at this;cases this
theorem takeW_app {p:UInt8→Bool}:∀ {a b:List UInt8},a.all p=true→(a++b).takeWhile p=a++b.takeWhile p∧(a++b).dropWhile p=b.dropWhile p
 | [],_,_=>⟨rfl,rfl⟩
 | x::a,b,h=>by
  rw [List.all_cons,Bool.and_eq_true] at h
  obtain ⟨h1,h2⟩:=takeW_app (b:=b) h.2
  rw [List.cons_append,List.takeWhile_cons,List.dropWhile_cons,h.1]
  exact ⟨by rw [if_pos rfl,h1];rfl,by rw [if_pos rfl,h2]⟩
theorem stepP_step {nm:ByteArray} (h:nameB nm=true) {n:Nat} (hn:n < 65536):stepP (stepB nm n)=some (nm.data.toList,n):=by
 have h58:=name_ne h 58 (by decide)
 have hb:mkB nm.data.toList=nm:=mkB_to nm
 unfold stepB
 by_cases h0:n=0
 · rw [if_pos h0,List.append_nil]
   unfold stepP
   rw [if_pos h58,hb,if_pos h,h0]
 · rw [if_neg h0]
   obtain ⟨d1,d2,d3,d4⟩:=dec_ok n
   have hall:¬ ((nm.data.toList++58::Go.Lib.decDigits n).all (neB 58)=true):=by
    rw [List.all_append,List.all_cons]
    have:neB 58 58=false:=by decide
    rw [this]
    simp
   obtain ⟨k1,k2⟩:=takeW_app (b:=58::Go.Lib.decDigits n) h58
   have e1:(58::Go.Lib.decDigits n).takeWhile (neB 58)=[]:=by rw [List.takeWhile_cons,if_neg (by decide)]
   have e2:(58::Go.Lib.decDigits n).dropWhile (neB 58)=58::Go.Lib.decDigits n:=by rw [List.dropWhile_cons,if_neg (by decide)]
   unfold stepP
   rw [if_neg hall,k1,k2,e1,e2,List.append_nil,List.tail_cons]
   simp only
   rw [hb,if_pos ⟨d1,d2,fun e=>h0 (d4 e),h⟩,d3]
   unfold capN
   rw [show min n 65536=n by omega]
theorem step_ne {nm:ByteArray} (h:nameB nm=true) (n:Nat):stepB nm n≠[]∧(stepB nm n).all (neB 46)=true:=by
 have h46:=name_ne h 46 (by decide)
 have hne:nm.data.toList≠[]:=fun e=>by
  unfold nameB at h
  rw [e] at h
  simp at h
 unfold stepB
 refine ⟨fun e=>hne (List.append_eq_nil_iff.1 e).1,?_⟩
 rw [List.all_append,h46]
 split
 · rfl
 · rw [List.all_cons,dec_ne 46 (by decide)]
   rfl
theorem steps_dot {path b:List UInt8} {l0:List Stp} {s:Stp} (h0:stepsP path=some l0) (hb:stepP b=some s) (hne:b≠[]) (hd:b.all (neB 46)=true):stepsP (dotB path b)=some (l0++[s]):=by
 unfold dotB
 by_cases hp:path=[]
 · subst hp
   rw [if_pos rfl]
   unfold stepsP at h0 ⊢
   rw [if_pos rfl] at h0
   injection h0 with h0
   subst h0
   rw [if_neg hne,split_one 46 hd,stepsL,hb]
   rfl
 · rw [if_neg hp]
   unfold stepsP at h0 ⊢
   rw [if_neg hp] at h0
   rw [if_neg (by simp),split_app,split_one 46 hd,stepsL_snoc,h0,hb]
   rfl
theorem find_cnt:∀ (ps:List Tr) (k:Nat) (p:Tr),ps[k]?=some p→findT p.nd.name (cntB ((ps.take k).map fun x=>x.nd.name) p.nd.name) ps=some k
 | [],_,_,h=>by cases h
 | q::ps,0,p,h=>by
  simp only [List.getElem?_cons_zero,Option.some.injEq] at h
  subst h
  rw [findT,if_pos rfl]
  rfl
 | q::ps,k+1,p,h=>by
  have ih:=find_cnt ps k p (by simpa using h)
  rw [List.take_succ_cons,List.map_cons,findT]
  unfold cntB at ih ⊢
  by_cases hq:q.nd.name=p.nd.name
  · have hc:(List.filter (fun x=>decide (x=p.nd.name)) (q.nd.name::List.map (fun x=>x.nd.name) (ps.take k))).length=(List.filter (fun x=>decide (x=p.nd.name)) (List.map (fun x=>x.nd.name) (ps.take k))).length+1:=by
     rw [List.filter_cons,if_pos (by simpa using hq),List.length_cons]
    rw [if_pos hq,hc,if_neg (by omega),Nat.add_sub_cancel,ih]
    rfl
  · rw [if_neg hq,List.filter_cons,if_neg (by simpa using hq),ih]
    rfl
noncomputable def posT:List Stp→Tr→Option Nat
 | [],_=>some 0
 | x::l,t=>match findT (mkB x.1) x.2 t.ps with
  | none=>none
  | some i=>match t.ps[i]? with
   | none=>none
   | some p=>(posT l p).map fun j=>1+(((t.ps.take i).map nodesT).sum+j)
theorem walk_find (t:Tr):∀ (path:List UInt8) (l0:List Stp),stepsP path=some l0→allT nodeB t=true→nodesT t≤65536→∀ (i:Nat) (q:List UInt8×Tr),(walkT t path)[i]?=some q→∃ l,stepsP q.1=some (l0++l)∧atT l t=some q.2∧posT l t=some i:=by
 refine Tr.ind (p:=fun t=>∀ (path:List UInt8) (l0:List Stp),stepsP path=some l0→allT nodeB t=true→nodesT t≤65536→∀ (i:Nat) (q:List UInt8×Tr),(walkT t path)[i]?=some q→∃ l,stepsP q.1=some (l0++l)∧atT l t=some q.2∧posT l t=some i) ?_ t
 intro n ps ih path l0 h0 hn hc i q hq
 rw [walkT_mk] at hq
 cases i with
 | zero =>
  simp only [List.getElem?_cons_zero,Option.some.injEq] at hq
  subst hq
  exact ⟨[],by rw [List.append_nil];exact h0,rfl,rfl⟩
 | succ i =>
  rw [List.getElem?_cons_succ] at hq
  obtain ⟨k,l,j,h1,h2,h3⟩:=flat_split hq
  have hlen:k < ps.length:=by
   have:=(List.getElem?_eq_some_iff.1 h1).1
   rwa [partsW_len] at this
  obtain ⟨p,hp⟩:=getElem?_lt hlen
  rw [partsW_get hp] at h1
  injection h1 with h1
  rw [List.nil_append] at h1
  rw [allT_mk,Bool.and_eq_true,List.all_eq_true] at hn
  have hpm:=List.mem_of_getElem? hp
  have hnp:=hn.2 p hpm
  have hnb:nameB p.nd.name=true:=by
   cases p with
   | mk n2 ps2 =>
    rw [allT_mk,Bool.and_eq_true] at hnp
    have h:=hnp.1
    unfold nodeB at h
    rw [Bool.and_eq_true] at h
    exact h.1
  have hpl:ps.length≤nodesT (Tr.mk n ps):=(nodesT_ps (Tr.mk n ps)).1
  have hcn:cntB ((ps.take k).map fun x=>x.nd.name) p.nd.name < 65536:=by
   have:=cnt_le ((ps.take k).map fun x=>x.nd.name) p.nd.name
   rw [List.length_map,List.length_take] at this
   omega
  obtain ⟨s1,s2⟩:=step_ne hnb (cntB ((ps.take k).map fun x=>x.nd.name) p.nd.name)
  have hsd:=steps_dot h0 (stepP_step hnb hcn) s1 s2
  have hnq:=(nodesT_ps (Tr.mk n ps)).2 p hpm
  obtain ⟨l',g1,g2,g3⟩:=ih p hpm _ _ hsd hnp (by omega) j q (by rw [h1];exact h2)
  have hfind:findT (mkB p.nd.name.data.toList) (cntB ((ps.take k).map fun x=>x.nd.name) p.nd.name) (Tr.mk n ps).ps=some k:=find_cnt ps k p hp
  have hps:(Tr.mk n ps).ps[k]?=some p:=hp
  refine ⟨(p.nd.name.data.toList,cntB ((ps.take k).map fun x=>x.nd.name) p.nd.name)::l',?_,?_,?_⟩
  · rw [g1,List.append_assoc]
    rfl
  · rw [atT]
    simp only [hfind,hps]
    exact g2
  · rw [posT]
    simp only [hfind,hps,g3,Option.map_some]
    have hoff:offL (partsW path [] ps (ps.map walkT)) k=((ps.take k).map nodesT).sum:=by
     unfold offL
     congr 1
     have key:∀ (ps:List Tr) (seen:List ByteArray) (k:Nat),((partsW path seen ps (ps.map walkT)).take k).map List.length=(ps.take k).map nodesT:=by
      intro ps
      induction ps with
      | nil=>intro seen k;simp [partsW]
      | cons p ps ih =>
       intro seen k
       cases k with
       | zero=>rfl
       | succ k =>
        show ((walkT p _::partsW path (seen++[p.nd.name]) ps (ps.map walkT)).take (k+1)).map List.length=_
        rw [List.take_succ_cons,List.map_cons,List.take_succ_cons,List.map_cons,ih,walk_count]
     exact key ps [] k
    rw [h3,hoff]
    show some (1+(((ps.take k).map nodesT).sum+j))=_
    congr 1
    omega
theorem walk_inj {t:Tr} (hn:allT nodeB t=true) (hc:nodesT t≤65536) {i j:Nat} {q r:List UInt8×Tr} (hi:(walkT t [])[i]?=some q) (hj:(walkT t [])[j]?=some r) (h:q.1=r.1):i=j:=by
 obtain ⟨l,a1,a2,a3⟩:=walk_find t [] [] rfl hn hc i q hi
 obtain ⟨m,b1,b2,b3⟩:=walk_find t [] [] rfl hn hc j r hj
 rw [h,b1] at a1
 injection a1 with a1
 rw [List.nil_append,List.nil_append] at a1
 subst a1
 rw [a3] at b3
 injection b3
theorem put_same:∀ (l:List Stp) (t x:Tr),atT l t=some x→putT x l t=some t
 | [],t,x,h=>by
  injection h with h
  rw [putT,h]
 | s::l,t,x,h=>by
  rw [atT] at h
  rw [putT]
  cases hf:findT (mkB s.1) s.2 t.ps with
  | none=>rw [hf] at h;cases h
  | some i =>
   rw [hf] at h
   simp only at h ⊢
   cases hi:t.ps[i]? with
   | none=>rw [hi] at h;cases h
   | some p =>
    rw [hi] at h
    simp only at h ⊢
    rw [put_same l p x h,Option.map_some]
    have:t.ps.set i p=t.ps:=List.ext_getElem? fun k=>by
     by_cases hk:i=k
     · subst hk
       rw [List.getElem?_set_self (List.getElem?_eq_some_iff.1 hi).1,hi]
     · rw [List.getElem?_set_ne hk]
    rw [this]
    cases t
    rfl
theorem find_names (nm:ByteArray):∀ (ps qs:List Tr) (n:Nat),ps.map (fun x=>x.nd.name)=qs.map (fun x=>x.nd.name)→findT nm n ps=findT nm n qs
 | [],[],_,_=>rfl
 | [],_::_,_,h=>by simp at h
 | _::_,[],_,h=>by simp at h
 | p::ps,q::qs,n,h=>by
  rw [List.map_cons,List.map_cons] at h
  injection h with h1 h2
  rw [findT,findT,h1,find_names nm ps qs n h2,find_names nm ps qs (n - 1) h2]
theorem put_at {to:Tr}:∀ (l:List Stp) (t x:Tr),atT l t=some x→to.nd.name=x.nd.name→∃ t3,putT to l t=some t3∧atT l t3=some to∧t3.nd.name=t.nd.name
 | [],t,x,h,hn=>by
  injection h with h
  exact ⟨to,rfl,rfl,by rw [hn,h]⟩
 | s::l,t,x,h,hn=>by
  rw [atT] at h
  rw [putT]
  cases hf:findT (mkB s.1) s.2 t.ps with
  | none=>rw [hf] at h;cases h
  | some i =>
   rw [hf] at h
   simp only at h ⊢
   cases hi:t.ps[i]? with
   | none=>rw [hi] at h;cases h
   | some p =>
    rw [hi] at h
    simp only at h ⊢
    obtain ⟨t3,g1,g2,g3⟩:=put_at l p x h hn
    rw [g1,Option.map_some]
    have hil:=(List.getElem?_eq_some_iff.1 hi).1
    refine ⟨_,rfl,?_,rfl⟩
    rw [atT]
    have hm:(t.ps.set i t3).map (fun x=>x.nd.name)=t.ps.map (fun x=>x.nd.name):=List.ext_getElem? fun k=>by
     rw [List.getElem?_map,List.getElem?_map]
     by_cases hk:i=k
     · subst hk
       rw [List.getElem?_set_self hil,hi,Option.map_some,Option.map_some,g3]
     · rw [List.getElem?_set_ne hk]
    show (match findT (mkB s.1) s.2 (t.ps.set i t3) with
     | none=>none
     | some i'=>match (t.ps.set i t3)[i']? with
      | none=>none
      | some p=>atT l p)=_
    rw [find_names _ _ _ _ hm,hf]
    simp only
    rw [List.getElem?_set_self hil]
    exact g2
def renT (nm:ByteArray) (t:Tr):Tr := .mk { t.nd with name:=nm } t.ps
theorem ren_valid {nm:ByteArray} {t:Tr} (h:validT t=true) (hn:nameB nm=true):validT (renT nm t)=true:=by
 cases t with
 | mk n ps =>
  unfold validT renT at *
  simp only [Bool.and_eq_true,decide_eq_true_eq,nodesT_mk,heightT_mk,allT_mk,Tr.nd,Tr.ps] at h ⊢
  refine ⟨h.1,?_,h.2.2⟩
  have:=nodeB_iff.1 h.2.1
  exact nodeB_iff.2 ⟨hn,this.2⟩
theorem ren_small {nm:ByteArray} {t:Tr} (h:allT smallN t=true) (hn:nm.size≤200):allT smallN (renT nm t)=true∧nodesT (renT nm t)=nodesT t:=by
 cases t with
 | mk n ps =>
  unfold renT
  rw [nodesT_mk,nodesT_mk,allT_mk] at *
  rw [Bool.and_eq_true] at h ⊢
  refine ⟨⟨?_,h.2⟩,rfl⟩
  have:=h.1
  unfold smallN at this ⊢
  simp only [Bool.and_eq_true,decide_eq_true_eq] at this ⊢
  exact ⟨hn,this.2⟩
theorem walk_mem {p:Nd→Bool} {t:Tr} (h:allT p t=true):∀ path,∀ q∈walkT t path,allT p q.2=true∧nodesT q.2≤nodesT t:=by
 revert h
 refine Tr.ind (p:=fun t=>allT p t=true→∀ path,∀ q∈walkT t path,allT p q.2=true∧nodesT q.2≤nodesT t) ?_ t
 intro n ps ih h path q hq
 rw [walkT_mk] at hq
 have h':=h
 rw [allT_mk,Bool.and_eq_true,List.all_eq_true] at h'
 rcases List.mem_cons.1 hq with rfl | hq
 · exact ⟨h,Nat.le_refl _⟩
 · obtain ⟨l,hl,hq⟩:=List.mem_flatten.1 hq
   obtain ⟨k,hk⟩:=List.getElem?_of_mem hl
   have hlen:k < ps.length:=by
    have:=(List.getElem?_eq_some_iff.1 hk).1
    rwa [partsW_len] at this
   obtain ⟨x,hx⟩:=getElem?_lt hlen
   rw [partsW_get hx] at hk
   injection hk with hk
   rw [← hk] at hq
   obtain ⟨g1,g2⟩:=ih x (List.mem_of_getElem? hx) (h'.2 x (List.mem_of_getElem? hx)) _ q hq
   have:=(nodesT_ps (Tr.mk n ps)).2 x (List.mem_of_getElem? hx)
   exact ⟨g1,by omega⟩
theorem sum_bound {f g:Tr→Nat}:∀ {ps:List Tr},(∀ x∈ps,f x≤g x)→(ps.map f).sum≤(ps.map g).sum
 | [],_=>Nat.le_refl _
 | p::ps,h=>by
  rw [List.map_cons,List.map_cons,List.sum_cons,List.sum_cons]
  have h1:=h p (List.mem_cons_self ..)
  have h2:=sum_bound (ps:=ps) fun x hx=>h x (List.mem_cons_of_mem _ hx)
  omega
theorem sum_mul (c:Nat) (f:Tr→Nat):∀ (ps:List Tr),(ps.map fun x=>c*f x).sum=c*(ps.map f).sum
 | []=>by simp
 | p::ps=>by
  rw [List.map_cons,List.map_cons,List.sum_cons,List.sum_cons,sum_mul c f ps,Nat.mul_add]
theorem join_len (f:Tr→List UInt8):∀ (ps:List Tr),(joinP (ps.map f)).length≤2+(ps.map fun x=>(f x).length+1).sum
 | []=>Nat.zero_le _
 | p::ps=>by
  have key:∀ (l:List Tr),((l.map f).flatMap (fun x=>32::x)).length=(l.map fun x=>(f x).length+1).sum:=by
   intro l
   induction l with
   | nil=>rfl
   | cons a l ih =>
    rw [List.map_cons,List.flatMap_cons,List.length_append,ih,List.map_cons,List.sum_cons,List.length_cons]
  show (40::(f p++((ps.map f).flatMap (fun x=>32::x)++[41]))).length≤_
  rw [List.length_cons,List.length_append,List.length_append,key,List.map_cons,List.sum_cons,List.length_singleton]
  omega
theorem hdrs_len:∀ (l:List (ByteArray×ByteArray)),l.all smallH=true→(l.flatMap hdrL).length≤803*l.length
 | [],_=>Nat.zero_le _
 | h::l,hs=>by
  rw [List.all_cons,Bool.and_eq_true] at hs
  have:=hdrs_len l hs.2
  have h1:=hs.1
  unfold smallH at h1
  simp only [Bool.and_eq_true,decide_eq_true_eq] at h1
  have e1:=Go.Lib.size_eq h.1
  have e2:=Go.Lib.size_eq h.2
  have he:(hdrL h).length=1+(2*h.1.data.toList.length+(1+(2*h.2.data.toList.length+1))):=by
   unfold hdrL
   rw [List.length_cons,List.length_append,List.length_cons,List.length_append,hexL_len,hexL_len,List.length_singleton]
   omega
  rw [List.flatMap_cons,List.length_append,List.length_cons,he]
  omega
theorem node_len {n:Nd} (h1:nodeB n=true) (h2:smallN n=true):(nodeL n).length≤99000:=by
 obtain ⟨a1,a2,a3,a4,a5,a6⟩:=nodeB_iff.1 h1
 unfold smallN at h2
 simp only [Bool.and_eq_true,decide_eq_true_eq] at h2
 obtain ⟨b1,b2,b3,b4⟩:=h2
 have c1:=hdrs_len n.hdrs b4
 have c2:(intL n.int).length≤13:=by
  unfold intL
  split
  · exact Nat.zero_le _
  · rw [List.length_cons,itoa_pos (by omega)]
    have:=decD_small 11 n.int.toNat (by omega)
    omega
 have c3:(bytL n.bytes).length≤401:=by
  unfold bytL
  split
  · exact Nat.zero_le _
  · rw [List.length_cons,hexL_len]
    omega
 have e1:=Go.Lib.size_eq n.name
 unfold nodeL
 rw [List.length_append,List.length_append,List.length_append]
 omega
theorem text_len (t:Tr):allT nodeB t=true→allT smallN t=true→(textT t).length+1≤100000*nodesT t:=by
 refine Tr.ind (p:=fun t=>allT nodeB t=true→allT smallN t=true→(textT t).length+1≤100000*nodesT t) ?_ t
 intro n ps ih h1 h2
 rw [allT_mk,Bool.and_eq_true,List.all_eq_true] at h1 h2
 rw [textT_mk,nodesT_mk,List.length_append]
 have a:=node_len h1.1 h2.1
 have b:=join_len textT ps
 have c:=sum_bound (ps:=ps) (f:=fun x=>(textT x).length+1) (g:=fun x=>100000*nodesT x) fun x hx=>ih x hx (h1.2 x hx) (h2.2 x hx)
 rw [sum_mul] at c
 omega
theorem walk_path (t:Tr):∀ (path:List UInt8),allT nodeB t=true→fitT t=true→∀ q∈walkT t path,q.1.length≤path.length+101*heightT t∧heightT q.2≤heightT t:=by
 refine Tr.ind (p:=fun t=>∀ (path:List UInt8),allT nodeB t=true→fitT t=true→∀ q∈walkT t path,q.1.length≤path.length+101*heightT t∧heightT q.2≤heightT t) ?_ t
 intro n ps ih path h1 hf q hq
 rw [walkT_mk] at hq
 rcases List.mem_cons.1 hq with rfl | hq
 · exact ⟨Nat.le_add_right _ _,Nat.le_refl _⟩
 · obtain ⟨l,hl,hq⟩:=List.mem_flatten.1 hq
   obtain ⟨k,hk⟩:=List.getElem?_of_mem hl
   have hlen:k < ps.length:=by
    have:=(List.getElem?_eq_some_iff.1 hk).1
    rwa [partsW_len] at this
   obtain ⟨x,hx⟩:=getElem?_lt hlen
   rw [partsW_get hx] at hk
   injection hk with hk
   rw [← hk] at hq
   rw [allT_mk,Bool.and_eq_true,List.all_eq_true] at h1
   have hxm:=List.mem_of_getElem? hx
   have hnx:=h1.2 x hxm
   have hnb:nameB x.nd.name=true:=by
    cases x with
    | mk n2 ps2 =>
     rw [allT_mk,Bool.and_eq_true] at hnx
     exact (nodeB_iff.1 hnx.1).1
   obtain ⟨_,_,hf3,hf4⟩:=fitT_mk hf
   obtain ⟨g1,g2⟩:=ih x hxm _ hnx (hf4 x hxm) q hq
   have hb:(belowB path ps k x).length≤path.length+101:=below_len hnb hf3
   have hm:=(foldr_max_le (l:=ps.map heightT) (m:=(ps.map heightT).foldr max 0)).1 (Nat.le_refl _) _ (List.mem_map_of_mem hxm)
   rw [heightT_mk]
   change q.1.length≤(belowB path ps k x).length+101*heightT x at g1
   exact ⟨by omega,by omega⟩
theorem Lasts7.mapS {m:Nat} {M:List (ByteArray×Value×Nat)} {c:Nat}:Lasts7 (fun V w=>¬ V m∧MapS w m M c):=fun V V' w w' hl ⟨h1,h2⟩=>by
 have:=Lasts7.has (b:=m) _ _ _ _ hl ⟨h1,h2.obj⟩
 exact ⟨this.1,h2.of_obj (this.2.trans h2.obj.symm)⟩
def SeenK (L:List (List UInt8×Tr)) (k:Nat) (M:List (ByteArray×Value×Nat)):Prop:=M.length=k∧∀ (j:Nat) (q:List UInt8×Tr),L[j]?=some q→Sw.look M (mkB q.1)=if j < k then some (.bool true) else none
def ViI (W A:World) (lo hi p2 p3 p4 p9 m:Nat) (c2 c3:Array Value) (L:List (List UInt8×Tr)) (k:Nat) (V:Bks) (u:World):Prop :=
 (Ext W u∧∀ b,V b→W.heap.size≤b)∧((∀ b,lo≤b→b < hi→¬ V b∧u.heap[b]?=A.heap[b]?)∧hi≤u.heap.size)∧(¬ V p2∧u.heap[p2]?=some (.cells c2 26 (0,0)))∧(¬ V p3∧u.heap[p3]?=some (.cells c3 26 (0,0)))∧(¬ V p4∧u.heap[p4]?=some (.cells #[.bool false] 4 (0,0)))∧(¬ V p9∧u.heap[p9]?=some (.cells #[.map (some m)] 52 (0,0)))∧∃ M c,(¬ V m∧MapS u m M c)∧SeenK L k M
theorem ViI.lasts (W A:World) (lo hi p2 p3 p4 p9 m:Nat) (c2 c3:Array Value) (L:List (List UInt8×Tr)) (k:Nat):Lasts7 (ViI W A lo hi p2 p3 p4 p9 m c2 c3 L k):=Lasts7.from.and (Lasts7.reg.and (Lasts7.has.and (Lasts7.has.and (Lasts7.has.and (Lasts7.has.and (.ex fun M => .ex fun c=>Lasts7.mapS.and (Lasts7.const _)))))))
theorem SeenK.put {L:List (List UInt8×Tr)} {k:Nat} {M:List (ByteArray×Value×Nat)} (h:SeenK L k M) (c:Nat) {q:List UInt8×Tr} (hq:L[k]?=some q) (hinj:∀ (i j:Nat) (a b:List UInt8×Tr),L[i]?=some a→L[j]?=some b→a.1=b.1→i=j):SeenK L (k+1) (putL M c (mkB q.1) (.bool true)):=by
 obtain ⟨h1,h2⟩:=h
 have hn:Sw.look M (mkB q.1)=none:=by rw [h2 k q hq,if_neg (Nat.lt_irrefl k)]
 refine ⟨?_,fun j r hr=>?_⟩
 · have hk:hasK M (mkB q.1)=false:=by rw [hasK_look,hn];rfl
   unfold putL
   rw [hk,if_neg (by decide),List.length_append,h1]
   rfl
 · rw [look_put]
   by_cases he:mkB r.1=mkB q.1
   · have:r.1=q.1:=by
      have:=congrArg (fun b:ByteArray=>b.data.toList) he
      simpa [mkB_data] using this
     have hjk:=hinj j k r q hr hq this
     rw [if_pos he,if_pos (by omega)]
   · have hjk:j≠k:=fun e=>by
      subst e
      rw [hq] at hr
      injection hr with hr
      exact he (by rw [hr])
     rw [if_neg he,h2 j r hr]
     by_cases hj:j < k
     · rw [if_pos hj,if_pos (by omega)]
     · rw [if_neg hj,if_neg (by omega)]
theorem ViI.put {W A:World} {lo hi p2 p3 p4 p9 m k:Nat} {c2 c3:Array Value} {L:List (List UInt8×Tr)} {V:Bks} {u:World} {M:List (ByteArray×Value×Nat)} {c:Nat} (H:ViI W A lo hi p2 p3 p4 p9 m c2 c3 L k V u) (hM:MapS u m M c) (hS:SeenK L k M) (hV:¬ V m) {q:List UInt8×Tr} (hq:L[k]?=some q) (hinj:∀ (i j:Nat) (a b:List UInt8×Tr),L[i]?=some a→L[j]?=some b→a.1=b.1→i=j) (hW:W.heap.size≤m) (hr:hi≤m∨m < lo) :
 ViI W A lo hi p2 p3 p4 p9 m c2 c3 L (k+1) V (u.putObj m (mapObjS (putL M c (mkB q.1) (.bool true)) (putC M c (mkB q.1)))):=by
 obtain ⟨⟨a1,a2⟩,⟨b1,b2⟩,⟨d1,d2⟩,⟨e1,e2⟩,⟨f1,f2⟩,⟨g1,g2⟩,_⟩:=H
 have hm:=hM.obj
 have hk:∀ {p:Nat} {cs:Array Value} {T:TypeId},u.heap[p]?=some (.cells cs T (0,0))→(u.putObj m (mapObjS (putL M c (mkB q.1) (.bool true)) (putC M c (mkB q.1)))).heap[p]?=some (.cells cs T (0,0)):=fun {p cs T} h=>(World.putObj_heap_other (fun e=>by subst e;rw [hm] at h;cases h)).trans h
 have hsz:(u.putObj m (mapObjS (putL M c (mkB q.1) (.bool true)) (putC M c (mkB q.1)))).heap.size=u.heap.size:=by simp
 refine ⟨⟨⟨a1.os,a1.tape,a1.output,by rw [hsz];exact a1.size,fun b hb=>(World.putObj_heap_other (by omega)).trans (a1.block b hb)⟩,a2⟩,⟨fun b h1 h2=>⟨(b1 b h1 h2).1,(World.putObj_heap_other (by omega)).trans (b1 b h1 h2).2⟩,by rw [hsz];exact b2⟩,⟨d1,hk d2⟩,⟨e1,hk e2⟩,⟨f1,hk f2⟩,⟨g1,hk g2⟩,_,_,⟨hV,hM.put _ _⟩,hS.put c hq hinj⟩
theorem KR7.putMap {V:Bks} {w:World} {m:Nat} {M:List (ByteArray×Value×Nat)} {c:Nat} (hM:MapS w m M c) (hV:¬ V m) (o:Obj):KR7 V w (w.putObj m o):=KR7.free (KR7.refl V w) (F:=fun b=>b=m) (by simp) (fun b _ h=>World.putObj_heap_other h) (fun b h => .inl (by rw [h];exact hV)) fun b h=>by
 subst h
 have:=hM.obj
 exact ⟨fun r e=>(by rw [this] at e;cases e),fun d e=>(by rw [this] at e;cases e)⟩
theorem set_small {t to:Tr} {s:List UInt8} (h:allT smallN t=true) (hn:nodesT t≤200) (g:allT smallN to=true) (gn:nodesT to≤200):allT smallN (setE t to s).2=true∧nodesT (setE t to s).2≤400:=by
 have hz:allT smallN tr0=true∧nodesT tr0≤400:=⟨zero_small.1,by have:=zero_small.2;omega⟩
 have key:∀ (l:List Stp) (t t3:Tr),allT smallN t=true→putT to l t=some t3→allT smallN t3=true:=by
  intro l
  induction l with
  | nil=>intro t t3 _ h;injection h with h;rw [← h];exact g
  | cons x l ih =>
   intro t t3 ht h
   rw [putT] at h
   cases hf:findT (mkB x.1) x.2 t.ps with
   | none=>rw [hf] at h;cases h
   | some i =>
    rw [hf] at h
    simp only at h
    cases hi:t.ps[i]? with
    | none=>rw [hi] at h;cases h
    | some p =>
     rw [hi] at h
     simp only at h
     obtain ⟨q,hq,rfl⟩:=Option.map_eq_some_iff.1 h
     have hq2:=ih p q (part_small ht (List.mem_of_getElem? hi)) hq
     cases t with
     | mk n ps =>
      rw [allT_mk,Bool.and_eq_true,List.all_eq_true] at ht ⊢
      refine ⟨ht.1,fun y hy=>?_⟩
      rcases List.mem_or_eq_of_mem_set hy with hy | rfl
      · exact ht.2 y hy
      · exact hq2
 unfold setE
 split
 · cases stepsP s with
   | none=>exact hz
   | some l =>
    simp only
    cases hp:putT to l t with
    | none=>exact hz
    | some t3 =>
     simp only
     split
     · exact ⟨key l t t3 h hp,by have:=put_nodes to l t t3 hp;show nodesT t3≤400;omega⟩
     · exact hz
 · exact hz
theorem small_of4 {t:Tr} (h2:allT smallN t=true) (h1:nodesT t≤400):shortT t=true∧fitT t=true∧hdrsT t≤44000:=by
 have h3:=hdrs_small t h2
 refine ⟨allT_imp (fun n hn=>?_) t h2,?_,by omega⟩
 · unfold smallN at hn
   unfold shortN
   simp only [Bool.and_eq_true,decide_eq_true_eq,List.all_eq_true] at hn ⊢
   refine ⟨⟨by omega,by omega⟩,fun x hx=>?_⟩
   have:=hn.2.2.2 x hx
   unfold smallH at this
   simp only [Bool.and_eq_true,decide_eq_true_eq] at this
   omega
 · unfold fitT
   rw [Bool.and_eq_true,decide_eq_true_eq]
   refine ⟨allT_imp (fun n hn=>?_) t h2,by omega⟩
   unfold smallN at hn
   unfold fitN
   simp only [Bool.and_eq_true,decide_eq_true_eq] at hn ⊢
   omega
def n8c1 (t4 t17 t131:Value) (K7:World→Prop) (Qr6:List PanicEntry→World→Prop) (Xr6:Nat→World→Prop) (R:RT) (w:World):Prop :=
 opV Pg (Instr.extract t131 0) Qr6 w fun t132 w =>
 opV Pg (Instr.extract t131 1) Qr6 w fun t133 w =>
 opV Pg (Instr.alloc 26 true (.tuple #[])) Qr6 w fun t20 w =>
 opU Pg (Instr.storeAt 26 t20 t132) Qr6 w fun w =>
 opV Pg (binS .neq 33 true t133 (.int .i64 0)) Qr6 w fun t135 w =>
 joinK (fun (t140:Value) (w:World) =>
 pickK t135 (.bool true) t140 fun t141 =>
 condP t141 (
 opU Pg (Instr.storeAt 4 t4 (.bool false)) Qr6 w fun w =>
 Xr6 0 w) (
 K7 w)) fun K12 =>
 guardP t135 false (
 opV Pg (Instr.loadAt 26 t20) Qr6 w fun t137 w =>
 opV Pg (Instr.loadAt 26 t17) Qr6 w fun t138 w =>
 callK Pg 12 #[t137,t138] Qr6 w fun t139 w =>
 opV Pg (Op.unary .not t139) Qr6 w fun t140 w =>
 K12 t140 w) (
 K12 undef w)
def n8c2 (t4 t17 t69 t121:Value) (K7:World→Prop) (Qr6:List PanicEntry→World→Prop) (Xr6:Nat→World→Prop) (R:RT) (w:World):Prop :=
 opV Pg (Instr.extract t121 0) Qr6 w fun t122 w =>
 opV Pg (Instr.extract t121 1) Qr6 w fun t123 w =>
 opV Pg (Instr.alloc 26 true (.tuple #[])) Qr6 w fun t18 w =>
 opU Pg (Instr.storeAt 26 t18 t122) Qr6 w fun w =>
 opV Pg (binS .neq 33 true t123 (.int .i64 0)) Qr6 w fun t125 w =>
 condP t125 (
 opV Pg (binS .neq 33 true t123 (.int .i64 3)) Qr6 w fun t127 w =>
 condP t127 (
 opU Pg (Instr.storeAt 4 t4 (.bool false)) Qr6 w fun w =>
 Xr6 0 w) (
 K7 w)) (
 opV Pg (Instr.loadAt 26 t18) Qr6 w fun t129 w =>
 callK Pg 27 #[t129,t69] Qr6 w fun t131 w =>
 n8c1 t4 t17 t131 K7 Qr6 Xr6 R w)
def n8c3 (t2 t4 t17 t69:Value) (K7:World→Prop) (Qr6:List PanicEntry→World→Prop) (Xr6:Nat→World→Prop) (R:RT) (w:World):Prop :=
 opV Pg (Instr.loadAt 26 t2) Qr6 w fun t118 w =>
 opV Pg (Instr.loadAt 26 t17) Qr6 w fun t120 w =>
 callK Pg 20 #[t118,t69,t120] Qr6 w fun t121 w =>
 n8c2 t4 t17 t69 t121 K7 Qr6 Xr6 R w
def n8c4 (t2 t4 t9 t12 t69 t110:Value) (K7:World→Prop) (Qr6:List PanicEntry→World→Prop) (Xr6:Nat→World→Prop) (R:RT) (w:World):Prop :=
 opV Pg (Instr.alloc 26 true (.tuple #[])) Qr6 w fun t17 w =>
 opU Pg (Instr.storeAt 26 t17 t110) Qr6 w fun w =>
 opV Pg (Instr.fieldAt 26 t12 0) Qr6 w fun t111 w =>
 opV Pg (Instr.loadAt 9 t111) Qr6 w fun t112 w =>
 opV Pg (Instr.fieldAt 26 t17 0) Qr6 w fun t113 w =>
 opU Pg (Instr.storeAt 9 t113 t112) Qr6 w fun w =>
 opV Pg (Instr.loadAt 52 t9) Qr6 w fun t114 w =>
 opV Pg (Builtin.len_ #[52] 3 #[t114]) Qr6 w fun t115 w =>
 opV Pg (binS .gtr 3 true t115 (.int .i64 20)) Qr6 w fun t116 w =>
 condP t116 (
 K7 w) (
 n8c3 t2 t4 t17 t69 K7 Qr6 Xr6 R w)
def n8c5 (t2 t3 t4 t9 t12 t69:Value) (K7:World→Prop) (Qr6:List PanicEntry→World→Prop) (Xr6:Nat→World→Prop) (R:RT) (w:World):Prop :=
 opV Pg (Instr.loadAt 52 t9) Qr6 w fun t107 w =>
 opU Pg (Instr.mapUpdate 52 t107 t69 (.bool true)) Qr6 w fun w =>
 opV Pg (Instr.loadAt 26 t3) Qr6 w fun t109 w =>
 callK Pg 16 #[t109] Qr6 w fun t110 w =>
 n8c4 t2 t4 t9 t12 t69 t110 K7 Qr6 Xr6 R w
def n8c6 (t2 t3 t4 t9 t12 t69 t100 t105:Value) (K7:World→Prop) (Qr6:List PanicEntry→World→Prop) (Xr6:Nat→World→Prop) (R:RT) (w:World):Prop :=
 pickK t100 (.bool true) t105 fun t106 =>
 condP t106 (
 opU Pg (Instr.storeAt 4 t4 (.bool false)) Qr6 w fun w =>
 Xr6 0 w) (
 n8c5 t2 t3 t4 t9 t12 t69 K7 Qr6 Xr6 R w)
def n8c7 (t2 t3 t4 t9 t12 t15 t69 t94 t99:Value) (K7:World→Prop) (Qr6:List PanicEntry→World→Prop) (Xr6:Nat→World→Prop) (R:RT) (w:World):Prop :=
 pickK t94 (.bool true) t99 fun t100 =>
 joinK (fun (t105:Value) (w:World) =>
 n8c6 t2 t3 t4 t9 t12 t69 t100 t105 K7 Qr6 Xr6 R w) fun K11 =>
 guardP t100 false (
 opV Pg (Instr.loadAt 26 t15) Qr6 w fun t102 w =>
 opV Pg (Instr.loadAt 26 t2) Qr6 w fun t103 w =>
 callK Pg 12 #[t102,t103] Qr6 w fun t104 w =>
 opV Pg (Op.unary .not t104) Qr6 w fun t105 w =>
 K11 t105 w) (
 K11 undef w)
def n8c8 (t2 t3 t4 t9 t12 t13 t15 t69 t89 t93:Value) (K7:World→Prop) (Qr6:List PanicEntry→World→Prop) (Xr6:Nat→World→Prop) (R:RT) (w:World):Prop :=
 pickK t89 (.bool true) t93 fun t94 =>
 joinK (fun (t99:Value) (w:World) =>
 n8c7 t2 t3 t4 t9 t12 t15 t69 t94 t99 K7 Qr6 Xr6 R w) fun K10 =>
 guardP t94 false (
 opV Pg (Instr.loadAt 26 t12) Qr6 w fun t96 w =>
 opV Pg (Instr.loadAt 26 t13) Qr6 w fun t97 w =>
 callK Pg 12 #[t96,t97] Qr6 w fun t98 w =>
 opV Pg (Op.unary .not t98) Qr6 w fun t99 w =>
 K10 t99 w) (
 K10 undef w)
def n8c9 (t2 t3 t4 t9 t12 t13 t15 t69 t85 t88:Value) (K7:World→Prop) (Qr6:List PanicEntry→World→Prop) (Xr6:Nat→World→Prop) (R:RT) (w:World):Prop :=
 pickK t85 (.bool true) t88 fun t89 =>
 joinK (fun (t93:Value) (w:World) =>
 n8c8 t2 t3 t4 t9 t12 t13 t15 t69 t89 t93 K7 Qr6 Xr6 R w) fun K9 =>
 guardP t89 false (
 opV Pg (Instr.loadAt 52 t9) Qr6 w fun t91 w =>
 opV Pg (Instr.lookup 52 t91 t69 false) Qr6 w fun t93 w =>
 K9 t93 w) (
 K9 undef w)
def n8c10 (t2 t3 t4 t9 t12 t13 t69 t76 t81:Value) (K7:World→Prop) (Qr6:List PanicEntry→World→Prop) (Xr6:Nat→World→Prop) (R:RT) (w:World):Prop :=
 opV Pg (Instr.extract t81 0) Qr6 w fun t82 w =>
 opV Pg (Instr.extract t81 1) Qr6 w fun t83 w =>
 opV Pg (Instr.alloc 26 true (.tuple #[])) Qr6 w fun t15 w =>
 opU Pg (Instr.storeAt 26 t15 t82) Qr6 w fun w =>
 opV Pg (binS .neq 33 true t76 (.int .i64 0)) Qr6 w fun t85 w =>
 joinK (fun (t88:Value) (w:World) =>
 n8c9 t2 t3 t4 t9 t12 t13 t15 t69 t85 t88 K7 Qr6 Xr6 R w) fun K8 =>
 guardP t85 false (
 opV Pg (binS .neq 33 true t83 (.int .i64 0)) Qr6 w fun t88 w =>
 K8 t88 w) (
 K8 undef w)
def n8c11 (t2 t3 t4 t9 t12 t69 t74:Value) (K7:World→Prop) (Qr6:List PanicEntry→World→Prop) (Xr6:Nat→World→Prop) (R:RT) (w:World):Prop :=
 opV Pg (Instr.extract t74 0) Qr6 w fun t75 w =>
 opV Pg (Instr.extract t74 1) Qr6 w fun t76 w =>
 opV Pg (Instr.alloc 26 true (.tuple #[])) Qr6 w fun t13 w =>
 opU Pg (Instr.storeAt 26 t13 t75) Qr6 w fun w =>
 opV Pg (Instr.loadAt 26 t2) Qr6 w fun t78 w =>
 opV Pg (Instr.loadAt 26 t12) Qr6 w fun t80 w =>
 callK Pg 20 #[t78,t69,t80] Qr6 w fun t81 w =>
 n8c10 t2 t3 t4 t9 t12 t13 t69 t76 t81 K7 Qr6 Xr6 R w
def n8c12 (t2 t3 t4 t9 t12 t69:Value) (Kr6:World→Prop) (Qr6:List PanicEntry→World→Prop) (Xr6:Nat→World→Prop) (R:RT) (w:World):Prop :=
 joinK (fun (w:World) =>
 Kr6 w) fun K7 =>
 opV Pg (Instr.loadAt 26 t2) Qr6 w fun t72 w =>
 callK Pg 27 #[t72,t69] Qr6 w fun t74 w =>
 n8c11 t2 t3 t4 t9 t12 t69 t74 K7 Qr6 Xr6 R w
def n8c13 (t2 t3 t4 t9 t69 t70:Value) (Kr6:World→Prop) (Qr6:List PanicEntry→World→Prop) (Xr6:Nat→World→Prop) (l6:Nat) (R:RT) (w:World):Prop :=
 opV Pg (Instr.alloc 26 true (.tuple #[])) (fun _ _=>False) w fun t12 w =>
 opU Pg (Instr.storeAt 26 t12 t70) (fun _ _=>False) w fun w =>
 busyK l6 w fun w =>
 n8c12 t2 t3 t4 t9 t12 t69 Kr6 Qr6 Xr6 R w
def n8c14 (t4 t143 t145:Value) (ds:List Deferred) (R:RT) (w:World):Prop :=
 opV Pg (binS .eql 3 false t143 t145) (outQ Pg ds [(some 4,t4)] R) w fun t146 w =>
 joinK (fun (t148:Value) (w:World) =>
 pickK t146 t148 (.bool false) fun t149 =>
 opU Pg (Instr.storeAt 4 t4 t149) (outQ Pg ds [(some 4,t4)] R) w fun w =>
 outX Pg ds [(some 4,t4)] R w) fun K13 =>
 guardP t146 true (
 callK Pg 11 #[] (outQ Pg ds [(some 4,t4)] R) w fun t148 w =>
 K13 t148 w) (
 K13 undef w)
def n8c15 (t2 t4 t9:Value) (ds:List Deferred) (R:RT) (w:World):Prop :=
 opV Pg (Instr.loadAt 52 t9) (outQ Pg ds [(some 4,t4)] R) w fun t142 w =>
 opV Pg (Builtin.len_ #[52] 3 #[t142]) (outQ Pg ds [(some 4,t4)] R) w fun t143 w =>
 opV Pg (Instr.loadAt 26 t2) (outQ Pg ds [(some 4,t4)] R) w fun t144 w =>
 callK Pg 28 #[t144] (outQ Pg ds [(some 4,t4)] R) w fun t145 w =>
 n8c14 t4 t143 t145 ds R w
def n8c16 (t2 t3 t4 t9 t65:Value) (ds:List Deferred) (R:RT) (w:World):Prop :=
 Sw.rangeN7 Pg t65 ds (fun l6 t69 t70 w Kr6 Xr6 Qr6 =>
 n8c13 t2 t3 t4 t9 t69 t70 Kr6 Qr6 Xr6 l6 R w) (fun ch ds w=>outQ Pg ds [(some 4,t4)] R ch w) w (fun ds w =>
 n8c15 t2 t4 t9 ds R w) [fun ds w =>
 outX Pg ds [(some 4,t4)] R w]
def n8c17 (t2 t3 t4 t9 t65:Value) (ds:List Deferred) (R:RT) (w:World):Prop :=
 opV Pg (binS .eql 43 true t65 .nilFunc) (outQ Pg ds [(some 4,t4)] R) w fun t67 w =>
 condP t67 (
 opU Pg (Instr.storeAt 4 t4 (.bool false)) (outQ Pg ds [(some 4,t4)] R) w fun w =>
 outX Pg ds [(some 4,t4)] R w) (
 n8c16 t2 t3 t4 t9 t65 ds R w)
def n8c18 (t2 t3 t4:Value) (ds:List Deferred) (R:RT) (w:World):Prop :=
 opV Pg (Instr.makeMap 52 none) (outQ Pg ds [(some 4,t4)] R) w fun t63 w =>
 opV Pg (Instr.alloc 52 true (.tuple #[])) (outQ Pg ds [(some 4,t4)] R) w fun t9 w =>
 opU Pg (Instr.storeAt 52 t9 t63) (outQ Pg ds [(some 4,t4)] R) w fun w =>
 opV Pg (Instr.loadAt 26 t2) (outQ Pg ds [(some 4,t4)] R) w fun t64 w =>
 callK Pg 22 #[t64] (outQ Pg ds [(some 4,t4)] R) w fun t65 w =>
 n8c17 t2 t3 t4 t9 t65 ds R w
def n8c19 (t2 t3 t4 t56 t61:Value) (ds:List Deferred) (R:RT) (w:World):Prop :=
 pickK t56 (.bool true) t61 fun t62 =>
 condP t62 (
 opU Pg (Instr.storeAt 4 t4 (.bool false)) (outQ Pg ds [(some 4,t4)] R) w fun w =>
 outX Pg ds [(some 4,t4)] R w) (
 n8c18 t2 t3 t4 ds R w)
def n8c20 (t2 t3 t4 t7 t52 t55:Value) (ds:List Deferred) (R:RT) (w:World):Prop :=
 pickK t52 (.bool true) t55 fun t56 =>
 joinK (fun (t61:Value) (w:World) =>
 n8c19 t2 t3 t4 t56 t61 ds R w) fun K5 =>
 guardP t56 false (
 opV Pg (Instr.loadAt 26 t2) (outQ Pg ds [(some 4,t4)] R) w fun t58 w =>
 opV Pg (Instr.loadAt 26 t7) (outQ Pg ds [(some 4,t4)] R) w fun t59 w =>
 callK Pg 12 #[t58,t59] (outQ Pg ds [(some 4,t4)] R) w fun t60 w =>
 opV Pg (Op.unary .not t60) (outQ Pg ds [(some 4,t4)] R) w fun t61 w =>
 K5 t61 w) (
 K5 undef w)
def n8c21 (t2 t3 t4 t45 t48:Value) (ds:List Deferred) (R:RT) (w:World):Prop :=
 opV Pg (Instr.extract t48 0) (outQ Pg ds [(some 4,t4)] R) w fun t49 w =>
 opV Pg (Instr.extract t48 1) (outQ Pg ds [(some 4,t4)] R) w fun t50 w =>
 opV Pg (Instr.alloc 26 true (.tuple #[])) (outQ Pg ds [(some 4,t4)] R) w fun t7 w =>
 opU Pg (Instr.storeAt 26 t7 t49) (outQ Pg ds [(some 4,t4)] R) w fun w =>
 opV Pg (binS .neq 33 true t45 (.int .i64 0)) (outQ Pg ds [(some 4,t4)] R) w fun t52 w =>
 joinK (fun (t55:Value) (w:World) =>
 n8c20 t2 t3 t4 t7 t52 t55 ds R w) fun K4 =>
 guardP t52 false (
 opV Pg (binS .neq 33 true t50 (.int .i64 0)) (outQ Pg ds [(some 4,t4)] R) w fun t55 w =>
 K4 t55 w) (
 K4 undef w)
def n8c22 (t2 t3 t4 t43:Value) (ds:List Deferred) (R:RT) (w:World):Prop :=
 opV Pg (Instr.extract t43 0) (outQ Pg ds [(some 4,t4)] R) w fun t44 w =>
 opV Pg (Instr.extract t43 1) (outQ Pg ds [(some 4,t4)] R) w fun t45 w =>
 callK Pg 18 #[t44] (outQ Pg ds [(some 4,t4)] R) w fun t48 w =>
 n8c21 t2 t3 t4 t45 t48 ds R w
def n8c23 (t4:Value) (ds:List Deferred) (R:RT) (w:World):Prop :=
 callK Pg 11 #[] (outQ Pg ds [(some 4,t4)] R) w fun t40 w =>
 opU Pg (Instr.storeAt 4 t4 t40) (outQ Pg ds [(some 4,t4)] R) w fun w =>
 outX Pg ds [(some 4,t4)] R w
def n8c24 (t2 t3 t4:Value) (ds:List Deferred) (R:RT) (w:World):Prop :=
 opV Pg (Instr.loadAt 26 t2) (outQ Pg ds [(some 4,t4)] R) w fun t42 w =>
 callK Pg 26 #[t42] (outQ Pg ds [(some 4,t4)] R) w fun t43 w =>
 n8c22 t2 t3 t4 t43 ds R w
def n8c25 (t2 t3 t4 t29 t33:Value) (ds:List Deferred) (R:RT) (w:World):Prop :=
 pickK t29 (.bool true) t33 fun t34 =>
 joinK (fun (t38:Value) (w:World) =>
 pickK t34 (.bool true) t38 fun t39 =>
 condP t39 (
 n8c23 t4 ds R w) (
 n8c24 t2 t3 t4 ds R w)) fun K3 =>
 guardP t34 false (
 opV Pg (Instr.loadAt 26 t3) (outQ Pg ds [(some 4,t4)] R) w fun t36 w =>
 callK Pg 25 #[t36] (outQ Pg ds [(some 4,t4)] R) w fun t37 w =>
 opV Pg (Op.unary .not t37) (outQ Pg ds [(some 4,t4)] R) w fun t38 w =>
 K3 t38 w) (
 K3 undef w)
def n8c26 (t2 t3 t4 t24 t28:Value) (ds:List Deferred) (R:RT) (w:World):Prop :=
 pickK t24 (.bool true) t28 fun t29 =>
 joinK (fun (t33:Value) (w:World) =>
 n8c25 t2 t3 t4 t29 t33 ds R w) fun K2 =>
 guardP t29 false (
 opV Pg (Instr.loadAt 26 t2) (outQ Pg ds [(some 4,t4)] R) w fun t31 w =>
 callK Pg 25 #[t31] (outQ Pg ds [(some 4,t4)] R) w fun t32 w =>
 opV Pg (Op.unary .not t32) (outQ Pg ds [(some 4,t4)] R) w fun t33 w =>
 K2 t33 w) (
 K2 undef w)
def n8c27 (t2 t3 t4 t23:Value) (ds:List Deferred) (R:RT) (w:World):Prop :=
 opV Pg (Op.unary .not t23) (outQ Pg ds [(some 4,t4)] R) w fun t24 w =>
 joinK (fun (t28:Value) (w:World) =>
 n8c26 t2 t3 t4 t24 t28 ds R w) fun K1 =>
 guardP t24 false (
 opV Pg (Instr.loadAt 26 t3) (outQ Pg ds [(some 4,t4)] R) w fun t26 w =>
 callK Pg 10 #[t26] (outQ Pg ds [(some 4,t4)] R) w fun t27 w =>
 opV Pg (Op.unary .not t27) (outQ Pg ds [(some 4,t4)] R) w fun t28 w =>
 K1 t28 w) (
 K1 undef w)
def n8 (t0 t1:Value) (R:RT) (w:World):Prop :=
 (fun (ds:List Deferred) =>
 opV Pg (Instr.box 26 t0) (outQ Pg ds [(some 4,undef)] R) w fun t2 w =>
 opV Pg (Instr.box 26 t1) (outQ Pg ds [(some 4,undef)] R) w fun t3 w =>
 opV Pg (Instr.alloc 4 true (.tuple #[])) (outQ Pg ds [(some 4,undef)] R) w fun t4 w =>
 opV Pg (Instr.loadAt 26 t2) (outQ Pg ds [(some 4,t4)] R) w fun t22 w =>
 callK Pg 10 #[t22] (outQ Pg ds [(some 4,t4)] R) w fun t23 w =>
 n8c27 t2 t3 t4 t23 ds R w) []
set_option maxHeartbeats 40000000 in
theorem n8s {t0 t1:Value} {R:RT} {w:World} (h:n8 t0 t1 R w):Calls Pg 7 #[t0,t1] w R:=by
 refine yE Tryz.func7 ?_
 unfold n8 at h
 dsimp only at h
 refine zs<|zr<|yv h fun _ w h=>yv h fun _ w h=>yv h fun _ w h=>zn<|zk<|zs<|zs<|sim_regionG<|yG 4<|yv h fun _ w h=>yc h c10 fun _ w h=>yv h fun _ w h=>zm ?_
 refine zn<|yg1 3 3 false [26,27,28] 28 h (fun _ T hT h=>?_) fun σ w h=>?_
 · refine yv h fun _ w h=>yc h c10 fun _ w h=>yv h fun _ w h=>zn ?_
   exact zt hT h
 refine yG 2<|yp h fun _ h=>zm<|zn<|yg1 3 8 false [31,32,33] 33 h (fun _ T hT h=>?_) fun σ w h=>?_
 · refine yv h fun _ w h=>yc h c25 fun _ w h=>yv h fun _ w h=>zn ?_
   exact zt hT h
 refine yG 2<|yp h fun _ h=>zm<|zn<|yg1 3 13 false [36,37,38] 38 h (fun _ T hT h=>?_) fun σ w h=>?_
 · refine yv h fun _ w h=>yc h c25 fun _ w h=>yv h fun _ w h=>zn ?_
   exact zt hT h
 refine yG 1<|yp h fun _ h=>zn<|sim_end<|zk<|yC h (fun h=>zs<|zr<|yc h c11 fun _ w h=>yu h fun w h=>zn<|zk<|sim_ret<|sim_then_ret<|bodyM_ret rfl h) fun h=>sim_skip<|zk<|zs<|zr<|yv h fun _ w h=>yc h c26 fun _ w h=>zm<|yv h fun _ w h=>?_
 refine yv h fun _ w h=>zm<|zm<|zn<|zk<|zs<|zr<|zm<|yc h c18 fun _ w h=>zm<|yv h fun _ w h=>yv h fun _ w h=>yv h fun _ w h=>yu h fun w h=>zm ?_
 refine zn<|zk<|zs<|zs<|sim_regionG<|yG 3<|zm<|yb h fun _ w h=>zm<|zn<|yg1 2 2 false [54,55] 55 h (fun _ T hT h=>?_) fun σ w h=>?_
 · refine zm<|yb h fun _ w h=>zn ?_
   exact zt hT h
 refine yG 2<|yp h fun _ h=>zm<|zn<|yg1 4 6 false [58,59,60,61] 61 h (fun _ T hT h=>?_) fun σ w h=>?_
 · refine yv h fun _ w h=>yv h fun _ w h=>yc h c12 fun _ w h=>yv h fun _ w h=>zn ?_
   exact zt hT h
 refine yG 1<|yp h fun _ h=>zn<|sim_end<|zk<|yC h (fun h=>zs<|zr<|yu h fun w h=>zn<|zk<|sim_ret<|sim_then_ret<|bodyM_ret rfl h) fun h=>sim_skip<|zk<|zs<|zr<|yv h fun _ w h=>yv h fun _ w h=>yu h fun w h=>zn ?_
 refine zk<|zs<|zr<|yv h fun _ w h=>yc h c22 fun _ w h=>zm<|zn<|zk<|zs<|zs<|zr<|zm<|yb h fun _ w h=>zn<|zk ?_
 refine yC h (fun h=>zs<|zr<|yu h fun w h=>zn<|zk<|sim_ret<|sim_then_ret<|bodyM_ret rfl h) fun h=>sim_skip<|zk<|zs<|zs<|zr<|zm<|zn<|zk<|sim_block<|sim_range7 [.ret] h rfl (fun l6 t69 t70 w Kr6 Xr6 Qr6 h=>?_) (fun ds w h=>?_) (fun c ds w h=>?_) (fun ch ds w h=>outQ_of rfl h)
 · refine zs<|zr<|zm<|zn<|zk<|zr<|yv h fun _ w h=>yu h fun w h=>zn<|zk ?_
   obtain ⟨hr,h⟩:=h
   refine ⟨rfl,hr,fun w hb=>?_⟩
   have h:=h w hb
   refine yJ0 [13,14,15,16,17,18,19,20,21,71,72,73,74,75,76,77,78,79,80,81,82,83,84,85,86,87,88,89,90,91,92,93,94,95,96,97,98,99,100,101,102,103,104,105,106,107,108,109,110,111,112,113,114,115,116,117,118,119,120,121,122,123,124,125,126,127,128,129,130,131,132,133,134,135,136,137,138,139,140,141] h (fun _ _ hkK7 h=>?_) fun σ w h=>?_
   · refine sim_block<|zs<|zr<|yv h fun _ w h=>zm<|yc h c27 fun _ w h=>zm<|yv h fun _ w h=>yv h fun _ w h=>yv h fun _ w h=>yu h fun w h=>zm<|zn<|zk<|zs ?_
     refine zr<|yv h fun _ w h=>zm<|yv h fun _ w h=>yc h c20 fun _ w h=>zm<|yv h fun _ w h=>yv h fun _ w h=>yv h fun _ w h=>yu h fun w h=>zm<|zn<|zk<|zs<|zs ?_
     refine sim_regionG<|yG 3<|zm<|yb h fun _ w h=>zm<|zn<|yg1 2 2 false [87,88] 88 h (fun _ T hT h=>?_) fun σ w h=>?_
     · refine zm<|yb h fun _ w h=>zn ?_
       exact zt hT h
     refine yG 2<|yp h fun _ h=>zm<|zn<|yg1 3 6 false [91,92,93] 93 h (fun _ T hT h=>?_) fun σ w h=>?_
     · refine yv h fun _ w h=>zm<|yv h fun _ w h=>zn ?_
       exact zt hT h
     refine yG 2<|yp h fun _ h=>zm<|zn<|yg1 4 11 false [96,97,98,99] 99 h (fun _ T hT h=>?_) fun σ w h=>?_
     · refine yv h fun _ w h=>yv h fun _ w h=>yc h c12 fun _ w h=>yv h fun _ w h=>zn ?_
       exact zt hT h
     refine yG 2<|yp h fun _ h=>zm<|zn<|yg1 4 17 false [102,103,104,105] 105 h (fun _ T hT h=>?_) fun σ w h=>?_
     · refine yv h fun _ w h=>yv h fun _ w h=>yc h c12 fun _ w h=>yv h fun _ w h=>zn ?_
       exact zt hT h
     refine yG 1<|yp h fun _ h=>zn<|sim_end<|zk<|yC h (fun h=>zs<|zr<|yu h fun w h=>zn<|zk<|sim_ret<|sim_then_ret<|sim_block_ret<|sim_then_ret<|⟨rfl,0,rfl,h⟩) fun h=>sim_skip<|zk<|zs<|zr<|yv h fun _ w h=>zm<|yu h fun w h=>zn ?_
     refine zk<|zs<|zr<|yv h fun _ w h=>yc h c16 fun _ w h=>yv h fun _ w h=>yu h fun w h=>zn<|zk<|zs<|zr<|yv h fun _ w h=>yv h fun _ w h=>yv h fun _ w h=>yu h fun w h=>?_
     refine zn<|zk<|zs<|zs<|zr<|yv h fun _ w h=>yx h fun _ w h=>yb h fun _ w h=>zn<|zk<|yC h (fun h=>?_) fun h=>?_
     · refine sim_exit<|sim_then_exit<|sim_block_hit<|zk ?_
       exact zt hkK7 h
     refine sim_skip<|zk<|zs<|zr<|yv h fun _ w h=>zm<|yv h fun _ w h=>yc h c20 fun _ w h=>zm<|yv h fun _ w h=>yv h fun _ w h=>yv h fun _ w h=>yu h fun w h=>zm<|zn ?_
     refine zk<|zs<|zs<|zr<|zm<|yb h fun _ w h=>zn<|zk<|yC h (fun h=>?_) fun h=>?_
     · refine zs<|zs<|zr<|zm<|yb h fun _ w h=>zn<|zk<|yC h (fun h=>zs<|zr<|yu h fun w h=>zn<|zk<|sim_ret<|sim_then_ret<|sim_then_ret<|sim_block_ret<|sim_then_ret<|⟨rfl,0,rfl,h⟩) fun h=>sim_skip<|zk<|sim_exit<|sim_then_exit<|sim_block_hit<|zk ?_
       exact zt hkK7 h
     refine sim_skip<|zk<|zs<|zr<|yv h fun _ w h=>zm<|yc h c27 fun _ w h=>zm<|yv h fun _ w h=>yv h fun _ w h=>yv h fun _ w h=>yu h fun w h=>zm<|zn<|zk ?_
     refine zs<|sim_regionG<|yG 3<|zm<|yb h fun _ w h=>zm<|zn<|yg1 4 2 false [137,138,139,140] 140 h (fun _ T hT h=>?_) fun σ w h=>?_
     · refine yv h fun _ w h=>yv h fun _ w h=>yc h c12 fun _ w h=>yv h fun _ w h=>zn ?_
       exact zt hT h
     refine yG 1<|yp h fun _ h=>zn<|sim_end<|zk<|yC h (fun h=>zs<|zr<|yu h fun w h=>zn<|zk<|sim_ret<|sim_block_ret<|sim_then_ret<|⟨rfl,0,rfl,h⟩) fun h=>sim_skip<|sim_block_normal<|zk ?_
     exact zt hkK7 h
   exact ⟨rfl,h⟩
 · refine sim_block_normal<|zk<|zs<|sim_regionG<|yG 6<|yv h fun _ w h=>yx h fun _ w h=>yv h fun _ w h=>yc h c28 fun _ w h=>yb h fun _ w h=>zm<|zn<|yg1 1 5 true [148] 148 h (fun _ T hT h=>?_) fun σ w h=>?_
   · refine yc h c11 fun _ w h=>zn ?_
     exact zt hT h
   exact yG 2<|yp h fun _ h=>yu h fun w h=>zn<|sim_end<|zk<|sim_ret<|bodyM_ret rfl h
 rcases c with _ | c
 · refine ⟨_,rfl,.inl ⟨rfl,?_⟩⟩
   exact sim_block_ret<|sim_then_ret<|bodyM_ret rfl h
 exact h.elim
theorem walk_all {t:Tr} (hva:validT t=true) {i:Nat} {q:List UInt8×Tr} (hq:(walkT t [])[i]?=some q):∃ l,stepsP q.1=some l∧atT l t=some q.2∧validT q.2=true∧q.1.length≤100000∧nameB q.2.nd.name=true:=by
 have hv:=hva
 unfold validT at hv
 simp only [Bool.and_eq_true,decide_eq_true_eq] at hv
 obtain ⟨⟨h1,h2⟩,h3⟩:=hv
 obtain ⟨l,a1,a2,_⟩:=walk_find t [] [] rfl h3 h1 i q hq
 obtain ⟨b1,b2⟩:=walk_path t [] h3 (valid_fit hva) q (List.mem_of_getElem? hq)
 obtain ⟨c1,c2⟩:=walk_mem h3 [] q (List.mem_of_getElem? hq)
 refine ⟨l,a1,a2,?_,by rw [List.length_nil] at b1;omega,?_⟩
 · unfold validT
   simp only [Bool.and_eq_true,decide_eq_true_eq]
   exact ⟨⟨by omega,by omega⟩,c1⟩
 · obtain ⟨pa,x⟩:=q
   cases x with
   | mk n ps =>
    rw [allT_mk,Bool.and_eq_true] at c1
    exact (nodeB_iff.1 c1.1).1
theorem get_at {t x:Tr} {s:List UInt8} {l:List Stp} (hva:validT t=true) (hs:stepsP s=some l) (ha:atT l t=some x):getE t s=(0,x):=by
 unfold getE
 rw [if_pos hva,hs]
 simp only [ha]
theorem set_same {t x:Tr} {s:List UInt8} {l:List Stp} (hva:validT t=true) (hx:validT x=true) (hs:stepsP s=some l) (ha:atT l t=some x):setE t x s=(0,t):=by
 unfold setE
 rw [if_pos ⟨hva,hx⟩,hs]
 simp only [put_same l t x ha,hva,if_true]
theorem set_at {t x to:Tr} {s:List UInt8} {l:List Stp} (hva:validT t=true) (hto:validT to=true) (hs:stepsP s=some l) (ha:atT l t=some x) (hn:to.nd.name=x.nd.name):(setE t to s).1=3∨((setE t to s).1=0∧validT (setE t to s).2=true∧atT l (setE t to s).2=some to):=by
 obtain ⟨t3,h1,h2,h3⟩:=put_at l t x ha hn
 unfold setE
 rw [if_pos ⟨hva,hto⟩,hs]
 simp only [h1]
 by_cases hv:validT t3=true
 · rw [if_pos hv]
   exact .inr ⟨rfl,hv,h2⟩
 · rw [if_neg hv]
   exact .inl rfl
theorem vi_round {W A w5:World} {lo hi p2 p3 p4 p9 p12 m j:Nat} {t to:Tr} {ub uh up vb vh vp yb yh yp:Value} {V:Bks} {q:List UInt8×Tr} {R:RT} {Kr:World→Prop} {Qr:List PanicEntry→World→Prop} {Xr:Nat→World→Prop} {Rk:World→Prop} (hE:EnvOK W) (hU:ValAt W (.agg #[.string t.nd.name,.int .i64 t.nd.int,ub,uh,up]) t) (hT:ValAt W (.agg #[.string to.nd.name,.int .i64 to.nd.int,vb,vh,vp]) to)
 (hva:validT t=true) (hvo:validT to=true) (hs1:allT smallN t=true) (hs2:nodesT t≤200) (ho1:allT smallN to=true) (ho2:nodesT to≤200)
 (H:ViI W A lo hi p2 p3 p4 p9 m #[.string t.nd.name,.int .i64 t.nd.int,ub,uh,up] #[.string to.nd.name,.int .i64 to.nd.int,vb,vh,vp] (walkT t []) j V w5) (hq:(walkT t [])[j]?=some q) (h12:w5.heap[p12]?=some (.cells #[.string q.2.nd.name,.int .i64 q.2.nd.int,yb,yh,yp] 26 (0,0))) (hX:ValAt w5 (.agg #[.string q.2.nd.name,.int .i64 q.2.nd.int,yb,yh,yp]) q.2) (hR:Firm7 V Rk) (hR5:Rk w5) (hm1:¬ V m) (hm2:W.heap.size≤m) (hm3:hi≤m∨m < lo)
 (hk:∀ w',Rk w'→ViI W A lo hi p2 p3 p4 p9 m #[.string t.nd.name,.int .i64 t.nd.int,ub,uh,up] #[.string to.nd.name,.int .i64 to.nd.int,vb,vh,vp] (walkT t []) (j+1) V w'→Kr w') :
 n8c12 (.pointer (some ⟨p2,0,none⟩)) (.pointer (some ⟨p3,0,none⟩)) (.pointer (some ⟨p4,0,none⟩)) (.pointer (some ⟨p9,0,none⟩)) (.pointer (some ⟨p12,0,none⟩)) (.string (mkB q.1)) Kr Qr Xr R w5:=by
 obtain ⟨l,sl,al,vq,ql,nq⟩:=walk_all hva hq
 obtain ⟨g1,g2⟩:=walk_mem hs1 [] q (List.mem_of_getElem? hq)
 obtain ⟨u1,u2,u3,u4⟩:=small_of hs1 hs2
 obtain ⟨x1,x2,x3,x4⟩:=small_of g1 (by omega)
 have hge:=get_at hva sl al
 have hse:=set_same hva vq sl al
 obtain ⟨eW,_⟩:=H.1
 have c2:=H.2.2.1.2
 have c3:=H.2.2.2.1.2
 have LST:=ViI.lasts W A lo hi p2 p3 p4 p9 m #[.string t.nd.name,.int .i64 t.nd.int,ub,uh,up] #[.string to.nd.name,.int .i64 to.nd.int,vb,vh,vp] (walkT t []) j
 unfold n8c12 joinK
 simp (disch:=try exact DI) only [↓PR,QR,simprocAttr,(cells_of_heap c2).1]
 refine callK_ret (Get_ret (hE.ext eW) _ t q.1 (by omega) (hU.ext eW) (by omega)) ?_
 intro r6 w6 hG
 obtain ⟨e6,cs6,lo6,hi6,hr6,hI6,_,_⟩:=get_shape hG hs1 hs2
 rw [hge] at hr6 hI6
 change r6 = .tuple #[.agg cs6.toArray,.int .i64 0] at hr6
 subst hr6
 obtain ⟨zb,zh,zp,rfl,_,_,_,z1,z2,z3⟩:=hI6.1.all.op
 have c2:=e6.obj c2
 have h12:=e6.obj h12
 unfold n8c11
 simp (disch:=try exact DI) only [↓PR,QR,simprocAttr,fun o=>(cells_of_heap (((Ext.refl w6).alloc o).obj c2)).1,fun o=>(cells_of_heap (((Ext.refl w6).alloc o).obj h12)).1]
 have k13:=heap_new w6 #[.string q.2.nd.name,.int .i64 q.2.nd.int,zb,zh,zp] 26
 have e7:Ext w6 (w6.alloc (.cells #[.string q.2.nd.name,.int .i64 q.2.nd.int,zb,zh,zp] 26)):=ee
 generalize (w6.alloc (.cells #[.string q.2.nd.name,.int .i64 q.2.nd.int,zb,zh,zp] 26))=w7 at *
 generalize hp13:w6.heap.size=p13 at *
 have hX13:ValAt w7 (.agg #[.string q.2.nd.name,.int .i64 q.2.nd.int,zb,zh,zp]) q.2:=(val_of_cells hI6.1.all).ext e7
 have c2:=e7.obj c2
 have h12:=e7.obj h12
 have e57:=e6.trans e7
 have eW7:=eW.trans e57
 refine callK_ret (Set_ret (hE.ext eW7) 1048576 _ _ t q.2 q.1 (by omega) (hU.ext eW7) (hX.ext e57) (by omega) (by omega) u3 x3) ?_
 intro r8 w8 hG8
 obtain ⟨e8,cs8,lo8,hi8,hr8,hI8,_,_⟩:=set_shape hG8
 rw [hse] at hr8 hI8
 change r8 = .tuple #[.agg cs8.toArray,.int .i64 0] at hr8
 subst hr8
 obtain ⟨yb',yh',yp',rfl,_,_,_,z4,z5,z6⟩:=hI8.1.all.op
 have c2:=e8.obj c2
 have h12:=e8.obj h12
 have k13:=e8.obj k13
 have e58:=e57.trans e8
 have d00:((0:Int) != 0)=false:=rfl
 obtain ⟨_,_,_,⟨_,c3'⟩,⟨_,c4'⟩,⟨_,c9'⟩,M,c,⟨_,hM⟩,hS⟩:=LST.ext H e58
 unfold n8c10 joinK
 simp (disch:=try exact DI) only [↓PR,QR,simprocAttr,d00]
 have k15:=heap_new w8 #[.string t.nd.name,.int .i64 t.nd.int,yb',yh',yp'] 26
 have e9:Ext w8 (w8.alloc (.cells #[.string t.nd.name,.int .i64 t.nd.int,yb',yh',yp'] 26)):=ee
 generalize (w8.alloc (.cells #[.string t.nd.name,.int .i64 t.nd.int,yb',yh',yp'] 26))=w9 at *
 generalize hp15:w8.heap.size=p15 at *
 have hX15:ValAt w9 (.agg #[.string t.nd.name,.int .i64 t.nd.int,yb',yh',yp']) t:=(val_of_cells hI8.1.all).ext e9
 have c2:=e9.obj c2
 have h12:=e9.obj h12
 have k13:=e9.obj k13
 have e59:=e58.trans e9
 have c9:=e9.obj c9'
 have hM9:=hM.ext e9
 unfold n8c9 joinK
 simp (disch:=try exact DI) only [↓PR,QR,simprocAttr,(cells_of_heap c9).1]
 have hlk:Sw.look M (mkB q.1)=none:=by rw [hS.2 j q hq,if_neg (Nat.lt_irrefl j)]
 rw [op_lookup1S Tryz.underlying52 Tryz.underlying9 ty4 hM9,hlk,Option.getD_none]
 unfold n8c8 joinK
 simp (disch:=try exact DI) only [↓PR,QR,simprocAttr,(cells_of_heap h12).1,(cells_of_heap k13).1]
 refine zcr (Equal_ret w9 _ _ q.2 q.2 (hX.ext e59) (hX13.ext (e8.trans e9))) fun w10 e10=>?_
 have dc0:∀ s:Tr,decide (cmpT s s=0)=true:=fun s=>by rw [cmp_refl];rfl
 rw [dc0]
 have c2:=e10.obj c2
 have k15:=e10.obj k15
 have eX:=e59.trans e10
 unfold n8c7 joinK
 simp (disch:=try exact DI) only [↓PR,QR,simprocAttr,(cells_of_heap c2).1,(cells_of_heap k15).1]
 refine zcr (Equal_ret w10 _ _ t t (hX15.ext e10) (hU.ext (eW.trans eX))) fun w11 e11=>?_
 rw [dc0]
 have eX:=eX.trans e11
 have H11:=LST.ext H eX
 have hM11:=hM9.ext (e10.trans e11)
 have hR11:=hR _ _ (KR7.of eX) hR5
 unfold n8c6
 simp (disch:=try exact DI) only [↓PR,QR,simprocAttr]
 unfold n8c5
 have c9:=H11.2.2.2.2.2.1.2
 simp (disch:=try exact DI) only [↓PR,QR,simprocAttr,(cells_of_heap c9).1]
 rw [op_mapUpdateS Tryz.underlying52 Tryz.underlying9 hM11]
 have HP:=H11.put hM11 hS hm1 hq (fun i j a b hi hj hab=>by
  have hv:=hva
  unfold validT at hv
  simp only [Bool.and_eq_true,decide_eq_true_eq] at hv
  exact walk_inj hv.2 hv.1.1 hi hj hab) hm2 hm3
 have hRP:=hR _ _ (KR7.putMap hM11 hm1 (mapObjS (putL M c (mkB q.1) (.bool true)) (putC M c (mkB q.1)))) hR11
 have h12P:(w11.putObj m (mapObjS (putL M c (mkB q.1) (.bool true)) (putC M c (mkB q.1)))).heap[p12]?=_:=(World.putObj_heap_other (fun e=>by
  subst e
  have h1:=hM11.obj
  rw [(e10.trans e11).obj h12] at h1
  cases h1)).trans ((e10.trans e11).obj h12)
 generalize w11.putObj m (mapObjS (putL M c (mkB q.1) (.bool true)) (putC M c (mkB q.1)))=w12 at *
 clear hM11 H11 hR11 eX H hM hM9
 have LST:=ViI.lasts W A lo hi p2 p3 p4 p9 m #[.string t.nd.name,.int .i64 t.nd.int,ub,uh,up] #[.string to.nd.name,.int .i64 to.nd.int,vb,vh,vp] (walkT t []) (j+1)
 obtain ⟨eW12,_⟩:=HP.1
 have c3:=HP.2.2.2.1.2
 simp (disch:=try exact DI) only [↓PR,QR,simprocAttr,(cells_of_heap c3).1]
 refine callK_ret (Copy_ret to w12 _ (hT.ext eW12) (small_of ho1 ho2).2.1) ?_
 rintro _ w13 ⟨⟨cs13,rfl,hO13⟩,e13⟩
 obtain ⟨nb,nh,np,rfl,n1,n2,n3,n4,n5,n6⟩:=hO13.read.op
 have h12P:=e13.obj h12P
 have z13:=e13.size
 unfold n8c4
 have HP13:=LST.ext HP e13
 have hR13:=hR _ _ (KR7.of e13) hRP
 have c9:=HP13.2.2.2.2.2.1.2
 rw [show (trCells to.nd nb nh np).toArray = #[.string to.nd.name,.int .i64 to.nd.int,nb,nh,np] from rfl]
 simp (disch:=try exact DI) only [↓PR,QR,simprocAttr,fun o=>(cells_of_heap (((Ext.refl w13).alloc o).obj h12P)).1,fun o=>(cells_of_heap (((Ext.refl w13).alloc o).obj c9)).1]
 have k17:=heap_new w13 #[.string q.2.nd.name,.int .i64 to.nd.int,nb,nh,np] 26
 have e14:Ext w13 (w13.alloc (.cells #[.string q.2.nd.name,.int .i64 to.nd.int,nb,nh,np] 26)):=ee
 generalize (w13.alloc (.cells #[.string q.2.nd.name,.int .i64 to.nd.int,nb,nh,np] 26))=w14 at *
 generalize hp17:w13.heap.size=p17 at *
 have HP14:=LST.ext HP13 e14
 have hR14:=hR _ _ (KR7.of e14) hR13
 obtain ⟨_,_,⟨_,c2⟩,_,_,_,M',c',⟨_,hM'⟩,hS'⟩:=id HP14
 rw [op_lenMap Tryz.underlying52 hM',hS'.1]
 have hput:ValAt w14 (.agg #[.string q.2.nd.name,.int .i64 to.nd.int,nb,nh,np]) (renT q.2.nd.name to):=⟨nb,nh,np,rfl,n1.ext e14,n2.ext e14,n3.ext e14⟩
 obtain ⟨eW14,_⟩:=HP14.1
 by_cases hj20:20 < ((j+1:Nat):Int)
 · have hd:decide (((j+1:Nat):Int) > 20)=true:=by simpa using hj20
   simp (disch:=try exact DI) only [↓PR,QR,simprocAttr,hd]
   exact hk w14 hR14 HP14
 have hd:decide (((j+1:Nat):Int) > 20)=false:=by simpa using hj20
 simp (disch:=try exact DI) only [↓PR,QR,simprocAttr,hd]
 unfold n8c3
 simp (disch:=try exact DI) only [↓PR,QR,simprocAttr,(cells_of_heap c2).1,(cells_of_heap k17).1]
 have hqn:q.2.nd.name.size≤200:=by
  have:=name_len nq
  have e:=Go.Lib.size_eq q.2.nd.name
  omega
 obtain ⟨r1,r2⟩:=ren_small (nm:=q.2.nd.name) ho1 hqn
 obtain ⟨o1,o2,o3,o4⟩:=small_of r1 (by omega)
 refine callK_ret (Set_ret (hE.ext eW14) 1048576 _ _ t (renT q.2.nd.name to) q.1 (by omega) (hU.ext eW14) hput (by omega) (by omega) u3 o3) ?_
 intro r15 w15 hG15
 obtain ⟨e15,cs15,lo15,hi15,rfl,hI15,_,_⟩:=set_shape hG15
 obtain ⟨sb,sh,sp,rfl,_,_,_,s1,s2,s3⟩:=hI15.1.all.op
 have k17:=e15.obj k17
 have hsat:=set_at hva (ren_valid hvo nq) sl al (show (renT q.2.nd.name to).nd.name=q.2.nd.name from rfl)
 obtain ⟨m1,m2⟩:=set_small (s:=q.1) hs1 hs2 r1 (by omega)
 obtain ⟨m3,m4,m5⟩:=small_of4 m1 m2
 unfold n8c2
 rcases hsat with h3 | ⟨h0,hv0,hg0⟩
 · have d1:((3:Int) != 0)=true:=rfl
   have d2:((3:Int) != 3)=false:=rfl
   rw [h3]
   simp (disch:=try exact DI) only [↓PR,QR,simprocAttr,d1,d2]
   have eA:Ext w14 (w15.alloc (.cells #[.string (setE t (renT q.2.nd.name to) q.1).2.nd.name,.int .i64 (setE t (renT q.2.nd.name to) q.1).2.nd.int,sb,sh,sp] 26)):=e15.trans ((Ext.refl _).alloc _)
   exact hk _ (hR _ _ (KR7.of eA) hR14) (LST.ext HP14 eA)
 · rw [h0]
   simp (disch:=try exact DI) only [↓PR,QR,simprocAttr,d00]
   have k18:=heap_new w15 #[.string (setE t (renT q.2.nd.name to) q.1).2.nd.name,.int .i64 (setE t (renT q.2.nd.name to) q.1).2.nd.int,sb,sh,sp] 26
   have e16:Ext w15 (w15.alloc (.cells #[.string (setE t (renT q.2.nd.name to) q.1).2.nd.name,.int .i64 (setE t (renT q.2.nd.name to) q.1).2.nd.int,sb,sh,sp] 26)):=ee
   generalize (w15.alloc (.cells #[.string (setE t (renT q.2.nd.name to) q.1).2.nd.name,.int .i64 (setE t (renT q.2.nd.name to) q.1).2.nd.int,sb,sh,sp] 26))=w16 at *
   have e46:=e15.trans e16
   have hO16:ValAt w16 (.agg #[.string (setE t (renT q.2.nd.name to) q.1).2.nd.name,.int .i64 (setE t (renT q.2.nd.name to) q.1).2.nd.int,sb,sh,sp]) (setE t (renT q.2.nd.name to) q.1).2:=(val_of_cells hI15.1.all).ext e16
   have k17:=e16.obj k17
   refine callK_ret (Get_ret (hE.ext (eW14.trans e46)) _ _ q.1 (by omega) hO16 (by omega)) ?_
   rintro r17 w17 ⟨e17,hG17⟩
   rw [if_pos hv0,sl] at hG17
   simp only [hg0] at hG17
   obtain ⟨cs17,lo17,hi17,rfl,hO17,_,_⟩:=hG17
   obtain ⟨bb,bh,bp,rfl,_,_,_,w1,w2,w3⟩:=hO17.read.op
   have k17:=e17.obj k17
   have e47:=e46.trans e17
   unfold n8c1 joinK
   rw [show (trCells (renT q.2.nd.name to).nd bb bh bp).toArray = #[.string q.2.nd.name,.int .i64 to.nd.int,bb,bh,bp] from rfl]
   simp (disch:=try exact DI) only [↓PR,QR,simprocAttr,d00]
   have k20:=heap_new w17 #[.string q.2.nd.name,.int .i64 to.nd.int,bb,bh,bp] 26
   have e18:Ext w17 (w17.alloc (.cells #[.string q.2.nd.name,.int .i64 to.nd.int,bb,bh,bp] 26)):=ee
   have k17':=e18.obj k17
   simp (disch:=try exact DI) only [↓PR,QR,simprocAttr,(cells_of_heap k20).1,(cells_of_heap k17').1]
   generalize (w17.alloc (.cells #[.string q.2.nd.name,.int .i64 to.nd.int,bb,bh,bp] 26))=w18 at *
   have e48:=e47.trans e18
   have hX20:ValAt w18 (.agg #[.string q.2.nd.name,.int .i64 to.nd.int,bb,bh,bp]) (renT q.2.nd.name to):=(val_of_cells hO17.read).ext e18
   refine zcr (Equal_ret w18 _ _ _ _ hX20 (hput.ext e48)) fun w19 e19=>?_
   rw [dc0]
   simp (disch:=try exact DI) only [↓PR,QR,simprocAttr]
   have eA:=e48.trans e19
   exact hk _ (hR _ _ (KR7.of eA) hR14) (LST.ext HP14 eA)
theorem ValueInverts_ret (W:World) (u v:Value) (t to:Tr) (hu:ValAt W u t) (hv:ValAt W v to) (hE:EnvOK W):Ret Pg 7 #[u,v] W fun r w'=>r = .bool true∧Ext W w':=by
 obtain ⟨ub,uh,up,rfl,a1,a2,a3,a4,a5,a6⟩:=hu.op
 obtain ⟨vb,vh,vp,rfl,b1,b2,b3,b4,b5,b6⟩:=hv.op
 have hU:ValAt W (.agg #[.string t.nd.name,.int .i64 t.nd.int,ub,uh,up]) t:=⟨_,_,_,rfl,a1,a2,a3⟩
 have hT:ValAt W (.agg #[.string to.nd.name,.int .i64 to.nd.int,vb,vh,vp]) to:=⟨_,_,_,rfl,b1,b2,b3⟩
 refine n8s (R:=retR _) ?_;unfold n8
 change opV Pg _ _ _ _
 rw [op_boxA,op_boxA]
 have c2:=heap_new W #[.string t.nd.name,.int .i64 t.nd.int,ub,uh,up] 26
 change (W.alloc (.cells (trCells t.nd ub uh up).toArray 26)).heap[W.heap.size]?=_ at c2
 have e1:Ext W (W.alloc (.cells (trCells t.nd ub uh up).toArray 26)):=(Ext.refl W).alloc _
 have z1:(W.alloc (.cells (trCells t.nd ub uh up).toArray 26)).heap.size=W.heap.size+1:=by simp
 generalize (W.alloc (.cells (trCells t.nd ub uh up).toArray 26))=B at *
 have c3:=heap_new B #[.string to.nd.name,.int .i64 to.nd.int,vb,vh,vp] 26
 change (B.alloc (.cells (trCells to.nd vb vh vp).toArray 26)).heap[B.heap.size]?=_ at c3
 have e2:Ext B (B.alloc (.cells (trCells to.nd vb vh vp).toArray 26)):=(Ext.refl B).alloc _
 have z2:(B.alloc (.cells (trCells to.nd vb vh vp).toArray 26)).heap.size=B.heap.size+1:=by simp
 generalize (B.alloc (.cells (trCells to.nd vb vh vp).toArray 26))=B2 at *
 have c2:=e2.obj c2
 generalize hp2:W.heap.size=p2 at *
 generalize hp3:B.heap.size=p3 at *
 simp (disch:=try exact DI) only [↓PR,QR,simprocAttr,fun o=>(cells_of_heap (((Ext.refl B2).alloc o).obj c2)).1]
 have x4:=heap_new B2 #[.bool false] 4
 have e3:Ext B2 (B2.alloc (.cells #[.bool false] 4)):=ee
 generalize (B2.alloc (.cells #[.bool false] 4))=W1 at *
 generalize hp4:B2.heap.size=p4 at *
 have c2:=e3.obj c2
 have c3:=e3.obj c3
 have e:=e1.trans (e2.trans e3)
 have l4:W.heap.size≤p4:=by omega
 have known:∀ w,Ext W1 w→n8c23 (.pointer (some ⟨p4,0,none⟩)) [] (retR fun r w'=>r=Value.bool true∧Ext W w') w:=fun w ew=>by
  unfold n8c23
  refine zcr (known_ret (hE.ext (e.trans ew))) fun w6 e6=>?_
  have q6:=(ew.trans e6).obj x4
  simp (disch:=try exact DI) only [↓PR,QR,simprocAttr,(cells_of_heap q6).1,(cells_of_heap q6).2]
  have r6:(w6.setCell ⟨p4,0,none⟩ (.bool true)).heap[p4]?=some (.cells #[.bool true] 4 (0,0)):=by simpa using heap_set (o:=0) q6 (.bool true)
  simp (disch:=try exact DI) only [↓PR,QR,simprocAttr,outX_nil,retV,resOne,(cells_of_heap r6).1]
  exact ⟨by trivial,(e.trans (ew.trans e6)).setCell (p:=⟨p4,0,none⟩) l4 _⟩
 refine zcr (vsmall_ret W1 _ t (hU.ext e)) fun w2 f2=>?_
 unfold n8c27 joinK
 cases hst:smallT t with
 | false =>
  simp (disch:=try exact DI) only [↓PR,QR,simprocAttr]
  unfold n8c26 joinK
  simp (disch:=try exact DI) only [↓PR,QR,simprocAttr]
  unfold n8c25 joinK
  simp (disch:=try exact DI) only [↓PR,QR,simprocAttr]
  exact known _ f2
 | true =>
 obtain ⟨hn200,hsm⟩:=small_facts hst
 have g3:=f2.obj c3
 simp (disch:=try exact DI) only [↓PR,QR,simprocAttr,(cells_of_heap g3).1]
 refine zcr (vsmall_ret w2 _ to (hT.ext (e.trans f2))) fun w3 f3=>?_
 have f3:=f2.trans f3
 cases hso:smallT to with
 | false =>
  simp (disch:=try exact DI) only [↓PR,QR,simprocAttr]
  unfold n8c26 joinK
  simp (disch:=try exact DI) only [↓PR,QR,simprocAttr]
  unfold n8c25 joinK
  simp (disch:=try exact DI) only [↓PR,QR,simprocAttr]
  exact known _ f3
 | true =>
 obtain ⟨ho200,hsmo⟩:=small_facts hso
 have g2:=f3.obj c2
 simp (disch:=try exact DI) only [↓PR,QR,simprocAttr]
 unfold n8c26 joinK
 simp (disch:=try exact DI) only [↓PR,QR,simprocAttr,(cells_of_heap g2).1]
 refine zcr (Valid_ret w3 _ t (hU.ext (e.trans f3)) (by omega)) fun w4 f4=>?_
 have f4:=f3.trans f4
 cases hva:validT t with
 | false =>
  simp (disch:=try exact DI) only [↓PR,QR,simprocAttr]
  unfold n8c25 joinK
  simp (disch:=try exact DI) only [↓PR,QR,simprocAttr]
  exact known _ f4
 | true =>
 have g3:=f4.obj c3
 simp (disch:=try exact DI) only [↓PR,QR,simprocAttr]
 unfold n8c25 joinK
 simp (disch:=try exact DI) only [↓PR,QR,simprocAttr,(cells_of_heap g3).1]
 refine zcr (Valid_ret w4 _ to (hT.ext (e.trans f4)) (by omega)) fun w5 f5=>?_
 have f5:=f4.trans f5
 cases hvo:validT to with
 | false =>
  simp (disch:=try exact DI) only [↓PR,QR,simprocAttr]
  exact known _ f5
 | true =>
 have g2:=f5.obj c2
 have hval:=hva
 unfold validT at hval
 simp only [Bool.and_eq_true,decide_eq_true_eq] at hval
 obtain ⟨⟨hv1,hv2⟩,hv3⟩:=hval
 have htl:=text_len t hv3 hsm
 simp (disch:=try exact DI) only [↓PR,QR,simprocAttr]
 unfold n8c24
 simp (disch:=try exact DI) only [↓PR,QR,simprocAttr,(cells_of_heap g2).1]
 refine zcr (Text_ret w5 _ t (hU.ext (e.trans f5)) (hE.ext (e.trans f5)).tab (by omega) (by omega)) fun w6 f6=>?_
 have f6:=f5.trans f6
 rw [if_pos hva]
 unfold n8c22
 simp (disch:=try exact DI) only [↓PR,QR,simprocAttr]
 refine callK_ret (Parse_ret w6 (mkB (textT t)) (hE.ext (e.trans f6)) (by rw [mkB_size];omega)) ?_
 rintro r7 w7 ⟨f7,v7,c7,rfl,hr7⟩
 rw [mkB_data,(parseR_iff RP_ok _ t).2 ⟨hva,rfl⟩] at hr7
 obtain ⟨rfl,hv7⟩:=hr7
 obtain ⟨xb,xh,xp,rfl,x1,x2,x3,y1,y2,y3⟩:=hv7.op
 have f7:=f6.trans f7
 have d00:((0:Int) != 0)=false:=rfl
 unfold n8c21 joinK
 simp (disch:=try exact DI) only [↓PR,QR,simprocAttr,d00]
 have k7:=heap_new w7 #[.string t.nd.name,.int .i64 t.nd.int,xb,xh,xp] 26
 have f8:Ext w7 (w7.alloc (.cells #[.string t.nd.name,.int .i64 t.nd.int,xb,xh,xp] 26)):=ee
 have hX:ValAt (w7.alloc (.cells #[.string t.nd.name,.int .i64 t.nd.int,xb,xh,xp] 26)) (.agg #[.string t.nd.name,.int .i64 t.nd.int,xb,xh,xp]) t:=ValAt.ext ⟨_,_,_,rfl,x1,x2,x3⟩ f8
 generalize (w7.alloc (.cells #[.string t.nd.name,.int .i64 t.nd.int,xb,xh,xp] 26))=w8 at *
 have f8:=f7.trans f8
 have g2:=f8.obj c2
 unfold n8c20 joinK
 simp (disch:=try exact DI) only [↓PR,QR,simprocAttr,(cells_of_heap g2).1,(cells_of_heap k7).1]
 refine zcr (Equal_ret w8 _ _ t t (hU.ext (e.trans f8)) hX) fun w9 f9=>?_
 have f9:=f8.trans f9
 rw [cmp_refl]
 have g2:=f9.obj c2
 unfold n8c19
 simp (disch:=try exact DI) only [↓PR,QR,simprocAttr]
 unfold n8c18
 rw [op_makeMap]
 have hM0:=MapS.new w9
 have f10:Ext w9 (w9.alloc (.map #[] 0)):=(Ext.refl _).alloc _
 have zm:(w9.alloc (.map #[] 0)).heap.size=w9.heap.size+1:=by simp
 generalize (w9.alloc (.map #[] 0))=w10 at *
 generalize hm:w9.heap.size=m at *
 have g2:=f10.obj g2
 simp (disch:=try exact DI) only [↓PR,QR,simprocAttr,fun o=>(cells_of_heap (((Ext.refl w10).alloc o).obj g2)).1]
 have k9:=heap_new w10 #[.map (some m)] 52
 have f11:Ext w10 (w10.alloc (.cells #[.map (some m)] 52)):=ee
 generalize (w10.alloc (.cells #[.map (some m)] 52))=w11 at *
 generalize hp9:w10.heap.size=p9 at *
 have hM1:=hM0.ext f11
 have f12:=f9.trans (f10.trans f11)
 have zW:=f9.size
 refine callK_ret (Walk_ret _ t (hU.ext (e.trans f12)) (by omega)) ?_
 rintro r13 w13 ⟨f13,hr13⟩
 rw [if_pos hva] at hr13
 obtain ⟨wb,wh,wp,lo,q2,rfl,hWP,hOW,hlo,hq2⟩:=hr13
 have hle:=hOW.le
 have z11:=f11.size
 unfold n8c17
 rw [op_eqNilF Tryz.underlying43]
 simp (disch:=try exact DI) only [↓PR,QR,simprocAttr]
 unfold n8c16
 have f14:=f12.trans f13
 have e14:=e.trans f14
 have lt4:p4 < W1.heap.size:=(Array.getElem?_eq_some_iff.1 x4).1
 have lt9:p9 < w11.heap.size:=(Array.getElem?_eq_some_iff.1 k9).1
 have H0:ViI W w13 lo (q2+2) p2 p3 p4 p9 m #[.string t.nd.name,.int .i64 t.nd.int,ub,uh,up] #[.string to.nd.name,.int .i64 to.nd.int,vb,vh,vp] (walkT t []) 0 (fun _=>False) w13:=⟨⟨e14,fun b hb=>hb.elim⟩,⟨fun b _ _=>⟨fun h=>h,rfl⟩,by omega⟩,⟨fun h=>h,f14.obj c2⟩,⟨fun h=>h,f14.obj c3⟩,⟨fun h=>h,f14.obj x4⟩,⟨fun h=>h,f13.obj k9⟩,[],0,⟨fun h=>h,hM1.ext f13⟩,rfl,fun j q _=>by rw [if_neg (by omega)];rfl⟩
 have hcount:=walk_count t []
 have hLI:=fun k=>ViI.lasts W w13 lo (q2+2) p2 p3 p4 p9 m #[.string t.nd.name,.int .i64 t.nd.int,ub,uh,up] #[.string to.nd.name,.int .i64 to.nd.int,vb,vh,vp] (walkT t []) k
 refine ⟨_,_,(walkT t []).length,WalkY (walkT t []),_,_,fun w=>Rg w13 lo q2 w∧WalkP (q2+1) q2 [] (trCells t.nd wb wh wp) w,ViI W w13 lo (q2+2) p2 p3 p4 p9 m #[.string t.nd.name,.int .i64 t.nd.int,ub,uh,up] #[.string to.nd.name,.int .i64 to.nd.int,vb,vh,vp] (walkT t []),fun _ _ _=>False,fun _ _ _=>False,rfl,c82,walk_at hOW hva (q2+1) q2 (by omega) (Nat.le_refl _) (by omega),fun _ _=>trivial,fun b hb=>hb.elim,H0,fun k V u h=>⟨⟨hE.ext h.1.1,Nat.le_trans (Nat.le_add_right q2 2) h.2.1.2,fun b h1 h2=>(h.2.1.1 b h1 (by omega)).2⟩,(h.2.1.1 _ (by omega) (by omega)).2.trans hWP.1,(h.2.1.1 _ (by omega) (by omega)).2.trans hWP.2⟩,fun c V u h=>h.elim,hLI,fun c=>Lasts7.const _,fun ch=>Lasts7.const _,?_,?_,?_,?_⟩
 · intro Rk V hRk hV0 j xx yy w4 hj hY hI4 hR4 hlt hready
   obtain ⟨q,cs,lo',hi',hq,rfl,rfl,hOq,hlo',hhi',hdis⟩:=hY
   obtain ⟨yb,yh,yp,rfl,_,_,_,g1',g2',g3'⟩:=hOq.read.op
   unfold n8c13
   simp (disch:=try exact DI) only [↓PR,QR,simprocAttr]
   have eA:Ext w4 (w4.alloc (.cells #[.string q.2.nd.name,.int .i64 q.2.nd.int,yb,yh,yp] 26)):=ee
   have oA:=heap_new w4 #[.string q.2.nd.name,.int .i64 q.2.nd.int,yb,yh,yp] 26
   change busyK _ (w4.alloc (.cells #[.string q.2.nd.name,.int .i64 q.2.nd.int,yb,yh,yp] 26)) _
   generalize (w4.alloc (.cells #[.string q.2.nd.name,.int .i64 q.2.nd.int,yb,yh,yp] 26))=Y at eA oA ⊢
   generalize hpu:w4.heap.size=pu at oA ⊢
   refine ⟨by obtain ⟨r,h1,h2⟩:=hready;exact ⟨r,eA.obj h1,h2⟩,fun w5 hbz=>?_⟩
   have hR5:=hRk _ _ (KR7.busied hbz) (hRk _ _ (KR7.of eA) hR4)
   have I5:=(hLI j).busied hbz (show plusB V w13.heap.size (w13.heap.size+1) from .inr (.inr rfl)) ((hLI j).ext hI4 eA)
   have hbk:∀ b,b≠w13.heap.size+1→w5.heap[b]?=Y.heap[b]?:=by
    obtain ⟨r,_,rfl⟩:=hbz
    exact fun b hb=>World.putObj_heap_other hb
   have qA:=(hbk pu (by omega)).trans oA
   have hO5:=OwnT.only (bk:=w13.heap.size+1) hbk (hOq.ext eA) (.inr (by omega))
   have z13:=f13.size
   have hm1:¬ plusB V w13.heap.size m:=fun h=>by
    rcases h with h | h
    · rcases hV0 m h with h | h
      · exact h.elim
      · omega
    · omega
   exact vi_round hE hU hT hva hvo hsm hn200 hsmo ho200 I5 hq qA (val_of_cells hO5.read) hRk hR5 hm1 (by have:=e.size;omega) (.inr (by omega)) fun w' h1 h2=>⟨h1,h2⟩
 · intro V w4 H hmk
   obtain ⟨⟨eZ,_⟩,_,⟨_,h2⟩,_,⟨_,h4⟩,⟨_,h9⟩,M,c,⟨_,hM⟩,hS⟩:=H
   unfold n8c15
   simp (disch:=try exact DI) only [↓PR,QR,simprocAttr,(cells_of_heap h9).1]
   rw [op_lenMap Tryz.underlying52 hM,hS.1,hcount]
   simp (disch:=try exact DI) only [↓PR,QR,simprocAttr,(cells_of_heap h2).1]
   refine zcr (Nodes_ret w4 _ t (hU.ext eZ) (by omega)) fun w5 e5=>?_
   have hee:((nodesT t:Int) == (nodesT t:Int))=true:=by simp
   unfold n8c14 joinK
   simp (disch:=try exact DI) only [↓PR,QR,simprocAttr,hee]
   refine zcr (known_ret (hE.ext (eZ.trans e5))) fun w6 e6=>?_
   have q6:=(e5.trans e6).obj h4
   have eF:=((eZ.trans (e5.trans e6)).setCell (p:=⟨p4,0,none⟩) l4 (.bool true))
   simp (disch:=try exact DI) only [↓PR,QR,simprocAttr,hee,(cells_of_heap q6).1,(cells_of_heap q6).2]
   have r6:(w6.setCell ⟨p4,0,none⟩ (.bool true)).heap[p4]?=some (.cells #[.bool true] 4 (0,0)):=by simpa using heap_set (o:=0) q6 (.bool true)
   refine outs7 (bs:=[w13.heap.size]) (Q:=fun V u=>(Ext W u∧∀ b,V b→W.heap.size≤b)∧(¬ V p4∧u.heap[p4]?=some (.cells #[.bool true] 4 (0,0)))) (Lasts7.from.and Lasts7.has) (V:=fun b=>b=w13.heap.size) (fun w' hq=>?_) (by simp) (fun b hb=>?_) (fun b hb=>List.mem_singleton.1 hb) ⟨⟨eF,fun b hb=>by have:=e14.size;omega⟩,fun h=>by have:=f14.size;omega,r6⟩
   · have z4:=hq.2.2
     simp (disch:=try exact DI) only [↓PR,QR,simprocAttr,outX_nil,retV,resOne,(cells_of_heap z4).1]
     exact ⟨trivial,hq.1.1⟩
   · rw [List.mem_singleton.1 hb]
     exact (hmk.ext (e5.trans e6)).setCell _ _
 · rintro c V w4 h
   exact h.elim
 · rintro ch V w4 h
   exact h.elim
theorem ValueInverts_at (W:World) (u:Value) (t:Tr) (v:Value) (to:Tr) (hu:ValAt W u t) (_:True) (hv:ValAt W v to) (_:True) (hE:EnvOK W):Ret Pg 7 #[u,v] W fun r w'=>r = .bool true∧Ext W w':=ValueInverts_ret W u v t to hu hv hE
end Go.Proofs.YtcffhmapmaahnaaGreatDoor
namespace Go.Proofs.YtcffhmapmaahnaaGreatDoor
open Sw
open Go.ChangeShapes Go.WideShapes Go.RowKit Go.ChangeAt Go.Deep
theorem vinverts_lifted (os:Os) (started:os.Started) (H:Type) (enc:TypeId×Value→H) :
 ReturnsInHanded {} Tryz.checked os 7 .any (fun w args=>(Rows.valueInvertsSpec.pre enc Pg Tryz.f7 Rows.valueInvertsRow.domain false w args∧laidMetH Pg role_laid w)∧sizedMet enc Pg Tryz.f7 (OpenSpec.ofChange Rows.valueInvertsSpec) false w args) (Rows.valueInvertsSpec.post enc Pg Tryz.f7 false true false false):=by
 refine handed_and (C:=Tryz.checked) (X:=fun w _=>laidMetH Pg role_laid w) (fun _ _ _ hh h=>h.of_heap hh) role_own started (by kernel_rfl) Tryz.func7
  (ChangeSpec.witness_shaped (enc:=enc) (C:=Tryz.checked) (os:=os) (X:=fun w _=>laidMetH Pg role_laid w) false (World.laidAll Pg os role_laid) #[.agg #[.string ByteArray.empty,.int .i64 0,.slice none 0 0,.slice none 0 0,.slice none 0 0],.agg #[.string ByteArray.empty,.int .i64 0,.slice none 0 0,.slice none 0 0,.slice none 0 0]] 8 (World.laidAll_os _ _ _) (World.shaped_of_ZipB (by kernel_rfl) (by kernel_rfl)) (by kernel_rfl) (by kernel_rfl) (by kernel_rfl) (role_met os _)) ?_
 intro W base args ds gs before hval hW _ hsz hL hsh _
 have hW':=hW
 obtain ⟨p,q,hA0,hV,rfl,_,_⟩:=hW
 have hA:DataW.TrodAll enc Pg W 0 (fun _=>true) true Tryz.f7.params.toList args.toList ds p:=hA0
 rw [Tryz.params7] at hA hval hsz
 obtain ⟨v0,vs0,d0,ds0,p0,q0,ha0,rfl,rfl,h0,r0⟩:=trodAll_cons hA
 obtain ⟨v1,vs1,d1,ds1,p1,q1,ha1,rfl,rfl,h1,r1⟩:=trodAll_cons r0
 obtain ⟨rfl,rfl,rfl⟩:=trodAll_nil r1
 subst ha1
 obtain rfl:args = #[v0,v1]:=by cases args;simp_all
 obtain ⟨f0,hf0,hs0⟩:=val_val (hval 0 _ v0 rfl rfl) h0 (reached_of (j:=0) hsz rfl rfl)
 obtain ⟨f1,hf1,hs1⟩:=val_val (hval 1 _ v1 rfl rfl) h1 (reached_of (j:=1) hsz rfl rfl)
 refine Calls.mono (ValueInverts_at W v0 f0 v1 f1 hf0 hs0 hf1 hs1 (role_env hsh hL)) fun e W' ⟨v,he,hv,hx⟩=>?_
 subst he hv
 exact ⟨_,rfl,law_post role_laidOut (by decide +kernel) rfl hW' hx rfl Tryz.underlying4 rfl rfl rfl⟩
theorem vinverts_holds:Rows.ValueInvertsSaid :=
 OpenClaim.holds_of_wide 7 Tryz.f7 rfl rfl rfl rfl rfl rfl rfl ⟨rfl,rfl,rfl,rfl,rfl⟩ rfl rfl rfl rfl rfl (by kernel_rfl) Tryz.func7 (by kernel_rfl)
  (of_decide_eq_true (by kernel_rfl)) (by unfold Func.isWrapper;first | (rw [if_pos (by decide +kernel)];kernel_rfl) | (rw [if_neg (by decide +kernel)];exact ⟨rfl,rfl⟩))
  (fun os started H enc _=>vinverts_lifted os started H enc)
theorem vinverts_card:Rows.ValueInvertsCardSaid :=
 Claim7.holds_tied_plain_at .later [] [.data,.data,.data,.data,.sentinel,.sentinel,.pinned] true (true, "890728a3a62857bfa7207560ed87612b9253540bda02dd327723c287671f9d21") true
  vinverts_holds (fun _ h=>by cases h) (by kernel_rfl) (fun _ h=>by cases h) valueInverts_row_tie rfl ⟨rfl,rfl⟩ (by kernel_rfl) rfl
  (fun f fn hf hfn=>by
   obtain rfl:f=7:=Option.some.inj ((show Pg.funcNamed "phrasebook/phrasebooklaw13.ValueInverts" = some 7 by kernel_rfl).symm.trans hf) |>.symm
   obtain rfl:fn=Tryz.f7:=(Option.some.inj (Tryz.func7.symm.trans hfn)).symm
   exact ⟨by kernel_rfl,fun j t ht=>by
    rw [Tryz.params7] at ht
    have hm:t∈[26,26]:=by simpa using Array.mem_of_getElem? ht
    have hall:([26,26].all fun u=>!Pg.wantsStandIn u)=true:=by kernel_rfl
    exact (show Pg.wantsStandIn t=false by simpa using List.all_eq_true.1 hall t hm)⟩)
  (by kernel_rfl)
end Go.Proofs.YtcffhmapmaahnaaGreatDoor
