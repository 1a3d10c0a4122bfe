/-
  Lemmas for the claim.
-/
import Derived.Test.YtngflmjncplkaaaGreatDoorUg3
set_option linter.all false
set_option maxHeartbeats 4000000
set_option maxRecDepth 100000
namespace Go.Proofs.YtngflmjncplkaaaGreatDoor
open Sw
open Go.RowKit (intOf Below)
theorem name_small {x:ByteArray} (h:nameB x=true):x.size≤32:=by
 unfold nameB at h
 simp only [Bool.and_eq_true,decide_eq_true_eq] at h
 omega
theorem numB_small {x:ByteArray} {n:Int} (h:numB x=some n):Num10 n:=by
 rw [numB_ref] at h
 have key:∀ neg d,digsN neg d=some n→Num10 n:=fun neg d hd=>by
  obtain ⟨_,h2,h3,_,rfl⟩:=digsN_some hd
  have:=val10 h2 h3
  unfold Num10
  split<;>omega
 unfold refN at h
 split at h
 · exact key _ _ h
 · exact key _ _ h
theorem numP_small {ws l:List ByteArray} {n:Int} (h:numP ws=some (n,l)):Num10 n:=by
 cases ws with
 | nil=>cases h
 | cons a r =>
  rw [numP_cons] at h
  cases hb:numB a with
  | none=>rw [hb] at h;cases h
  | some m =>
   rw [hb] at h
   injection h with h
   injection h with h1 h2
   subst h1
   exact numB_small hb
theorem cntP_small {ws:List ByteArray} {x:CntD} (h:cntP ws=some x):nameB x.name=true∧Num10 x.limit:=by
 unfold cntP at h
 obtain ⟨⟨a,l⟩,h1,h⟩:=bind_inv h
 obtain ⟨⟨n,l2⟩,h2,h⟩:=bind_inv h
 obtain ⟨h3,rfl⟩:=endP_inv h
 exact ⟨(nameP_inv h1).2,numP_small h2⟩
theorem staP_small {ws:List ByteArray} {x:StaD} (h:staP ws=some x):nameB x.name=true∧Num10 x.wait:=by
 unfold staP at h
 obtain ⟨⟨a,l⟩,h1,h⟩:=bind_inv h
 obtain ⟨⟨n,l2⟩,h2,h⟩:=bind_inv h
 obtain ⟨h3,rfl⟩:=endP_inv h
 refine ⟨(nameP_inv h1).2,?_⟩
 unfold waitP at h2
 split at h2
 · obtain ⟨⟨m,l3⟩,h4,h2⟩:=bind_inv h2
   split at h2
   · cases h2
   · injection h2 with h2
     injection h2 with e1 e2
     subst e1
     exact numP_small h4
 · injection h2 with h2
   injection h2 with e1 e2
   subst e1
   exact ⟨by show -9999999999≤(0:Int);omega,by show (0:Int)≤9999999999;omega⟩
theorem stpP_small {ws:List ByteArray} {x:StpD} (h:stpP ws=some x):nameB x.fr=true∧nameB x.to=true∧(1≤x.kind∧x.kind≤4)∧(if speaksB x.kind then nameB x.message=true∧nameB x.peer=true else x.message=ByteArray.empty∧x.peer=ByteArray.empty)∧(if x.counter=ByteArray.empty then x.low=0∧x.high=0∧x.add=0 else nameB x.counter=true∧Num10 x.low∧Num10 x.high∧Num10 x.add):=by
 unfold stpP at h
 obtain ⟨⟨a,l⟩,h1,h⟩:=bind_inv h
 obtain ⟨⟨b,l2⟩,h2,h⟩:=bind_inv h
 obtain ⟨⟨c,l3⟩,h3,h⟩:=bind_inv h
 split at h
 · cases h
 · rename_i hk
   obtain ⟨⟨m,l4⟩,h4,h⟩:=bind_inv h
   obtain ⟨⟨q,l5⟩,h5,h⟩:=bind_inv h
   obtain ⟨h6,rfl⟩:=endP_inv h
   simp only at h2 h3 h4 h5 h6 hk ⊢
   refine ⟨(nameP_inv h1).2,(nameP_inv h2).2,(kindP_inv hk).2,?_,?_⟩
   · unfold msgP at h4
     split at h4
     · rename_i hs
       obtain ⟨⟨y,r1⟩,g1,h4⟩:=bind_inv h4
       obtain ⟨⟨z,r2⟩,g2,h4⟩:=bind_inv h4
       injection h4 with h4
       injection h4 with e1 e2
       subst e1
       rw [if_pos hs]
       exact ⟨(nameP_inv g1).2,(nameP_inv g2).2⟩
     · rename_i hs
       injection h4 with h4
       injection h4 with e1 e2
       subst e1
       rw [if_neg hs]
       exact ⟨rfl,rfl⟩
   · unfold whenP at h5
     split at h5
     · obtain ⟨⟨y,r1⟩,g1,h5⟩:=bind_inv h5
       obtain ⟨⟨z,r2⟩,g2,h5⟩:=bind_inv h5
       obtain ⟨⟨u,r3⟩,g3,h5⟩:=bind_inv h5
       obtain ⟨⟨v,r4⟩,g4,h5⟩:=bind_inv h5
       injection h5 with h5
       injection h5 with e1 e2
       subst e1
       have hn:=(nameP_inv g1).2
       rw [if_neg (fun e:y=ByteArray.empty=>by rw [e] at hn;revert hn;decide)]
       exact ⟨hn,numP_small g2,numP_small g3,numP_small g4⟩
     · injection h5 with h5
       injection h5 with e1 e2
       subst e1
       rw [if_pos rfl]
       exact ⟨rfl,rfl,rfl⟩
theorem pairs_all {α β:Type} {R:α→β→Prop} {q:β→Prop} (hq:∀ a b,R a b→q b):∀ {l:List α} {m:List β},Pairs R l m→(∀ b∈m,q b)∧m.length=l.length
 | _,_,.nil=>⟨fun _ h=>(by cases h),rfl⟩
 | _,_,.cons h1 h=>by
  obtain ⟨a1,a2⟩:=pairs_all hq h
  refine ⟨fun b hb=>?_,by rw [List.length_cons,List.length_cons,a2]⟩
  rcases List.mem_cons.1 hb with rfl | hb
  · exact hq _ _ h1
  · exact a1 b hb
structure Read (r:RolD):Prop where
 nm:nameB r.name=true
 cs:∀ c∈r.counters,nameB c.name=true∧Num10 c.limit
 ss:∀ c∈r.states,nameB c.name=true∧Num10 c.wait
 ts:∀ s∈r.steps,nameB s.fr=true∧nameB s.to=true∧(1≤s.kind∧s.kind≤4)∧(if speaksB s.kind then nameB s.message=true∧nameB s.peer=true else s.message=ByteArray.empty∧s.peer=ByteArray.empty)∧(if s.counter=ByteArray.empty then s.low=0∧s.high=0∧s.add=0 else nameB s.counter=true∧Num10 s.low∧Num10 s.high∧Num10 s.add)
theorem roleP_read {L:List (List ByteArray)} {r:RolD} {n:Nat} (h:roleP L=(some r,n)):Read r∧r.counters.length≤L.length∧r.states.length≤L.length∧r.steps.length≤L.length∧1≤n∧n≤L.length:=by
 match L,h with
 | [],h=>cases h
 | []::L,h=>cases h
 | (k::ws)::L,h =>
  by_cases hk:k=kRole
  case neg=>rw [roleP_eq,if_neg hk] at h;cases h
  subst hk
  rw [roleP_eq,if_pos rfl] at h
  cases hn:rnameP ws with
  | none=>rw [hn] at h;cases h
  | some nm =>
  rw [hn] at h
  simp only at h
  unfold rnameP at hn
  obtain ⟨⟨a,l⟩,h1,h2⟩:=bind_inv hn
  obtain ⟨h3,rfl⟩:=endP_inv h2
  unfold countersP at h
  cases hc:manyP kCounter cntP L with
  | mk o k1 =>
  rw [hc] at h
  cases o with
  | none=>cases h
  | some cs =>
  simp only at h
  unfold statesP at h
  cases hs:manyP kState staP (L.drop k1) with
  | mk o k2 =>
  rw [hs] at h
  cases o with
  | none=>cases h
  | some ss =>
  simp only at h
  unfold stepsP at h
  cases ht:manyP kStep stpP ((L.drop k1).drop k2) with
  | mk o k3 =>
  rw [ht] at h
  injection h with h1' h2'
  cases o with
  | none=>cases h1'
  | some ts =>
  injection h1' with h1'
  subst h1'
  obtain ⟨R1,a1,a2,a3⟩:=many_inv hc
  obtain ⟨R2,b1,b2,b3⟩:=many_inv hs
  obtain ⟨R3,c1,c2,c3⟩:=many_inv ht
  obtain ⟨d1,d2⟩:=pairs_all (q:=fun x:CntD=>nameB x.name=true∧Num10 x.limit) (fun w x ⟨ws,_,h⟩=>cntP_small h) a3
  obtain ⟨e1,e2⟩:=pairs_all (q:=fun x:StaD=>nameB x.name=true∧Num10 x.wait) (fun w x ⟨ws,_,h⟩=>staP_small h) b3
  obtain ⟨f1,f2⟩:=pairs_all (fun w x ⟨ws,_,h⟩=>stpP_small h) c3
  have l1:=many_le (kw:=kCounter) (p:=cntP) L
  have l2:=many_le (kw:=kState) (p:=staP) (L.drop k1)
  have l3:=many_le (kw:=kStep) (p:=stpP) ((L.drop k1).drop k2)
  rw [hc] at l1
  rw [hs,List.length_drop] at l2
  rw [ht,List.length_drop,List.length_drop] at l3
  simp only at l1 l2 l3 h2'
  rw [List.length_cons]
  refine ⟨⟨(nameP_inv h1).2,d1,e1,f1⟩,?_,?_,?_,by omega,by omega⟩
  · show cs.length≤_;omega
  · show ss.length≤_;omega
  · show ts.length≤_;omega
theorem Read.sm {r:RolD} (h:Read r):∀ x∈r.steps,StpSm x:=by
 intro x hx
 obtain ⟨s1,s2,_,s4,s5⟩:=h.ts x hx
 have he:(ByteArray.empty).size=0:=rfl
 have n1:=name_small s1
 have n2:=name_small s2
 have n3:x.message.size≤32∧x.peer.size≤32:=by
  split at s4
  · exact ⟨name_small s4.1,name_small s4.2⟩
  · rw [s4.1,s4.2,he];omega
 have n5:x.counter.size≤32:=by
  split at s5
  · rename_i hc;rw [hc,he];omega
  · exact name_small s5.1
 unfold StpSm
 omega
abbrev catchN (p4:Nat):Deferred:={ target := .fn (.func 88) #[.pointer (some ⟨p4,0,none⟩)],args := #[] }
theorem catchN_ret {p4:Nat} {w:World} {k:FrameMode→World→Prop} (h:k .returning w):outM Pg [catchN p4] .returning w k:=by
 refine ⟨by simp,.inr ⟨.func 88,_,88,#[.pointer (some ⟨p4,0,none⟩)],rfl,?_,?_⟩⟩
 · exact callFunc_run c88 _ w
 · refine n36s ?_
   unfold n36
   show opV _ (binS .neq _ true .nilIface .nilIface) _ _ _
   rw [op_neqNil_none Tryz.underlying20]
   simp (disch:=try exact DI) only [↓PR,QR,simprocAttr]
   exact h
theorem catchN_pan {p4:Nat} {w:World} {k:FrameMode→World→Prop} {n:Int} {y:Value} (o4:w.heap[p4]?=some (.cells #[y] 3 (0,0))) (h:k .returning (w.setCell ⟨p4,0,none⟩ (.int .i64 n))):outM Pg [catchN p4] (.panicking (wrongE n)) w k:=by
 refine ⟨by simp,.inr ⟨.func 88,_,88,#[.pointer (some ⟨p4,0,none⟩)],rfl,?_,?_⟩⟩
 · exact callFunc_run c88 _ w
 · refine n36s ?_
   rw [show recM (.panicking (wrongE n))=(.iface 133 (.int .i64 n),.panicking [{ v := .iface 133 (.int .i64 n),recovered:=true }]) from rfl]
   unfold n36
   rw [op_neqNil_some Tryz.underlying20]
   simp (disch:=try exact DI) only [↓PR,QR,simprocAttr]
   unfold n36c1
   rw [op_assert_ok Tryz.underlying133 rfl]
   simp (disch:=try exact DI) only [↓PR,QR,simprocAttr,(cells_of_heap o4).1,(cells_of_heap o4).2]
   exact h
theorem read_fine {w:World} {p4:Nat} {n:Int} {R:RT} (o4:w.heap[p4]?=some (.cells #[.int .i64 n] 3 (0,0))) (h:R (.returned (.int .i64 n)) w):outX Pg [catchN p4] [(some 3,.pointer (some ⟨p4,0,none⟩))] R w:=by
 unfold outX
 refine catchN_ret ?_
 unfold endM retV resOne
 simp only
 simp (disch:=try exact DI) only [↓PR,QR,simprocAttr,(cells_of_heap o4).1]
 exact h
theorem read_pan {w:World} {p4:Nat} {n:Int} {y:Value} {R:RT} (o4:w.heap[p4]?=some (.cells #[y] 3 (0,0))) (h:R (.returned (.int .i64 n)) (w.setCell ⟨p4,0,none⟩ (.int .i64 n))):outQ Pg [catchN p4] [(some 3,.pointer (some ⟨p4,0,none⟩))] R (wrongE n) w:=by
 unfold outQ
 refine catchN_pan o4 ?_
 have o5:=heap_set (o:=0) o4 (.int .i64 n)
 unfold endM retV resOne
 simp only
 simp (disch:=try exact DI) only [↓PR,QR,simprocAttr,(cells_of_heap o5).1]
 exact h
structure Save2 (p c:Nat) (w w':World):Prop where
 os:w'.os=w.os
 tape:w'.tape=w.tape
 output:w'.output=w.output
 size:w.heap.size≤w'.heap.size
 block:∀ k,k < w.heap.size→k≠p→k≠c→w'.heap[k]?=w.heap[k]?
theorem Save2.of {p c:Nat} {w w':World} (h:Save p (p+1) w w'):Save2 p c w w':=⟨h.os,h.tape,h.output,h.size,fun k hk h1 h2=>h.block k hk (by omega)⟩
theorem Save2.setCell {p c:Nat} {w w':World} (h:Save2 p c w w') (o:Nat) (v:Value):Save2 p c w (w'.setCell ⟨c,o,none⟩ v):=⟨h.os,h.tape,h.output,by rw [World.size_setCell];exact h.size,fun k hk h1 h2=>(Only.setCell w' c o v k h2).trans (h.block k hk h1 h2)⟩
def AllR (w1:World) (p c:Nat) (lines:List ByteArray) (lv:Value) (Φ:World→Nat→Prop) (Ψ:World→Nat→Prop):Ending→World→Prop:=fun e w2=>Save2 p c w1 w2∧((∃ at_ ws B,e = .returned (.tuple #[])∧Rd w2 p lines at_ ws lv B∧at_≤lines.length∧Φ w2 at_)∨∃ n:Nat,e = .panicked (wrongE (n:Int))∧Ψ w2 n)
theorem mem_cutL {c:UInt8}:∀ {l:List UInt8} {x:List UInt8},x∈cutL c l→x.length≤l.length
 | [],x,h=>by
  have:x=[]:=by simpa [cutL] using h
  subst this
  exact Nat.le_refl _
 | b::l,x,h=>by
  unfold cutL at h
  split at h
  · rcases List.mem_cons.1 h with rfl | h
    · exact Nat.zero_le _
    · exact Nat.le_succ_of_le (mem_cutL h)
  · split at h
    · have:x=[b]:=by simpa using h
      subst this
      simp
    · rename_i y r hy
      rcases List.mem_cons.1 h with rfl | h
      · have:=mem_cutL (l:=l) (x:=y) (by rw [hy];exact List.mem_cons_self ..)
        simp only [List.length_cons];omega
      · have:=mem_cutL (l:=l) (x:=x) (by rw [hy];exact List.mem_cons_of_mem _ h)
        simp only [List.length_cons];omega
theorem len_cutL {c:UInt8}:∀ (l:List UInt8),(cutL c l).length≤l.length+1
 | []=>by simp [cutL]
 | b::l=>by
  have ih:=len_cutL (c:=c) l
  unfold cutL
  split
  · simp only [List.length_cons];omega
  · split
    · simp
    · rename_i y r hy
      rw [hy] at ih
      simp only [List.length_cons] at ih ⊢
      omega
theorem lines_small (s:ByteArray):(cutW 10 s).length≤s.size+1∧∀ x∈cutW 10 s,x.size≤s.size:=by
 have hs:s.data.toList.length=s.size:=by rw [Array.length_toList];rfl
 unfold cutW
 refine ⟨by rw [List.length_map,← hs];exact len_cutL _,fun x hx=>?_⟩
 obtain ⟨y,hy,rfl⟩:=List.mem_map.1 hx
 have:=mem_cutL hy
 rw [hs] at this
 exact this
theorem read_ret {w0:World} {text:ByteArray} {g:FuncId} {caps:Array Value} {c:Nat} {Φ Ψ:World→Nat→Prop} (hE:EnvOK w0) (hz:text.size≤90000) (hg:Callable Pg g) (hc:c < w0.heap.size)
 (h:∀ w1 p lv B,Ext w0 w1→w0.heap.size < p→p < w1.heap.size→Rd w1 p (cutW 10 text) 0 [] lv B→B < w1.heap.size→c≠B→(∀ A n c',lv = .slice (some A) n c'→A.block < w1.heap.size∧A.block≠c)→Calls Pg g (#[.pointer (some ⟨p,0,none⟩)]++caps) w1 (AllR w1 p c (cutW 10 text) lv Φ Ψ)) :
 Ret Pg 50 #[.string text,.func (.func g) #[] caps] w0 fun r w'=>∃ w2,Save w0.heap.size (w0.heap.size+1) w2 w'∧(∀ b,b < w0.heap.size→b≠c→w'.heap[b]?=w0.heap[b]?)∧w0.heap.size < w2.heap.size∧(w'.os=w0.os∧w'.tape=w0.tape∧w'.output=w0.output)∧((∃ at_,Φ w2 at_∧at_≤(cutW 10 text).length∧r = .int .i64 (if at_ < (cutW 10 text).length then ((at_+1:Nat):Int) else 0))∨∃ n:Nat,Ψ w2 n∧r = .int .i64 (n:Int)):=by
 obtain ⟨hln,hlz⟩:=lines_small text
 generalize hL:cutW 10 text=lines at h hln hlz ⊢
 refine n35s (R:=retR _) ?_;unfold n35
 simp (disch:=try exact DI) only [↓PR,QR,simprocAttr]
 have e0:Ext w0 (World.alloc w0 (.cells #[.int .i64 0] 3)):=(Ext.refl w0).alloc _
 have o4:=heap_new w0 #[.int .i64 0] 3
 have s4:(World.alloc w0 (.cells #[.int .i64 0] 3)).heap.size=w0.heap.size+1:=World.size_alloc ..
 generalize World.alloc w0 _=V at e0 o4 s4 ⊢
 generalize hp4:w0.heap.size=p4 at o4 s4 h hc ⊢
 refine ⟨catchN p4,V,rfl,?_⟩
 show callK _ _ _ _ _ _
 refine callK_ret (Split_ret (hE.ext e0) text 10 (by omega)) ?_
 rintro _ w1 ⟨e1,n,rfl,hsl⟩
 rw [split_cut,hL] at hsl
 unfold n35c3
 simp (disch:=try exact DI) only [↓PR,QR,simprocAttr]
 have op:=heap_new w1 (rdCells (.slice (some ⟨V.heap.size,0,none⟩) n n) (.slice none 0 0) 0).toArray TR
 have e2:Ext w1 (w1.alloc (.cells (rdCells (.slice (some ⟨V.heap.size,0,none⟩) n n) (.slice none 0 0) 0).toArray TR)):=(Ext.refl w1).alloc _
 have s2:(w1.alloc (.cells (rdCells (.slice (some ⟨V.heap.size,0,none⟩) n n) (.slice none 0 0) 0).toArray TR)).heap.size=w1.heap.size+1:=World.size_alloc ..
 have s1:=e1.size
 have hv1:V.heap.size < w1.heap.size:=by
  obtain ⟨x,r,hx⟩:∃ x r,lines=x::r:=by
   cases lines with
   | nil=>exact absurd hL (cutW_ne 10 text)
   | cons x r=>exact ⟨x,r,rfl⟩
  rw [hx] at hsl
  have hnl:n=r.length+1:=by
   obtain ⟨A,c',hv,_⟩:=SliceOf.open hsl
   injection hv
  exact World.block_lt_of_cell? w1 _ (tail_of hnl hsl).2
 generalize w1.alloc _=w3 at op e2 s2 ⊢
 generalize hp:w1.heap.size=p at op s2 ⊢
 have e3:=e1.trans e2
 have hrd:Rd w3 p lines 0 [] (.slice (some ⟨V.heap.size,0,none⟩) n n) p4:=⟨_,op,SliceOf.ext keptStr hsl e2,SliceOf.nil _ _ _,(fun A n c e=>by injection e with e;injection e with e;subst e;show V.heap.size≠p;omega),(fun A n c e=>by cases e),by omega⟩
 rw [callV_func hg]
 simp only [Array.empty_append]
 have E3:=e0.trans e3
 have hk4:∀ {w4:World},Save2 p c w3 w4→w4.heap[p4]?=some (.cells #[.int .i64 0] 3 (0,0)):=fun hs=>(hs.block p4 (by omega) (by omega) (by omega)).trans (e3.obj o4)
 have hbl:∀ {w4 w5:World},Save2 p c w3 w4→(∀ b,b < p4→w5.heap[b]?=w4.heap[b]?)→∀ b,b < p4→b≠c→w5.heap[b]?=w0.heap[b]?:=fun hs h5 b hb hc'=>(h5 b hb).trans ((hs.block b (by omega) (by omega) hc').trans (E3.block b (by omega)))
 refine callK_calls (h w3 p _ p4 E3 (by omega) (by omega) hrd (by omega) (by omega) fun A n c' e=>by injection e with e;injection e with e;subst e;exact ⟨by show V.heap.size < _;omega,by show V.heap.size≠c;omega⟩) (fun v w4 hA=>?_) (fun ch w4 hA=>?_) (fun w4 hA=>?_)
 · obtain ⟨hs,hA⟩:=hA
   rcases hA with ⟨at_,ws,B,he,hr,hat,hΦ⟩ | ⟨n,he,_⟩
   rotate_left
   · cases he
   injection he with he
   subst he
   refine drawK_intro ?_
   have eD:Ext w4 (Sw.drew w4):=(Ext.refl w4).drew
   have hr:=hr.ext eD
   have h4:=eD.obj (hk4 hs)
   have hsz:=hs.size
   generalize Sw.drew w4=D at eD hr h4 ⊢
   obtain ⟨wv,hr⟩:=hr
   have olv:=SliceOf.oneCell hr.ls
   obtain ⟨A,c',hlv,_⟩:=SliceOf.open hr.ls
   injection hlv with hv1' hv2' hv3'
   subst hv2'
   have fin:∀ n:Int,n=(if at_ < lines.length then ((at_+1:Nat):Int) else 0)→outX Pg [catchN p4] [(some 3,.pointer (some ⟨p4,0,none⟩))] (retR fun r w'=>∃ w2,Save p4 (p4+1) w2 w'∧(∀ b,b < p4→b≠c→w'.heap[b]?=w0.heap[b]?)∧p4 < w2.heap.size∧(w'.os=w0.os∧w'.tape=w0.tape∧w'.output=w0.output)∧((∃ at_,Φ w2 at_∧at_≤lines.length∧r = .int .i64 (if at_ < lines.length then ((at_+1:Nat):Int) else 0))∨∃ n:Nat,Ψ w2 n∧r = .int .i64 (n:Int))) (D.setCell ⟨p4,0,none⟩ (.int .i64 n)):=by
    intro n hn
    refine read_fine (heap_set (o:=0) h4 (.int .i64 n)) ⟨_,rfl,w4,?_,?_,by omega,?_,.inl ⟨at_,hΦ,hat,by rw [hn]⟩⟩
    · exact (Save.of_ext eD).setCell (Nat.le_refl _) (Nat.lt_succ_self _) _
    · exact hbl hs fun b hb=>(Only.setCell D p4 0 _ b (by omega)).trans (eD.block b (by omega))
    · exact ⟨eD.os.trans (hs.os.trans E3.os),eD.tape.trans (hs.tape.trans E3.tape),eD.output.trans (hs.output.trans E3.output)⟩
   unfold n35c2
   by_cases hlt:at_ < lines.length
   · have d1:decide ((at_:Int) < (lines.length:Int))=true:=decide_eq_true (by omega)
     have hw:IntKind.i64.wrap ((at_:Int)+1)=((at_+1:Nat):Int):=by rw [wrap_ok (by omega) (by omega)];omega
     simp (disch:=try exact DI) only [↓PR,QR,simprocAttr,(cells_of_heap hr.obj).1,d1,↓n35c1,hw,(cells_of_heap h4).1,(cells_of_heap h4).2]
     exact fin _ (by rw [if_pos hlt])
   · have d1:decide ((at_:Int) < (lines.length:Int))=false:=decide_eq_false (by omega)
     simp (disch:=try exact DI) only [↓PR,QR,simprocAttr,(cells_of_heap hr.obj).1,d1,(cells_of_heap h4).1,(cells_of_heap h4).2]
     exact fin _ (by rw [if_neg hlt])
 · obtain ⟨hs,hA⟩:=hA
   rcases hA with ⟨at_,ws,B,he,hr,hat,hΦ⟩ | ⟨n,he,hΨ⟩
   · cases he
   injection he with he
   subst he
   have h4:=hk4 hs
   have hsz:=hs.size
   refine read_pan h4 ⟨_,rfl,w4,?_,?_,by omega,?_,.inr ⟨n,hΨ,rfl⟩⟩
   · exact (Save.refl _ _ _).setCell (Nat.le_refl _) (Nat.lt_succ_self _) _
   · exact hbl hs fun b hb=>Only.setCell w4 p4 0 _ b (by omega)
   · exact ⟨hs.os.trans E3.os,hs.tape.trans E3.tape,hs.output.trans E3.output⟩
 · obtain ⟨hs,hA⟩:=hA
   rcases hA with ⟨at_,ws,B,he,_⟩ | ⟨n,he,_⟩<;>cases he
def zeroR:RolD:=⟨ByteArray.empty,[],[],[]⟩
def parseP (text:ByteArray):RolD×Int×Int:=match roleP (linesT text) with
 | (none,n)=>(zeroR,(n:Int),6)
 | (some r,n)=>if n < (linesT text).length then (zeroR,((n+1:Nat):Int),6) else if (checkR r).2=0 then (r,0,0) else (zeroR,0,(checkR r).2)
def RolObj (w:World) (c base:Nat) (r:RolD):Prop:=∃ sv cv tv,w.heap[c]?=some (.cells (rolCells r sv cv tv).toArray TRol (0,0))∧OwnE w base 50 3 staCells sv r.states∧OwnE w base 52 2 cntCells cv r.counters∧OwnE w base 71 9 stpCells tv r.steps
theorem RolObj.keep {w w':World} {c base:Nat} {r:RolD} (h:RolObj w c base r) (hc:w'.heap[c]?=w.heap[c]?) (hk:∀ b,base≤b→b < w.heap.size→w'.heap[b]?=w.heap[b]?):RolObj w' c base r:=by
 obtain ⟨sv,cv,tv,ho,h1,h2,h3⟩:=h
 exact ⟨sv,cv,tv,hc.trans ho,OwnE.keep h1 fun b hb=>hk b (World.ownsRow.lt h1 b hb).1 (World.ownsRow.lt h1 b hb).2,OwnE.keep h2 fun b hb=>hk b (World.ownsRow.lt h2 b hb).1 (World.ownsRow.lt h2 b hb).2,OwnE.keep h3 fun b hb=>hk b (World.ownsRow.lt h3 b hb).1 (World.ownsRow.lt h3 b hb).2⟩
theorem own_one {α:Type} {w:World} {base n:Nat} {T:TypeId} {enc:α→List Value} {v:Value} {l:List α} (h:OwnE w base T n enc v l) (hn:∀ x,(enc x).length=n):v.oneCell'=true:=SliceOf.oneCell (h.slice (E:=fun _ _ _=>True) hn (fun _ _=>trivial))
theorem linesT_len (s:ByteArray):(linesT s).length=(cutW 10 s).length:=by unfold linesT;rw [List.length_map]
theorem ParseS1_all {WB w1:World} {p c B:Nat} {text:ByteArray} {lv:Value} {x0 x1 x2 x3:Value} (hE:EnvOK WB) (eB:Ext WB w1) (hb:WB.heap.size≤p) (hz:text.size≤90000) (hp:p < w1.heap.size) (hr:Rd w1 p (cutW 10 text) 0 [] lv B) (hB:B < w1.heap.size) (hl:∀ A n c',lv = .slice (some A) n c'→A.block < w1.heap.size∧A.block≠c) (hcp:c≠p) {base:Nat} (hbs:base≤w1.heap.size) (ho:w1.heap[c]?=some (.cells #[x0,x1,x2,x3] TRol (0,0))) :
 Calls Pg 51 #[.pointer (some ⟨p,0,none⟩),.pointer (some ⟨c,0,none⟩)] w1 (AllR w1 p c (cutW 10 text) lv (fun w2 at_=>∃ r,roleP (linesT text)=(some r,at_)∧RolObj w2 c base r) (fun w2 n=>roleP (linesT text)=(none,n)∧∃ x0 x1 x2 x3,w2.heap[c]?=some (.cells #[x0,x1,x2,x3] TRol (0,0)))):=by
 obtain ⟨hln,hlz⟩:=lines_small text
 refine n22s ?_
 unfold n22
 have hror:=role_ror hE eB hb (fun x hx=>Nat.le_trans (hlz x hx) (by omega)) (by omega) (Nat.zero_le _) hr hB fun A n c' e=>(hl A n c' e).1
 rw [List.drop_zero] at hror
 refine callK_calls hror (fun v w2 hA=>?_) (fun ch w2 hA=>?_) (fun w2 hA=>?_)
 · obtain ⟨hs,hA⟩:=hA
   have hol:=hs.obj ho (by omega)
   cases hrp:roleP ((cutW 10 text).map spW) with
   | mk o n =>
   rw [hrp] at hA
   cases o with
   | none=>cases hA
   | some r =>
   obtain ⟨v',he,⟨sv,cv,tv,hv,h1,h2,h3⟩,ws,B',hr2,hB2,hB3⟩:=hA
   injection he with he
   subst he hv
   have f1:=own_one h1 (fun _=>rfl)
   have f2:=own_one h2 (fun _=>rfl)
   have f3:=own_one h3 (fun _=>rfl)
   simp (disch:=try exact DI) only [↓PR,QR,simprocAttr,(cells_of_heap hol).1,(cells_of_heap hol).2]
   have o5:((((w2.setCell ⟨c,0,none⟩ (.string r.name)).setCell ⟨c,1,none⟩ sv).setCell ⟨c,2,none⟩ cv).setCell ⟨c,3,none⟩ tv).heap[c]?=some (.cells (rolCells r sv cv tv).toArray TRol (0,0)):=by simpa using heap_set (o:=3) (heap_set (o:=2) (heap_set (o:=1) (heap_set (o:=0) hol (.string r.name)) sv) cv) tv
   have hs5:Save2 p c w1 ((((w2.setCell ⟨c,0,none⟩ (.string r.name)).setCell ⟨c,1,none⟩ sv).setCell ⟨c,2,none⟩ cv).setCell ⟨c,3,none⟩ tv):=((((Save2.of hs).setCell _ _).setCell _ _).setCell _ _).setCell _ _
   have hb5:∀ b,b≠c→((((w2.setCell ⟨c,0,none⟩ (.string r.name)).setCell ⟨c,1,none⟩ sv).setCell ⟨c,2,none⟩ cv).setCell ⟨c,3,none⟩ tv).heap[b]?=w2.heap[b]?:=fun b hb=>by simp only [Only.setCell _ c _ _ b hb]
   have hcl:c < w1.heap.size:=(Array.getElem?_eq_some_iff.1 ho).1
   refine ⟨hs5,.inl ⟨n,ws,B',rfl,?_,?_,r,hrp,sv,cv,tv,o5,(OwnE.keep h1 fun b hb=>hb5 b ?_).base hbs,(OwnE.keep h2 fun b hb=>hb5 b ?_).base hbs,(OwnE.keep h3 fun b hb=>hb5 b ?_).base hbs⟩⟩
   · rw [Nat.zero_add] at hr2
     exact hr2.same (hb5 p (by omega)) (hb5 B' (by omega)) fun A n c' e=>hb5 _ (hl A n c' e).2
   · have:=(roleP_read hrp).2.2.2.2.2;rw [List.length_map] at this;exact this
   · have:=(World.ownsRow.lt h1 b hb).1;omega
   · have:=(World.ownsRow.lt h2 b hb).1;omega
   · have:=(World.ownsRow.lt h3 b hb).1;omega
 · obtain ⟨hs,hA⟩:=hA
   cases hrp:roleP ((cutW 10 text).map spW) with
   | mk o n =>
   rw [hrp] at hA
   cases o with
   | some r=>obtain ⟨v',he,_⟩:=hA;cases he
   | none =>
   injection hA with hA
   subst hA
   refine ⟨Save2.of hs,.inr ⟨n,by simp,hrp,x0,x1,x2,x3,hs.obj ho (by omega)⟩⟩
 · obtain ⟨hs,hA⟩:=hA
   cases hrp:roleP ((cutW 10 text).map spW) with
   | mk o n =>
   rw [hrp] at hA
   cases o with
   | some r=>obtain ⟨v',he,_⟩:=hA;cases he
   | none=>cases hA
theorem roleP_pos {L:List (List ByteArray)} {n:Nat} (h:roleP L=(none,n)):0 < n:=by
 match L,h with
 | [],h=>injection h with _ h;omega
 | []::L,h=>injection h with _ h;omega
 | (k::ws)::L,h =>
  by_cases hk:k=kRole
  case neg=>rw [roleP_eq,if_neg hk] at h;injection h with _ h;omega
  subst hk
  rw [roleP_eq,if_pos rfl] at h
  cases hn:rnameP ws with
  | none=>rw [hn] at h;injection h with _ h;omega
  | some nm =>
  rw [hn] at h
  simp only at h
  unfold countersP at h
  cases hc:manyP kCounter cntP L with
  | mk o k1 =>
  rw [hc] at h
  cases o with
  | none=>injection h with _ h;omega
  | some cs =>
  simp only at h
  unfold statesP at h
  cases hs:manyP kState staP (L.drop k1) with
  | mk o k2 =>
  rw [hs] at h
  cases o with
  | none=>injection h with _ h;omega
  | some ss =>
  unfold stepsP at h
  injection h with _ h
  omega
theorem RolOwn.zero (w:World) (base:Nat):RolOwn w base (.agg #[.string ByteArray.empty,.slice none 0 0,.slice none 0 0,.slice none 0 0]) zeroR:=⟨_,_,_,rfl,OwnE.nil _ _ _ _ _,OwnE.nil _ _ _ _ _,OwnE.nil _ _ _ _ _⟩
theorem Parse_ret {w0:World} {text:ByteArray} (hE:EnvOK w0) (hz:text.size≤90000):Ret Pg 19 #[.string text] w0 fun u w'=>(∃ v,u = .tuple #[v,.int .i64 (parseP text).2.1,.int .i64 (parseP text).2.2]∧RolOwn w' w0.heap.size v (parseP text).1)∧Ext w0 w':=by
 obtain ⟨hln,hlz⟩:=lines_small text
 refine n21s (R:=retR _) ?_;unfold n21
 simp (disch:=try exact DI) only [↓PR,QR,simprocAttr]
 have e0:Ext w0 (World.alloc w0 (.cells #[.string ByteArray.empty,.slice none 0 0,.slice none 0 0,.slice none 0 0] TRol)):=(Ext.refl w0).alloc _
 have ho:=heap_new w0 #[.string ByteArray.empty,.slice none 0 0,.slice none 0 0,.slice none 0 0] TRol
 have s0:(World.alloc w0 (.cells #[.string ByteArray.empty,.slice none 0 0,.slice none 0 0,.slice none 0 0] TRol)).heap.size=w0.heap.size+1:=World.size_alloc ..
 generalize World.alloc w0 _=V at e0 ho s0 ⊢
 generalize hc:w0.heap.size=c at ho s0 ⊢
 refine callK_ret (read_ret (c:=c) (caps := #[.pointer (some ⟨c,0,none⟩)]) (Φ:=fun w2 at_=>∃ r,roleP (linesT text)=(some r,at_)∧RolObj w2 c (V.heap.size+1) r) (Ψ:=fun w2 n=>roleP (linesT text)=(none,n)∧∃ x0 x1 x2 x3,w2.heap[c]?=some (.cells #[x0,x1,x2,x3] TRol (0,0))) (hE.ext e0) hz c51 (by omega) fun w1 p lv B eV h1 h2 hr hB hcB hl=>ParseS1_all (hE.ext e0) eV (by omega) hz h2 hr hB hl (by omega) (by omega) (eV.obj ho)) ?_
 rintro t10 w' ⟨w2,hs,hbl,hsz,⟨ho1,ho2,ho3⟩,hcase⟩
 have hcw:w0.heap.size≤c:=Nat.le_of_eq hc
 have e':Ext w0 w':=⟨ho1.trans e0.os,ho2.trans e0.tape,ho3.trans e0.output,by have:=hs.size;omega,fun b hb=>(hbl b (by omega) (by omega)).trans (e0.block b hb)⟩
 have hcs:w'.heap[c]?=w2.heap[c]?:=hs.block c (by omega) (by omega)
 have bad:∀ (n:Nat) (x0 x1 x2 x3:Value),0 < n→parseP text=(zeroR,(n:Int),6)→w'.heap[c]?=some (.cells #[x0,x1,x2,x3] TRol (0,0))→n21c5 (.pointer (some ⟨c,0,none⟩)) (.int .i64 (n:Int)) (retR fun u w'=>(∃ v,u = .tuple #[v,.int .i64 (parseP text).2.1,.int .i64 (parseP text).2.2]∧RolOwn w' c v (parseP text).1)∧Ext w0 w') w':=by
  intro n x0 x1 x2 x3 hn hpp hob
  have d1:decide ((n:Int) > 0)=true:=decide_eq_true (by omega)
  unfold n21c5
  simp (disch:=try exact DI) only [↓PR,QR,simprocAttr,d1,↓n21c4,(cells_of_heap hob).1,(cells_of_heap hob).2]
  refine ⟨⟨_,by rw [hpp],by rw [hpp];exact RolOwn.zero _ _⟩,?_⟩
  exact (((e'.setCell (p:=⟨c,0,none⟩) hcw _).setCell (p:=⟨c,1,none⟩) hcw _).setCell (p:=⟨c,2,none⟩) hcw _).setCell (p:=⟨c,3,none⟩) hcw _
 rcases hcase with ⟨at_,⟨r,hrp,hob⟩,hat,rfl⟩ | ⟨n,⟨hrp,x0,x1,x2,x3,hob⟩,rfl⟩
 · rw [← linesT_len] at hat ⊢
   obtain ⟨hread,lc,ls,lt,hn1,_⟩:=roleP_read hrp
   by_cases hlt:at_ < (linesT text).length
   · rw [if_pos hlt]
     obtain ⟨sv,cv,tv,hob,_⟩:=hob
     exact bad (at_+1) _ _ _ _ (by omega) (by unfold parseP;rw [hrp];simp only;rw [if_pos hlt]) (hcs.trans hob)
   · rw [if_neg hlt]
     have hpp:parseP text=if (checkR r).2=0 then (r,0,0) else (zeroR,0,(checkR r).2):=by unfold parseP;rw [hrp];simp only;rw [if_neg hlt]
     have hob:=(hob.keep hcs fun b hb hb2=>hs.block b hb2 (by omega))
     obtain ⟨sv,cv,tv,hob,h1,h2,h3⟩:=hob
     have f1:=own_one h1 (fun _=>rfl)
     have f2:=own_one h2 (fun _=>rfl)
     have f3:=own_one h3 (fun _=>rfl)
     have hll:=linesT_len text
     unfold n21c5
     simp (disch:=try exact DI) only [↓PR,QR,simprocAttr,(cells_of_heap hob).1]
     refine zcr (Check_ret w' _ r (RolOwn.val ⟨sv,cv,tv,rfl,h1,h2,h3⟩) hread.sm ⟨by omega,by omega,by omega⟩) fun w3 e3=>?_
     have hob3:=e3.obj hob
     have E3:=e'.trans e3
     by_cases hc0:(checkR r).2=0
     · have d1:((checkR r).2 != 0)=false:=by simp [hc0]
       rw [if_pos hc0] at hpp
       simp (disch:=try exact DI) only [↓PR,QR,simprocAttr,↓n21c3,d1,↓n21c2,(cells_of_heap hob3).1,(cells_of_heap hob3).2]
       have hb5:∀ b,b≠c→((((w3.setCell ⟨c,0,none⟩ (.string r.name)).setCell ⟨c,1,none⟩ sv).setCell ⟨c,2,none⟩ cv).setCell ⟨c,3,none⟩ tv).heap[b]?=w3.heap[b]?:=fun b hb=>by simp only [Only.setCell _ c _ _ b hb]
       refine ⟨⟨_,by rw [hpp],?_⟩,?_⟩
       · rw [hpp]
         refine ⟨sv,cv,tv,rfl,(OwnE.keep (h1.ext e3) fun b hb=>hb5 b ?_).base (by omega),(OwnE.keep (h2.ext e3) fun b hb=>hb5 b ?_).base (by omega),(OwnE.keep (h3.ext e3) fun b hb=>hb5 b ?_).base (by omega)⟩
         · have:=(World.ownsRow.lt h1 b hb).1;omega
         · have:=(World.ownsRow.lt h2 b hb).1;omega
         · have:=(World.ownsRow.lt h3 b hb).1;omega
       · exact (((E3.setCell (p:=⟨c,0,none⟩) hcw _).setCell (p:=⟨c,1,none⟩) hcw _).setCell (p:=⟨c,2,none⟩) hcw _).setCell (p:=⟨c,3,none⟩) hcw _
     · have d1:((checkR r).2 != 0)=true:=by simp [hc0]
       rw [if_neg hc0] at hpp
       simp (disch:=try exact DI) only [↓PR,QR,simprocAttr,↓n21c3,d1,↓n21c1,(cells_of_heap hob3).1,(cells_of_heap hob3).2]
       refine ⟨⟨_,by rw [hpp],by rw [hpp];exact RolOwn.zero _ _⟩,?_⟩
       exact (((E3.setCell (p:=⟨c,0,none⟩) hcw _).setCell (p:=⟨c,1,none⟩) hcw _).setCell (p:=⟨c,2,none⟩) hcw _).setCell (p:=⟨c,3,none⟩) hcw _
 · have hn:0 < n:=roleP_pos hrp
   exact bad n _ _ _ _ hn (by unfold parseP;rw [hrp]) (hcs.trans hob)
theorem one_Counter (x:CntD):∀ u∈cntCells x,u.oneCell'=true:=by
 intro u hu
 simp only [List.mem_cons,List.not_mem_nil,or_false] at hu
 rcases hu with rfl | rfl<;>rfl
theorem Clone_Counter_ret (w0:World) (v:Value) (l:List CntD) (hs:SliceOf w0 2 ECnt v l) (hb:l.length≤1048576) :
 Ret Pg 55 #[v] w0 fun r w'=>OwnE w' w0.heap.size 52 2 cntCells r l∧Ext w0 w':=by
 obtain ⟨A,c,rfl,hlc,hcm,hlm,hel⟩:=SliceOf.open hs
 refine n49s (R:=retR _) ?_;unfold n49
 simp (disch:=try exact DI) only [↓PR,QR,simprocAttr]
 cases A with
 | none =>
  have:l=[]:=by
   cases l with
   | nil=>rfl
   | cons x l=>obtain ⟨_,_,_,h,_⟩:=hel 0 x rfl;cases h
  subst this
  simp only [Option.isNone_none]
  simp (disch:=try exact DI) only [↓PR,QR,simprocAttr]
  exact ⟨OwnE.nil _ _ _ _ _,ee⟩
 | some a =>
  simp only [Option.isNone_some]
  simp (disch:=try exact DI) only [↓PR,QR,simprocAttr]
  have hO:=OwnE.new w0 52 2 cntCells [] (fun x=>rfl) (by simp)
  simp only [List.flatMap_nil,List.length_nil] at hO
  have eW:Ext w0 (w0.alloc (.cells #[] 52)):=ee
  have hsz:w0.heap.size≤(w0.alloc (.cells #[] 52)).heap.size:=eW.size
  generalize w0.alloc (.cells #[] 52)=W at hO eW hsz ⊢
  cases hcs:l with
  | nil =>
   subst hcs
   simp only [List.length_nil]
   rw [op_append0 Tryz.underlying23 ty52 _ _ _ _ _ (Nat.le_refl 0)]
   simp (disch:=try exact DI) only [↓PR,QR,simprocAttr]
   exact ⟨hO,eW⟩
  | cons x0 l0 =>
   obtain ⟨b,o,_,hA,_⟩:=hel 0 x0 (by rw [hcs];rfl)
   injection hA with hA
   subst hA
   rw [← hcs]
   refine op_appendE Tryz.underlying23 ty52 rfl (by decide) (fun x=>rfl) (fun x _=>one_Counter x) hO (fun j x hx=>?_) hsz ?_ (by simp;omega) ?_
   · obtain ⟨b',o',cs,hA',hl',hE,rfl⟩:=hel j x hx
     injection hA' with hA'
     injection hA' with h3 h4
     subst h3 h4
     exact hE.ext eW
   · have:=by52
     rw [List.length_nil,Nat.zero_add]
     exact Nat.le_trans (Nat.mul_le_mul hb this) (by decide)
   · intro v' w' ho hg
     simp (disch:=try exact DI) only [↓PR,QR,simprocAttr]
     refine ⟨ho,eW.grown hg ?_⟩
     intro k hk
     have h:=hO.lt k hk
     exact h.1
theorem one_State (x:StaD):∀ u∈staCells x,u.oneCell'=true:=by
 intro u hu
 simp only [List.mem_cons,List.not_mem_nil,or_false] at hu
 rcases hu with rfl | rfl | rfl<;>rfl
theorem Clone_State_ret (w0:World) (v:Value) (l:List StaD) (hs:SliceOf w0 3 ESta v l) (hb:l.length≤1048576) :
 Ret Pg 56 #[v] w0 fun r w'=>OwnE w' w0.heap.size 50 3 staCells r l∧Ext w0 w':=by
 obtain ⟨A,c,rfl,hlc,hcm,hlm,hel⟩:=SliceOf.open hs
 refine n50s (R:=retR _) ?_;unfold n50
 simp (disch:=try exact DI) only [↓PR,QR,simprocAttr]
 cases A with
 | none =>
  have:l=[]:=by
   cases l with
   | nil=>rfl
   | cons x l=>obtain ⟨_,_,_,h,_⟩:=hel 0 x rfl;cases h
  subst this
  simp only [Option.isNone_none]
  simp (disch:=try exact DI) only [↓PR,QR,simprocAttr]
  exact ⟨OwnE.nil _ _ _ _ _,ee⟩
 | some a =>
  simp only [Option.isNone_some]
  simp (disch:=try exact DI) only [↓PR,QR,simprocAttr]
  have hO:=OwnE.new w0 50 3 staCells [] (fun x=>rfl) (by simp)
  simp only [List.flatMap_nil,List.length_nil] at hO
  have eW:Ext w0 (w0.alloc (.cells #[] 50)):=ee
  have hsz:w0.heap.size≤(w0.alloc (.cells #[] 50)).heap.size:=eW.size
  generalize w0.alloc (.cells #[] 50)=W at hO eW hsz ⊢
  cases hcs:l with
  | nil =>
   subst hcs
   simp only [List.length_nil]
   rw [op_append0 Tryz.underlying22 ty50 _ _ _ _ _ (Nat.le_refl 0)]
   simp (disch:=try exact DI) only [↓PR,QR,simprocAttr]
   exact ⟨hO,eW⟩
  | cons x0 l0 =>
   obtain ⟨b,o,_,hA,_⟩:=hel 0 x0 (by rw [hcs];rfl)
   injection hA with hA
   subst hA
   rw [← hcs]
   refine op_appendE Tryz.underlying22 ty50 rfl (by decide) (fun x=>rfl) (fun x _=>one_State x) hO (fun j x hx=>?_) hsz ?_ (by simp;omega) ?_
   · obtain ⟨b',o',cs,hA',hl',hE,rfl⟩:=hel j x hx
     injection hA' with hA'
     injection hA' with h3 h4
     subst h3 h4
     exact hE.ext eW
   · have:=by50
     rw [List.length_nil,Nat.zero_add]
     exact Nat.le_trans (Nat.mul_le_mul hb this) (by decide)
   · intro v' w' ho hg
     simp (disch:=try exact DI) only [↓PR,QR,simprocAttr]
     refine ⟨ho,eW.grown hg ?_⟩
     intro k hk
     have h:=hO.lt k hk
     exact h.1
theorem one_Step (x:StpD):∀ u∈stpCells x,u.oneCell'=true:=by
 intro u hu
 simp only [List.mem_cons,List.not_mem_nil,or_false] at hu
 rcases hu with rfl | rfl | rfl | rfl | rfl | rfl | rfl | rfl | rfl<;>rfl
theorem Clone_Step_ret (w0:World) (v:Value) (l:List StpD) (hs:SliceOf w0 9 EStp v l) (hb:l.length≤1048576) :
 Ret Pg 75 #[v] w0 fun r w'=>OwnE w' w0.heap.size 71 9 stpCells r l∧Ext w0 w':=by
 obtain ⟨A,c,rfl,hlc,hcm,hlm,hel⟩:=SliceOf.open hs
 refine n51s (R:=retR _) ?_;unfold n51
 simp (disch:=try exact DI) only [↓PR,QR,simprocAttr]
 cases A with
 | none =>
  have:l=[]:=by
   cases l with
   | nil=>rfl
   | cons x l=>obtain ⟨_,_,_,h,_⟩:=hel 0 x rfl;cases h
  subst this
  simp only [Option.isNone_none]
  simp (disch:=try exact DI) only [↓PR,QR,simprocAttr]
  exact ⟨OwnE.nil _ _ _ _ _,ee⟩
 | some a =>
  simp only [Option.isNone_some]
  simp (disch:=try exact DI) only [↓PR,QR,simprocAttr]
  have hO:=OwnE.new w0 71 9 stpCells [] (fun x=>rfl) (by simp)
  simp only [List.flatMap_nil,List.length_nil] at hO
  have eW:Ext w0 (w0.alloc (.cells #[] 71)):=ee
  have hsz:w0.heap.size≤(w0.alloc (.cells #[] 71)).heap.size:=eW.size
  generalize w0.alloc (.cells #[] 71)=W at hO eW hsz ⊢
  cases hcs:l with
  | nil =>
   subst hcs
   simp only [List.length_nil]
   rw [op_append0 Tryz.underlying24 ty71 _ _ _ _ _ (Nat.le_refl 0)]
   simp (disch:=try exact DI) only [↓PR,QR,simprocAttr]
   exact ⟨hO,eW⟩
  | cons x0 l0 =>
   obtain ⟨b,o,_,hA,_⟩:=hel 0 x0 (by rw [hcs];rfl)
   injection hA with hA
   subst hA
   rw [← hcs]
   refine op_appendE Tryz.underlying24 ty71 rfl (by decide) (fun x=>rfl) (fun x _=>one_Step x) hO (fun j x hx=>?_) hsz ?_ (by simp;omega) ?_
   · obtain ⟨b',o',cs,hA',hl',hE,rfl⟩:=hel j x hx
     injection hA' with hA'
     injection hA' with h3 h4
     subst h3 h4
     exact hE.ext eW
   · have:=by71
     rw [List.length_nil,Nat.zero_add]
     exact Nat.le_trans (Nat.mul_le_mul hb this) (by decide)
   · intro v' w' ho hg
     simp (disch:=try exact DI) only [↓PR,QR,simprocAttr]
     refine ⟨ho,eW.grown hg ?_⟩
     intro k hk
     have h:=hO.lt k hk
     exact h.1
theorem OwnE.setE {α:Type} {w:World} {lo n g cap len:Nat} {T:TypeId} {enc:α→List Value} {l:List α} (hn:∀ x,(enc x).length=n) (h:OwnE w lo T n enc (.slice (some ⟨g,0,none⟩) len cap) l) {k:Nat} {x y:α} (hk:l[k]?=some x) {j:Nat} (hj:j < n) (u:Value) (hy:enc y=(enc x).set j u) :
 OwnE (w.setCell ⟨g,k*n+j,none⟩ u) lo T n enc (.slice (some ⟨g,0,none⟩) len cap) (l.set k y):=by
 have key:∀ m:List α,OwnE w lo T n (Subtype.val:Cs n→List Value) (.slice (some ⟨g,0,none⟩) len cap) (m.map fun x=>⟨enc x,hn x⟩)↔OwnE w lo T n enc (.slice (some ⟨g,0,none⟩) len cap) m:=fun m=>by
  unfold OwnE
  rw [List.length_map,List.flatMap_map]
 have h1:=OwnE.set ((key l).2 h) (k:=k) (cs:=⟨enc x,hn x⟩) (by rw [List.getElem?_map,hk];rfl) hj u
 have h2:((l.map fun x=>(⟨enc x,hn x⟩:Cs n)).set k ⟨(enc x).set j u,by simp [hn x]⟩)=(l.set k y).map fun x=>⟨enc x,hn x⟩:=by
  rw [List.map_set]
  congr 1
  exact Subtype.ext hy.symm
 rw [h2] at h1
 have key':∀ (w:World) (m:List α),OwnE w lo T n (Subtype.val:Cs n→List Value) (.slice (some ⟨g,0,none⟩) len cap) (m.map fun x=>⟨enc x,hn x⟩)↔OwnE w lo T n enc (.slice (some ⟨g,0,none⟩) len cap) m:=fun w m=>by
  unfold OwnE
  rw [List.length_map,List.flatMap_map]
 exact (key' _ _).1 h1
def n24c1 (t8 t11:Value) (K8:World→Prop) (R:RT) (w:World):Prop :=
 opV Pg (Instr.fieldAt 26 t8 3) (panK R) w fun t83 w =>
 opV Pg (Instr.loadAt 24 t83) (panK R) w fun t84 w =>
 opV Pg (Instr.loadAt 71 t11) (panK R) w fun t85 w =>
 opV Pg (Instr.buildSlice 24 1 #[(0,t85)]) (panK R) w fun t86 w =>
 opV Pg (Builtin.append_ #[24,24] 24 #[t84,t86]) (panK R) w fun t87 w =>
 opV Pg (Instr.fieldAt 26 t8 3) (panK R) w fun t88 w =>
 opU Pg (Instr.storeAt 24 t88 t87) (panK R) w fun w =>
 K8 w
def n24c2 (t8 t11 t54 t81:Value) (next5:KV) (R:RT) (w:World):Prop :=
 opV Pg (Op.unary .not t81) (panK R) w fun t82 w =>
 joinK (fun (w:World) =>
 opV Pg (binS .add 3 true t54 (.int .i64 1)) (panK R) w fun t89 w =>
 next5 t89 w) fun K8 =>
 condP t82 (
 n24c1 t8 t11 K8 R w) (
 K8 w)
def n24c3 (t8 t11 t54:Value) (next5:KV) (R:RT) (w:World):Prop :=
 opV Pg (Instr.fieldAt 26 t8 3) (panK R) w fun t78 w =>
 opV Pg (Instr.loadAt 24 t78) (panK R) w fun t79 w =>
 opV Pg (Instr.loadAt 71 t11) (panK R) w fun t80 w =>
 callK Pg 57 #[t79,t80] (panK R) w fun t81 w =>
 n24c2 t8 t11 t54 t81 next5 R w
def n24c4 (t11 t70 t72 t73:Value) (C9:World→Prop) (K10:World→Prop) (R:RT) (w:World):Prop :=
 opU Pg (Instr.storeAt 69 t73 t70) (panK R) w fun w =>
 C9 w∧(
 qV Pg C9 (Instr.fieldAt 71 t11 4) fun t74 =>
 opU Pg (Instr.storeAt 9 t74 t72) (panK R) w fun w =>
 turnK w fun C11 w =>
 K10 w)
def n24c5 (t11 t71:Value) (C9:World→Prop) (K10:World→Prop) (R:RT) (w:World):Prop :=
 opV Pg (Instr.loadAt 9 t71) (panK R) w fun t72 w =>
 C9 w∧(
 qV Pg C9 (Instr.fieldAt 71 t11 4) fun t74 =>
 opU Pg (Instr.storeAt 9 t74 t72) (panK R) w fun w =>
 turnK w fun C12 w =>
 K10 w)
def n24c6 (t11 t69 t71:Value) (C9:World→Prop) (K10:World→Prop) (R:RT) (w:World):Prop :=
 qV Pg C9 (binS .sub 69 true (.int .i64 3) t69) fun t70 =>
 qV Pg C9 (Instr.fieldAt 71 t11 2) fun t73 =>
 (
 opV Pg (Instr.loadAt 9 t71) (panK R) w fun t72 w =>
 C9 w∧(
 n24c4 t11 t70 t72 t73 C9 K10 R w))∧(
 opU Pg (Instr.storeAt 69 t73 t70) (panK R) w fun w =>
 C9 w∧(
 n24c5 t11 t71 C9 K10 R w))
def n24c7 (t11 t69 t72:Value) (C9:World→Prop) (K10:World→Prop) (R:RT) (w:World):Prop :=
 qV Pg C9 (binS .sub 69 true (.int .i64 3) t69) fun t70 =>
 qV Pg C9 (Instr.fieldAt 71 t11 2) fun t73 =>
 opU Pg (Instr.storeAt 69 t73 t70) (panK R) w fun w =>
 C9 w∧(
 qV Pg C9 (Instr.fieldAt 71 t11 4) fun t74 =>
 opU Pg (Instr.storeAt 9 t74 t72) (panK R) w fun w =>
 turnK w fun C13 w =>
 K10 w)
def n24c8 (t2 t11:Value) (C9:World→Prop) (K7:World→Prop) (R:RT) (w:World):Prop :=
 qV Pg C9 (Instr.fieldAt 71 t11 2) fun t68 =>
 qV Pg C9 (Instr.fieldAt 26 t2 0) fun t71 =>
 joinK (fun (w:World) =>
 K7 w) fun K10 =>
 (
 opV Pg (Instr.loadAt 69 t68) (panK R) w fun t69 w =>
 C9 w∧(
 n24c6 t11 t69 t71 C9 K10 R w))∧(
 opV Pg (Instr.loadAt 9 t71) (panK R) w fun t72 w =>
 C9 w∧(
 opV Pg (Instr.loadAt 69 t68) (panK R) w fun t69 w =>
 C9 w∧(
 n24c7 t11 t69 t72 C9 K10 R w)))
def n24c9 (t4:Value) (R:RT) (w:World):Prop :=
 opV Pg (Instr.build 26 #[]) (panK R) w fun t67 w =>
 opU Pg (Instr.storeAt 26 t4 t67) (panK R) w fun w =>
 qW Pg 26 t4 w fun r0 =>
 R (.returned (.tuple #[r0,(.int .i64 2)])) w
def n24c10 (t1 t2 t4 t11:Value) (K7:World→Prop) (R:RT) (w:World):Prop :=
 opV Pg (Instr.fieldAt 71 t11 4) (panK R) w fun t63 w =>
 opV Pg (Instr.loadAt 9 t63) (panK R) w fun t64 w =>
 opV Pg (binS .neq 9 false t64 t1) (panK R) w fun t66 w =>
 condP t66 (
 n24c9 t4 R w) (
 drawK w fun C9 w =>
 n24c8 t2 t11 C9 K7 R w)
def n24c11 (t11 t59:Value) (K7:World→Prop) (R:RT) (w:World):Prop :=
 opV Pg (binS .eql 69 true t59 (.int .i64 3)) (panK R) w fun t76 w =>
 condP t76 (
 opV Pg (Instr.fieldAt 71 t11 2) (panK R) w fun t77 w =>
 opU Pg (Instr.storeAt 69 t77 (.int .i64 4)) (panK R) w fun w =>
 K7 w) (
 K7 w)
def n24c12 (t4 t8:Value) (R:RT) (w:World):Prop :=
 opV Pg (Instr.loadAt 26 t8) (panK R) w fun t90 w =>
 opU Pg (Instr.storeAt 26 t4 t90) (panK R) w fun w =>
 qW Pg 26 t4 w fun r0 =>
 R (.returned (.tuple #[r0,(.int .i64 0)])) w
def n24c13 (t1 t2 t4 t8 t52 t54:Value) (next5:KV) (R:RT) (w:World):Prop :=
 opV Pg (Instr.indexAt 24 t52 t54) (panK R) w fun t56 w =>
 opV Pg (Instr.loadAt 71 t56) (panK R) w fun t57 w =>
 opV Pg (Instr.alloc 71 true (.tuple #[])) (panK R) w fun t11 w =>
 opU Pg (Instr.storeAt 71 t11 t57) (panK R) w fun w =>
 opV Pg (Instr.fieldAt 71 t11 2) (panK R) w fun t58 w =>
 opV Pg (Instr.loadAt 69 t58) (panK R) w fun t59 w =>
 opV Pg (binS .eql 69 true t59 (.int .i64 1)) (panK R) w fun t61 w =>
 joinK (fun (t60:Value) (w:World) =>
 joinK (fun (w:World) =>
 n24c3 t8 t11 t54 next5 R w) fun K7 =>
 condP t60 (
 n24c10 t1 t2 t4 t11 K7 R w) (
 n24c11 t11 t59 K7 R w)) fun K6 =>
 condP t61 (
 K6 t61 w) (
 opV Pg (binS .eql 69 true t59 (.int .i64 2)) (panK R) w fun t62 w =>
 K6 t62 w)
def n24c14 (t1 t2 t4 t8:Value) (R:RT) (w:World):Prop :=
 opV Pg (Instr.fieldAt 26 t2 3) (panK R) w fun t51 w =>
 opV Pg (Instr.loadAt 24 t51) (panK R) w fun t52 w =>
 opV Pg (Builtin.len_ #[24] 3 #[t52]) (panK R) w fun t53 w =>
 loop1 (fun t54 w next5 =>
 opV Pg (binS .lss 3 false t54 t53) (panK R) w fun t55 w =>
 condP t55 (
 n24c13 t1 t2 t4 t8 t52 t54 next5 R w) (
 n24c12 t4 t8 R w)) (.int .i64 0) w
def n24c15 (t8 t42:Value) (next4:KV) (R:RT) (w:World):Prop :=
 opV Pg (Instr.fieldAt 26 t8 1) (panK R) w fun t45 w =>
 opV Pg (Instr.loadAt 22 t45) (panK R) w fun t46 w =>
 opV Pg (Instr.indexAt 22 t46 t42) (panK R) w fun t48 w =>
 opV Pg (Instr.fieldAt 50 t48 2) (panK R) w fun t49 w =>
 opU Pg (Instr.storeAt 3 t49 (.int .i64 0)) (panK R) w fun w =>
 opV Pg (binS .add 3 true t42 (.int .i64 1)) (panK R) w fun t50 w =>
 next4 t50 w
def n24c16 (t1 t2 t4 t8:Value) (R:RT) (w:World):Prop :=
 opV Pg (Instr.fieldAt 26 t8 1) (panK R) w fun t39 w =>
 opV Pg (Instr.loadAt 22 t39) (panK R) w fun t40 w =>
 opV Pg (Builtin.len_ #[22] 3 #[t40]) (panK R) w fun t41 w =>
 loop1 (fun t42 w next4 =>
 opV Pg (binS .lss 3 false t42 t41) (panK R) w fun t43 w =>
 condP t43 (
 n24c15 t8 t42 next4 R w) (
 n24c14 t1 t2 t4 t8 R w)) (.int .i64 0) w
def n24c17 (t1 t34 t37:Value) (C2:World→Prop) (K3:KV) (R:RT) (w:World):Prop :=
 qV Pg C2 (Instr.build 26 #[(0,t1),(2,t34),(1,t37)]) fun t38 =>
 opV Pg (Instr.alloc 26 true (.tuple #[])) (panK R) w fun t8 w =>
 C2 w∧(
 opU Pg (Instr.storeAt 26 t8 t38) (panK R) w fun w =>
 turnK w fun C14 w =>
 K3 t8 w)
def n24c18 (t1 t8 t34 t36:Value) (C2:World→Prop) (K3:KV) (R:RT) (w:World):Prop :=
 callK Pg 56 #[t36] (panK R) w fun t37 w =>
 C2 w∧(
 qV Pg C2 (Instr.build 26 #[(0,t1),(2,t34),(1,t37)]) fun t38 =>
 opU Pg (Instr.storeAt 26 t8 t38) (panK R) w fun w =>
 turnK w fun C15 w =>
 K3 t8 w)
def n24c19 (t1 t34 t36:Value) (C2:World→Prop) (K3:KV) (R:RT) (w:World):Prop :=
 (
 callK Pg 56 #[t36] (panK R) w fun t37 w =>
 C2 w∧(
 n24c17 t1 t34 t37 C2 K3 R w))∧(
 opV Pg (Instr.alloc 26 true (.tuple #[])) (panK R) w fun t8 w =>
 C2 w∧(
 n24c18 t1 t8 t34 t36 C2 K3 R w))
def n24c20 (t1 t8 t34 t36:Value) (C2:World→Prop) (K3:KV) (R:RT) (w:World):Prop :=
 callK Pg 56 #[t36] (panK R) w fun t37 w =>
 C2 w∧(
 qV Pg C2 (Instr.build 26 #[(0,t1),(2,t34),(1,t37)]) fun t38 =>
 opU Pg (Instr.storeAt 26 t8 t38) (panK R) w fun w =>
 turnK w fun C16 w =>
 K3 t8 w)
def n24c21 (t1 t2 t4:Value) (C2:World→Prop) (R:RT) (w:World):Prop :=
 qV Pg C2 (Instr.fieldAt 26 t2 2) fun t32 =>
 qV Pg C2 (Instr.loadAt 23 t32) fun t33 =>
 qV Pg C2 (Instr.fieldAt 26 t2 1) fun t35 =>
 qV Pg C2 (Instr.loadAt 22 t35) fun t36 =>
 joinK (fun (t8:Value) (w:World) =>
 n24c16 t1 t2 t4 t8 R w) fun K3 =>
 (
 callK Pg 55 #[t33] (panK R) w fun t34 w =>
 C2 w∧(
 n24c19 t1 t34 t36 C2 K3 R w))∧(
 opV Pg (Instr.alloc 26 true (.tuple #[])) (panK R) w fun t8 w =>
 C2 w∧(
 callK Pg 55 #[t33] (panK R) w fun t34 w =>
 C2 w∧(
 n24c20 t1 t8 t34 t36 C2 K3 R w)))
def n24c22 (t4:Value) (R:RT) (w:World):Prop :=
 opV Pg (Instr.build 26 #[]) (panK R) w fun t30 w =>
 opU Pg (Instr.storeAt 26 t4 t30) (panK R) w fun w =>
 qW Pg 26 t4 w fun r0 =>
 R (.returned (.tuple #[r0,(.int .i64 2)])) w
def n24c23 (t1 t2 t4 t22:Value) (R:RT) (w:World):Prop :=
 opV Pg (Op.unary .not t22) (panK R) w fun t23 w =>
 joinK (fun (t28:Value) (w:World) =>
 pickK t23 (.bool true) t28 fun t29 =>
 condP t29 (
 n24c22 t4 R w) (
 drawK w fun C2 w =>
 n24c21 t1 t2 t4 C2 R w)) fun K1 =>
 guardP t23 false (
 opV Pg (Instr.fieldAt 26 t2 0) (panK R) w fun t26 w =>
 opV Pg (Instr.loadAt 9 t26) (panK R) w fun t27 w =>
 opV Pg (binS .eql 9 false t1 t27) (panK R) w fun t28 w =>
 K1 t28 w) (
 K1 undef w)
def n24c24 (t1 t2 t4 t14:Value) (R:RT) (w:World):Prop :=
 opV Pg (Instr.extract t14 0) (panK R) w fun t15 w =>
 opV Pg (Instr.extract t14 1) (panK R) w fun t16 w =>
 opV Pg (binS .neq 29 true t16 (.int .i64 0)) (panK R) w fun t18 w =>
 condP t18 (
 opV Pg (Instr.build 26 #[]) (panK R) w fun t19 w =>
 opU Pg (Instr.storeAt 26 t4 t19) (panK R) w fun w =>
 qW Pg 26 t4 w fun r0 =>
 R (.returned (.tuple #[r0,t16])) w) (
 callK Pg 17 #[t1] (panK R) w fun t22 w =>
 n24c23 t1 t2 t4 t22 R w)
def n24 (t0 t1:Value) (R:RT) (w:World):Prop :=
 opV Pg (Instr.box 26 t0) (panK R) w fun t2 w =>
 opV Pg (Instr.alloc 26 true (.tuple #[])) (panK R) w fun t4 w =>
 opV Pg (Instr.loadAt 26 t2) (panK R) w fun t13 w =>
 callK Pg 12 #[t13] (panK R) w fun t14 w =>
 n24c24 t1 t2 t4 t14 R w
set_option maxHeartbeats 40000000 in
theorem n24s {t0 t1:Value} {R:RT} {w:World} (h:n24 t0 t1 R w):Calls Pg 23 #[t0,t1] w R:=by
 refine yD Tryz.func23 ?_
 refine zs<|zr<|yv h fun _ w h=>yv h fun _ w h=>zm<|zn<|zk<|zs<|zs<|zr<|yv h fun _ w h=>yc h c12 fun _ w h=>zm<|yv h fun _ w h=>yv h fun _ w h=>?_
 refine zm<|zm<|zn<|zk<|zs<|zr<|zm<|yb h fun _ w h=>zn<|zk<|yC h (fun h=>zs<|zr<|yB h fun _ w h=>zm<|yu h fun w h=>zm<|zn<|zk<|sim_ret<|sim_then_ret<|body_retCT rfl rfl rfl h) fun h=>sim_skip<|zk<|zs ?_
 refine zs<|sim_regionG<|yG 4<|zm<|yc h c17 fun _ w h=>yv h fun _ w h=>zm<|zn<|yg1 4 3 false [25,26,27,28] 28 h (fun _ T hT h=>?_) fun σ w h=>?_
 · refine zm<|yv h fun _ w h=>yv h fun _ w h=>yb h fun _ w h=>zn ?_
   exact zt hT h
 refine yG 1<|yp h fun _ h=>zn<|sim_end<|zk<|yC h (fun h=>zs<|zr<|yB h fun _ w h=>yu h fun w h=>zm<|zn<|zk<|sim_ret<|sim_then_ret<|body_retCT rfl rfl rfl h) fun h=>sim_skip<|zk<|zs<|yh [8,31,32,33,34,35,36,37,38] h fun C hC h=>yw 0 hC ?_
 refine ye 1 hC h fun _ h=>?_
 refine ye 2 hC h fun _ h=>?_
 refine ye 4 hC h fun _ h=>?_
 refine ye 5 hC h fun _ h=>?_
 refine joinK_elim h (fun K3 hK h=>?_)
 refine sim_dmeet [8,34,37,38] (fun ρ w=>K3 (ρ 8) w) (fun T hT=>?_) (fun σ w h=>?_)
 · obtain ⟨h0,h1⟩:=h
   refine sim_dloud2 3 8 rfl rfl (by kernel_rfl) (fun _ _=>rfl) (fun _ _=>rfl) ?_ ?_
   · have h:=h0
     refine yc h c55 fun _ w h=>zn ?_
     obtain ⟨hC,h⟩:=h
     refine ⟨_,fun _ h=>h,hC,?_⟩
     obtain ⟨h0,h1⟩:=h
     refine sim_dloud2 6 8 rfl rfl (by kernel_rfl) (fun _ _=>rfl) (fun _ _=>rfl) ?_ ?_
     · have h:=h0
       refine yc h c56 fun _ w h=>zn ?_
       obtain ⟨hC,h⟩:=h
       refine ⟨_,fun _ h=>h,hC,?_⟩
       refine ye 7 hC h fun _ h=>?_
       refine yo 8 ?_
       refine yv h fun _ w h=>zn ?_
       obtain ⟨hC,h⟩:=h
       refine ⟨hC,?_⟩
       refine yq 9 1 ?_
       refine yu h fun w h=>zn ?_
       obtain ⟨C14,hC,h⟩:=h
       refine ⟨C14,hC,?_⟩
       refine yz ?_
       exact zt hT h
     have h:=h1
     refine yv h fun _ w h=>zn ?_
     obtain ⟨hC,h⟩:=h
     refine ⟨_,fun _ h=>h,hC,?_⟩
     refine yo 6 ?_
     refine yc h c56 fun _ w h=>zn ?_
     obtain ⟨hC,h⟩:=h
     refine ⟨hC,?_⟩
     refine ye 7 hC h fun _ h=>?_
     refine yq 9 1 ?_
     refine yu h fun w h=>zn ?_
     obtain ⟨C15,hC,h⟩:=h
     refine ⟨C15,hC,?_⟩
     refine yz ?_
     exact zt hT h
   have h:=h1
   refine yv h fun _ w h=>zn ?_
   obtain ⟨hC,h⟩:=h
   refine ⟨_,fun _ h=>h,hC,?_⟩
   refine yo 3 ?_
   refine yc h c55 fun _ w h=>zn ?_
   obtain ⟨hC,h⟩:=h
   refine ⟨hC,?_⟩
   refine yo 6 ?_
   refine yc h c56 fun _ w h=>zn ?_
   obtain ⟨hC,h⟩:=h
   refine ⟨hC,?_⟩
   refine ye 7 hC h fun _ h=>?_
   refine yq 9 1 ?_
   refine yu h fun w h=>zn ?_
   obtain ⟨C16,hC,h⟩:=h
   refine ⟨C16,hC,?_⟩
   refine yz ?_
   exact zt hT h
 subst hK
 refine zk<|zs<|zs<|zr<|yv h fun _ w h=>yv h fun _ w h=>yx h fun _ w h=>zm<|zn<|zk<|sim_block<|yl1 [9,42,43,44,45,46,47,48,49,50] 42 h fun σ w next h=>zs<|zr<|yb h fun _ w h=>?_
 refine zn<|zk<|zs<|yC h (fun h=>?_) fun h=>?_
 · refine sim_skip<|zk<|zs<|sim_block<|zs<|zr<|zm<|zm<|zn<|zk<|zr<|yv h fun _ w h=>yv h fun _ w h=>zm<|yv h fun _ w h=>?_
   exact yv h fun _ w h=>yu h fun w h=>zn<|sim_block_normal<|zk<|zr<|yb h fun _ w h=>zm<|zn<|zk<|⟨rfl,h⟩
 refine sim_exit<|sim_then_exit<|sim_then_exit<|sim_block_hit<|zk<|zs<|zs<|zr<|yv h fun _ w h=>yv h fun _ w h=>yx h fun _ w h=>zm<|zn<|zk<|sim_block ?_
 refine yl1 [5,11,54,55,56,57,58,59,60,61,62,63,64,65,66,67,68,69,70,71,72,73,74,75,76,77,78,79,80,81,82,83,84,85,86,87,88,89] 54 h fun σ w next h=>zs<|zr<|yb h fun _ w h=>zn<|zk<|zs<|yC h (fun h=>?_) fun h=>?_
 · refine sim_skip<|zk<|zs<|sim_block<|zs<|zr<|yv h fun _ w h=>yv h fun _ w h=>yv h fun _ w h=>yu h fun w h=>zn<|zk<|zs<|zs<|zr ?_
   refine yv h fun _ w h=>yv h fun _ w h=>zn<|zk<|sim_block<|zs<|zs<|zr<|yb h fun _ w h=>zm<|zn<|zk<|yJ1 [60,62] 60 h (fun _ _ hkK6 h=>?_) fun σ w h=>?_
   · refine yC h (fun h=>?_) fun h=>?_
     · refine sim_skip<|zk ?_
       exact zt hkK6 h
     refine zr<|yb h fun _ w h=>zm<|zn<|zk ?_
     exact zt hkK6 h
   refine zk<|yJ0 [5,63,64,65,66,67,68,69,70,71,72,73,74,75,76,77] h (fun _ _ hkK7 h=>?_) fun σ w h=>?_
   · refine yC h (fun h=>?_) fun h=>?_
     · refine zs<|zs<|zr<|yv h fun _ w h=>yv h fun _ w h=>zm<|yb h fun _ w h=>zn<|zk<|yC h (fun h=>?_) fun h=>?_
       · refine zs<|zr<|yB h fun _ w h=>yu h fun w h=>zm<|zn<|zk<|sim_ret<|sim_then_ret<|sim_then_ret<|sim_block_ret<|sim_then_ret<|sim_block_ret<|sim_then_ret<|sim_then_ret ?_
         exact sim_block_ret<|sim_then_ret<|body_retCT rfl rfl rfl h
       refine sim_skip<|zk<|yh [68,69,70,71,72,73,74] h fun C hC h=>ye 0 hC h fun _ h=>?_
       refine ye 3 hC h fun _ h=>?_
       refine joinK_elim h (fun K10 hK h=>?_)
       refine sim_dmeet [69,70,72,73,74] (fun ρ w=>K10 w) (fun T hT=>?_) (fun σ w h=>?_)
       · obtain ⟨h0,h1⟩:=h
         refine sim_dloud2 1 4 rfl rfl (by kernel_rfl) (fun _ _=>rfl) (fun _ _=>rfl) ?_ ?_
         · have h:=h0
           refine yv h fun _ w h=>zn ?_
           obtain ⟨hC,h⟩:=h
           refine ⟨_,fun _ h=>h,hC,?_⟩
           refine ye 2 hC h fun _ h=>?_
           refine ye 5 hC h fun _ h=>?_
           obtain ⟨h0,h1⟩:=h
           refine sim_dloud2 4 6 rfl rfl (by kernel_rfl) (fun _ _=>rfl) (fun _ _=>rfl) ?_ ?_
           · have h:=h0
             refine yv h fun _ w h=>zn ?_
             obtain ⟨hC,h⟩:=h
             refine ⟨_,fun _ h=>h,hC,?_⟩
             refine yo 6 ?_
             refine yu h fun w h=>zn ?_
             obtain ⟨hC,h⟩:=h
             refine ⟨hC,?_⟩
             refine ye 7 hC h fun _ h=>?_
             refine yq 8 1 ?_
             refine yu h fun w h=>zn ?_
             obtain ⟨C11,hC,h⟩:=h
             refine ⟨C11,hC,?_⟩
             refine yz ?_
             exact zt hT h
           have h:=h1
           refine yu h fun w h=>zn ?_
           obtain ⟨hC,h⟩:=h
           refine ⟨_,fun _ h=>h,hC,?_⟩
           refine yo 4 ?_
           refine yv h fun _ w h=>zn ?_
           obtain ⟨hC,h⟩:=h
           refine ⟨hC,?_⟩
           refine ye 7 hC h fun _ h=>?_
           refine yq 8 1 ?_
           refine yu h fun w h=>zn ?_
           obtain ⟨C12,hC,h⟩:=h
           refine ⟨C12,hC,?_⟩
           refine yz ?_
           exact zt hT h
         have h:=h1
         refine yv h fun _ w h=>zn ?_
         obtain ⟨hC,h⟩:=h
         refine ⟨_,fun _ h=>h,hC,?_⟩
         refine yo 1 ?_
         refine yv h fun _ w h=>zn ?_
         obtain ⟨hC,h⟩:=h
         refine ⟨hC,?_⟩
         refine ye 2 hC h fun _ h=>?_
         refine ye 5 hC h fun _ h=>?_
         refine yo 6 ?_
         refine yu h fun w h=>zn ?_
         obtain ⟨hC,h⟩:=h
         refine ⟨hC,?_⟩
         refine ye 7 hC h fun _ h=>?_
         refine yq 8 1 ?_
         refine yu h fun w h=>zn ?_
         obtain ⟨C13,hC,h⟩:=h
         refine ⟨C13,hC,?_⟩
         refine yz ?_
         exact zt hT h
       subst hK
       refine zk ?_
       exact zt hkK7 h
     refine zs<|zr<|yb h fun _ w h=>zm<|zn<|zk<|yC h (fun h=>?_) fun h=>?_
     · refine zr<|yv h fun _ w h=>yu h fun w h=>zn<|zk ?_
       exact zt hkK7 h
     refine sim_skip<|zk ?_
     exact zt hkK7 h
   refine sim_block_normal<|zk<|zs<|zr<|yv h fun _ w h=>yv h fun _ w h=>yv h fun _ w h=>yc h c57 fun _ w h=>yv h fun _ w h=>zn<|zk<|yJ0 [83,84,85,86,87,88] h (fun _ _ hkK8 h=>?_) fun σ w h=>?_
   · refine yC h (fun h=>?_) fun h=>?_
     · refine zr<|yv h fun _ w h=>yv h fun _ w h=>yv h fun _ w h=>yS h fun _ w h=>yx h fun _ w h=>yv h fun _ w h=>yu h fun w h=>zn<|zk ?_
       exact zt hkK8 h
     refine sim_skip<|zk ?_
     exact zt hkK8 h
   exact sim_block_normal<|zk<|zr<|yb h fun _ w h=>zm<|zn<|zk<|⟨rfl,h⟩
 exact sim_exit<|sim_then_exit<|sim_then_exit<|sim_block_hit<|zk<|zs<|zr<|yv h fun _ w h=>yu h fun w h=>zm<|zn<|zk<|sim_ret<|body_retCT rfl rfl rfl h
def flipS (nm:ByteArray) (s:StpD):StpD:=if speaksB s.kind then { s with kind:=3 - s.kind,peer:=nm } else if s.kind=3 then { s with kind:=4 } else s
def addS (l:List StpD) (x:StpD):List StpD:=if l.any (fun y=>decide (x=y)) then l else l++[x]
def turnL (nm peer:ByteArray):List StpD→List StpD→Option (List StpD)
 | acc,[]=>some acc
 | acc,s::l=>if speaksB s.kind&&decide (s.peer≠peer) then none else turnL nm peer (addS acc (flipS nm s)) l
def still (x:StaD):StaD:={ x with wait:=0 }
def turnP (r:RolD) (peer:ByteArray):RolD×Int:=if (checkR r).2=0 then (if nameB peer&&decide (peer≠r.name) then (match turnL r.name peer [] r.steps with
 | none=>(zeroR,2)
 | some l=>(⟨peer,r.states.map still,r.counters,l⟩,0)) else (zeroR,2)) else (zeroR,(checkR r).2)
section
variable {w0 A W:World} {p2 p4 q:Nat} {r:RolD} {sv cv tv sv' cv':Value} {peer:ByteArray} {v:Value}
abbrev TurR (w0:World) (r:RolD) (peer:ByteArray):Ending→World→Prop:=retR fun u w'=>(∃ x,u = .tuple #[x,.int .i64 (turnP r peer).2]∧RolOwn w' w0.heap.size x (turnP r peer).1)∧Ext w0 w'
theorem four_ext {a w:World} {p:Nat} (e:Ext a w) (hp:a.heap.size≤p) (v0 v1 v2 v3:Value):Ext a ((((w.setCell ⟨p,0,none⟩ v0).setCell ⟨p,1,none⟩ v1).setCell ⟨p,2,none⟩ v2).setCell ⟨p,3,none⟩ v3):=(((e.setCell (p:=⟨p,0,none⟩) hp _).setCell (p:=⟨p,1,none⟩) hp _).setCell (p:=⟨p,2,none⟩) hp _).setCell (p:=⟨p,3,none⟩) hp _
theorem four_only (w:World) (p:Nat) (v0 v1 v2 v3:Value) {b:Nat} (hb:b≠p):((((w.setCell ⟨p,0,none⟩ v0).setCell ⟨p,1,none⟩ v1).setCell ⟨p,2,none⟩ v2).setCell ⟨p,3,none⟩ v3).heap[b]?=w.heap[b]?:=by simp only [Only.setCell _ p _ _ b hb]
theorem four_obj {w:World} {p:Nat} {T:TypeId} {u0 u1 u2 u3:Value} (h:w.heap[p]?=some (.cells #[u0,u1,u2,u3] T (0,0))) (v0 v1 v2 v3:Value):((((w.setCell ⟨p,0,none⟩ v0).setCell ⟨p,1,none⟩ v1).setCell ⟨p,2,none⟩ v2).setCell ⟨p,3,none⟩ v3).heap[p]?=some (.cells #[v0,v1,v2,v3] T (0,0)):=by simpa using heap_set (o:=3) (heap_set (o:=2) (heap_set (o:=1) (heap_set (o:=0) h v0) v1) v2) v3
theorem turn_steps (hA:Ext w0 A) (hp2:A.heap[p2]?=some (.cells (rolCells r sv cv tv).toArray TRol (0,0))) (hp4:A.heap[p4]?=some (.cells #[.string ByteArray.empty,.slice none 0 0,.slice none 0 0,.slice none 0 0] TRol (0,0))) (h4:w0.heap.size≤p4) (hT:StpsOf A tv r.steps) (hl:r.steps.length≤100000)
 (hc0:(checkR r).2=0) (hpe:(nameB peer&&decide (peer≠r.name))=true) (eW:Ext A W) (hq:W.heap[q]?=some (.cells #[.string peer,sv',cv',.slice none 0 0] TRol (0,0))) (hqA:A.heap.size≤q) (hS:OwnE W A.heap.size 50 3 staCells sv' (r.states.map still)) (hC:OwnE W A.heap.size 52 2 cntCells cv' r.counters)
 (hSq:∀ b,sv'.ownBlock=some b→b≠q) (hCq:∀ b,cv'.ownBlock=some b→b≠q) :
 n24c14 (.string peer) (.pointer (some ⟨p2,0,none⟩)) (.pointer (some ⟨p4,0,none⟩)) (.pointer (some ⟨q,0,none⟩)) (TurR w0 r peer) W:=by
 have hp4A:p4 < A.heap.size:=(Array.getElem?_eq_some_iff.1 hp4).1
 have hqW:q < W.heap.size:=(Array.getElem?_eq_some_iff.1 hq).1
 have zA:=hA.size
 have zW:=eW.size
 have hT0:=hT
 obtain ⟨TA,tc,rfl,_,_,_,hel⟩:=SliceOf.open hT
 have ocs:=own_one hS (fun _=>rfl)
 have occ:=own_one hC (fun _=>rfl)
 unfold n24c14
 simp (disch:=try exact DI) only [↓PR,QR,simprocAttr,(cells_of_heap (eW.obj hp2)).1]
 refine loop1_intro (fun a w=>∃ (k:Nat) (acc:List StpD) (vv:Value),a = .int .i64 k∧k≤r.steps.length∧Ext A w∧W.heap.size≤w.heap.size∧(∀ b,b < W.heap.size→b≠q→w.heap[b]?=W.heap[b]?)∧w.heap[q]?=some (.cells #[.string peer,sv',cv',vv] TRol (0,0))∧OwnE w W.heap.size 71 9 stpCells vv acc∧acc.length≤k∧turnL r.name peer [] r.steps=turnL r.name peer acc (r.steps.drop k)) (fun a _=>r.steps.length - (intOf a).toNat) ⟨0,[],_,rfl,by omega,eW,Nat.le_refl _,fun _ _ _=>rfl,hq,OwnE.nil _ _ _ _ _,by simp,rfl⟩ ?_
 rintro _ w ⟨k,acc,vv,rfl,hk,e,hz,hkp,hqw,hO,hal,htl⟩
 have ocv:=own_one hO (fun _=>rfl)
 by_cases hlt:k < r.steps.length
 · obtain ⟨x,hx⟩:=getElem?_lt hlt
   obtain ⟨b,o,cs,rfl,_,hE,rfl⟩:=hel k x hx
   have dk:(k:Int) < (r.steps.length:Int):=by omega
   have d1:decide ((k:Int) < (r.steps.length:Int))=true:=decide_eq_true dk
   have hw:IntKind.i64.wrap ((k:Int)+1)=((k+1:Nat):Int):=by rw [wrap_ok (by omega) (by omega)];omega
   rw [List.drop_eq_getElem_cons hlt] at htl
   have hxg:r.steps[k]=x:=by rw [List.getElem?_eq_getElem hlt] at hx;injection hx
   rw [hxg,turnL] at htl
   simp (disch:=try exact DI) only [↓PR,QR,simprocAttr,d1,↓n24c13,hE.c9 e]
   generalize hV:World.alloc w _=V
   have eV:Ext w V:=by rw [← hV];exact (Ext.refl w).alloc _
   have oV:V.heap[w.heap.size]?=some (.cells (stpCells x).toArray 71 (0,0)):=by rw [← hV];exact heap_new _ _ _
   have sV:V.heap.size=w.heap.size+1:=by rw [← hV];exact World.size_alloc ..
   clear hV
   generalize hps:w.heap.size=ps at oV sV hz ⊢
   have k1:(x.kind == 1)=decide (x.kind=1):=by rw [Bool.eq_iff_iff];simp
   have k2:(x.kind == 2)=decide (x.kind=2):=by rw [Bool.eq_iff_iff];simp
   have k3:(x.kind == 3)=decide (x.kind=3):=by rw [Bool.eq_iff_iff];simp
   have fin:∀ (y:StpD) (u:World),y=flipS r.name x→turnL r.name peer [] r.steps=turnL r.name peer (addS acc y) (r.steps.drop (k+1))→Ext w u→u.heap[ps]?=some (.cells (stpCells y).toArray 71 (0,0))→n24c3 (.pointer (some ⟨q,0,none⟩)) (.pointer (some ⟨ps,0,none⟩)) (.int .i64 (k:Int)) (fun a w'=>(∃ (k:Nat) (acc:List StpD) (vv:Value),a = .int .i64 k∧k≤r.steps.length∧Ext A w'∧W.heap.size≤w'.heap.size∧(∀ b,b < W.heap.size→b≠q→w'.heap[b]?=W.heap[b]?)∧w'.heap[q]?=some (.cells #[.string peer,sv',cv',vv] TRol (0,0))∧OwnE w' W.heap.size 71 9 stpCells vv acc∧acc.length≤k∧turnL r.name peer [] r.steps=turnL r.name peer acc (r.steps.drop k))∧r.steps.length - (intOf a).toNat < r.steps.length - (intOf (Value.int .i64 (k:Int))).toNat) (TurR w0 r peer) u:=by
    intro y u hy htl eu ou
    have hms:=meas_lt (kd := .i64) hlt
    have hqu:=eu.obj hqw
    unfold n24c3
    simp (disch:=try exact DI) only [↓PR,QR,simprocAttr,(cells_of_heap hqu).1,(cells_of_heap ou).1]
    refine zcr (Contains_Step_ret u vv acc y ((hO.ext eu).slice (fun _=>rfl) (fun _ _=>rfl))) fun w1 e1=>?_
    have e01:=eu.trans e1
    have hq1:=e1.obj hqu
    have z1:=e01.size
    have keep1:∀ b,b < W.heap.size→b≠q→w1.heap[b]?=W.heap[b]?:=fun b hb hbq=>(e01.block b (by omega)).trans (hkp b hb hbq)
    unfold n24c2
    cases hany:acc.any (fun z=>decide (y=z)) with
    | true =>
     have hadd:addS acc y=acc:=by unfold addS;rw [hany,if_pos rfl]
     rw [hadd] at htl
     simp (disch:=try exact DI) only [↓PR,QR,simprocAttr,hw]
     exact ⟨⟨k+1,acc,vv,rfl,by omega,e.trans e01,by omega,keep1,hq1,hO.ext e01,by omega,htl⟩,hms⟩
    | false =>
     have hadd:addS acc y=acc++[y]:=by unfold addS;rw [hany,if_neg (by simp)]
     rw [hadd] at htl
     simp (disch:=try exact DI) only [↓PR,QR,simprocAttr,↓n24c1,(cells_of_heap hq1).1,(cells_of_heap (e1.obj ou)).1]
     generalize hY:World.alloc w1 _=Y
     have eY:Ext w1 Y:=by rw [← hY];exact (Ext.refl w1).alloc _
     have oY:ElemAt Y w1.heap.size 0 (stpCells y):=by rw [← hY];exact ElemAt.new _ _
     clear hY
     have e0Y:=e01.trans eY
     have zY:=e0Y.size
     have hby:=by71
     refine op_appendL (enc:=stpCells) (l':=[y]) Tryz.underlying24 ty71 rfl (by decide) (fun _=>rfl) (fun x _ u hu=>one_Step x u hu) (hO.ext e0Y) (o:=0) (fun j x hx=>?_) (by omega) (by simp) ?_ (by simp;omega) ?_
     · cases j with
       | zero =>
        simp only [List.getElem?_cons_zero,Option.some.injEq] at hx
        subst hx
        simpa using oY
       | succ j=>simp at hx
     · simp only [List.length_cons,List.length_nil]
       have:acc.length+1≤200000:=by omega
       exact Nat.le_trans (Nat.mul_le_mul this hby) (by decide)
     · intro g cap w4 hO4 hg hgg hgl
       have hrow:∀ b,vv.ownBlock=some b→W.heap.size≤b:=fun b hb=>(World.ownsRow.lt hO b hb).1
       have z4:=hg.size
       have sm:∀ b,b < W.heap.size→w4.heap[b]?=Y.heap[b]?:=fun b hb=>hg.block b (by omega) fun e=>by have:=hrow b e.symm;omega
       have hgW:W.heap.size≤g:=by
        rcases hgg with e | e
        · exact hrow g e
        · omega
       have hq4:w4.heap[q]?=some (.cells #[.string peer,sv',cv',vv] TRol (0,0)):=(sm q hqW).trans (eY.obj hq1)
       simp (disch:=try exact DI) only [↓PR,QR,simprocAttr,(cells_of_heap hq4).1,(cells_of_heap hq4).2,hw]
       have hq5:(w4.setCell ⟨q,3,none⟩ (.slice (some ⟨g,0,none⟩) (acc.length+[y].length) cap)).heap[q]?=some (.cells #[.string peer,sv',cv',.slice (some ⟨g,0,none⟩) (acc.length+[y].length) cap] TRol (0,0)):=by simpa using heap_set (o:=3) hq4 (.slice (some ⟨g,0,none⟩) (acc.length+[y].length) cap)
       refine ⟨⟨k+1,acc++[y],_,rfl,by omega,?_,by first | omega | (simp only [World.size_setCell];omega),fun b hb hbq=>?_,hq5,OwnE.keep hO4 fun b hb=>?_,by simp;omega,htl⟩,hms⟩
       · exact (((e.trans e0Y).grown hg fun b hb=>by have:=hrow b hb;omega)).setCell (p:=⟨q,3,none⟩) hqA _
       · exact (Only.setCell w4 q 3 _ b hbq).trans ((sm b hb).trans ((eY.block b (by omega)).trans (keep1 b hb hbq)))
       · injection hb with hb
         have hb:g=b:=hb
         exact Only.setCell w4 q 3 _ b (by omega)
   have fl1:∀ kd:Int,speaksB kd=true→kd=1∨kd=2:=fun kd h=>by unfold speaksB at h;simpa using h
   cases hsp:speaksB x.kind with
   | true =>
    rw [hsp,Bool.true_and] at htl
    have hkk:=fl1 _ hsp
    have cond:(decide (x.kind=1)||decide (x.kind=2))=true:=hsp
    have c6:n24c10 (.string peer) (.pointer (some ⟨p2,0,none⟩)) (.pointer (some ⟨p4,0,none⟩)) (.pointer (some ⟨ps,0,none⟩)) (fun w=>n24c3 (.pointer (some ⟨q,0,none⟩)) (.pointer (some ⟨ps,0,none⟩)) (.int .i64 (k:Int)) (fun a w'=>(∃ (k:Nat) (acc:List StpD) (vv:Value),a = .int .i64 k∧k≤r.steps.length∧Ext A w'∧W.heap.size≤w'.heap.size∧(∀ b,b < W.heap.size→b≠q→w'.heap[b]?=W.heap[b]?)∧w'.heap[q]?=some (.cells #[.string peer,sv',cv',vv] TRol (0,0))∧OwnE w' W.heap.size 71 9 stpCells vv acc∧acc.length≤k∧turnL r.name peer [] r.steps=turnL r.name peer acc (r.steps.drop k))∧r.steps.length - (intOf a).toNat < r.steps.length - (intOf (Value.int .i64 (k:Int))).toNat) (TurR w0 r peer) w) (TurR w0 r peer) V:=by
     unfold n24c10
     by_cases hpp:x.peer=peer
     · have d2:decide (x.peer=peer)=true:=decide_eq_true hpp
       rw [show decide (x.peer≠peer)=false by simp [hpp],if_neg (by simp)] at htl
       simp (disch:=try exact DI) only [↓PR,QR,simprocAttr,(cells_of_heap oV).1,d2]
       refine drawK_introB ps ps (w1:=V) (fun _ _ _ _=>rfl) ?_
       have eD:Ext V (Sw.drew V):=(Ext.refl V).drew
       have hKD:KB V ps ps (Sw.drew V):=fun _ _ _ _=>rfl
       have oD:=eD.obj oV
       have sD:=eD.size
       generalize Sw.drew V=D at eD hKD oD sD ⊢
       have ewV:=e.trans eV
       have hp2V:=ewV.obj hp2
       have hp2n:p2≠ps:=by
        have:=(Array.getElem?_eq_some_iff.1 hp2).1
        omega
       have hws:IntKind.i64.wrap (3 - x.kind)=3 - x.kind:=wrap_ok (by omega) (by omega)
       have hK2:∀ v,KB V ps ps (D.setCell ⟨ps,2,none⟩ v):=fun v b hb h1 h2=>(Only.setCell D ps 2 v b h1).trans (hKD b hb h1 h2)
       have cD:=cells_of_heap oD
       have cp:=cells_of_heap (eD.obj hp2V)
       have fin2:=fin { x with kind:=3 - x.kind,peer:=r.name } ((D.setCell ⟨ps,2,none⟩ (.int .i64 (3 - x.kind))).setCell ⟨ps,4,none⟩ (.string r.name)) (by unfold flipS;rw [hsp,if_pos rfl]) (by rw [htl];unfold flipS;rw [hsp,if_pos rfl]) (((eV.trans eD).setCell (p:=⟨ps,2,none⟩) (by show w.heap.size≤ps;omega) _).setCell (p:=⟨ps,4,none⟩) (by show w.heap.size≤ps;omega) _) (by simpa using heap_set (o:=4) (heap_set (o:=2) oD (.int .i64 (3 - x.kind))) (.string r.name))
       unfold n24c8
       simp (disch:=try exact DI) only [↓PR,QR,simprocAttr,hKD,cD.1,cD.2,cp.1,true_and]
       refine ⟨?_,?_⟩
       · unfold n24c6
         simp (disch:=try exact DI) only [↓PR,QR,simprocAttr,hKD,hK2,cD.1,cD.2,cp.1,hws,true_and]
         refine ⟨?_,?_⟩
         · unfold n24c4
           simp (disch:=try exact DI) only [↓PR,QR,simprocAttr,hKD,hK2,cD.1,cD.2,true_and]
           refine turnK_intro ?_
           exact fin2
         · unfold n24c5
           simp (disch:=try exact DI) only [↓PR,QR,simprocAttr,hKD,hK2,cD.1,cD.2,cp.1,true_and]
           refine turnK_intro ?_
           exact fin2
       · unfold n24c7
         simp (disch:=try exact DI) only [↓PR,QR,simprocAttr,hKD,hK2,cD.1,cD.2,hws,true_and]
         refine turnK_intro ?_
         exact fin2
     · have d2:decide (x.peer=peer)=false:=decide_eq_false hpp
       rw [show decide (x.peer≠peer)=true by simp [hpp],if_pos rfl] at htl
       have htp:turnP r peer=(zeroR,2):=by unfold turnP;rw [if_pos hc0,if_pos hpe,htl]
       have o4:=(e.trans eV).obj hp4
       simp (disch:=try exact DI) only [↓PR,QR,simprocAttr,(cells_of_heap oV).1,d2,↓n24c9,(cells_of_heap o4).1,(cells_of_heap o4).2]
       exact ⟨⟨_,by rw [htp],by rw [htp];exact RolOwn.zero _ _⟩,four_ext (hA.trans (e.trans eV)) h4 _ _ _ _⟩
    rcases hkk with h1 | h2
    · have d1:decide (x.kind=1)=true:=decide_eq_true h1
      simp (disch:=try exact DI) only [↓PR,QR,simprocAttr,(cells_of_heap oV).1,k1,d1]
      exact c6
    · have d1:decide (x.kind=1)=false:=decide_eq_false (by omega)
      have d2:decide (x.kind=2)=true:=decide_eq_true h2
      simp (disch:=try exact DI) only [↓PR,QR,simprocAttr,(cells_of_heap oV).1,k1,d1,k2,d2]
      exact c6
   | false =>
    rw [hsp,Bool.false_and,if_neg (by simp)] at htl
    have hnk:¬ x.kind=1∧¬ x.kind=2:=by unfold speaksB at hsp;simpa using hsp
    have d1:decide (x.kind=1)=false:=decide_eq_false hnk.1
    have d2:decide (x.kind=2)=false:=decide_eq_false hnk.2
    simp (disch:=try exact DI) only [↓PR,QR,simprocAttr,(cells_of_heap oV).1,k1,d1,k2,d2,↓n24c11,k3]
    by_cases h3:x.kind=3
    · have d3:decide (x.kind=3)=true:=decide_eq_true h3
      simp (disch:=try exact DI) only [↓PR,QR,simprocAttr,d3,(cells_of_heap oV).1,(cells_of_heap oV).2]
      refine fin { x with kind:=4 } _ (by unfold flipS;rw [hsp,if_neg (by simp),if_pos h3]) ?_ ?_ ?_
      · rw [htl];unfold flipS;rw [hsp,if_neg (by simp),if_pos h3]
      · exact eV.setCell (p:=⟨ps,2,none⟩) (by show w.heap.size≤ps;omega) _
      · exact heap_set (o:=2) oV _
    · have d3:decide (x.kind=3)=false:=decide_eq_false h3
      simp (disch:=try exact DI) only [↓PR,QR,simprocAttr,d3]
      refine fin x _ (by unfold flipS;rw [hsp,if_neg (by simp),if_neg h3]) ?_ eV oV
      rw [htl];unfold flipS;rw [hsp,if_neg (by simp),if_neg h3]
 · obtain rfl:k=r.steps.length:=by omega
   have d1:decide ((r.steps.length:Int) < (r.steps.length:Int))=false:=decide_eq_false (by omega)
   rw [List.drop_length,turnL] at htl
   have htp:turnP r peer=(⟨peer,r.states.map still,r.counters,acc⟩,0):=by unfold turnP;rw [if_pos hc0,if_pos hpe,htl]
   have o4:=e.obj hp4
   have hqp:q≠p4:=by omega
   simp (disch:=try exact DI) only [↓PR,QR,simprocAttr,d1,↓n24c12,(cells_of_heap hqw).1,(cells_of_heap o4).1,(cells_of_heap o4).2]
   refine ⟨⟨_,by rw [htp],?_⟩,four_ext (hA.trans e) h4 _ _ _ _⟩
   rw [htp]
   refine ⟨sv',cv',vv,rfl,(OwnE.keep hS fun b hb=>?_).base zA,(OwnE.keep hC fun b hb=>?_).base zA,(OwnE.keep hO fun b hb=>?_).base (by omega)⟩
   · obtain ⟨a1,a2⟩:=World.ownsRow.lt hS b hb
     exact (four_only w p4 _ _ _ _ (by omega)).trans (hkp b a2 (hSq b hb))
   · obtain ⟨a1,a2⟩:=World.ownsRow.lt hC b hb
     exact (four_only w p4 _ _ _ _ (by omega)).trans (hkp b a2 (hCq b hb))
   · obtain ⟨a1,a2⟩:=World.ownsRow.lt hO b hb
     exact four_only w p4 _ _ _ _ (by omega)
end
section
variable {w0 A W:World} {p2 p4 q:Nat} {r:RolD} {sv cv tv sv' cv':Value} {peer:ByteArray} {v:Value}
theorem turn_states (hA:Ext w0 A) (hp2:A.heap[p2]?=some (.cells (rolCells r sv cv tv).toArray TRol (0,0))) (hp4:A.heap[p4]?=some (.cells #[.string ByteArray.empty,.slice none 0 0,.slice none 0 0,.slice none 0 0] TRol (0,0))) (h4:w0.heap.size≤p4) (hT:StpsOf A tv r.steps) (hl:r.steps.length≤100000) (hls:r.states.length≤100000)
 (hc0:(checkR r).2=0) (hpe:(nameB peer&&decide (peer≠r.name))=true) (eW:Ext A W) (hq:W.heap[q]?=some (.cells #[.string peer,sv',cv',.slice none 0 0] TRol (0,0))) (hqA:A.heap.size≤q) (hS:OwnE W A.heap.size 50 3 staCells sv' r.states) (hC:OwnE W A.heap.size 52 2 cntCells cv' r.counters)
 (hSq:∀ b,sv'.ownBlock=some b→b≠q) (hCq:∀ b,cv'.ownBlock=some b→b≠q) (hSC:∀ b,sv'.ownBlock=some b→cv'.ownBlock≠some b) :
 n24c16 (.string peer) (.pointer (some ⟨p2,0,none⟩)) (.pointer (some ⟨p4,0,none⟩)) (.pointer (some ⟨q,0,none⟩)) (TurR w0 r peer) W:=by
 have ocs:=own_one hS (fun _=>rfl)
 have occ:=own_one hC (fun _=>rfl)
 obtain ⟨SA,sc,hsv,_⟩:=SliceOf.open (hS.slice (E:=fun _ _ _=>True) (fun _=>rfl) (fun _ _=>trivial))
 unfold n24c16
 simp (disch:=try exact DI) only [↓PR,QR,simprocAttr,(cells_of_heap hq).1,hsv]
 refine loop1_intro (fun a w=>∃ (k:Nat),a = .int .i64 k∧k≤r.states.length∧Ext A w∧w.heap[q]?=some (.cells #[.string peer,sv',cv',.slice none 0 0] TRol (0,0))∧OwnE w A.heap.size 50 3 staCells sv' ((r.states.take k).map still++r.states.drop k)∧OwnE w A.heap.size 52 2 cntCells cv' r.counters) (fun a _=>r.states.length - (intOf a).toNat) ⟨0,rfl,by omega,eW,hq,by simpa using hS,hC⟩ ?_
 rintro _ w ⟨k,rfl,hk,e,hqw,hSw,hCw⟩
 by_cases hlt:k < r.states.length
 · obtain ⟨x,hx⟩:=getElem?_lt hlt
   have dk:(k:Int) < (r.states.length:Int):=by omega
   have d1:decide ((k:Int) < (r.states.length:Int))=true:=decide_eq_true dk
   have hw:IntKind.i64.wrap ((k:Int)+1)=((k+1:Nat):Int):=by rw [wrap_ok (by omega) (by omega)];omega
   have hlen:((r.states.take k).map still++r.states.drop k).length=r.states.length:=by simp;omega
   have hxk:((r.states.take k).map still++r.states.drop k)[k]?=some x:=by
    rw [List.getElem?_append_right (by simp;omega)]
    simp only [List.length_map,List.length_take]
    rw [show k - min k r.states.length=0 by omega,List.getElem?_drop,Nat.add_zero]
    exact hx
   obtain ⟨g,cap,hgv,hg1,hg2,_,hfr0,hE⟩:=hSw.row (fun _=>rfl) (by omega)
   rw [hlen] at hgv
   have hg':sv'.ownBlock=some g:=by rw [hgv];rfl
   obtain ⟨b1,b2⟩:=World.ownsRow.lt hSw g hg'
   have hc2:w.cell? ⟨g,k*3+2,none⟩=some (.int .i64 x.wait):=hE k x hxk 2 _ rfl
   have hfr:w.frozen? ⟨g,k*3+2,none⟩=false:=hfr0 _
   have hset:OwnE (w.setCell ⟨g,k*3+2,none⟩ (.int .i64 0)) A.heap.size 50 3 staCells sv' (((r.states.take k).map still++r.states.drop k).set k (still x)):=by
    rw [hgv] at hSw ⊢
    exact OwnE.setE (enc:=staCells) (n:=3) (fun _=>rfl) hSw hxk (y:=still x) (j:=2) (by decide) (.int .i64 0) rfl
   have hnext:((r.states.take k).map still++r.states.drop k).set k (still x)=(r.states.take (k+1)).map still++r.states.drop (k+1):=by
    rw [take_snoc hx,List.map_append,List.set_append_right _ _ (by simp;omega)]
    simp only [List.length_map,List.length_take,List.map_cons,List.map_nil]
    rw [show k - min k r.states.length=0 by omega,List.drop_eq_getElem_cons hlt,List.set_cons_zero,List.append_assoc]
    rfl
   rw [hnext] at hset
   have hgq:g≠q:=hSq g hg'
   have hqs:=(Only.setCell w g (k*3+2) (.int .i64 0) q (Ne.symm hgq)).trans hqw
   have hcs:OwnE (w.setCell ⟨g,k*3+2,none⟩ (.int .i64 0)) A.heap.size 52 2 cntCells cv' r.counters:=OwnE.keep hCw fun b hb=>Only.setCell w g _ _ b fun e=>by subst e;exact hSC b hg' hb
   have hes:Ext A (w.setCell ⟨g,k*3+2,none⟩ (.int .i64 0)):=e.setCell (p:=⟨g,k*3+2,none⟩) b1 _
   simp (disch:=try exact DI) only [↓PR,QR,simprocAttr,d1,↓n24c15,(cells_of_heap hqw).1,hgv,hc2,hfr,hw]
   exact ⟨⟨k+1,rfl,by omega,hes,by rw [← hgv];first | exact hqw | exact hqs,by rw [← hgv];exact hset,hcs⟩,meas_lt (kd := .i64) hlt⟩
 · obtain rfl:k=r.states.length:=by omega
   have d1:decide ((r.states.length:Int) < (r.states.length:Int))=false:=decide_eq_false (by omega)
   rw [List.take_length,List.drop_length,List.append_nil] at hSw
   simp (disch:=try exact DI) only [↓PR,QR,simprocAttr,d1]
   exact turn_steps hA hp2 hp4 h4 hT hl hc0 hpe e hqw hqA hSw hCw hSq hCq
theorem Turn_ret (w0:World) (v:Value) (r:RolD) (peer:ByteArray) (hr:RolVal w0 v r) (hsm:∀ x∈r.steps,StpSm x) (hl:r.counters.length≤100000∧r.states.length≤100000∧r.steps.length≤100000):Ret Pg 23 #[v,.string peer] w0 fun u w'=>(∃ x,u = .tuple #[x,.int .i64 (turnP r peer).2]∧RolOwn w' w0.heap.size x (turnP r peer).1)∧Ext w0 w':=by
 obtain ⟨sv,cv,tv,rfl,hS,hC,hT,o1,o2,o3⟩:=hr.op
 obtain ⟨A1,c1,rfl,_⟩:=SliceOf.open hS
 obtain ⟨A2,c2,rfl,_⟩:=SliceOf.open hC
 obtain ⟨A3,c3,rfl,_⟩:=SliceOf.open hT
 refine n24s (R:=retR _) ?_;unfold n24
 rw [op_boxA]
 have hp2:=heap_new w0 (rolCells r (.slice A1 r.states.length c1) (.slice A2 r.counters.length c2) (.slice A3 r.steps.length c3)).toArray TRol
 have eW:Ext w0 (w0.alloc (.cells (rolCells r (.slice A1 r.states.length c1) (.slice A2 r.counters.length c2) (.slice A3 r.steps.length c3)).toArray TRol)):=ee
 have sW:(w0.alloc (.cells (rolCells r (.slice A1 r.states.length c1) (.slice A2 r.counters.length c2) (.slice A3 r.steps.length c3)).toArray TRol)).heap.size=w0.heap.size+1:=World.size_alloc ..
 generalize (w0.alloc (.cells (rolCells r (.slice A1 r.states.length c1) (.slice A2 r.counters.length c2) (.slice A3 r.steps.length c3)).toArray TRol))=W0 at hp2 eW sW ⊢
 simp (disch:=try exact DI) only [↓PR,QR,simprocAttr,fun o=>(cells_of_heap (((Ext.refl W0).alloc o).obj hp2)).1]
 have eV:Ext W0 (World.alloc W0 (.cells #[.string ByteArray.empty,.slice none 0 0,.slice none 0 0,.slice none 0 0] TRol)):=(Ext.refl W0).alloc _
 have hp4:=heap_new W0 #[.string ByteArray.empty,.slice none 0 0,.slice none 0 0,.slice none 0 0] TRol
 generalize World.alloc W0 _=V at eV hp4 ⊢
 generalize hp4e:W0.heap.size=p4 at hp4 ⊢
 have h4:w0.heap.size≤p4:=by omega
 have e0V:=eW.trans eV
 refine zcr (Check_ret V _ r ⟨_,_,_,rfl,hS.ext e0V,hC.ext e0V,hT.ext e0V⟩ hsm ⟨by omega,by omega,by omega⟩) fun w1 e1=>?_
 have E1:=e0V.trans e1
 have q4:=e1.obj hp4
 have q2:=(eV.trans e1).obj hp2
 by_cases hc0:(checkR r).2=0
 case neg =>
  have d1:((checkR r).2 != 0)=true:=by simp [hc0]
  have htp:turnP r peer=(zeroR,(checkR r).2):=by unfold turnP;rw [if_neg hc0]
  simp (disch:=try exact DI) only [↓PR,QR,simprocAttr,↓n24c24,d1,(cells_of_heap q4).1,(cells_of_heap q4).2]
  exact ⟨⟨_,by rw [htp],by rw [htp];exact RolOwn.zero _ _⟩,four_ext E1 h4 _ _ _ _⟩
 have d1:((checkR r).2 != 0)=false:=by simp [hc0]
 simp (disch:=try exact DI) only [↓PR,QR,simprocAttr,↓n24c24,d1]
 refine zcr (Name_ret w1 peer) fun w2 e2=>?_
 have E2:=E1.trans e2
 have q4:=e2.obj q4
 have q2:=e2.obj q2
 have bad:(nameB peer&&decide (peer≠r.name))=false→n24c22 (.pointer (some ⟨p4,0,none⟩)) (TurR w0 r peer) w2:=fun hb=>by
  have htp:turnP r peer=(zeroR,2):=by unfold turnP;rw [if_pos hc0,hb,if_neg (by simp)]
  unfold n24c22
  simp (disch:=try exact DI) only [↓PR,QR,simprocAttr,(cells_of_heap q4).1,(cells_of_heap q4).2]
  exact ⟨⟨_,by rw [htp],by rw [htp];exact RolOwn.zero _ _⟩,four_ext E2 h4 _ _ _ _⟩
 unfold n24c23
 cases hnm:nameB peer with
 | false =>
  simp (disch:=try exact DI) only [↓PR,QR,simprocAttr]
  exact bad (by rw [hnm];rfl)
 | true =>
 by_cases hpn:peer=r.name
 · have d2:decide (peer=r.name)=true:=decide_eq_true hpn
   simp (disch:=try exact DI) only [↓PR,QR,simprocAttr,(cells_of_heap q2).1,d2]
   exact bad (by simp [hpn])
 have d2:decide (peer=r.name)=false:=decide_eq_false hpn
 have hpe:(nameB peer&&decide (peer≠r.name))=true:=by rw [hnm];simp [hpn]
 clear bad
 simp (disch:=try exact DI) only [↓PR,QR,simprocAttr,(cells_of_heap q2).1,d2]
 refine drawK_intro ?_
 have eD:Ext w2 (Sw.drew w2):=(Ext.refl w2).drew
 have ED:=E2.trans eD
 have q4:=eD.obj q4
 have q2:=eD.obj q2
 generalize Sw.drew w2=D at eD ED q4 q2 ⊢
 have fin:∀ (w:World) (q:Nat) (sv' cv':Value) (x0 x1 x2 x3:Value),Ext D w→D.heap.size≤q→w.heap[q]?=some (.cells #[x0,x1,x2,x3] TRol (0,0))→OwnE w D.heap.size 50 3 staCells sv' r.states→OwnE w D.heap.size 52 2 cntCells cv' r.counters→(∀ b,sv'.ownBlock=some b→b≠q)→(∀ b,cv'.ownBlock=some b→b≠q)→(∀ b,sv'.ownBlock=some b→cv'.ownBlock≠some b) →
  opU Pg (Instr.storeAt 26 (.pointer (some ⟨q,0,none⟩)) (.agg #[.string peer,sv',cv',.slice none 0 0])) (panK (TurR w0 r peer)) w fun w=>turnK w fun C11 w=>n24c16 (.string peer) (.pointer (some ⟨w0.heap.size,0,none⟩)) (.pointer (some ⟨p4,0,none⟩)) (.pointer (some ⟨q,0,none⟩)) (TurR w0 r peer) w:=by
  intro w q sv' cv' x0 x1 x2 x3 e hq ho h1 h2 n1 n2 n3
  have f1:=own_one h1 (fun _=>rfl)
  have f2:=own_one h2 (fun _=>rfl)
  simp (disch:=try exact DI) only [↓PR,QR,simprocAttr,(cells_of_heap ho).1,(cells_of_heap ho).2]
  refine turnK_intro ?_
  refine turn_states ED q2 q4 h4 (hT.ext ED) hl.2.2 hl.2.1 hc0 hpe (four_ext e hq _ _ _ _) (four_obj ho _ _ _ _) hq (OwnE.keep h1 fun b hb=>four_only w q _ _ _ _ (n1 b hb)) (OwnE.keep h2 fun b hb=>four_only w q _ _ _ _ (n2 b hb)) n1 n2 n3
 unfold n24c21
 simp (disch:=try exact DI) only [↓PR,QR,simprocAttr,(cells_of_heap q2).1]
 refine ⟨?_,?_⟩
 · refine callK_ret (Clone_Counter_ret D _ _ (hC.ext ED) (by omega)) ?_
   rintro cv' w3 ⟨hO3,e3⟩
   refine ⟨e3,?_⟩
   unfold n24c19
   refine ⟨?_,?_⟩
   · refine callK_ret (Clone_State_ret w3 _ _ ((hS.ext ED).ext e3) (by omega)) ?_
     rintro sv' w4 ⟨hO4,e4⟩
     have e34:=e3.trans e4
     refine ⟨e34,?_⟩
     unfold n24c17
     have f1:=own_one hO4 (fun _=>rfl)
     have f2:=own_one hO3 (fun _=>rfl)
     have s3:=e3.size
     have s4:=e4.size
     have ha:Ext D (w4.alloc (.cells #[.string ByteArray.empty,.slice none 0 0,.slice none 0 0,.slice none 0 0] TRol)):=e34.alloc _
     have h:=fin _ w4.heap.size sv' cv' _ _ _ _ ha (by omega) (heap_new w4 _ _) ((hO4.base s3).ext ((Ext.refl w4).alloc _)) ((hO3.ext e4).ext ((Ext.refl w4).alloc _)) (fun b hb=>by have:=(World.ownsRow.lt hO4 b hb).2;omega) (fun b hb=>by have:=(World.ownsRow.lt hO3 b hb).2;omega) (fun b hb hb2=>by have:=(World.ownsRow.lt hO4 b hb).1;have:=(World.ownsRow.lt hO3 b hb2).2;omega)
     simp (disch:=try exact DI) only [↓PR,QR,simprocAttr]
     refine ⟨ha,?_⟩
     first | exact h | (simp (disch:=try exact DI) only [↓PR,QR,simprocAttr] at h;exact h)
   · simp (disch:=try exact DI) only [↓PR,QR,simprocAttr]
     refine ⟨e3.alloc _,?_⟩
     have e4:Ext w3 (w3.alloc (.cells #[.string ByteArray.empty,.slice none 0 0,.slice none 0 0,.slice none 0 0] TRol)):=(Ext.refl w3).alloc _
     have o4:=heap_new w3 #[.string ByteArray.empty,.slice none 0 0,.slice none 0 0,.slice none 0 0] TRol
     have s4:(w3.alloc (.cells #[.string ByteArray.empty,.slice none 0 0,.slice none 0 0,.slice none 0 0] TRol)).heap.size=w3.heap.size+1:=World.size_alloc ..
     generalize World.alloc w3 _=w4 at e4 o4 s4 ⊢
     have e34:=e3.trans e4
     unfold n24c18
     refine callK_ret (Clone_State_ret w4 _ _ ((hS.ext ED).ext e34) (by omega)) ?_
     rintro sv' w5 ⟨hO5,e5⟩
     have e35:=e34.trans e5
     refine ⟨e35,?_⟩
     have f1:=own_one hO5 (fun _=>rfl)
     have f2:=own_one hO3 (fun _=>rfl)
     have s3:=e3.size
     have h:=fin w5 w3.heap.size sv' cv' _ _ _ _ e35 (by omega) (e5.obj o4) (hO5.base (by omega)) (hO3.ext (e4.trans e5)) (fun b hb=>by have:=(World.ownsRow.lt hO5 b hb).1;omega) (fun b hb=>by have:=(World.ownsRow.lt hO3 b hb).2;omega) (fun b hb hb2=>by have:=(World.ownsRow.lt hO5 b hb).1;have:=(World.ownsRow.lt hO3 b hb2).2;omega)
     have o5:=cells_of_heap (e5.obj o4)
     simp (disch:=try exact DI) only [↓PR,QR,simprocAttr,o5.1,o5.2]
     simp (disch:=try exact DI) only [↓PR,QR,simprocAttr,o5.1,o5.2] at h
     exact h
 · simp (disch:=try exact DI) only [↓PR,QR,simprocAttr]
   refine ⟨(Ext.refl D).alloc _,?_⟩
   have e3:Ext D (D.alloc (.cells #[.string ByteArray.empty,.slice none 0 0,.slice none 0 0,.slice none 0 0] TRol)):=(Ext.refl D).alloc _
   have o3:=heap_new D #[.string ByteArray.empty,.slice none 0 0,.slice none 0 0,.slice none 0 0] TRol
   have s3:(D.alloc (.cells #[.string ByteArray.empty,.slice none 0 0,.slice none 0 0,.slice none 0 0] TRol)).heap.size=D.heap.size+1:=World.size_alloc ..
   generalize World.alloc D _=w3 at e3 o3 s3 ⊢
   refine callK_ret (Clone_Counter_ret w3 _ _ ((hC.ext ED).ext e3) (by omega)) ?_
   rintro cv' w4 ⟨hO4,e4⟩
   have e34:=e3.trans e4
   refine ⟨e34,?_⟩
   unfold n24c20
   refine callK_ret (Clone_State_ret w4 _ _ ((hS.ext ED).ext e34) (by omega)) ?_
   rintro sv' w5 ⟨hO5,e5⟩
   have e35:=e34.trans e5
   refine ⟨e35,?_⟩
   have f1:=own_one hO5 (fun _=>rfl)
   have f2:=own_one hO4 (fun _=>rfl)
   have s4:=e4.size
   have h:=fin w5 D.heap.size sv' cv' _ _ _ _ e35 (Nat.le_refl _) ((e4.trans e5).obj o3) (hO5.base (by omega)) ((hO4.ext e5).base (by omega)) (fun b hb=>by have:=(World.ownsRow.lt hO5 b hb).1;omega) (fun b hb=>by have:=(World.ownsRow.lt hO4 b hb).1;omega) (fun b hb hb2=>by have:=(World.ownsRow.lt hO5 b hb).1;have:=(World.ownsRow.lt hO4 b hb2).2;omega)
   have o5:=cells_of_heap ((e4.trans e5).obj o3)
   simp (disch:=try exact DI) only [↓PR,QR,simprocAttr,o5.1,o5.2]
   simp (disch:=try exact DI) only [↓PR,QR,simprocAttr,o5.1,o5.2] at h
   exact h
end
def n9c1 (t5 t6 t86 t91:Value) (next6:KV) (R:RT) (w:World):Prop :=
 pickK t86 (.bool true) t91 fun t92 =>
 joinK (fun (t97:Value) (w:World) =>
 pickK t92 (.bool true) t97 fun t98 =>
 condP t98 (
 R (.returned (.bool true)) w) (
 opV Pg (binS .add 3 true t5 (.int .i64 1)) (panK R) w fun t65 w =>
 next6 t65 w)) fun K10 =>
 guardP t92 false (
 opV Pg (Instr.fieldAt 71 t6 5) (panK R) w fun t94 w =>
 opV Pg (Instr.loadAt 9 t94) (panK R) w fun t95 w =>
 opV Pg (Builtin.len_ #[9] 3 #[t95]) (panK R) w fun t96 w =>
 opV Pg (binS .gtr 3 true t96 (.int .i64 60)) (panK R) w fun t97 w =>
 K10 t97 w) (
 K10 undef w)
def n9c2 (t5 t6 t80 t85:Value) (next6:KV) (R:RT) (w:World):Prop :=
 pickK t80 (.bool true) t85 fun t86 =>
 joinK (fun (t91:Value) (w:World) =>
 n9c1 t5 t6 t86 t91 next6 R w) fun K9 =>
 guardP t86 false (
 opV Pg (Instr.fieldAt 71 t6 4) (panK R) w fun t88 w =>
 opV Pg (Instr.loadAt 9 t88) (panK R) w fun t89 w =>
 opV Pg (Builtin.len_ #[9] 3 #[t89]) (panK R) w fun t90 w =>
 opV Pg (binS .gtr 3 true t90 (.int .i64 60)) (panK R) w fun t91 w =>
 K9 t91 w) (
 K9 undef w)
def n9c3 (t5 t6 t74 t79:Value) (next6:KV) (R:RT) (w:World):Prop :=
 pickK t74 (.bool true) t79 fun t80 =>
 joinK (fun (t85:Value) (w:World) =>
 n9c2 t5 t6 t80 t85 next6 R w) fun K8 =>
 guardP t80 false (
 opV Pg (Instr.fieldAt 71 t6 3) (panK R) w fun t82 w =>
 opV Pg (Instr.loadAt 9 t82) (panK R) w fun t83 w =>
 opV Pg (Builtin.len_ #[9] 3 #[t83]) (panK R) w fun t84 w =>
 opV Pg (binS .gtr 3 true t84 (.int .i64 60)) (panK R) w fun t85 w =>
 K8 t85 w) (
 K8 undef w)
def n9c4 (t1 t5:Value) (next6:KV) (R:RT) (w:World):Prop :=
 opV Pg (Instr.fieldAt 26 t1 3) (panK R) w fun t66 w =>
 opV Pg (Instr.loadAt 24 t66) (panK R) w fun t67 w =>
 opV Pg (Instr.indexAt 24 t67 t5) (panK R) w fun t69 w =>
 opV Pg (Instr.loadAt 71 t69) (panK R) w fun t70 w =>
 opV Pg (Instr.alloc 71 true (.tuple #[])) (panK R) w fun t6 w =>
 opU Pg (Instr.storeAt 71 t6 t70) (panK R) w fun w =>
 opV Pg (Instr.fieldAt 71 t6 0) (panK R) w fun t71 w =>
 opV Pg (Instr.loadAt 9 t71) (panK R) w fun t72 w =>
 opV Pg (Builtin.len_ #[9] 3 #[t72]) (panK R) w fun t73 w =>
 opV Pg (binS .gtr 3 true t73 (.int .i64 60)) (panK R) w fun t74 w =>
 joinK (fun (t79:Value) (w:World) =>
 n9c3 t5 t6 t74 t79 next6 R w) fun K7 =>
 guardP t74 false (
 opV Pg (Instr.fieldAt 71 t6 1) (panK R) w fun t76 w =>
 opV Pg (Instr.loadAt 9 t76) (panK R) w fun t77 w =>
 opV Pg (Builtin.len_ #[9] 3 #[t77]) (panK R) w fun t78 w =>
 opV Pg (binS .gtr 3 true t78 (.int .i64 60)) (panK R) w fun t79 w =>
 K7 t79 w) (
 K7 undef w)
def n9c5 (t1 t5:Value) (next6:KV) (R:RT) (w:World):Prop :=
 opV Pg (Instr.fieldAt 26 t1 3) (panK R) w fun t60 w =>
 opV Pg (Instr.loadAt 24 t60) (panK R) w fun t61 w =>
 opV Pg (Builtin.len_ #[24] 3 #[t61]) (panK R) w fun t62 w =>
 opV Pg (binS .lss 3 false t5 t62) (panK R) w fun t63 w =>
 condP t63 (
 n9c4 t1 t5 next6 R w) (
 R (.returned (.bool false)) w)
def n9c6 (t1 t4:Value) (next5:KV) (R:RT) (w:World):Prop :=
 opV Pg (Instr.fieldAt 26 t1 1) (panK R) w fun t51 w =>
 opV Pg (Instr.loadAt 22 t51) (panK R) w fun t52 w =>
 opV Pg (Instr.indexAt 22 t52 t4) (panK R) w fun t54 w =>
 opV Pg (Instr.fieldAt 50 t54 0) (panK R) w fun t55 w =>
 opV Pg (Instr.loadAt 9 t55) (panK R) w fun t56 w =>
 opV Pg (Builtin.len_ #[9] 3 #[t56]) (panK R) w fun t57 w =>
 opV Pg (binS .gtr 3 true t57 (.int .i64 60)) (panK R) w fun t58 w =>
 condP t58 (
 R (.returned (.bool true)) w) (
 opV Pg (binS .add 3 true t4 (.int .i64 1)) (panK R) w fun t50 w =>
 next5 t50 w)
def n9c7 (t1 t4:Value) (next5:KV) (R:RT) (w:World):Prop :=
 opV Pg (Instr.fieldAt 26 t1 1) (panK R) w fun t45 w =>
 opV Pg (Instr.loadAt 22 t45) (panK R) w fun t46 w =>
 opV Pg (Builtin.len_ #[22] 3 #[t46]) (panK R) w fun t47 w =>
 opV Pg (binS .lss 3 false t4 t47) (panK R) w fun t48 w =>
 condP t48 (
 n9c6 t1 t4 next5 R w) (
 loop1 (fun t5 w next6 =>
 n9c5 t1 t5 next6 R w) (.int .i64 0) w)
def n9c8 (t1 t3:Value) (next4:KV) (R:RT) (w:World):Prop :=
 opV Pg (Instr.fieldAt 26 t1 2) (panK R) w fun t36 w =>
 opV Pg (Instr.loadAt 23 t36) (panK R) w fun t37 w =>
 opV Pg (Instr.indexAt 23 t37 t3) (panK R) w fun t39 w =>
 opV Pg (Instr.fieldAt 52 t39 0) (panK R) w fun t40 w =>
 opV Pg (Instr.loadAt 9 t40) (panK R) w fun t41 w =>
 opV Pg (Builtin.len_ #[9] 3 #[t41]) (panK R) w fun t42 w =>
 opV Pg (binS .gtr 3 true t42 (.int .i64 60)) (panK R) w fun t43 w =>
 condP t43 (
 R (.returned (.bool true)) w) (
 opV Pg (binS .add 3 true t3 (.int .i64 1)) (panK R) w fun t35 w =>
 next4 t35 w)
def n9c9 (t1 t3:Value) (next4:KV) (R:RT) (w:World):Prop :=
 opV Pg (Instr.fieldAt 26 t1 2) (panK R) w fun t30 w =>
 opV Pg (Instr.loadAt 23 t30) (panK R) w fun t31 w =>
 opV Pg (Builtin.len_ #[23] 3 #[t31]) (panK R) w fun t32 w =>
 opV Pg (binS .lss 3 false t3 t32) (panK R) w fun t33 w =>
 condP t33 (
 n9c8 t1 t3 next4 R w) (
 loop1 (fun t4 w next5 =>
 n9c7 t1 t4 next5 R w) (.int .i64 0) w)
def n9c10 (t1 t16 t21:Value) (R:RT) (w:World):Prop :=
 pickK t16 (.bool true) t21 fun t22 =>
 joinK (fun (t27:Value) (w:World) =>
 pickK t22 (.bool true) t27 fun t28 =>
 condP t28 (
 R (.returned (.bool true)) w) (
 loop1 (fun t3 w next4 =>
 n9c9 t1 t3 next4 R w) (.int .i64 0) w)) fun K3 =>
 guardP t22 false (
 opV Pg (Instr.fieldAt 26 t1 0) (panK R) w fun t24 w =>
 opV Pg (Instr.loadAt 9 t24) (panK R) w fun t25 w =>
 opV Pg (Builtin.len_ #[9] 3 #[t25]) (panK R) w fun t26 w =>
 opV Pg (binS .gtr 3 true t26 (.int .i64 60)) (panK R) w fun t27 w =>
 K3 t27 w) (
 K3 undef w)
def n9c11 (t1 t10 t15:Value) (R:RT) (w:World):Prop :=
 pickK t10 (.bool true) t15 fun t16 =>
 joinK (fun (t21:Value) (w:World) =>
 n9c10 t1 t16 t21 R w) fun K2 =>
 guardP t16 false (
 opV Pg (Instr.fieldAt 26 t1 3) (panK R) w fun t18 w =>
 opV Pg (Instr.loadAt 24 t18) (panK R) w fun t19 w =>
 opV Pg (Builtin.len_ #[24] 3 #[t19]) (panK R) w fun t20 w =>
 opV Pg (binS .gtr 3 true t20 (.int .i64 90)) (panK R) w fun t21 w =>
 K2 t21 w) (
 K2 undef w)
def n9 (t0:Value) (R:RT) (w:World):Prop :=
 opV Pg (Instr.box 26 t0) (panK R) w fun t1 w =>
 opV Pg (Instr.fieldAt 26 t1 2) (panK R) w fun t7 w =>
 opV Pg (Instr.loadAt 23 t7) (panK R) w fun t8 w =>
 opV Pg (Builtin.len_ #[23] 3 #[t8]) (panK R) w fun t9 w =>
 opV Pg (binS .gtr 3 true t9 (.int .i64 6)) (panK R) w fun t10 w =>
 joinK (fun (t15:Value) (w:World) =>
 n9c11 t1 t10 t15 R w) fun K1 =>
 guardP t10 false (
 opV Pg (Instr.fieldAt 26 t1 1) (panK R) w fun t12 w =>
 opV Pg (Instr.loadAt 22 t12) (panK R) w fun t13 w =>
 opV Pg (Builtin.len_ #[22] 3 #[t13]) (panK R) w fun t14 w =>
 opV Pg (binS .gtr 3 true t14 (.int .i64 30)) (panK R) w fun t15 w =>
 K1 t15 w) (
 K1 undef w)
set_option maxHeartbeats 40000000 in
theorem n9s {t0:Value} {R:RT} {w:World} (h:n9 t0 R w):Calls Pg 10 #[t0] w R:=by
 refine yD Tryz.func10 ?_
 refine zs<|zr<|yv h fun _ w h=>zm<|zn<|zk<|zs<|zs<|sim_regionG<|yG 5<|yv h fun _ w h=>yv h fun _ w h=>yx h fun _ w h=>yb h fun _ w h=>zm ?_
 refine zn<|yg1 4 4 false [12,13,14,15] 15 h (fun _ T hT h=>?_) fun σ w h=>?_
 · refine yv h fun _ w h=>yv h fun _ w h=>yx h fun _ w h=>yb h fun _ w h=>zn ?_
   exact zt hT h
 refine yG 2<|yp h fun _ h=>zm<|zn<|yg1 4 10 false [18,19,20,21] 21 h (fun _ T hT h=>?_) fun σ w h=>?_
 · refine yv h fun _ w h=>yv h fun _ w h=>yx h fun _ w h=>yb h fun _ w h=>zn ?_
   exact zt hT h
 refine yG 2<|yp h fun _ h=>zm<|zn<|yg1 4 16 false [24,25,26,27] 27 h (fun _ T hT h=>?_) fun σ w h=>?_
 · refine yv h fun _ w h=>yv h fun _ w h=>yx h fun _ w h=>yb h fun _ w h=>zn ?_
   exact zt hT h
 refine yG 1<|yp h fun _ h=>zn<|sim_end<|zk<|yC h (fun h=>zs<|zr<|zm<|zn<|zk<|sim_ret<|sim_then_ret<|body_ret1 rfl rfl h) fun h=>sim_skip<|zk<|zs<|zs<|zr<|zm<|zn<|zk ?_
 refine sim_block<|yl1 [2,3,29,30,31,32,33,34,35,36,37,38,39,40,41,42,43] 3 h fun σ w next h=>zs<|zs<|zr<|zm<|yv h fun _ w h=>yv h fun _ w h=>yx h fun _ w h=>yb h fun _ w h=>zn<|zk<|yC h (fun h=>?_) fun h=>?_
 · refine sim_skip<|zk<|zs<|sim_block<|zs<|zr<|yv h fun _ w h=>yv h fun _ w h=>zm<|yv h fun _ w h=>yv h fun _ w h=>yv h fun _ w h=>yx h fun _ w h=>yb h fun _ w h=>zn ?_
   exact zk<|yC h (fun h=>zs<|zr<|zm<|zn<|zk<|sim_ret<|sim_block_ret<|sim_then_ret<|sim_then_ret<|sim_block_ret<|sim_then_ret<|body_ret1 rfl rfl h) fun h=>sim_skip<|sim_block_normal<|zk<|zr<|zm<|yb h fun _ w h=>zm<|zn<|zk<|⟨rfl,h⟩
 refine sim_exit<|sim_then_exit<|sim_then_exit<|sim_block_hit<|zk<|zs<|zs<|zr<|zm<|zn<|zk<|sim_block<|yl1 [2,4,44,45,46,47,48,49,50,51,52,53,54,55,56,57,58] 4 h fun σ w next h=>zs<|zs ?_
 refine zr<|zm<|yv h fun _ w h=>yv h fun _ w h=>yx h fun _ w h=>yb h fun _ w h=>zn<|zk<|yC h (fun h=>?_) fun h=>?_
 · refine sim_skip<|zk<|zs<|sim_block<|zs<|zr<|yv h fun _ w h=>yv h fun _ w h=>zm<|yv h fun _ w h=>yv h fun _ w h=>yv h fun _ w h=>yx h fun _ w h=>yb h fun _ w h=>zn ?_
   exact zk<|yC h (fun h=>zs<|zr<|zm<|zn<|zk<|sim_ret<|sim_block_ret<|sim_then_ret<|sim_then_ret<|sim_block_ret<|sim_then_ret<|body_ret1 rfl rfl h) fun h=>sim_skip<|sim_block_normal<|zk<|zr<|zm<|yb h fun _ w h=>zm<|zn<|zk<|⟨rfl,h⟩
 refine sim_exit<|sim_then_exit<|sim_then_exit<|sim_block_hit<|zk<|zs<|zs<|zr<|zm<|zn<|zk<|sim_block<|yl1 [2,5,6,59,60,61,62,63,64,65,66,67,68,69,70,71,72,73,74,75,76,77,78,79,80,81,82,83,84,85,86,87,88,89,90,91,92,93,94,95,96,97,98] 5 h fun σ w next h=>zs<|zs ?_
 refine zr<|zm<|yv h fun _ w h=>yv h fun _ w h=>yx h fun _ w h=>yb h fun _ w h=>zn<|zk<|yC h (fun h=>?_) fun h=>?_
 · refine sim_skip<|zk<|zs<|sim_block<|zs<|zr<|yv h fun _ w h=>yv h fun _ w h=>zm<|yv h fun _ w h=>yv h fun _ w h=>yv h fun _ w h=>yu h fun w h=>zn<|zk ?_
   refine zs<|sim_regionG<|yG 5<|yv h fun _ w h=>yv h fun _ w h=>yx h fun _ w h=>yb h fun _ w h=>zm<|zn<|yg1 4 4 false [76,77,78,79] 79 h (fun _ T hT h=>?_) fun σ w h=>?_
   · refine yv h fun _ w h=>yv h fun _ w h=>yx h fun _ w h=>yb h fun _ w h=>zn ?_
     exact zt hT h
   refine yG 2<|yp h fun _ h=>zm<|zn<|yg1 4 10 false [82,83,84,85] 85 h (fun _ T hT h=>?_) fun σ w h=>?_
   · refine yv h fun _ w h=>yv h fun _ w h=>yx h fun _ w h=>yb h fun _ w h=>zn ?_
     exact zt hT h
   refine yG 2<|yp h fun _ h=>zm<|zn<|yg1 4 16 false [88,89,90,91] 91 h (fun _ T hT h=>?_) fun σ w h=>?_
   · refine yv h fun _ w h=>yv h fun _ w h=>yx h fun _ w h=>yb h fun _ w h=>zn ?_
     exact zt hT h
   refine yG 2<|yp h fun _ h=>zm<|zn<|yg1 4 22 false [94,95,96,97] 97 h (fun _ T hT h=>?_) fun σ w h=>?_
   · refine yv h fun _ w h=>yv h fun _ w h=>yx h fun _ w h=>yb h fun _ w h=>zn ?_
     exact zt hT h
   refine yG 1<|yp h fun _ h=>zn<|sim_end<|zk<|yC h (fun h=>zs<|zr<|zm<|zn<|zk<|sim_ret<|sim_block_ret<|sim_then_ret<|sim_then_ret<|sim_block_ret<|sim_then_ret<|body_ret1 rfl rfl h) fun h=>sim_skip<|sim_block_normal<|zk<|zr<|zm<|yb h fun _ w h=>zm<|zn ?_
   exact zk<|⟨rfl,h⟩
 exact sim_exit<|sim_then_exit<|sim_then_exit<|sim_block_hit<|zk<|zs<|zr<|zm<|zn<|zk<|sim_ret<|body_ret1 rfl rfl h
def n8c1 (t18:Value) (K14:KV) (R:RT) (w:World):Prop :=
 opV Pg (Instr.fieldAt 26 t18 3) (panK R) w fun t126 w =>
 opV Pg (Instr.loadAt 24 t126) (panK R) w fun t127 w =>
 opV Pg (Instr.indexAt 24 t127 (.int .i64 1)) (panK R) w fun t128 w =>
 opV Pg (Instr.loadAt 71 t128) (panK R) w fun t129 w =>
 opV Pg (Instr.build 71 #[(0,(.string { data := #[98] })),(1,(.string { data := #[97] })),(2,(.int .i64 4))]) (panK R) w fun t130 w =>
 opV Pg (binS .eql 71 false t129 t130) (panK R) w fun t131 w =>
 K14 t131 w
def n8c2 (t18 t116 t123:Value) (R:RT) (w:World):Prop :=
 pickK t116 t123 (.bool false) fun t124 =>
 joinK (fun (t131:Value) (w:World) =>
 pickK t124 t131 (.bool false) fun t132 =>
 R (.returned t132) w) fun K14 =>
 guardP t124 true (
 n8c1 t18 K14 R w) (
 K14 undef w)
def n8c3 (t18:Value) (K13:KV) (R:RT) (w:World):Prop :=
 opV Pg (Instr.fieldAt 26 t18 3) (panK R) w fun t118 w =>
 opV Pg (Instr.loadAt 24 t118) (panK R) w fun t119 w =>
 opV Pg (Instr.indexAt 24 t119 (.int .i64 0)) (panK R) w fun t120 w =>
 opV Pg (Instr.loadAt 71 t120) (panK R) w fun t121 w =>
 opV Pg (Instr.build 71 #[(0,(.string { data := #[97] })),(1,(.string { data := #[98] })),(2,(.int .i64 2)),(3,(.string { data := #[109] })),(4,(.string { data := #[99] })),(5,(.string { data := #[110] })),(7,(.int .i64 1)),(8,(.int .i64 1))]) (panK R) w fun t122 w =>
 opV Pg (binS .eql 71 false t121 t122) (panK R) w fun t123 w =>
 K13 t123 w
def n8c4 (t18 t110 t115:Value) (R:RT) (w:World):Prop :=
 pickK t110 t115 (.bool false) fun t116 =>
 joinK (fun (t123:Value) (w:World) =>
 n8c2 t18 t116 t123 R w) fun K13 =>
 guardP t116 true (
 n8c3 t18 K13 R w) (
 K13 undef w)
def n8c5 (t18 t109:Value) (R:RT) (w:World):Prop :=
 opV Pg (binS .eql 3 true t109 (.int .i64 0)) (panK R) w fun t110 w =>
 joinK (fun (t115:Value) (w:World) =>
 n8c4 t18 t110 t115 R w) fun K12 =>
 guardP t110 true (
 opV Pg (Instr.fieldAt 26 t18 3) (panK R) w fun t112 w =>
 opV Pg (Instr.loadAt 24 t112) (panK R) w fun t113 w =>
 opV Pg (Builtin.len_ #[24] 3 #[t113]) (panK R) w fun t114 w =>
 opV Pg (binS .eql 3 true t114 (.int .i64 2)) (panK R) w fun t115 w =>
 K12 t115 w) (
 K12 undef w)
def n8c6 (t105:Value) (R:RT) (w:World):Prop :=
 opV Pg (Instr.extract t105 0) (panK R) w fun t106 w =>
 opV Pg (Instr.extract t105 1) (panK R) w fun t107 w =>
 opV Pg (Instr.alloc 26 true (.tuple #[])) (panK R) w fun t18 w =>
 opU Pg (Instr.storeAt 26 t18 t106) (panK R) w fun w =>
 callK Pg 15 #[t107] (panK R) w fun t109 w =>
 n8c5 t18 t109 R w
def n8c7 (t98 t101:Value) (R:RT) (w:World):Prop :=
 pickK t98 (.bool true) t101 fun t102 =>
 condP t102 (
 R (.returned (.bool false)) w) (
 callK Pg 35 #[] (panK R) w fun t104 w =>
 callK Pg 23 #[t104,(.string { data := #[115] })] (panK R) w fun t105 w =>
 n8c6 t105 R w)
def n8c8 (t68 t94 t97:Value) (R:RT) (w:World):Prop :=
 pickK t94 (.bool true) t97 fun t98 =>
 joinK (fun (t101:Value) (w:World) =>
 n8c7 t98 t101 R w) fun K11 =>
 guardP t98 false (
 opV Pg (binS .neq 29 true t68 (.int .i64 6)) (panK R) w fun t101 w =>
 K11 t101 w) (
 K11 undef w)
def n8c9 (t67 t68 t90 t93:Value) (R:RT) (w:World):Prop :=
 pickK t90 (.bool true) t93 fun t94 =>
 joinK (fun (t97:Value) (w:World) =>
 n8c8 t68 t94 t97 R w) fun K10 =>
 guardP t94 false (
 opV Pg (binS .neq 3 true t67 (.int .i64 3)) (panK R) w fun t97 w =>
 K10 t97 w) (
 K10 undef w)
def n8c10 (t63 t67 t68 t86 t89:Value) (R:RT) (w:World):Prop :=
 pickK t86 (.bool true) t89 fun t90 =>
 joinK (fun (t93:Value) (w:World) =>
 n8c9 t67 t68 t90 t93 R w) fun K9 =>
 guardP t90 false (
 opV Pg (binS .neq 29 true t63 (.int .i64 292)) (panK R) w fun t93 w =>
 K9 t93 w) (
 K9 undef w)
def n8c11 (t62 t63 t67 t68 t82 t85:Value) (R:RT) (w:World):Prop :=
 pickK t82 (.bool true) t85 fun t86 =>
 joinK (fun (t89:Value) (w:World) =>
 n8c10 t63 t67 t68 t86 t89 R w) fun K8 =>
 guardP t86 false (
 opV Pg (binS .neq 3 true t62 (.int .i64 0)) (panK R) w fun t89 w =>
 K8 t89 w) (
 K8 undef w)
def n8c12 (t58 t62 t63 t67 t68 t78 t81:Value) (R:RT) (w:World):Prop :=
 pickK t78 (.bool true) t81 fun t82 =>
 joinK (fun (t85:Value) (w:World) =>
 n8c11 t62 t63 t67 t68 t82 t85 R w) fun K7 =>
 guardP t82 false (
 opV Pg (binS .neq 29 true t58 (.int .i64 292)) (panK R) w fun t85 w =>
 K7 t85 w) (
 K7 undef w)
def n8c13 (t53 t58 t62 t63 t67 t68 t74 t77:Value) (R:RT) (w:World):Prop :=
 pickK t74 (.bool true) t77 fun t78 =>
 joinK (fun (t81:Value) (w:World) =>
 n8c12 t58 t62 t63 t67 t68 t78 t81 R w) fun K6 =>
 guardP t78 false (
 opV Pg (binS .neq 29 true t53 (.int .i64 293)) (panK R) w fun t81 w =>
 K6 t81 w) (
 K6 undef w)
def n8c14 (t47 t48 t52 t53 t57 t58 t62 t63 t65:Value) (R:RT) (w:World):Prop :=
 opV Pg (Instr.extract t65 0) (panK R) w fun t66 w =>
 opV Pg (Instr.extract t65 1) (panK R) w fun t67 w =>
 opV Pg (Instr.extract t65 2) (panK R) w fun t68 w =>
 opV Pg (Instr.alloc 26 true (.tuple #[])) (panK R) w fun t15 w =>
 opU Pg (Instr.storeAt 26 t15 t66) (panK R) w fun w =>
 opV Pg (binS .add 3 false t47 t52) (panK R) w fun t71 w =>
 opV Pg (binS .add 3 false t71 t57) (panK R) w fun t73 w =>
 opV Pg (binS .neq 3 true t73 (.int .i64 0)) (panK R) w fun t74 w =>
 joinK (fun (t77:Value) (w:World) =>
 n8c13 t53 t58 t62 t63 t67 t68 t74 t77 R w) fun K5 =>
 guardP t74 false (
 opV Pg (binS .neq 29 true t48 (.int .i64 293)) (panK R) w fun t77 w =>
 K5 t77 w) (
 K5 undef w)
def n8c15 (t47 t48 t52 t53 t57 t58 t60:Value) (R:RT) (w:World):Prop :=
 opV Pg (Instr.extract t60 0) (panK R) w fun t61 w =>
 opV Pg (Instr.extract t60 1) (panK R) w fun t62 w =>
 opV Pg (Instr.extract t60 2) (panK R) w fun t63 w =>
 opV Pg (Instr.alloc 26 true (.tuple #[])) (panK R) w fun t12 w =>
 opU Pg (Instr.storeAt 26 t12 t61) (panK R) w fun w =>
 callK Pg 19 #[(.string { data := #[114,111,108,101,32,99,10,115,116,97,116,101,32,97,10,115,116,97,116,101,32,49] })] (panK R) w fun t65 w =>
 n8c14 t47 t48 t52 t53 t57 t58 t62 t63 t65 R w
def n8c16 (t47 t48 t52 t53 t56:Value) (R:RT) (w:World):Prop :=
 opV Pg (Instr.extract t56 0) (panK R) w fun t57 w =>
 opV Pg (Instr.extract t56 1) (panK R) w fun t58 w =>
 callK Pg 19 #[(.string { data := #[114,111,108,101,32,99] })] (panK R) w fun t60 w =>
 n8c15 t47 t48 t52 t53 t57 t58 t60 R w
def n8c17 (t5 t47 t48 t51:Value) (R:RT) (w:World):Prop :=
 opV Pg (Instr.extract t51 0) (panK R) w fun t52 w =>
 opV Pg (Instr.extract t51 1) (panK R) w fun t53 w =>
 opV Pg (Instr.loadAt 26 t5) (panK R) w fun t55 w =>
 callK Pg 12 #[t55] (panK R) w fun t56 w =>
 n8c16 t47 t48 t52 t53 t56 R w
def n8c18 (t4 t5 t46:Value) (R:RT) (w:World):Prop :=
 opV Pg (Instr.extract t46 0) (panK R) w fun t47 w =>
 opV Pg (Instr.extract t46 1) (panK R) w fun t48 w =>
 opV Pg (Instr.loadAt 26 t4) (panK R) w fun t50 w =>
 callK Pg 12 #[t50] (panK R) w fun t51 w =>
 n8c17 t5 t47 t48 t51 R w
def n8c19 (t3 t4 t5:Value) (C3:World→Prop) (R:RT) (w:World):Prop :=
 qV Pg C3 (Instr.fieldAt 26 t5 1) fun t43 =>
 opU Pg (Instr.storeAt 22 t43 (Value.slice none 0 0)) (panK R) w fun w =>
 turnK w fun C4 w =>
 opV Pg (Instr.loadAt 26 t3) (panK R) w fun t45 w =>
 callK Pg 12 #[t45] (panK R) w fun t46 w =>
 n8c18 t4 t5 t46 R w
def n8c20 (t3 t4 t5 t38:Value) (C2:World→Prop) (R:RT) (w:World):Prop :=
 qV Pg C2 (Instr.indexAt 24 t38 (.int .i64 0)) fun t41 =>
 qV Pg C2 (Instr.fieldAt 71 t41 4) fun t42 =>
 opU Pg (Instr.storeAt 9 t42 (.string { data := #[99] })) (panK R) w fun w =>
 turnK w fun C3 w =>
 n8c19 t3 t4 t5 C3 R w
def n8c21 (t3 t4 t5:Value) (C2:World→Prop) (R:RT) (w:World):Prop :=
 qV Pg C2 (Instr.fieldAt 26 t3 3) fun t35 =>
 qV Pg C2 (Instr.loadAt 24 t35) fun t36 =>
 qV Pg C2 (Instr.fieldAt 26 t4 3) fun t37 =>
 qV Pg C2 (Instr.loadAt 24 t37) fun t38 =>
 qV Pg C2 (Instr.indexAt 24 t36 (.int .i64 0)) fun t39 =>
 qV Pg C2 (Instr.fieldAt 71 t39 7) fun t40 =>
 opU Pg (Instr.storeAt 3 t40 (.int .i64 2)) (panK R) w fun w =>
 C2 w∧(
 n8c20 t3 t4 t5 t38 C2 R w)
def n8c22 (t32 t33 t34:Value) (R:RT) (w:World):Prop :=
 opV Pg (Instr.alloc 26 true (.tuple #[])) (panK R) w fun t3 w =>
 opV Pg (Instr.alloc 26 true (.tuple #[])) (panK R) w fun t4 w =>
 opV Pg (Instr.alloc 26 true (.tuple #[])) (panK R) w fun t5 w =>
 opU Pg (Instr.storeAt 26 t3 t32) (panK R) w fun w =>
 opU Pg (Instr.storeAt 26 t4 t33) (panK R) w fun w =>
 opU Pg (Instr.storeAt 26 t5 t34) (panK R) w fun w =>
 drawK w fun C2 w =>
 n8c21 t3 t4 t5 C2 R w
def n8c23 (R:RT) (w:World):Prop :=
 callK Pg 35 #[] (panK R) w fun t32 w =>
 callK Pg 35 #[] (panK R) w fun t33 w =>
 callK Pg 35 #[] (panK R) w fun t34 w =>
 n8c22 t32 t33 t34 R w
def n8c24 (t22:Value) (R:RT) (w:World):Prop :=
 opV Pg (Instr.extract t22 0) (panK R) w fun t23 w =>
 opV Pg (Instr.extract t22 1) (panK R) w fun t24 w =>
 opV Pg (binS .neq 9 true t23 (.string { data := #[114,111,108,101,32,99,10,99,111,117,110,116,101,114,32,110,32,50,10,115,116,97,116,101,32,97,10,115,116,97,116,101,32,98,32,119,97,105,116,32,53,32,102,105,110,97,108,10,115,116,101,112,32,97,32,98,32,115,101,110,100,32,109,32,115,32,119,104,101,110,32,110,32,48,32,49,32,49,10,115,116,101,112,32,98,32,97,32,116,105,109,101,111,117,116] })) (panK R) w fun t26 w =>
 joinK (fun (t30:Value) (w:World) =>
 pickK t26 (.bool true) t30 fun t31 =>
 condP t31 (
 R (.returned (.bool false)) w) (
 n8c23 R w)) fun K1 =>
 guardP t26 false (
 callK Pg 15 #[t24] (panK R) w fun t29 w =>
 opV Pg (binS .neq 3 true t29 (.int .i64 0)) (panK R) w fun t30 w =>
 K1 t30 w) (
 K1 undef w)
def n8 (R:RT) (w:World):Prop :=
 callK Pg 35 #[] (panK R) w fun t21 w =>
 callK Pg 14 #[t21] (panK R) w fun t22 w =>
 n8c24 t22 R w
set_option maxHeartbeats 40000000 in
theorem n8s {R:RT} {w:World} (h:n8 R w):Calls Pg 11 #[] w R:=by
 refine yD Tryz.func11 ?_
 refine zs<|zr<|zm<|zn<|zk<|zs<|zr<|yc h c35 fun _ w h=>yc h c14 fun _ w h=>zm<|yv h fun _ w h=>yv h fun _ w h=>zm<|zm<|zn ?_
 refine zk<|zs<|zs<|sim_regionG<|yG 3<|zm<|yb h fun _ w h=>zm<|zn<|yg1 3 2 false [28,29,30] 30 h (fun _ T hT h=>?_) fun σ w h=>?_
 · refine zm<|yc h c15 fun _ w h=>yb h fun _ w h=>zn ?_
   exact zt hT h
 refine yG 1<|yp h fun _ h=>zn<|sim_end<|zk<|yC h (fun h=>zs<|zr<|zm<|zn<|zk<|sim_ret<|sim_then_ret<|body_ret1 rfl rfl h) fun h=>sim_skip<|zk<|zs<|zr<|yc h c35 fun _ w h=>yc h c35 fun _ w h=>yc h c35 fun _ w h=>yv h fun _ w h=>?_
 refine yv h fun _ w h=>yv h fun _ w h=>yu h fun w h=>yu h fun w h=>yu h fun w h=>zn<|zk<|zs<|yh [35,36,37,38,39,40,41,42,43] h fun C hC h=>ye 0 hC h fun _ h=>?_
 refine ye 1 hC h fun _ h=>?_
 refine ye 2 hC h fun _ h=>?_
 refine ye 3 hC h fun _ h=>?_
 refine ye 4 hC h fun _ h=>?_
 refine ye 5 hC h fun _ h=>?_
 refine yo 6 ?_
 refine yu h fun w h=>zn ?_
 obtain ⟨hC,h⟩:=h
 refine ⟨hC,?_⟩
 refine ye 7 hC h fun _ h=>?_
 refine ye 8 hC h fun _ h=>?_
 refine yq 9 2 ?_
 refine yu h fun w h=>zn ?_
 obtain ⟨C3,hC,h⟩:=h
 refine ⟨C3,hC,?_⟩
 refine ye 10 hC h fun _ h=>?_
 refine yq 11 1 ?_
 refine yu h fun w h=>zn ?_
 obtain ⟨C4,hC,h⟩:=h
 refine ⟨C4,hC,?_⟩
 refine yz<|zk<|zs<|zr<|yv h fun _ w h=>yc h c12 fun _ w h=>zm<|yv h fun _ w h=>yv h fun _ w h=>zm<|zm<|zn<|zk<|zs<|zr ?_
 refine yv h fun _ w h=>yc h c12 fun _ w h=>zm<|yv h fun _ w h=>yv h fun _ w h=>zm<|zm<|zn<|zk<|zs<|zr<|yv h fun _ w h=>yc h c12 fun _ w h=>zm<|yv h fun _ w h=>?_
 refine yv h fun _ w h=>zm<|zm<|zn<|zk<|zs<|zr<|yc h c19 fun _ w h=>zm<|yv h fun _ w h=>yv h fun _ w h=>yv h fun _ w h=>yv h fun _ w h=>yu h fun w h=>zm ?_
 refine zm<|zn<|zk<|zs<|zr<|yc h c19 fun _ w h=>zm<|yv h fun _ w h=>yv h fun _ w h=>yv h fun _ w h=>yv h fun _ w h=>yu h fun w h=>zm<|zm<|zn ?_
 refine zk<|zs<|zs<|sim_regionG<|yG 7<|zm<|zm<|yb h fun _ w h=>zm<|yb h fun _ w h=>yb h fun _ w h=>zm<|zn<|yg1 2 6 false [76,77] 77 h (fun _ T hT h=>?_) fun σ w h=>?_
 · refine zm<|yb h fun _ w h=>zn ?_
   exact zt hT h
 refine yG 2<|yp h fun _ h=>zm<|zn<|yg1 2 10 false [80,81] 81 h (fun _ T hT h=>?_) fun σ w h=>?_
 · refine zm<|yb h fun _ w h=>zn ?_
   exact zt hT h
 refine yG 2<|yp h fun _ h=>zm<|zn<|yg1 2 14 false [84,85] 85 h (fun _ T hT h=>?_) fun σ w h=>?_
 · refine zm<|yb h fun _ w h=>zn ?_
   exact zt hT h
 refine yG 2<|yp h fun _ h=>zm<|zn<|yg1 2 18 false [88,89] 89 h (fun _ T hT h=>?_) fun σ w h=>?_
 · refine zm<|yb h fun _ w h=>zn ?_
   exact zt hT h
 refine yG 2<|yp h fun _ h=>zm<|zn<|yg1 2 22 false [92,93] 93 h (fun _ T hT h=>?_) fun σ w h=>?_
 · refine zm<|yb h fun _ w h=>zn ?_
   exact zt hT h
 refine yG 2<|yp h fun _ h=>zm<|zn<|yg1 2 26 false [96,97] 97 h (fun _ T hT h=>?_) fun σ w h=>?_
 · refine zm<|yb h fun _ w h=>zn ?_
   exact zt hT h
 refine yG 2<|yp h fun _ h=>zm<|zn<|yg1 2 30 false [100,101] 101 h (fun _ T hT h=>?_) fun σ w h=>?_
 · refine zm<|yb h fun _ w h=>zn ?_
   exact zt hT h
 refine yG 1<|yp h fun _ h=>zn<|sim_end<|zk<|yC h (fun h=>zs<|zr<|zm<|zn<|zk<|sim_ret<|sim_then_ret<|body_ret1 rfl rfl h) fun h=>sim_skip<|zk<|zs<|zr<|yc h c35 fun _ w h=>yc h c23 fun _ w h=>zm<|yv h fun _ w h=>?_
 refine yv h fun _ w h=>yv h fun _ w h=>yu h fun w h=>zm<|zn<|zk<|zs<|sim_regionG<|yG 4<|zm<|yc h c15 fun _ w h=>yb h fun _ w h=>zm<|zn<|yg1 4 3 true [112,113,114,115] 115 h (fun _ T hT h=>?_) fun σ w h=>?_
 · refine yv h fun _ w h=>yv h fun _ w h=>yx h fun _ w h=>yb h fun _ w h=>zn ?_
   exact zt hT h
 refine yG 2<|yp h fun _ h=>zm<|zn<|yg1 6 9 true [118,119,120,121,122,123] 123 h (fun _ T hT h=>?_) fun σ w h=>?_
 · refine yv h fun _ w h=>yv h fun _ w h=>yv h fun _ w h=>yv h fun _ w h=>yB h fun _ w h=>yb h fun _ w h=>zn ?_
   exact zt hT h
 refine yG 2<|yp h fun _ h=>zm<|zn<|yg1 6 17 true [126,127,128,129,130,131] 131 h (fun _ T hT h=>?_) fun σ w h=>?_
 · refine yv h fun _ w h=>yv h fun _ w h=>yv h fun _ w h=>yv h fun _ w h=>yB h fun _ w h=>yb h fun _ w h=>zn ?_
   exact zt hT h
 exact yG 2<|yp h fun _ h=>zm<|zn<|sim_end<|zk<|sim_ret<|body_ret1 rfl rfl h
def samS1:StpD:=⟨⟨#[97]⟩,⟨#[98]⟩,1,⟨#[109]⟩,⟨#[115]⟩,⟨#[110]⟩,0,1,1⟩
def samS2:StpD:=⟨⟨#[98]⟩,⟨#[97]⟩,3,⟨#[]⟩,⟨#[]⟩,⟨#[]⟩,0,0,0⟩
def samC:List CntD:=[⟨⟨#[110]⟩,2⟩]
def samT:List StaD:=[⟨⟨#[97]⟩,false,0⟩,⟨⟨#[98]⟩,true,5⟩]
def samR:RolD:=⟨⟨#[99]⟩,samT,samC,[samS1,samS2]⟩
theorem own_obj {α:Type} {w:World} {base b n m:Nat} {T:TypeId} {enc:α→List Value} {l:List α} {cs:Array Value} (h:w.heap[b]?=some (.cells cs T (0,0))) (hcs:cs=(l.flatMap enc).toArray) (hm:m=l.length) (hn:∀ x,(enc x).length=n) (hb:base≤b) (hl:l.length≤1000000):OwnE w base T n enc (.slice (some ⟨b,0,none⟩) m m) l:=by
 subst hcs hm
 have hfl:(l.flatMap enc).length=l.length*n:=by
  clear hl h
  induction l with
  | nil=>simp
  | cons a l ih=>rw [List.flatMap_cons,List.length_append,hn,ih,List.length_cons,Nat.add_mul];omega
 refine ⟨hfl,.inr ⟨b,_,_,rfl,hb,h,Nat.le_refl _,by simp only [maxLen];omega,by rw [List.size_toArray,hfl],?_⟩⟩
 rw [List.take_of_length_le (by show (l.flatMap enc).length≤_;omega)]
structure SamAt (w:World) (base:Nat) (v:Value) (bS bC bT:Nat):Prop where
 v:v = .agg (rolCells samR (.slice (some ⟨bS,0,none⟩) 2 2) (.slice (some ⟨bC,0,none⟩) 1 1) (.slice (some ⟨bT,0,none⟩) 2 2)).toArray
 S:w.heap[bS]?=some (.cells (samT.flatMap staCells).toArray 50 (0,0))
 C:w.heap[bC]?=some (.cells (samC.flatMap cntCells).toArray 52 (0,0))
 T:w.heap[bT]?=some (.cells ([samS1,samS2].flatMap stpCells).toArray 71 (0,0))
 le:base≤bS∧base≤bC∧base≤bT
theorem SamAt.val {w:World} {base bS bC bT:Nat} {v:Value} (h:SamAt w base v bS bC bT):RolVal w v samR:=by
 obtain ⟨hv,h1,h2,h3,l1,l2,l3⟩:=h
 exact RolOwn.val (base:=base) ⟨_,_,_,hv,own_obj (l:=samT) h1 rfl rfl (fun _=>rfl) l1 (by decide),own_obj (l:=samC) h2 rfl rfl (fun _=>rfl) l2 (by decide),own_obj (l:=[samS1,samS2]) h3 rfl rfl (fun _=>rfl) l3 (by decide)⟩
theorem SamAt.ext {w w':World} {base bS bC bT:Nat} {v:Value} (h:SamAt w base v bS bC bT) (e:Ext w w'):SamAt w' base v bS bC bT:=⟨h.v,e.obj h.S,e.obj h.C,e.obj h.T,h.le⟩
theorem sample_ret (w0:World):Ret Pg 35 #[] w0 fun r w'=>Ext w0 w'∧∃ bS bC bT,SamAt w' w0.heap.size r bS bC bT:=by
 refine n12s (R:=retR _) ?_;unfold n12
 simp (disch:=try exact DI) only [↓PR,QR,simprocAttr]
 refine ⟨(((((Ext.refl w0).alloc _).alloc _).alloc _).alloc _),w0.heap.size+1+1,w0.heap.size+1,w0.heap.size+1+1+1,⟨rfl,?_,?_,?_,by omega,by omega,by omega⟩⟩
 · simp (disch:=try exact DI) only [↓PR,QR,simprocAttr]
   rfl
 · simp (disch:=try exact DI) only [↓PR,QR,simprocAttr]
   rfl
 · simp (disch:=try exact DI) only [↓PR,QR,simprocAttr]
   rfl
def samX:RolD:={ samR with steps:=[{ samS1 with high:=2 },samS2] }
def samY:RolD:={ samR with steps:=[{ samS1 with peer:=⟨#[99]⟩ },samS2] }
def samZ:RolD:={ samR with states:=[] }
def samTurned:RolD:=⟨⟨#[115]⟩,samT.map still,samC,[⟨⟨#[97]⟩,⟨#[98]⟩,2,⟨#[109]⟩,⟨#[99]⟩,⟨#[110]⟩,0,1,1⟩,⟨⟨#[98]⟩,⟨#[97]⟩,4,⟨#[]⟩,⟨#[]⟩,⟨#[]⟩,0,0,0⟩]⟩
theorem kn_check:checkR samR=(0,0)∧checkR samX=(0,293)∧checkR samY=(0,293)∧checkR samZ=(0,292):=by decide +kernel
theorem kn_parse1:parseP ⟨#[114,111,108,101,32,99]⟩=(zeroR,0,292):=by decide +kernel
theorem kn_parse2:parseP ⟨#[114,111,108,101,32,99,10,115,116,97,116,101,32,97,10,115,116,97,116,101,32,49]⟩=(zeroR,3,6):=by decide +kernel
theorem kn_turn:turnP samR ⟨#[115]⟩=(samTurned,0):=by decide +kernel
abbrev kn_text:ByteArray:=⟨#[114,111,108,101,32,99,10,99,111,117,110,116,101,114,32,110,32,50,10,115,116,97,116,101,32,97,10,115,116,97,116,101,32,98,32,119,97,105,116,32,53,32,102,105,110,97,108,10,115,116,101,112,32,97,32,98,32,115,101,110,100,32,109,32,115,32,119,104,101,110,32,110,32,48,32,49,32,49,10,115,116,101,112,32,98,32,97,32,116,105,109,101,111,117,116]⟩
theorem kn_print:printR samR=kn_text:=by
 have d0:decB 0=⟨#[UInt8.ofNat (48+0)]⟩:=dec_one (n:=0) (by decide)
 have d1:decB 1=⟨#[UInt8.ofNat (48+1)]⟩:=dec_one (n:=1) (by decide)
 have d2:decB 2=⟨#[UInt8.ofNat (48+2)]⟩:=dec_one (n:=2) (by decide)
 have d5:decB 5=⟨#[UInt8.ofNat (48+5)]⟩:=dec_one (n:=5) (by decide)
 unfold printR
 rw [kn_check.1,if_pos rfl,← textP_eq]
 have h1:textP samR=stpT (stpT (staT (staT (cntT (⟨#[114,111,108,101,32]⟩++⟨#[99]⟩) ⟨⟨#[110]⟩,2⟩) ⟨⟨#[97]⟩,false,0⟩) ⟨⟨#[98]⟩,true,5⟩) samS1) samS2:=rfl
 rw [h1]
 have c1:∀ s,cntT s ⟨⟨#[110]⟩,2⟩=s++⟨#[10,99,111,117,110,116,101,114,32]⟩++⟨#[110]⟩++⟨#[32]⟩++decB 2:=fun s=>rfl
 have c2:∀ s,staT s ⟨⟨#[97]⟩,false,0⟩=s++⟨#[10,115,116,97,116,101,32]⟩++⟨#[97]⟩:=fun s=>rfl
 have c3:∀ s,staT s ⟨⟨#[98]⟩,true,5⟩=s++⟨#[10,115,116,97,116,101,32]⟩++⟨#[98]⟩++⟨#[32,119,97,105,116,32]⟩++decB 5++⟨#[32,102,105,110,97,108]⟩:=fun s=>rfl
 have c4:∀ s,stpT s samS1=s++⟨#[10,115,116,101,112,32]⟩++⟨#[97]⟩++⟨#[32]⟩++⟨#[98]⟩++⟨#[32]⟩++kwB 1++⟨#[32]⟩++⟨#[109]⟩++⟨#[32]⟩++⟨#[115]⟩++⟨#[32,119,104,101,110,32]⟩++⟨#[110]⟩++⟨#[32]⟩++decB 0++⟨#[32]⟩++decB 1++⟨#[32]⟩++decB 1:=fun s=>rfl
 have c5:∀ s,stpT s samS2=s++⟨#[10,115,116,101,112,32]⟩++⟨#[98]⟩++⟨#[32]⟩++⟨#[97]⟩++⟨#[32]⟩++kwB 3:=fun s=>rfl
 rw [c1,c2,c3,c4,c5,d0,d1,d2,d5]
 decide +kernel
theorem num_ret (w:World) (v:Value):Ret Pg 15 #[v] w fun r w'=>r=v∧w'=w:=by
 refine n10s (R:=retR _) ?_;unfold n10
 exact ⟨_,rfl,rfl,rfl⟩
theorem q_step0 {C:World→Prop} [ClassNe C] (b n c:Nat) (hn:0 < n) {K:Value→Prop}:qV Pg C (Instr.indexAt 24 (.slice (some ⟨b,0,none⟩) n c) (.int .i64 0)) K=K (.pointer (some ⟨b,0,none⟩)):=qV_of fun QP w k=>(op_indexN Tryz.underlying24 ty71 b 0 n c .i64 0 hn).trans (by rw [Nat.zero_mul,Nat.add_zero])
theorem known_ret (w0:World) (hE:EnvOK w0):Ret Pg 11 #[] w0 fun r w'=>r = .bool true∧Ext w0 w':=by
 obtain ⟨ck0,ckX,ckY,ckZ⟩:=kn_check
 have hsmR:∀ x∈samR.steps,StpSm x:=by
  intro x hx
  have:x=samS1∨x=samS2:=by simpa [samR] using hx
  rcases this with rfl | rfl<;>(unfold StpSm;decide)
 have hsmX:∀ x∈samX.steps,StpSm x:=by
  intro x hx
  have:x={ samS1 with high:=2 }∨x=samS2:=by simpa [samX] using hx
  rcases this with rfl | rfl<;>(unfold StpSm;decide)
 have hsmY:∀ x∈samY.steps,StpSm x:=by
  intro x hx
  have:x={ samS1 with peer:=⟨#[99]⟩ }∨x=samS2:=by simpa [samY] using hx
  rcases this with rfl | rfl<;>(unfold StpSm;decide)
 have hok:RolOk samR:=by
  refine ⟨by decide,?_,?_,?_,by decide,by decide,by decide⟩
  · intro c hc
    have:c=⟨⟨#[110]⟩,2⟩:=by simpa [samR,samC] using hc
    subst this;decide
  · intro c hc
    have:c=⟨⟨#[97]⟩,false,0⟩∨c=⟨⟨#[98]⟩,true,5⟩:=by simpa [samR,samT] using hc
    rcases this with rfl | rfl<;>decide
  · intro x hx
    refine ⟨hsmR x hx,?_⟩
    have:x=samS1∨x=samS2:=by simpa [samR] using hx
    rcases this with rfl | rfl<;>decide
 refine n8s (R:=retR _) ?_;unfold n8
 refine callK_ret (sample_ret w0) ?_
 rintro v w1 ⟨e1,bS,bC,bT,hs⟩
 refine zcr (Print_ret w1 v samR hs.val hok (hE.ext e1).tab) fun w2 e2=>?_
 rw [kn_print,ck0]
 have dk:decide (kn_text=kn_text)=true:=decide_eq_true rfl
 unfold n8c24
 simp (disch:=try exact DI) only [↓PR,QR,simprocAttr,dk]
 refine callK_ret (num_ret w2 _) ?_
 rintro _ w2' ⟨rfl,rfl⟩
 simp (disch:=try exact DI) only [↓PR,QR,simprocAttr]
 unfold n8c23
 have E2:=e1.trans e2
 refine callK_ret (sample_ret w2') ?_
 rintro vx w3 ⟨e3,bSx,bCx,bTx,hx⟩
 refine callK_ret (sample_ret w3) ?_
 rintro vy w4 ⟨e4,bSy,bCy,bTy,hy⟩
 refine callK_ret (sample_ret w4) ?_
 rintro vz w5 ⟨e5,bSz,bCz,bTz,hz⟩
 have bx3:bTx < w3.heap.size:=(Array.getElem?_eq_some_iff.1 hx.T).1
 have by4:bTy < w4.heap.size:=(Array.getElem?_eq_some_iff.1 hy.T).1
 have s45:=e5.size
 have hx:=hx.ext (e4.trans e5)
 have hy:=hy.ext e5
 have E5:=((E2.trans e3).trans e4).trans e5
 obtain ⟨rfl,hxS,hxC,hxT,lx1,lx2,lx3⟩:=hx
 obtain ⟨rfl,hyS,hyC,hyT,ly1,ly2,ly3⟩:=hy
 obtain ⟨rfl,hzS,hzC,hzT,lz1,lz2,lz3⟩:=hz
 unfold n8c22
 simp (disch:=try exact DI) only [↓PR,QR,simprocAttr]
 simp only [World.size_alloc]
 have o3:∀ a b c:Obj,(((w5.alloc a).alloc b).alloc c).heap[w5.heap.size]?=some a∧(((w5.alloc a).alloc b).alloc c).heap[w5.heap.size+1]?=some b∧(((w5.alloc a).alloc b).alloc c).heap[w5.heap.size+1+1]?=some c:=fun a b c=>by refine ⟨?_,?_,?_⟩<;>simp (disch:=try exact DI) only [↓PR,QR,simprocAttr]
 obtain ⟨oX,oY,oZ⟩:=o3 (Obj.cells (rolCells samR (.slice (some ⟨bSx,0,none⟩) 2 2) (.slice (some ⟨bCx,0,none⟩) 1 1) (.slice (some ⟨bTx,0,none⟩) 2 2)).toArray TRol) (Obj.cells (rolCells samR (.slice (some ⟨bSy,0,none⟩) 2 2) (.slice (some ⟨bCy,0,none⟩) 1 1) (.slice (some ⟨bTy,0,none⟩) 2 2)).toArray TRol) (Obj.cells (rolCells samR (.slice (some ⟨bSz,0,none⟩) 2 2) (.slice (some ⟨bCz,0,none⟩) 1 1) (.slice (some ⟨bTz,0,none⟩) 2 2)).toArray TRol)
 have eU:Ext w5 (((w5.alloc (Obj.cells (rolCells samR (.slice (some ⟨bSx,0,none⟩) 2 2) (.slice (some ⟨bCx,0,none⟩) 1 1) (.slice (some ⟨bTx,0,none⟩) 2 2)).toArray TRol)).alloc (Obj.cells (rolCells samR (.slice (some ⟨bSy,0,none⟩) 2 2) (.slice (some ⟨bCy,0,none⟩) 1 1) (.slice (some ⟨bTy,0,none⟩) 2 2)).toArray TRol)).alloc (Obj.cells (rolCells samR (.slice (some ⟨bSz,0,none⟩) 2 2) (.slice (some ⟨bCz,0,none⟩) 1 1) (.slice (some ⟨bTz,0,none⟩) 2 2)).toArray TRol)):=(((Ext.refl w5).alloc _).alloc _).alloc _
 generalize World.alloc (World.alloc (World.alloc w5 _) _) _=U at oX oY oZ eU ⊢
 clear o3
 have hxS:=eU.obj hxS
 have hxC:=eU.obj hxC
 have hxT:=eU.obj hxT
 have hyS:=eU.obj hyS
 have hyC:=eU.obj hyC
 have hyT:=eU.obj hyT
 have hzC:=eU.obj hzC
 have hzT:=eU.obj hzT
 have bl:∀ {b:Nat} {o:Obj},w5.heap[b]?=some o→b < w5.heap.size:=fun h=>(Array.getElem?_eq_some_iff.1 h).1
 have s34:=e4.size
 have hxy:bTx≠bTy:=by omega
 refine drawK_introB bTx bTy (w1:=U) (fun _ _ _ _=>rfl) ?_
 have eD:Ext U (Sw.drew U):=(Ext.refl U).drew
 have hKD:KB U bTx bTy (Sw.drew U):=fun _ _ _ _=>rfl
 generalize Sw.drew U=D at eD hKD ⊢
 have n1:w5.heap.size≠bTx:=by omega
 have n2:w5.heap.size≠bTy:=by omega
 have n3:w5.heap.size+1≠bTx:=by omega
 have n4:w5.heap.size+1≠bTy:=by omega
 have n5:w5.heap.size+1+1≠bTx:=by omega
 have n6:w5.heap.size+1+1≠bTy:=by omega
 have E6:=E5.trans eU
 have s5:=E5.size
 generalize hb:w5.heap.size=B at *
 have dX:=eD.obj oX
 have dY:=eD.obj oY
 have dZ:=eD.obj oZ
 have dxT:=eD.obj hxT
 have dyT:=eD.obj hyT
 have hK1:∀ v,KB U bTx bTy (D.setCell ⟨bTx,7,none⟩ v):=fun v b hb h1 h2=>(Only.setCell D bTx 7 v b h1).trans (hKD b hb h1 h2)
 unfold n8c21
 have i0:∀ (b:Nat) (K:Value→Prop),qV Pg (KB U bTx bTy) (Instr.indexAt 24 (.slice (some ⟨b,0,none⟩) 2 2) (.int .i64 0)) K=K (.pointer (some ⟨b,0,none⟩)):=fun b K=>q_step0 b 2 2 (by decide)
 have q7:D.cell? ⟨bTx,7,none⟩=some (.int .i64 1):=by rw [(cells_of_heap dxT).1];rfl
 have z7:D.frozen? ⟨bTx,7,none⟩=false:=(cells_of_heap dxT).2 _
 simp (disch:=try exact DI) only [↓PR,QR,simprocAttr,(cells_of_heap oX).1,(cells_of_heap oY).1,i0,q7,z7]
 refine ⟨hK1 _,?_⟩
 have f1:(D.setCell ⟨bTx,7,none⟩ (.int .i64 2)).heap[bTx]?=some (.cells ([{ samS1 with high:=2 },samS2].flatMap stpCells).toArray 71 (0,0)):=heap_set (o:=7) dxT (.int .i64 2)
 have f2:∀ b,b≠bTx→(D.setCell ⟨bTx,7,none⟩ (.int .i64 2)).heap[b]?=D.heap[b]?:=fun b hb=>Only.setCell D bTx 7 _ b hb
 have E7:Ext w0 (D.setCell ⟨bTx,7,none⟩ (.int .i64 2)):=(E6.trans eD).setCell (p:=⟨bTx,7,none⟩) (by have:=E2.size;show w0.heap.size≤bTx;omega) _
 generalize World.setCell D _ _=D1 at f1 f2 E7 ⊢
 have gX:=(f2 _ n1).trans dX
 have gY:=(f2 _ n3).trans dY
 have gZ:=(f2 _ n5).trans dZ
 have gyT:=(f2 bTy (Ne.symm hxy)).trans dyT
 unfold n8c20
 have q4:D1.cell? ⟨bTy,4,none⟩=some (.string ⟨#[115]⟩):=by rw [(cells_of_heap gyT).1];rfl
 have z4:D1.frozen? ⟨bTy,4,none⟩=false:=(cells_of_heap gyT).2 _
 simp (disch:=try exact DI) only [↓PR,QR,simprocAttr,i0,q4,z4]
 refine turnK_intro ?_
 have f3:(D1.setCell ⟨bTy,4,none⟩ (.string ⟨#[99]⟩)).heap[bTy]?=some (.cells ([{ samS1 with peer:=⟨#[99]⟩ },samS2].flatMap stpCells).toArray 71 (0,0)):=heap_set (o:=4) gyT (.string ⟨#[99]⟩)
 have f4:∀ b,b≠bTy→(D1.setCell ⟨bTy,4,none⟩ (.string ⟨#[99]⟩)).heap[b]?=D1.heap[b]?:=fun b hb=>Only.setCell D1 bTy 4 _ b hb
 have E8:Ext w0 (D1.setCell ⟨bTy,4,none⟩ (.string ⟨#[99]⟩)):=E7.setCell (p:=⟨bTy,4,none⟩) (by have:=(E2.trans e3).size;show w0.heap.size≤bTy;omega) _
 generalize World.setCell D1 _ _=D2 at f3 f4 E8 ⊢
 have gZ2:=(f4 _ n6).trans gZ
 unfold n8c19
 simp (disch:=try exact DI) only [↓PR,QR,simprocAttr,(cells_of_heap gZ2).1,(cells_of_heap gZ2).2]
 refine turnK_intro ?_
 have f5:=heap_set (o:=1) gZ2 (.slice none 0 0)
 have f6:∀ b,b≠B+1+1→(D2.setCell ⟨B+1+1,1,none⟩ (.slice none 0 0)).heap[b]?=D2.heap[b]?:=fun b hb=>Only.setCell D2 _ 1 _ b hb
 have E9:Ext w0 (D2.setCell ⟨B+1+1,1,none⟩ (.slice none 0 0)):=E8.setCell (p:=⟨B+1+1,1,none⟩) (by show w0.heap.size≤B+1+1;omega) _
 generalize World.setCell D2 _ _=D3 at f5 f6 E9 ⊢
 have kk:∀ b,b≠bTx→b≠bTy→b≠B+1+1→b < U.heap.size→D3.heap[b]?=U.heap[b]?:=fun b h1 h2 h3 h4=>(f6 b h3).trans ((f4 b h2).trans ((f2 b h1).trans (eD.block b h4)))
 have hbl:∀ {b:Nat} {o:Obj},U.heap[b]?=some o→b < U.heap.size:=fun h=>(Array.getElem?_eq_some_iff.1 h).1
 have tn:∀ {b b':Nat} {T T':TypeId} {c c':Array Value},U.heap[b]?=some (.cells c T (0,0))→U.heap[b']?=some (.cells c' T' (0,0))→T≠T'→b≠b':=fun h h' hne e=>by
  subst e
  rw [h] at h'
  simp only [Option.some.injEq,Obj.cells.injEq] at h'
  exact hne h'.2.1
 have jX:D3.heap[B]?=_:=(kk B n1 n2 (by omega) (hbl oX)).trans oX
 have jY:D3.heap[B+1]?=_:=(kk (B+1) n3 n4 (by omega) (hbl oY)).trans oY
 have jxS:D3.heap[bSx]?=_:=(kk bSx (tn hxS hxT (by decide)) (tn hxS hyT (by decide)) (tn hxS oZ (by decide)) (hbl hxS)).trans hxS
 have jxC:D3.heap[bCx]?=_:=(kk bCx (tn hxC hxT (by decide)) (tn hxC hyT (by decide)) (tn hxC oZ (by decide)) (hbl hxC)).trans hxC
 have jyS:D3.heap[bSy]?=_:=(kk bSy (tn hyS hxT (by decide)) (tn hyS hyT (by decide)) (tn hyS oZ (by decide)) (hbl hyS)).trans hyS
 have jyC:D3.heap[bCy]?=_:=(kk bCy (tn hyC hxT (by decide)) (tn hyC hyT (by decide)) (tn hyC oZ (by decide)) (hbl hyC)).trans hyC
 have jzC:D3.heap[bCz]?=_:=(kk bCz (tn hzC hxT (by decide)) (tn hzC hyT (by decide)) (tn hzC oZ (by decide)) (hbl hzC)).trans hzC
 have bz:bTz≠bTx∧bTz≠bTy:=by omega
 have jzT:D3.heap[bTz]?=_:=(kk bTz bz.1 bz.2 (tn hzT oZ (by decide)) (hbl hzT)).trans hzT
 have jxT:D3.heap[bTx]?=_:=((f6 bTx (tn hxT oZ (by decide))).trans (f4 bTx hxy)).trans f1
 have jyT:D3.heap[bTy]?=_:=(f6 bTy (tn hyT oZ (by decide))).trans f3
 have vX:RolVal D3 (.agg #[.string ⟨#[99]⟩,.slice (some ⟨bSx,0,none⟩) 2 2,.slice (some ⟨bCx,0,none⟩) 1 1,.slice (some ⟨bTx,0,none⟩) 2 2]) samX:=RolOwn.val (base:=0) ⟨_,_,_,rfl,own_obj (l:=samT) jxS rfl rfl (fun _=>rfl) (Nat.zero_le _) (by decide),own_obj (l:=samC) jxC rfl rfl (fun _=>rfl) (Nat.zero_le _) (by decide),own_obj (l:=samX.steps) jxT rfl rfl (fun _=>rfl) (Nat.zero_le _) (by decide)⟩
 have vY:RolVal D3 (.agg #[.string ⟨#[99]⟩,.slice (some ⟨bSy,0,none⟩) 2 2,.slice (some ⟨bCy,0,none⟩) 1 1,.slice (some ⟨bTy,0,none⟩) 2 2]) samY:=RolOwn.val (base:=0) ⟨_,_,_,rfl,own_obj (l:=samT) jyS rfl rfl (fun _=>rfl) (Nat.zero_le _) (by decide),own_obj (l:=samC) jyC rfl rfl (fun _=>rfl) (Nat.zero_le _) (by decide),own_obj (l:=samY.steps) jyT rfl rfl (fun _=>rfl) (Nat.zero_le _) (by decide)⟩
 have vZ:RolVal D3 (.agg #[.string ⟨#[99]⟩,.slice none 0 0,.slice (some ⟨bCz,0,none⟩) 1 1,.slice (some ⟨bTz,0,none⟩) 2 2]) samZ:=RolOwn.val (base:=0) ⟨_,_,_,rfl,OwnE.nil _ _ _ _ _,own_obj (l:=samC) jzC rfl rfl (fun _=>rfl) (Nat.zero_le _) (by decide),own_obj (l:=[samS1,samS2]) jzT rfl rfl (fun _=>rfl) (Nat.zero_le _) (by decide)⟩
 simp (disch:=try exact DI) only [↓PR,QR,simprocAttr,(cells_of_heap jX).1]
 refine zcr (Check_ret D3 _ samX vX hsmX (by decide)) fun u1 a1=>?_
 rw [ckX]
 unfold n8c18
 simp (disch:=try exact DI) only [↓PR,QR,simprocAttr,(cells_of_heap (a1.obj jY)).1]
 refine zcr (Check_ret u1 _ samY (vY.ext a1) hsmY (by decide)) fun u2 a2=>?_
 rw [ckY]
 have a12:=a1.trans a2
 unfold n8c17
 simp (disch:=try exact DI) only [↓PR,QR,simprocAttr,(cells_of_heap (a12.obj f5)).1]
 refine zcr (Check_ret u2 _ samZ (vZ.ext a12) hsmR (by decide)) fun u3 a3=>?_
 rw [ckZ]
 have E10:=E9.trans (a12.trans a3)
 unfold n8c16
 simp (disch:=try exact DI) only [↓PR,QR,simprocAttr]
 refine callK_ret (Parse_ret (hE.ext E10) (by decide)) ?_
 rintro _ u4 ⟨⟨v4,rfl,hv4⟩,a4⟩
 rw [kn_parse1] at hv4 ⊢
 obtain ⟨y1,y2,y3,rfl,g1,g2,g3⟩:=hv4.val
 have oo1:=SliceOf.oneCell g1
 have oo2:=SliceOf.oneCell g2
 have oo3:=SliceOf.oneCell g3
 unfold n8c15
 simp (disch:=try exact DI) only [↓PR,QR,simprocAttr]
 generalize hU5:World.alloc u4 _=u5
 have a5:Ext u4 u5:=by rw [← hU5];exact (Ext.refl u4).alloc _
 clear hU5
 have E11:=E10.trans (a4.trans a5)
 refine callK_ret (Parse_ret (hE.ext E11) (by decide)) ?_
 rintro _ u6 ⟨⟨v6,rfl,hv6⟩,a6⟩
 rw [kn_parse2] at hv6 ⊢
 obtain ⟨z1,z2,z3,rfl,g4,g5,g6⟩:=hv6.val
 have oo4:=SliceOf.oneCell g4
 have oo5:=SliceOf.oneCell g5
 have oo6:=SliceOf.oneCell g6
 have wr0:(IntKind.i64.wrap (IntKind.i64.wrap 0+0) != 0)=false:=by decide
 unfold n8c14
 simp (disch:=try exact DI) only [↓PR,QR,simprocAttr,wr0,↓n8c13,↓n8c12,↓n8c11,↓n8c10,↓n8c9,↓n8c8,↓n8c7]
 generalize hU7:World.alloc u6 _=u7
 have a7:Ext u6 u7:=by rw [← hU7];exact (Ext.refl u6).alloc _
 clear hU7
 have E12:=E11.trans (a6.trans a7)
 refine callK_ret (sample_ret u7) ?_
 rintro vt u8 ⟨a8,cS,cC,cT,ht⟩
 refine callK_ret (Turn_ret u8 vt samR ⟨#[115]⟩ ht.val hsmR (by decide)) ?_
 rintro _ u9 ⟨⟨xt,rfl,hxt⟩,a9⟩
 rw [kn_turn] at hxt ⊢
 obtain ⟨sv,cv,tv,rfl,g7,g8,g9⟩:=hxt
 have oo7:=own_one g7 (fun _=>rfl)
 have oo8:=own_one g8 (fun _=>rfl)
 have oo9:=own_one g9 (fun _=>rfl)
 unfold n8c6
 simp (disch:=try exact DI) only [↓PR,QR,simprocAttr]
 have oA:=heap_new u9 (rolCells samTurned sv cv tv).toArray TRol
 have a10:Ext u9 (u9.alloc (.cells (rolCells samTurned sv cv tv).toArray TRol)):=(Ext.refl u9).alloc _
 generalize u9.alloc (.cells (rolCells samTurned sv cv tv).toArray TRol)=u10 at oA a10 ⊢
 refine callK_ret (num_ret u10 _) ?_
 rintro _ u10' ⟨rfl,rfl⟩
 have E13:=E12.trans (a8.trans (a9.trans a10))
 have hT:=(g9.ext a10).slice (E:=EStp) (fun _=>rfl) (fun _ _=>rfl)
 obtain ⟨TA,tc,rfl,_,_,_,hel⟩:=SliceOf.open hT
 obtain ⟨bt,ot,cs0,rfl,_,hA0,rfl⟩:=hel 0 _ rfl
 obtain ⟨bt',ot',cs1,hA',_,hA1,rfl⟩:=hel 1 _ rfl
 injection hA' with hA'
 injection hA' with e1' e2'
 subst e1' e2'
 have l2:((samTurned.steps.length:Int) == 2)=true:=by decide
 have j0:∀ (QP:List PanicEntry→World→Prop) (w:World) (K:Value→World→Prop),opV Pg (Instr.indexAt 24 (.slice (some ⟨bt,ot,none⟩) samTurned.steps.length tc) (.int .i64 0)) QP w K=K (.pointer (some ⟨bt,ot+0*9,none⟩)) w:=fun QP w K=>op_indexN Tryz.underlying24 ty71 bt ot samTurned.steps.length tc .i64 0 (by decide)
 have j1:∀ (QP:List PanicEntry→World→Prop) (w:World) (K:Value→World→Prop),opV Pg (Instr.indexAt 24 (.slice (some ⟨bt,ot,none⟩) samTurned.steps.length tc) (.int .i64 1)) QP w K=K (.pointer (some ⟨bt,ot+1*9,none⟩)) w:=fun QP w K=>op_indexN Tryz.underlying24 ty71 bt ot samTurned.steps.length tc .i64 1 (by decide)
 generalize ot+0*9=ot0 at hA0 j0
 generalize ot+1*9=ot1 at hA1 j1
 unfold n8c5
 simp (disch:=try exact DI) only [↓PR,QR,simprocAttr,↓n8c4,(cells_of_heap oA).1,l2,↓n8c3,j0,hA0.c9 (Ext.refl _)]
 unfold n8c2
 simp (disch:=try exact DI) only [↓PR,QR,simprocAttr,↓n8c1,(cells_of_heap oA).1,j1,hA1.c9 (Ext.refl _)]
 exact ⟨by first | trivial | rfl | decide,E13⟩
abbrev LawR (w0:World):Ending→World→Prop:=retR fun r w'=>r = .bool true∧Ext w0 w'
end Go.Proofs.YtngflmjncplkaaaGreatDoor
namespace Go.Proofs.YtngflmjncplkaaaGreatDoor
open Sw
open Go.ChangeShapes Go.WideShapes Go.RowKit Go.ChangeAt Go.Deep
def I64 (n:Int):Prop := -9223372036854775808≤n∧n≤9223372036854775807
theorem I64.of {n:Int} (h:(Lit.int .i64 n).wf=true):I64 n:=by
 simp only [Lit.wf,Bool.and_eq_true,decide_eq_true_eq] at h
 exact ⟨h.1,h.2⟩
def CntIn (x:CntD):Prop:=I64 x.limit
def StaIn (x:StaD):Prop:=I64 x.wait
def StpIn (x:StpD):Prop:=I64 x.low∧I64 x.high∧I64 x.add
def RolIn (r:RolD):Prop:=(∀ c∈r.counters,CntIn c)∧(∀ c∈r.states,StaIn c)∧∀ c∈r.steps,StpIn c
theorem ocellsString:Pg.cellsOf 9=1:=by kernel_rfl
theorem ocellsInt:Pg.cellsOf 3=1:=by kernel_rfl
theorem ocellsBool:Pg.cellsOf 4=1:=by kernel_rfl
theorem ocellsKind:Pg.cellsOf 69=1:=by kernel_rfl
theorem ocellsCnt:Pg.cellsOf 52=2:=by kernel_rfl
theorem ocellsSta:Pg.cellsOf 50=3:=by kernel_rfl
theorem ocellsStp:Pg.cellsOf 71=9:=by kernel_rfl
theorem ocellsRol:Pg.cellsOf 26=4:=by kernel_rfl
theorem ocellsCnts:Pg.cellsOf 23=1:=by kernel_rfl
theorem ocellsStas:Pg.cellsOf 22=1:=by kernel_rfl
theorem ocellsStps:Pg.cellsOf 24=1:=by kernel_rfl
theorem obytesCnt:1≤Pg.bytesOf 52:=Nat.le_of_ble_eq_true (by kernel_rfl)
theorem obytesSta:1≤Pg.bytesOf 50:=Nat.le_of_ble_eq_true (by kernel_rfl)
theorem obytesStp:1≤Pg.bytesOf 71:=Nat.le_of_ble_eq_true (by kernel_rfl)
section
variable {H:Type} {enc:TypeId×Value→H} {w:World} {base:Nat} {spare:Nat→Bool} {held:Bool}
theorem cnt_of {m:Nat} {cs:List Value} {y:DataW H×List MemPlace} (h:DataW.trod enc Pg w base spare held m 52 cs=some y) (hr:Reached Pg 52 y.1):∃ x,ECnt w cs x∧CntIn x:=by
 obtain ⟨hl,n,hf⟩:=struct_of_trod Tryz.underlying52 ocellsCnt h hr
 obtain ⟨y0,h0,r0⟩:=hf 0 9 0 1 rfl ocellsString
 obtain ⟨y1,h1,r1⟩:=hf 1 3 1 1 rfl ocellsInt
 match cs,hl with
 | [c0,c1],_ =>
  obtain ⟨x0,e0,_⟩:=DataW.trod_string Tryz.underlying9 h0
  obtain ⟨x1,e1,_,w1⟩:=DataW.trod_int Tryz.underlying3 h1
  simp at e0 e1
  subst e0 e1
  exact ⟨⟨x0,x1⟩,rfl,I64.of w1⟩
theorem sta_of {m:Nat} {cs:List Value} {y:DataW H×List MemPlace} (h:DataW.trod enc Pg w base spare held m 50 cs=some y) (hr:Reached Pg 50 y.1):∃ x,ESta w cs x∧StaIn x:=by
 obtain ⟨hl,n,hf⟩:=struct_of_trod Tryz.underlying50 ocellsSta h hr
 obtain ⟨y0,h0,r0⟩:=hf 0 9 0 1 rfl ocellsString
 obtain ⟨y1,h1,r1⟩:=hf 1 4 1 1 rfl ocellsBool
 obtain ⟨y2,h2,r2⟩:=hf 2 3 2 1 rfl ocellsInt
 match cs,hl with
 | [c0,c1,c2],_ =>
  obtain ⟨x0,e0,_⟩:=DataW.trod_string Tryz.underlying9 h0
  obtain ⟨x1,e1,_⟩:=DataW.trod_bool Tryz.underlying4 h1
  obtain ⟨x2,e2,_,w2⟩:=DataW.trod_int Tryz.underlying3 h2
  simp at e0 e1 e2
  subst e0 e1 e2
  exact ⟨⟨x0,x1,x2⟩,rfl,I64.of w2⟩
theorem stp_of {m:Nat} {cs:List Value} {y:DataW H×List MemPlace} (h:DataW.trod enc Pg w base spare held m 71 cs=some y) (hr:Reached Pg 71 y.1):∃ x,EStp w cs x∧StpIn x:=by
 obtain ⟨hl,n,hf⟩:=struct_of_trod Tryz.underlying71 ocellsStp h hr
 obtain ⟨y0,h0,r0⟩:=hf 0 9 0 1 rfl ocellsString
 obtain ⟨y1,h1,r1⟩:=hf 1 9 1 1 rfl ocellsString
 obtain ⟨y2,h2,r2⟩:=hf 2 69 2 1 rfl ocellsKind
 obtain ⟨y3,h3,r3⟩:=hf 3 9 3 1 rfl ocellsString
 obtain ⟨y4,h4,r4⟩:=hf 4 9 4 1 rfl ocellsString
 obtain ⟨y5,h5,r5⟩:=hf 5 9 5 1 rfl ocellsString
 obtain ⟨y6,h6,r6⟩:=hf 6 3 6 1 rfl ocellsInt
 obtain ⟨y7,h7,r7⟩:=hf 7 3 7 1 rfl ocellsInt
 obtain ⟨y8,h8,r8⟩:=hf 8 3 8 1 rfl ocellsInt
 match cs,hl with
 | [c0,c1,c2,c3,c4,c5,c6,c7,c8],_ =>
  obtain ⟨x0,e0,_⟩:=DataW.trod_string Tryz.underlying9 h0
  obtain ⟨x1,e1,_⟩:=DataW.trod_string Tryz.underlying9 h1
  obtain ⟨x2,e2,_,w2⟩:=DataW.trod_int Tryz.underlying69 h2
  obtain ⟨x3,e3,_⟩:=DataW.trod_string Tryz.underlying9 h3
  obtain ⟨x4,e4,_⟩:=DataW.trod_string Tryz.underlying9 h4
  obtain ⟨x5,e5,_⟩:=DataW.trod_string Tryz.underlying9 h5
  obtain ⟨x6,e6,_,w6⟩:=DataW.trod_int Tryz.underlying3 h6
  obtain ⟨x7,e7,_,w7⟩:=DataW.trod_int Tryz.underlying3 h7
  obtain ⟨x8,e8,_,w8⟩:=DataW.trod_int Tryz.underlying3 h8
  simp at e0 e1 e2 e3 e4 e5 e6 e7 e8
  subst e0 e1 e2 e3 e4 e5 e6 e7 e8
  exact ⟨⟨x0,x1,x2,x3,x4,x5,x6,x7,x8⟩,rfl,I64.of w6,I64.of w7,I64.of w8⟩
theorem rol_of {m:Nat} {cs:List Value} {y:DataW H×List MemPlace} (h:DataW.trod enc Pg w base spare held m 26 cs=some y) (hr:Reached Pg 26 y.1):∃ x,ERol w cs x∧RolIn x:=by
 obtain ⟨hl,n,hf⟩:=struct_of_trod Tryz.underlying26 ocellsRol h hr
 obtain ⟨y0,h0,r0⟩:=hf 0 9 0 1 rfl ocellsString
 obtain ⟨y1,h1,r1⟩:=hf 1 22 1 1 rfl ocellsStas
 obtain ⟨y2,h2,r2⟩:=hf 2 23 2 1 rfl ocellsCnts
 obtain ⟨y3,h3,r3⟩:=hf 3 24 3 1 rfl ocellsStps
 match cs,hl with
 | [c0,c1,c2,c3],_ =>
  obtain ⟨x0,e0,_⟩:=DataW.trod_string Tryz.underlying9 h0
  obtain ⟨v1,x1,e1,hS1,hQ1,_⟩:=slice_of_trod (E:=ESta) (Q:=StaIn) Tryz.underlying22 ocellsSta obytesSta (by decide) (fun _ _ _ h hr=>sta_of h hr) h1 r1
  obtain ⟨v2,x2,e2,hS2,hQ2,_⟩:=slice_of_trod (E:=ECnt) (Q:=CntIn) Tryz.underlying23 ocellsCnt obytesCnt (by decide) (fun _ _ _ h hr=>cnt_of h hr) h2 r2
  obtain ⟨v3,x3,e3,hS3,hQ3,_⟩:=slice_of_trod (E:=EStp) (Q:=StpIn) Tryz.underlying24 ocellsStp obytesStp (by decide) (fun _ _ _ h hr=>stp_of h hr) h3 r3
  simp at e0 e1 e2 e3
  subst e0 e1 e2 e3
  exact ⟨⟨x0,x1,x2,x3⟩,⟨_,_,_,rfl,hS1,hS2,hS3⟩,hQ2,hQ1,hQ3⟩
theorem rol_val {r:Reach} {b0:Nat} {v:Value} {d:DataW H} {ps:List MemPlace} (hval:Value.okWide Pg w r b0 26 v) (h:DataW.Trod enc Pg w base spare held 26 v d ps) (hr:Reached Pg 26 d):∃ f,RolVal w v f∧RolIn f:=by
 obtain ⟨cs,rfl,_⟩:=okWide_struct Tryz.underlying26 hval
 obtain ⟨fuel,hf⟩:=h
 obtain ⟨f,⟨sv,cv,tv,h1,h2,h3,h4⟩,hs⟩:=rol_of hf hr
 exact ⟨f,⟨sv,cv,tv,congrArg Value.agg (by rw [← h1,cells_agg]),h2,h3,h4⟩,hs⟩
end
end Go.Proofs.YtngflmjncplkaaaGreatDoor
namespace Go.Proofs.YtngflmjncplkaaaGreatDoor
open Sw
open Go.RowKit (intOf Below)
def StpFew (x:StpD):Prop:=x.fr.size≤60∧x.to.size≤60∧x.message.size≤60∧x.peer.size≤60∧x.counter.size≤60
structure Few (r:RolD):Prop where
 nc:r.counters.length≤6
 ns:r.states.length≤30
 nt:r.steps.length≤90
 nm:r.name.size≤60
 cs:∀ c∈r.counters,c.name.size≤60
 ss:∀ c∈r.states,c.name.size≤60
 ts:∀ x∈r.steps,StpFew x
theorem all_below {α:Type} {l:List α} {P:α→Prop} (h:∀ (j:Nat) y,j < l.length→l[j]?=some y→P y):∀ x∈l,P x:=fun x hx=>by
 obtain ⟨j,hj,e⟩:=List.getElem_of_mem hx
 exact h j x hj (by rw [List.getElem?_eq_getElem hj,e])
theorem below_succ {α:Type} {l:List α} {P:α→Prop} {k:Nat} {x:α} (hb:∀ (j:Nat) y,j < k→l[j]?=some y→P y) (hx:l[k]?=some x) (hp:P x):∀ (j:Nat) y,j < k+1→l[j]?=some y→P y:=fun j y hj hy=>by
 rcases Nat.lt_or_ge j k with h | h
 · exact hb j y h hy
 · obtain rfl:j=k:=by omega
   rw [hx] at hy
   injection hy with hy
   exact hy ▸ hp
abbrev LrgR (w0:World) (r:RolD):Ending→World→Prop:=retR fun u w'=>Ext w0 w'∧∃ b,u = .bool b∧(b=false→Few r)
theorem large_ret (w0:World) (v:Value) (r:RolD) (hr:RolVal w0 v r):Ret Pg 10 #[v] w0 fun u w'=>Ext w0 w'∧∃ b,u = .bool b∧(b=false→Few r):=by
 obtain ⟨sv,cv,tv,rfl,hS,hC,hT,o1,o2,o3⟩:=hr.op
 obtain ⟨A1,c1,rfl,_,_,_,hel1⟩:=SliceOf.open hS
 obtain ⟨A2,c2,rfl,_,_,_,hel2⟩:=SliceOf.open hC
 obtain ⟨A3,c3,rfl,_,_,_,hel3⟩:=SliceOf.open hT
 refine n9s (R:=retR _) ?_;unfold n9
 rw [op_boxA]
 have hp:=heap_new w0 (rolCells r (.slice A1 r.states.length c1) (.slice A2 r.counters.length c2) (.slice A3 r.steps.length c3)).toArray 26
 have eW:Ext w0 (w0.alloc (.cells (rolCells r (.slice A1 r.states.length c1) (.slice A2 r.counters.length c2) (.slice A3 r.steps.length c3)).toArray 26)):=ee
 generalize (w0.alloc (.cells (rolCells r (.slice A1 r.states.length c1) (.slice A2 r.counters.length c2) (.slice A3 r.steps.length c3)).toArray 26))=W at hp eW ⊢
 generalize w0.heap.size=p at hp ⊢
 have yes:∀ w,Ext W w→Ext w0 w∧∃ b,Value.bool true = .bool b∧(b=false→Few r):=fun w e=>⟨eW.trans e,true,rfl,fun h=>by cases h⟩
 by_cases h1:6 < r.counters.length
 · have d1:decide ((r.counters.length:Int) > 6)=true:=decide_eq_true (by omega)
   simp (disch:=try exact DI) only [↓PR,QR,simprocAttr,(cells_of_heap hp).1,d1,↓n9c11,↓n9c10]
   exact yes _ (Ext.refl _)
 have d1:decide ((r.counters.length:Int) > 6)=false:=decide_eq_false (by omega)
 by_cases h2:30 < r.states.length
 · have d2:decide ((r.states.length:Int) > 30)=true:=decide_eq_true (by omega)
   simp (disch:=try exact DI) only [↓PR,QR,simprocAttr,(cells_of_heap hp).1,d1,d2,↓n9c11,↓n9c10]
   exact yes _ (Ext.refl _)
 have d2:decide ((r.states.length:Int) > 30)=false:=decide_eq_false (by omega)
 by_cases h3:90 < r.steps.length
 · have d3:decide ((r.steps.length:Int) > 90)=true:=decide_eq_true (by omega)
   simp (disch:=try exact DI) only [↓PR,QR,simprocAttr,(cells_of_heap hp).1,d1,d2,d3,↓n9c11,↓n9c10]
   exact yes _ (Ext.refl _)
 have d3:decide ((r.steps.length:Int) > 90)=false:=decide_eq_false (by omega)
 by_cases h4:60 < r.name.size
 · have d4:decide ((r.name.size:Int) > 60)=true:=decide_eq_true (by omega)
   simp (disch:=try exact DI) only [↓PR,QR,simprocAttr,(cells_of_heap hp).1,d1,d2,d3,d4,↓n9c11,↓n9c10]
   exact yes _ (Ext.refl _)
 have d4:decide ((r.name.size:Int) > 60)=false:=decide_eq_false (by omega)
 have steps:∀ w,Ext W w→(∀ c∈r.counters,c.name.size≤60)→(∀ c∈r.states,c.name.size≤60)→loop1 (fun t5 w next6=>n9c5 (.pointer (some ⟨p,0,none⟩)) t5 next6 (LrgR w0 r) w) (.int .i64 0) w:=by
  intro w e hcs hss
  refine loop1_intro (fun a w=>∃ k:Nat,a = .int .i64 k∧k≤r.steps.length∧Ext W w∧∀ (j:Nat) y,j < k→r.steps[j]?=some y→StpFew y) (fun a _=>r.steps.length - (intOf a).toNat) ⟨0,rfl,by omega,e,fun j y h=>by omega⟩ ?_
  rintro _ w ⟨k,rfl,hk,e,hb⟩
  unfold n9c5
  by_cases hlt:k < r.steps.length
  · obtain ⟨x,hx⟩:=getElem?_lt hlt
    obtain ⟨b,o,cs,rfl,_,hA,rfl⟩:=hel3 k x hx
    have dk:(k:Int) < (r.steps.length:Int):=by omega
    have d1:decide ((k:Int) < (r.steps.length:Int))=true:=decide_eq_true dk
    have hw:IntKind.i64.wrap ((k:Int)+1)=((k+1:Nat):Int):=by rw [wrap_ok (by omega) (by omega)];omega
    simp (disch:=try exact DI) only [↓PR,QR,simprocAttr,(cells_of_heap (e.obj hp)).1,d1,↓n9c4,hA.c9 (eW.trans e)]
    generalize hV:World.alloc w _=V
    have eV:Ext w V:=by rw [← hV];exact (Ext.refl w).alloc _
    have oV:V.heap[w.heap.size]?=some (.cells (stpCells x).toArray 71 (0,0)):=by rw [← hV];exact heap_new _ _ _
    clear hV
    have more:StpFew x→(∃ k':Nat,Value.int .i64 ((k+1:Nat):Int) = .int .i64 k'∧k'≤r.steps.length∧Ext W V∧∀ (j:Nat) y,j < k'→r.steps[j]?=some y→StpFew y):=fun h=>⟨k+1,rfl,by omega,e.trans eV,below_succ hb hx h⟩
    have g:∀ n:Nat,n≤60→decide ((n:Int) > 60)=false:=fun n hn=>decide_eq_false (by omega)
    have g':∀ n:Nat,¬ n≤60→decide ((n:Int) > 60)=true:=fun n hn=>decide_eq_true (by omega)
    by_cases f1:x.fr.size≤60
    case neg =>
     simp (disch:=try exact DI) only [↓PR,QR,simprocAttr,(cells_of_heap oV).1,g' _ f1,↓n9c3,↓n9c2,↓n9c1]
     exact yes _ (e.trans eV)
    by_cases f2:x.to.size≤60
    case neg =>
     simp (disch:=try exact DI) only [↓PR,QR,simprocAttr,(cells_of_heap oV).1,g _ f1,g' _ f2,↓n9c3,↓n9c2,↓n9c1]
     exact yes _ (e.trans eV)
    by_cases f3:x.message.size≤60
    case neg =>
     simp (disch:=try exact DI) only [↓PR,QR,simprocAttr,(cells_of_heap oV).1,g _ f1,g _ f2,g' _ f3,↓n9c3,↓n9c2,↓n9c1]
     exact yes _ (e.trans eV)
    by_cases f4:x.peer.size≤60
    case neg =>
     simp (disch:=try exact DI) only [↓PR,QR,simprocAttr,(cells_of_heap oV).1,g _ f1,g _ f2,g _ f3,g' _ f4,↓n9c3,↓n9c2,↓n9c1]
     exact yes _ (e.trans eV)
    by_cases f5:x.counter.size≤60
    case neg =>
     simp (disch:=try exact DI) only [↓PR,QR,simprocAttr,(cells_of_heap oV).1,g _ f1,g _ f2,g _ f3,g _ f4,g' _ f5,↓n9c3,↓n9c2,↓n9c1]
     exact yes _ (e.trans eV)
    simp (disch:=try exact DI) only [↓PR,QR,simprocAttr,(cells_of_heap oV).1,g _ f1,g _ f2,g _ f3,g _ f4,g _ f5,hw,↓n9c3,↓n9c2,↓n9c1]
    exact ⟨more ⟨f1,f2,f3,f4,f5⟩,meas_lt (kd := .i64) hlt⟩
  · obtain rfl:k=r.steps.length:=by omega
    have d1:decide ((r.steps.length:Int) < (r.steps.length:Int))=false:=decide_eq_false (by omega)
    simp (disch:=try exact DI) only [↓PR,QR,simprocAttr,(cells_of_heap (e.obj hp)).1,d1]
    exact ⟨eW.trans e,false,rfl,fun _=>⟨by omega,by omega,by omega,by omega,hcs,hss,all_below hb⟩⟩
 have states:∀ w,Ext W w→(∀ c∈r.counters,c.name.size≤60)→loop1 (fun t4 w next5=>n9c7 (.pointer (some ⟨p,0,none⟩)) t4 next5 (LrgR w0 r) w) (.int .i64 0) w:=by
  intro w e hcs
  refine loop1_intro (fun a w=>∃ k:Nat,a = .int .i64 k∧k≤r.states.length∧Ext W w∧∀ (j:Nat) y,j < k→r.states[j]?=some y→y.name.size≤60) (fun a _=>r.states.length - (intOf a).toNat) ⟨0,rfl,by omega,e,fun j y h=>by omega⟩ ?_
  rintro _ w ⟨k,rfl,hk,e,hb⟩
  unfold n9c7
  by_cases hlt:k < r.states.length
  · obtain ⟨x,hx⟩:=getElem?_lt hlt
    obtain ⟨b,o,cs,rfl,_,hA,rfl⟩:=hel1 k x hx
    have dk:(k:Int) < (r.states.length:Int):=by omega
    have d1:decide ((k:Int) < (r.states.length:Int))=true:=decide_eq_true dk
    have hw:IntKind.i64.wrap ((k:Int)+1)=((k+1:Nat):Int):=by rw [wrap_ok (by omega) (by omega)];omega
    by_cases f1:x.name.size≤60
    case neg =>
     have q1:decide ((x.name.size:Int) > 60)=true:=decide_eq_true (by omega)
     simp (disch:=try exact DI) only [↓PR,QR,simprocAttr,(cells_of_heap (e.obj hp)).1,d1,↓n9c6,hA.c3 (eW.trans e),q1]
     exact yes _ e
    have q1:decide ((x.name.size:Int) > 60)=false:=decide_eq_false (by omega)
    simp (disch:=try exact DI) only [↓PR,QR,simprocAttr,(cells_of_heap (e.obj hp)).1,d1,↓n9c6,hA.c3 (eW.trans e),q1,hw]
    exact ⟨⟨k+1,rfl,by omega,e,below_succ hb hx f1⟩,meas_lt (kd := .i64) hlt⟩
  · obtain rfl:k=r.states.length:=by omega
    have d1:decide ((r.states.length:Int) < (r.states.length:Int))=false:=decide_eq_false (by omega)
    simp (disch:=try exact DI) only [↓PR,QR,simprocAttr,(cells_of_heap (e.obj hp)).1,d1]
    exact steps _ e hcs (all_below hb)
 simp (disch:=try exact DI) only [↓PR,QR,simprocAttr,(cells_of_heap hp).1,d1,d2,d3,d4,↓n9c11,↓n9c10]
 refine loop1_intro (fun a w=>∃ k:Nat,a = .int .i64 k∧k≤r.counters.length∧Ext W w∧∀ (j:Nat) y,j < k→r.counters[j]?=some y→y.name.size≤60) (fun a _=>r.counters.length - (intOf a).toNat) ⟨0,rfl,by omega,Ext.refl _,fun j y h=>by omega⟩ ?_
 rintro _ w ⟨k,rfl,hk,e,hb⟩
 unfold n9c9
 by_cases hlt:k < r.counters.length
 · obtain ⟨x,hx⟩:=getElem?_lt hlt
   obtain ⟨b,o,cs,rfl,_,hA,rfl⟩:=hel2 k x hx
   have dk:(k:Int) < (r.counters.length:Int):=by omega
   have d1:decide ((k:Int) < (r.counters.length:Int))=true:=decide_eq_true dk
   have hw:IntKind.i64.wrap ((k:Int)+1)=((k+1:Nat):Int):=by rw [wrap_ok (by omega) (by omega)];omega
   by_cases f1:x.name.size≤60
   case neg =>
    have q1:decide ((x.name.size:Int) > 60)=true:=decide_eq_true (by omega)
    simp (disch:=try exact DI) only [↓PR,QR,simprocAttr,(cells_of_heap (e.obj hp)).1,d1,↓n9c8,hA.c2 (eW.trans e),q1]
    exact yes _ e
   have q1:decide ((x.name.size:Int) > 60)=false:=decide_eq_false (by omega)
   simp (disch:=try exact DI) only [↓PR,QR,simprocAttr,(cells_of_heap (e.obj hp)).1,d1,↓n9c8,hA.c2 (eW.trans e),q1,hw]
   exact ⟨⟨k+1,rfl,by omega,e,below_succ hb hx f1⟩,meas_lt (kd := .i64) hlt⟩
 · obtain rfl:k=r.counters.length:=by omega
   have d1:decide ((r.counters.length:Int) < (r.counters.length:Int))=false:=decide_eq_false (by omega)
   simp (disch:=try exact DI) only [↓PR,QR,simprocAttr,(cells_of_heap (e.obj hp)).1,d1]
   exact states _ e (all_below hb)
theorem outs_marks {L:List (Option TypeId×Value)} {R:RT} {bs:List Nat}:∀ {w w0:World},bs.Nodup→(∀ b∈bs,MarkAt b w∧w0.heap.size≤b)→Ext w0 w →
 (∀ w',Ext w0 w'→(∀ (b:Nat) (o:Obj),(∀ d,o ≠ .deferred d)→w.heap[b]?=some o→w'.heap[b]?=some o)→outX Pg [] L R w')→outX Pg (bs.map Sw.mark) L R w:=by
 induction bs with
 | nil=>exact fun _ _ e h=>h _ e fun _ _ _ h=>h
 | cons b bs ih =>
  intro w w0 hn hm e h
  obtain ⟨hb,hn'⟩:=List.nodup_cons.1 hn
  have hmb:=hm b (List.mem_cons_self ..)
  refine outX_mark hmb.1 (ih (w0:=w0) hn' (fun c hc=>⟨?_,(hm c (List.mem_cons_of_mem _ hc)).2⟩) (e.putObj hmb.2 _) (fun w' e' h'=>h w' e' (fun c o ho hc=>h' c o ho ((World.putObj_heap_other ?_).trans hc))))
  · exact (World.putObj_heap_other (fun (e:c=b)=>hb (by rw [← e];exact hc))).trans (hm c (List.mem_cons_of_mem _ hc)).1
  · rintro rfl
    have:=hmb.1
    unfold MarkAt at this
    rw [hc] at this
    injection this with this
    exact ho _ this
theorem lasts2_marks {B:Nat} {bs:List Nat} (h:∀ b∈bs,b < B):Lasts2 B (fun w=>∀ b∈bs,MarkAt b w):=fun w w' hl hm b hb=>Lasts2.low (h b hb) _ w w' hl (hm b hb)
theorem has_nd {T:TypeId} {cs:Array Value}:∀ d,Obj.cells cs T (0,0) ≠ .deferred d:=fun _ h=>by cases h
def wantF (s:ByteArray):Nat→List StpD→List (Nat×StpD)
 | _,[]=>[]
 | k,x::l=>if x.fr=s then (k,x)::wantF s (k+1) l else wantF s (k+1) l
def wantX (L:List (Nat×StpD)) (k:Nat):Value:=match L[k]? with
 | some q => .int .i64 (q.1:Int)
 | none => .int .i64 0
def wantY (L:List (Nat×StpD)) (k:Nat):Value:=match L[k]? with
 | some q=>stpVal q.2
 | none => .int .i64 0
theorem wantX_at {L:List (Nat×StpD)} {k:Nat} {q:Nat×StpD} (h:L[k]?=some q):wantX L k = .int .i64 (q.1:Int):=by unfold wantX;rw [h]
theorem wantY_at {L:List (Nat×StpD)} {k:Nat} {q:Nat×StpD} (h:L[k]?=some q):wantY L k=stpVal q.2:=by unfold wantY;rw [h]
theorem wantF_mem {s:ByteArray}:∀ {l:List StpD} {k:Nat} {q:Nat×StpD},q∈wantF s k l→k≤q.1∧l[q.1 - k]?=some q.2∧q.2.fr=s
 | [],k,q,h=>by cases h
 | x::l,k,q,h=>by
  unfold wantF at h
  have step:q∈wantF s (k+1) l→k≤q.1∧(x::l)[q.1 - k]?=some q.2∧q.2.fr=s:=fun h=>by
   obtain ⟨h1,h2,h3⟩:=wantF_mem h
   refine ⟨by omega,?_,h3⟩
   rw [show q.1 - k=(q.1 - (k+1))+1 by omega,List.getElem?_cons_succ]
   exact h2
  split at h
  · rename_i hx
    rcases List.mem_cons.1 h with rfl | h
    · exact ⟨Nat.le_refl _,by simp,hx⟩
    · exact step h
  · exact step h
def FrAt (p5 p3:Nat) (lv:Value) (l:List StpD) (s:ByteArray) (w:World):Prop:=w.heap[p5]?=some (.cells #[lv] 24 (0,0))∧w.heap[p3]?=some (.cells #[.string s] 9 (0,0))∧StpsOf w lv l
theorem FrAt.ext {p5 p3:Nat} {lv:Value} {l:List StpD} {s:ByteArray} {w w':World} (h:FrAt p5 p3 lv l s w) (e:Ext w w'):FrAt p5 p3 lv l s w':=⟨e.obj h.1,e.obj h.2.1,h.2.2.ext e⟩
theorem From_ret (w0:World) (v:Value) (r:RolD) (s:ByteArray) (hr:RolVal w0 v r) (hl:r.steps.length≤1000000):Ret Pg 34 #[v,.string s] w0 fun u w'=>(∃ p5 p3 lv,u = .func (.func 76) #[] #[.pointer (some ⟨p5,0,none⟩),.pointer (some ⟨p3,0,none⟩)]∧FrAt p5 p3 lv r.steps s w'∧(w0.heap.size≤p5∧w0.heap.size≤p3)∧OwnE w' w0.heap.size 71 9 stpCells lv r.steps)∧Ext w0 w':=by
 obtain ⟨sv,cv,tv,rfl,hS,hC,hT,o1,o2,o3⟩:=hr.op
 refine n17s (R:=retR _) ?_;unfold n17
 rw [op_boxA]
 have h2:=heap_new w0 (rolCells r sv cv tv).toArray 26
 have eW:Ext w0 (w0.alloc (.cells (rolCells r sv cv tv).toArray 26)):=ee
 have sW:(w0.alloc (.cells (rolCells r sv cv tv).toArray 26)).heap.size=w0.heap.size+1:=World.size_alloc ..
 generalize (w0.alloc (.cells (rolCells r sv cv tv).toArray 26))=W at h2 eW sW ⊢
 generalize hp2:w0.heap.size=p2 at h2 sW ⊢
 simp (disch:=try exact DI) only [↓PR,QR,simprocAttr,fun o=>(cells_of_heap (((Ext.refl W).alloc o).obj h2)).1]
 generalize hX:World.alloc W _=X
 have eX:Ext W X:=by rw [← hX];exact (Ext.refl W).alloc _
 have h3:X.heap[W.heap.size]?=some (.cells #[.string s] 9 (0,0)):=by rw [← hX];exact heap_new _ _ _
 clear hX
 generalize hp3:W.heap.size=p3 at h3 ⊢
 refine callK_ret (Clone_Step_ret X tv r.steps (hT.ext (eW.trans eX)) (by omega)) ?_
 rintro lv w1 ⟨hO,e1⟩
 have f1:=SliceOf.oneCell (hO.slice (E:=EStp) (fun _=>rfl) (fun _ _=>rfl))
 unfold n17c1
 simp (disch:=try exact DI) only [↓PR,QR,simprocAttr]
 generalize hY:World.alloc w1 _=Y
 have eY:Ext w1 Y:=by rw [← hY];exact (Ext.refl w1).alloc _
 have h5:Y.heap[w1.heap.size]?=some (.cells #[lv] 24 (0,0)):=by rw [← hY];exact heap_new _ _ _
 clear hY
 have s1:=e1.size
 have sX:=eX.size
 have hO2:OwnE Y w0.heap.size 71 9 stpCells lv r.steps:=(OwnE.ext hO eY).base (by omega)
 refine ⟨⟨w1.heap.size,p3,lv,rfl,⟨h5,(e1.trans eY).obj h3,hO2.slice (fun _=>rfl) (fun _ _=>rfl)⟩,⟨by omega,by omega⟩,by rw [← hp2];exact hO2⟩,eW.trans (eX.trans (e1.trans eY))⟩
theorem From_seq (p5 p3:Nat) (lv:Value) (l:List StpD) (s:ByteArray) (hll:l.length≤1000000) :
 SeqIt2 Pg 76 #[.pointer (some ⟨p5,0,none⟩),.pointer (some ⟨p3,0,none⟩)] (wantF s 0 l).length (wantX (wantF s 0 l)) (wantY (wantF s 0 l)) (FrAt p5 p3 lv l s):=by
 intro yv J Jx Jp w hy hFP hJl hJx hJp hstep h0
 obtain ⟨g5,g3,hT⟩:=hFP 0 w h0
 obtain ⟨A,c,rfl,_,_,_,hel⟩:=SliceOf.open hT
 refine n18s (t0:=yv) ?_
 unfold n18
 simp (disch:=try exact DI) only [↓PR,QR,simprocAttr,(cells_of_heap g5).1]
 generalize hwant:wantF s 0 l=want at hstep ⊢
 refine loop1_intro (fun a w'=>∃ k j:Nat,a = .int .i64 k∧k≤l.length∧j≤want.length∧J j w'∧want.drop j=wantF s k (l.drop k)) (fun a _=>l.length - (intOf a).toNat) ⟨0,0,rfl,by omega,by omega,h0,by rw [← hwant];rfl⟩ ?_
 rintro _ w1 ⟨k,j,rfl,hk,hjn,hJ,hW⟩
 obtain ⟨a5,a3,aT⟩:=hFP j w1 hJ
 obtain ⟨A',c',hv',_,_,_,hel'⟩:=SliceOf.open aT
 injection hv' with e1 _ e2
 subst e1 e2
 by_cases hlt:k < l.length
 case neg =>
  obtain rfl:k=l.length:=by omega
  have d1:decide ((l.length:Int) < (l.length:Int))=false:=decide_eq_false (by omega)
  rw [List.drop_length] at hW
  have hW:want.drop j=[]:=hW
  rw [List.drop_eq_nil_iff] at hW
  obtain rfl:j=want.length:=by omega
  simp (disch:=try exact DI) only [↓PR,QR,simprocAttr,d1]
  exact .inl hJ
 obtain ⟨x,hx⟩:=getElem?_lt hlt
 obtain ⟨b,o,cs,rfl,_,hA,rfl⟩:=hel' k x hx
 have dk:(k:Int) < (l.length:Int):=by omega
 have d1:decide ((k:Int) < (l.length:Int))=true:=decide_eq_true dk
 have hw:IntKind.i64.wrap ((k:Int)+1)=((k+1:Nat):Int):=by rw [wrap_ok (by omega) (by omega)];omega
 have hdr:l.drop k=x::l.drop (k+1):=by
  obtain ⟨hk,rfl⟩:=List.getElem?_eq_some_iff.1 hx
  exact List.drop_eq_getElem_cons hk
 rw [hdr] at hW
 unfold wantF at hW
 have eY:Ext w1 (w1.alloc (.cells (stpCells x).toArray 71)):=ee
 have oY:=heap_new w1 (stpCells x).toArray 71
 have a3Y:=eY.obj a3
 have hJY:=(hJl j).ext hJ eY
 cases hp:decide (x.fr=s) with
 | false =>
  rw [if_neg (of_decide_eq_false hp)] at hW
  simp (disch:=try exact DI) only [↓PR,QR,simprocAttr,d1,dk,↓n18c1,hA.c9 (Ext.refl w1),(cells_of_heap a3Y).1,hp,hw]
  exact ⟨⟨k+1,j,rfl,by omega,hjn,hJY,hW⟩,meas_lt (kd := .i64) hlt⟩
 | true =>
  rw [if_pos (of_decide_eq_true hp)] at hW
  have hjl:j < want.length:=by
   rcases Nat.lt_or_ge j want.length with h | h
   · exact h
   · rw [List.drop_eq_nil_iff.2 h] at hW;cases hW
  have hwj:want[j]?=some (k,x):=by
   rw [List.drop_eq_getElem_cons hjl] at hW
   injection hW with hW _
   rw [List.getElem?_eq_getElem hjl,hW]
  have hW2:want.drop (j+1)=wantF s (k+1) (l.drop (k+1)):=by
   rw [List.drop_eq_getElem_cons hjl] at hW
   injection hW
  have hs:=hstep j hjl (fun _=>True) Firm.true _ hJY trivial
  rw [wantX_at hwj,wantY_at hwj] at hs
  simp (disch:=try exact DI) only [↓PR,QR,simprocAttr,d1,dk,↓n18c1,hA.c9 (Ext.refl w1),(cells_of_heap a3Y).1,hp]
  refine callV_mono hs (fun ch w h=>h.2) ?_
  rintro q w5 ⟨_,⟨rfl,h5⟩ | ⟨rfl,h5⟩⟩
  · simp (disch:=try exact DI) only [↓PR,QR,simprocAttr,hp,hw]
    exact ⟨⟨k+1,j+1,rfl,by omega,hjl,h5,hW2⟩,meas_lt (kd := .i64) hlt⟩
  · simp (disch:=try exact DI) only [↓PR,QR,simprocAttr,hp]
    exact .inr h5
structure WsC (w:World) (v:Value) (b o cap:Nat) (ws:List ByteArray):Prop where
 val:v = .slice (some ⟨b,o,none⟩) ws.length cap
 le:ws.length≤cap
 lim:cap≤9223372036854775807
 at_:∀ (k:Nat) x,ws[k]?=some x→w.cell? ⟨b,o+k,none⟩=some (.string x)
structure Blank (y:StpD):Prop where
 m:y.message=ByteArray.empty
 p:y.peer=ByteArray.empty
 c:y.counter=ByteArray.empty
 l:y.low=0
 h:y.high=0
 a:y.add=0
structure At (p:Nat) (r:RolD):Prop where
 le:p≤2
 s:p=0→r.states=[]
 t:p≤1→r.steps=[]
abbrev zR:Array Value := #[.string ByteArray.empty,.slice none 0 0,.slice none 0 0,.slice none 0 0]
structure LS (w0 w:World) (base p2 p5 B1 B2:Nat) (r:RolD) (sv cv tv:Value):Prop where
 e:Ext w0 w
 h2:w.heap[p2]?=some (.cells zR TRol (0,0))
 h5:w.heap[p5]?=some (.cells (rolCells r sv cv tv).toArray TRol (0,0))
 oc:OwnE w base 52 2 cntCells cv r.counters
 lc:∀ b,cv.ownBlock=some b→b < B1
 os:OwnE w B1 50 3 staCells sv r.states
 ls:∀ b,sv.ownBlock=some b→b < B2
 ot:OwnE w B2 71 9 stpCells tv r.steps
 bb:base≤B1
 b12:B1≤B2
 b2:B2≤w.heap.size
 p2b:p2 < base
 p5b:p5 < base
 ne:p2≠p5
 l2:w0.heap.size≤p2
 l5:w0.heap.size≤p5
structure RowR where
 r:RolD
 sv:Value
 cv:Value
 tv:Value
structure RowK (w:World) (a:Nat) (N:Option Nat) (q:RowR):Prop where
 s:OwnE w a 50 3 staCells q.sv q.r.states
 c:OwnE w a 52 2 cntCells q.cv q.r.counters
 t:OwnE w a 71 9 stpCells q.tv q.r.steps
 ne:∀ b,q.sv.ownBlock=some b∨q.cv.ownBlock=some b∨q.tv.ownBlock=some b→N≠some b
theorem Index_string_ret (w0:World) (v:Value) (l:List ByteArray) (x:ByteArray) (hs:SliceOf w0 1 EStr v l) :
 Ret Pg 68 #[v,.string x] w0 fun r w'=>r = .int .i64 (idx (fun y=>decide (x=y)) l)∧Ext w0 w':=by
 obtain ⟨A,c,rfl,hlc,hcm,hlm,hel⟩:=SliceOf.open hs
 refine n57s (R:=retR _) ?_;unfold n57
 simp (disch:=try exact DI) only [↓PR,QR,simprocAttr]
 refine loop1_intro (fun i w=>∃ k:Nat,i = .int .i64 k∧k≤l.length∧Ext w0 w∧∀ (j:Nat) y,j < k→l[j]?=some y→decide (x=y)=false) (fun i _=>l.length - (intOf i).toNat) ⟨0,rfl,by omega,Ext.refl _,fun j y h=>by omega⟩ ?_
 rintro i w ⟨k,rfl,hk,e,hb⟩
 by_cases hlt:k < l.length
 · obtain ⟨y,hy⟩:=getElem?_lt hlt
   obtain ⟨b,o,cs,rfl,hl,hA,rfl⟩:=hel k y hy
   have dk:(k:Int) < (l.length:Int):=by omega
   have hd:decide ((k:Int) < (l.length:Int))=true:=decide_eq_true dk
   have hw:IntKind.i64.wrap ((k:Int)+1)=((k+1:Nat):Int):=by rw [wrap_ok (by omega) (by omega)];omega
   have hc1:=hA.c1 e
   cases hp:decide (x=y) with
   | true =>
    simp (disch:=try exact DI) only [↓PR,QR,simprocAttr,hd,↓n57c1,hc1,hp]
    exact ⟨by rw [idx_here hy hp hb],e⟩
   | false =>
    simp (disch:=try exact DI) only [↓PR,QR,simprocAttr,hd,↓n57c1,hc1,hp,hw]
    exact ⟨⟨k+1,rfl,by omega,e,before_succ hb hy hp⟩,meas_lt (kd := .i64) hlt⟩
 · have hd:decide ((k:Int) < (l.length:Int))=false:=by simp;omega
   simp (disch:=try exact DI) only [↓PR,QR,simprocAttr,hd]
   exact ⟨by rw [idx_none fun j y hy=>hb j y (by have:=(List.getElem?_eq_some_iff.1 hy).1;omega) hy],e⟩
open Go.Shelf
def sh_lays190_ren:Go.Shelf.Ren:=⟨fun | 190=>74 | 125=>100 | 258=>99 | 128=>120 | 129=>121 | 302=>111 | 303=>112 | 304=>113 | 305=>114 | 306=>115 | 307=>116 | 308=>117 | 309=>118 | 310=>119 | 333=>134 | 329=>135 | 330=>136 | 334=>137 | 335=>138 | 336=>139 | 344=>151 | n=>n,fun | 31=>73 | 9=>9 | 3=>3 | 46=>146 | 0=>0 | 51=>159 | 53=>161 | 4=>4 | 183=>152 | 182=>151 | 131=>114 | 5=>5 | 218=>174 | 222=>178 | 228=>193 | 229=>32 | n=>n,fun | n=>n⟩
theorem sh_lays190:Go.Proofs.Lays.n190 Pg sh_lays190_ren:={
 mixed:=by kernel_rfl
 f125:=Tryz.func100.trans (congrArg some (by kernel_rfl))
 f128:=Tryz.func120.trans (congrArg some (by kernel_rfl))
 f129:=Tryz.func121.trans (congrArg some (by kernel_rfl))
 f190:=Tryz.func74.trans (congrArg some (by kernel_rfl))
 f258:=Tryz.func99.trans (congrArg some (by kernel_rfl))
 f302:=Tryz.func111.trans (congrArg some (by kernel_rfl))
 f303:=Tryz.func112.trans (congrArg some (by kernel_rfl))
 f304:=Tryz.func113.trans (congrArg some (by kernel_rfl))
 f305:=Tryz.func114.trans (congrArg some (by kernel_rfl))
 f306:=Tryz.func115.trans (congrArg some (by kernel_rfl))
 f307:=Tryz.func116.trans (congrArg some (by kernel_rfl))
 f308:=Tryz.func117.trans (congrArg some (by kernel_rfl))
 f309:=Tryz.func118.trans (congrArg some (by kernel_rfl))
 f310:=Tryz.func119.trans (congrArg some (by kernel_rfl))
 f329:=Tryz.func135.trans (congrArg some (by kernel_rfl))
 f330:=Tryz.func136.trans (congrArg some (by kernel_rfl))
 f333:=Tryz.func134.trans (congrArg some (by kernel_rfl))
 f334:=Tryz.func137.trans (congrArg some (by kernel_rfl))
 f335:=Tryz.func138.trans (congrArg some (by kernel_rfl))
 f336:=Tryz.func139.trans (congrArg some (by kernel_rfl))
 f344:=Tryz.func151.trans (congrArg some (by kernel_rfl))
 t0:=Tryz.underlying0
 a0:=Tryz.isAgg0
 z0:=Tryz.sizeOf0
 v0:=Tryz.zeroValue0
 t3:=Tryz.underlying3
 a3:=Tryz.isAgg3
 z3:=Tryz.sizeOf3
 v3:=Tryz.zeroValue3
 t4:=Tryz.underlying4
 a4:=Tryz.isAgg4
 z4:=Tryz.sizeOf4
 v4:=Tryz.zeroValue4
 t5:=Tryz.underlying5
 a5:=Tryz.isAgg5
 z5:=Tryz.sizeOf5
 v5:=Tryz.zeroValue5
 t9:=Tryz.underlying9
 a9:=Tryz.isAgg9
 z9:=Tryz.sizeOf9
 v9:=Tryz.zeroValue9
 t31:=Tryz.underlying73
 a31:=Tryz.isAgg73
 z31:=Tryz.sizeOf73
 v31:=Tryz.zeroValue73
 t46:=Tryz.underlying146
 a46:=Tryz.isAgg146
 z46:=Tryz.sizeOf146
 v46:=Tryz.zeroValue146
 t51:=Tryz.underlying159
 a51:=Tryz.isAgg159
 z51:=Tryz.sizeOf159
 v51:=Tryz.zeroValue159
 t53:=Tryz.underlying161
 a53:=Tryz.isAgg161
 z53:=Tryz.sizeOf161
 v53:=Tryz.zeroValue161
 t131:=Tryz.underlying114
 a131:=Tryz.isAgg114
 z131:=Tryz.sizeOf114
 v131:=Tryz.zeroValue114
 t182:=Tryz.underlying151
 a182:=Tryz.isAgg151
 z182:=Tryz.sizeOf151
 v182:=Tryz.zeroValue151
 t183:=Tryz.underlying152
 a183:=Tryz.isAgg152
 z183:=Tryz.sizeOf152
 v183:=Tryz.zeroValue152
 t218:=Tryz.underlying174
 a218:=Tryz.isAgg174
 z218:=Tryz.sizeOf174
 v218:=Tryz.zeroValue174
 t222:=Tryz.underlying178
 a222:=Tryz.isAgg178
 z222:=Tryz.sizeOf178
 v222:=Tryz.zeroValue178
 t228:=Tryz.underlying193
 a228:=Tryz.isAgg193
 z228:=Tryz.sizeOf193
 v228:=Tryz.zeroValue193
 t229:=Tryz.underlying32
 a229:=Tryz.isAgg32
 z229:=Tryz.sizeOf32
 v229:=Tryz.zeroValue32 }
open Go.Sort Go.RowKit in
theorem sh_slices_Sort_string (blk off cap:Nat) (ss:List (List UInt8)) (w:World) (hH:Holds encStr w blk off ss.toArray) (hblk:blk < w.heap.size) (hsz:ss.length < 4611686018427387904) :
 Calls Pg 74 #[.slice (some ⟨blk,off,none⟩) ss.length cap] w fun e w' =>
  e = .returned (.tuple #[])∧∃ n os,w'=grow (putRow encStr (Sort.ahead w n) blk off (ss.mergeSort fun x y=>decide (x≤y)).toArray) os:=Any.slices_Sort_string sh_lays190 blk off cap ss w hH hblk hsz
open Go.RowKit Go.Sort in
theorem sh_slices_Sort_string_none (p:Option Addr) (cap:Nat) (w:World) :
 Calls Pg 74 #[.slice p 0 cap] w fun e w'=>e = .returned (.tuple #[])∧w'=w:=Any.slices_Sort_string_none sh_lays190 p cap w
def addM (acc:List ByteArray) (m:ByteArray):List ByteArray:=if acc.any (fun y=>decide (m=y)) then acc else acc++[m]
def mStep (acc:List ByteArray) (s:StpD):List ByteArray:=if speaksB s.kind then addM acc s.message else acc
def msgsL (l:List StpD):List ByteArray:=l.foldl mStep []
def sortB (l:List ByteArray):List ByteArray:=((l.map (·.data.toList)).mergeSort fun x y=>decide (x≤y)).map mkB
theorem addM_len (acc:List ByteArray) (m:ByteArray):(addM acc m).length≤acc.length+1:=by
 unfold addM
 split
 · omega
 · simp
theorem mStep_len (acc:List ByteArray) (s:StpD):(mStep acc s).length≤acc.length+1:=by
 unfold mStep
 split
 · exact addM_len _ _
 · omega
theorem Contains_string_ret (w0:World) (v:Value) (l:List ByteArray) (x:ByteArray) (hs:SliceOf w0 1 EStr v l) :
 Ret Pg 73 #[v,.string x] w0 fun r w'=>r = .bool (l.any fun y=>decide (x=y))∧Ext w0 w':=by
 refine n53s (R:=retR _) ?_;unfold n53
 refine zcr (Index_string_ret w0 v l x hs) fun w1 e1=>?_
 have h:=idx_neg (p:=fun y=>decide (x=y)) (l:=l)
 have dg:decide (idx (fun y=>decide (x=y)) l≥0)=l.any fun y=>decide (x=y):=h
 simp (disch:=try exact DI) only [↓PR,QR,simprocAttr,dg]
 exact ⟨by trivial,e1⟩
theorem flat_strEnc (l:List ByteArray):l.flatMap strEnc=l.map fun s=>Value.string s:=by
 induction l with
 | nil=>rfl
 | cons x l ih=>rw [List.flatMap_cons,ih];rfl
theorem Sort_ret {w:World} {base:Nat} {v:Value} {l:List ByteArray} (h:OwnS w base v l) (hl:l.length≤1048576):Ret Pg 74 #[v] w fun r w'=>r = .tuple #[]∧(SliceOf w' 1 EStr v (sortB l)∧∀ A n c,v = .slice (some A) n c→base≤A.block∧A.block < w'.heap.size)∧w.heap.size≤w'.heap.size∧∀ a,Ext a w→a.heap.size≤base→Ext a w':=by
 rcases h.2 with ⟨rfl,h0⟩ | ⟨g,cap,cur,rfl,hb,hg,hc,hm,hs,ht⟩
 · obtain rfl:l=[]:=List.eq_nil_of_length_eq_zero h0
   refine Calls.mono (sh_slices_Sort_string_none none 0 w) ?_
   rintro e w' ⟨rfl,rfl⟩
   exact ⟨_,rfl,rfl,⟨by rw [show sortB []=[] by simp [sortB]];exact SliceOf.nil _ _ _,fun A n c h=>by cases h⟩,Nat.le_refl _,fun a e _=>e⟩
 · have hlt:=(Array.getElem?_eq_some_iff.1 hg).1
   rw [flat_strEnc,Nat.mul_one] at ht
   have hH:Sort.Holds encStr w g 0 (l.map (·.data.toList)).toArray:=fun j hj=>by
    have hj':j < l.length:=by simpa using hj
    refine ⟨?_,(cells_of_heap hg).2 _⟩
    rw [(cells_of_heap hg).1,Nat.zero_add,getElem!_pos _ j hj]
    have:=congrArg (fun x:List Value=>x[j]?) ht
    rw [List.getElem?_take,if_pos hj',List.getElem?_map,List.getElem?_eq_getElem hj',Array.getElem?_toList] at this
    simpa using this
   have hcall:=sh_slices_Sort_string g 0 cap (l.map (·.data.toList)) w hH hlt (by rw [List.length_map];omega)
   rw [List.length_map] at hcall
   refine Calls.mono hcall ?_
   rintro e w' ⟨rfl,n,os,rfl⟩
   generalize hL:((l.map (·.data.toList)).mergeSort fun x y=>decide (x≤y))=L
   have hLl:L.length=l.length:=by rw [← hL,List.length_mergeSort,List.length_map]
   have hsb:sortB l=L.map mkB:=by unfold sortB;rw [hL]
   rw [hsb]
   have hkeep:∀ k,k < w.heap.size→k≠g→(Sort.grow (Sort.putRow encStr (Sort.ahead w n) g 0 L.toArray) os).heap[k]?=w.heap[k]?:=by
    intro k hk hne
    unfold Sort.grow Sort.putRow Sort.mapBlock Sort.ahead
    dsimp only
    rw [Array.getElem?_append_left (by simpa using hk),Array.getElem?_modify,if_neg (Ne.symm hne)]
   have hrow:(Sort.grow (Sort.putRow encStr (Sort.ahead w n) g 0 L.toArray) os).heap[g]?=some (.cells (Sort.putCells encStr 0 L.toArray cur) 9 (0,0)):=by
    unfold Sort.grow Sort.putRow Sort.mapBlock Sort.ahead
    dsimp only
    rw [Array.getElem?_append_left (by simpa using hlt),Array.getElem?_modify,if_pos rfl,hg]
    rfl
   have hsz:w.heap.size≤(Sort.grow (Sort.putRow encStr (Sort.ahead w n) g 0 L.toArray) os).heap.size:=by
    unfold Sort.grow Sort.putRow Sort.mapBlock Sort.ahead
    simp
   refine ⟨_,rfl,rfl,⟨?_,fun A n c h=>by injection h with h;injection h with h;subst h;exact ⟨hb,Nat.lt_of_lt_of_le hlt hsz⟩⟩,hsz,fun a e ha=>⟨e.os,e.tape,e.output,Nat.le_trans e.size hsz,fun k hk=>(hkeep k (Nat.lt_of_lt_of_le hk e.size) (by omega)).trans (e.block k hk)⟩⟩
   refine strs_of (by rw [List.length_map,hLl]) (by rw [List.length_map,hLl];exact hc) (by simp only [maxLen] at hm;omega) fun k x hx=>?_
   rw [(cells_of_heap hrow).1]
   have hkl:=(List.getElem?_eq_some_iff.1 hx).1
   rw [List.length_map] at hkl
   have hkc:k < cur.size:=by rw [hs,Nat.mul_one];omega
   unfold Sort.putCells
   rw [Array.getElem?_mapIdx,Array.getElem?_eq_getElem hkc]
   simp only [Option.map_some,List.size_toArray]
   rw [if_pos ⟨Nat.zero_le _,by omega⟩,Nat.sub_zero,getElem!_pos _ k (by simpa using hkl)]
   rw [List.getElem?_map,List.getElem?_eq_getElem hkl] at hx
   injection hx with hx
   subst hx
   simp [mkB]
theorem kinds_sp {L:List (Int×Value×Nat)} (h:KindsR L) (k:Int):∃ a c:Value,(Sw.look L k).getD (.agg zeroK) = .agg #[a,.bool (speaksB k),c]:=by
 rw [h k]
 by_cases hk:1≤k∧k≤4
 · rw [if_pos hk]
   exact ⟨_,_,rfl⟩
 · rw [if_neg hk]
   have hs:speaksB k=false:=by
    unfold speaksB
    rw [Bool.or_eq_false_iff]
    exact ⟨decide_eq_false (by omega),decide_eq_false (by omega)⟩
   rw [hs]
   exact ⟨_,_,rfl⟩
theorem Messages_ret (w0:World) (v:Value) (r:RolD) (hr:RolVal w0 v r) (hl:r.steps.length≤100000):Ret Pg 33 #[v] w0 fun u w'=>(SliceOf w' 1 EStr u (sortB (msgsL r.steps))∧∀ A n c,u = .slice (some A) n c→w0.heap.size≤A.block∧A.block < w'.heap.size)∧Ext w0 w':=by
 obtain ⟨sv,cv,tv,rfl,hS,hC,hT,o1,o2,o3⟩:=hr.op
 obtain ⟨A,c,rfl,_,_,_,hel⟩:=SliceOf.open hT
 refine n19s (R:=retR _) ?_;unfold n19
 rw [op_boxA]
 have h1:=heap_new w0 (rolCells r sv cv (.slice A r.steps.length c)).toArray TRol
 have eW:Ext w0 (w0.alloc (.cells (rolCells r sv cv (.slice A r.steps.length c)).toArray TRol)):=ee
 generalize (w0.alloc (.cells (rolCells r sv cv (.slice A r.steps.length c)).toArray TRol))=W at h1 eW ⊢
 have sW:=eW.size
 generalize w0.heap.size=p at h1 sW ⊢
 simp (disch:=try exact DI) only [↓PR,QR,simprocAttr,(cells_of_heap h1).1]
 refine loop2_intro (fun a b w=>∃ k:Nat,b = .int .i64 k∧k≤r.steps.length∧Ext W w∧OwnS w W.heap.size a ((r.steps.take k).foldl mStep [])∧W.heap.size≤w.heap.size∧((r.steps.take k).foldl mStep []).length≤k) (fun _ b _=>r.steps.length - (intOf b).toNat) ⟨0,rfl,by omega,Ext.refl _,OwnE.nil _ _ _ _ _,Nat.le_refl _,by simp⟩ ?_
 rintro a _ w ⟨k,rfl,hkn,e,hO,hb,hlen⟩
 unfold n19c6
 by_cases hlt:k < r.steps.length
 · obtain ⟨x,hx⟩:=getElem?_lt hlt
   obtain ⟨b,o,cs,rfl,_,hA,rfl⟩:=hel k x hx
   have dk:(k:Int) < (r.steps.length:Int):=by omega
   have d1:decide ((k:Int) < (r.steps.length:Int))=true:=decide_eq_true dk
   have hw:IntKind.i64.wrap ((k:Int)+1)=((k+1:Nat):Int):=by rw [wrap_ok (by omega) (by omega)];omega
   have hacc:(r.steps.take (k+1)).foldl mStep []=mStep ((r.steps.take k).foldl mStep []) x:=by rw [take_snoc hx,List.foldl_append];rfl
   have nxt:∀ v' w',Ext W w'→OwnS w' W.heap.size v' (mStep ((r.steps.take k).foldl mStep []) x)→W.heap.size≤w'.heap.size→(∃ k':Nat,(Value.int .i64 ((k+1:Nat):Int)) = .int .i64 k'∧k'≤r.steps.length∧Ext W w'∧OwnS w' W.heap.size v' ((r.steps.take k').foldl mStep [])∧W.heap.size≤w'.heap.size∧((r.steps.take k').foldl mStep []).length≤k')∧r.steps.length - (intOf (.int .i64 ((k+1:Nat):Int))).toNat < r.steps.length - (intOf (.int .i64 (k:Int))).toNat:=fun v' w' e' hO' hb'=>⟨⟨k+1,rfl,by omega,e',by rw [hacc];exact hO',hb',by rw [hacc];have:=mStep_len ((r.steps.take k).foldl mStep []) x;omega⟩,meas_lt (kd := .i64) hlt⟩
   generalize (r.steps.take k).foldl mStep []=acc at hO hlen nxt
   simp (disch:=try exact DI) only [↓PR,QR,simprocAttr,d1,↓n19c5,hA.c9 (eW.trans e)]
   generalize hY:World.alloc w _=Y
   have oY:Y.heap[w.heap.size]?=some (.cells (stpCells x).toArray 71 (0,0)):=by rw [← hY];exact heap_new _ _ _
   have eY:Ext w Y:=by rw [← hY];exact (Ext.refl w).alloc _
   clear hY
   generalize w.heap.size=q at oY hb ⊢
   refine drawK_intro ?_
   have eD:Ext Y (Sw.drew Y):=(Ext.refl Y).drew
   have oD:=eD.obj oY
   generalize Sw.drew Y=D at eD oD ⊢
   have eYD:=eY.trans eD
   unfold n19c4
   simp (disch:=try exact DI) only [↓PR,QR,simprocAttr,(cells_of_heap oD).1]
   refine callK_ret (kinds_ret D) ?_
   rintro _ w6 ⟨m,L,cc,rfl,hm,hM,hL,e6⟩
   refine narrowK_EC e6 ?_
   have o6:=e6.obj oD
   have e06:=eYD.trans e6
   have hO6:=OwnE.ext hO e06
   obtain ⟨ka,kc,hkk⟩:=kinds_sp hL x.kind
   have s06:=e06.size
   unfold n19c3
   rw [qV_kind1 hM,hkk]
   cases hs:speaksB x.kind with
   | false =>
    have hst:mStep acc x=acc:=by unfold mStep;rw [hs];rfl
    rw [hst] at nxt
    simp (disch:=try exact DI) only [↓PR,QR,simprocAttr,hs,↓n19c2,hw]
    exact nxt a w6 (e.trans e06) hO6 (by have:=e.size;omega)
   | true =>
    have hst:mStep acc x=addM acc x.message:=by unfold mStep;rw [hs];rfl
    rw [hst] at nxt
    simp (disch:=try exact DI) only [↓PR,QR,simprocAttr,hs,(cells_of_heap o6).1]
    refine zcr (Contains_string_ret w6 a acc x.message (hO6.slice (fun _=>rfl) (fun _ _=>rfl))) fun w7 e7=>?_
    refine ⟨e7,?_⟩
    have e07:=e06.trans e7
    have s07:=e07.size
    cases hm2:acc.any fun y=>decide (x.message=y) with
    | true =>
     have hst:addM acc x.message=acc:=by unfold addM;rw [if_pos hm2]
     rw [hst] at nxt
     simp (disch:=try exact DI) only [↓PR,QR,simprocAttr,hs,hm2,↓n19c2,hw]
     exact nxt a w7 (e.trans e07) (hO6.ext e7) (by have:=e.size;omega)
    | false =>
     have hst:addM acc x.message=acc++[x.message]:=by unfold addM;rw [if_neg (by rw [hm2];simp)]
     rw [hst] at nxt
     simp (disch:=try exact DI) only [↓PR,QR,simprocAttr,hs,hm2,↓n19c2,↓n19c1,(cells_of_heap (e7.obj o6)).1]
     generalize hX:World.alloc w7 _=X
     have eX:Ext w7 X:=by rw [← hX];exact (Ext.refl w7).alloc _
     have oX:X.cell? ⟨w7.heap.size,0,none⟩=some (.string x.message):=by rw [← hX,(cells_of_heap (heap_new _ _ _)).1];rfl
     clear hX
     have sX:=eX.size
     have sw:=e.size
     refine append_str x.message (hO6.ext (e7.trans eX)) oX (by omega) (by omega) ?_
     intro v' w' hO' hg
     have hlo:∀ b,a.ownBlock=some b→W.heap.size≤b:=fun b hb=>(World.ownsRow.lt hO b hb).1
     have e':Ext W w':=(e.trans (e07.trans eX)).grown hg hlo
     have sg:=hg.size
     simp (disch:=try exact DI) only [↓PR,QR,simprocAttr,hw]
     exact nxt v' w' e' hO' (by omega)
 · obtain rfl:k=r.steps.length:=by omega
   have d1:decide ((r.steps.length:Int) < (r.steps.length:Int))=false:=decide_eq_false (by omega)
   rw [List.take_length] at hO hlen
   simp (disch:=try exact DI) only [↓PR,QR,simprocAttr,d1]
   refine callK_ret (Sort_ret hO (by omega)) ?_
   rintro _ w1 ⟨rfl,hs,_,hx⟩
   simp (disch:=try exact DI) only [↓PR,QR,simprocAttr]
   exact ⟨⟨hs.1,fun A n c h=>⟨Nat.le_trans sW (hs.2 A n c h).1,(hs.2 A n c h).2⟩⟩,eW.trans (hx W e (Nat.le_refl _))⟩
theorem mem_sortB {l:List ByteArray} {x:ByteArray}:x∈sortB l↔x∈l:=by
 unfold sortB
 constructor
 · intro h
   obtain ⟨y,hy,rfl⟩:=List.mem_map.1 h
   obtain ⟨z,hz,rfl⟩:=List.mem_map.1 ((List.mergeSort_perm _ _).mem_iff.1 hy)
   exact hz
 · intro h
   exact List.mem_map.2 ⟨x.data.toList,(List.mergeSort_perm _ _).mem_iff.2 (List.mem_map.2 ⟨x,h,rfl⟩),rfl⟩
theorem sortB_len (l:List ByteArray):(sortB l).length=l.length:=by
 unfold sortB
 rw [List.length_map,List.length_mergeSort,List.length_map]
theorem sortB_strict {l:List ByteArray} (hn:l.Nodup):(sortB l).Pairwise fun a b=>a.data.toList < b.data.toList:=by
 unfold sortB
 rw [List.pairwise_map]
 have hp:=List.pairwise_mergeSort (le:=fun x y:List UInt8=>decide (x≤y)) (fun a b c h1 h2=>decide_eq_true (List.le_trans (of_decide_eq_true h1) (of_decide_eq_true h2))) (fun a b=>by
  rw [Bool.or_eq_true]
  exact (List.le_total a b).imp decide_eq_true decide_eq_true) (l.map (·.data.toList))
 have hd:((l.map (·.data.toList)).mergeSort fun x y=>decide (x≤y)).Nodup:=(List.mergeSort_perm _ _).nodup_iff.2 (by
  rw [List.Nodup,List.pairwise_map]
  exact hn.imp fun h e=>h (bytes_ext e))
 refine (List.Pairwise.and hp hd).imp fun {a b} ⟨h1,h2⟩=>?_
 show a < b
 rcases List.le_iff_lt_or_eq.1 (of_decide_eq_true h1) with h | h
 · exact h
 · exact absurd h h2
theorem sortB_next {l:List ByteArray} (hn:l.Nodup) {k:Nat} {a b:ByteArray} (ha:(sortB l)[k]?=some a) (hb:(sortB l)[k+1]?=some b):a.data.toList < b.data.toList:=by
 have h:=sortB_strict hn
 obtain ⟨hk,rfl⟩:=List.getElem?_eq_some_iff.1 ha
 obtain ⟨hk',rfl⟩:=List.getElem?_eq_some_iff.1 hb
 exact List.pairwise_iff_getElem.1 h k (k+1) hk hk' (by omega)
theorem addM_nodup {acc:List ByteArray} {m:ByteArray} (h:acc.Nodup):(addM acc m).Nodup:=by
 unfold addM
 split
 · exact h
 · rename_i hm
   rw [List.nodup_append]
   refine ⟨h,by simp,fun a ha b hb e=>hm ?_⟩
   rw [List.mem_singleton] at hb
   rw [List.any_eq_true]
   exact ⟨a,ha,decide_eq_true (by rw [e,hb])⟩
theorem msgs_nodup (l:List StpD):(msgsL l).Nodup:=by
 unfold msgsL
 have:∀ (l:List StpD) (acc:List ByteArray),acc.Nodup→(l.foldl mStep acc).Nodup:=by
  intro l
  induction l with
  | nil=>exact fun acc h=>h
  | cons x l ih =>
   intro acc h
   rw [List.foldl_cons]
   refine ih _ ?_
   unfold mStep
   split
   · exact addM_nodup h
   · exact h
 exact this l [] List.nodup_nil
def freshB (l:List StpD) (m:ByteArray):Bool:=!l.any fun y=>speaksB y.kind&&decide (y.message=m)
theorem mem_msgs:∀ (l:List StpD) (acc:List ByteArray) (m:ByteArray),m∈l.foldl mStep acc↔m∈acc∨(l.any fun y=>speaksB y.kind&&decide (y.message=m))=true
 | [],acc,m=>by simp
 | x::l,acc,m=>by
  rw [List.foldl_cons,mem_msgs l (mStep acc x) m,List.any_cons,Bool.or_eq_true]
  have h:m∈mStep acc x↔m∈acc∨(speaksB x.kind&&decide (x.message=m))=true:=by
   unfold mStep
   cases hs:speaksB x.kind with
   | false=>simp
   | true =>
    simp only [if_true,Bool.true_and,decide_eq_true_eq]
    unfold addM
    split
    · rename_i ha
      rw [List.any_eq_true] at ha
      obtain ⟨y,hy,e⟩:=ha
      have e:=of_decide_eq_true e
      constructor
      · exact fun h => .inl h
      · rintro (h | h)
        · exact h
        · rw [← h,e];exact hy
    · rw [List.mem_append,List.mem_singleton]
      exact or_congr Iff.rfl eq_comm
  rw [h,or_assoc]
theorem fresh_mem (l:List StpD) (m:ByteArray):freshB l m=true↔m ∉ msgsL l:=by
 unfold freshB msgsL
 rw [mem_msgs l [] m]
 simp
theorem msgs_speak {l:List StpD} {x:StpD} (hx:x∈l) (hs:speaksB x.kind=true):x.message∈sortB (msgsL l):=by
 rw [mem_sortB]
 unfold msgsL
 rw [mem_msgs]
 refine .inr (List.any_eq_true.2 ⟨x,hx,?_⟩)
 rw [hs]
 simp
theorem msgs_snoc (l:List StpD) (x:StpD):(msgsL (l++[x])).length=if speaksB x.kind then (if freshB l x.message then (msgsL l).length+1 else (msgsL l).length) else (msgsL l).length:=by
 have h0:msgsL (l++[x])=mStep (msgsL l) x:=by unfold msgsL;rw [List.foldl_append];rfl
 rw [h0]
 unfold mStep
 cases hs:speaksB x.kind with
 | false=>simp
 | true =>
  simp only [if_true]
  unfold addM
  have hf:=fresh_mem l x.message
  by_cases ha:((msgsL l).any fun y=>decide (x.message=y))=true
  · rw [if_pos ha,if_neg]
    intro h
    rw [List.any_eq_true] at ha
    obtain ⟨y,hy,e⟩:=ha
    exact hf.1 h (by rw [of_decide_eq_true e];exact hy)
  · rw [if_neg ha,if_pos,List.length_append]
    · rfl
    · refine hf.2 fun h=>ha ?_
      rw [List.any_eq_true]
      exact ⟨_,h,by simp⟩
theorem wantF_snoc (s:ByteArray) (x:StpD):∀ (l:List StpD) (n:Nat),wantF s n (l++[x])=wantF s n l++if x.fr=s then [(n+l.length,x)] else []
 | [],n=>by
  rw [List.nil_append]
  unfold wantF wantF
  simp
 | y::l,n=>by
  rw [List.cons_append]
  unfold wantF
  rw [wantF_snoc s x l (n+1),List.length_cons,show n+1+l.length=n+(l.length+1) by omega]
  split<;>rfl
theorem op_sgeq {P:Program} {QP:List PanicEntry→World→Prop} {w:World} {k:Value→World→Prop} (t:TypeId) (c:Bool) (a b:ByteArray):opV P (binS .geq t c (.string a) (.string b)) QP w k=k (.bool (!decide (a.data.toList < b.data.toList))) w:=opV_ok (by simp [binS,binOp,Op.stringOp,bytesLess_eq,ByteArray.toList_eq])
def n7c1 (t6 t15 t17 t105 t114:Value) (C8:World→Prop) (next7:KW) (ds:List Deferred) (R:RT) (w:World):Prop :=
 joinK (fun (t116:Value) (w:World) =>
 pickK t15 t116 (.bool false) fun t117 =>
 opV Pg (binS .add 3 true t17 (.int .i64 1)) (outQ Pg ds [(some 4,t6)] R) w fun t86 w =>
 next7 t117 t86 w) fun K13 =>
 guardP t15 true (
 pickK t105 t114 (.bool false) fun t115 =>
 qV Pg C8 (Op.unary .not t115) fun t116 =>
 K13 t116 w) (
 K13 undef w)
def n7c2 (t3 t6 t14 t15 t17 t105:Value) (C8:World→Prop) (next7:KW) (ds:List Deferred) (R:RT) (w:World):Prop :=
 joinK (fun (t114:Value) (w:World) =>
 n7c1 t6 t15 t17 t105 t114 C8 next7 ds R w) fun K12 =>
 guardP t105 true (
 qV Pg C8 (Instr.fieldAt 26 t3 3) fun t106 =>
 qV Pg C8 (Instr.loadAt 24 t106) fun t107 =>
 qV Pg C8 (Instr.indexAt 24 t107 t17) fun t109 =>
 qV Pg C8 (Instr.fieldAt 71 t109 3) fun t110 =>
 qV Pg C8 (Instr.loadAt 9 t110) fun t111 =>
 qV Pg C8 (Instr.fieldAt 71 t14 3) fun t112 =>
 qV Pg C8 (Instr.loadAt 9 t112) fun t113 =>
 qV Pg C8 (binS .eql 9 false t111 t113) fun t114 =>
 K12 t114 w) (
 K12 undef w)
def n7c3 (t3 t6 t14 t15 t17 t96 t103:Value) (C8:World→Prop) (next7:KW) (ds:List Deferred) (R:RT) (w:World):Prop :=
 joinK (fun (t105:Value) (w:World) =>
 n7c2 t3 t6 t14 t15 t17 t105 C8 next7 ds R w) fun K11 =>
 guardP t15 true (
 pickK t96 (.bool true) t103 fun t104 =>
 K11 t104 w) (
 K11 undef w)
def n7c4 (t3 t6 t14 t15 t17 t96:Value) (C8:World→Prop) (next7:KW) (ds:List Deferred) (R:RT) (w:World):Prop :=
 joinK (fun (t103:Value) (w:World) =>
 n7c3 t3 t6 t14 t15 t17 t96 t103 C8 next7 ds R w) fun K10 =>
 guardP t96 false (
 qV Pg C8 (Instr.fieldAt 26 t3 3) fun t97 =>
 qV Pg C8 (Instr.loadAt 24 t97) fun t98 =>
 qV Pg C8 (Instr.indexAt 24 t98 t17) fun t100 =>
 qV Pg C8 (Instr.fieldAt 71 t100 2) fun t101 =>
 qV Pg C8 (Instr.loadAt 69 t101) fun t102 =>
 qV Pg C8 (binS .eql 69 true t102 (.int .i64 2)) fun t103 =>
 K10 t103 w) (
 K10 undef w)
def n7c5 (t3 t6 t14 t15 t17:Value) (C8:World→Prop) (next7:KW) (ds:List Deferred) (R:RT) (w:World):Prop :=
 joinK (fun (t96:Value) (w:World) =>
 n7c4 t3 t6 t14 t15 t17 t96 C8 next7 ds R w) fun K9 =>
 guardP t15 true (
 qV Pg C8 (Instr.fieldAt 26 t3 3) fun t89 =>
 qV Pg C8 (Instr.loadAt 24 t89) fun t90 =>
 qV Pg C8 (Instr.indexAt 24 t90 t17) fun t92 =>
 qV Pg C8 (Instr.fieldAt 71 t92 2) fun t93 =>
 qV Pg C8 (Instr.loadAt 69 t93) fun t94 =>
 qV Pg C8 (binS .eql 69 true t94 (.int .i64 1)) fun t95 =>
 K9 t95 w) (
 K9 undef w)
def n7c6 (t6 t14 t16 t18 t35:Value) (C15:World→Prop) (next14:KW) (ds:List Deferred) (R:RT) (w:World):Prop :=
 joinK (fun (t132:Value) (w:World) =>
 pickK t16 (.bool true) t132 fun t133 =>
 opV Pg (binS .add 3 true t18 (.int .i64 1)) (outQ Pg ds [(some 4,t6)] R) w fun t123 w =>
 next14 t133 t123 w) fun K16 =>
 guardP t16 false (
 qV Pg C15 (Instr.indexAt 73 t35 t18) fun t128 =>
 qV Pg C15 (Instr.loadAt 9 t128) fun t129 =>
 qV Pg C15 (Instr.fieldAt 71 t14 3) fun t130 =>
 qV Pg C15 (Instr.loadAt 9 t130) fun t131 =>
 qV Pg C15 (binS .eql 9 false t129 t131) fun t132 =>
 K16 t132 w) (
 K16 undef w)
def n7c7 (t6 t12 t15:Value) (K4:KV) (ds:List Deferred) (R:RT) (w:World):Prop :=
 joinK (fun (t12:Value) (w:World) =>
 K4 t12 w) fun K17 =>
 condP t15 (
 opV Pg (binS .add 3 true t12 (.int .i64 1)) (outQ Pg ds [(some 4,t6)] R) w fun t138 w =>
 K17 t138 w) (
 K17 t12 w)
def n7c8 (t6 t12 t15 t16:Value) (K4:KV) (ds:List Deferred) (R:RT) (w:World):Prop :=
 opV Pg (Op.unary .not t16) (outQ Pg ds [(some 4,t6)] R) w fun t135 w =>
 condP t135 (
 opU Pg (Instr.storeAt 4 t6 (.bool false)) (outQ Pg ds [(some 4,t6)] R) w fun w =>
 outX Pg ds [(some 4,t6)] R w) (
 n7c7 t6 t12 t15 K4 ds R w)
def n7c9 (t6 t12 t14 t15 t16 t18 t35:Value) (K4:KV) (next14:KW) (ds:List Deferred) (R:RT) (w:World):Prop :=
 opV Pg (Builtin.len_ #[73] 3 #[t35]) (outQ Pg ds [(some 4,t6)] R) w fun t120 w =>
 opV Pg (binS .lss 3 false t18 t120) (outQ Pg ds [(some 4,t6)] R) w fun t121 w =>
 condP t121 (
 drawK w fun C15 w =>
 n7c6 t6 t14 t16 t18 t35 C15 next14 ds R w) (
 n7c8 t6 t12 t15 t16 K4 ds R w)
def n7c10 (t3 t6 t12 t13 t14 t15 t17 t35:Value) (K4:KV) (next7:KW) (ds:List Deferred) (R:RT) (w:World):Prop :=
 opV Pg (binS .lss 3 false t17 t13) (outQ Pg ds [(some 4,t6)] R) w fun t84 w =>
 condP t84 (
 drawK w fun C8 w =>
 n7c5 t3 t6 t14 t15 t17 C8 next7 ds R w) (
 loop2 (fun t16 t18 w next14 =>
 n7c9 t6 t12 t14 t15 t16 t18 t35 K4 next14 ds R w) (.bool false) (.int .i64 0) w)
def n7c11 (t3 t6 t12 t13 t14 t35 t76 t80:Value) (K4:KV) (ds:List Deferred) (R:RT) (w:World):Prop :=
 pickK t76 t80 (.bool false) fun t81 =>
 condP t81 (
 K4 t12 w) (
 loop2 (fun t15 t17 w next7 =>
 n7c10 t3 t6 t12 t13 t14 t15 t17 t35 K4 next7 ds R w) (.bool true) (.int .i64 0) w)
def n7c12 (t3 t6 t12 t13 t14 t35:Value) (K4:KV) (ds:List Deferred) (R:RT) (w:World):Prop :=
 opV Pg (Instr.fieldAt 71 t14 2) (outQ Pg ds [(some 4,t6)] R) w fun t74 w =>
 opV Pg (Instr.loadAt 69 t74) (outQ Pg ds [(some 4,t6)] R) w fun t75 w =>
 opV Pg (binS .neq 69 true t75 (.int .i64 1)) (outQ Pg ds [(some 4,t6)] R) w fun t76 w =>
 joinK (fun (t80:Value) (w:World) =>
 n7c11 t3 t6 t12 t13 t14 t35 t76 t80 K4 ds R w) fun K6 =>
 guardP t76 true (
 opV Pg (Instr.fieldAt 71 t14 2) (outQ Pg ds [(some 4,t6)] R) w fun t78 w =>
 opV Pg (Instr.loadAt 69 t78) (outQ Pg ds [(some 4,t6)] R) w fun t79 w =>
 opV Pg (binS .neq 69 true t79 (.int .i64 2)) (outQ Pg ds [(some 4,t6)] R) w fun t80 w =>
 K6 t80 w) (
 K6 undef w)
def n7c13 (t6 t11 t13:Value) (K5:World→Prop) (ds:List Deferred) (R:RT) (w:World):Prop :=
 opV Pg (Instr.loadAt 78 t11) (outQ Pg ds [(some 4,t6)] R) w fun t70 w =>
 opV Pg (Instr.buildSlice 78 1 #[(0,t13)]) (outQ Pg ds [(some 4,t6)] R) w fun t72 w =>
 opV Pg (Builtin.append_ #[78,78] 78 #[t70,t72]) (outQ Pg ds [(some 4,t6)] R) w fun t73 w =>
 opU Pg (Instr.storeAt 78 t11 t73) (outQ Pg ds [(some 4,t6)] R) w fun w =>
 K5 w
def n7c14 (t6 t19 t35:Value) (C19:World→Prop) (next18:KV) (ds:List Deferred) (R:RT) (w:World):Prop :=
 qV Pg C19 (binS .sub 3 true t19 (.int .i64 1)) fun t151 =>
 qV Pg C19 (Instr.indexAt 73 t35 t151) fun t152 =>
 qV Pg C19 (Instr.loadAt 9 t152) fun t153 =>
 qV Pg C19 (Instr.indexAt 73 t35 t19) fun t156 =>
 qV Pg C19 (Instr.loadAt 9 t156) fun t157 =>
 qV Pg C19 (binS .geq 9 false t153 t157) fun t158 =>
 condP t158 (
 opU Pg (Instr.storeAt 4 t6 (.bool false)) (outQ Pg ds [(some 4,t6)] R) w fun w =>
 outX Pg ds [(some 4,t6)] R w) (
 opV Pg (binS .add 3 true t19 (.int .i64 1)) (outQ Pg ds [(some 4,t6)] R) w fun t148 w =>
 next18 t148 w)
def n7c15 (t5 t20 t21:Value) (Kr21:World→Prop) (Qr21:List PanicEntry→World→Prop) (Xr21:Nat→World→Prop) (R:RT) (w:World):Prop :=
 opV Pg (Instr.loadAt 3 t21) Qr21 w fun t187 w =>
 opV Pg (binS .add 3 true t187 (.int .i64 1)) Qr21 w fun t188 w =>
 opU Pg (Instr.storeAt 3 t21 t188) Qr21 w fun w =>
 opV Pg (Instr.loadAt 3 t20) Qr21 w fun t189 w =>
 opV Pg (binS .eql 3 true t189 (.int .i64 0)) Qr21 w fun t190 w =>
 joinK (fun (t194:Value) (w:World) =>
 pickK t190 t194 (.bool false) fun t195 =>
 condP t195 (
 Xr21 1 w) (
 Kr21 w)) fun K25 =>
 guardP t190 true (
 opV Pg (Instr.loadAt 3 t21) Qr21 w fun t192 w =>
 opV Pg (Instr.loadAt 3 t5) Qr21 w fun t193 w =>
 opV Pg (binS .geq 3 false t192 t193) Qr21 w fun t194 w =>
 K25 t194 w) (
 K25 undef w)
def n7c16 (t5 t6 t20 t21 t177 t185:Value) (Kr21:World→Prop) (Qr21:List PanicEntry→World→Prop) (Xr21:Nat→World→Prop) (R:RT) (w:World):Prop :=
 pickK t177 (.bool true) t185 fun t186 =>
 condP t186 (
 opU Pg (Instr.storeAt 4 t6 (.bool false)) Qr21 w fun w =>
 Xr21 0 w) (
 n7c15 t5 t20 t21 Kr21 Qr21 Xr21 R w)
def n7c17 (t3 t5 t6 t20 t21 t23 t164 t169 t176:Value) (C22:World→Prop) (Kr21:World→Prop) (Qr21:List PanicEntry→World→Prop) (Xr21:Nat→World→Prop) (R:RT) (w:World):Prop :=
 pickK t169 (.bool true) t176 fun t177 =>
 joinK (fun (t185:Value) (w:World) =>
 n7c16 t5 t6 t20 t21 t177 t185 Kr21 Qr21 Xr21 R w) fun K24 =>
 guardP t177 false (
 qV Pg C22 (Instr.loadAt 71 t23) fun t179 =>
 qV Pg C22 (Instr.fieldAt 26 t3 3) fun t180 =>
 qV Pg C22 (Instr.loadAt 24 t180) fun t181 =>
 qV Pg C22 (Instr.indexAt 24 t181 t164) fun t183 =>
 qV Pg C22 (Instr.loadAt 71 t183) fun t184 =>
 qV Pg C22 (binS .neq 71 false t179 t184) fun t185 =>
 K24 t185 w) (
 K24 undef w)
def n7c18 (t3 t5 t6 t11 t20 t21 t23 t164:Value) (C22:World→Prop) (Kr21:World→Prop) (Qr21:List PanicEntry→World→Prop) (Xr21:Nat→World→Prop) (R:RT) (w:World):Prop :=
 qV Pg C22 (Instr.loadAt 3 t21) fun t166 =>
 qV Pg C22 (Instr.loadAt 78 t11) fun t167 =>
 qV Pg C22 (Builtin.len_ #[78] 3 #[t167]) fun t168 =>
 qV Pg C22 (binS .geq 3 false t166 t168) fun t169 =>
 joinK (fun (t176:Value) (w:World) =>
 n7c17 t3 t5 t6 t20 t21 t23 t164 t169 t176 C22 Kr21 Qr21 Xr21 R w) fun K23 =>
 guardP t169 false (
 qV Pg C22 (Instr.loadAt 78 t11) fun t172 =>
 qV Pg C22 (Instr.loadAt 3 t21) fun t173 =>
 qV Pg C22 (Instr.indexAt 78 t172 t173) fun t174 =>
 qV Pg C22 (Instr.loadAt 3 t174) fun t175 =>
 qV Pg C22 (binS .neq 3 false t164 t175) fun t176 =>
 K23 t176 w) (
 K23 undef w)
def n7c19 (t3 t5 t6 t11 t20 t21 t164 t165:Value) (Kr21:World→Prop) (Qr21:List PanicEntry→World→Prop) (Xr21:Nat→World→Prop) (l21:Nat) (R:RT) (w:World):Prop :=
 opV Pg (Instr.alloc 71 true (.tuple #[])) (fun _ _=>False) w fun t23 w =>
 opU Pg (Instr.storeAt 71 t23 t165) (fun _ _=>False) w fun w =>
 busyK l21 w fun w =>
 drawK w fun C22 w =>
 n7c18 t3 t5 t6 t11 t20 t21 t23 t164 C22 Kr21 Qr21 Xr21 R w
def n7c20 (t6 t20:Value) (next20:List Deferred→Value→World→Prop) (ds:List Deferred) (R:RT) (w:World):Prop :=
 opV Pg (Instr.loadAt 3 t20) (outQ Pg ds [(some 4,t6)] R) w fun t217 w =>
 opV Pg (Instr.alloc 3 true (.tuple #[])) (outQ Pg ds [(some 4,t6)] R) w fun t20 w =>
 opU Pg (Instr.storeAt 3 t20 t217) (outQ Pg ds [(some 4,t6)] R) w fun w =>
 opV Pg (Instr.loadAt 3 t20) (outQ Pg ds [(some 4,t6)] R) w fun t161 w =>
 opV Pg (binS .add 3 true t161 (.int .i64 1)) (outQ Pg ds [(some 4,t6)] R) w fun t162 w =>
 opU Pg (Instr.storeAt 3 t20 t162) (outQ Pg ds [(some 4,t6)] R) w fun w =>
 next20 ds t20 w
def n7c21 (t6 t20 t206 t215:Value) (next20:List Deferred→Value→World→Prop) (ds:List Deferred) (R:RT) (w:World):Prop :=
 pickK t206 (.bool true) t215 fun t216 =>
 condP t216 (
 opU Pg (Instr.storeAt 4 t6 (.bool false)) (outQ Pg ds [(some 4,t6)] R) w fun w =>
 outX Pg ds [(some 4,t6)] R w) (
 n7c20 t6 t20 next20 ds R w)
def n7c22 (t6 t20 t206 t210 t214:Value) (next20:List Deferred→Value→World→Prop) (ds:List Deferred) (R:RT) (w:World):Prop :=
 joinK (fun (t215:Value) (w:World) =>
 n7c21 t6 t20 t206 t215 next20 ds R w) fun K29 =>
 guardP t206 false (
 pickK t210 t214 (.bool false) fun t215 =>
 K29 t215 w) (
 K29 undef w)
def n7c23 (t6 t11 t20 t21 t206 t210:Value) (next20:List Deferred→Value→World→Prop) (ds:List Deferred) (R:RT) (w:World):Prop :=
 joinK (fun (t214:Value) (w:World) =>
 n7c22 t6 t20 t206 t210 t214 next20 ds R w) fun K28 =>
 guardP t210 true (
 opV Pg (Instr.loadAt 3 t21) (outQ Pg ds [(some 4,t6)] R) w fun t211 w =>
 opV Pg (Instr.loadAt 78 t11) (outQ Pg ds [(some 4,t6)] R) w fun t212 w =>
 opV Pg (Builtin.len_ #[78] 3 #[t212]) (outQ Pg ds [(some 4,t6)] R) w fun t213 w =>
 opV Pg (binS .neq 3 false t211 t213) (outQ Pg ds [(some 4,t6)] R) w fun t214 w =>
 K28 t214 w) (
 K28 undef w)
def n7c24 (t6 t11 t20 t21 t197 t205:Value) (next20:List Deferred→Value→World→Prop) (ds:List Deferred) (R:RT) (w:World):Prop :=
 pickK t197 t205 (.bool false) fun t206 =>
 joinK (fun (t210:Value) (w:World) =>
 n7c23 t6 t11 t20 t21 t206 t210 next20 ds R w) fun K27 =>
 guardP t206 false (
 opV Pg (Instr.loadAt 3 t20) (outQ Pg ds [(some 4,t6)] R) w fun t208 w =>
 opV Pg (binS .eql 3 true t208 (.int .i64 1)) (outQ Pg ds [(some 4,t6)] R) w fun t209 w =>
 K27 t209 w) (
 K27 undef w)
def n7c25 (t5 t6 t11 t21:Value) (K26:KV) (ds:List Deferred) (R:RT) (w:World):Prop :=
 opV Pg (Instr.loadAt 3 t21) (outQ Pg ds [(some 4,t6)] R) w fun t199 w =>
 opV Pg (Instr.loadAt 78 t11) (outQ Pg ds [(some 4,t6)] R) w fun t200 w =>
 opV Pg (Builtin.len_ #[78] 3 #[t200]) (outQ Pg ds [(some 4,t6)] R) w fun t201 w =>
 opV Pg (Instr.loadAt 3 t5) (outQ Pg ds [(some 4,t6)] R) w fun t202 w =>
 opV Pg (Builtin.max_ #[3,3] 3 #[(.int .i64 1),t202]) (outQ Pg ds [(some 4,t6)] R) w fun t203 w =>
 opV Pg (Builtin.min_ #[3,3] 3 #[t201,t203]) (outQ Pg ds [(some 4,t6)] R) w fun t204 w =>
 opV Pg (binS .neq 3 false t199 t204) (outQ Pg ds [(some 4,t6)] R) w fun t205 w =>
 K26 t205 w
def n7c26 (t5 t6 t11 t20 t21:Value) (next20:List Deferred→Value→World→Prop) (ds:List Deferred) (R:RT) (w:World):Prop :=
 opV Pg (Instr.loadAt 3 t20) (outQ Pg ds [(some 4,t6)] R) w fun t196 w =>
 opV Pg (binS .eql 3 true t196 (.int .i64 0)) (outQ Pg ds [(some 4,t6)] R) w fun t197 w =>
 joinK (fun (t205:Value) (w:World) =>
 n7c24 t6 t11 t20 t21 t197 t205 next20 ds R w) fun K26 =>
 guardP t197 true (
 n7c25 t5 t6 t11 t21 K26 ds R w) (
 K26 undef w)
def n7c27 (t6 t20:Value) (next20:List Deferred→Value→World→Prop) (ds:List Deferred) (R:RT) (w:World):Prop :=
 opV Pg (Instr.loadAt 3 t20) (outQ Pg ds [(some 4,t6)] R) w fun t217 w =>
 opV Pg (Instr.alloc 3 true (.tuple #[])) (outQ Pg ds [(some 4,t6)] R) w fun t20 w =>
 opU Pg (Instr.storeAt 3 t20 t217) (outQ Pg ds [(some 4,t6)] R) w fun w =>
 opV Pg (Instr.loadAt 3 t20) (outQ Pg ds [(some 4,t6)] R) w fun t161 w =>
 opV Pg (binS .add 3 true t161 (.int .i64 1)) (outQ Pg ds [(some 4,t6)] R) w fun t162 w =>
 opU Pg (Instr.storeAt 3 t20 t162) (outQ Pg ds [(some 4,t6)] R) w fun w =>
 next20 ds t20 w
def n7c28 (t6 t20 t206 t215:Value) (next20:List Deferred→Value→World→Prop) (ds:List Deferred) (R:RT) (w:World):Prop :=
 pickK t206 (.bool true) t215 fun t216 =>
 condP t216 (
 opU Pg (Instr.storeAt 4 t6 (.bool false)) (outQ Pg ds [(some 4,t6)] R) w fun w =>
 outX Pg ds [(some 4,t6)] R w) (
 n7c27 t6 t20 next20 ds R w)
def n7c29 (t6 t20 t206 t210 t214:Value) (next20:List Deferred→Value→World→Prop) (ds:List Deferred) (R:RT) (w:World):Prop :=
 joinK (fun (t215:Value) (w:World) =>
 n7c28 t6 t20 t206 t215 next20 ds R w) fun K33 =>
 guardP t206 false (
 pickK t210 t214 (.bool false) fun t215 =>
 K33 t215 w) (
 K33 undef w)
def n7c30 (t6 t11 t20 t21 t206 t210:Value) (next20:List Deferred→Value→World→Prop) (ds:List Deferred) (R:RT) (w:World):Prop :=
 joinK (fun (t214:Value) (w:World) =>
 n7c29 t6 t20 t206 t210 t214 next20 ds R w) fun K32 =>
 guardP t210 true (
 opV Pg (Instr.loadAt 3 t21) (outQ Pg ds [(some 4,t6)] R) w fun t211 w =>
 opV Pg (Instr.loadAt 78 t11) (outQ Pg ds [(some 4,t6)] R) w fun t212 w =>
 opV Pg (Builtin.len_ #[78] 3 #[t212]) (outQ Pg ds [(some 4,t6)] R) w fun t213 w =>
 opV Pg (binS .neq 3 false t211 t213) (outQ Pg ds [(some 4,t6)] R) w fun t214 w =>
 K32 t214 w) (
 K32 undef w)
def n7c31 (t6 t11 t20 t21 t197 t205:Value) (next20:List Deferred→Value→World→Prop) (ds:List Deferred) (R:RT) (w:World):Prop :=
 pickK t197 t205 (.bool false) fun t206 =>
 joinK (fun (t210:Value) (w:World) =>
 n7c30 t6 t11 t20 t21 t206 t210 next20 ds R w) fun K31 =>
 guardP t206 false (
 opV Pg (Instr.loadAt 3 t20) (outQ Pg ds [(some 4,t6)] R) w fun t208 w =>
 opV Pg (binS .eql 3 true t208 (.int .i64 1)) (outQ Pg ds [(some 4,t6)] R) w fun t209 w =>
 K31 t209 w) (
 K31 undef w)
def n7c32 (t5 t6 t11 t21:Value) (K30:KV) (ds:List Deferred) (R:RT) (w:World):Prop :=
 opV Pg (Instr.loadAt 3 t21) (outQ Pg ds [(some 4,t6)] R) w fun t199 w =>
 opV Pg (Instr.loadAt 78 t11) (outQ Pg ds [(some 4,t6)] R) w fun t200 w =>
 opV Pg (Builtin.len_ #[78] 3 #[t200]) (outQ Pg ds [(some 4,t6)] R) w fun t201 w =>
 opV Pg (Instr.loadAt 3 t5) (outQ Pg ds [(some 4,t6)] R) w fun t202 w =>
 opV Pg (Builtin.max_ #[3,3] 3 #[(.int .i64 1),t202]) (outQ Pg ds [(some 4,t6)] R) w fun t203 w =>
 opV Pg (Builtin.min_ #[3,3] 3 #[t201,t203]) (outQ Pg ds [(some 4,t6)] R) w fun t204 w =>
 opV Pg (binS .neq 3 false t199 t204) (outQ Pg ds [(some 4,t6)] R) w fun t205 w =>
 K30 t205 w
def n7c33 (t5 t6 t11 t20 t21:Value) (next20:List Deferred→Value→World→Prop) (ds:List Deferred) (R:RT) (w:World):Prop :=
 opV Pg (Instr.loadAt 3 t20) (outQ Pg ds [(some 4,t6)] R) w fun t196 w =>
 opV Pg (binS .eql 3 true t196 (.int .i64 0)) (outQ Pg ds [(some 4,t6)] R) w fun t197 w =>
 joinK (fun (t205:Value) (w:World) =>
 n7c31 t6 t11 t20 t21 t197 t205 next20 ds R w) fun K30 =>
 guardP t197 true (
 n7c32 t5 t6 t11 t21 K30 ds R w) (
 K30 undef w)
def n7c34 (t6:Value) (ds:List Deferred) (R:RT) (w:World):Prop :=
 callK Pg 11 #[] (outQ Pg ds [(some 4,t6)] R) w fun t218 w =>
 opU Pg (Instr.storeAt 4 t6 t218) (outQ Pg ds [(some 4,t6)] R) w fun w =>
 outX Pg ds [(some 4,t6)] R w
def n7c35 (t3 t5 t6 t11 t20 t38:Value) (next20:List Deferred→Value→World→Prop) (ds:List Deferred) (R:RT) (w:World):Prop :=
 opV Pg (Instr.alloc 3 true (.tuple #[])) (outQ Pg ds [(some 4,t6)] R) w fun t21 w =>
 opU Pg (Instr.storeAt 3 t21 (.int .i64 0)) (outQ Pg ds [(some 4,t6)] R) w fun w =>
 rangeN2 Pg t38 ds (fun l21 t164 t165 w Kr21 Xr21 Qr21 =>
 n7c19 t3 t5 t6 t11 t20 t21 t164 t165 Kr21 Qr21 Xr21 l21 R w) (fun ch ds w=>outQ Pg ds [(some 4,t6)] R ch w) w (fun ds w =>
 n7c26 t5 t6 t11 t20 t21 next20 ds R w) [fun ds w =>
 outX Pg ds [(some 4,t6)] R w,fun ds w =>
 n7c33 t5 t6 t11 t20 t21 next20 ds R w]
def n7c36 (t3 t5 t6 t11 t20 t38:Value) (next20:List Deferred→Value→World→Prop) (ds:List Deferred) (R:RT) (w:World):Prop :=
 opV Pg (Instr.loadAt 3 t20) (outQ Pg ds [(some 4,t6)] R) w fun t159 w =>
 opV Pg (binS .lss 3 true t159 (.int .i64 2)) (outQ Pg ds [(some 4,t6)] R) w fun t160 w =>
 condP t160 (
 n7c35 t3 t5 t6 t11 t20 t38 next20 ds R w) (
 n7c34 t6 ds R w)
def n7c37 (t3 t5 t6 t11 t38:Value) (ds:List Deferred) (R:RT) (w:World):Prop :=
 opV Pg (Instr.alloc 3 true (.tuple #[])) (outQ Pg ds [(some 4,t6)] R) w fun t20 w =>
 opU Pg (Instr.storeAt 3 t20 (.int .i64 0)) (outQ Pg ds [(some 4,t6)] R) w fun w =>
 loopM1 (fun ds t20 w next20 =>
 n7c36 t3 t5 t6 t11 t20 t38 next20 ds R w) ds t20 w
def n7c38 (t3 t5 t6 t11 t19 t35 t38:Value) (next18:KV) (ds:List Deferred) (R:RT) (w:World):Prop :=
 opV Pg (Builtin.len_ #[73] 3 #[t35]) (outQ Pg ds [(some 4,t6)] R) w fun t145 w =>
 opV Pg (binS .lss 3 false t19 t145) (outQ Pg ds [(some 4,t6)] R) w fun t146 w =>
 condP t146 (
 drawK w fun C19 w =>
 n7c14 t6 t19 t35 C19 next18 ds R w) (
 n7c37 t3 t5 t6 t11 t38 ds R w)
def n7c39 (t3 t5 t6 t11 t12 t35 t38:Value) (ds:List Deferred) (R:RT) (w:World):Prop :=
 opV Pg (Builtin.len_ #[73] 3 #[t35]) (outQ Pg ds [(some 4,t6)] R) w fun t140 w =>
 opV Pg (binS .neq 3 false t140 t12) (outQ Pg ds [(some 4,t6)] R) w fun t142 w =>
 condP t142 (
 opU Pg (Instr.storeAt 4 t6 (.bool false)) (outQ Pg ds [(some 4,t6)] R) w fun w =>
 outX Pg ds [(some 4,t6)] R w) (
 loop1 (fun t19 w next18 =>
 n7c38 t3 t5 t6 t11 t19 t35 t38 next18 ds R w) (.int .i64 1) w)
def n7c40 (t1 t3 t6 t11 t12 t13 t35:Value) (next3:KW) (ds:List Deferred) (R:RT) (w:World):Prop :=
 joinK (fun (t12:Value) (w:World) =>
 opV Pg (binS .add 3 true t13 (.int .i64 1)) (outQ Pg ds [(some 4,t6)] R) w fun t60 w =>
 next3 t12 t60 w) fun K4 =>
 opV Pg (Instr.fieldAt 26 t3 3) (outQ Pg ds [(some 4,t6)] R) w fun t61 w =>
 opV Pg (Instr.loadAt 24 t61) (outQ Pg ds [(some 4,t6)] R) w fun t62 w =>
 opV Pg (Instr.indexAt 24 t62 t13) (outQ Pg ds [(some 4,t6)] R) w fun t64 w =>
 opV Pg (Instr.loadAt 71 t64) (outQ Pg ds [(some 4,t6)] R) w fun t65 w =>
 opV Pg (Instr.alloc 71 true (.tuple #[])) (outQ Pg ds [(some 4,t6)] R) w fun t14 w =>
 opU Pg (Instr.storeAt 71 t14 t65) (outQ Pg ds [(some 4,t6)] R) w fun w =>
 opV Pg (Instr.fieldAt 71 t14 0) (outQ Pg ds [(some 4,t6)] R) w fun t66 w =>
 opV Pg (Instr.loadAt 9 t66) (outQ Pg ds [(some 4,t6)] R) w fun t67 w =>
 opV Pg (binS .eql 9 false t67 t1) (outQ Pg ds [(some 4,t6)] R) w fun t69 w =>
 joinK (fun (w:World) =>
 n7c12 t3 t6 t12 t13 t14 t35 K4 ds R w) fun K5 =>
 condP t69 (
 n7c13 t6 t11 t13 K5 ds R w) (
 K5 w)
def n7c41 (t1 t3 t5 t6 t11 t12 t13 t35 t38:Value) (next3:KW) (ds:List Deferred) (R:RT) (w:World):Prop :=
 opV Pg (Instr.fieldAt 26 t3 3) (outQ Pg ds [(some 4,t6)] R) w fun t55 w =>
 opV Pg (Instr.loadAt 24 t55) (outQ Pg ds [(some 4,t6)] R) w fun t56 w =>
 opV Pg (Builtin.len_ #[24] 3 #[t56]) (outQ Pg ds [(some 4,t6)] R) w fun t57 w =>
 opV Pg (binS .lss 3 false t13 t57) (outQ Pg ds [(some 4,t6)] R) w fun t58 w =>
 condP t58 (
 n7c40 t1 t3 t6 t11 t12 t13 t35 next3 ds R w) (
 n7c39 t3 t5 t6 t11 t12 t35 t38 ds R w)
def n7c42 (t1 t3 t5 t6 t35 t38:Value) (ds:List Deferred) (R:RT) (w:World):Prop :=
 opV Pg (Instr.alloc 78 true (.tuple #[])) (outQ Pg ds [(some 4,t6)] R) w fun t11 w =>
 loop2 (fun t12 t13 w next3 =>
 n7c41 t1 t3 t5 t6 t11 t12 t13 t35 t38 next3 ds R w) (.int .i64 0) (.int .i64 0) w
def n7c43 (t1 t6 t7 t10:Value) (next2:KV) (ds:List Deferred) (R:RT) (w:World):Prop :=
 opV Pg (Instr.fieldAt 26 t7 3) (outQ Pg ds [(some 4,t6)] R) w fun t48 w =>
 opV Pg (Instr.loadAt 24 t48) (outQ Pg ds [(some 4,t6)] R) w fun t49 w =>
 opV Pg (Instr.indexAt 24 t49 t10) (outQ Pg ds [(some 4,t6)] R) w fun t52 w =>
 opV Pg (Instr.fieldAt 71 t52 0) (outQ Pg ds [(some 4,t6)] R) w fun t53 w =>
 opU Pg (Instr.storeAt 9 t53 t1) (outQ Pg ds [(some 4,t6)] R) w fun w =>
 opV Pg (binS .add 3 true t10 (.int .i64 1)) (outQ Pg ds [(some 4,t6)] R) w fun t47 w =>
 next2 t47 w
def n7c44 (t1 t3 t5 t6 t7 t10 t35 t38:Value) (next2:KV) (ds:List Deferred) (R:RT) (w:World):Prop :=
 opV Pg (Instr.fieldAt 26 t7 3) (outQ Pg ds [(some 4,t6)] R) w fun t42 w =>
 opV Pg (Instr.loadAt 24 t42) (outQ Pg ds [(some 4,t6)] R) w fun t43 w =>
 opV Pg (Builtin.len_ #[24] 3 #[t43]) (outQ Pg ds [(some 4,t6)] R) w fun t44 w =>
 opV Pg (binS .lss 3 false t10 t44) (outQ Pg ds [(some 4,t6)] R) w fun t45 w =>
 condP t45 (
 n7c43 t1 t6 t7 t10 next2 ds R w) (
 n7c42 t1 t3 t5 t6 t35 t38 ds R w)
def n7c45 (t1 t3 t5 t6 t7 t35 t38:Value) (ds:List Deferred) (R:RT) (w:World):Prop :=
 opV Pg (binS .eql 76 true t38 .nilFunc) (outQ Pg ds [(some 4,t6)] R) w fun t40 w =>
 condP t40 (
 opU Pg (Instr.storeAt 4 t6 (.bool false)) (outQ Pg ds [(some 4,t6)] R) w fun w =>
 outX Pg ds [(some 4,t6)] R w) (
 loop1 (fun t10 w next2 =>
 n7c44 t1 t3 t5 t6 t7 t10 t35 t38 next2 ds R w) (.int .i64 0) w)
def n7c46 (t1 t3 t5 t6 t7 t35:Value) (ds:List Deferred) (R:RT) (w:World):Prop :=
 opV Pg (Instr.loadAt 26 t7) (outQ Pg ds [(some 4,t6)] R) w fun t36 w =>
 callK Pg 34 #[t36,t1] (outQ Pg ds [(some 4,t6)] R) w fun t38 w =>
 n7c45 t1 t3 t5 t6 t7 t35 t38 ds R w
def n7c47 (t1 t3 t5 t6 t33:Value) (ds:List Deferred) (R:RT) (w:World):Prop :=
 opV Pg (Instr.alloc 26 true (.tuple #[])) (outQ Pg ds [(some 4,t6)] R) w fun t7 w =>
 opU Pg (Instr.storeAt 26 t7 t33) (outQ Pg ds [(some 4,t6)] R) w fun w =>
 opV Pg (Instr.loadAt 26 t7) (outQ Pg ds [(some 4,t6)] R) w fun t34 w =>
 callK Pg 33 #[t34] (outQ Pg ds [(some 4,t6)] R) w fun t35 w =>
 n7c46 t1 t3 t5 t6 t7 t35 ds R w
def n7c48 (t6:Value) (ds:List Deferred) (R:RT) (w:World):Prop :=
 callK Pg 11 #[] (outQ Pg ds [(some 4,t6)] R) w fun t31 w =>
 opU Pg (Instr.storeAt 4 t6 t31) (outQ Pg ds [(some 4,t6)] R) w fun w =>
 outX Pg ds [(some 4,t6)] R w
def n7c49 (t1 t3 t5 t6:Value) (ds:List Deferred) (R:RT) (w:World):Prop :=
 opV Pg (Instr.loadAt 26 t3) (outQ Pg ds [(some 4,t6)] R) w fun t32 w =>
 callK Pg 22 #[t32] (outQ Pg ds [(some 4,t6)] R) w fun t33 w =>
 n7c47 t1 t3 t5 t6 t33 ds R w
def n7c50 (t1 t3 t5 t6 t25:Value) (ds:List Deferred) (R:RT) (w:World):Prop :=
 joinK (fun (t29:Value) (w:World) =>
 pickK t25 (.bool true) t29 fun t30 =>
 condP t30 (
 n7c48 t6 ds R w) (
 n7c49 t1 t3 t5 t6 ds R w)) fun K1 =>
 guardP t25 false (
 opV Pg (Builtin.len_ #[9] 3 #[t1]) (outQ Pg ds [(some 4,t6)] R) w fun t28 w =>
 opV Pg (binS .gtr 3 true t28 (.int .i64 60)) (outQ Pg ds [(some 4,t6)] R) w fun t29 w =>
 K1 t29 w) (
 K1 undef w)
def n7 (t0 t1 t2:Value) (R:RT) (w:World):Prop :=
 (fun (ds:List Deferred) =>
 opV Pg (Instr.box 26 t0) (outQ Pg ds [(some 4,undef)] R) w fun t3 w =>
 opV Pg (Instr.box 3 t2) (outQ Pg ds [(some 4,undef)] R) w fun t5 w =>
 opV Pg (Instr.alloc 4 true (.tuple #[])) (outQ Pg ds [(some 4,undef)] R) w fun t6 w =>
 opV Pg (Instr.loadAt 26 t3) (outQ Pg ds [(some 4,t6)] R) w fun t24 w =>
 callK Pg 10 #[t24] (outQ Pg ds [(some 4,t6)] R) w fun t25 w =>
 n7c50 t1 t3 t5 t6 t25 ds R w) []
set_option maxHeartbeats 40000000 in
theorem n7s {t0 t1 t2:Value} {R:RT} {w:World} (h:n7 t0 t1 t2 R w):Calls Pg 9 #[t0,t1,t2] w R:=by
 refine yE Tryz.func9 ?_
 unfold n7 at h
 dsimp only at h
 refine zs<|zr<|yv h fun _ w h=>yv h fun _ w h=>yv h fun _ w h=>zn<|zk<|zs<|zs<|sim_regionG<|yG 3<|yv h fun _ w h=>yc h c10 fun _ w h=>zm<|zn ?_
 refine yg1 3 2 false [27,28,29] 29 h (fun _ T hT h=>?_) fun σ w h=>?_
 · refine zm<|yx h fun _ w h=>yb h fun _ w h=>zn ?_
   exact zt hT h
 refine yG 1<|yp h fun _ h=>zn<|sim_end<|zk<|yC h (fun h=>zs<|zr<|yc h c11 fun _ w h=>yu h fun w h=>zn<|zk<|sim_ret<|sim_then_ret<|bodyM_ret rfl h) fun h=>sim_skip<|zk<|zs<|zr<|yv h fun _ w h=>yc h c22 fun _ w h=>yv h fun _ w h=>yu h fun w h=>?_
 refine zn<|zk<|zs<|zr<|yv h fun _ w h=>yc h c33 fun _ w h=>zm<|zn<|zk<|zs<|zr<|yv h fun _ w h=>zm<|yc h c34 fun _ w h=>zm ?_
 refine zn<|zk<|zs<|zs<|zr<|zm<|yb h fun _ w h=>zn<|zk<|yC h (fun h=>zs<|zr<|yu h fun w h=>zn<|zk<|sim_ret<|sim_then_ret<|bodyM_ret rfl h) fun h=>sim_skip<|zk<|zs<|zs ?_
 refine zr<|zm<|zn<|zk<|sim_block<|yl1 [10,41,42,43,44,45,46,47,48,49,50,51,52,53] 10 h fun σ w next h=>zs<|zs<|zr<|zm<|yv h fun _ w h=>yv h fun _ w h=>yx h fun _ w h=>yb h fun _ w h=>zn ?_
 refine zk<|yC h (fun h=>?_) fun h=>?_
 · refine sim_skip<|zk<|zs<|sim_block<|zr<|yv h fun _ w h=>yv h fun _ w h=>zm<|zm<|yv h fun _ w h=>yv h fun _ w h=>yu h fun w h=>zn<|sim_block_normal<|zk ?_
   exact zr<|zm<|yb h fun _ w h=>zm<|zn<|zk<|⟨rfl,h⟩
 refine sim_exit<|sim_then_exit<|sim_then_exit<|sim_block_hit<|zk<|zs<|zr<|yv h fun _ w h=>zn<|zk<|zs<|zr<|zm<|zn<|zk ?_
 refine zs<|zs<|zr<|zm<|zn<|zk<|sim_block<|yl2 [12,13,14,15,16,17,18,54,55,56,57,58,59,60,61,62,63,64,65,66,67,68,69,70,71,72,73,74,75,76,77,78,79,80,81,82,83,84,85,86,87,88,89,90,91,92,93,94,95,96,97,98,99,100,101,102,103,104,105,106,107,108,109,110,111,112,113,114,115,116,117,118,119,120,121,122,123,124,125,126,127,128,129,130,131,132,133,134,135,136,137,138] 12 13 h fun σ w next h=>zs<|zs<|zr<|zm<|yv h fun _ w h=>yv h fun _ w h=>yx h fun _ w h=>?_
 refine yb h fun _ w h=>zn<|zk<|yC h (fun h=>?_) fun h=>?_
 · refine sim_skip<|zk<|zs<|yJ1 [12,14,15,16,17,18,61,62,63,64,65,66,67,68,69,70,71,72,73,74,75,76,77,78,79,80,81,82,83,84,85,86,87,88,89,90,91,92,93,94,95,96,97,98,99,100,101,102,103,104,105,106,107,108,109,110,111,112,113,114,115,116,117,118,119,120,121,122,123,124,125,126,127,128,129,130,131,132,133,134,135,136,137,138] 12 h (fun _ _ hkK4 h=>?_) fun σ w h=>?_
   · refine sim_block<|zs<|zr<|yv h fun _ w h=>yv h fun _ w h=>zm<|yv h fun _ w h=>yv h fun _ w h=>yv h fun _ w h=>yu h fun w h=>zn<|zk<|zs<|zs<|zr ?_
     refine yv h fun _ w h=>yv h fun _ w h=>zm<|yb h fun _ w h=>zn<|zk<|yJ0 [70,71,72,73] h (fun _ _ hkK5 h=>?_) fun σ w h=>?_
     · refine yC h (fun h=>?_) fun h=>?_
       · refine zr<|yv h fun _ w h=>zm<|yS h fun _ w h=>yx h fun _ w h=>yu h fun w h=>zn<|zk ?_
         exact zt hkK5 h
       refine sim_skip<|zk ?_
       exact zt hkK5 h
     refine zk<|zs<|zs<|sim_regionG<|yG 4<|yv h fun _ w h=>yv h fun _ w h=>yb h fun _ w h=>zm<|zn<|yg1 3 3 true [78,79,80] 80 h (fun _ T hT h=>?_) fun σ w h=>?_
     · refine yv h fun _ w h=>yv h fun _ w h=>yb h fun _ w h=>zn ?_
       exact zt hT h
     refine yG 1<|yp h fun _ h=>zn<|sim_end<|zk<|yC h (fun h=>?_) fun h=>?_
     · refine sim_exit<|sim_then_exit<|sim_block_hit<|zk ?_
       exact zt hkK4 h
     refine sim_skip<|zk<|zs<|zr<|zm<|zm<|zn<|zk<|zs<|zs<|zr<|zm<|zn<|zk<|sim_block ?_
     refine yl2 [15,17,82,83,84,85,86,87,88,89,90,91,92,93,94,95,96,97,98,99,100,101,102,103,104,105,106,107,108,109,110,111,112,113,114,115,116,117] 15 17 h fun σ w next h=>zs<|zs<|zr<|zm<|zm<|yb h fun _ w h=>zn<|zk<|yC h (fun h=>?_) fun h=>?_
     · refine sim_skip<|zk<|zs<|sim_block<|yh [15,87,88,89,90,91,92,93,94,95,96,97,98,99,100,101,102,103,104,105,106,107,108,109,110,111,112,113,114,115,116,117] h fun C hC h=>yw 0 hC ?_
       refine yw 1 hC ?_
       refine yj1 22 [9,8,7,6,5,4,3,2,1,0] [89,90,91,92,93,94,95,96] 96 h (fun _ hT hb h=>?_) (fun _ hT hb h=>?_) fun σ w hC h=>?_
       · refine ye 2 hC h fun _ h=>?_
         refine ye 3 hC h fun _ h=>?_
         refine yw 4 hC ?_
         refine ye 5 hC h fun _ h=>?_
         refine ye 6 hC h fun _ h=>?_
         refine ye 7 hC h fun _ h=>?_
         refine ye 8 hC h fun _ h=>?_
         refine yw 9 hC ?_
         exact yt hT hC h
       · refine yi 2 hC ?_
         refine yi 3 hC ?_
         refine yi 4 hC ?_
         refine yi 5 hC ?_
         refine yi 6 hC ?_
         refine yi 7 hC ?_
         refine yi 8 hC ?_
         refine yi 9 hC ?_
         exact yt hT hC h
       refine yj1 15 [16,15,14,13,12,11,10,9,8,7,6,5,4,3,2,1,0] [97,98,99,100,101,102,103] 103 h (fun _ hT hb h=>?_) (fun _ hT hb h=>?_) fun σ w hC h=>?_
       · refine ye 10 hC h fun _ h=>?_
         refine ye 11 hC h fun _ h=>?_
         refine yw 12 hC ?_
         refine ye 13 hC h fun _ h=>?_
         refine ye 14 hC h fun _ h=>?_
         refine ye 15 hC h fun _ h=>?_
         refine ye 16 hC h fun _ h=>?_
         exact yt hT hC h
       · refine yi 10 hC ?_
         refine yi 11 hC ?_
         refine yi 12 hC ?_
         refine yi 13 hC ?_
         refine yi 14 hC ?_
         refine yi 15 hC ?_
         refine yi 16 hC ?_
         exact yt hT hC h
       refine yj1 13 [18,17,16,15,14,13,12,11,10,9,8,7,6,5,4,3,2,1,0] [104,105] 105 h (fun _ hT hb h=>?_) (fun _ hT hb h=>?_) fun σ w hC h=>?_
       · refine yP 17 hC h fun _ h=>?_
         refine yw 18 hC ?_
         exact yt hT hC h
       · refine yi 17 hC ?_
         refine yi 18 hC ?_
         exact yt hT hC h
       refine yj1 4 [27,26,25,24,23,22,21,20,19,18,17,16,15,14,13,12,11,10,9,8,7,6,5,4,3,2,1,0] [106,107,108,109,110,111,112,113,114] 114 h (fun _ hT hb h=>?_) (fun _ hT hb h=>?_) fun σ w hC h=>?_
       · refine ye 19 hC h fun _ h=>?_
         refine ye 20 hC h fun _ h=>?_
         refine yw 21 hC ?_
         refine ye 22 hC h fun _ h=>?_
         refine ye 23 hC h fun _ h=>?_
         refine ye 24 hC h fun _ h=>?_
         refine ye 25 hC h fun _ h=>?_
         refine ye 26 hC h fun _ h=>?_
         refine ye 27 hC h fun _ h=>?_
         exact yt hT hC h
       · refine yi 19 hC ?_
         refine yi 20 hC ?_
         refine yi 21 hC ?_
         refine yi 22 hC ?_
         refine yi 23 hC ?_
         refine yi 24 hC ?_
         refine yi 25 hC ?_
         refine yi 26 hC ?_
         refine yi 27 hC ?_
         exact yt hT hC h
       refine yj1 2 [29,28,27,26,25,24,23,22,21,20,19,18,17,16,15,14,13,12,11,10,9,8,7,6,5,4,3,2,1,0] [115,116] 116 h (fun _ hT hb h=>?_) (fun _ hT hb h=>?_) fun σ w hC h=>?_
       · refine yP 28 hC h fun _ h=>?_
         refine ye 29 hC h fun _ h=>?_
         exact yt hT hC h
       · refine yi 28 hC ?_
         refine yi 29 hC ?_
         exact yt hT hC h
       refine yP 30 hC h fun _ h=>?_
       refine yw 31 hC ?_
       exact yz<|sim_block_normal<|zk<|zr<|zm<|yb h fun _ w h=>zm<|zn<|zk<|⟨rfl,h⟩
     refine sim_exit<|sim_then_exit<|sim_then_exit<|sim_block_hit<|zk<|zs<|zs<|zr<|zm<|zn<|zk<|sim_block<|yl2 [16,18,118,119,120,121,122,123,124,125,126,127,128,129,130,131,132,133] 16 18 h fun σ w next h=>zs<|zs ?_
     refine zr<|zm<|zm<|yx h fun _ w h=>yb h fun _ w h=>zn<|zk<|yC h (fun h=>?_) fun h=>?_
     · refine sim_skip<|zk<|zs<|sim_block<|yh [16,124,125,126,127,128,129,130,131,132,133] h fun C hC h=>yw 0 hC ?_
       refine yw 1 hC ?_
       refine yj1 2 [8,7,6,5,4,3,2,1,0] [126,127,128,129,130,131,132] 132 h (fun _ hT hb h=>?_) (fun _ hT hb h=>?_) fun σ w hC h=>?_
       · refine yw 2 hC ?_
         refine yw 3 hC ?_
         refine ye 4 hC h fun _ h=>?_
         refine ye 5 hC h fun _ h=>?_
         refine ye 6 hC h fun _ h=>?_
         refine ye 7 hC h fun _ h=>?_
         refine ye 8 hC h fun _ h=>?_
         exact yt hT hC h
       · refine yi 2 hC ?_
         refine yi 3 hC ?_
         refine yi 4 hC ?_
         refine yi 5 hC ?_
         refine yi 6 hC ?_
         refine yi 7 hC ?_
         refine yi 8 hC ?_
         exact yt hT hC h
       refine yP 9 hC h fun _ h=>?_
       refine yw 10 hC ?_
       exact yz<|sim_block_normal<|zk<|zr<|zm<|yb h fun _ w h=>zm<|zn<|zk<|⟨rfl,h⟩
     refine sim_exit<|sim_then_exit<|sim_then_exit<|sim_block_hit<|zk<|zs<|zs<|zr<|zm<|yv h fun _ w h=>zn<|zk<|yC h (fun h=>zs<|zr<|yu h fun w h=>zn<|zk<|sim_ret<|sim_then_ret<|sim_block_ret<|sim_then_ret<|sim_then_ret<|sim_then_ret<|sim_block_ret<|sim_then_ret<|bodyM_ret rfl h) fun h=>sim_skip ?_
     refine zk<|zs<|zr<|zm<|zn<|zk<|yJ1 [12,137,138] 12 h (fun _ _ hkK17 h=>?_) fun σ w h=>?_
     · refine yC h (fun h=>?_) fun h=>?_
       · refine zr<|zm<|yb h fun _ w h=>zm<|zn<|zk ?_
         exact zt hkK17 h
       refine sim_skip<|zk ?_
       exact zt hkK17 h
     refine sim_block_normal<|zk ?_
     exact zt hkK4 h
   exact zk<|zr<|zm<|yb h fun _ w h=>zm<|zn<|zk<|⟨rfl,h⟩
 refine sim_exit<|sim_then_exit<|sim_then_exit<|sim_block_hit<|zk<|zs<|zs<|zr<|zm<|yx h fun _ w h=>zm<|yb h fun _ w h=>zn<|zk<|yC h (fun h=>zs<|zr<|yu h fun w h=>zn<|zk<|sim_ret<|sim_then_ret<|bodyM_ret rfl h) fun h=>?_
 refine sim_skip<|zk<|zs<|zs<|zr<|zm<|zn<|zk<|sim_block<|yl1 [19,143,144,145,146,147,148,149,150,151,152,153,154,155,156,157,158] 19 h fun σ w next h=>zs<|zs<|zr<|zm<|zm ?_
 refine yx h fun _ w h=>yb h fun _ w h=>zn<|zk<|yC h (fun h=>?_) fun h=>?_
 · refine sim_skip<|zk<|zs<|sim_block<|zs<|yh [149,150,151,152,153,154,155,156,157,158] h fun C hC h=>yw 0 hC ?_
   refine yw 1 hC ?_
   refine ye 2 hC h fun _ h=>?_
   refine ye 3 hC h fun _ h=>?_
   refine ye 4 hC h fun _ h=>?_
   refine yw 5 hC ?_
   refine yw 6 hC ?_
   refine ye 7 hC h fun _ h=>?_
   refine ye 8 hC h fun _ h=>?_
   refine ye 9 hC h fun _ h=>?_
   exact yz<|zk<|yC h (fun h=>zs<|zr<|yu h fun w h=>zn<|zk<|sim_ret<|sim_block_ret<|sim_then_ret<|sim_then_ret<|sim_block_ret<|sim_then_ret<|bodyM_ret rfl h) fun h=>sim_skip<|sim_block_normal<|zk<|zr<|zm<|yb h fun _ w h=>zm<|zn<|zk<|⟨rfl,h⟩
 refine sim_exit<|sim_then_exit<|sim_then_exit<|sim_block_hit<|zk<|zs<|zs<|zr<|yv h fun _ w h=>yu h fun w h=>zn<|zk<|sim_block<|yL1 [20,21,159,160,161,162,163,196,197,198,199,200,201,202,203,204,205,206,207,208,209,210,211,212,213,214,215,216,217] 20 h fun σ ds w next h=>zs ?_
 refine zs<|zr<|yv h fun _ w h=>yb h fun _ w h=>zn<|zk<|yC h (fun h=>?_) fun h=>?_
 · refine sim_skip<|zk<|zs<|sim_block<|zs<|zr<|yv h fun _ w h=>yu h fun w h=>zn<|zk<|zs<|zs<|zr<|zm<|zn ?_
   refine zk<|sim_block<|sim_range2 [.ret,.exit 12] h rfl (fun l21 t164 t165 w Kr21 Xr21 Qr21 h=>?_) (fun ds w h=>?_) (fun c ds w h=>?_) (fun ch ds w h=>outQ_of rfl h)
   · refine zs<|zr<|zm<|zn<|zk<|zr<|yv h fun _ w h=>yu h fun w h=>zn<|zk ?_
     obtain ⟨hr,h⟩:=h
     refine ⟨rfl,hr,fun w hb=>?_⟩
     have h:=h w hb
     refine sim_block<|zs<|zs<|yh [166,167,168,169,170,171,172,173,174,175,176,177,178,179,180,181,182,183,184,185,186] h fun C hC h=>ye 0 hC h fun _ h=>?_
     refine ye 1 hC h fun _ h=>?_
     refine ye 2 hC h fun _ h=>?_
     refine ye 3 hC h fun _ h=>?_
     refine yw 4 hC ?_
     refine yj1 10 [10,9,8,7,6,5,4,3,2,1,0] [171,172,173,174,175,176] 176 h (fun _ hT hb h=>?_) (fun _ hT hb h=>?_) fun σ w hC h=>?_
     · refine yw 5 hC ?_
       refine ye 6 hC h fun _ h=>?_
       refine ye 7 hC h fun _ h=>?_
       refine ye 8 hC h fun _ h=>?_
       refine ye 9 hC h fun _ h=>?_
       refine ye 10 hC h fun _ h=>?_
       exact yt hT hC h
     · refine yi 5 hC ?_
       refine yi 6 hC ?_
       refine yi 7 hC ?_
       refine yi 8 hC ?_
       refine yi 9 hC ?_
       refine yi 10 hC ?_
       exact yt hT hC h
     refine yP 11 hC h fun _ h=>?_
     refine yw 12 hC ?_
     refine yj1 1 [19,18,17,16,15,14,13,12,11,10,9,8,7,6,5,4,3,2,1,0] [179,180,181,182,183,184,185] 185 h (fun _ hT hb h=>?_) (fun _ hT hb h=>?_) fun σ w hC h=>?_
     · refine ye 13 hC h fun _ h=>?_
       refine ye 14 hC h fun _ h=>?_
       refine ye 15 hC h fun _ h=>?_
       refine yw 16 hC ?_
       refine ye 17 hC h fun _ h=>?_
       refine ye 18 hC h fun _ h=>?_
       refine ye 19 hC h fun _ h=>?_
       exact yt hT hC h
     · refine yi 13 hC ?_
       refine yi 14 hC ?_
       refine yi 15 hC ?_
       refine yi 16 hC ?_
       refine yi 17 hC ?_
       refine yi 18 hC ?_
       refine yi 19 hC ?_
       exact yt hT hC h
     refine yP 20 hC h fun _ h=>?_
     refine yz<|zk<|yC h (fun h=>zs<|zr<|yu h fun w h=>zn<|zk<|sim_ret<|sim_then_ret<|sim_block_ret<|⟨rfl,0,rfl,h⟩) fun h=>sim_skip<|zk<|zs<|zr<|yv h fun _ w h=>yb h fun _ w h=>yu h fun w h=>zn<|zk<|zs<|sim_regionG ?_
     refine yG 3<|yv h fun _ w h=>yb h fun _ w h=>zm<|zn<|yg1 3 2 true [192,193,194] 194 h (fun _ T hT h=>?_) fun σ w h=>?_
     · refine yv h fun _ w h=>yv h fun _ w h=>yb h fun _ w h=>zn ?_
       exact zt hT h
     exact yG 1<|yp h fun _ h=>zn<|sim_end<|zk<|yC h (fun h=>sim_exit<|sim_block_miss rfl<|⟨rfl,1,rfl,h⟩) fun h=>sim_skip<|sim_block_normal<|⟨rfl,h⟩
   · refine sim_block_normal<|zk<|zs<|sim_regionG<|yG 3<|yv h fun _ w h=>yb h fun _ w h=>zm<|zn<|yg1 7 2 true [199,200,201,202,203,204,205] 205 h (fun _ T hT h=>?_) fun σ w h=>?_
     · refine yv h fun _ w h=>yv h fun _ w h=>yx h fun _ w h=>yv h fun _ w h=>yx h fun _ w h=>yx h fun _ w h=>yb h fun _ w h=>zn ?_
       exact zt hT h
     refine yG 2<|yp h fun _ h=>zm<|zn<|yg1 3 11 false [208,209,210] 210 h (fun _ T hT h=>?_) fun σ w h=>?_
     · refine yv h fun _ w h=>yb h fun _ w h=>zm<|zn ?_
       exact zt hT h
     refine yg1 4 14 true [211,212,213,214] 214 h (fun _ T hT h=>?_) fun σ w h=>?_
     · refine yv h fun _ w h=>yv h fun _ w h=>yx h fun _ w h=>yb h fun _ w h=>zn ?_
       exact zt hT h
     refine yg1 1 11 false [215] 215 h (fun _ T hT h=>?_) fun σ w h=>?_
     · refine yp h fun _ h=>zn ?_
       exact zt hT h
     refine yG 1<|yp h fun _ h=>zn<|sim_end<|zk<|yC h (fun h=>zs<|zr<|yu h fun w h=>zn<|zk<|sim_ret<|sim_block_ret<|sim_then_ret<|sim_then_ret<|sim_block_ret<|sim_then_ret<|bodyM_ret rfl h) fun h=>sim_skip<|sim_block_normal<|zk<|zs<|zs<|zr<|yv h fun _ w h=>zn ?_
     exact zk<|zr<|yv h fun _ w h=>yu h fun w h=>zn<|zk<|zr<|yv h fun _ w h=>yb h fun _ w h=>yu h fun w h=>zn<|zk<|h
   rcases c with _ | c
   · refine ⟨_,rfl,.inl ⟨rfl,?_⟩⟩
     exact sim_block_ret<|sim_then_ret<|sim_block_ret<|sim_then_ret<|sim_then_ret<|sim_block_ret<|sim_then_ret<|bodyM_ret rfl h
   rcases c with _ | c
   · refine ⟨_,rfl,.inr ⟨_,rfl,?_⟩⟩
     refine sim_block_hit<|zk<|zs<|sim_regionG<|yG 3<|yv h fun _ w h=>yb h fun _ w h=>zm<|zn<|yg1 7 2 true [199,200,201,202,203,204,205] 205 h (fun _ T hT h=>?_) fun σ w h=>?_
     · refine yv h fun _ w h=>yv h fun _ w h=>yx h fun _ w h=>yv h fun _ w h=>yx h fun _ w h=>yx h fun _ w h=>yb h fun _ w h=>zn ?_
       exact zt hT h
     refine yG 2<|yp h fun _ h=>zm<|zn<|yg1 3 11 false [208,209,210] 210 h (fun _ T hT h=>?_) fun σ w h=>?_
     · refine yv h fun _ w h=>yb h fun _ w h=>zm<|zn ?_
       exact zt hT h
     refine yg1 4 14 true [211,212,213,214] 214 h (fun _ T hT h=>?_) fun σ w h=>?_
     · refine yv h fun _ w h=>yv h fun _ w h=>yx h fun _ w h=>yb h fun _ w h=>zn ?_
       exact zt hT h
     refine yg1 1 11 false [215] 215 h (fun _ T hT h=>?_) fun σ w h=>?_
     · refine yp h fun _ h=>zn ?_
       exact zt hT h
     refine yG 1<|yp h fun _ h=>zn<|sim_end<|zk<|yC h (fun h=>zs<|zr<|yu h fun w h=>zn<|zk<|sim_ret<|sim_block_ret<|sim_then_ret<|sim_then_ret<|sim_block_ret<|sim_then_ret<|bodyM_ret rfl h) fun h=>sim_skip<|sim_block_normal<|zk<|zs<|zs<|zr<|yv h fun _ w h=>zn ?_
     exact zk<|zr<|yv h fun _ w h=>yu h fun w h=>zn<|zk<|zr<|yv h fun _ w h=>yb h fun _ w h=>yu h fun w h=>zn<|zk<|h
   exact h.elim
 exact sim_exit<|sim_then_exit<|sim_then_exit<|sim_block_hit<|zk<|zs<|zr<|yc h c11 fun _ w h=>yu h fun w h=>zn<|zk<|sim_ret<|bodyM_ret rfl h
section
variable {w:World} {p3 p14:Nat} {r:RolD} {x:StpD} {sv cv tv mv t6:Value} {ml:List ByteArray} {K4:Value→World→Prop} {ds:List Deferred} {R:RT}
theorem st_found (hM:SliceOf w 1 EStr mv ml) (hx:x.message∈ml) (o14:w.heap[p14]?=some (.cells (stpCells x).toArray 71 (0,0))) (n:Nat) (f:Bool) (hn:n≤100000) (hk:∀ w',Ext w w'→K4 (.int .i64 ((if f then n+1 else n:Nat):Int)) w') :
 loop2 (fun t16 t18 w next14=>n7c9 t6 (.int .i64 (n:Int)) (.pointer (some ⟨p14,0,none⟩)) (.bool f) t16 t18 mv K4 next14 ds R w) (.bool false) (.int .i64 0) w:=by
 obtain ⟨A,c,rfl,_,_,hlm,hel⟩:=SliceOf.open hM
 refine loop2_intro (fun a b w'=>∃ k:Nat,b = .int .i64 k∧k≤ml.length∧Ext w w'∧a = .bool ((ml.take k).any fun y=>decide (y=x.message))) (fun _ b _=>ml.length - (intOf b).toNat) ⟨0,rfl,by omega,Ext.refl _,by simp⟩ ?_
 rintro _ _ w1 ⟨k,rfl,hkl,e,rfl⟩
 unfold n7c9
 by_cases hlt:k < ml.length
 · obtain ⟨y,hy⟩:=getElem?_lt hlt
   obtain ⟨b,o,cs,rfl,_,hA,rfl⟩:=hel k y hy
   have dk:(k:Int) < (ml.length:Int):=by omega
   have d1:decide ((k:Int) < (ml.length:Int))=true:=decide_eq_true dk
   have hw:IntKind.i64.wrap ((k:Int)+1)=((k+1:Nat):Int):=by rw [wrap_ok (by omega) (by omega)];omega
   simp (disch:=try exact DI) only [↓PR,QR,simprocAttr,d1]
   refine drawK_intro ?_
   have eD:Ext w1 (Sw.drew w1):=(Ext.refl w1).drew
   generalize Sw.drew w1=D at eD ⊢
   have ED:=e.trans eD
   unfold n7c6
   cases hf:(ml.take k).any fun y=>decide (y=x.message) with
   | true =>
    simp (disch:=try exact DI) only [↓PR,QR,simprocAttr,hw]
    refine ⟨⟨k+1,rfl,by omega,ED,?_⟩,meas_lt (kd := .i64) hlt⟩
    rw [take_snoc hy,List.any_append,hf]
    rfl
   | false =>
    simp (disch:=try exact DI) only [↓PR,QR,simprocAttr,dk,hA.c1 ED,(cells_of_heap (ED.obj o14)).1,hw]
    refine ⟨⟨k+1,rfl,by omega,ED,?_⟩,meas_lt (kd := .i64) hlt⟩
    rw [take_snoc hy,List.any_append,hf]
    simp
 · obtain rfl:k=ml.length:=by omega
   have d1:decide ((ml.length:Int) < (ml.length:Int))=false:=decide_eq_false (by omega)
   have hf:((ml.take ml.length).any fun y=>decide (y=x.message))=true:=by
    rw [List.take_length,List.any_eq_true]
    exact ⟨_,hx,by simp⟩
   rw [hf]
   have hw:IntKind.i64.wrap ((n:Int)+1)=((n+1:Nat):Int):=by rw [wrap_ok (by omega) (by omega)];omega
   cases f with
   | true =>
    simp (disch:=try exact DI) only [↓PR,QR,simprocAttr,d1,↓n7c8,↓n7c7,hw]
    exact hk w1 e
   | false =>
    simp (disch:=try exact DI) only [↓PR,QR,simprocAttr,d1,↓n7c8,↓n7c7]
    exact hk w1 e
theorem st_fresh (h3:w.heap[p3]?=some (.cells (rolCells r sv cv tv).toArray TRol (0,0))) (hT:StpsOf w tv r.steps) (i:Nat) (hi:i≤r.steps.length) (hl:r.steps.length≤100000) (hM:SliceOf w 1 EStr mv ml) (hx:x.message∈ml) (o14:w.heap[p14]?=some (.cells (stpCells x).toArray 71 (0,0))) (n:Nat) (hn:n≤100000) (hk:∀ w',Ext w w'→K4 (.int .i64 ((if freshB (r.steps.take i) x.message then n+1 else n:Nat):Int)) w') :
 loop2 (fun t15 t17 w next7=>n7c10 (.pointer (some ⟨p3,0,none⟩)) t6 (.int .i64 (n:Int)) (.int .i64 (i:Int)) (.pointer (some ⟨p14,0,none⟩)) t15 t17 mv K4 next7 ds R w) (.bool true) (.int .i64 0) w:=by
 obtain ⟨A,c,rfl,_,_,hlm,hel⟩:=SliceOf.open hT
 refine loop2_intro (fun a b w'=>∃ k:Nat,b = .int .i64 k∧k≤i∧Ext w w'∧a = .bool (freshB (r.steps.take k) x.message)) (fun _ b _=>i - (intOf b).toNat) ⟨0,rfl,by omega,Ext.refl _,rfl⟩ ?_
 rintro _ _ w1 ⟨k,rfl,hkl,e,rfl⟩
 unfold n7c10
 by_cases hlt:k < i
 · obtain ⟨y,hy⟩:=getElem?_lt (show k < r.steps.length by omega)
   obtain ⟨b,o,cs,rfl,_,hA,rfl⟩:=hel k y hy
   have dk:(k:Int) < (r.steps.length:Int):=by omega
   have d1:decide ((k:Int) < (i:Int))=true:=decide_eq_true (by omega)
   have hw:IntKind.i64.wrap ((k:Int)+1)=((k+1:Nat):Int):=by rw [wrap_ok (by omega) (by omega)];omega
   have hfr:freshB (r.steps.take (k+1)) x.message=(freshB (r.steps.take k) x.message&&!(speaksB y.kind&&decide (y.message=x.message))):=by
    unfold freshB
    rw [take_snoc hy,List.any_append,Bool.not_or]
    simp
   simp (disch:=try exact DI) only [↓PR,QR,simprocAttr,d1]
   refine drawK_intro ?_
   have eD:Ext w1 (Sw.drew w1):=(Ext.refl w1).drew
   generalize Sw.drew w1=D at eD ⊢
   have ED:=e.trans eD
   have c3:=(cells_of_heap (ED.obj h3)).1
   have c14:=(cells_of_heap (ED.obj o14)).1
   have fin:∀ q:Bool,q=freshB (r.steps.take (k+1)) x.message→(∃ k':Nat,(Value.int .i64 ((k+1:Nat):Int)) = .int .i64 k'∧k'≤i∧Ext w D∧Value.bool q = .bool (freshB (r.steps.take k') x.message))∧i - (intOf (.int .i64 ((k+1:Nat):Int))).toNat < i - (intOf (.int .i64 (k:Int))).toNat:=fun q hq=>⟨⟨k+1,rfl,by omega,ED,by rw [hq]⟩,meas_lt (kd := .i64) hlt⟩
   unfold n7c5
   cases hf:freshB (r.steps.take k) x.message with
   | false =>
    rw [hf] at hfr
    simp (disch:=try exact DI) only [↓PR,QR,simprocAttr,↓n7c4,↓n7c3,↓n7c2,↓n7c1,hw]
    exact fin _ (by rw [hfr];rfl)
   | true =>
    rw [hf] at hfr
    cases h1:(y.kind == 1) with
    | true =>
     have hs:speaksB y.kind=true:=by
      have:y.kind=1:=by simpa using h1
      rw [this];rfl
     rw [hs] at hfr
     simp (disch:=try exact DI) only [↓PR,QR,simprocAttr,c3,dk,hA.c9 ED,h1,↓n7c4,↓n7c3,↓n7c2,c14,↓n7c1,hw]
     exact fin _ (by rw [hfr];simp)
    | false =>
     cases h2:(y.kind == 2) with
     | true =>
      have hs:speaksB y.kind=true:=by
       have:y.kind=2:=by simpa using h2
       rw [this];rfl
      rw [hs] at hfr
      simp (disch:=try exact DI) only [↓PR,QR,simprocAttr,c3,dk,hA.c9 ED,h1,h2,↓n7c4,↓n7c3,↓n7c2,c14,↓n7c1,hw]
      exact fin _ (by rw [hfr];simp)
     | false =>
      have hs:speaksB y.kind=false:=by
       have h1:¬ y.kind=1:=by simpa using h1
       have h2:¬ y.kind=2:=by simpa using h2
       unfold speaksB
       simp [h1,h2]
      rw [hs] at hfr
      simp (disch:=try exact DI) only [↓PR,QR,simprocAttr,c3,dk,hA.c9 ED,h1,h2,↓n7c4,↓n7c3,↓n7c2,c14,↓n7c1,hw]
      exact fin _ (by rw [hfr];simp)
 · obtain rfl:k=i:=by omega
   have d1:decide ((k:Int) < (k:Int))=false:=decide_eq_false (by omega)
   simp (disch:=try exact DI) only [↓PR,QR,simprocAttr,d1]
   exact st_found (hM.ext keptStr e) hx (e.obj o14) n _ hn fun w' e'=>hk w' (e.trans e')
end
abbrev encN (n:Nat):List Value:=[.int .i64 (n:Int)]
abbrev OwnN (w:World) (base:Nat) (v:Value) (l:List Nat):Prop:=OwnE w base 3 1 encN v l
theorem append_nat {w:World} {QP:List PanicEntry→World→Prop} {k:Value→World→Prop} {base:Nat} {v:Value} {l:List Nat} (n:Nat) {b:Nat} (hown:OwnN w base v l) (hc:w.cell? ⟨b,0,none⟩=some (.int .i64 (n:Int))) (hbase:base≤w.heap.size) (hl:l.length≤1048576)
 (hk:∀ v' w',OwnN w' base v' (l++[n])→w.grownBy w' v.ownBlock→k v' w') :
 opV Pg (Builtin.append_ #[78,78] 78 #[v,.slice (some ⟨b,0,none⟩) 1 1]) QP w k:=by
 have hby:=by3
 refine op_appendE (l':=[n]) Tryz.underlying78 ty3 rfl (by decide) (fun _=>rfl) (fun x _ u hu=>by simp at hu;subst hu;rfl) hown (fun j x hx=>?_) hbase ?_ (by simp;omega) hk
 · cases j with
   | zero =>
    simp only [List.getElem?_cons_zero,Option.some.injEq] at hx
    subst hx
    intro j v hv
    cases j with
    | zero=>injection hv with hv;subst hv;simpa using hc
    | succ j=>cases hv
   | succ j=>cases hx
 · simp only [List.length_cons,List.length_nil]
   have:l.length+1≤2000000:=by omega
   exact Nat.le_trans (Nat.mul_le_mul this hby) (by decide)
section
variable {w:World} {p3 p14 p11:Nat} {r:RolD} {x:StpD} {s:ByteArray} {sv cv tv mv t6:Value} {ml:List ByteArray} {K4:Value→World→Prop} {ds:List Deferred} {R:RT}
theorem st_kind (h3:w.heap[p3]?=some (.cells (rolCells r sv cv tv).toArray TRol (0,0))) (hT:StpsOf w tv r.steps) {i:Nat} (hi:r.steps[i]?=some x) (hl:r.steps.length≤100000) (hM:SliceOf w 1 EStr mv ml) (hx:speaksB x.kind=true→x.message∈ml) (o14:w.heap[p14]?=some (.cells (stpCells x).toArray 71 (0,0))) (hn:(msgsL (r.steps.take i)).length≤100000) (hk:∀ w',Ext w w'→K4 (.int .i64 ((msgsL (r.steps.take (i+1))).length:Int)) w') :
 n7c12 (.pointer (some ⟨p3,0,none⟩)) t6 (.int .i64 ((msgsL (r.steps.take i)).length:Int)) (.int .i64 (i:Int)) (.pointer (some ⟨p14,0,none⟩)) mv K4 ds R w:=by
 have hlt:=(List.getElem?_eq_some_iff.1 hi).1
 rw [take_snoc hi,msgs_snoc] at hk
 have c14:=(cells_of_heap o14).1
 unfold n7c12
 by_cases h1:x.kind=1
 · have d1:(x.kind != 1)=false:=by simp [h1]
   have hs:speaksB x.kind=true:=by rw [h1];rfl
   rw [hs] at hk
   simp (disch:=try exact DI) only [↓PR,QR,simprocAttr,c14,d1,↓n7c11]
   exact st_fresh h3 hT i (by omega) hl hM (hx hs) o14 _ hn hk
 · have d1:(x.kind != 1)=true:=by simp [h1]
   by_cases h2:x.kind=2
   · have d2:(x.kind != 2)=false:=by simp [h2]
     have hs:speaksB x.kind=true:=by rw [h2];rfl
     rw [hs] at hk
     simp (disch:=try exact DI) only [↓PR,QR,simprocAttr,c14,d1,d2,↓n7c11]
     exact st_fresh h3 hT i (by omega) hl hM (hx hs) o14 _ hn hk
   · have d2:(x.kind != 2)=true:=by simp [h2]
     have hs:speaksB x.kind=false:=by unfold speaksB;simp [h1,h2]
     rw [hs] at hk
     simp (disch:=try exact DI) only [↓PR,QR,simprocAttr,c14,d1,d2,↓n7c11]
     exact hk w (Ext.refl w)
def wantN (s:ByteArray) (l:List StpD):List Nat:=(wantF s 0 l).map (·.1)
theorem wantN_snoc (s:ByteArray) (x:StpD) (l:List StpD):wantN s (l++[x])=wantN s l++if x.fr=s then [l.length] else []:=by
 unfold wantN
 rw [wantF_snoc,List.map_append]
 split
 · simp
 · rfl
theorem wantF_len (s:ByteArray):∀ (l:List StpD) (n:Nat),(wantF s n l).length≤l.length
 | [],n=>Nat.le_refl _
 | x::l,n=>by
  have:=wantF_len s l (n+1)
  unfold wantF
  split
  · simp only [List.length_cons];omega
  · simp only [List.length_cons];omega
theorem msgs_len (l:List StpD):(msgsL l).length≤l.length:=by
 have:∀ (l:List StpD) (acc:List ByteArray),(l.foldl mStep acc).length≤acc.length+l.length:=by
  intro l
  induction l with
  | nil=>exact fun acc=>Nat.le_refl _
  | cons x l ih =>
   intro acc
   rw [List.foldl_cons,List.length_cons]
   have h1:=ih (mStep acc x)
   have h2:=mStep_len acc x
   omega
 have h:=this l []
 simpa [msgsL] using h
theorem st_loop {W0:World} {t5 t38:Value} (h3:W0.heap[p3]?=some (.cells (rolCells r sv cv tv).toArray TRol (0,0))) (hT:StpsOf W0 tv r.steps) (hl:r.steps.length≤100000) (hM:SliceOf W0 1 EStr mv ml) (hx:∀ x∈r.steps,speaksB x.kind=true→x.message∈ml) (h11:W0.heap.size≤p11) (e0:Ext W0 w) (ho:w.heap[p11]?=some (.cells #[.slice none 0 0] 78 (0,0)))
 (hk:∀ w' v,Ext W0 w'→w'.heap[p11]?=some (.cells #[v] 78 (0,0))→SliceOf w' 1 (fun _ cs (n:Nat)=>cs=encN n) v (wantN s r.steps)→n7c39 (.pointer (some ⟨p3,0,none⟩)) t5 t6 (.pointer (some ⟨p11,0,none⟩)) (.int .i64 ((msgsL r.steps).length:Int)) mv t38 ds R w') :
 loop2 (fun t12 t13 w next3=>n7c41 (.string s) (.pointer (some ⟨p3,0,none⟩)) t5 t6 (.pointer (some ⟨p11,0,none⟩)) t12 t13 mv t38 next3 ds R w) (.int .i64 0) (.int .i64 0) w:=by
 have hT0:=hT
 obtain ⟨A,c,rfl,_,_,hlm,hel⟩:=SliceOf.open hT
 have hp11:p11 < w.heap.size:=(Array.getElem?_eq_some_iff.1 ho).1
 refine loop2_intro (fun a b w'=>∃ (k:Nat) (v:Value),b = .int .i64 k∧k≤r.steps.length∧a = .int .i64 ((msgsL (r.steps.take k)).length:Int)∧Ext W0 w'∧w'.heap[p11]?=some (.cells #[v] 78 (0,0))∧OwnN w' (p11+1) v (wantN s (r.steps.take k))∧p11 < w'.heap.size) (fun _ b _=>r.steps.length - (intOf b).toNat) ⟨0,_,rfl,by omega,rfl,e0,ho,OwnE.nil _ _ _ _ _,hp11⟩ ?_
 clear ho hp11 e0
 rintro _ _ w ⟨k,v,rfl,hkn,rfl,e,ho,hO,hp11⟩
 have h3w:=e.obj h3
 unfold n7c41
 by_cases hlt:k < r.steps.length
 · obtain ⟨x,hxk⟩:=getElem?_lt hlt
   obtain ⟨b,o,cs,rfl,_,hA,rfl⟩:=hel k x hxk
   have dk:(k:Int) < (r.steps.length:Int):=by omega
   have d1:decide ((k:Int) < (r.steps.length:Int))=true:=decide_eq_true dk
   have hw:IntKind.i64.wrap ((k:Int)+1)=((k+1:Nat):Int):=by rw [wrap_ok (by omega) (by omega)];omega
   have hwl:=wantF_len s (r.steps.take k) 0
   have hml:=msgs_len (r.steps.take k)
   have htk:(r.steps.take k).length=k:=by rw [List.length_take];omega
   have hwn:wantN s (r.steps.take (k+1))=wantN s (r.steps.take k)++if x.fr=s then [k] else []:=by rw [take_snoc hxk,wantN_snoc,htk]
   have hov:v.oneCell'=true:=own_one hO fun _=>rfl
   have eY:Ext w (w.alloc (.cells (stpCells x).toArray 71)):=ee
   have o14:=heap_new w (stpCells x).toArray 71
   have sY:(w.alloc (.cells (stpCells x).toArray 71)).heap.size=w.heap.size+1:=World.size_alloc ..
   have tail:∀ (w1:World) (K:Value→World→Prop),Ext W0 w1→w1.heap[w.heap.size]?=some (.cells (stpCells x).toArray 71 (0,0))→(∀ w2,Ext w1 w2→K (.int .i64 ((msgsL (r.steps.take (k+1))).length:Int)) w2) →
    n7c12 (.pointer (some ⟨p3,0,none⟩)) t6 (.int .i64 ((msgsL (r.steps.take k)).length:Int)) (.int .i64 (k:Int)) (.pointer (some ⟨w.heap.size,0,none⟩)) mv K ds R w1 :=
    fun w1 K e1 h14 hn=>st_kind (e1.obj h3) (hT0.ext e1) hxk hl (hM.ext keptStr e1) (hx x (List.mem_of_getElem? hxk)) h14 (by omega) hn
   cases hp:decide (x.fr=s) with
   | false =>
    rw [if_neg (of_decide_eq_false hp),List.append_nil] at hwn
    simp (disch:=try exact DI) only [↓PR,QR,simprocAttr,(cells_of_heap h3w).1,d1,dk,↓n7c40,hA.c9 e,hp,hw]
    refine tail _ _ (e.trans eY) o14 fun w2 e2=>?_
    exact ⟨⟨k+1,v,rfl,by omega,rfl,(e.trans eY).trans e2,(eY.trans e2).obj ho,by rw [hwn];exact OwnE.ext hO (eY.trans e2),by have h:=(eY.trans e2).size;omega⟩,meas_lt (kd := .i64) hlt⟩
   | true =>
    rw [if_pos (of_decide_eq_true hp)] at hwn
    have hoY:=eY.obj ho
    simp (disch:=try exact DI) only [↓PR,QR,simprocAttr,(cells_of_heap h3w).1,d1,dk,↓n7c40,hA.c9 e,hp,hw,↓n7c13,(cells_of_heap hoY).1]
    change opV _ _ _ (World.alloc (w.alloc (.cells (stpCells x).toArray 71)) _) _
    generalize (w.alloc (.cells (stpCells x).toArray 71))=Y at eY o14 sY hoY ⊢
    generalize hX:World.alloc Y _=X
    have eX:Ext Y X:=by rw [← hX];exact (Ext.refl Y).alloc _
    have sX:X.heap.size=Y.heap.size+1:=by rw [← hX];exact World.size_alloc ..
    have oX:X.cell? ⟨Y.heap.size,0,none⟩=some (.int .i64 (k:Int)):=by rw [← hX,(cells_of_heap (heap_new _ _ _)).1];rfl
    clear hX
    rw [← sY]
    have ewX:=eY.trans eX
    refine append_nat k (OwnE.ext hO ewX) oX (by omega) (by unfold wantN;rw [List.length_map];omega) ?_
    intro v' w4 hO' hg
    have hlo:=World.ownsRow.lt hO
    have hlo':=World.ownsRow.lt hO'
    have sg:=hg.size
    have ho4:w4.heap[p11]?=some (.cells #[v] 78 (0,0)):=(hg.block p11 (by omega) fun e=>by have:=(hlo p11 e.symm).1;omega).trans (ewX.obj ho)
    have e4:Ext W0 w4:=(e.trans ewX).grown hg fun b hb=>by have:=(hlo b hb).1;omega
    have h14:w4.heap[w.heap.size]?=some (.cells (stpCells x).toArray 71 (0,0)):=(hg.block w.heap.size (by omega) fun e=>by have:=(hlo _ e.symm).2;omega).trans (eX.obj o14)
    have hov':v'.oneCell'=true:=own_one hO' fun _=>rfl
    simp (disch:=try exact DI) only [↓PR,QR,simprocAttr,(cells_of_heap ho4).1,(cells_of_heap ho4).2]
    refine tail _ _ (e4.setCell (p:=⟨p11,0,none⟩) h11 _) ((Only.setCell w4 p11 0 _ _ (by omega)).trans h14) fun w2 e2=>?_
    have hO5:OwnN (w4.setCell ⟨p11,0,none⟩ v') (p11+1) v' (wantN s (r.steps.take k)++[k]):=OwnE.keep hO' fun b hb=>Only.setCell w4 p11 0 _ b (by have:=(hlo' b hb).1;omega)
    have s5:(w4.setCell ⟨p11,0,none⟩ v').heap.size=w4.heap.size:=World.size_setCell ..
    exact ⟨⟨k+1,v',rfl,by omega,rfl,(e4.setCell (p:=⟨p11,0,none⟩) h11 _).trans e2,e2.obj (heap_set ho4 v'),by rw [hwn];exact OwnE.ext hO5 e2,by have:=e2.size;omega⟩,meas_lt (kd := .i64) hlt⟩
 · obtain rfl:k=r.steps.length:=by omega
   have d1:decide ((r.steps.length:Int) < (r.steps.length:Int))=false:=decide_eq_false (by omega)
   rw [List.take_length] at hO ⊢
   simp (disch:=try exact DI) only [↓PR,QR,simprocAttr,(cells_of_heap h3w).1,d1]
   exact hk w v e ho (OwnE.slice hO (fun _=>rfl) (fun _ _=>rfl))
end
theorem q_sgeq {C:World→Prop} [ClassNe C] {k:Value→Prop} (t:TypeId) (c:Bool) (a b:ByteArray):qV Pg C (binS .geq t c (.string a) (.string b)) k=k (.bool (!decide (a.data.toList < b.data.toList))):=qV_of fun QP w kk=>op_sgeq t c a b
theorem st_sorted {w:World} {l:List StpD} {mv t3 t5 t6 t11 t38:Value} {ds:List Deferred} {R:RT} (hM:SliceOf w 1 EStr mv (sortB (msgsL l))) (hl:l.length≤100000) (hk:∀ w',Ext w w'→n7c37 t3 t5 t6 t11 t38 ds R w') :
 n7c39 t3 t5 t6 t11 (.int .i64 ((msgsL l).length:Int)) mv t38 ds R w:=by
 have hnd:=msgs_nodup l
 have hlen:=sortB_len (msgsL l)
 have hml:=msgs_len l
 have hnext:=fun k a b=>sortB_next (k:=k) (a:=a) (b:=b) hnd
 generalize sortB (msgsL l)=L at hM hlen hnext
 rw [← hlen] at hml ⊢
 clear hlen hnd
 obtain ⟨A,c,rfl,_,_,hlm,hel⟩:=SliceOf.open hM
 have dn:((L.length:Int) != (L.length:Int))=false:=by simp
 unfold n7c39
 simp (disch:=try exact DI) only [↓PR,QR,simprocAttr,dn]
 refine loop1_intro (fun a w'=>∃ k:Nat,a = .int .i64 k∧1≤k∧k≤L.length+1∧Ext w w') (fun a _=>L.length - (intOf a).toNat) ⟨1,rfl,by omega,by omega,Ext.refl _⟩ ?_
 rintro _ w1 ⟨k,rfl,h1,hkl,e⟩
 unfold n7c38
 by_cases hlt:k < L.length
 · obtain ⟨y,hy⟩:=getElem?_lt hlt
   obtain ⟨x,hx⟩:=getElem?_lt (show k - 1 < L.length by omega)
   obtain ⟨b,o,cs,rfl,_,hA,rfl⟩:=hel k y hy
   obtain ⟨b',o',cs,hbo,_,hB,rfl⟩:=hel (k - 1) x hx
   injection hbo with hbo
   injection hbo with e1 e2
   subst e1 e2
   have hxy:=hnext (k - 1) x y hx (by rw [show k - 1+1=k by omega];exact hy)
   have dk:(k:Int) < (L.length:Int):=by omega
   have dk':((k - 1:Nat):Int) < (L.length:Int):=by omega
   have d1:decide ((k:Int) < (L.length:Int))=true:=decide_eq_true dk
   have hw:IntKind.i64.wrap ((k:Int)+1)=((k+1:Nat):Int):=by rw [wrap_ok (by omega) (by omega)];omega
   have hw':IntKind.i64.wrap ((k:Int) - 1)=((k - 1:Nat):Int):=by rw [wrap_ok (by omega) (by omega)];omega
   simp (disch:=try exact DI) only [↓PR,QR,simprocAttr,d1]
   refine drawK_intro ?_
   have eD:Ext w1 (Sw.drew w1):=(Ext.refl w1).drew
   generalize Sw.drew w1=D at eD ⊢
   have ED:=e.trans eD
   have d2:decide (x.data.toList < y.data.toList)=true:=decide_eq_true hxy
   unfold n7c14
   simp (disch:=try exact DI) only [↓PR,QR,simprocAttr,hw',dk,dk',hA.c1 ED,hB.c1 ED,q_sgeq,d2,Bool.not_true,hw]
   exact ⟨⟨k+1,rfl,by omega,by omega,ED⟩,by simp only [intOf,Int.toNat_natCast];omega⟩
 · have d1:decide ((k:Int) < (L.length:Int))=false:=decide_eq_false (by omega)
   simp (disch:=try exact DI) only [↓PR,QR,simprocAttr,d1]
   exact hk w1 e
section
variable {R:RT}
theorem st_after1 {w2:World} {p5 p6 p11 p20 p21:Nat} {many:Int} {t k n:Nat} {A:Option Addr} {cc:Nat} {ds:List Deferred} {next1:List Deferred→Value→World→Prop} (x5:w2.heap[p5]?=some (.cells #[.int .i64 many] 3 (0,0))) (x11:w2.heap[p11]?=some (.cells #[.slice A n cc] 78 (0,0))) (y20:w2.heap[p20]?=some (.cells #[.int .i64 (t:Int)] 3 (0,0))) (y21:w2.heap[p21]?=some (.cells #[.int .i64 (k:Int)] 3 (0,0)))
 (ht:t < 2) (h0:t=0→(k:Int)=min (n:Int) (max 1 many)) (h1:t=1→k=n) (hn:∀ w',w2.heap.size < w'.heap.size→w'.heap[w2.heap.size]?=some (.cells #[.int .i64 ((t+1:Nat):Int)] 3 (0,0))→Ext w2 w'→next1 ds (.pointer (some ⟨w2.heap.size,0,none⟩)) w') :
 n7c26 (.pointer (some ⟨p5,0,none⟩)) (.pointer (some ⟨p6,0,none⟩)) (.pointer (some ⟨p11,0,none⟩)) (.pointer (some ⟨p20,0,none⟩)) (.pointer (some ⟨p21,0,none⟩)) next1 ds R w2:=by
 have fin:n7c20 (.pointer (some ⟨p6,0,none⟩)) (.pointer (some ⟨p20,0,none⟩)) next1 ds R w2:=by
  unfold n7c20
  simp (disch:=try exact DI) only [↓PR,QR,simprocAttr,(cells_of_heap y20).1]
  exact hn _ (by simp only [World.size_alloc];omega) (by simpa using heap_new w2 #[.int .i64 ((t+1:Nat):Int)] 3) ee
 unfold n7c26
 have hcase:t=0∨t=1:=by omega
 rcases hcase with rfl | rfl
 · have hm:(if (if many > 1 then many else 1) < (n:Int) then (if many > 1 then many else 1) else (n:Int))=(k:Int):=by
    rw [h0 rfl]
    split<;>split<;>omega
   have d0:((((0:Nat):Int)) == 0)=true:=rfl
   have d1:((((0:Nat):Int)) == 1)=false:=rfl
   have dk:((k:Int) != (k:Int))=false:=by simp
   simp (disch:=try exact DI) only [↓PR,QR,simprocAttr,(cells_of_heap y20).1,d0,↓n7c25,(cells_of_heap y21).1,(cells_of_heap x11).1,(cells_of_heap x5).1,hm,dk,d1,↓n7c24,↓n7c23,↓n7c22,↓n7c21]
   exact fin
 · have d0:((((1:Nat):Int)) == 0)=false:=rfl
   have d1:((((1:Nat):Int)) == 1)=true:=rfl
   have dk:((k:Int) != (n:Int))=false:=by rw [h1 rfl];simp
   simp (disch:=try exact DI) only [↓PR,QR,simprocAttr,(cells_of_heap y20).1,d0,d1,(cells_of_heap y21).1,(cells_of_heap x11).1,dk,↓n7c24,↓n7c23,↓n7c22,↓n7c21]
   exact fin
theorem st_after2 {w2:World} {p5 p6 p11 p20 p21:Nat} {many:Int} {t k n:Nat} {A:Option Addr} {cc:Nat} {ds:List Deferred} {next1:List Deferred→Value→World→Prop} (x5:w2.heap[p5]?=some (.cells #[.int .i64 many] 3 (0,0))) (x11:w2.heap[p11]?=some (.cells #[.slice A n cc] 78 (0,0))) (y20:w2.heap[p20]?=some (.cells #[.int .i64 (t:Int)] 3 (0,0))) (y21:w2.heap[p21]?=some (.cells #[.int .i64 (k:Int)] 3 (0,0)))
 (ht:t < 2) (h0:t=0→(k:Int)=min (n:Int) (max 1 many)) (h1:t=1→k=n) (hn:∀ w',w2.heap.size < w'.heap.size→w'.heap[w2.heap.size]?=some (.cells #[.int .i64 ((t+1:Nat):Int)] 3 (0,0))→Ext w2 w'→next1 ds (.pointer (some ⟨w2.heap.size,0,none⟩)) w') :
 n7c33 (.pointer (some ⟨p5,0,none⟩)) (.pointer (some ⟨p6,0,none⟩)) (.pointer (some ⟨p11,0,none⟩)) (.pointer (some ⟨p20,0,none⟩)) (.pointer (some ⟨p21,0,none⟩)) next1 ds R w2:=by
 have fin:n7c27 (.pointer (some ⟨p6,0,none⟩)) (.pointer (some ⟨p20,0,none⟩)) next1 ds R w2:=by
  unfold n7c27
  simp (disch:=try exact DI) only [↓PR,QR,simprocAttr,(cells_of_heap y20).1]
  exact hn _ (by simp only [World.size_alloc];omega) (by simpa using heap_new w2 #[.int .i64 ((t+1:Nat):Int)] 3) ee
 unfold n7c33
 have hcase:t=0∨t=1:=by omega
 rcases hcase with rfl | rfl
 · have hm:(if (if many > 1 then many else 1) < (n:Int) then (if many > 1 then many else 1) else (n:Int))=(k:Int):=by
    rw [h0 rfl]
    split<;>split<;>omega
   have d0:((((0:Nat):Int)) == 0)=true:=rfl
   have d1:((((0:Nat):Int)) == 1)=false:=rfl
   have dk:((k:Int) != (k:Int))=false:=by simp
   simp (disch:=try exact DI) only [↓PR,QR,simprocAttr,(cells_of_heap y20).1,d0,↓n7c32,(cells_of_heap y21).1,(cells_of_heap x11).1,(cells_of_heap x5).1,hm,dk,d1,↓n7c31,↓n7c30,↓n7c29,↓n7c28]
   exact fin
 · have d0:((((1:Nat):Int)) == 0)=false:=rfl
   have d1:((((1:Nat):Int)) == 1)=true:=rfl
   have dk:((k:Int) != (n:Int))=false:=by rw [h1 rfl];simp
   simp (disch:=try exact DI) only [↓PR,QR,simprocAttr,(cells_of_heap y20).1,d0,d1,(cells_of_heap y21).1,(cells_of_heap x11).1,dk,↓n7c31,↓n7c30,↓n7c29,↓n7c28]
   exact fin
end
end Go.Proofs.YtngflmjncplkaaaGreatDoor
