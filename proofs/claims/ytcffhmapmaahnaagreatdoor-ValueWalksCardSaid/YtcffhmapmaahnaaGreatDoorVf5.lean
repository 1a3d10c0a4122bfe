/-
  Lemmas for the claim.
-/
import Derived.Test.YtcffhmapmaahnaaGreatDoorVf4
set_option linter.all false
set_option maxHeartbeats 4000000
set_option maxRecDepth 100000
namespace Go.Proofs.YtcffhmapmaahnaaGreatDoor
open Sw
open Go.RowKit (intOf Below)
def neB (c:UInt8) (x:UInt8):Bool:=decide (x≠c)
theorem index_one (c:UInt8):∀ l:List UInt8,Go.Lib.index l [c]=if l.all (neB c)=true then -1 else ((l.takeWhile (neB c)).length:Int)
 | []=>by
  show (if ([c]:List UInt8).isPrefixOf [] then (0:Int) else -1)=_
  rfl
 | b::l=>by
  have hp:([c]:List UInt8).isPrefixOf (b::l)=!neB c b:=by
   unfold neB
   simp [List.isPrefixOf]
   rw [Bool.eq_iff_iff]
   simp only [beq_iff_eq,decide_eq_true_eq]
   exact eq_comm
  show (if ([c]:List UInt8).isPrefixOf (b::l) then (0:Int) else if Go.Lib.index l [c] == -1 then -1 else Go.Lib.index l [c]+1)=_
  rw [hp,index_one c l,List.all_cons,List.takeWhile_cons]
  cases neB c b with
  | false=>rfl
  | true =>
   simp only [Bool.not_true,Bool.false_eq_true,if_false,Bool.true_and,if_true,List.length_cons]
   by_cases h:l.all (neB c)=true
   · rw [if_pos h,if_pos h];rfl
   · rw [if_neg h,if_neg h]
     have:(((l.takeWhile (neB c)).length:Int) == -1)=false:=by
      rw [beq_eq_false_iff_ne]
      omega
     rw [this]
     simp
theorem indexByte_one (c:UInt8):∀ l:List UInt8,Go.Lib.indexByte l c=if l.all (neB c)=true then -1 else ((l.takeWhile (neB c)).length:Int)
 | []=>rfl
 | b::l=>by
  have hp:(b == c)=!neB c b:=by
   unfold neB
   by_cases h:b=c<;>simp [h]
  show (if b == c then (0:Int) else if Go.Lib.indexByte l c == -1 then -1 else Go.Lib.indexByte l c+1)=_
  rw [hp,indexByte_one c l,List.all_cons,List.takeWhile_cons]
  cases neB c b with
  | false=>rfl
  | true =>
   simp only [Bool.not_true,Bool.false_eq_true,if_false,Bool.true_and,if_true,List.length_cons]
   by_cases h:l.all (neB c)=true
   · rw [if_pos h,if_pos h];rfl
   · rw [if_neg h,if_neg h]
     have:(((l.takeWhile (neB c)).length:Int) == -1)=false:=by
      rw [beq_eq_false_iff_ne]
      omega
     rw [this]
     simp
theorem tw_take (p:UInt8→Bool) (l:List UInt8):l.take (l.takeWhile p).length=l.takeWhile p:=by
 conv=>lhs;arg 2;rw [← List.takeWhile_append_dropWhile (p:=p) (l:=l)]
 rw [List.take_left]
theorem dw_drop (p:UInt8→Bool) (l:List UInt8):l.drop ((l.takeWhile p).length+1)=(l.dropWhile p).tail:=by
 rw [← List.drop_drop]
 conv=>lhs;arg 2;arg 2;rw [← List.takeWhile_append_dropWhile (p:=p) (l:=l)]
 rw [List.drop_left]
 cases l.dropWhile p<;>rfl
theorem cut_one (c:UInt8) (l:List UInt8):Go.Lib.cut l [c]=if l.all (neB c)=true then (l,[],false) else (l.takeWhile (neB c),(l.dropWhile (neB c)).tail,true):=by
 unfold Go.Lib.cut
 rw [index_one c l]
 by_cases h:l.all (neB c)=true
 · rw [if_pos h,if_pos h,if_neg (by omega)]
 · rw [if_neg h,if_neg h,if_pos (by omega),Int.toNat_natCast,tw_take]
   exact congrArg (fun x=>(l.takeWhile (neB c),x,true)) (dw_drop (neB c) l)
theorem drewN_ext' (w:World) (n:Nat):Ext w (w.drewN n):=⟨rfl,rfl,rfl,Nat.le_refl _,fun _ _=>rfl⟩
theorem CutOne_ret {w:World} (hE:EnvOK w) (c:UInt8) (l:List UInt8) (hl:l.length≤100000000):Ret Pg 107 #[.string (mkB l),.string ⟨#[c]⟩] w fun r w'=>r=(if l.all (neB c)=true then .tuple #[.string (mkB l),.string (mkB []),.bool false] else .tuple #[.string (mkB (l.takeWhile (neB c))),.string (mkB (l.dropWhile (neB c)).tail),.bool true])∧Ext w w':=by
 obtain ⟨m,hm⟩:=hE.len
 refine Calls.mono (sh_strings_Cut (mkB l) ⟨#[c]⟩ m w (by rw [mkB_size];omega) hm) ?_
 rintro e w' ⟨rfl,n,rfl⟩
 refine ⟨_,rfl,?_,drewN_ext' w n⟩
 rw [mkB_data,show (⟨#[c]⟩:ByteArray).data.toList=[c] from rfl,cut_one]
 split<;>rfl
def splitB (c:UInt8):List UInt8→List (List UInt8)
 | []=>[[]]
 | x::l=>if x=c then []::splitB c l else match splitB c l with
  | []=>[[x]]
  | p::ps=>(x::p)::ps
theorem splitB_eq (c:UInt8):∀ l:List UInt8,splitB c l=if l.all (neB c)=true then [l] else l.takeWhile (neB c)::splitB c (l.dropWhile (neB c)).tail
 | []=>rfl
 | x::l=>by
  have ih:=splitB_eq c l
  rw [splitB,List.all_cons,List.takeWhile_cons,List.dropWhile_cons]
  by_cases h:x=c
  · have:neB c x=false:=by simp [neB,h]
    rw [if_pos h,this]
    simp
  · have hn:neB c x=true:=by simp [neB,h]
    rw [if_neg h,hn]
    simp only [Bool.true_and,if_true]
    rw [ih]
    by_cases ha:l.all (neB c)=true
    · rw [if_pos ha,if_pos ha]
    · rw [if_neg ha,if_neg ha]
theorem splitB_len (c:UInt8):∀ l:List UInt8,(splitB c l).length≤l.length+1
 | []=>by simp [splitB]
 | x::l=>by
  have ih:=splitB_len c l
  unfold splitB
  split
  · simp only [List.length_cons];omega
  · split
    · simp
    · rename_i h
      rw [h] at ih
      simp only [List.length_cons] at ih ⊢
      omega
theorem splitB_mem (c:UInt8):∀ (l p:List UInt8),p∈splitB c l→p.length≤l.length
 | [],p,h=>by simp [splitB] at h;simp [h]
 | x::l,p,h=>by
  unfold splitB at h
  split at h
  · rcases List.mem_cons.1 h with rfl | h
    · simp
    · have:=splitB_mem c l p h;simp only [List.length_cons];omega
  · split at h
    · simp at h;simp [h]
    · rename_i q qs hq
      rcases List.mem_cons.1 h with rfl | h
      · have:=splitB_mem c l q (by rw [hq];exact List.mem_cons_self ..)
        simp only [List.length_cons];omega
      · have:=splitB_mem c l p (by rw [hq];exact List.mem_cons_of_mem _ h)
        simp only [List.length_cons];omega
section
variable {P:Program} {QP:List PanicEntry→World→Prop} {k:Value→World→Prop} {w:World}
theorem op_subF {t:TypeId} (hu:P.underlying t=some .string) (s:ByteArray) (b:Nat) (h2:b≤s.size):opV P (Instr.sliceAt t (.string s) none (some (.int .i64 (b:Int))) none) QP w k=k (.string (s.extract 0 b)) w:=by
 have g2:(b:Int)≤(s.size:Int):=by omega
 refine opV_ok ?_
 simp [Instr.sliceAt,run_underlying hu,Instr.slice,Instr.sliceBounds,run_sliceBound,g2]
theorem op_subE {t:TypeId} (hu:P.underlying t=some .string) (s:ByteArray) (a:Nat) (h1:a≤s.size):opV P (Instr.sliceAt t (.string s) (some (.int .i64 (a:Int))) none none) QP w k=k (.string (s.extract a s.size)) w:=by
 have g1:(a:Int)≤(s.size:Int):=by omega
 refine opV_ok ?_
 simp [Instr.sliceAt,run_underlying hu,Instr.slice,Instr.sliceBounds,run_sliceBound,g1]
end
theorem sub_first (l:List UInt8) (b:Nat):(mkB l).extract 0 b=mkB (l.take b):=by rw [sub_mkB,mkB_data,List.drop_zero,Nat.sub_zero]
theorem sub_rest (l:List UInt8) (a:Nat):(mkB l).extract a (mkB l).size=mkB (l.drop a):=by
 rw [sub_mkB,mkB_data,mkB_size,List.take_of_length_le (by rw [List.length_drop];exact Nat.le_refl _)]
def SplAt (q:Nat) (c:UInt8) (s:List UInt8) (w:World):Prop:=w.heap[q]?=some (.cells #[.string (mkB s)] 9 (0,0))∧w.heap[q+1]?=some (.cells #[.string ⟨#[c]⟩] 9 (0,0))∧w.heap[q+2]?=some (.cells #[.int .i64 0] 3 (0,0))
theorem SplitSeq_ret (w0:World) (c:UInt8) (s:List UInt8):Ret Pg 106 #[.string (mkB s),.string ⟨#[c]⟩] w0 fun r w'=>r = .func (.func 136) #[] #[.pointer (some ⟨w0.heap.size+1,0,none⟩),.pointer (some ⟨w0.heap.size,0,none⟩),.pointer (some ⟨w0.heap.size+2,0,none⟩)]∧SplAt w0.heap.size c s w'∧Ext w0 w':=by
 refine n46s (R:=retR _) ?_;unfold n46
 refine callK_ret (Φ:=fun r w'=>r = .func (.func 136) #[] #[.pointer (some ⟨w0.heap.size+1,0,none⟩),.pointer (some ⟨w0.heap.size,0,none⟩),.pointer (some ⟨w0.heap.size+2,0,none⟩)]∧SplAt w0.heap.size c s w'∧Ext w0 w') ?_ ?_
 · refine n48s (R:=retR _) ?_;unfold n48
   rw [op_box,op_box,op_box]
   have o1:=heap_new w0 #[.string (mkB s)] 9
   have e1:Ext w0 (w0.alloc (.cells #[.string (mkB s)] 9)):=ee
   have z1:(w0.alloc (.cells #[.string (mkB s)] 9)).heap.size=w0.heap.size+1:=by simp
   rw [show (Value.string (mkB s)).cells = #[.string (mkB s)] from rfl,show (Value.string ⟨#[c]⟩).cells = #[.string ⟨#[c]⟩] from rfl,show (Value.int .i64 0).cells = #[.int .i64 0] from rfl]
   generalize (w0.alloc (.cells #[.string (mkB s)] 9))=W1 at *
   have o2:=heap_new W1 #[.string ⟨#[c]⟩] 9
   have e2:Ext W1 (W1.alloc (.cells #[.string ⟨#[c]⟩] 9)):=ee
   have z2:(W1.alloc (.cells #[.string ⟨#[c]⟩] 9)).heap.size=W1.heap.size+1:=by simp
   generalize (W1.alloc (.cells #[.string ⟨#[c]⟩] 9))=W2 at *
   have o3:=heap_new W2 #[.int .i64 0] 3
   have e3:Ext W2 (W2.alloc (.cells #[.int .i64 0] 3)):=ee
   generalize (W2.alloc (.cells #[.int .i64 0] 3))=W3 at *
   rw [z1] at o2 z2 ⊢
   rw [z2] at o3 ⊢
   simp (disch:=try exact DI) only [↓PR,QR,simprocAttr]
   exact ⟨by trivial,⟨e3.obj (e2.obj o1),e3.obj o2,o3⟩,e1.trans (e2.trans e3)⟩
 · rintro r w' ⟨rfl,h1,h2⟩
   simp (disch:=try exact DI) only [↓PR,QR,simprocAttr]
   exact ⟨by trivial,h1,h2⟩
def lenM (b:Nat) (w:World):Nat:=match w.heap[b]? with
 | some (.cells cs _ _)=>match cs[0]?.getD (.int .i64 0) with
  | Value.string s=>s.size
  | _=>0
 | _=>0
theorem lenM_eq {b:Nat} {w:World} {s:List UInt8} {T:TypeId} (h:w.heap[b]?=some (.cells #[.string (mkB s)] T (0,0))):lenM b w=s.length:=by
 unfold lenM
 rw [h]
 exact mkB_size s
def SplY (c:UInt8) (s:List UInt8) (k:Nat) (x:Value):Prop:=∃ p,(splitB c s)[k]?=some p∧x = .string (mkB p)
theorem drop_cons_get {α:Type} {l:List α} {k:Nat} {x:α} {r:List α} (h:l.drop k=x::r):l[k]?=some x∧l.drop (k+1)=r∧k < l.length:=by
 have h1:l[k]?=some x:=by
  have:(l.drop k)[0]?=some x:=by rw [h];rfl
  rwa [List.getElem?_drop,Nat.add_zero] at this
 refine ⟨h1,?_,(List.getElem?_eq_some_iff.1 h1).1⟩
 rw [← List.drop_drop,h]
 rfl
theorem splitSeq_seq (q:Nat) (c:UInt8) (s:List UInt8) (hs:s.length≤100000000):SeqIt8 Pg 136 #[.pointer (some ⟨q+1,0,none⟩),.pointer (some ⟨q,0,none⟩),.pointer (some ⟨q+2,0,none⟩)] (splitB c s).length (fun _ k x V _=>SplY c s k x∧V=(· = q)) (· = q) (SplAt q c s) (fun w=>w.heap[q+1]?=some (.cells #[.string ⟨#[c]⟩] 9 (0,0))∧w.heap[q+2]?=some (.cells #[.int .i64 0] 3 (0,0))):=by
 intro yv J Jx Jp w hy hPre hFP hJl hJx hJp hstep h0
 refine n49s (t0:=yv) ?_
 unfold n49
 obtain ⟨p1,p2,p3⟩:=hPre
 have hz1:((⟨#[c]⟩:ByteArray).size:Int)=1:=rfl
 simp (disch:=try exact DI) only [↓PR,QR,simprocAttr,(cells_of_heap p2).1,hz1]
 refine loop0_intro (fun u=>∃ k rem,(splitB c s).drop k=splitB c rem∧rem.length≤s.length∧u.heap[q]?=some (.cells #[.string (mkB rem)] 9 (0,0))∧J k (· = q) u) (lenM q) ⟨0,s,rfl,Nat.le_refl _,p1,h0⟩ ?_
 rintro u ⟨k,rem,hd,hr,oq,hJ⟩
 rw [lenM_eq oq]
 obtain ⟨f1,f2⟩:=hFP k _ u hJ
 unfold n49c7
 simp (disch:=try exact DI) only [↓PR,QR,simprocAttr,(cells_of_heap oq).1,(cells_of_heap f1).1]
 have hI:Ret Pg 138 #[.string (mkB rem),.string ⟨#[c]⟩] u fun r w'=>r = .int .i64 (Go.Lib.indexByte rem c)∧w'=u:=by
  refine Calls.mono (sh_strings_Index_one (mkB rem) c u) ?_
  rintro e w' ⟨rfl,rfl⟩
  rw [mkB_data]
  exact ⟨_,rfl,rfl,rfl⟩
 refine callK_ret hI ?_
 rintro _ w' ⟨rfl,hw⟩
 rw [hw,indexByte_one c rem]
 have hV:∀ b,(fun b=>b=q) b→(fun b=>b=q) b∨w.heap.size≤b:=fun b h => .inl h
 have hF:∀ o,(∀ r,o≠Obj.loop r)→Firm7 (fun b=>b=q) (fun u=>u.heap[q]?=some o):=fun o ho=>Firm7.has rfl ho
 by_cases ha:rem.all (neB c)=true
 · rw [if_pos ha]
   rw [splitB_eq c rem,if_pos ha] at hd
   obtain ⟨g1,g2,g3⟩:=drop_cons_get hd
   have hn:k+1=(splitB c s).length:=by
    have:=List.drop_eq_nil_iff.1 g2
    omega
   unfold n49c6
   simp (disch:=try exact DI) only [↓PR,QR,simprocAttr,(cells_of_heap oq).1]
   refine callV_mono (hstep k g3 (.string (mkB rem)) (fun b=>b=q) u ⟨⟨_,g1,rfl⟩,rfl⟩ hV _ (hF _ (by simp)) hJ oq) (fun ch w h=>⟨_,h.2⟩) ?_
   rintro v w2 ⟨_,⟨rfl,h⟩ | ⟨rfl,h⟩⟩
   · simp (disch:=try exact DI) only [↓PR,QR,simprocAttr]
     exact ⟨_,.inl (by rw [← hn];exact h)⟩
   · simp (disch:=try exact DI) only [↓PR,QR,simprocAttr]
     exact ⟨_,.inr h⟩
 · rw [if_neg ha]
   rw [splitB_eq c rem,if_neg ha] at hd
   obtain ⟨g1,g2,g3⟩:=drop_cons_get hd
   have hl0:¬ (((rem.takeWhile (neB c)).length:Int) < 0):=by omega
   have hlt:(rem.takeWhile (neB c)).length < rem.length:=by
    rcases Nat.lt_or_ge (rem.takeWhile (neB c)).length rem.length with h | h
    · exact h
    · exfalso
      have h1:=tw_take (neB c) rem
      rw [List.take_of_length_le h] at h1
      apply ha
      rw [h1]
      exact List.all_takeWhile
   have hw0:IntKind.i64.wrap (((rem.takeWhile (neB c)).length:Int)+0)=((rem.takeWhile (neB c)).length:Int):=wrap_ok (by omega) (by omega)
   have hw1:IntKind.i64.wrap (((rem.takeWhile (neB c)).length:Int)+1)=(((rem.takeWhile (neB c)).length+1:Nat):Int):=wrap_succ (by omega)
   have s1:=fun {QP:List PanicEntry→World→Prop} {w:World} {k':Value→World→Prop}=>op_subF (P:=Pg) (QP:=QP) (w:=w) (k:=k') Tryz.underlying9 (mkB rem) (rem.takeWhile (neB c)).length (by rw [mkB_size];omega)
   have s2:=fun {QP:List PanicEntry→World→Prop} {w:World} {k':Value→World→Prop}=>op_subE (P:=Pg) (QP:=QP) (w:=w) (k:=k') Tryz.underlying9 (mkB rem) ((rem.takeWhile (neB c)).length+1) (by rw [mkB_size];omega)
   unfold n49c6
   simp (disch:=try exact DI) only [↓PR,QR,simprocAttr,hl0]
   unfold n49c5
   simp (disch:=try exact DI) only [↓PR,QR,simprocAttr,(cells_of_heap oq).1,(cells_of_heap f2).1,hw0,s1,sub_first,tw_take]
   refine callV_mono (hstep k g3 (.string (mkB (rem.takeWhile (neB c)))) (fun b=>b=q) u ⟨⟨_,g1,rfl⟩,rfl⟩ hV _ (hF _ (by simp)) hJ oq) (fun ch w h=>⟨_,h.2⟩) ?_
   rintro v w2 ⟨oq2,⟨rfl,h⟩ | ⟨rfl,h⟩⟩
   · obtain ⟨f1',f2'⟩:=hFP _ _ w2 h
     simp (disch:=try exact DI) only [↓PR,QR,simprocAttr]
     unfold n49c4
     simp (disch:=try exact DI) only [↓PR,QR,simprocAttr,(cells_of_heap oq2).1,(cells_of_heap oq2).2,(cells_of_heap f1').1,hz1,hw1,s2,sub_rest,dw_drop]
     have oq3:(w2.setCell ⟨q,0,none⟩ (.string (mkB (rem.dropWhile (neB c)).tail))).heap[q]?=some (.cells #[.string (mkB (rem.dropWhile (neB c)).tail)] 9 (0,0)):=heap_set oq2 _
     have hle:(rem.dropWhile (neB c)).tail.length < rem.length:=by
      rw [← dw_drop,List.length_drop];omega
     refine ⟨⟨k+1,_,g2,by omega,oq3,hJl _ _ _ _ _ (LW7.cell (V:=fun b=>b=q) (l:=q) rfl _ _) h⟩,?_⟩
     rw [lenM_eq oq3]
     exact hle
   · simp (disch:=try exact DI) only [↓PR,QR,simprocAttr]
     exact ⟨_,.inr h⟩
abbrev digL:List UInt8:=[48,49,50,51,52,53,54,55,56,57]
def setAt (b:Nat) (w:World):Prop:=∀ x:UInt8,w.cell? ⟨b,x.toNat,none⟩=some (.bool (digL.contains x))
theorem con_ret (b:Nat) (x:UInt8) (w:World) (h:setAt b w):Ret Pg 140 #[.pointer (some ⟨b,0,none⟩),.int .u8 (x.toNat:Int)] w fun r w'=>r = .bool (digL.contains x)∧w'=w:=by
 refine Calls.mono (sh_asciiSet_contains b x _ w (h x)) ?_
 rintro e w' ⟨rfl,rfl⟩
 exact ⟨_,rfl,rfl,rfl⟩
def lenV (v:Value):Nat:=match v with
 | .string s=>s.size
 | _=>0
theorem lenV_eq (l:List UInt8):lenV (.string (mkB l))=l.length:=mkB_size l
theorem trimL_ret (b:Nat) (l:List UInt8) (hl:l.length≤100000000) (w0:World) (h:setAt b w0):Ret Pg 125 #[.string (mkB l),.pointer (some ⟨b,0,none⟩)] w0 fun r w'=>r = .string (mkB (l.dropWhile digL.contains))∧w'=w0:=by
 refine n50s (R:=retR _) ?_;unfold n50
 unfold joinK
 refine loop1_intro (fun v w=>∃ r,v = .string (mkB r)∧w=w0∧r.length≤l.length∧r.dropWhile digL.contains=l.dropWhile digL.contains) (fun v _=>lenV v) ⟨l,rfl,rfl,Nat.le_refl _,rfl⟩ ?_
 rintro _ w ⟨r,rfl,hw,hr,hd⟩
 rw [hw,lenV_eq]
 unfold n50c2
 cases r with
 | nil =>
  have h0:¬ (0:Int) < ((mkB []).size:Int):=by rw [mkB_size];simp
  simp (disch:=try exact DI) only [↓PR,QR,simprocAttr,h0]
  exact ⟨by rw [← hd];rfl,trivial⟩
 | cons x r =>
  have h0:(0:Int) < ((mkB (x::r)).size:Int):=by rw [mkB_size,List.length_cons];omega
  have i1:=fun {QP:List PanicEntry→World→Prop} {w:World} {k':Value→World→Prop}=>op_indexS (P:=Pg) (QP:=QP) (w:=w) (k:=k') Tryz.underlying9 (mkB (x::r)) .i64 0 (by rw [mkB_data];rfl)
  simp (disch:=try exact DI) only [↓PR,QR,simprocAttr,h0]
  unfold n50c1
  simp (disch:=try exact DI) only [↓PR,QR,simprocAttr,i1]
  refine callK_ret (con_ret b x w0 h) ?_
  rintro _ w' ⟨rfl,hw'⟩
  rw [hw']
  have s2:∀ {QP:List PanicEntry→World→Prop} {w:World} {k':Value→World→Prop},opV Pg (Instr.sliceAt 9 (.string (mkB (x::r))) (some (.int .i64 1)) none none) QP w k'=k' (.string ((mkB (x::r)).extract 1 (mkB (x::r)).size)) w:=fun {QP w k'}=>op_subE (P:=Pg) (QP:=QP) (w:=w) (k:=k') Tryz.underlying9 (mkB (x::r)) 1 (by rw [mkB_size];simp)
  rw [List.dropWhile_cons] at hd
  cases hc:digL.contains x with
  | false =>
   rw [hc] at hd
   simp (disch:=try exact DI) only [↓PR,QR,simprocAttr]
   exact ⟨by rw [← hd];rfl,trivial⟩
  | true =>
   rw [hc] at hd
   simp (disch:=try exact DI) only [↓PR,QR,simprocAttr,s2,sub_rest]
   exact ⟨⟨r,rfl,trivial,by simp only [List.length_cons] at hr;omega,by simpa using hd⟩,by rw [show (x::r).drop 1=r from rfl,lenV_eq];simp⟩
theorem dropW_nil {p:UInt8→Bool} {l:List UInt8}:l.dropWhile p=[]↔l.all p=true:=by
 induction l with
 | nil=>simp
 | cons x l ih =>
  rw [List.dropWhile_cons,List.all_cons]
  cases h:p x<;>simp [ih]
theorem trimR_ret (b:Nat) (l:List UInt8) (hl:l.length≤100000000) (w0:World) (h:setAt b w0):Ret Pg 126 #[.string (mkB l),.pointer (some ⟨b,0,none⟩)] w0 fun r w'=>(∃ q,r = .string (mkB q)∧q.length≤l.length∧(q.all digL.contains=true↔l.all digL.contains=true))∧w'=w0:=by
 refine n51s (R:=retR _) ?_;unfold n51
 unfold joinK
 refine loop1_intro (fun v w=>∃ r t,v = .string (mkB r)∧w=w0∧l=r++t∧t.all digL.contains=true) (fun v _=>lenV v) ⟨l,[],rfl,rfl,by simp,rfl⟩ ?_
 rintro _ w ⟨r,t,rfl,hw,rfl,ht⟩
 rw [hw,lenV_eq]
 unfold n51c3
 rcases List.eq_nil_or_concat r with rfl | ⟨r,x,rfl⟩
 rotate_left
 · rw [List.concat_eq_append] at *
   have hs:(mkB (r++[x])).size=r.length+1:=by rw [mkB_size];simp
   have h0:(0:Int) < ((mkB (r++[x])).size:Int):=by rw [hs];omega
   have hw1:IntKind.i64.wrap (((mkB (r++[x])).size:Int) - 1)=(r.length:Int):=by
    rw [hs,wrap_ok]
    · omega
    · omega
    · simp only [List.length_append] at hl;omega
   have i1:=fun {QP:List PanicEntry→World→Prop} {w:World} {k':Value→World→Prop}=>op_indexS (P:=Pg) (QP:=QP) (w:=w) (k:=k') Tryz.underlying9 (mkB (r++[x])) .i64 r.length (b:=x) (by rw [mkB_data];simp)
   have s1:=fun {QP:List PanicEntry→World→Prop} {w:World} {k':Value→World→Prop}=>op_subF (P:=Pg) (QP:=QP) (w:=w) (k:=k') Tryz.underlying9 (mkB (r++[x])) r.length (by rw [hs];omega)
   simp (disch:=try exact DI) only [↓PR,QR,simprocAttr,h0]
   unfold n51c2
   simp (disch:=try exact DI) only [↓PR,QR,simprocAttr,hw1,i1]
   refine callK_ret (con_ret b x w0 h) ?_
   rintro _ w' ⟨rfl,hw'⟩
   rw [hw']
   cases hc:digL.contains x with
   | false =>
    simp (disch:=try exact DI) only [↓PR,QR,simprocAttr]
    refine ⟨⟨r++[x],rfl,by simp,?_⟩,trivial⟩
    rw [List.all_append,List.all_append,List.all_append,List.all_cons,hc,Bool.false_and,Bool.and_false,Bool.false_and]
   | true =>
    simp (disch:=try exact DI) only [↓PR,QR,simprocAttr]
    unfold n51c1
    simp (disch:=try exact DI) only [↓PR,QR,simprocAttr,hw1,s1,sub_first]
    refine ⟨⟨r,x::t,?_,trivial,by simp,by rw [List.all_cons,hc,ht];rfl⟩,?_⟩
    · simp
    · rw [lenV_eq];simp
 · have h0:¬ (0:Int) < ((mkB []).size:Int):=by rw [mkB_size];simp
   simp (disch:=try exact DI) only [↓PR,QR,simprocAttr,h0]
   exact ⟨⟨[],rfl,by simp,by rw [List.nil_append,ht];simp⟩,trivial⟩
theorem zeroSet (w:World):(zeroValue 157).run Pg w = .ok (.agg (Array.replicate 256 (.bool false))) w:=(Tryz.zeroValue157 w).trans (congrArg (fun c=>Result.ok (Value.agg c) w) (by kernel_rfl))
theorem mkSet_ret (w0:World):Ret Pg 124 #[.string ⟨digL.toArray⟩] w0 fun r w'=>r = .tuple #[.agg (Go.Lib.setCells digL),.bool true]∧w'=w0.alloc (.cells (Go.Lib.setCells digL) 157):=by
 refine Calls.mono (sh_strings_makeASCIISet zeroSet ⟨digL.toArray⟩ w0 (by decide) ?_) ?_
 · intro j b h
   have:∀ b∈digL,b.toNat < 128:=by decide
   exact this b (List.mem_of_getElem? h)
 · rintro e w' ⟨rfl,rfl⟩
   exact ⟨_,rfl,rfl,rfl⟩
theorem tySet:TyInfo Pg 157 true 256 (Pg.bytesOf 157) (.agg (Array.replicate 256 (.bool false))):=ty_mk (by kernel_rfl) Tryz.underlying157 rfl
theorem Trim_ret {w0:World} (hE:EnvOK w0) (l:List UInt8) (hl:l.length≤100000000):Ret Pg 108 #[.string (mkB l),.string ⟨digL.toArray⟩] w0 fun r w'=>(∃ q,r = .string (mkB q)∧(q=[]↔l.all digL.contains=true))∧Ext w0 w':=by
 refine n47s (R:=retR _) ?_;unfold n47
 unfold joinK
 cases l with
 | nil =>
  have h0:mkB []=(⟨#[]⟩:ByteArray):=rfl
  rw [h0]
  simp (disch:=try exact DI) only [↓PR,QR,simprocAttr]
  exact ⟨⟨[],rfl,by simp⟩,Ext.refl _⟩
 | cons x l =>
  have h0:¬ mkB (x::l)=(⟨#[]⟩:ByteArray):=by
   intro h
   have:=congrArg (fun b:ByteArray=>b.data.toList) h
   simp [mkB_data] at this
  have h1:¬ (⟨digL.toArray⟩:ByteArray)=(⟨#[]⟩:ByteArray):=by decide
  have h2:((⟨digL.toArray⟩:ByteArray).size:Int)=10:=rfl
  simp (disch:=try exact DI) only [↓PR,QR,simprocAttr,h0,h1]
  unfold n47c4 joinK
  simp (disch:=try exact DI) only [↓PR,QR,simprocAttr,h2]
  unfold n47c3
  simp (disch:=try exact DI) only [↓PR,QR,simprocAttr]
  refine callK_ret (mkSet_ret w0) ?_
  rintro _ w1 ⟨rfl,hw1⟩
  have e1:Ext w0 w1:=by rw [hw1];exact (Ext.refl _).alloc _
  clear hw1
  unfold n47c2
  simp (disch:=try exact DI) only [↓PR,QR,simprocAttr]
  rw [op_alloc_store (v := .agg (Go.Lib.setCells digL)) tySet (by rw [show (Value.agg (Array.replicate 256 (.bool false))).cells=Array.replicate 256 (.bool false) from rfl,Array.size_replicate]) (Go.Lib.setCells_size digL) (fun c hc=>Array.all_eq_true'.1 (Go.Lib.setCells_one digL) c (Array.mem_def.2 (show c∈(Go.Lib.setCells digL).toList from hc)))]
  rw [show (Value.agg (Go.Lib.setCells digL)).cells=Go.Lib.setCells digL from rfl]
  have e2:Ext w1 (w1.alloc (.cells (Go.Lib.setCells digL) 157)):=(Ext.refl _).alloc _
  have hset:setAt w1.heap.size (w1.alloc (.cells (Go.Lib.setCells digL) 157)):=fun x=>by
   rw [World.cell?_alloc_at _ _ _ _ (by simp),Go.Lib.setCells_at]
  generalize w1.alloc (.cells (Go.Lib.setCells digL) 157)=w2 at e2 hset ⊢
  simp (disch:=try exact DI) only [↓PR,QR,simprocAttr]
  refine callK_ret (trimR_ret _ _ hl w2 hset) ?_
  rintro _ w3 ⟨⟨q,rfl,hql,hq⟩,hw3⟩
  rw [hw3]
  refine callK_ret (trimL_ret _ q (by omega) w2 hset) ?_
  rintro _ w4 ⟨rfl,hw4⟩
  rw [hw4]
  simp (disch:=try exact DI) only [↓PR,QR,simprocAttr]
  exact ⟨⟨_,rfl,dropW_nil.trans hq⟩,e1.trans e2⟩
theorem foldN_le:∀ (l:List UInt8) (a:Nat),a≤l.foldl stepN a
 | [],a=>Nat.le_refl _
 | c::l,a=>by
  have:=foldN_le l (stepN a c)
  rw [List.foldl_cons]
  unfold stepN at this ⊢
  omega
def EndU (o:Go.Lib.NumEnd Nat) (n:Nat):Prop:=(o = .ok n)∨(o = .range∧18446744073709551616≤n)
theorem parse_all:∀ (l:List UInt8) (a:Nat),l.all digN=true→EndU (Go.Lib.parseUint10 a l) (l.foldl stepN a)
 | [],a,_ => .inl rfl
 | c::r,a,h=>by
  rw [List.all_cons,Bool.and_eq_true] at h
  have h2:=digN_iff.1 h.1
  have hle:=foldN_le r (a*10+(c.toNat - 48))
  simp only [Go.Lib.parseUint10]
  rw [if_pos h2,List.foldl_cons,show stepN a c=a*10+(c.toNat - 48) from rfl]
  by_cases h3:1844674407370955162≤a
  · rw [if_pos h3]
    exact .inr ⟨rfl,by omega⟩
  · rw [if_neg h3]
    by_cases h4:18446744073709551616≤a*10+(c.toNat - 48)
    · rw [if_pos h4]
      exact .inr ⟨rfl,by omega⟩
    · rw [if_neg h4]
      exact parse_all r _ h.2
theorem atoi_digits {l:List UInt8} (h0:l≠[]) (h:l.all digN=true):(∃ n,Go.Lib.atoiAll l = .ok n∧n=(valL l:Int))∨((∀ v,Go.Lib.atoiAll l ≠ .ok v)∧9223372036854775808≤valL l):=by
 cases l with
 | nil=>exact absurd rfl h0
 | cons c r =>
  have hc:=List.all_eq_true.1 h c (List.mem_cons_self ..)
  rw [digN_iff] at hc
  rw [Go.Lib.atoiAll_plain c r (by omega) (by omega)]
  unfold Go.Lib.parseMag
  rw [if_neg h0]
  have hp:=parse_all (c::r) 0 h
  change EndU (Go.Lib.parseUint10 0 (c::r)) (valL (c::r)) at hp
  rcases hp with hp | ⟨hp,hb⟩
  · rw [hp]
    unfold Go.Lib.signless
    simp only
    split
    · exact .inr ⟨fun v=>by simp,by omega⟩
    · exact .inl ⟨_,rfl,rfl⟩
  · rw [hp]
    exact .inr ⟨fun v=>by simp [Go.Lib.signless],by omega⟩
abbrev Stp:=List UInt8×Nat
def capN (n:Nat):Nat:=min n 65536
def stepP (p:List UInt8):Option Stp :=
 if p.all (neB 58)=true then (if nameB (mkB p)=true then some (p,0) else none) else
  let nm:=p.takeWhile (neB 58)
  let no:=(p.dropWhile (neB 58)).tail
  if no≠[]∧no.all digN=true∧no.head?≠some 48∧nameB (mkB nm)=true then some (nm,capN (valL no)) else none
def stepsL:List (List UInt8)→Option (List Stp)
 | []=>some []
 | p::l=>match stepP p with
  | none=>none
  | some x=>(stepsL l).map (x::·)
def stepsP (s:List UInt8):Option (List Stp):=if s=[] then some [] else stepsL (splitB 46 s)
theorem stepsL_snoc (l:List (List UInt8)) (p:List UInt8):stepsL (l++[p])=match stepsL l with
 | none=>none
 | some a=>(stepP p).map (fun x=>a++[x]):=by
 induction l with
 | nil =>
  show (match stepP p with | none=>none | some x=>(some []).map (x::·))=(stepP p).map _
  cases stepP p<;>rfl
 | cons q l ih =>
  rw [List.cons_append,stepsL,stepsL,ih]
  cases stepP q with
  | none=>rfl
  | some x =>
   cases stepsL l with
   | none=>rfl
   | some a =>
    cases stepP p<;>rfl
theorem stepsL_none {l:List (List UInt8)} {k:Nat} (h:stepsL (l.take k)=none):stepsL l=none:=by
 have:∀ (a b:List (List UInt8)),stepsL a=none→stepsL (a++b)=none:=by
  intro a
  induction a with
  | nil=>intro b h;cases h
  | cons q a ih =>
   intro b h
   rw [stepsL] at h
   rw [List.cons_append,stepsL]
   cases hq:stepP q with
   | none=>rfl
   | some x =>
    rw [hq] at h
    simp only at h ⊢
    cases ha:stepsL a with
    | none=>rw [ih b ha];rfl
    | some y=>rw [ha] at h;cases h
 have:=this (l.take k) (l.drop k) h
 rwa [List.take_append_drop] at this
def findT (nm:ByteArray):Nat→List Tr→Option Nat
 | _,[]=>none
 | n,p::ps=>if p.nd.name=nm then (if n=0 then some 0 else (findT nm (n - 1) ps).map (· + 1)) else (findT nm n ps).map (· + 1)
theorem findT_big (nm:ByteArray):∀ (ps:List Tr) (n:Nat),ps.length≤n→findT nm n ps=none
 | [],n,_=>rfl
 | p::ps,n,h=>by
  rw [List.length_cons] at h
  rw [findT]
  split
  · rw [if_neg (by omega),findT_big nm ps (n - 1) (by omega)];rfl
  · rw [findT_big nm ps n (by omega)];rfl
theorem findT_cap (nm:ByteArray) (ps:List Tr) (n m:Nat) (h:capN n=capN m) (hp:ps.length≤65536):findT nm n ps=findT nm m ps:=by
 unfold capN at h
 by_cases hn:n < 65536
 · rw [show n=m by omega]
 · rw [findT_big nm ps n (by omega),findT_big nm ps m (by omega)]
theorem findT_lt (nm:ByteArray):∀ (ps:List Tr) (n i:Nat),findT nm n ps=some i→i < ps.length
 | [],n,i,h=>by cases h
 | p::ps,n,i,h=>by
  rw [findT] at h
  rw [List.length_cons]
  split at h
  · split at h
    · injection h with h;omega
    · obtain ⟨j,hj,rfl⟩:=Option.map_eq_some_iff.1 h
      have:=findT_lt nm ps (n - 1) j hj
      omega
  · obtain ⟨j,hj,rfl⟩:=Option.map_eq_some_iff.1 h
    have:=findT_lt nm ps n j hj
    omega
def atT:List Stp→Tr→Option Tr
 | [],t=>some t
 | x::l,t=>match findT (mkB x.1) x.2 t.ps with
  | none=>none
  | some i=>match t.ps[i]? with
   | none=>none
   | some p=>atT l p
def putT (to:Tr):List Stp→Tr→Option Tr
 | [],_=>some to
 | x::l,t=>match findT (mkB x.1) x.2 t.ps with
  | none=>none
  | some i=>match t.ps[i]? with
   | none=>none
   | some p=>(putT to l p).map fun q => .mk t.nd (t.ps.set i q)
section
variable {P:Program} {QP:List PanicEntry→World→Prop} {k:Value→World→Prop} {w:World}
theorem op_eqNil_none {t:TypeId} {m:Array (String×TypeId)} (hu:P.underlying t=some (.interface m)):opV P (binS .eql t true .nilIface .nilIface) QP w k=k (.bool true) w :=
 opV_ok (run_eqv (eqNil_n 9999 hu))
theorem op_eqNil_some {t:TypeId} {m:Array (String×TypeId)} (hu:P.underlying t=some (.interface m)) (d:TypeId) (v:Value):opV P (binS .eql t true (.iface d v) .nilIface) QP w k=k (.bool false) w :=
 opV_ok (run_eqv (eqNil_i 9999 hu d v))
end
def encS (x:Stp):List Value:=[.string (mkB x.1),.int .i64 (x.2:Int)]
def capS (x:Stp):Stp:=(x.1,capN x.2)
def EStp (_:World) (cs:List Value) (x:Stp):Prop:=cs=encS x
structure StI (w0:World) (c:UInt8) (s:List UInt8) (k:Nat) (V:Bks) (w:World):Prop where
 frm:Ext w0 w∧∀ b,V b→w0.heap.size≤b
 res:¬ V w0.heap.size∧w.heap[w0.heap.size]?=some (.cells #[.slice none 0 0] 120 (0,0))
 is:¬ V (w0.heap.size+1)∧w.heap[w0.heap.size+1]?=some (.cells #[.bool false] 4 (0,0))
 acc:∃ v rows,(¬ V (w0.heap.size+2)∧w.heap[w0.heap.size+2]?=some (.cells #[v] 120 (0,0)))∧(OwnE w (w0.heap.size+6) 106 2 encS v rows∧∀ g,v.ownBlock=some g→¬ V g)∧stepsL ((splitB c s).take k)=some (rows.map capS)∧rows.length=k∧∀ x∈rows,x.2≤9223372036854775807
 sep:¬ V (w0.heap.size+3+1)∧w.heap[w0.heap.size+3+1]?=some (.cells #[.string ⟨#[c]⟩] 9 (0,0))
 sav:¬ V (w0.heap.size+3+2)∧w.heap[w0.heap.size+3+2]?=some (.cells #[.int .i64 0] 3 (0,0))
theorem StI.lasts (w0:World) (c:UInt8) (s:List UInt8) (k:Nat):Lasts7 (StI w0 c s k):=fun V V' w w' hl h=>by
 refine ⟨Lasts7.from _ _ _ _ hl h.frm,Lasts7.has _ _ _ _ hl h.res,Lasts7.has _ _ _ _ hl h.is,?_,Lasts7.has _ _ _ _ hl h.sep,Lasts7.has _ _ _ _ hl h.sav⟩
 obtain ⟨v,rows,h1,h2,h3⟩:=h.acc
 exact ⟨v,rows,Lasts7.has _ _ _ _ hl h1,Lasts7.own _ _ _ _ hl h2,h3⟩
theorem StI.sub {w0:World} {c:UInt8} {s:List UInt8} {k:Nat} {V V':Bks} {w:World} (h:StI w0 c s k V w) (hs:∀ b,V' b→V b):StI w0 c s k V' w:=by
 refine ⟨⟨h.frm.1,fun b hb=>h.frm.2 b (hs b hb)⟩,⟨fun hb=>h.res.1 (hs _ hb),h.res.2⟩,⟨fun hb=>h.is.1 (hs _ hb),h.is.2⟩,?_,⟨fun hb=>h.sep.1 (hs _ hb),h.sep.2⟩,⟨fun hb=>h.sav.1 (hs _ hb),h.sav.2⟩⟩
 obtain ⟨v,rows,h1,h2,h3⟩:=h.acc
 exact ⟨v,rows,⟨fun hb=>h1.1 (hs _ hb),h1.2⟩,⟨h2.1,fun g hg hb=>h2.2 g hg (hs _ hb)⟩,h3⟩
def StepsK (w0:World) (s:List UInt8) (r:Value) (w':World):Prop:=Ext w0 w'∧match stepsP s with
 | none=>∃ v,r = .tuple #[v,.bool false]
 | some l=>∃ v rows,r = .tuple #[v,.bool true]∧SliceOf w' 2 EStp v rows∧rows.map capS=l∧∀ x∈rows,x.2≤9223372036854775807
theorem st_add {w0:World} {c:UInt8} {s:List UInt8} {k:Nat} {V:Bks} {p:Nat} {Rk:World→Prop} {w:World} {x:Stp} {pc:List UInt8} {QP:List PanicEntry→World→Prop} {R:RT} {K:World→Prop} (H:StI w0 c s k V w) (hp:w.heap[p]?=some (.cells #[.string (mkB x.1),.int .i64 (x.2:Int)] 106 (0,0))) (hR:Firm7 V Rk) (hRw:Rk w)
 (hpc:(splitB c s)[k]?=some pc) (hx:stepP pc=some (capS x)) (hx2:x.2≤9223372036854775807) (hk:k≤200000000) (hV:∀ b,V b→b < w.heap.size) (hK:∀ w',Rk w'→StI w0 c s (k+1) V w'→K w'):n84c1 (.pointer (some ⟨w0.heap.size+2,0,none⟩)) (.pointer (some ⟨p,0,none⟩)) K QP R w:=by
 unfold n84c1
 obtain ⟨v,rows,h1,h2,h3,h4,hb9⟩:=H.acc
 have o1:=(h2.1.slice (E:=EStp) (fun _=>rfl) (fun _ _=>rfl)).oneCell
 simp (disch:=try exact DI) only [↓PR,QR,simprocAttr,(cells_of_heap h1.2).1,(cells_of_heap hp).1]
 have o2:=heap_new w #[.string (mkB x.1),.int .i64 (x.2:Int)] 106
 have e2:Ext w (w.alloc (.cells #[.string (mkB x.1),.int .i64 (x.2:Int)] 106)):=ee
 have s2:(w.alloc (.cells #[.string (mkB x.1),.int .i64 (x.2:Int)] 106)).heap.size=w.heap.size+1:=by simp
 have hR2:=hR _ _ (KR7.of e2) hRw
 have H2:=(StI.lasts w0 c s k).ext H e2
 have ow:OwnE (w.alloc (.cells #[.string (mkB x.1),.int .i64 (x.2:Int)] 106)) (w0.heap.size+6) 106 2 encS v rows:=OwnE.same h2.1 fun g hg=>e2.block g (OwnE.lt' h2.1 hg).2
 have h1':=e2.obj h1.2
 generalize (w.alloc (.cells #[.string (mkB x.1),.int .i64 (x.2:Int)] 106))=w2 at *
 have hby:=by106
 have hB:=(Array.getElem?_eq_some_iff.1 H2.sav.2).1
 refine op_appendL (l':=[x]) Tryz.underlying120 ty106 rfl (by decide) (fun _=>rfl) (fun y _ u hu=>?_) ow (fun j y hy=>?_) (by omega) (by simp) ?_ (by simp;omega) ?_
 · simp only [encS,List.mem_cons,List.not_mem_nil,or_false] at hu
   rcases hu with rfl | rfl<;>rfl
 · cases j with
   | zero =>
    simp only [List.getElem?_cons_zero,Option.some.injEq] at hy
    subst hy
    intro j v hv
    rw [(cells_of_heap o2).1]
    simpa [encS] using hv
   | succ j=>simp at hy
 · simp only [List.length_cons,List.length_nil]
   exact Nat.le_trans (Nat.mul_le_mul (show rows.length+1≤200000001 by omega) hby) (by decide)
 · intro g cap w3 ho hg hgg hgl
   have hrow:∀ b,b < w2.heap.size→v.ownBlock≠some b→w3.heap[b]?=w2.heap[b]?:=fun b hb hne=>hg.block b hb (fun e=>hne e.symm)
   have hno:∀ b,b < w0.heap.size+6→v.ownBlock≠some b:=fun b hb e=>by have:=OwnE.lt' ow e;omega
   have hg6:=OwnE.lt' ho (g:=g) rfl
   have hR3:KR7 V w2 w3:=(KR7.refl V w2).free hg.size (F:=fun b=>v.ownBlock=some b) (fun b hb hne=>hrow b hb hne) (fun b hb => .inl (h2.2 b hb)) fun b hb=>by
    obtain ⟨cs,f,t⟩:=OwnE.type ow hb
    exact ⟨fun r hr=>(by rw [t] at hr;cases hr),fun d hd=>(by rw [t] at hd;cases hd)⟩
   have hgV:¬ V g:=fun hv=>by
    rcases hgg with hgg | hgg
    · exact h2.2 g hgg hv
    · have:=hV g hv
      omega
   have c3:w3.heap[w0.heap.size+2]?=some (.cells #[v] 120 (0,0)):=(hrow _ (by omega) (hno _ (by omega))).trans h1'
   simp (disch:=try exact DI) only [↓PR,QR,simprocAttr,(cells_of_heap c3).1,(cells_of_heap c3).2]
   refine hK _ (hR _ _ (hR3.setCell _ _ _ (.inl h1.1)) hR2) ?_
   have hfar:∀ b o,b < w0.heap.size+6→b≠w0.heap.size+2→w2.heap[b]?=some o→(w3.setCell ⟨w0.heap.size+2,0,none⟩ (.slice (some ⟨g,0,none⟩) (rows.length+[x].length) cap)).heap[b]?=some o:=fun b o hb hne h=>(heap_setE hne).trans ((hrow b (by omega) (hno b hb)).trans h)
   refine ⟨⟨⟨hg.os.trans H2.frm.1.os,hg.tape.trans H2.frm.1.tape,hg.output.trans H2.frm.1.output,Nat.le_trans H2.frm.1.size (by simpa using hg.size),fun b hb=>(heap_setE (by omega)).trans ((hrow b (by have:=H2.frm.1.size;omega) (hno b (by omega))).trans (H2.frm.1.block b hb))⟩,H2.frm.2⟩,⟨H2.res.1,hfar _ _ (by omega) (by omega) H2.res.2⟩,⟨H2.is.1,hfar _ _ (by omega) (by omega) H2.is.2⟩,?_,⟨H2.sep.1,hfar _ _ (by omega) (by omega) H2.sep.2⟩,⟨H2.sav.1,hfar _ _ (by omega) (by omega) H2.sav.2⟩⟩
   refine ⟨_,rows++[x],⟨h1.1,heap_set (o:=0) c3 _⟩,⟨OwnE.same ho fun j hj=>heap_setE (by
    have:g=j:=by cases hj;rfl
    omega),fun j hj=>?_⟩,?_,by rw [List.length_append,h4];rfl,fun y hy=>?_⟩
   · have:g=j:=by cases hj;rfl
     rw [← this];exact hgV
   · rw [List.take_add_one,hpc,Option.toList_some,stepsL_snoc,h3]
     simp only [hx,Option.map_some,List.map_append,List.map_cons,List.map_nil]
   · rcases List.mem_append.1 hy with hy | hy
     · exact hb9 y hy
     · rw [List.mem_singleton.1 hy];exact hx2
structure StX (w0:World) (s:List UInt8) (V:Bks) (w:World):Prop where
 frm:Ext w0 w∧∀ b,V b→w0.heap.size≤b
 res:¬ V w0.heap.size∧w.heap[w0.heap.size]?=some (.cells #[.slice none 0 0] 120 (0,0))
 is:¬ V (w0.heap.size+1)∧w.heap[w0.heap.size+1]?=some (.cells #[.bool false] 4 (0,0))
 none:stepsP s=none
theorem StX.lasts (w0:World) (s:List UInt8):Lasts7 (StX w0 s):=fun V V' w w' hl h=>⟨Lasts7.from _ _ _ _ hl h.frm,Lasts7.has _ _ _ _ hl h.res,Lasts7.has _ _ _ _ hl h.is,h.none⟩
theorem st_b1 {w0:World} {c:UInt8} {s:List UInt8} {k:Nat} {V:Bks} {w:World} (H:StI w0 c s k V w):(w.setCell ⟨w0.heap.size,0,none⟩ (Value.slice none 0 0)).heap[w0.heap.size+1]?=some (.cells #[.bool false] 4 (0,0)):=(heap_setE (by omega)).trans H.is.2
theorem st_stop {w0:World} {c:UInt8} {s:List UInt8} {k:Nat} {V:Bks} {Rk:World→Prop} {w:World} (H:StI w0 c s k V w) (hR:Firm7 V Rk) (hRw:Rk w) (hs:stepsP s=none):Rk ((w.setCell ⟨w0.heap.size,0,none⟩ (Value.slice none 0 0)).setCell ⟨w0.heap.size+1,0,none⟩ (.bool false))∧StX w0 s V ((w.setCell ⟨w0.heap.size,0,none⟩ (Value.slice none 0 0)).setCell ⟨w0.heap.size+1,0,none⟩ (.bool false)):=by
 refine ⟨hR _ _ (((KR7.refl V w).setCell _ _ _ (.inl H.res.1)).setCell _ _ _ (.inl H.is.1)) hRw,⟨⟨H.frm.1.os,H.frm.1.tape,H.frm.1.output,by simpa using H.frm.1.size,fun b hb=>?_⟩,H.frm.2⟩,⟨H.res.1,?_⟩,⟨H.is.1,heap_set (o:=0) (st_b1 H) _⟩,hs⟩
 · rw [heap_setE (by omega),heap_setE (by omega)]
   exact H.frm.1.block b hb
 · rw [heap_setE (by omega)]
   exact heap_set (o:=0) H.res.2 _
theorem steps_out {w0 w:World} {r b:Nat} {v:Value} {x:Bool} {Q:Value→World→Prop} (e:Ext w0 w) (h1:w.heap[b]?=some (.cells #[v] 120 (0,0))) (h2:w.heap[b+1]?=some (.cells #[.bool x] 4 (0,0))) (hv:v.oneCell'=true) (hm:MarkAt r w) (hr:w0.heap.size≤r)
 (hQ:∀ w',Ext w0 w'→(∀ k,k≠r→w'.heap[k]?=w.heap[k]?)→Q (.tuple #[v,.bool x]) w'):outX Pg [Sw.mark r] [(some 120,.pointer (some ⟨b,0,none⟩)),(some 4,.pointer (some ⟨b+1,0,none⟩))] (retR Q) w:=by
 refine outX_mark hm ?_
 simp (disch:=try exact DI) only [↓PR,QR,simprocAttr,outX_nil,retV,resOne,cell_putMark hm,(cells_of_heap h1).1,(cells_of_heap h2).1]
 exact hQ _ ⟨e.os,e.tape,e.output,by simpa using e.size,fun k hk=>(World.putObj_heap_other (by omega)).trans (e.block k hk)⟩ fun k hk=>World.putObj_heap_other hk
theorem digL_dig (c:UInt8):digL.contains c=digN c:=by
 have h:∀ n,n < 256→digL.contains (UInt8.ofNat n)=digN (UInt8.ofNat n):=by decide
 have:=h c.toNat (UInt8.toNat_lt c)
 rwa [UInt8.ofNat_toNat] at this
theorem digL_all (l:List UInt8):l.all digL.contains=l.all digN:=by
 congr 1
 exact funext digL_dig
theorem st_name {w0:World} {s:List UInt8} {k:Nat} {V:Bks} {Rk:World→Prop} {w:World} {pc:List UInt8} {p:Nat} {x:Stp} {QP:List PanicEntry→World→Prop} {R:RT} {K:World→Prop} {X:Nat→World→Prop} (H:StI w0 46 s k V w) (hR:Firm7 V Rk) (hRw:Rk w)
 (hp:w.heap[p]?=some (.cells #[.string (mkB x.1),.int .i64 (x.2:Int)] 106 (0,0))) (hpc:(splitB 46 s)[k]?=some pc) (hx2:x.2≤9223372036854775807) (hx:stepP pc=if nameB (mkB x.1)=true then some (capS x) else none) (hnone:stepP pc=none→stepsP s=none) (hk:k≤200000000) (hV:∀ b,V b→b < w.heap.size) (hK:∀ w',Rk w'→StI w0 46 s (k+1) V w'→K w') (hX:∀ w',Rk w'→StX w0 s V w'→X 0 w') :
 callK Pg 73 #[.string (mkB x.1)] QP w fun t49 w=>n84c2 (.pointer (some ⟨w0.heap.size,0,none⟩)) (.pointer (some ⟨w0.heap.size+1,0,none⟩)) (.pointer (some ⟨w0.heap.size+2,0,none⟩)) (.pointer (some ⟨p,0,none⟩)) t49 K QP X R w:=by
 refine zcr (Name_ret w (mkB x.1)) fun w1 e1=>?_
 have H1:=(StI.lasts _ _ _ _).ext H e1
 have hR1:=hR _ _ (KR7.of e1) hRw
 have z1:=e1.size
 unfold n84c2
 cases hn:nameB (mkB x.1) with
 | true =>
  rw [hn,if_pos rfl] at hx
  simp (disch:=try exact DI) only [↓PR,QR,simprocAttr]
  exact st_add H1 (e1.obj hp) hR hR1 hpc hx hx2 hk (fun b hb=>by have:=hV b hb;omega) hK
 | false =>
  rw [hn,if_neg (by simp)] at hx
  have hst:=st_stop H1 hR hR1 (hnone hx)
  simp (disch:=try exact DI) only [↓PR,QR,simprocAttr,(cells_of_heap H1.res.2).1,(cells_of_heap H1.res.2).2,(cells_of_heap (st_b1 H1)).1,(cells_of_heap (st_b1 H1)).2]
  exact hX _ hst.1 hst.2
theorem steps_body {w0:World} {s:List UInt8} {k:Nat} {V:Bks} {Rk:World→Prop} {w:World} {pc:List UInt8} {QP:List PanicEntry→World→Prop} {R:RT} {K:World→Prop} {X:Nat→World→Prop} (hE:EnvOK w0) (H:StI w0 46 s k V w) (hR:Firm7 V Rk) (hRw:Rk w) (hs:s≠[])
 (hpc:(splitB 46 s)[k]?=some pc) (hpl:pc.length≤100000000) (hk:k≤200000000) (hV:∀ b,V b→b < w.heap.size) (hK:∀ w',Rk w'→StI w0 46 s (k+1) V w'→K w') (hX:∀ w',Rk w'→StX w0 s V w'→X 0 w') :
 n84c8 (.pointer (some ⟨w0.heap.size,0,none⟩)) (.pointer (some ⟨w0.heap.size+1,0,none⟩)) (.pointer (some ⟨w0.heap.size+2,0,none⟩)) (if pc.all (neB 58)=true then .tuple #[.string (mkB pc),.string (mkB []),.bool false] else .tuple #[.string (mkB (pc.takeWhile (neB 58))),.string (mkB (pc.dropWhile (neB 58)).tail),.bool true]) K QP X R w:=by
 have hnone:stepP pc=none→stepsP s=none:=fun h=>by
  unfold stepsP
  rw [if_neg hs]
  refine stepsL_none (k:=k+1) ?_
  obtain ⟨v,rows,h1,h2,h3,h4,hb9⟩:=H.acc
  rw [List.take_add_one,hpc,Option.toList_some,stepsL_snoc,h3]
  simp only [h,Option.map_none]
 unfold n84c8 joinK
 by_cases ha:pc.all (neB 58)=true
 · rw [if_pos ha]
   have o2:=heap_new w #[.string (mkB pc),.int .i64 0] 106
   have e2:Ext w (w.alloc (.cells #[.string (mkB pc),.int .i64 0] 106)):=ee
   simp (disch:=try exact DI) only [↓PR,QR,simprocAttr]
   refine st_name (x:=(pc,0)) ((StI.lasts _ _ _ _).ext H e2) hR (hR _ _ (KR7.of e2) hRw) o2 hpc (by simp) ?_ hnone hk (fun b hb=>by have:=hV b hb;have:=e2.size;omega) hK hX
   unfold stepP
   rw [if_pos ha]
   rfl
 · rw [if_neg ha]
   simp (disch:=try exact DI) only [↓PR,QR,simprocAttr]
   have hsub:(pc.dropWhile (neB 58)).tail.length≤pc.length:=by
    rw [← dw_drop,List.length_drop];omega
   have hst:stepP pc=if (pc.dropWhile (neB 58)).tail≠[]∧(pc.dropWhile (neB 58)).tail.all digN=true∧(pc.dropWhile (neB 58)).tail.head?≠some 48∧nameB (mkB (pc.takeWhile (neB 58)))=true then some (pc.takeWhile (neB 58),capN (valL (pc.dropWhile (neB 58)).tail)) else none:=by
    unfold stepP
    rw [if_neg ha]
   generalize (pc.dropWhile (neB 58)).tail=no at *
   generalize pc.takeWhile (neB 58)=nm at *
   have o2:=heap_new w #[.string (mkB nm),.int .i64 0] 106
   have e2:Ext w (w.alloc (.cells #[.string (mkB nm),.int .i64 0] 106)):=ee
   have z2:(w.alloc (.cells #[.string (mkB nm),.int .i64 0] 106)).heap.size=w.heap.size+1:=by simp
   have hR2:=hR _ _ (KR7.of e2) hRw
   have H2:=((StI.lasts w0 46 s k) _ _ _ _ (LW7.more (V':=fun b=>V b∨b=w.heap.size) e2 fun b hb=>hb.imp_right fun h=>by omega) H)
   generalize (w.alloc (.cells #[.string (mkB nm),.int .i64 0] 106))=w2 at *
   refine callK_ret (Trim_ret (hE.ext H2.frm.1) no (by omega)) ?_
   rintro _ w3 ⟨⟨q,rfl,hq⟩,e3⟩
   rw [digL_all] at hq
   have o3:=e3.obj o2
   have hR3:=hR _ _ (KR7.of e3) hR2
   have H3:=(StI.lasts w0 46 s k).ext H2 e3
   have z3:=e3.size
   clear o2 e2 e3 hR2 H2
   unfold n84c7 joinK n84c6 joinK n84c5
   have hstop:stepP pc=none→_:=fun h=>st_stop (Rk:=Rk) (V:=V) (H3.sub fun b hb => .inl hb) hR hR3 (hnone h)
   have hS1:=cells_of_heap H3.res.2
   have hS2:=cells_of_heap (st_b1 H3)
   by_cases hq0:q=[]
   · subst hq0
     rw [show mkB []=(⟨#[]⟩:ByteArray) from rfl]
     cases no with
     | nil =>
      rw [show mkB []=(⟨#[]⟩:ByteArray) from rfl]
      rw [if_neg (by simp)] at hst
      simp (disch:=try exact DI) only [↓PR,QR,simprocAttr,hS1.1,hS1.2,hS2.1,hS2.2]
      exact hX _ (hstop hst).1 (hstop hst).2
     | cons d no =>
      have hdn:¬ mkB (d::no)=(⟨#[]⟩:ByteArray):=by
       intro h
       have:=congrArg (fun b:ByteArray=>b.data.toList) h
       simp [mkB_data] at this
      have i1:∀ {QP:List PanicEntry→World→Prop} {w:World} {k':Value→World→Prop},opV Pg (Instr.index 9 (.string (mkB (d::no))) (.int .i64 0)) QP w k'=k' (.int .u8 (d.toNat:Int)) w:=fun {QP w k'}=>op_indexS (P:=Pg) (QP:=QP) (w:=w) (k:=k') Tryz.underlying9 (mkB (d::no)) .i64 0 (by rw [mkB_data];rfl)
      by_cases hd:d=48
      · subst hd
        rw [if_neg (by simp)] at hst
        have h48:((48:UInt8).toNat:Int)=48:=rfl
        simp (disch:=try exact DI) only [↓PR,QR,simprocAttr,hdn,i1,h48,hS1.1,hS1.2,hS2.1,hS2.2]
        exact hX _ (hstop hst).1 (hstop hst).2
      · have hd48:¬ (d.toNat:Int)=48:=fun e=>hd (UInt8.toNat_inj.1 (by have:(48:UInt8).toNat=48:=rfl;omega))
        have hd48':((d.toNat:Int) == 48)=false:=by simpa using hd48
        simp (disch:=try exact DI) only [↓PR,QR,simprocAttr,hdn,i1,hd48,hd48']
        have hdig:=hq.1 rfl
        unfold n84c4
        simp (disch:=try exact DI) only [↓PR,QR,simprocAttr,(cells_of_heap o3).1,(cells_of_heap o3).2]
        have o4:=heap_set (o:=1) o3 (.int .i64 65536)
        change _=some (Obj.cells #[.string (mkB nm),.int .i64 65536] 106 (0,0)) at o4
        have hpV:¬ V w.heap.size:=fun h=>by have:=hV _ h;omega
        have hR4:=hR _ _ ((KR7.refl V w3).setCell w.heap.size 1 (.int .i64 65536) (.inl hpV)) hR3
        have H4:=(StI.lasts w0 46 s k) _ _ _ _ (LW7.cell (V:=fun b=>V b∨b=w.heap.size) (l:=w.heap.size) (.inr rfl) 1 (.int .i64 65536)) H3
        have z4:(w3.setCell ⟨w.heap.size,1,none⟩ (.int .i64 65536)).heap.size=w3.heap.size:=by simp
        clear o3 hS1 hS2 hstop
        generalize w3.setCell ⟨w.heap.size,1,none⟩ (.int .i64 65536)=w4 at *
        refine callK_ret (Atoi_big (hE.ext H4.frm.1) (mkB (d::no)) (by rw [mkB_size];omega)) ?_
        rintro _ w5 ⟨e5,n,er,rfl,hn⟩
        rw [mkB_data] at hn
        have o5:=e5.obj o4
        have hR5:=hR _ _ (KR7.of e5) hR4
        have H5:=(StI.lasts w0 46 s k).ext H4 e5
        have z5:=e5.size
        have hst':∀ m:Nat,capN m=capN (valL (d::no))→stepP pc=if nameB (mkB nm)=true then some (capS (nm,m)) else none:=fun m hm=>by
         rw [hst]
         by_cases hnm:nameB (mkB nm)=true
         · rw [if_pos ⟨by simp,hdig,by simpa using hd,hnm⟩,if_pos hnm]
           show some (nm,_)=some (nm,_)
           rw [hm]
         · rw [if_neg (fun h=>hnm h.2.2.2),if_neg hnm]
        unfold n84c3
        rcases atoi_digits (l:=d::no) (by simp) hdig with ⟨m,hm1,hm2⟩ | ⟨hm1,hm2⟩
        · rcases hn with ⟨hn1,rfl⟩ | ⟨hn1,_⟩
          · rw [hm1] at hn1
            injection hn1 with hn1
            have hnv:n=((valL (d::no):Nat):Int):=by rw [← hn1,hm2]
            rw [hnv]
            simp (disch:=try exact DI) only [↓PR,QR,simprocAttr]
            rw [op_eqNil_none Tryz.underlying113]
            simp (disch:=try exact DI) only [↓PR,QR,simprocAttr,(cells_of_heap o5).1,(cells_of_heap o5).2]
            have o6:=heap_set (o:=1) o5 (.int .i64 ((valL (d::no):Nat):Int))
            have hR6:=hR _ _ ((KR7.refl V w5).setCell w.heap.size 1 (.int .i64 ((valL (d::no):Nat):Int)) (.inl hpV)) hR5
            have H6:=(StI.lasts w0 46 s k) _ _ _ _ (LW7.cell (V:=fun b=>V b∨b=w.heap.size) (l:=w.heap.size) (.inr rfl) 1 (.int .i64 ((valL (d::no):Nat):Int))) H5
            have z6:(w5.setCell ⟨w.heap.size,1,none⟩ (.int .i64 ((valL (d::no):Nat):Int))).heap.size=w5.heap.size:=by simp
            exact st_name (x:=(nm,valL (d::no))) (H6.sub fun b hb => .inl hb) hR hR6 o6 hpc (by have:=(atoi_range hm1).2;show valL (d::no)≤_;omega) (hst' _ rfl) hnone hk (fun b hb=>by have:=hV b hb;omega) hK hX
          · exact absurd hm1 (hn1 _)
        · rcases hn with ⟨hn1,_⟩ | ⟨_,ty,xv,rfl⟩
          · exact absurd hn1 (hm1 _)
          · simp (disch:=try exact DI) only [↓PR,QR,simprocAttr]
            rw [op_eqNil_some Tryz.underlying113]
            simp (disch:=try exact DI) only [↓PR,QR,simprocAttr]
            exact st_name (x:=(nm,65536)) (H5.sub fun b hb => .inl hb) hR hR5 o5 hpc (by simp) (hst' _ (by unfold capN;omega)) hnone hk (fun b hb=>by have:=hV b hb;omega) hK hX
   · have hqn:¬ mkB q=(⟨#[]⟩:ByteArray):=fun h=>hq0 (by
      have:=congrArg (fun b:ByteArray=>b.data.toList) h
      rwa [mkB_data] at this)
     rw [if_neg (fun h=>hq0 (hq.2 h.2.1))] at hst
     simp (disch:=try exact DI) only [↓PR,QR,simprocAttr,hqn,hS1.1,hS1.2,hS2.1,hS2.2]
     exact hX _ (hstop hst).1 (hstop hst).2
theorem steps_ret {w0:World} (hE:EnvOK w0) (s:List UInt8) (hs:s.length≤100000000):Ret Pg 81 #[.string (mkB s)] w0 fun r w'=>StepsK w0 s r w':=by
 refine n84s (R:=retR _) ?_;unfold n84
 cases s with
 | nil =>
  rw [show mkB []=(⟨#[]⟩:ByteArray) from rfl]
  simp (disch:=try exact DI) only [↓PR,QR,simprocAttr]
  have o1:=heap_new w0 #[.slice none 0 0] 120
  have e1:Ext w0 (w0.alloc (.cells #[.slice none 0 0] 120)):=ee
  have z1:(w0.alloc (.cells #[.slice none 0 0] 120)).heap.size=w0.heap.size+1:=by simp
  generalize (w0.alloc (.cells #[.slice none 0 0] 120))=w1 at *
  have o2:=heap_new w1 #[.bool false] 4
  have e2:Ext w1 (w1.alloc (.cells #[.bool false] 4)):=ee
  generalize (w1.alloc (.cells #[.bool false] 4))=w2 at *
  rw [z1] at o2
  unfold n84c11
  have b0:=e2.obj o1
  have b1:(w2.setCell ⟨w0.heap.size,0,none⟩ (Value.slice none 0 0)).heap[w0.heap.size+1]?=some (.cells #[.bool false] 4 (0,0)):=(heap_setE (by omega)).trans o2
  simp (disch:=try exact DI) only [↓PR,QR,simprocAttr,(cells_of_heap b0).1,(cells_of_heap b0).2,(cells_of_heap b1).1,(cells_of_heap b1).2]
  simp (disch:=try exact DI) only [↓PR,QR,simprocAttr,outX_nil,retV,resOne,(cells_of_heap b0).1,(cells_of_heap b0).2,(cells_of_heap b1).1,(cells_of_heap b1).2]
  refine ⟨⟨(e1.trans e2).os,(e1.trans e2).tape,(e1.trans e2).output,by simpa using (e1.trans e2).size,fun b hb=>?_⟩,_,[],rfl,SliceOf.nil _ _ _,rfl,fun x h=>by cases h⟩
  rw [heap_setE (by omega),heap_setE (by omega)]
  exact (e1.trans e2).block b hb
 | cons x s =>
  have h0:¬ mkB (x::s)=(⟨#[]⟩:ByteArray):=by
   intro h
   have:=congrArg (fun b:ByteArray=>b.data.toList) h
   simp [mkB_data] at this
  simp (disch:=try exact DI) only [↓PR,QR,simprocAttr,h0]
  unfold n84c12
  simp (disch:=try exact DI) only [↓PR,QR,simprocAttr]
  have o1:=heap_new w0 #[.slice none 0 0] 120
  have e1:Ext w0 (w0.alloc (.cells #[.slice none 0 0] 120)):=ee
  have z1:(w0.alloc (.cells #[.slice none 0 0] 120)).heap.size=w0.heap.size+1:=by simp
  generalize (w0.alloc (.cells #[.slice none 0 0] 120))=w1 at *
  have o2:=heap_new w1 #[.bool false] 4
  have e2:Ext w1 (w1.alloc (.cells #[.bool false] 4)):=ee
  have z2:(w1.alloc (.cells #[.bool false] 4)).heap.size=w0.heap.size+2:=by simp [z1]
  generalize (w1.alloc (.cells #[.bool false] 4))=w2 at *
  have o3:=heap_new w2 #[.slice none 0 0] 120
  have e3:Ext w2 (w2.alloc (.cells #[.slice none 0 0] 120)):=ee
  have z3:(w2.alloc (.cells #[.slice none 0 0] 120)).heap.size=w0.heap.size+3:=by simp [z2]
  generalize (w2.alloc (.cells #[.slice none 0 0] 120))=w3 at *
  rw [z1] at o2
  rw [z2] at o3
  rw [z2]
  have b0:=e3.obj (e2.obj o1)
  have b1:=e3.obj o2
  have e:=e1.trans (e2.trans e3)
  clear o1 o2 e1 e2 e3 z1 z2 w1 w2
  refine callK_ret (SplitSeq_ret w3 46 (x::s)) ?_
  rintro _ w4 ⟨rfl,hSp,e4⟩
  rw [z3] at hSp ⊢
  have b0:=e4.obj b0
  have b1:=e4.obj b1
  have b2:=e4.obj o3
  have e:=e.trans e4
  have z4:w0.heap.size+6≤w4.heap.size:=by
   have:=(Array.getElem?_eq_some_iff.1 hSp.2.2).1
   omega
  clear o3 e4
  unfold n84c10
  have hV0:∀ b,(fun b=>b=w0.heap.size+3) b→w0.heap.size≤b:=fun b h=>by have:b=w0.heap.size+3:=h;omega
  have H0:StI w0 46 (x::s) 0 (· = w0.heap.size+3) w4:=⟨⟨e,hV0⟩,⟨by omega,b0⟩,⟨by omega,b1⟩,⟨_,[],⟨by omega,b2⟩,⟨OwnE.nil _ _ _ _ _,fun g hg=>by cases hg⟩,rfl,rfl,fun x h=>by cases h⟩,⟨by omega,hSp.2.1⟩,⟨by omega,hSp.2.2⟩⟩
  refine ⟨136,_,_,_,_,_,_,fun k=>StI w0 46 (x::s) k,fun c V w=>c=0∧StX w0 (x::s) V w,fun _ _ _=>False,rfl,c136,splitSeq_seq (w0.heap.size+3) 46 (x::s) hs,fun w' e'=>⟨e'.obj hSp.1,e'.obj hSp.2.1,e'.obj hSp.2.2⟩,fun b hb=>?_,H0,fun k V w h=>⟨h.sep.2,h.sav.2⟩,fun k=>StI.lasts _ _ _ _,fun c=>(Lasts7.const _).and (StX.lasts _ _),fun ch=>Lasts7.const _,?_,?_,?_,?_⟩
  · have:b=w0.heap.size+3:=hb
    omega
  · rintro Rk _ hR hV j _ w5 hj ⟨⟨pc,hpc,rfl⟩,rfl⟩ HI hRw hlt hready
    refine ⟨hready,fun w6 hbz=>?_⟩
    have hVlt:∀ b,plusB (· = w0.heap.size+3) w4.heap.size b→b≤w4.heap.size+1:=by
     rintro b (h | h | h)
     · have:b=w0.heap.size+3:=h
       omega
     · omega
     · omega
    have hR6:=hR _ _ (KR7.busied hbz) hRw
    have H6:=(StI.lasts _ _ _ _).busied hbz (show plusB (· = w0.heap.size+3) w4.heap.size (w4.heap.size+1) from .inr (.inr rfl)) HI
    have hz6:w5.heap.size=w6.heap.size:=by
     obtain ⟨r,_,rfl⟩:=hbz
     simp
    generalize hVe:plusB (· = w0.heap.size+3) w4.heap.size=V at *
    have hlen:=splitB_len 46 (x::s)
    have hpl:=splitB_mem 46 (x::s) pc (List.mem_of_getElem? hpc)
    refine zcr (CutOne_ret (hE.ext H6.frm.1) 58 pc (by omega)) fun w7 e7=>?_
    have hR7:=hR _ _ (KR7.of e7) hR6
    have H7:=(StI.lasts _ _ _ _).ext H6 e7
    have hz7:=e7.size
    refine steps_body hE H7 hR hR7 (by simp) hpc (by omega) (by omega) (fun b hb=>by have:=hVlt b hb;omega) (fun w8 h1 h2=>⟨h1,h2⟩) fun w8 h1 h2=>⟨h1,rfl,h2⟩
  · intro V w' H hm
    obtain ⟨v,rows,h1,h2,h3,h4,hb9⟩:=H.acc
    have h6:=h2.1.slice (E:=EStp) (fun _=>rfl) (fun _ _=>rfl)
    have hv1:=h6.oneCell
    rw [List.take_length] at h3
    have hP:stepsP (x::s)=some (rows.map capS):=by
     unfold stepsP
     rw [if_neg (by simp),h3]
    have k1:(w'.setCell ⟨w0.heap.size,0,none⟩ v).heap[w0.heap.size+1]?=some (.cells #[.bool false] 4 (0,0)):=(heap_setE (by omega)).trans H.is.2
    unfold n84c9
    simp (disch:=try exact DI) only [↓PR,QR,simprocAttr,(cells_of_heap h1.2).1,(cells_of_heap H.res.2).1,(cells_of_heap H.res.2).2,(cells_of_heap k1).1,(cells_of_heap k1).2]
    have hE2:Ext w0 ((w'.setCell ⟨w0.heap.size,0,none⟩ v).setCell ⟨w0.heap.size+1,0,none⟩ (.bool true)):=⟨H.frm.1.os,H.frm.1.tape,H.frm.1.output,by simpa using H.frm.1.size,fun b hb=>by
     rw [heap_setE (by omega),heap_setE (by omega)]
     exact H.frm.1.block b hb⟩
    have k2:((w'.setCell ⟨w0.heap.size,0,none⟩ v).setCell ⟨w0.heap.size+1,0,none⟩ (.bool true)).heap[w0.heap.size]?=some (.cells #[v] 120 (0,0)):=(heap_setE (by omega)).trans (heap_set (o:=0) H.res.2 _)
    refine steps_out hE2 k2 (heap_set (o:=0) k1 _) hv1 ((hm.setCell _ _).setCell _ _) (by omega) fun w8 e8 k8=>⟨e8,?_⟩
    rw [hP]
    refine ⟨v,rows,rfl,OwnE.slice (OwnE.same h2.1 fun g hg=>?_) (fun _=>rfl) (fun _ _=>rfl),rfl,hb9⟩
    have hg6:=OwnE.lt' h2.1 hg
    rw [k8 g fun e=>?_,heap_setE (by omega),heap_setE (by omega)]
    obtain ⟨cs,f,t⟩:=OwnE.type h2.1 hg
    rw [e] at t
    have hm':w'.heap[w4.heap.size]?=some _:=hm
    rw [t] at hm'
    cases hm'
  · rintro c V w' ⟨rfl,H⟩ hm
    refine steps_out H.frm.1 H.res.2 H.is.2 rfl hm (by omega) fun w8 e8 k8=>⟨e8,?_⟩
    rw [H.none]
    exact ⟨_,rfl⟩
  · intro ch V w' h
    exact h.elim
def findI (o:Option Nat):Int:=match o with
 | none => -1
 | some i=>(i:Int)
theorem find1_ret (W:World) (q:Nat) (nm:ByteArray) (n0:Int) (m:Nat) (hm:m≤9223372036854775807) (v:Value) (t:Tr) (hv:ValAt W v t) (h1:W.heap[q]?=some (.cells #[.string nm,.int .i64 n0] 106 (0,0))) (h2:W.heap[q+1]?=some (.cells #[.int .i64 (m:Int)] 3 (0,0))) :
 Ret Pg 92 #[v,.pointer (some ⟨q,0,none⟩),.pointer (some ⟨q+1,0,none⟩)] W fun r w'=>(if t.nd.name=nm then r = .bool (decide (m=0))∧(m≠0→w'.heap[q+1]?=some (.cells #[.int .i64 ((m - 1:Nat):Int)] 3 (0,0))) else r = .bool false∧w'.heap[q+1]?=W.heap[q+1]?)∧W.heap.size≤w'.heap.size∧(∀ k,k < W.heap.size→k≠q+1→w'.heap[k]?=W.heap[k]?)∧w'.os=W.os∧w'.tape=W.tape∧w'.output=W.output:=by
 obtain ⟨bv,hv',pv,rfl,hB,hH,hT,o1,o2,o3⟩:=hv.op
 refine n68s (R:=retR _) ?_;unfold n68
 simp (disch:=try exact DI) only [↓PR,QR,simprocAttr,fun o=>(cells_of_heap (((Ext.refl W).alloc o).obj h1)).1]
 by_cases hn:t.nd.name=nm
 · simp only [if_pos hn]
   simp (disch:=try exact DI) only [↓PR,QR,simprocAttr,hn]
   unfold n68c1
   generalize hY:World.alloc W _=Y
   have eY:Ext W Y:=by rw [← hY];exact (Ext.refl W).alloc _
   clear hY
   have c2:=eY.obj h2
   simp (disch:=try exact DI) only [↓PR,QR,simprocAttr,(cells_of_heap c2).1,(cells_of_heap c2).2]
   have hw:IntKind.i64.wrap ((m:Int) - 1)=(m:Int) - 1:=wrap_ok (by omega) (by omega)
   rw [hw]
   refine ⟨⟨?_,fun h0=>?_⟩,eY.size,fun k hk hne=>(heap_setE hne).trans (eY.block k hk),eY.os,eY.tape,eY.output⟩
   · congr 1
     exact decide_eq_decide.2 (by omega)
   · have:=heap_set (o:=0) c2 (.int .i64 ((m:Int) - 1))
     rw [this,show (m:Int) - 1=((m - 1:Nat):Int) by omega]
     rfl
 · simp only [if_neg hn]
   simp (disch:=try exact DI) only [↓PR,QR,simprocAttr,hn]
   have eY:Ext W (W.alloc (.cells (trCells t.nd bv hv' pv).toArray 26)):=(Ext.refl W).alloc _
   exact ⟨⟨trivial,eY.block _ (Array.getElem?_eq_some_iff.1 h2).1⟩,by omega,fun k hk _=>eY.block k hk,rfl,rfl,rfl⟩
theorem indexFind_ret {A W:World} (eA:Ext A W) {q:Nat} (hq:A.heap.size≤q) (nm:ByteArray) (n:Nat) (hn:n≤9223372036854775807) (v:Value) (ps:List Tr) (hps:TrsOf A v ps) (h1:W.heap[q]?=some (.cells #[.string nm,.int .i64 (n:Int)] 106 (0,0))) (h2:W.heap[q+1]?=some (.cells #[.int .i64 (n:Int)] 3 (0,0))) :
 Ret Pg 91 #[v,.func (.func 92) #[] #[.pointer (some ⟨q,0,none⟩),.pointer (some ⟨q+1,0,none⟩)]] W fun r w'=>r = .int .i64 (findI (findT nm n ps))∧Ext A w':=by
 obtain ⟨B,c,rfl,hlc,hcm,hlm,hel⟩:=SliceOf.open hps
 refine n43s (R:=retR _) ?_;unfold n43
 simp (disch:=try exact DI) only [↓PR,QR,simprocAttr]
 refine loop1_intro (fun i w=>∃ k m:Nat,i = .int .i64 k∧k≤ps.length∧m≤n∧Ext A w∧w.heap[q]?=some (.cells #[.string nm,.int .i64 (n:Int)] 106 (0,0))∧w.heap[q+1]?=some (.cells #[.int .i64 (m:Int)] 3 (0,0))∧findT nm n ps=(findT nm m (ps.drop k)).map (· + k)) (fun i _=>ps.length - (intOf i).toNat) ⟨0,n,rfl,by omega,Nat.le_refl _,eA,h1,h2,by simp⟩ ?_
 rintro i w ⟨k,m,rfl,hk,hm,e,c1,c2,hf⟩
 by_cases hlt:k < ps.length
 · obtain ⟨x,hx⟩:=getElem?_lt hlt
   obtain ⟨b,o,cs,rfl,hl,hA,hE⟩:=hel k x hx
   obtain ⟨bv,hv',pv,rfl,hB,hH,hT,o1,o2,o3⟩:=hE.op
   have hVx:ValAt A (.agg (trCells x.nd bv hv' pv).toArray) x:=⟨_,_,_,rfl,hB,hH,hT⟩
   have hd:decide ((k:Int) < (ps.length:Int))=true:=by simp;omega
   have hdk:(k:Int) < (ps.length:Int):=by omega
   have hdrop:ps.drop k=x::ps.drop (k+1):=by
    rw [List.drop_eq_getElem_cons hlt]
    congr 1
    have:=List.getElem?_eq_getElem hlt
    rw [hx] at this
    injection this with this
    exact this.symm
   rw [hdrop,findT] at hf
   have hwk:IntKind.i64.wrap ((k:Int)+1)=((k+1:Nat):Int):=by rw [wrap_ok (by omega) (by omega)];omega
   simp (disch:=try exact DI) only [↓PR,QR,simprocAttr,hd]
   unfold n43c1
   simp (disch:=try exact DI) only [↓PR,QR,simprocAttr,hdk,hA.c5 e]
   rw [callV_func c92]
   simp only [Array.empty_append]
   refine callK_ret (find1_ret w q nm n m (by omega) _ x (hVx.ext e) c1 c2) ?_
   rintro r w' ⟨hr,hz,hkp,g1,g2,g3⟩
   have e':Ext A w':=⟨g1.trans e.os,g2.trans e.tape,g3.trans e.output,Nat.le_trans e.size hz,fun j hj=>(hkp j (Nat.lt_of_lt_of_le hj e.size) (by omega)).trans (e.block j hj)⟩
   have c1':=(hkp q (Array.getElem?_eq_some_iff.1 c1).1 (by omega)).trans c1
   by_cases hnm:x.nd.name=nm
   · simp only [if_pos hnm] at hr hf
     obtain ⟨rfl,hr2⟩:=hr
     by_cases hm0:m=0
     · simp only [if_pos hm0] at hf
       simp (disch:=try exact DI) only [↓PR,QR,simprocAttr,hm0]
       refine ⟨?_,e'⟩
       rw [hf]
       show Value.int _ _=Value.int _ _
       congr 1
       show (k:Int)=((0+k:Nat):Int)
       omega
     · simp only [if_neg hm0] at hf
       simp (disch:=try exact DI) only [↓PR,QR,simprocAttr,hm0,hwk]
       refine ⟨⟨k+1,m - 1,rfl,by omega,by omega,e',c1',hr2 hm0,?_⟩,meas_lt (kd := .i64) hlt⟩
       rw [hf,Option.map_map]
       congr 1
       funext j
       show j+1+k=j+(k+1)
       omega
   · simp only [if_neg hnm] at hr hf
     obtain ⟨rfl,hr2⟩:=hr
     simp (disch:=try exact DI) only [↓PR,QR,simprocAttr,hwk]
     refine ⟨⟨k+1,m,rfl,by omega,by omega,e',c1',hr2.trans c2,?_⟩,meas_lt (kd := .i64) hlt⟩
     rw [hf,Option.map_map]
     congr 1
     funext j
     show j+1+k=j+(k+1)
     omega
 · have hd:decide ((k:Int) < (ps.length:Int))=false:=by simp;omega
   simp (disch:=try exact DI) only [↓PR,QR,simprocAttr,hd]
   rw [List.drop_of_length_le (by omega)] at hf
   exact ⟨by rw [hf];rfl,e⟩
theorem find_ret (w0:World) (v:Value) (t:Tr) (nm:ByteArray) (n:Nat) (hn:n≤9223372036854775807) (hv:ValAt w0 v t):Ret Pg 67 #[v,.agg #[.string nm,.int .i64 (n:Int)]] w0 fun r w'=>r = .int .i64 (findI (findT nm n t.ps))∧Ext w0 w':=by
 obtain ⟨bv,hv',pv,rfl,hB,hH,hT,o1,o2,o3⟩:=hv.op
 refine n67s (R:=retR _) ?_;unfold n67
 simp (disch:=try exact DI) only [↓PR,QR,simprocAttr]
 have e1:Ext w0 (w0.alloc (.cells (trCells t.nd bv hv' pv).toArray 26)):=(Ext.refl w0).alloc _
 have z1:(w0.alloc (.cells (trCells t.nd bv hv' pv).toArray 26)).heap.size=w0.heap.size+1:=by simp
 generalize (w0.alloc (.cells (trCells t.nd bv hv' pv).toArray 26))=w1 at *
 have c2:=heap_new w1 #[.string nm,.int .i64 (n:Int)] 106
 have e2:Ext w1 (w1.alloc (.cells #[.string nm,.int .i64 (n:Int)] 106)):=ee
 have z2:(w1.alloc (.cells #[.string nm,.int .i64 (n:Int)] 106)).heap.size=w1.heap.size+1:=by simp
 generalize (w1.alloc (.cells #[.string nm,.int .i64 (n:Int)] 106))=w2 at *
 have c3:=heap_new w2 #[.int .i64 (n:Int)] 3
 have e3:Ext w2 (w2.alloc (.cells #[.int .i64 (n:Int)] 3)):=ee
 generalize (w2.alloc (.cells #[.int .i64 (n:Int)] 3))=w3 at *
 rw [z2] at c3
 rw [z1] at c2 c3
 refine callK_ret (indexFind_ret (e1.trans (e2.trans e3)) (q:=w0.heap.size+1) (by omega) nm n hn pv t.ps hT (e3.obj c2) c3) ?_
 rintro _ w4' ⟨rfl,e4⟩
 simp (disch:=try exact DI) only [↓PR,QR,simprocAttr]
 exact ⟨trivial,e4⟩
def pathT:List Stp→Tr→Option (List Nat)
 | [],_=>some []
 | x::l,t=>match findT (mkB x.1) x.2 t.ps with
  | none=>none
  | some i=>match t.ps[i]? with
   | none=>none
   | some p=>(pathT l p).map (i::·)
def PtrAt (w:World):Nat→Nat→List Nat→Nat→Nat→Prop
 | b,o,[],b',o'=>b=b'∧o=o'
 | b,o,i::is,b',o'=>∃ g og len cap,w.cell? ⟨b,o+4,none⟩=some (.slice (some ⟨g,og,none⟩) len cap)∧i < len∧PtrAt w g (og+i*5) is b' o'
theorem PtrAt.app {w:World}:∀ {is js:List Nat} {b o b1 o1 b' o':Nat},PtrAt w b o is b1 o1→PtrAt w b1 o1 js b' o'→PtrAt w b o (is++js) b' o'
 | [],_,_,_,_,_,_,_,⟨rfl,rfl⟩,h=>h
 | _::_,_,_,_,_,_,_,_,⟨g,og,len,cap,h1,h2,h3⟩,h=>⟨g,og,len,cap,h1,h2,PtrAt.app h3 h⟩
theorem PtrAt.ext {w w':World} (e:Ext w w'):∀ {is:List Nat} {b o b' o':Nat},PtrAt w b o is b' o'→PtrAt w' b o is b' o'
 | [],_,_,_,_,h=>h
 | _::_,_,_,_,_,⟨g,og,len,cap,h1,h2,h3⟩=>⟨g,og,len,cap,e.cell h1,h2,PtrAt.ext e h3⟩
theorem nodesT_ps (t:Tr):t.ps.length≤nodesT t∧∀ p∈t.ps,nodesT p < nodesT t:=by
 cases t with
 | mk n ps =>
  rw [nodesT_mk]
  show ps.length≤_∧∀ p∈ps,_
  have h1:∀ q:Tr,1≤nodesT q:=fun q=>by
   cases q
   rw [nodesT_mk]
   omega
  have h2:∀ l:List Tr,l.length≤(l.map nodesT).sum∧∀ p∈l,nodesT p≤(l.map nodesT).sum:=by
   intro l
   induction l with
   | nil=>exact ⟨by simp,fun p h=>by cases h⟩
   | cons q l ih =>
    rw [List.map_cons,List.sum_cons,List.length_cons]
    have:=h1 q
    refine ⟨by omega,fun p hp=>?_⟩
    rcases List.mem_cons.1 hp with rfl | hp
    · omega
    · have:=ih.2 p hp
      omega
  have h3:=h2 ps
  exact ⟨by omega,fun p hp=>by have:=h3.2 p hp;omega⟩
theorem find_cap {t:Tr} (h:nodesT t≤65536) (x:Stp):findT (mkB x.1) x.2 t.ps=findT (mkB (capS x).1) (capS x).2 t.ps:=findT_cap _ _ _ _ (by show _=capN (capN x.2);unfold capN;omega) (by have:=(nodesT_ps t).1;omega)
def AtK (w0:World) (b o:Nat) (s:List UInt8) (t:Tr) (r:Value) (w':World):Prop:=Ext w0 w'∧match stepsP s with
 | none=>r = .tuple #[.pointer none,.int .i64 6]
 | some l=>match pathT l t with
  | none=>r = .tuple #[.pointer none,.int .i64 9]
  | some is=>∃ b' o' t' cs',r = .tuple #[.pointer (some ⟨b',o',none⟩),.int .i64 0]∧PtrAt w0 b o is b' o'∧atT l t=some t'∧cs'.length=5∧ElemAt w0 b' o' cs'∧ETr w0 cs' t'
theorem at_ret {w0:World} (hE:EnvOK w0) (b o:Nat) (cs:List Value) (t:Tr) (s:List UInt8) (hs:s.length≤100000000) (hcs:ElemAt w0 b o cs) (h5:cs.length=5) (ht:ETr w0 cs t) (hn:nodesT t≤65536):Ret Pg 55 #[.pointer (some ⟨b,o,none⟩),.string (mkB s)] w0 fun r w'=>AtK w0 b o s t r w':=by
 refine n64s (R:=retR _) ?_;unfold n64
 refine callK_ret (steps_ret hE s hs) ?_
 rintro r w1 ⟨e1,hr⟩
 unfold n64c6
 cases hP:stepsP s with
 | none =>
  rw [hP] at hr
  obtain ⟨v,rfl⟩:=hr
  simp (disch:=try exact DI) only [↓PR,QR,simprocAttr]
  refine ⟨e1,?_⟩
  rw [hP]
 | some l =>
  rw [hP] at hr
  obtain ⟨v,rows,rfl,hSl,rfl,hb9⟩:=hr
  obtain ⟨B,c,rfl,hlc,hcm,hlm,hel⟩:=SliceOf.open hSl
  simp (disch:=try exact DI) only [↓PR,QR,simprocAttr]
  unfold n64c5
  simp (disch:=try exact DI) only [↓PR,QR,simprocAttr]
  refine loop2_intro (fun a i w=>∃ (k:Nat) (is:List Nat) (b1 o1:Nat) (t1:Tr) (cs1:List Value),a = .pointer (some ⟨b1,o1,none⟩)∧i = .int .i64 k∧k≤rows.length∧Ext w1 w∧PtrAt w0 b o is b1 o1∧cs1.length=5∧ElemAt w0 b1 o1 cs1∧ETr w0 cs1 t1∧nodesT t1≤65536∧atT (rows.map capS) t=atT ((rows.map capS).drop k) t1∧pathT (rows.map capS) t=(pathT ((rows.map capS).drop k) t1).map (is++·)) (fun _ i _=>rows.length - (intOf i).toNat) ⟨0,[],b,o,t,cs,rfl,rfl,by omega,Ext.refl _,⟨rfl,rfl⟩,h5,hcs,ht,hn,rfl,by simp⟩ ?_
  rintro _ _ w ⟨k,is,b1,o1,t1,cs1,rfl,rfl,hk,e,hp,h51,hA1,hT1,hn1,hat,hpa⟩
  by_cases hlt:k < rows.length
  · obtain ⟨x,hx⟩:=getElem?_lt hlt
    obtain ⟨bb,oo,cs2,rfl,hl2,hA2,rfl⟩:=hel k x hx
    have hd:decide ((k:Int) < (rows.length:Int))=true:=by simp;omega
    have hdk:(k:Int) < (rows.length:Int):=by omega
    simp (disch:=try exact DI) only [↓PR,QR,simprocAttr,hd]
    unfold n64c4
    have hA2':ElemAt w bb (oo+k*2) [.string (mkB x.1),.int .i64 (x.2:Int)]:=hA2.ext e
    obtain ⟨r1,r2⟩:=hA2'.c2 (Ext.refl _)
    simp (disch:=try exact DI) only [↓PR,QR,simprocAttr,hdk,r1,r2]
    have e3:Ext w (w.alloc (.cells #[.string (mkB x.1),.int .i64 (x.2:Int)] 106)):=ee
    have o3:=heap_new w #[.string (mkB x.1),.int .i64 (x.2:Int)] 106
    generalize (w.alloc (.cells #[.string (mkB x.1),.int .i64 (x.2:Int)] 106))=w3 at *
    refine drawK_intro ?_
    have eD:Ext w3 (drew w3):=(Ext.refl w3).drew
    have oD:=eD.obj o3
    have e4:=e3.trans eD
    generalize drew w3=D at *
    clear o3 e3 eD w3
    unfold n64c3
    obtain ⟨bv,hv',pv,rfl,hB,hH,hT,o1',o2',o3'⟩:=hT1.op
    obtain ⟨d1,d2,d3,d4,d5⟩:=hA1.c5 (e1.trans (e.trans e4))
    simp (disch:=try exact DI) only [↓PR,QR,simprocAttr,(cells_of_heap oD).1,d1,d2,d3,d4,d5]
    have hVx:ValAt w0 (.agg (trCells t1.nd bv hv' pv).toArray) t1:=⟨_,_,_,rfl,hB,hH,hT⟩
    refine zcr (find_ret D _ t1 (mkB x.1) x.2 (hb9 x (List.mem_of_getElem? hx)) (hVx.ext (e1.trans (e.trans e4)))) fun w6 e6=>?_
    refine ⟨e6,?_⟩
    have hdrop:(rows.map capS).drop k=capS x::(rows.map capS).drop (k+1):=by
     have hlt':k < (rows.map capS).length:=by simpa using hlt
     rw [List.drop_eq_getElem_cons hlt']
     congr 1
     have h1:=List.getElem?_eq_getElem hlt'
     rw [List.getElem?_map,hx] at h1
     injection h1 with h1
     exact h1.symm
    rw [hdrop,atT,← find_cap hn1 x] at hat
    rw [hdrop,pathT,← find_cap hn1 x] at hpa
    unfold n64c2
    cases hf:findT (mkB x.1) x.2 t1.ps with
    | none =>
     rw [hf] at hpa
     have hd1:decide (findI none < 0)=true:=rfl
     have hd2:findI none < 0:=by decide
     simp (disch:=try exact DI) only [↓PR,QR,simprocAttr,hd1,hd2]
     refine ⟨e1.trans (e.trans (e4.trans e6)),?_⟩
     rw [hP]
     simp only
     have hpn:pathT (rows.map capS) t=none:=hpa
     rw [hpn]
     trivial
    | some i =>
     rw [hf] at hpa hat
     have hil:=findT_lt _ _ _ _ hf
     obtain ⟨y,hy⟩:=getElem?_lt hil
     simp only [hy] at hpa hat
     obtain ⟨A3,c3,rfl,hlc3,hcm3,hlm3,hel3⟩:=SliceOf.open hT
     obtain ⟨b3,o3,cs3,rfl,hl3,hA3,hE3⟩:=hel3 i y hy
     have hd2:¬ ((i:Int) < 0):=by omega
     have hd3:(i:Int) < (t1.ps.length:Int):=by omega
     have hwk:IntKind.i64.wrap ((k:Int)+1)=((k+1:Nat):Int):=by rw [wrap_ok (by omega) (by omega)];omega
     obtain ⟨f1,f2,f3,f4,f5⟩:=hA1.c5 (e1.trans (e.trans (e4.trans e6)))
     rw [show findI (some i)=(i:Int) from rfl]
     simp (disch:=try exact DI) only [↓PR,QR,simprocAttr,hd2]
     unfold n64c1
     simp (disch:=try exact DI) only [↓PR,QR,simprocAttr,f5,hd3,hwk]
     have hyn:=(nodesT_ps t1).2 y (List.mem_of_getElem? hy)
     refine ⟨⟨k+1,is++[i],b3,o3+i*5,y,cs3,rfl,rfl,by omega,e.trans (e4.trans e6),hp.app ⟨b3,o3,_,_,hA1 4 _ rfl,hil,rfl,rfl⟩,hl3,hA3,hE3,by omega,hat,?_⟩,meas_lt (kd := .i64) hlt⟩
     rw [hpa,Option.map_map]
     congr 1
     funext j
     simp
  · have hd:decide ((k:Int) < (rows.length:Int))=false:=by simp;omega
    obtain rfl:k=rows.length:=by omega
    simp (disch:=try exact DI) only [↓PR,QR,simprocAttr,hd]
    rw [List.drop_of_length_le (by simp)] at hat hpa
    refine ⟨e1.trans e,?_⟩
    rw [hP]
    simp only
    rw [hpa]
    exact ⟨b1,o1,t1,cs1,rfl,by simpa using hp,hat,h51,hA1,hT1⟩
theorem path_at:∀ (l:List Stp) (t:Tr),pathT l t=none↔atT l t=none
 | [],t=>by simp [pathT,atT]
 | x::l,t=>by
  rw [pathT,atT]
  cases findT (mkB x.1) x.2 t.ps with
  | none=>simp
  | some i =>
   simp only
   cases t.ps[i]? with
   | none=>simp
   | some p =>
    simp only [Option.map_eq_none_iff]
    exact path_at l p
theorem validT_part {t p:Tr} (h:validT t=true) (hp:p∈t.ps):validT p=true:=by
 have hn:=(nodesT_ps t).2 p hp
 cases t with
 | mk n ps =>
  unfold validT at h ⊢
  simp only [Bool.and_eq_true,decide_eq_true_eq,allT_mk,List.all_eq_true,heightT_mk] at h ⊢
  have hh:=(foldr_max_le (l:=ps.map heightT) (m:=(ps.map heightT).foldr max 0)).1 (Nat.le_refl _) _ (List.mem_map_of_mem hp)
  exact ⟨⟨by omega,by omega⟩,h.2.2 p hp⟩
theorem validT_at:∀ (l:List Stp) (t t':Tr),validT t=true→atT l t=some t'→validT t'=true
 | [],t,t',h,he=>by injection he with he;rw [← he];exact h
 | x::l,t,t',h,he=>by
  rw [atT] at he
  cases hf:findT (mkB x.1) x.2 t.ps with
  | none=>rw [hf] at he;cases he
  | some i =>
   rw [hf] at he
   simp only at he
   cases hi:t.ps[i]? with
   | none=>rw [hi] at he;cases he
   | some p =>
    rw [hi] at he
    exact validT_at l p t' (validT_part h (List.mem_of_getElem? hi)) he
theorem valid_nodes {t:Tr} (h:validT t=true):nodesT t≤65536:=by
 unfold validT at h
 simp only [Bool.and_eq_true,decide_eq_true_eq] at h
 exact h.1.1
theorem valid_fit {t:Tr} (h:validT t=true):fitT t=true:=by
 have hn:=valid_nodes h
 have key:∀ t:Tr,allT nodeB t=true→allT fitN t=true:=fun t=>by
  refine Tr.ind (p:=fun t=>allT nodeB t=true→allT fitN t=true) ?_ t
  intro n ps ih h
  rw [allT_mk,Bool.and_eq_true,List.all_eq_true] at h ⊢
  refine ⟨?_,fun x hx=>ih x hx (h.2 x hx)⟩
  have h1:=h.1
  unfold nodeB at h1
  unfold fitN
  simp only [Bool.and_eq_true,decide_eq_true_eq] at h1 ⊢
  omega
 unfold fitT
 unfold validT at h
 simp only [Bool.and_eq_true,decide_eq_true_eq] at h ⊢
 exact ⟨key t h.2,by omega⟩
abbrev zeroV:Value := .agg #[.string ByteArray.empty,.int .i64 0,.slice none 0 0,.slice none 0 0,.slice none 0 0]
theorem zero_out {A w:World} {p:Nat} {c0 c1 c2 c3 c4 e:Value} {Q:Value→World→Prop} (hp:A.heap.size≤p) (eA:Ext A w) (r2:w.heap[p]?=some (.cells #[c0,c1,c2,c3,c4] 26 (0,0))) (hQ:∀ w',Ext A w'→(∀ k,k≠p→w'.heap[k]?=w.heap[k]?)→Q (.tuple #[zeroV,e]) w') :
 opV Pg (Instr.build 26 #[]) (panK (retR Q)) w fun t19 w=>opU Pg (Instr.storeAt 26 (.pointer (some ⟨p,0,none⟩)) t19) (panK (retR Q)) w fun w=>qW Pg 26 (.pointer (some ⟨p,0,none⟩)) w fun r0=>retR Q (.returned (.tuple #[r0,e])) w:=by
 have g2:=setCells_heap [.string ByteArray.empty,.int .i64 0,.slice none 0 0,.slice none 0 0,.slice none 0 0] 0 r2
 rw [setA_all (vs:=[.string ByteArray.empty,.int .i64 0,.slice none 0 0,.slice none 0 0,.slice none 0 0]) (cs := #[c0,c1,c2,c3,c4]) rfl] at g2
 have gE:Ext A (setCells w p 0 [.string ByteArray.empty,.int .i64 0,.slice none 0 0,.slice none 0 0,.slice none 0 0]):=setCells_ext [.string ByteArray.empty,.int .i64 0,.slice none 0 0,.slice none 0 0,.slice none 0 0] w 0 A eA hp
 have gO:Only p w (setCells w p 0 [.string ByteArray.empty,.int .i64 0,.slice none 0 0,.slice none 0 0,.slice none 0 0]):=setCells_only [.string ByteArray.empty,.int .i64 0,.slice none 0 0,.slice none 0 0,.slice none 0 0] w 0
 simp (disch:=try exact DI) only [↓PR,QR,simprocAttr,(cells_of_heap r2).1,(cells_of_heap r2).2]
 exact hQ _ gE fun k hk=>gO k hk
theorem zero_fin {A w:World} {p:Nat} {e:Value} {Q:Value→World→Prop} (hp:A.heap.size≤p) (eA:Ext A w) (hQ:∀ w',Ext A w'→(∀ k,k≠p→w'.heap[k]?=w.heap[k]?)→Q (.tuple #[zeroV,e]) w') :
 Q (.tuple #[zeroV,e]) (setCells w p 0 [.string ByteArray.empty,.int .i64 0,.slice none 0 0,.slice none 0 0,.slice none 0 0]):=by
 have gE:Ext A (setCells w p 0 [.string ByteArray.empty,.int .i64 0,.slice none 0 0,.slice none 0 0,.slice none 0 0]):=setCells_ext [.string ByteArray.empty,.int .i64 0,.slice none 0 0,.slice none 0 0,.slice none 0 0] w 0 A eA hp
 have gO:Only p w (setCells w p 0 [.string ByteArray.empty,.int .i64 0,.slice none 0 0,.slice none 0 0,.slice none 0 0]):=setCells_only [.string ByteArray.empty,.int .i64 0,.slice none 0 0,.slice none 0 0,.slice none 0 0] w 0
 exact hQ _ gE fun k hk=>gO k hk
theorem val_out {A w:World} {p:Nat} {c0 c1 c2 c3 c4 d0 d1 d2 d3 d4 e:Value} {Q:Value→World→Prop} (hp:A.heap.size≤p) (eA:Ext A w) (r2:w.heap[p]?=some (.cells #[c0,c1,c2,c3,c4] 26 (0,0))) (f0:d0.oneCell'=true) (f1:d1.oneCell'=true) (f2:d2.oneCell'=true) (f3:d3.oneCell'=true) (f4:d4.oneCell'=true) (hQ:∀ w',Ext A w'→(∀ k,k≠p→w'.heap[k]?=w.heap[k]?)→w'.heap.size=w.heap.size→Q (.tuple #[.agg #[d0,d1,d2,d3,d4],e]) w') :
 opU Pg (Instr.storeAt 26 (.pointer (some ⟨p,0,none⟩)) (.agg #[d0,d1,d2,d3,d4])) (panK (retR Q)) w fun w=>qW Pg 26 (.pointer (some ⟨p,0,none⟩)) w fun r0=>retR Q (.returned (.tuple #[r0,e])) w:=by
 have g2:=setCells_heap [d0,d1,d2,d3,d4] 0 r2
 rw [setA_all (vs:=[d0,d1,d2,d3,d4]) (cs := #[c0,c1,c2,c3,c4]) rfl] at g2
 have gE:Ext A (setCells w p 0 [d0,d1,d2,d3,d4]):=setCells_ext [d0,d1,d2,d3,d4] w 0 A eA hp
 have gO:Only p w (setCells w p 0 [d0,d1,d2,d3,d4]):=setCells_only [d0,d1,d2,d3,d4] w 0
 have gZ:=setCells_size [d0,d1,d2,d3,d4] (b:=p) w 0
 simp (disch:=try exact DI) only [↓PR,QR,simprocAttr,(cells_of_heap r2).1,(cells_of_heap r2).2]
 exact hQ _ gE (fun k hk=>gO k hk) gZ
def GetK (w0:World) (s:List UInt8) (t:Tr) (r:Value) (w':World):Prop:=Ext w0 w'∧if validT t=true then match stepsP s with
 | none=>r = .tuple #[zeroV,.int .i64 6]
 | some l=>match atT l t with
  | none=>r = .tuple #[zeroV,.int .i64 9]
  | some t'=>∃ cs lo hi,r = .tuple #[.agg cs.toArray,.int .i64 0]∧OwnT w' t' lo hi cs∧w0.heap.size≤lo∧hi≤w'.heap.size
 else r = .tuple #[zeroV,.int .i64 2]
theorem Get_ret {w0:World} (hE:EnvOK w0) (v:Value) (t:Tr) (s:List UInt8) (hs:s.length≤100000000) (hv:ValAt w0 v t) (hb:nodesT t≤1000000000):Ret Pg 27 #[v,.string (mkB s)] w0 fun r w'=>GetK w0 s t r w':=by
 obtain ⟨bv,hv',pv,rfl,hB,hH,hT,o1,o2,o3⟩:=hv.op
 refine n55s (R:=retR _) ?_;unfold n55
 simp (disch:=try exact DI) only [↓PR,QR,simprocAttr]
 rw [show (Value.agg (trCells t.nd bv hv' pv).toArray).cells=(trCells t.nd bv hv' pv).toArray from rfl]
 have c1:=heap_new w0 #[.string t.nd.name,.int .i64 t.nd.int,bv,hv',pv] 26
 change (w0.alloc (.cells (trCells t.nd bv hv' pv).toArray 26)).heap[w0.heap.size]?=_ at c1
 have e1:Ext w0 (w0.alloc (.cells (trCells t.nd bv hv' pv).toArray 26)):=(Ext.refl w0).alloc _
 have z1:(w0.alloc (.cells (trCells t.nd bv hv' pv).toArray 26)).heap.size=w0.heap.size+1:=by simp
 generalize (w0.alloc (.cells (trCells t.nd bv hv' pv).toArray 26))=w1 at *
 have c2:=heap_new w1 #[.string ByteArray.empty,.int .i64 0,.slice none 0 0,.slice none 0 0,.slice none 0 0] 26
 have e2:Ext w1 (w1.alloc (.cells #[.string ByteArray.empty,.int .i64 0,.slice none 0 0,.slice none 0 0,.slice none 0 0] 26)):=ee
 generalize (w1.alloc (.cells #[.string ByteArray.empty,.int .i64 0,.slice none 0 0,.slice none 0 0,.slice none 0 0] 26))=w2 at *
 rw [z1] at c2 ⊢
 have e:=e1.trans e2
 have c1:=e2.obj c1
 have hV:ValAt w2 (.agg (trCells t.nd bv hv' pv).toArray) t:=ValAt.ext ⟨_,_,_,rfl,hB,hH,hT⟩ e
 refine zcr (Valid_ret w2 _ t hV hb) fun w3 e3=>?_
 have c1:=e3.obj c1
 have c2:=e3.obj c2
 have e:=e.trans e3
 cases hva:validT t with
 | false =>
  simp (disch:=try exact DI) only [↓PR,QR,simprocAttr]
  unfold n55c3
  refine zero_out (A:=w0) (by omega) e c2 fun w' e' _=>⟨e',?_⟩
  rw [hva]
  rfl
 | true =>
  simp (disch:=try exact DI) only [↓PR,QR,simprocAttr]
  have hel:ElemAt w3 w0.heap.size 0 (trCells t.nd bv hv' pv):=fun j u hu=>by
   rw [Nat.zero_add,(cells_of_heap c1).1]
   simpa [trCells] using hu
  have hET:ETr w3 (trCells t.nd bv hv' pv) t:=ETr_of.2 ⟨_,_,_,rfl,hB.ext e,hH.ext e,hT.ext e⟩
  refine callK_ret (at_ret (hE.ext e) w0.heap.size 0 _ t s hs hel rfl hET (valid_nodes hva)) ?_
  rintro r w4 ⟨e4,hr⟩
  have c2:=e4.obj c2
  have e:=e.trans e4
  unfold n55c2
  cases hP:stepsP s with
  | none =>
   rw [hP] at hr
   simp only at hr
   subst hr
   simp (disch:=try exact DI) only [↓PR,QR,simprocAttr,(cells_of_heap c2).1,(cells_of_heap c2).2]
   refine zero_fin (A:=w0) (Q:=GetK w0 s t) (by omega) e fun w' e' _=>⟨e',?_⟩
   rw [hva,hP]
   rfl
  | some l =>
   rw [hP] at hr
   simp only at hr
   cases hpt:pathT l t with
   | none =>
    rw [hpt] at hr
    simp only at hr
    subst hr
    simp (disch:=try exact DI) only [↓PR,QR,simprocAttr,(cells_of_heap c2).1,(cells_of_heap c2).2]
    refine zero_fin (A:=w0) (Q:=GetK w0 s t) (by omega) e fun w' e' _=>⟨e',?_⟩
    rw [hva,hP]
    simp only [if_true]
    rw [(path_at l t).1 hpt]
    trivial
   | some is =>
    rw [hpt] at hr
    obtain ⟨b',o',t',cs',rfl,hptr,hat,h5,hA',hT'⟩:=hr
    obtain ⟨bv2,hv2,pv2,rfl,hB2,hH2,hT2,_⟩:=hT'.op
    have hval:=validT_at l t t' hva hat
    obtain ⟨d1,d2,d3,d4,d5⟩:=hA'.c5 e4
    simp (disch:=try exact DI) only [↓PR,QR,simprocAttr]
    unfold n55c1
    simp (disch:=try exact DI) only [↓PR,QR,simprocAttr,d1,d2,d3,d4,d5]
    have hVx:ValAt w4 (.agg (trCells t'.nd bv2 hv2 pv2).toArray) t':=ValAt.ext ⟨_,_,_,rfl,hB2,hH2,hT2⟩ e4
    refine callK_ret (Copy_ret t' w4 _ hVx (valid_fit hval)) ?_
    rintro _ w5 ⟨⟨cs5,rfl,hO⟩,e5⟩
    have c2:=e5.obj c2
    have e:=e.trans e5
    obtain ⟨bv3,hv3,pv3,rfl,_,_,_,f1,f2,f3⟩:=hO.read.op
    have c2lt:w0.heap.size+1 < w4.heap.size:=(Array.getElem?_eq_some_iff.1 (show w4.heap[w0.heap.size+1]?=_ by assumption)).1
    refine val_out (A:=w0) (d0 := .string t'.nd.name) (d1 := .int .i64 t'.nd.int) (by omega) e c2 rfl rfl f1 f2 f3 fun w' e' k' z'=>⟨e',?_⟩
    rw [hva,hP]
    simp only [if_true,hat]
    refine ⟨_,w4.heap.size,w5.heap.size,rfl,OwnT.only (bk:=w0.heap.size+1) k' hO (.inr c2lt),?_,by omega⟩
    omega
theorem InS.mono {w:World} {lo hi B lo' hi' B':Nat} (h1:lo'≤lo) (h2:hi≤hi') (h3:B≤B') (t:Tr):∀ cs,InS w lo hi B t cs→InS w lo' hi' B' t cs:=by
 refine Tr.ind (p:=fun t=>∀ cs,InS w lo hi B t cs→InS w lo' hi' B' t cs) ?_ t
 intro n ps ih cs h
 obtain ⟨nm,i,bv,hv,pv,rfl,g1,g2,g3⟩:=InS_mk.1 h
 refine InS_mk.2 ⟨nm,i,bv,hv,pv,rfl,g1.mono h1 h2 fun _ _ h=>h,g2.mono h1 h2 ?_,g3.mono h1 h2 ?_⟩
 · rintro _ _ ⟨a,b,rfl,h⟩
   exact ⟨a,b,rfl,by omega⟩
 · rintro _ _ ⟨x,hx,h⟩
   exact ⟨x,hx,ih x (List.mem_of_getElem? hx) _ h⟩
def InT (w:World) (lo hi B:Nat) (t:Tr) (cs:List Value):Prop:=ETi w lo hi cs t∧InS w lo hi B t cs
theorem InT.mono {w:World} {lo hi B lo' hi' B':Nat} {t:Tr} {cs:List Value} (h:InT w lo hi B t cs) (h1:lo'≤lo) (h2:hi≤hi') (h3:B≤B'):InT w lo' hi' B' t cs:=⟨h.1.keep h1 h2 fun _ _ _ _=>rfl,InS.mono h1 h2 h3 t cs h.2⟩
theorem OwnR.restr {α:Type} {w:World} {lo hi n:Nat} {T:TypeId} {enc:α→List Value} {v:Value} {l:List α} (h:OwnR w lo hi T n enc v l):OwnE (Go.Proofs.YtcffhmapmaahnaaGreatDoor.restr w lo hi) lo T n enc v l:=OwnE.same h.1 fun g hg=>restr_in ⟨(OwnE.lt' h.1 hg).1,h.2 g hg⟩
theorem InT_mk {w:World} {lo hi B:Nat} {n:Nd} {ps:List Tr} {bv hv pv:Value} {css:List (Cs 5)} (h1:OwnR w lo hi 5 1 encB bv n.bytes) (h2:OwnR w lo hi 74 2 encH hv n.hdrs) (h3:OwnR w lo hi 26 5 (Subtype.val:Cs 5→List Value) pv css) (hB:∀ h∈n.hdrs,h.1.size≤B) (hlen:css.length=ps.length) (hk:∀ (k:Nat) (c:Cs 5) (x:Tr),css[k]?=some c→ps[k]?=some x→InT w lo hi B x c.1):InT w lo hi B (.mk n ps) (trCells n bv hv pv):=by
 refine ⟨ETr_mk.2 ⟨bv,hv,pv,rfl,OwnE.slice (OwnR.restr h1) (fun _=>rfl) (fun _ _=>rfl),OwnE.slice (OwnR.restr h2) (fun _=>rfl) (fun _ _=>rfl),OwnE.reads (OwnR.restr h3) ⟨hlen,fun k x c hx hc=>(hk k c x hc hx).1⟩⟩,?_⟩
 refine InS_mk.2 ⟨_,_,bv,hv,pv,rfl,OwnR.rowIn h1 (fun _=>rfl) (fun k x _=>⟨_,rfl⟩),OwnR.rowIn h2 (fun _=>rfl) (fun k x hx=>⟨_,_,rfl,hB x (List.mem_of_getElem? hx)⟩),?_⟩
 rw [← hlen]
 refine OwnR.rowIn h3 (fun x=>x.2) fun k c hc=>?_
 obtain ⟨x,hx⟩:=getElem?_lt (l:=ps) (k:=k) (by have:=(List.getElem?_eq_some_iff.1 hc).1;omega)
 exact ⟨x,hx,(hk k c x hc hx).2⟩
theorem chain_at {α:Type _} {O:α→Nat→Nat→List Value→Prop} (hO:∀ x a b cs,O x a b cs→a≤b):∀ {l:List α} {m hi:Nat} {css:List (Cs 5)},ChainG O l m hi css→∀ (i:Nat) (x:α) (c:Cs 5),l[i]?=some x→css[i]?=some c→∃ a b,m≤a∧a≤b∧b≤hi∧O x a b c.1∧∀ (k:Nat) (y:α) (d:Cs 5),k≠i→l[k]?=some y→css[k]?=some d→∃ a' b',m≤a'∧b'≤hi∧O y a' b' d.1∧(b'≤a∨b≤a')
 | [],_,_,[],_,i,x,c,hx,_=>by cases hx
 | [],_,_,_::_,h,_,_,_,_,_=>h.elim
 | _::_,_,_,[],h,_,_,_,_,_=>h.elim
 | z::l,m,hi,d0::css,⟨m',h1,h2,h3⟩,0,x,c,hx,hc=>by
  simp only [List.getElem?_cons_zero,Option.some.injEq] at hx hc
  subst hx hc
  have hle:=ChainG_le h3
  refine ⟨m,m',Nat.le_refl _,h1,hle,h2,fun k y d hk hy hd=>?_⟩
  cases k with
  | zero=>exact absurd rfl hk
  | succ k =>
   obtain ⟨a,b,g1,g2,g3,g4,_⟩:=chain_at hO h3 k y d (by simpa using hy) (by simpa using hd)
   exact ⟨a,b,by omega,g3,g4,.inr g1⟩
 | z::l,m,hi,d0::css,⟨m',h1,h2,h3⟩,i+1,x,c,hx,hc=>by
  obtain ⟨a,b,g1,g2,g3,g4,g5⟩:=chain_at hO h3 i x c (by simpa using hx) (by simpa using hc)
  refine ⟨a,b,by omega,g2,g3,g4,fun k y d hk hy hd=>?_⟩
  cases k with
  | zero =>
   simp only [List.getElem?_cons_zero,Option.some.injEq] at hy hd
   subst hy hd
   exact ⟨m,m',Nat.le_refl _,by omega,h2,.inl g1⟩
  | succ k =>
   obtain ⟨a',b',k1,k2,k3,k4⟩:=g5 k y d (by omega) (by simpa using hy) (by simpa using hd)
   exact ⟨a',b',by omega,k2,k3,k4⟩
theorem chain_each {α:Type _} {O:α→Nat→Nat→List Value→Prop} (hO:∀ x a b cs,O x a b cs→a≤b) {l:List α} {m hi:Nat} {css:List (Cs 5)} (h:ChainG O l m hi css) (i:Nat) (x:α) (c:Cs 5) (hx:l[i]?=some x) (hc:css[i]?=some c):∃ a b,m≤a∧b≤hi∧O x a b c.1:=by
 obtain ⟨a,b,h1,_,h3,h4,_⟩:=chain_at hO h i x c hx hc
 exact ⟨a,b,h1,h3,h4⟩
theorem hnT_mk {B:Nat} {n:Nd} {ps:List Tr} (h:hnT B (.mk n ps)=true):(∀ h∈n.hdrs,h.1.size≤B)∧∀ x∈ps,hnT B x=true:=by
 unfold hnT at h ⊢
 rw [allT_mk,Bool.and_eq_true,List.all_eq_true,List.all_eq_true] at h
 exact ⟨fun x hx=>by simpa using h.1 x hx,h.2⟩
theorem InT.of {w:World} {B:Nat} (t:Tr):∀ {lo hi:Nat} {cs:List Value},OwnT w t lo hi cs→hnT B t=true→InT w lo hi B t cs:=by
 refine Tr.ind (p:=fun t=>∀ {lo hi:Nat} {cs:List Value},OwnT w t lo hi cs→hnT B t=true→InT w lo hi B t cs) ?_ t
 intro n ps ih lo hi cs h hB
 obtain ⟨hB1,hB3⟩:=hnT_mk hB
 obtain ⟨bv,hv,pv,m,css,rfl,h1,h2,h3,h4,h5⟩:=OwnT_mk.1 h
 have hmh:=ChainG_le h5
 refine InT_mk (h1.mono (Nat.le_refl _) hmh) (h2.mono (Nat.le_refl _) hmh) (h3.mono (Nat.le_refl _) hmh) hB1 (ChainG_len h5) fun k c x hc hx=>?_
 obtain ⟨a,b,g1,g2,g3⟩:=chain_each (fun x a b cs h=>OwnT.le h) h5 k x c hx hc
 exact InT.mono (ih x (List.mem_of_getElem? hx) g3 (hB3 x (List.mem_of_getElem? hx))) (by omega) g2 (Nat.le_refl _)
theorem put_open {w:World} {x:Stp} {l:List Stp} {t:Tr} {lo hi b o b' o':Nat} {cs:List Value} {is:List Nat} (hO:OwnT w t lo hi cs) (hp:pathT (x::l) t=some is) (hE:ElemAt w b o cs) (hptr:PtrAt w b o is b' o') :
 ∃ n ps i p is' bv hv pv m css c g cap,t = .mk n ps∧cs=trCells n bv hv pv∧findT (mkB x.1) x.2 ps=some i∧ps[i]?=some p∧pathT l p=some is'∧OwnR w lo m 5 1 encB bv n.bytes∧OwnR w lo m 74 2 encH hv n.hdrs∧OwnR w lo m 26 5 (Subtype.val:Cs 5→List Value) pv css∧lo≤m∧ChainG (OwnT w) ps m hi css∧css[i]?=some c∧pv = .slice (some ⟨g,0,none⟩) css.length cap∧lo≤g∧g < m∧TypeAt w g 26∧ElemAt w g (i*5) c.1∧PtrAt w g (i*5) is' b' o':=by
 cases t with
 | mk n ps =>
  obtain ⟨bv,hv,pv,m,css,rfl,h1,h2,h3,h4,h5⟩:=OwnT_mk.1 hO
  rw [pathT] at hp
  cases hf:findT (mkB x.1) x.2 (Tr.mk n ps).ps with
  | none=>rw [hf] at hp;cases hp
  | some i =>
   rw [hf] at hp
   simp only at hp
   cases hi':(Tr.mk n ps).ps[i]? with
   | none=>rw [hi'] at hp;cases hp
   | some p =>
    rw [hi'] at hp
    simp only at hp
    obtain ⟨is',hq,rfl⟩:=Option.map_eq_some_iff.1 hp
    obtain ⟨g,og,len,cap,k1,k2,k3⟩:=hptr
    have hi2:ps[i]?=some p:=hi'
    have hil:=(List.getElem?_eq_some_iff.1 hi2).1
    have hlen:=ChainG_len h5
    obtain ⟨c,hc⟩:=getElem?_lt (l:=css) (k:=i) (by omega)
    obtain ⟨g',cap',rfl,r1,r2,r3,r4,r5⟩:=h3.1.row (fun x=>x.2) (by omega)
    have h44:=hE 4 _ rfl
    rw [k1] at h44
    injection h44 with h44
    injection h44 with h44 _ _
    injection h44 with h44
    injection h44 with e1 e2 _
    subst e1 e2
    rw [Nat.zero_add] at k3
    exact ⟨n,ps,i,p,is',bv,hv,_,m,css,c,g,cap',rfl,rfl,hf,hi2,hq,h1,h2,h3,h4,h5,hc,rfl,r1,h3.2 g rfl,r3,r5 i c hc,k3⟩
theorem set_get {α:Type _} {l:List α} {i k:Nat} {x y:α} (h:(l.set i x)[k]?=some y):(k=i∧y=x)∨(k≠i∧l[k]?=some y):=by
 by_cases e:i=k
 · subst e
   rw [List.getElem?_set_self' ] at h
   cases hl:l[i]? with
   | none=>rw [hl] at h;cases h
   | some z=>rw [hl] at h;exact .inl ⟨rfl,by injection h with h;exact h.symm⟩
 · rw [List.getElem?_set_ne e] at h
   exact .inr ⟨fun h'=>e h'.symm,h⟩
theorem put_own {w:World} {t2:Tr} {lo2 hi2 B:Nat} {cs2:Cs 5} (hO2:OwnT w t2 lo2 hi2 cs2.1) (hB2:hnT B t2=true):∀ (l:List Stp) (x:Stp) (t:Tr) (lo hi b o b' o':Nat) (cs:List Value) (is:List Nat),OwnT w t lo hi cs→hnT B t=true→hi≤lo2→pathT (x::l) t=some is→ElemAt w b o cs→PtrAt w b o is b' o' →
 lo≤b'∧b' < hi∧(∃ cur:Array Value,w.heap[b']?=some (.cells cur 26 (0,0))∧o'+5≤cur.size)∧∃ t3,putT t2 (x::l) t=some t3∧InT (setCells w b' o' cs2.1) lo hi2 B t3 cs:=by
 intro l
 induction l with
 | nil =>
  intro x t lo hi b o b' o' cs is hO hB hhi hp hE hptr
  obtain ⟨n,ps,i,p,is',bv,hv,pv,m,css,c,g,cap,rfl,rfl,hf,hi',hq,h1,h2,h3,h4,h5,hc,rfl,g1,g2,g3,g4,g5⟩:=put_open hO hp hE hptr
  injection hq with hq
  subst hq
  obtain ⟨rfl,rfl⟩:=g5
  have hmh:=ChainG_le h5
  have hle2:=hO2.le
  have hoW:Only g w (setCells w g (i*5) cs2.1):=scOnly cs2.1 (i*5) w
  obtain ⟨hB1,hB3⟩:=hnT_mk hB
  refine ⟨g1,by omega,?_,.mk n (ps.set i t2),?_,?_⟩
  · rcases h3.1.2 with ⟨h,_⟩ | ⟨g',cap',cur,hv',hb,hg,hc',hm,hs,ht⟩
    · cases h
    · have hil:=(List.getElem?_eq_some_iff.1 hc).1
      injection hv' with hv1 _ hv2
      injection hv1 with hv1
      injection hv1 with hv1
      subst hv1
      exact ⟨cur,hg,by rw [hs];omega⟩
  · rw [putT]
    show (match findT (mkB x.1) x.2 ps with | none=>none | some i=>match ps[i]? with | none=>none | some p=>(putT t2 [] p).map fun q=>Tr.mk n (ps.set i q))=_
    rw [hf]
    simp only [hi']
    rfl
  · refine InT_mk (css:=css.set i cs2) ((h1.only hoW (.inr (.inr ⟨_,g3,by decide⟩))).mono (Nat.le_refl _) (by omega)) ((h2.only hoW (.inr (.inr ⟨_,g3,by decide⟩))).mono (Nat.le_refl _) (by omega)) (OwnR.mono ⟨OwnE.setAll h3.1 hc cs2,h3.2⟩ (Nat.le_refl _) (by omega)) hB1 (by rw [List.length_set,List.length_set];exact ChainG_len h5) fun k d y hd hy=>?_
    rcases set_get hd with ⟨rfl,rfl⟩ | ⟨hk,hd⟩
    · rcases set_get hy with ⟨_,rfl⟩ | ⟨hk,_⟩
      · exact InT.mono (InT.of _ (hO2.only hoW (.inr (by omega))) hB2) (by omega) (Nat.le_refl _) (Nat.le_refl _)
      · exact absurd rfl hk
    · rcases set_get hy with ⟨rfl,_⟩ | ⟨_,hy⟩
      · exact absurd rfl hk
      · obtain ⟨a,b2,q1,q2,q3,q4,_⟩:=chain_at (fun x a b cs h=>OwnT.le h) h5 k y d hy hd
        exact InT.mono (InT.of _ (q4.only hoW (.inr (by omega))) (hB3 y (List.mem_of_getElem? hy))) (by omega) (by omega) (Nat.le_refl _)
 | cons z l ih =>
  intro x t lo hi b o b' o' cs is hO hB hhi hp hE hptr
  obtain ⟨n,ps,i,p,is',bv,hv,pv,m,css,c,g,cap,rfl,rfl,hf,hi',hq,h1,h2,h3,h4,h5,hc,rfl,g1,g2,g3,g4,g5⟩:=put_open hO hp hE hptr
  have hmh:=ChainG_le h5
  have hle2:=hO2.le
  obtain ⟨hB1,hB3⟩:=hnT_mk hB
  obtain ⟨a,b2,q1,q2,q3,q4,q5⟩:=chain_at (fun x a b cs h=>OwnT.le h) h5 i p c hi' hc
  obtain ⟨r1,r2,r3,t3,r4,r5⟩:=ih z p a b2 g (i*5) b' o' c.1 is' q4 (hB3 p (List.mem_of_getElem? hi')) (by omega) hq g4 g5
  have hoW:Only b' w (setCells w b' o' cs2.1):=scOnly cs2.1 o' w
  refine ⟨by omega,by omega,r3,.mk n (ps.set i t3),?_,?_⟩
  · rw [putT]
    show (match findT (mkB x.1) x.2 ps with | none=>none | some i=>match ps[i]? with | none=>none | some p=>(putT t2 (z::l) p).map fun q=>Tr.mk n (ps.set i q))=_
    rw [hf]
    simp only [hi',r4,Option.map_some]
  · refine InT_mk (css:=css) ((h1.only hoW (.inl (by omega))).mono (Nat.le_refl _) (by omega)) ((h2.only hoW (.inl (by omega))).mono (Nat.le_refl _) (by omega)) ((h3.only hoW (.inl (by omega))).mono (Nat.le_refl _) (by omega)) hB1 (by rw [List.length_set];exact ChainG_len h5) fun k d y hd hy=>?_
    rcases set_get hy with ⟨rfl,rfl⟩ | ⟨hk,hy⟩
    · rw [hc] at hd
      injection hd with hd
      subst hd
      exact r5.mono (by omega) (Nat.le_refl _) (Nat.le_refl _)
    · obtain ⟨a',b3,s1,s2,s3,s4⟩:=q5 k y d hk hy hd
      have s5:=s3.le
      exact InT.mono (InT.of _ (s3.only hoW (by omega)) (hB3 y (List.mem_of_getElem? hy))) (by omega) (by omega) (Nat.le_refl _)
theorem path_put (to:Tr):∀ (l:List Stp) (t:Tr),pathT l t=none↔putT to l t=none
 | [],t=>by simp [pathT,putT]
 | x::l,t=>by
  rw [pathT,putT]
  cases findT (mkB x.1) x.2 t.ps with
  | none=>simp
  | some i =>
   simp only
   cases t.ps[i]? with
   | none=>simp
   | some p =>
    simp only [Option.map_eq_none_iff]
    exact path_put to l p
theorem sum_set {l:List Tr} {i:Nat} {p q:Tr} (h:l[i]?=some p):((l.set i q).map nodesT).sum+nodesT p=(l.map nodesT).sum+nodesT q:=by
 induction l generalizing i with
 | nil=>cases h
 | cons a l ih =>
  cases i with
  | zero =>
   simp only [List.getElem?_cons_zero,Option.some.injEq] at h
   subst h
   rw [List.set_cons_zero,List.map_cons,List.map_cons,List.sum_cons,List.sum_cons]
   omega
  | succ i =>
   have:=ih (i:=i) (by simpa using h)
   rw [List.set_cons_succ,List.map_cons,List.map_cons,List.sum_cons,List.sum_cons]
   omega
theorem put_nodes (to:Tr):∀ (l:List Stp) (t t3:Tr),putT to l t=some t3→nodesT t3≤nodesT t+nodesT to
 | [],t,t3,h=>by
  injection h with h
  rw [← h]
  omega
 | x::l,t,t3,h=>by
  rw [putT] at h
  cases hf:findT (mkB x.1) x.2 t.ps with
  | none=>rw [hf] at h;cases h
  | some i =>
   rw [hf] at h
   simp only at h
   cases hi:t.ps[i]? with
   | none=>rw [hi] at h;cases h
   | some p =>
    rw [hi] at h
    obtain ⟨q,hq,rfl⟩:=Option.map_eq_some_iff.1 h
    have h1:=put_nodes to l p q hq
    have h2:=sum_set (q:=q) hi
    cases t with
    | mk n ps =>
     rw [nodesT_mk,nodesT_mk]
     change ((ps.set i q).map nodesT).sum+_=(ps.map nodesT).sum+_ at h2
     show 1+((ps.set i q).map nodesT).sum≤_
     omega
theorem val_fin {A w:World} {p:Nat} {d0 d1 d2 d3 d4 e:Value} {Q:Value→World→Prop} (hp:A.heap.size≤p) (eA:Ext A w) (hQ:∀ w',Ext A w'→(∀ k,k≠p→w'.heap[k]?=w.heap[k]?)→w'.heap.size=w.heap.size→Q (.tuple #[.agg #[d0,d1,d2,d3,d4],e]) w') :
 Q (.tuple #[.agg #[d0,d1,d2,d3,d4],e]) (setCells w p 0 [d0,d1,d2,d3,d4]):=by
 have gE:Ext A (setCells w p 0 [d0,d1,d2,d3,d4]):=setCells_ext [d0,d1,d2,d3,d4] w 0 A eA hp
 have gO:Only p w (setCells w p 0 [d0,d1,d2,d3,d4]):=setCells_only [d0,d1,d2,d3,d4] w 0
 exact hQ _ gE (fun k hk=>gO k hk) (setCells_size [d0,d1,d2,d3,d4] (b:=p) w 0)
theorem InS.same {w w':World} {lo hi B:Nat} (hk:∀ b,lo≤b→b < hi→b < w.heap.size→w'.heap[b]?=w.heap[b]?) (t:Tr):∀ cs,InS w lo hi B t cs→InS w' lo hi B t cs:=by
 have hrow:∀ {T:TypeId} {n len:Nat} {E E':Nat→List Value→Prop} {v:Value},RowIn w lo hi T n E len v→(∀ k cs,E k cs→E' k cs)→RowIn w' lo hi T n E' len v:=by
  intro T n len E E' v h hE
  obtain ⟨A,c,rfl,hc,hk'⟩:=h
  refine ⟨A,c,rfl,hc,fun k hkl=>?_⟩
  obtain ⟨b,cur,cs,a1,a2,a3,a4,a5,a6,a7⟩:=hk' k hkl
  exact ⟨b,cur,cs,a1,a2,a3,(hk b a2 a3 (Array.getElem?_eq_some_iff.1 a4).1).trans a4,a5,a6,hE _ _ a7⟩
 refine Tr.ind (p:=fun t=>∀ cs,InS w lo hi B t cs→InS w' lo hi B t cs) ?_ t
 intro n ps ih cs h
 obtain ⟨nm,i,bv,hv,pv,rfl,g1,g2,g3⟩:=InS_mk.1 h
 refine InS_mk.2 ⟨nm,i,bv,hv,pv,rfl,hrow g1 fun _ _ h=>h,hrow g2 fun _ _ h=>h,hrow g3 ?_⟩
 rintro _ _ ⟨x,hx,h⟩
 exact ⟨x,hx,ih x (List.mem_of_getElem? hx) _ h⟩
theorem InT.same {w w':World} {lo hi B:Nat} {t:Tr} {cs:List Value} (h:InT w lo hi B t cs) (hk:∀ b,lo≤b→b < hi→b < w.heap.size→w'.heap[b]?=w.heap[b]?):InT w' lo hi B t cs:=⟨h.1.keep (Nat.le_refl _) (Nat.le_refl _) hk,InS.same hk t cs h.2⟩
theorem trCells_one {n:Nd} {a b c:Value} (ha:a.oneCell'=true) (hb:b.oneCell'=true) (hc:c.oneCell'=true):∀ v∈trCells n a b c,v.oneCell'=true:=by
 intro v hv
 unfold trCells at hv
 rcases List.mem_cons.1 hv with h | hv
 · rw [h];rfl
 rcases List.mem_cons.1 hv with h | hv
 · rw [h];rfl
 rcases List.mem_cons.1 hv with h | hv
 · rw [h];exact ha
 rcases List.mem_cons.1 hv with h | hv
 · rw [h];exact hb
 rcases List.mem_cons.1 hv with h | hv
 · rw [h];exact hc
 · cases hv
def SetK (w0:World) (B:Nat) (s:List UInt8) (t to:Tr) (r:Value) (w':World):Prop:=Ext w0 w'∧if validT t=true∧validT to=true then match stepsP s with
 | none=>r = .tuple #[zeroV,.int .i64 6]
 | some l=>match putT to l t with
  | none=>r = .tuple #[zeroV,.int .i64 9]
  | some t3=>if validT t3=true then ∃ cs lo hi,r = .tuple #[.agg cs.toArray,.int .i64 0]∧InT w' lo hi B t3 cs∧w0.heap.size≤lo∧hi≤w'.heap.size else r = .tuple #[zeroV,.int .i64 3]
 else r = .tuple #[zeroV,.int .i64 2]
theorem Set_ret {w0:World} (hE:EnvOK w0) (B:Nat) (v u:Value) (t to:Tr) (s:List UInt8) (hs:s.length≤100000000) (hv:ValAt w0 v t) (hu:ValAt w0 u to) (hb:nodesT t≤1000000000) (hb2:nodesT to≤1000000000) (hB:hnT B t=true) (hB2:hnT B to=true):Ret Pg 20 #[v,.string (mkB s),u] w0 fun r w'=>SetK w0 B s t to r w':=by
 obtain ⟨bv,hv',pv,rfl,hbB,hbH,hbT,o1,o2,o3⟩:=hv.op
 obtain ⟨bu,hu',pu,rfl,huB,huH,huT,p1,p2,p3⟩:=hu.op
 refine n59s (R:=retR _) ?_;unfold n59
 simp (disch:=try exact DI) only [↓PR,QR,simprocAttr]
 rw [show (Value.agg (trCells t.nd bv hv' pv).toArray).cells=(trCells t.nd bv hv' pv).toArray from rfl,show (Value.agg (trCells to.nd bu hu' pu).toArray).cells=(trCells to.nd bu hu' pu).toArray from rfl]
 have c1:=heap_new w0 #[.string t.nd.name,.int .i64 t.nd.int,bv,hv',pv] 26
 change (w0.alloc (.cells (trCells t.nd bv hv' pv).toArray 26)).heap[w0.heap.size]?=_ at c1
 have e1:Ext w0 (w0.alloc (.cells (trCells t.nd bv hv' pv).toArray 26)):=(Ext.refl w0).alloc _
 have z1:(w0.alloc (.cells (trCells t.nd bv hv' pv).toArray 26)).heap.size=w0.heap.size+1:=by simp
 generalize (w0.alloc (.cells (trCells t.nd bv hv' pv).toArray 26))=w1 at *
 have c2:=heap_new w1 #[.string to.nd.name,.int .i64 to.nd.int,bu,hu',pu] 26
 change (w1.alloc (.cells (trCells to.nd bu hu' pu).toArray 26)).heap[w1.heap.size]?=_ at c2
 have e2:Ext w1 (w1.alloc (.cells (trCells to.nd bu hu' pu).toArray 26)):=(Ext.refl w1).alloc _
 have z2:(w1.alloc (.cells (trCells to.nd bu hu' pu).toArray 26)).heap.size=w1.heap.size+1:=by simp
 generalize (w1.alloc (.cells (trCells to.nd bu hu' pu).toArray 26))=w2 at *
 have c3:=heap_new w2 #[.string ByteArray.empty,.int .i64 0,.slice none 0 0,.slice none 0 0,.slice none 0 0] 26
 have e3:Ext w2 (w2.alloc (.cells #[.string ByteArray.empty,.int .i64 0,.slice none 0 0,.slice none 0 0,.slice none 0 0] 26)):=ee
 generalize (w2.alloc (.cells #[.string ByteArray.empty,.int .i64 0,.slice none 0 0,.slice none 0 0,.slice none 0 0] 26))=w3 at *
 rw [z2] at c3 ⊢
 rw [z1] at c2 c3 ⊢
 have e:=e1.trans (e2.trans e3)
 have c1:=e3.obj (e2.obj c1)
 have c2:=e3.obj c2
 clear e1 e2 e3 z1 z2
 have hV:ValAt w0 (.agg (trCells t.nd bv hv' pv).toArray) t:=⟨_,_,_,rfl,hbB,hbH,hbT⟩
 have hU:ValAt w0 (.agg (trCells to.nd bu hu' pu).toArray) to:=⟨_,_,_,rfl,huB,huH,huT⟩
 refine zcr (Valid_ret w3 _ t (hV.ext e) hb) fun w4 e4=>?_
 have c1:=e4.obj c1
 have c2:=e4.obj c2
 have c3:=e4.obj c3
 have e:=e.trans e4
 clear e4
 unfold n59c8 joinK
 cases hva:validT t with
 | false =>
  simp (disch:=try exact DI) only [↓PR,QR,simprocAttr]
  unfold n59c7
  simp (disch:=try exact DI) only [↓PR,QR,simprocAttr]
  unfold n59c6
  refine zero_out (A:=w0) (by omega) e c3 fun w' e' _=>⟨e',?_⟩
  rw [hva]
  simp
 | true =>
  simp (disch:=try exact DI) only [↓PR,QR,simprocAttr,(cells_of_heap c2).1]
  refine zcr (Valid_ret w4 _ to (hU.ext e) hb2) fun w5 e5=>?_
  have c1:=e5.obj c1
  have c2:=e5.obj c2
  have c3:=e5.obj c3
  have e:=e.trans e5
  clear e5
  unfold n59c7
  cases hvu:validT to with
  | false =>
   simp (disch:=try exact DI) only [↓PR,QR,simprocAttr]
   unfold n59c6
   refine zero_out (A:=w0) (by omega) e c3 fun w' e' _=>⟨e',?_⟩
   rw [hva,hvu]
   simp
  | true =>
   simp (disch:=try exact DI) only [↓PR,QR,simprocAttr,(cells_of_heap c1).1]
   refine callK_ret (Copy_ret t w5 _ (hV.ext e) (valid_fit hva)) ?_
   rintro _ w6 ⟨⟨cs6,rfl,hO6⟩,e6⟩
   have c1:=e6.obj c1
   have c2:=e6.obj c2
   have c3:=e6.obj c3
   have lt3:=(Array.getElem?_eq_some_iff.1 (show w5.heap[w0.heap.size+1+1]?=_ by assumption)).1
   have e:=e.trans e6
   obtain ⟨b6,h6,q6,rfl,_,_,_,f1,f2,f3⟩:=hO6.read.op
   unfold n59c5
   simp (disch:=try exact DI) only [↓PR,QR,simprocAttr]
   have c4:=heap_new w6 #[.string t.nd.name,.int .i64 t.nd.int,b6,h6,q6] 26
   have e7:Ext w6 (w6.alloc (.cells #[.string t.nd.name,.int .i64 t.nd.int,b6,h6,q6] 26)):=ee
   have z7:(w6.alloc (.cells #[.string t.nd.name,.int .i64 t.nd.int,b6,h6,q6] 26)).heap.size=w6.heap.size+1:=by simp
   generalize (w6.alloc (.cells #[.string t.nd.name,.int .i64 t.nd.int,b6,h6,q6] 26))=w7 at *
   have hO7:=hO6.ext e7
   have c1:=e7.obj c1
   have c2:=e7.obj c2
   have c3:=e7.obj c3
   have e:=e.trans e7
   generalize hq0:w6.heap.size=q at *
   have hle6:w5.heap.size≤q:=by have:=e6.size;omega
   have hel:ElemAt w7 q 0 (trCells t.nd b6 h6 q6):=fun j u hu=>by
    rw [Nat.zero_add,(cells_of_heap c4).1]
    simpa [trCells] using hu
   refine callK_ret (at_ret (hE.ext e) q 0 _ t s hs hel rfl hO7.read (valid_nodes hva)) ?_
   rintro r w8 ⟨e8,hr⟩
   have c1:=e8.obj c1
   have c2:=e8.obj c2
   have c3:=e8.obj c3
   have c4':=e8.obj c4
   have e:=e.trans e8
   unfold n59c4
   cases hP:stepsP s with
   | none =>
    rw [hP] at hr
    simp only at hr
    subst hr
    simp (disch:=try exact DI) only [↓PR,QR,simprocAttr,(cells_of_heap c3).1,(cells_of_heap c3).2]
    refine zero_fin (A:=w0) (Q:=SetK w0 B s t to) (by omega) e fun w' e' _=>⟨e',?_⟩
    rw [hva,hvu,hP]
    simp
   | some l =>
    rw [hP] at hr
    simp only at hr
    cases hpt:pathT l t with
    | none =>
     rw [hpt] at hr
     simp only at hr
     subst hr
     simp (disch:=try exact DI) only [↓PR,QR,simprocAttr,(cells_of_heap c3).1,(cells_of_heap c3).2]
     refine zero_fin (A:=w0) (Q:=SetK w0 B s t to) (by omega) e fun w' e' _=>⟨e',?_⟩
     rw [hva,hvu,hP]
     simp [(path_put to l t).1 hpt]
    | some is =>
     rw [hpt] at hr
     obtain ⟨b',o',t',cs',rfl,hptr,hat,h5,hA',hT'⟩:=hr
     simp (disch:=try exact DI) only [↓PR,QR,simprocAttr,(cells_of_heap c2).1]
     refine callK_ret (Copy_ret to w8 _ (hU.ext e) (valid_fit hvu)) ?_
     rintro _ w9 ⟨⟨cs9,rfl,hO9⟩,e9⟩
     have z8:=e8.size
     obtain ⟨b9,h9,q9,rfl,_,_,_,k1,k2,k3⟩:=hO9.read.op
     have hput:∃ cur:Array Value,w9.heap[b']?=some (.cells cur 26 (0,0))∧o'+5≤cur.size∧w5.heap.size≤b'∧b'≤q∧∃ t3 cs3,putT to l t=some t3∧(setCells w9 b' o' (trCells to.nd b9 h9 q9)).heap[q]?=some (.cells cs3.toArray 26 (0,0))∧InT (setCells w9 b' o' (trCells to.nd b9 h9 q9)) w5.heap.size w9.heap.size B t3 cs3:=by
      have e79:=e8.trans e9
      have c49:=e79.obj c4
      have z9:=e9.size
      cases l with
      | nil =>
       injection hpt with hpt
       subst hpt
       obtain ⟨rfl,rfl⟩:=hptr
       have hoW:Only q w9 (setCells w9 q 0 (trCells to.nd b9 h9 q9)):=scOnly _ _ _
       have g2:=setCells_heap [.string to.nd.name,.int .i64 to.nd.int,b9,h9,q9] 0 c49
       rw [setA_all (vs:=[.string to.nd.name,.int .i64 to.nd.int,b9,h9,q9]) (cs := #[.string t.nd.name,.int .i64 t.nd.int,b6,h6,q6]) rfl] at g2
       exact ⟨_,c49,Nat.le_refl _,hle6,Nat.le_refl _,to,_,rfl,g2,InT.mono (InT.of _ (hO9.only hoW (.inr (by omega))) hB2) (by omega) (Nat.le_refl _) (Nat.le_refl _)⟩
      | cons x l =>
       obtain ⟨r1,r2,⟨cur,r3,r4⟩,t3,r5,r6⟩:=put_own (cs2:=⟨trCells to.nd b9 h9 q9,rfl⟩) hO9 hB2 l x t w5.heap.size q q 0 b' o' _ is (hO7.ext e79) hB (by omega) hpt (hel.ext e79) (hptr.ext e79)
       exact ⟨cur,r3,r4,r1,by omega,t3,_,r5,(scOnly _ _ _ q (by omega)).trans c49,r6⟩
     obtain ⟨cur,hcur,hsz,hb5,hbq,t3,cs3,hput3,hq3,hI3⟩:=hput
     have c3:=e9.obj c3
     have e:=e.trans e9
     unfold n59c3
     rw [op_nil,scStore ty26 hcur o' (trCells to.nd b9 h9 q9) hsz rfl (trCells_one k1 k2 k3)]
     have hoW:Only b' w9 (setCells w9 b' o' (trCells to.nd b9 h9 q9)):=scOnly _ _ _
     have zW:(setCells w9 b' o' (trCells to.nd b9 h9 q9)).heap.size=w9.heap.size:=setCells_size (trCells to.nd b9 h9 q9) (b:=b') w9 o'
     have eW:Ext w0 (setCells w9 b' o' (trCells to.nd b9 h9 q9)):=scExt (by omega) _ _ e
     generalize setCells w9 b' o' (trCells to.nd b9 h9 q9)=w10 at *
     have c3:=(hoW _ (by omega)).trans c3
     obtain ⟨b3,h3,q3,rfl,g1,g2,g3,g4,g5,g6⟩:=hI3.1.all.op
     have hn3:=put_nodes to l t t3 hput3
     have hva':=valid_nodes hva
     have hvu':=valid_nodes hvu
     have hq3:w10.heap[q]?=some (.cells #[.string t3.nd.name,.int .i64 t3.nd.int,b3,h3,q3] 26 (0,0)):=hq3
     simp (disch:=try exact DI) only [↓PR,QR,simprocAttr,(cells_of_heap hq3).1]
     refine zcr (Valid_ret w10 _ t3 ⟨_,_,_,rfl,g1,g2,g3⟩ (by omega)) fun w11 e11=>?_
     have c3:=e11.obj c3
     have hq3:=e11.obj hq3
     have eW:=eW.trans e11
     cases hv3:validT t3 with
     | false =>
      simp (disch:=try exact DI) only [↓PR,QR,simprocAttr]
      unfold n59c1
      refine zero_out (A:=w0) (by omega) eW c3 fun w' e' _=>⟨e',?_⟩
      rw [hva,hvu,hP]
      simp [hput3,hv3]
     | true =>
      simp (disch:=try exact DI) only [↓PR,QR,simprocAttr]
      unfold n59c2
      simp (disch:=try exact DI) only [↓PR,QR,simprocAttr,(cells_of_heap hq3).1,(cells_of_heap c3).1,(cells_of_heap c3).2]
      refine val_fin (A:=w0) (w:=w11) (p:=w0.heap.size+1+1) (d0 := .string t3.nd.name) (d1 := .int .i64 t3.nd.int) (d2:=b3) (d3:=h3) (d4:=q3) (e := .int .i64 0) (Q:=SetK w0 B s t to) (by omega) eW fun w' e' k' z'=>⟨e',?_⟩
      rw [hva,hvu,hP]
      simp only [hput3,hv3,and_self,if_true]
      have z11:=e11.size
      exact ⟨_,w5.heap.size,w9.heap.size,rfl,hI3.same fun b h1 h2 h3=>(k' b (by omega)).trans (e11.block b h3),by omega,by omega⟩
def dotB (path b:List UInt8):List UInt8:=if path=[] then b else path++46::b
def stepB (nm:ByteArray) (n:Nat):List UInt8:=nm.data.toList++if n=0 then [] else 58::Go.Lib.decDigits n
def cntB (seen:List ByteArray) (nm:ByteArray):Nat:=(seen.filter fun x=>decide (x=nm)).length
def partsW {α:Type _} (path:List UInt8):List ByteArray→List Tr→List (List UInt8→α)→List α
 | seen,p::ps,r::rs=>r (dotB path (stepB p.nd.name (cntB seen p.nd.name)))::partsW path (seen++[p.nd.name]) ps rs
 | _,_,_=>[]
noncomputable def walkT:Tr→List UInt8→List (List UInt8×Tr):=Tr.fold fun n ps rs path=>(path,.mk n ps)::(partsW path [] ps rs).flatten
theorem walkT_mk (n:Nd) (ps:List Tr) (path:List UInt8):walkT (.mk n ps) path=(path,.mk n ps)::(partsW path [] ps (ps.map walkT)).flatten:=by
 unfold walkT
 rw [Tr.fold_mk]
def belowB (path:List UInt8) (ps:List Tr) (k:Nat) (p:Tr):List UInt8:=dotB path (stepB p.nd.name (cntB ((ps.take k).map fun x=>x.nd.name) p.nd.name))
theorem partsW_len {α:Type _} {path:List UInt8} {f:Tr→List UInt8→α}:∀ {ps:List Tr} {seen:List ByteArray},(partsW path seen ps (ps.map f)).length=ps.length
 | [],_=>rfl
 | p::ps,seen=>by
  show (partsW path (seen++[p.nd.name]) ps (ps.map f)).length+1=ps.length+1
  rw [partsW_len]
theorem partsW_get {α:Type _} {path:List UInt8} {f:Tr→List UInt8→α}:∀ {ps:List Tr} {seen:List ByteArray} {k:Nat} {p:Tr},ps[k]?=some p→(partsW path seen ps (ps.map f))[k]?=some (f p (dotB path (stepB p.nd.name (cntB (seen++(ps.take k).map fun x=>x.nd.name) p.nd.name))))
 | [],_,_,_,h=>by cases h
 | q::ps,seen,0,p,h=>by
  simp only [List.getElem?_cons_zero,Option.some.injEq] at h
  subst h
  simp [partsW]
 | q::ps,seen,k+1,p,h=>by
  have:=partsW_get (path:=path) (f:=f) (ps:=ps) (seen:=seen++[q.nd.name]) (k:=k) (p:=p) (by simpa using h)
  show (partsW path (seen++[q.nd.name]) ps (ps.map f))[k]?=_
  rw [this]
  simp
def K3 (X:World) (a b c:Nat):World→Prop:=fun u=>u.heap[a]?=X.heap[a]?∧u.heap[b]?=X.heap[b]?∧u.heap[c]?=X.heap[c]?
instance (X:World) (a b c:Nat):ClassNe (K3 X a b c):=⟨⟨X,rfl,rfl,rfl⟩⟩
theorem drawK_introK {w:World} (a b c:Nat) {f:(World→Prop)→World→Prop} (h:f (K3 (drew w) a b c) (drew w)):drawK w f:=⟨K3 (drew w) a b c,⟨rfl,rfl,rfl⟩,h⟩
section
variable {X:World} {a b c:Nat}
theorem K3.at {u:World} (e:K3 X a b c u) {p:Nat} (hp:p=a∨p=b∨p=c):u.heap[p]?=X.heap[p]?:=by
 rcases hp with rfl | rfl | rfl
 · exact e.1
 · exact e.2.1
 · exact e.2.2
theorem qK_one {T:TypeId} {n m:Nat} {z v:Value} {k:Value→Prop} {p:Nat} (h:TyInfo Pg T false n m z) {cs:Array Value} {T':TypeId} (hp:p=a∨p=b∨p=c) (hc:X.heap[p]?=some (.cells cs T' (0,0))) {o:Nat} (hv:cs[o]?=some v):qV Pg (K3 X a b c) (Instr.loadAt T (.pointer (some ⟨p,o,none⟩))) k=k v :=
 qV_eqC fun w' e=>run_of_op (P:=Pg) (w:=w') (s:=Instr.loadAt T (.pointer (some ⟨p,o,none⟩))) (v:=v) (fun QP k=>op_load1 h (by
  have:w'.heap[p]?=X.heap[p]?:=K3.at e hp
  rw [(cells_of_heap (this.trans hc)).1];exact hv))
theorem qK_all {T:TypeId} {n m:Nat} {z:Value} {k:Value→Prop} {p:Nat} (h:TyInfo Pg T true n m z) {cs:List Value} {T':TypeId} (hp:p=a∨p=b∨p=c) (hc:X.heap[p]?=some (.cells cs.toArray T' (0,0))) (hl:cs.length=n):qV Pg (K3 X a b c) (Instr.loadAt T (.pointer (some ⟨p,0,none⟩))) k=k (.agg cs.toArray) :=
 qV_eqC fun w' e=>run_of_op (P:=Pg) (w:=w') (s:=Instr.loadAt T (.pointer (some ⟨p,0,none⟩))) (v := .agg cs.toArray) (fun QP k=>op_load (ElemAt.loads (cs:=cs) (fun j v hv=>by
  have:w'.heap[p]?=X.heap[p]?:=K3.at e hp
  rw [Nat.zero_add,(cells_of_heap (this.trans hc)).1];simpa using hv) h hl))
end
theorem outs7 {Q:Bks→World→Prop} (hQ:Lasts7 Q) {V:Bks} {L:List (Option TypeId×Value)} {R:RT} {bs:List Nat} (hk:∀ w,Q V w→outX Pg [] L R w):∀ {w:World},bs.Nodup→(∀ b∈bs,MarkAt b w)→(∀ b∈bs,V b)→Q V w→outX Pg (bs.map Sw.mark) L R w:=by
 induction bs with
 | nil=>exact fun _ _ _ h=>hk _ h
 | cons b bs ih =>
  intro w hn hm hB h
  obtain ⟨hb,hn'⟩:=List.nodup_cons.1 hn
  have hmb:=hm b (List.mem_cons_self ..)
  refine outX_mark hmb (ih hn' (fun c hc=>?_) (fun c hc=>hB c (List.mem_cons_of_mem _ hc)) (hQ.put (hB b (List.mem_cons_self ..)) h _))
  exact (World.putObj_heap_other (fun (e:c=b)=>hb (by rw [← e];exact hc))).trans (hm c (List.mem_cons_of_mem _ hc))
theorem outq7 {Q:Bks→World→Prop} (hQ:Lasts7 Q) {V:Bks} {L:List (Option TypeId×Value)} {R:RT} {ch:List PanicEntry} {bs:List Nat} (hk:∀ w,Q V w→R (.panicked ch) w):∀ {w:World},bs.Nodup→(∀ b∈bs,MarkAt b w)→(∀ b∈bs,V b)→Q V w→outQ Pg (bs.map Sw.mark) L R ch w:=by
 induction bs with
 | nil=>intro w _ _ _ h;rw [List.map_nil,outQ_nil];exact hk _ h
 | cons b bs ih =>
  intro w hn hm hB h
  obtain ⟨hb,hn'⟩:=List.nodup_cons.1 hn
  have hmb:=hm b (List.mem_cons_self ..)
  refine outQ_mark hmb (ih hn' (fun c hc=>?_) (fun c hc=>hB c (List.mem_cons_of_mem _ hc)) (hQ.put (hB b (List.mem_cons_self ..)) h _))
  exact (World.putObj_heap_other (fun (e:c=b)=>hb (by rw [← e];exact hc))).trans (hm c (List.mem_cons_of_mem _ hc))
theorem LW7.shrink {V V':Bks} (w:World) (h:∀ b,V' b→V b):LW7 V V' w w:=⟨rfl,rfl,rfl,Nat.le_refl _,fun _ _ _=>rfl,fun b hb => .inl (h b hb)⟩
structure Rg (A:World) (lo hi:Nat) (u:World):Prop where
 env:EnvOK u
 size:hi≤u.heap.size
 same:∀ b,lo≤b→b < hi→u.heap[b]?=A.heap[b]?
theorem Rg.ext {A:World} {lo hi:Nat} {u u':World} (h:Rg A lo hi u) (e:Ext u u'):Rg A lo hi u':=⟨h.env.ext e,Nat.le_trans h.size e.size,fun b h1 h2=>(e.block b (Nat.lt_of_lt_of_le h2 h.size)).trans (h.same b h1 h2)⟩
theorem Rg.eti {A:World} {lo hi:Nat} {u:World} (h:Rg A lo hi u) {cs:List Value} {t:Tr} (hE:ETi A lo hi cs t):ETr u cs t:=(hE.keep (w':=u) (Nat.le_refl _) (Nat.le_refl _) fun k h1 h2 _=>h.same k h1 h2).all
theorem Rg.elem {A:World} {lo hi:Nat} {u:World} (h:Rg A lo hi u) {b o:Nat} {cs:List Value} (hE:ElemAt (restr A lo hi) b o cs):ElemAt u b o cs:=fun j v hv=>by
 obtain ⟨h1,h2⟩:=restr_cell (hE j v hv)
 rw [← h2]
 exact World.cell?_of_block (h.same b h1.1 h1.2)
theorem val_of_eti {w:World} {n:Nd} {ps:List Tr} {bv hv pv:Value} (h:ETr w (trCells n bv hv pv) (.mk n ps)):ValAt w (.agg (trCells n bv hv pv).toArray) (.mk n ps):=by
 obtain ⟨x1,x2,x3,hx,y1,y2,y3⟩:=ETr_of.1 h
 exact ⟨x1,x2,x3,by rw [hx],y1,y2,y3⟩
def WalkY (L:List (List UInt8×Tr)):Nat→Nat→Value→Value→Bks→World→Prop:=fun base k x y V w=>∃ q cs lo hi,L[k]?=some q∧x = .string (mkB q.1)∧y = .agg cs.toArray∧OwnT w q.2 lo hi cs∧base≤lo∧hi≤w.heap.size∧∀ b,lo≤b→b < hi→¬ V b
def WalkP (p1 p2:Nat) (path:List UInt8) (cs:List Value) (w:World):Prop:=w.heap[p1]?=some (.cells #[.string (mkB path)] 9 (0,0))∧w.heap[p2]?=some (.cells cs.toArray 26 (0,0))
def WalkSeq (A:World) (lo hi:Nat) (t:Tr) (path:List UInt8) (cs:List Value):Prop:=∀ p1 p2,hi≤p1→hi≤p2→p1≠p2→SeqIt7 Pg 82 #[.pointer (some ⟨p1,0,none⟩),.pointer (some ⟨p2,0,none⟩)] (walkT t path).length (WalkY (walkT t path)) (fun _=>False) (fun _=>True) (fun w=>Rg A lo hi w∧WalkP p1 p2 path cs w)
theorem walk_ret (w0:World) (path:List UInt8) (t:Tr) (bv hv pv:Value) (o1:bv.oneCell'=true) (o2:hv.oneCell'=true) (o3:pv.oneCell'=true):Ret Pg 59 #[.agg (trCells t.nd bv hv pv).toArray,.string (mkB path)] w0 fun r w'=>r = .func (.func 82) #[] #[.pointer (some ⟨w0.heap.size+1,0,none⟩),.pointer (some ⟨w0.heap.size,0,none⟩)]∧WalkP (w0.heap.size+1) w0.heap.size path (trCells t.nd bv hv pv) w'∧Ext w0 w':=by
 refine n85s (R:=retR _) ?_;unfold n85
 simp (disch:=try exact DI) only [↓PR,QR,simprocAttr]
 have c1:=heap_new w0 #[.string t.nd.name,.int .i64 t.nd.int,bv,hv,pv] 26
 change (w0.alloc (.cells (trCells t.nd bv hv pv).toArray 26)).heap[w0.heap.size]?=_ at c1
 have e1:Ext w0 (w0.alloc (.cells (trCells t.nd bv hv pv).toArray 26)):=(Ext.refl w0).alloc _
 have z1:(w0.alloc (.cells (trCells t.nd bv hv pv).toArray 26)).heap.size=w0.heap.size+1:=by simp
 have c2:=heap_new (w0.alloc (.cells (trCells t.nd bv hv pv).toArray 26)) #[.string (mkB path)] 9
 rw [z1] at c2
 have e2:Ext (w0.alloc (.cells (trCells t.nd bv hv pv).toArray 26)) ((w0.alloc (.cells (trCells t.nd bv hv pv).toArray 26)).alloc (.cells #[.string (mkB path)] 9)):=(Ext.refl _).alloc _
 exact ⟨trivial,⟨c2,e2.obj c1⟩,e1.trans e2⟩
def Vk (p3 m:Nat) (bs:List Nat):Bks:=fun b=>b=p3∨b=m∨b∈bs
structure WkI (J:Nat→Bks→World→Prop) (LL:List (List (List UInt8×Tr))) (ps:List Tr) (path:List UInt8) (cs:List Value) (p1 p2 p3 m:Nat) (yv:Value) (k:Nat) (bs:List Nat) (w:World):Prop where
 j:J (offL LL k+1) (Vk p3 m bs) w
 s1:w.heap[p1]?=some (.cells #[.string (mkB path)] 9 (0,0))
 s2:w.heap[p2]?=some (.cells cs.toArray 26 (0,0))
 s3:w.heap[p3]?=some (.cells #[yv] 97 (0,0))
 mp:∃ L c,MapS w m L c∧∀ nm,(Sw.look L nm).getD (Value.int .i64 0) = .int .i64 (cntB ((ps.take k).map fun x=>x.nd.name) nm:Int)
 nd:bs.Nodup
 mks:∀ b∈bs,MarkAt b w
 bs3:∀ b∈bs,p3≤b
 n1:p1 < p3
 n2:p2 < p3
 n3:p3 < m
 n4:m < w.heap.size
theorem WkI.ext {J:Nat→Bks→World→Prop} (hJl:∀ k,Lasts7 (J k)) {LL:List (List (List UInt8×Tr))} {ps:List Tr} {path:List UInt8} {cs:List Value} {p1 p2 p3 m:Nat} {yv:Value} {k:Nat} {bs:List Nat} {w w':World} (H:WkI J LL ps path cs p1 p2 p3 m yv k bs w) (e:Ext w w'):WkI J LL ps path cs p1 p2 p3 m yv k bs w':=by
 obtain ⟨L,c,h1,h2⟩:=H.mp
 exact ⟨(hJl _).ext H.j e,e.obj H.s1,e.obj H.s2,e.obj H.s3,⟨L,c,h1.ext e,h2⟩,H.nd,fun b hb=>(H.mks b hb).ext e,H.bs3,H.n1,H.n2,H.n3,Nat.lt_of_lt_of_le H.n4 e.size⟩
theorem or_lasts {J:Bks→World→Prop} (h:Lasts7 J) (U:Bks):Lasts7 (fun V w=>J (fun b=>U b∨V b) w):=fun V V' w w' hl hI=>h _ _ _ _ ⟨hl.os,hl.tape,hl.output,hl.size,fun b hb hv=>hl.block b hb fun h=>hv (.inr h),fun b hb=>by
 rcases hb with hb | hb
 · exact .inl (.inl hb)
 · exact (hl.new b hb).imp_left .inr⟩ hI
theorem marks_lasts (bs:List Nat):Lasts7 (fun V w=>∀ b∈bs,¬ V b∧w.heap[b]?=some (.deferred (some []))):=fun V V' w w' hl h b hb=>Lasts7.has _ _ _ _ hl (h b hb)
def WkR (J:Nat→Bks→World→Prop) (Jx:Bks→World→Prop) (Jp:List PanicEntry→Bks→World→Prop) (N:Nat):Ending→World→Prop:=fun e w'=>match e with
 | .returned _=>∃ V,J N V w'∨Jx V w'
 | .panicked ch=>∃ V,Jp ch V w'
 | .outgrown=>False
theorem walk_tail {A:World} {rl rh:Nat} {J:Nat→Bks→World→Prop} {Jx:Bks→World→Prop} {Jp:List PanicEntry→Bks→World→Prop} {n:Nd} {ps:List Tr} {LL:List (List (List UInt8×Tr))} {path:List UInt8} {csv:List Value} {p1 p2 p3 m p6 k:Nat} {yv:Value} {bs:List Nat} {x:Tr} {bx hx' px:Value} {w:World} {next2:List Deferred→Value→World→Prop} (hFP:∀ k V w,J k V w→Rg A rl rh w∧WalkP p1 p2 path csv w) (hFPx:∀ V w,Jx V w→Rg A rl rh w∧WalkP p1 p2 path csv w) (hJl:∀ k,Lasts7 (J k)) (hJx:Lasts7 Jx) (hJp:∀ ch,Lasts7 (Jp ch)) (hA3:rh≤p3) (hy:yv.oneCell'=true)
 (hstep:∀ k,k < ((path,Tr.mk n ps)::LL.flatten).length→∀ x y V w',WalkY ((path,Tr.mk n ps)::LL.flatten) p3 k x y V w'→(∀ b,V b→False∨p3≤b)→∀ Rk,Firm7 V Rk→J k V w'→Rk w'→callV Pg yv #[x,y] (fun ch w''=>Rk w''∧Jp ch V w'') w' (fun v w''=>Rk w''∧((v = .bool true∧J (k+1) V w'')∨(v = .bool false∧Jx V w''))))
 (H:WkI J LL ps path csv p1 p2 p3 m yv k bs w) (hx:ps[k]?=some x) (hLk:LL[k]?=some (walkT x (belowB path ps k x))) (hpl:path.length≤900000000) (hnb:nameB x.nd.name=true) (hkl:k≤1000000000) (f1:bx.oneCell'=true) (f2:hx'.oneCell'=true) (f3:px.oneCell'=true) (ih:WalkSeq A rl rh x (belowB path ps k x) (trCells x.nd bx hx' px)) (h6:w.heap[p6]?=some (.cells #[.string x.nd.name,.int .i64 x.nd.int,bx,hx',px] 26 (0,0)))
 (hnext:∀ r w',WkI J LL ps path csv p1 p2 p3 m yv (k+1) (r::bs) w'→next2 ((r::bs).map Sw.mark) (.int .i64 ((k+1:Nat):Int)) w') :
 n86c5 (.pointer (some ⟨p1,0,none⟩)) (.pointer (some ⟨p3,0,none⟩)) (.pointer (some ⟨p6,0,none⟩)) (.string (mkB (stepB x.nd.name (cntB ((ps.take k).map fun x=>x.nd.name) x.nd.name)))) (.map (some m)) (.int .i64 (k:Int)) next2 (bs.map Sw.mark) (WkR J Jx Jp ((path,Tr.mk n ps)::LL.flatten).length) w:=by
 unfold n86c5 joinK
 obtain ⟨L,c,hM,hLc⟩:=H.mp
 simp (disch:=try exact DI) only [↓PR,QR,simprocAttr,(cells_of_heap h6).1]
 rw [op_lookup1S Tryz.underlying123 Tryz.underlying9 ty3 hM,hLc]
 have hcl:cntB ((ps.take k).map fun x=>x.nd.name) x.nd.name≤k:=by
  unfold cntB
  refine Nat.le_trans (List.length_filter_le _ _) ?_
  rw [List.length_map,List.length_take]
  omega
 have hwc:IntKind.i64.wrap ((cntB ((ps.take k).map fun x=>x.nd.name) x.nd.name:Int)+1)=((cntB ((ps.take k).map fun x=>x.nd.name) x.nd.name+1:Nat):Int):=wrap_succ (by omega)
 simp (disch:=try exact DI) only [↓PR,QR,simprocAttr,hwc]
 rw [op_mapUpdateS Tryz.underlying123 Tryz.underlying9 hM]
 have hm6:p6≠m:=fun e=>by
  have:=hM.obj
  rw [← e,h6] at this
  cases this
 have n1:=H.n1
 have n2:=H.n2
 have n3:=H.n3
 have n4:=H.n4
 have hM7:=hM.put x.nd.name (.int .i64 ((cntB ((ps.take k).map fun x=>x.nd.name) x.nd.name+1:Nat):Int))
 have hLc7:∀ nm,(Sw.look (putL L c x.nd.name (.int .i64 ((cntB ((ps.take k).map fun x=>x.nd.name) x.nd.name+1:Nat):Int))) nm).getD (.int .i64 0) = .int .i64 (cntB ((ps.take (k+1)).map fun x=>x.nd.name) nm:Int):=by
  intro nm
  rw [look_put]
  have hc:cntB ((ps.take (k+1)).map fun x=>x.nd.name) nm=cntB ((ps.take k).map fun x=>x.nd.name) nm+if x.nd.name=nm then 1 else 0:=by
   rw [List.take_add_one,hx,Option.toList_some,List.map_append]
   unfold cntB
   rw [List.filter_append,List.length_append]
   by_cases h:x.nd.name=nm<;>simp [h]
  rw [hc]
  by_cases h:nm=x.nd.name
  · rw [if_pos h,if_pos h.symm,h]
    rfl
  · rw [if_neg h,if_neg (fun e=>h e.symm),hLc,Nat.add_zero]
 generalize putL L c x.nd.name (.int .i64 ((cntB ((ps.take k).map fun x=>x.nd.name) x.nd.name+1:Nat):Int))=L7 at *
 generalize putC L c x.nd.name=c7 at *
 have hoth:∀ {p:Nat} {o:Obj},p≠m→w.heap[p]?=some o→(w.putObj m (mapObjS L7 c7)).heap[p]?=some o:=fun hne h=>(World.putObj_heap_other hne).trans h
 have s1:=hoth (by omega) H.s1
 have s2:=hoth (by omega) H.s2
 have s3:=hoth (by omega) H.s3
 have h6:=hoth hm6 h6
 have J7:=(hJl _).put (l:=m) (.inr (.inl rfl)) H.j (mapObjS L7 c7)
 have hmk7:∀ b∈bs,MarkAt b (w.putObj m (mapObjS L7 c7)):=fun b hb=>(World.putObj_heap_other (fun e=>by
  have:=hM.obj
  rw [← e] at this
  have h2:w.heap[b]?=_:=H.mks b hb
  rw [h2] at this
  cases this)).trans (H.mks b hb)
 have z7:(w.putObj m (mapObjS L7 c7)).heap.size=w.heap.size:=by simp
 change MapS (w.putObj m (mapObjS L7 c7)) m L7 c7 at hM7
 generalize w.putObj m (mapObjS L7 c7)=w7 at *
 have hA7:=(hFP _ _ _ J7).1
 have hnl:x.nd.name.data.toList.length≤32:=by
  unfold nameB at hnb
  simp only [Bool.and_eq_true,decide_eq_true_eq] at hnb
  have:=hnb.1.1.2
  have e:=Go.Lib.size_eq x.nd.name
  omega
 have hsl:(stepB x.nd.name (cntB ((ps.take k).map fun x=>x.nd.name) x.nd.name)).length≤100:=by
  unfold stepB
  rw [List.length_append]
  have:=decD_small 11 (cntB ((ps.take k).map fun x=>x.nd.name) x.nd.name) (by omega)
  split
  · rw [List.length_nil];omega
  · rw [List.length_cons];omega
 have hgo:callK Pg 59 #[.agg #[.string x.nd.name,.int .i64 x.nd.int,bx,hx',px],.string (mkB (belowB path ps k x))] (outQ Pg (bs.map Sw.mark) [] (WkR J Jx Jp ((path,Tr.mk n ps)::LL.flatten).length)) w7 fun t51 w=>n86c3 (.pointer (some ⟨p3,0,none⟩)) (.int .i64 (k:Int)) t51 next2 (bs.map Sw.mark) (WkR J Jx Jp ((path,Tr.mk n ps)::LL.flatten).length) w:=by
  refine callK_ret (walk_ret w7 (belowB path ps k x) x bx hx' px f1 f2 f3) ?_
  rintro _ w9 ⟨rfl,hWP,e9⟩
  unfold n86c3
  have J9:=(hJl _).ext J7 e9
  have s1:=e9.obj s1
  have s2:=e9.obj s2
  have s3:=e9.obj s3
  have hM9:=hM7.ext e9
  have hmk9:∀ b∈bs,MarkAt b w9:=fun b hb=>(hmk7 b hb).ext e9
  have z9:=e9.size
  have q1lt:=(Array.getElem?_eq_some_iff.1 hWP.1).1
  have hA7z:=hA7.size
  have hbl:∀ b∈bs,b < w7.heap.size:=fun b hb=>(Array.getElem?_eq_some_iff.1 (hmk7 b hb)).1
  have hoK:=offL_le hLk
  let U:Bks:=fun b=>Vk p3 m (w9.heap.size::bs) b∨b=w7.heap.size∨b=w7.heap.size+1
  have hUR:∀ b,U b→b≤w9.heap.size:=by
   rintro b ((h | h | h) | h | h)
   · omega
   · omega
   · rcases List.mem_cons.1 h with h | h
     · omega
     · have:=hbl b h;omega
   · omega
   · omega
  let qc:Array Value:=(trCells x.nd bx hx' px).toArray
  let I:Nat→Bks→World→Prop:=fun j V u=>J (offL LL k+1+j) (fun b=>U b∨V b) u∧(¬ V (w7.heap.size+1)∧u.heap[w7.heap.size+1]?=some (.cells #[.string (mkB (belowB path ps k x))] 9 (0,0)))∧(¬ V w7.heap.size∧u.heap[w7.heap.size]?=some (.cells qc 26 (0,0)))∧(¬ V p3∧u.heap[p3]?=some (.cells #[yv] 97 (0,0)))∧(¬ V m∧u.heap[m]?=some (mapObjS L7 c7))∧∀ b∈bs,¬ V b∧u.heap[b]?=some (.deferred (some []))
  let Ix:Nat→Bks→World→Prop:=fun c V u=>c=0∧Jx (fun b=>U b∨V b) u∧(¬ V (w7.heap.size+1)∧u.heap[w7.heap.size+1]?=some (.cells #[.string (mkB (belowB path ps k x))] 9 (0,0)))∧(¬ V w7.heap.size∧u.heap[w7.heap.size]?=some (.cells qc 26 (0,0)))∧∀ b∈bs,¬ V b∧u.heap[b]?=some (.deferred (some []))
  let Ip:List PanicEntry→Bks→World→Prop:=fun ch V u=>Jp ch (fun b=>U b∨V b) u∧∀ b∈bs,¬ V b∧u.heap[b]?=some (.deferred (some []))
  have hI0:I 0 (fun _=>False) w9:=by
   refine ⟨hJl _ _ _ _ _ (LW7.more (e9.trans (Ext.refl _)) fun b hb=>?_) J7,⟨fun h=>h,hWP.1⟩,⟨fun h=>h,hWP.2⟩,⟨fun h=>h,s3⟩,⟨fun h=>h,hM9.obj⟩,fun b hb=>⟨fun h=>h,hmk9 b hb⟩⟩
   rcases hb with ((h | h | h) | h | h) | h
   · exact .inl (.inl h)
   · exact .inl (.inr (.inl h))
   · rcases List.mem_cons.1 h with h | h
     · exact .inr (by omega)
     · exact .inl (.inr (.inr h))
   · exact .inr (by omega)
   · exact .inr (by omega)
   · exact h.elim
  refine ⟨_,_,_,_,_,_,_,I,Ix,Ip,rfl,c82,ih (w7.heap.size+1) w7.heap.size (by omega) (by omega) (by omega),fun w' e'=>trivial,fun b hb=>hb.elim,hI0,fun j V u h=>⟨(hFP _ _ _ h.1).1,h.2.1.2,h.2.2.1.2⟩,fun c V u h=>⟨(hFPx _ _ h.2.1).1,h.2.2.1.2,h.2.2.2.1.2⟩,fun j=>(or_lasts (hJl _) U).and (Lasts7.has.and (Lasts7.has.and (Lasts7.has.and (Lasts7.has.and (marks_lasts bs))))),fun c=>(Lasts7.const _).and ((or_lasts hJx U).and (Lasts7.has.and (Lasts7.has.and (marks_lasts bs)))),fun ch=>(or_lasts (hJp ch) U).and (marks_lasts bs),?_,?_,?_,?_⟩
  · intro Rk V hR hV0 j xx yy u hj hY hIu hRu hltu hready
    obtain ⟨q,csq,lo,hi,hq,rfl,rfl,hOq,hlo,hhi,hdis⟩:=hY
    obtain ⟨yb,yh,yp,rfl,_,_,_,g1,g2,g3⟩:=hOq.read.op
    unfold n86c2
    simp (disch:=try exact DI) only [↓PR,QR,simprocAttr]
    change busyK _ (u.alloc (.cells #[.string q.2.nd.name,.int .i64 q.2.nd.int,yb,yh,yp] 26)) _
    have eA:Ext u (u.alloc (.cells #[.string q.2.nd.name,.int .i64 q.2.nd.int,yb,yh,yp] 26)):=ee
    have oA:=heap_new u #[.string q.2.nd.name,.int .i64 q.2.nd.int,yb,yh,yp] 26
    generalize (u.alloc (.cells #[.string q.2.nd.name,.int .i64 q.2.nd.int,yb,yh,yp] 26))=Y at eA oA ⊢
    generalize hpu:u.heap.size=pu at oA ⊢
    refine ⟨by obtain ⟨r,h1,h2⟩:=hready;exact ⟨r,eA.obj h1,h2⟩,fun w5 hbz=>?_⟩
    have hR5:=hR _ _ (KR7.busied hbz) (hR _ _ (KR7.of eA) hRu)
    have hLI:Lasts7 (I j):=(or_lasts (hJl _) U).and (Lasts7.has.and (Lasts7.has.and (Lasts7.has.and (Lasts7.has.and (marks_lasts bs)))))
    obtain ⟨J5,n1',n2',n3',n4',n5'⟩:=hLI.busied hbz (show plusB V w9.heap.size (w9.heap.size+1) from .inr (.inr rfl)) (hLI.ext hIu eA)
    have hbk:∀ b,b≠w9.heap.size+1→w5.heap[b]?=Y.heap[b]?:=by
     obtain ⟨r,_,rfl⟩:=hbz
     exact fun b hb=>World.putObj_heap_other hb
    have hz5:Y.heap.size=w5.heap.size:=by
     obtain ⟨r,_,rfl⟩:=hbz
     simp
    have qA:=(hbk pu (by omega)).trans oA
    have hO5:=OwnT.only (bk:=w9.heap.size+1) hbk (hOq.ext eA) (.inr (by omega))
    have zY:=eA.size
    unfold n86c1
    simp (disch:=try exact DI) only [↓PR,QR,simprocAttr,(cells_of_heap n3'.2).1,(cells_of_heap qA).1]
    have hs:=hstep (offL LL k+1+j) (by rw [List.length_cons];omega) (.string (mkB q.1)) (.agg (trCells q.2.nd yb yh yp).toArray) (fun b=>U b∨plusB V w9.heap.size b) w5 ⟨q,_,lo,hi,by rw [show offL LL k+1+j=(offL LL k+j)+1 by omega,List.getElem?_cons_succ,flat_at hLk hj];exact hq,rfl,rfl,hO5,by omega,by omega,fun b h1 h2 h3=>?_⟩ (fun b hb => .inr ?_) (fun u=>Rk u∧(u.heap[w7.heap.size+1]?=some (.cells #[.string (mkB (belowB path ps k x))] 9 (0,0))∧(u.heap[w7.heap.size]?=some (.cells qc 26 (0,0))∧(u.heap[p3]?=some (.cells #[yv] 97 (0,0))∧(u.heap[m]?=some (mapObjS L7 c7)∧∀ b∈bs,u.heap[b]?=some (.deferred (some []))))))) ((hR.sub fun b h => .inr h).and ((Firm7.has (.inl (.inr (.inr rfl))) (by simp)).and ((Firm7.has (.inl (.inr (.inl rfl))) (by simp)).and ((Firm7.has (.inl (.inl (.inl rfl))) (by simp)).and ((Firm7.has (.inl (.inl (.inr (.inl rfl)))) (by simp [mapObj])).and fun w w' h hm b hb=>h.defer b (hm b hb)))))) J5 ⟨hR5,n1'.2,n2'.2,n3'.2,n4'.2,fun b hb=>(n5' b hb).2⟩
    · refine callV_mono hs (fun ch w h=>⟨h.1.1,h.2,fun b hb=>⟨(n5' b hb).1,h.1.2.2.2.2.2 b hb⟩⟩) ?_
      rintro v w6 ⟨⟨hR6,k1,k2,k3,k4,k5⟩,⟨rfl,J6⟩ | ⟨rfl,J6⟩⟩
      · simp (disch:=try exact DI) only [↓PR,QR,simprocAttr]
        exact ⟨hR6,by rw [← Nat.add_assoc];exact J6,⟨n1'.1,k1⟩,⟨n2'.1,k2⟩,⟨n3'.1,k3⟩,⟨n4'.1,k4⟩,fun b hb=>⟨(n5' b hb).1,k5 b hb⟩⟩
      · simp (disch:=try exact DI) only [↓PR,QR,simprocAttr]
        exact ⟨hR6,rfl,J6,⟨n1'.1,k1⟩,⟨n2'.1,k2⟩,fun b hb=>⟨(n5' b hb).1,k5 b hb⟩⟩
    · rcases h3 with h3 | h3 | h3
      · have:=hUR b h3;omega
      · exact hdis b h1 h2 h3
      · omega
    · rcases hb with ((h | h | h) | h | h) | h | h
      · omega
      · omega
      · rcases List.mem_cons.1 h with h | h
        · omega
        · exact H.bs3 b h
      · omega
      · omega
      · rcases hV0 b h with h | h
        · exact h.elim
        · omega
      · omega
  · rintro V u ⟨K1,K2,K3,K4,K5,K6⟩ hmk
    have hwk:IntKind.i64.wrap ((k:Int)+1)=((k+1:Nat):Int):=by rw [wrap_ok (by omega) (by omega)];omega
    simp (disch:=try exact DI) only [↓PR,QR,simprocAttr,hwk]
    have huz:=(Array.getElem?_eq_some_iff.1 (show u.heap[w9.heap.size]?=_ from hmk)).1
    have hFu:=(hFP _ _ _ K1).2
    refine hnext w9.heap.size u ⟨?_,hFu.1,hFu.2,K4.2,⟨L7,c7,hM9.of_obj (K5.2.trans hM9.obj.symm),hLc7⟩,List.nodup_cons.2 ⟨fun h=>by have:=hbl _ h;omega,H.nd⟩,fun b hb=>?_,fun b hb=>?_,n1,n2,n3,by omega⟩
    · rw [offL_succ hLk,Nat.add_right_comm]
      exact hJl _ _ _ _ _ (LW7.shrink u fun b hb => .inl (.inl hb)) K1
    · rcases List.mem_cons.1 hb with rfl | hb
      · exact hmk
      · exact (K6 b hb).2
    · rcases List.mem_cons.1 hb with rfl | hb
      · omega
      · exact H.bs3 b hb
  · rintro c V u ⟨rfl,K1,K3,K4,K2⟩ hmk
    refine outs7 (bs:=w9.heap.size::bs) (Q:=Jx) (V:=fun b=>U b∨V b) hJx (fun w h=>?_) (List.nodup_cons.2 ⟨fun h=>by have:=hbl _ h;omega,H.nd⟩) (fun b hb=>?_) (fun b hb => .inl (.inl (.inr (.inr hb)))) K1
    · simp (disch:=try exact DI) only [↓PR,QR,simprocAttr,outX_nil,retV,resOne]
      exact ⟨_,.inr h⟩
    · rcases List.mem_cons.1 hb with rfl | hb
      · exact hmk
      · exact (K2 b hb).2
  · rintro ch V u ⟨K1,K2⟩ hmk
    refine outq7 (bs:=w9.heap.size::bs) (Q:=Jp ch) (V:=fun b=>U b∨V b) (hJp ch) (fun w h=>⟨_,h⟩) (List.nodup_cons.2 ⟨fun h=>by have:=hbl _ h;omega,H.nd⟩) (fun b hb=>?_) (fun b hb => .inl (.inl (.inr (.inr hb)))) K1
    rcases List.mem_cons.1 hb with rfl | hb
    · exact hmk
    · exact (K2 b hb).2
 unfold belowB at hgo
 generalize stepB x.nd.name (cntB ((ps.take k).map fun x=>x.nd.name) x.nd.name)=sb at *
 by_cases hp0:path=[]
 · subst hp0
   rw [show dotB [] sb=sb from if_pos rfl] at hgo
   rw [show mkB []=(⟨#[]⟩:ByteArray) from rfl] at s1
   simp (disch:=try exact DI) only [↓PR,QR,simprocAttr,(cells_of_heap s1).1,(cells_of_heap h6).1]
   exact hgo
 · have hpn:¬ mkB path=(⟨#[]⟩:ByteArray):=fun h=>hp0 (by
    have:=congrArg (fun b:ByteArray=>b.data.toList) h
    rwa [mkB_data] at this)
   rw [show dotB path sb=(path++[46])++sb by unfold dotB;rw [if_neg hp0];simp] at hgo
   simp (disch:=try exact DI) only [↓PR,QR,simprocAttr,(cells_of_heap s1).1,hpn]
   unfold n86c4
   simp (disch:=try exact DI) only [↓PR,QR,simprocAttr,(cells_of_heap s1).1]
   rw [show (⟨#[46]⟩:ByteArray)=mkB [46] from rfl,op_saddL _ _ _ _ (by simp;omega)]
   simp (disch:=try exact DI) only [↓PR,QR,simprocAttr]
   rw [op_saddL _ _ _ _ (by simp;omega)]
   simp (disch:=try exact DI) only [↓PR,QR,simprocAttr,(cells_of_heap h6).1]
   exact hgo
theorem walk_parts {A:World} {rl rh:Nat} {n:Nd} {ps:List Tr} {path:List UInt8} {bv hv pv:Value} (hT0:ETi A rl rh (trCells n bv hv pv) (.mk n ps)) (hfit:fitT (.mk n ps)=true) (hnb:∀ p∈ps,nameB p.nd.name=true) (hpl:path.length≤900000000)
 (ih:∀ (k:Nat) (p:Tr) (b1 h1 p1:Value),ps[k]?=some p→ETi A rl rh (trCells p.nd b1 h1 p1) p→WalkSeq A rl rh p (belowB path ps k p) (trCells p.nd b1 h1 p1)):WalkSeq A rl rh (.mk n ps) path (trCells n bv hv pv):=by
 obtain ⟨hB,hH,hT⟩:BytesOf (restr A rl rh) bv n.bytes∧HdrsOf (restr A rl rh) hv n.hdrs∧TrsOf (restr A rl rh) pv ps:=by
  obtain ⟨x1,x2,x3,hx,y1,y2,y3⟩:=ETr_mk.1 hT0
  unfold trCells at hx
  injection hx with _ hx
  injection hx with _ hx
  injection hx with e1 hx
  injection hx with e2 hx
  injection hx with e3 _
  subst e1 e2 e3
  exact ⟨y1,y2,y3⟩
 obtain ⟨LL,hLL⟩:∃ LL:List (List (List UInt8×Tr)),LL=partsW path [] ps (ps.map walkT):=⟨_,rfl⟩
 have hLk:∀ (k:Nat) (p:Tr),ps[k]?=some p→LL[k]?=some (walkT p (belowB path ps k p)):=fun k p hp=>by
  rw [hLL,partsW_get hp]
  rfl
 have hLlen:LL.length=ps.length:=by rw [hLL,partsW_len]
 have hL:walkT (.mk n ps) path=(path,.mk n ps)::LL.flatten:=by rw [walkT_mk,hLL]
 have o1:=SliceOf.oneCell hB
 have o2:=SliceOf.oneCell hH
 have o3:=SliceOf.oneCell hT
 intro p1 p2 hA1 hA2 h12 yv J Jx Jp w hy hPre hFP hFPx hJl hJx hJp hstep h0
 obtain ⟨hA,q1,q2⟩:=hFP _ _ _ h0
 have hz1:=(Array.getElem?_eq_some_iff.1 q1).1
 have hz2:=(Array.getElem?_eq_some_iff.1 q2).1
 rw [hL] at hstep ⊢
 refine n86s (t0:=yv) ?_
 unfold n86
 simp (disch:=try exact DI) only [↓PR,QR,simprocAttr]
 simp only [cells_one hy]
 have eW:Ext w (w.alloc (.cells #[yv] 97)):=ee
 have oW:=heap_new w #[yv] 97
 generalize (w.alloc (.cells #[yv] 97))=Z at eW oW ⊢
 generalize hp3:w.heap.size=p3 at *
 refine drawK_introK p3 p1 p2 ?_
 have eD:Ext Z (drew Z):=(Ext.refl Z).drew
 have eD':=eW.trans eD
 have oD:=eD.obj oW
 generalize drew Z=D at *
 have d1:=eD'.obj q1
 have d2:=eD'.obj q2
 have Q1:=fun {k:Value→Prop}=>qK_one (a:=p3) (b:=p1) (c:=p2) (k:=k) (o:=0) ty97 (.inl rfl) oD rfl
 have Q2:=fun {k:Value→Prop}=>qK_one (a:=p3) (b:=p1) (c:=p2) (k:=k) (o:=0) ty9 (.inr (.inl rfl)) d1 rfl
 have Q3:=fun {k:Value→Prop}=>qK_all (a:=p3) (b:=p1) (c:=p2) (k:=k) (cs:=trCells n bv hv pv) ty26 (.inr (.inr rfl)) d2 rfl
 unfold n86c10
 simp (disch:=try exact DI) only [↓PR,QR,simprocAttr,Q1,Q2,Q3]
 have hVD:ValAt D (.agg (trCells n bv hv pv).toArray) (.mk n ps):=val_of_eti ((hA.ext eD').eti hT0)
 refine callK_ret (Copy_ret (.mk n ps) D _ hVD hfit) ?_
 rintro _ w3 ⟨⟨cs3,rfl,hO3⟩,e3⟩
 have hpD:=(Array.getElem?_eq_some_iff.1 oD).1
 have hk3:∀ p,p < D.heap.size→w3.heap[p]?=D.heap[p]?:=fun p hp=>e3.block p hp
 have zD:=eD'.size
 refine ⟨⟨hk3 _ hpD,hk3 _ (by omega),hk3 _ (by omega)⟩,?_⟩
 unfold n86c9
 have r1:=e3.obj d1
 have r2:=e3.obj d2
 have r3:=e3.obj oD
 have J3:J 0 (fun b=>b=p3) w3:=hJl 0 _ _ _ _ (LW7.more (eD'.trans e3) fun b hb => .inr (by omega)) h0
 have hs:=hstep 0 (by simp) (.string (mkB path)) (.agg cs3.toArray) (fun b=>b=p3) w3 ⟨(path,.mk n ps),cs3,D.heap.size,w3.heap.size,rfl,rfl,rfl,hO3,by omega,Nat.le_refl _,fun b h1 h2 h3=>by omega⟩ (fun b hb => .inr (by omega)) (fun u=>u.heap[p3]?=some (.cells #[yv] 97 (0,0))) (Firm7.has rfl (by simp)) J3 r3
 refine callV_mono hs (fun ch w h=>⟨_,h.2⟩) ?_
 rintro v w4 ⟨s3,hv4⟩
 have s12:WalkP p1 p2 path (trCells n bv hv pv) w4:=by
  rcases hv4 with ⟨_,J4⟩ | ⟨_,J4⟩
  · exact (hFP _ _ _ J4).2
  · exact (hFPx _ _ J4).2
 obtain ⟨s1,s2⟩:=s12
 refine ⟨⟨s3.trans oD.symm,s1.trans d1.symm,s2.trans d2.symm⟩,?_⟩
 rcases hv4 with ⟨rfl,J4⟩ | ⟨rfl,J4⟩
 case inr =>
  simp (disch:=try exact DI) only [↓PR,QR,simprocAttr,outX_nil,retV,resOne]
  exact ⟨_,.inr J4⟩
 have hA4:=(hFP _ _ _ J4).1
 simp (disch:=try exact DI) only [↓PR,QR,simprocAttr]
 unfold n86c8
 rw [op_makeMap]
 have e5:Ext w4 (w4.alloc (.map #[] 0)):=(Ext.refl _).alloc _
 have hM:=MapS.new w4
 have z5:(w4.alloc (.map #[] 0)).heap.size=w4.heap.size+1:=by simp
 have hz3:=(Array.getElem?_eq_some_iff.1 s3).1
 have hz4:=(Array.getElem?_eq_some_iff.1 s1).1
 have hz5:=(Array.getElem?_eq_some_iff.1 s2).1
 have J5:J 1 (Vk p3 w4.heap.size []) (w4.alloc (.map #[] 0)):=hJl 1 _ _ _ _ (LW7.more e5 fun b hb=>by
  rcases hb with h | h | h
  · exact .inl h
  · exact .inr (by omega)
  · cases h) J4
 have s1:=e5.obj s1
 have s2:=e5.obj s2
 have s3:=e5.obj s3
 generalize (w4.alloc (.map #[] 0))=w5 at *
 generalize hm:w4.heap.size=m at *
 clear e5 e3 hO3 r1 r2 r3 J3 hVD Q1 Q2 Q3 d1 d2 oD hs hk3 hA4 J4
 obtain ⟨B0,c0,rfl,hlc,hcm,hlm,hel⟩:=SliceOf.open hT
 have s2c:=(cells_of_heap s2).1 4
 change w5.cell? _=some (Value.slice B0 ps.length c0) at s2c
 simp (disch:=try exact DI) only [↓PR,QR,simprocAttr,s2c]
 refine loopM1_intro (fun ds a w'=>∃ (k:Nat) (bs:List Nat),a = .int .i64 k∧ds=bs.map Sw.mark∧k≤ps.length∧WkI J LL ps path (trCells n bv hv (.slice B0 ps.length c0)) p1 p2 p3 m yv k bs w') (fun a _=>ps.length - (intOf a).toNat) ⟨0,[],rfl,rfl,by omega,?_⟩ ?_
 · exact ⟨J5,s1,s2,s3,⟨[],0,hM,fun nm=>rfl⟩,List.nodup_nil,(fun b h=>by cases h),(fun b h=>by cases h),by omega,by omega,by omega,by omega⟩
 rintro ds _ w6 ⟨k,bs,rfl,rfl,hkl,H⟩
 have hA6:=(hFP _ _ _ H.j).1
 by_cases hlt:k < ps.length
 case neg =>
  obtain rfl:k=ps.length:=by omega
  have d:decide ((ps.length:Int) < (ps.length:Int))=false:=decide_eq_false (by omega)
  simp (disch:=try exact DI) only [↓PR,QR,simprocAttr,d]
  refine outs7 (Q:=fun V w=>J (offL LL ps.length+1) V w) (hJl _) (fun w h=>?_) H.nd H.mks (fun b hb => .inr (.inr hb)) H.j
  simp (disch:=try exact DI) only [↓PR,QR,simprocAttr,outX_nil,retV,resOne]
  refine ⟨Vk p3 m bs,.inl ?_⟩
  have:offL LL ps.length=LL.flatten.length:=by rw [← offL_all,hLlen]
  rw [this] at h
  exact h
 have d:decide ((k:Int) < (ps.length:Int))=true:=decide_eq_true (by omega)
 have dk:(k:Int) < (ps.length:Int):=by omega
 obtain ⟨x,hx⟩:=getElem?_lt hlt
 obtain ⟨b,o,cs,rfl,h5,hAx,hEx⟩:=hel k x hx
 obtain ⟨bv',hv',pv',rfl,hB',hH',hT',f1,f2,f3⟩:=hEx.op
 obtain ⟨L,c,hM6,hLc⟩:=H.mp
 simp (disch:=try exact DI) only [↓PR,QR,simprocAttr,d]
 unfold n86c7
 simp (disch:=try exact DI) only [↓PR,QR,simprocAttr,dk,(hA6.elem hAx).c5 (Ext.refl _)]
 have e7:Ext w6 (w6.alloc (.cells #[.string x.nd.name,.int .i64 x.nd.int,bv',hv',pv'] 26)):=ee
 have o7:=heap_new w6 #[.string x.nd.name,.int .i64 x.nd.int,bv',hv',pv'] 26
 have H7:=H.ext hJl e7
 have hM7:=hM6.ext e7
 generalize (w6.alloc (.cells #[.string x.nd.name,.int .i64 x.nd.int,bv',hv',pv'] 26))=w7 at *
 generalize w6.heap.size=p6 at *
 have hA7:=(hFP _ _ _ H7.j).1
 have hkn:ps.length≤1048576:=(fitT_mk hfit).2.2.1
 have hcl:cntB ((ps.take k).map fun x=>x.nd.name) x.nd.name≤k:=by
  unfold cntB
  refine Nat.le_trans (List.length_filter_le _ _) ?_
  rw [List.length_map,List.length_take]
  omega
 have hnl:x.nd.name.data.toList.length≤32:=by
  have hnb:=hnb x (List.mem_of_getElem? hx)
  unfold nameB at hnb
  simp only [Bool.and_eq_true,decide_eq_true_eq] at hnb
  have:=hnb.1.1.2
  have e:=Go.Lib.size_eq x.nd.name
  omega
 have hname:x.nd.name=mkB x.nd.name.data.toList:=bytes_ext (by rw [mkB_data])
 have hgo:∀ w8,Ext w7 w8→n86c5 (.pointer (some ⟨p1,0,none⟩)) (.pointer (some ⟨p3,0,none⟩)) (.pointer (some ⟨p6,0,none⟩)) (.string (mkB (stepB x.nd.name (cntB ((ps.take k).map fun x=>x.nd.name) x.nd.name)))) (.map (some m)) (.int .i64 (k:Int)) (fun ds' a0' w'=>(∃ (k:Nat) (bs:List Nat),a0' = .int .i64 k∧ds'=bs.map Sw.mark∧k≤ps.length∧WkI J LL ps path (trCells n bv hv (.slice (some ⟨b,o,none⟩) ps.length c0)) p1 p2 p3 m yv k bs w')∧ps.length - (intOf a0').toNat < ps.length - (intOf (.int .i64 (k:Int))).toNat) (bs.map Sw.mark) (WkR J Jx Jp ((path,Tr.mk n ps)::LL.flatten).length) w8:=fun w8 e8 =>
  walk_tail hFP hFPx hJl hJx hJp (by omega) hy hstep (H7.ext hJl e8) hx (hLk k x hx) hpl (hnb x (List.mem_of_getElem? hx)) (by omega) f1 f2 f3 (ih k x bv' hv' pv' hx hEx) (e8.obj o7) fun r w' h=>⟨⟨k+1,r::bs,rfl,rfl,by omega,h⟩,meas_lt (kd := .i64) hlt⟩
 rw [op_lookup1S Tryz.underlying123 Tryz.underlying9 ty3 hM7,hLc]
 unfold joinK
 generalize hcc:cntB ((ps.take k).map fun x=>x.nd.name) x.nd.name=cc at *
 by_cases hc0:cc=0
 · have hd:¬ (0:Int) < (cc:Int):=by omega
   simp (disch:=try exact DI) only [↓PR,QR,simprocAttr,hd]
   have hst:mkB (stepB x.nd.name cc)=x.nd.name:=by
    unfold stepB
    rw [if_pos hc0,List.append_nil,← hname]
   rw [hst] at hgo
   exact hgo w7 (Ext.refl _)
 · have hd:(0:Int) < (cc:Int):=by omega
   simp (disch:=try exact DI) only [↓PR,QR,simprocAttr,hd]
   refine zcr (Itoa_ret hA7.env.tab (cc:Int) (by omega) (by omega)) fun w8 e8=>?_
   have hdl:=decD_small 11 cc (by omega)
   have hit:decB (cc:Int)=mkB (Go.Lib.decDigits cc):=by
    unfold decB
    rw [itoa_pos (by omega),Int.toNat_natCast]
    rfl
   have hst:mkB (stepB x.nd.name cc)=mkB (x.nd.name.data.toList++([58]++Go.Lib.decDigits cc)):=by
    unfold stepB
    rw [if_neg hc0]
    rfl
   rw [hst] at hgo
   unfold n86c6
   rw [hit,show (⟨#[58]⟩:ByteArray)=mkB [58] from rfl,op_saddL _ _ _ _ (by simp;omega)]
   have hgo8:=hgo w8 e8
   generalize hnl2:x.nd.name.data.toList=nl at *
   rw [hname]
   rw [op_saddL _ _ _ _ (by simp;omega)]
   exact hgo8
theorem name_len {s:ByteArray} (h:nameB s=true):s.data.toList.length≤32:=by
 unfold nameB at h
 simp only [Bool.and_eq_true,decide_eq_true_eq] at h
 have:=h.1.1.2
 have e:=Go.Lib.size_eq s
 omega
theorem step_len {s:ByteArray} (h:nameB s=true) {n:Nat} (hn:n≤1000000000):(stepB s n).length≤100:=by
 have:=name_len h
 have h2:=decD_small 11 n (by omega)
 unfold stepB
 rw [List.length_append]
 split
 · rw [List.length_nil];omega
 · rw [List.length_cons];omega
theorem cnt_le (l:List ByteArray) (s:ByteArray):cntB l s≤l.length:=List.length_filter_le _ _
theorem below_len {path:List UInt8} {ps:List Tr} {k:Nat} {p:Tr} (h:nameB p.nd.name=true) (hp:ps.length≤1048576):(belowB path ps k p).length≤path.length+101:=by
 have h1:=cnt_le ((ps.take k).map fun x=>x.nd.name) p.nd.name
 rw [List.length_map,List.length_take] at h1
 have h2:=step_len h (n:=cntB ((ps.take k).map fun x=>x.nd.name) p.nd.name) (by omega)
 unfold belowB dotB
 split
 · omega
 · rw [List.length_append,List.length_cons];omega
theorem walk_seq {A:World} {rl rh:Nat} (t:Tr):∀ (path:List UInt8) (bv hv pv:Value),ETi A rl rh (trCells t.nd bv hv pv) t→allT nodeB t=true→fitT t=true→path.length+200*heightT t≤900000000→WalkSeq A rl rh t path (trCells t.nd bv hv pv):=by
 refine Tr.ind (p:=fun t=>∀ (path:List UInt8) (bv hv pv:Value),ETi A rl rh (trCells t.nd bv hv pv) t→allT nodeB t=true→fitT t=true→path.length+200*heightT t≤900000000→WalkSeq A rl rh t path (trCells t.nd bv hv pv)) ?_ t
 intro n ps ih path bv hv pv hV hn hf hl
 rw [heightT_mk] at hl
 rw [allT_mk,Bool.and_eq_true,List.all_eq_true] at hn
 obtain ⟨hf1,hf2,hf3,hf4⟩:=fitT_mk hf
 have hnb:∀ p∈ps,nameB p.nd.name=true:=fun p hp=>by
  have:=hn.2 p hp
  cases p with
  | mk n2 ps2 =>
   rw [allT_mk,Bool.and_eq_true] at this
   have h:=this.1
   unfold nodeB at h
   rw [Bool.and_eq_true] at h
   exact h.1
 refine walk_parts hV hf hnb (by omega) fun k p b1 h1 p1 hp hVp=>ih p (List.mem_of_getElem? hp) _ b1 h1 p1 hVp (hn.2 p (List.mem_of_getElem? hp)) (hf4 p (List.mem_of_getElem? hp)) ?_
 have hm:=(foldr_max_le (l:=ps.map heightT) (m:=(ps.map heightT).foldr max 0)).1 (Nat.le_refl _) _ (List.mem_map_of_mem (List.mem_of_getElem? hp))
 have:=below_len (path:=path) (k:=k) (hnb p (List.mem_of_getElem? hp)) hf3
 omega
def WalkK (w0:World) (t:Tr) (r:Value) (w':World):Prop:=Ext w0 w'∧if validT t=true then ∃ bv hv pv lo p2,r = .func (.func 82) #[] #[.pointer (some ⟨p2+1,0,none⟩),.pointer (some ⟨p2,0,none⟩)]∧WalkP (p2+1) p2 [] (trCells t.nd bv hv pv) w'∧OwnT w' t lo p2 (trCells t.nd bv hv pv)∧w0.heap.size≤lo∧p2+1 < w'.heap.size else r = .func (.func 58) #[] #[]
theorem Walk_ret {w0:World} (v:Value) (t:Tr) (hv:ValAt w0 v t) (hb:nodesT t≤1000000000):Ret Pg 22 #[v] w0 fun r w'=>WalkK w0 t r w':=by
 obtain ⟨bv,hv',pv,rfl,hB,hH,hT,o1,o2,o3⟩:=hv.op
 refine n62s (R:=retR _) ?_;unfold n62
 simp (disch:=try exact DI) only [↓PR,QR,simprocAttr]
 have c1:=heap_new w0 #[.string t.nd.name,.int .i64 t.nd.int,bv,hv',pv] 26
 change (w0.alloc (.cells (trCells t.nd bv hv' pv).toArray 26)).heap[w0.heap.size]?=_ at c1
 have e1:Ext w0 (w0.alloc (.cells (trCells t.nd bv hv' pv).toArray 26)):=(Ext.refl w0).alloc _
 generalize (w0.alloc (.cells (trCells t.nd bv hv' pv).toArray 26))=w1 at *
 have hV:ValAt w1 (.agg (trCells t.nd bv hv' pv).toArray) t:=ValAt.ext ⟨_,_,_,rfl,hB,hH,hT⟩ e1
 refine zcr (Valid_ret w1 _ t hV hb) fun w2 e2=>?_
 have e:=e1.trans e2
 cases hva:validT t with
 | false =>
  simp (disch:=try exact DI) only [↓PR,QR,simprocAttr]
  refine ⟨e,?_⟩
  rw [hva]
  rfl
 | true =>
  have c1:=e2.obj c1
  simp (disch:=try exact DI) only [↓PR,QR,simprocAttr]
  unfold n62c1
  simp (disch:=try exact DI) only [↓PR,QR,simprocAttr,(cells_of_heap c1).1]
  refine callK_ret (Copy_ret t w2 _ (hV.ext e2) (valid_fit hva)) ?_
  rintro _ w3 ⟨⟨cs3,rfl,hO3⟩,e3⟩
  obtain ⟨bv3,hv3,pv3,rfl,_,_,_,g1,g2,g3⟩:=hO3.read.op
  refine callK_ret (walk_ret w3 [] t bv3 hv3 pv3 g1 g2 g3) ?_
  rintro _ w4 ⟨rfl,hW,e4⟩
  simp (disch:=try exact DI) only [↓PR,QR,simprocAttr]
  refine ⟨e.trans (e3.trans e4),?_⟩
  rw [hva]
  exact ⟨bv3,hv3,pv3,w2.heap.size,w3.heap.size,rfl,hW,hO3.ext e4,e.size,(Array.getElem?_eq_some_iff.1 hW.1).1⟩
theorem walk_none (Y:Nat→Nat→Value→Value→Bks→World→Prop) (V0:Bks) (Pre FP:World→Prop):SeqIt7 Pg 58 #[] 0 Y V0 Pre FP:=by
 intro yv J Jx Jp w hy hPre hFP hFPx hJl hJx hJp hstep h0
 refine n63s (t0:=yv) ?_
 unfold n63
 exact ⟨_,.inl h0⟩
theorem valid_hn {t:Tr} (h:validT t=true):hnT 1048576 t=true:=by
 unfold validT at h
 simp only [Bool.and_eq_true,decide_eq_true_eq] at h
 have key:∀ t:Tr,allT nodeB t=true→hnT 1048576 t=true:=fun t=>by
  refine Tr.ind (p:=fun t=>allT nodeB t=true→hnT 1048576 t=true) ?_ t
  intro n ps ih h
  unfold hnT at ih ⊢
  rw [allT_mk,Bool.and_eq_true,List.all_eq_true] at h ⊢
  refine ⟨?_,List.all_eq_true.2 fun x hx=>ih x hx (h.2 x hx)⟩
  have h1:=h.1
  unfold nodeB at h1
  simp only [Bool.and_eq_true,decide_eq_true_eq] at h1
  intro y hy
  have h2:=List.all_eq_true.1 h1.2.2.2.2.2 y hy
  unfold hdrB at h2
  simp only [Bool.and_eq_true,decide_eq_true_eq] at h2
  exact decide_eq_true h2.1
 exact key t h.2
theorem walk_at {A:World} {t:Tr} {bv hv pv:Value} {lo p2:Nat} (hO:OwnT A t lo p2 (trCells t.nd bv hv pv)) (hval:validT t=true):WalkSeq A lo p2 t [] (trCells t.nd bv hv pv):=by
 have h1:=(InT.of (B:=1048576) _ hO (valid_hn hval)).1
 have hh:heightT t≤40:=by
  unfold validT at hval
  simp only [Bool.and_eq_true,decide_eq_true_eq] at hval
  exact hval.1.2
 have hn:allT nodeB t=true:=by
  unfold validT at hval
  simp only [Bool.and_eq_true,decide_eq_true_eq] at hval
  exact hval.2
 exact walk_seq t [] bv hv pv h1 hn (valid_fit hval) (by rw [List.length_nil];omega)
abbrev lf (s:List UInt8):Tr := .mk ⟨mkB s,0,[],[]⟩ []
abbrev ka:Tr := .mk ⟨mkB [97],5,[],[]⟩ []
abbrev kx:Tr := .mk ⟨mkB [120],0,[10],[]⟩ []
abbrev kl:Tr := .mk ⟨mkB [108],0,[],[]⟩ [kx,lf [120]]
abbrev kh:Tr := .mk ⟨mkB [104],0,[],[(mkB [65],mkB [98,99])]⟩ []
abbrev kT:Tr := .mk ⟨mkB [109],0,[],[]⟩ [ka,kl,kh]
abbrev kl2:Tr := .mk ⟨mkB [108],0,[],[]⟩ [lf [121],lf [120]]
abbrev kT2:Tr := .mk ⟨mkB [109],0,[],[]⟩ [ka,kl2,kh]
abbrev kS:List UInt8:=[109,40,97,61,53,32,108,40,120,35,48,97,32,120,41,32,104,91,52,49,58,54,50,54,51,93,41]
abbrev kS2:List UInt8:=[109,40,97,61,53,32,108,40,121,32,120,41,32,104,91,52,49,58,54,50,54,51,93,41]
theorem itoa1 {n:Nat} (h:n < 10):Go.Lib.itoa (n:Int)=[UInt8.ofNat (48+n)]:=by rw [itoa_pos (by omega),Int.toNat_natCast,Go.Lib.decDigits_one h]
theorem intL5:intL 5=[61,53]:=by
 unfold intL
 rw [if_neg (by decide),show (5:Int)=((5:Nat):Int) from rfl,itoa1 (by decide)]
 rfl
theorem t_ka:textT ka=[97,61,53]:=by
 rw [textT_mk]
 unfold nodeL
 simp only [intL5]
 rfl
theorem t_lf (s:List UInt8):textT (lf s)=s:=by
 rw [textT_mk]
 unfold nodeL
 simp [intL,bytL,joinP,mkB_data]
theorem t_kx:textT kx=[120,35,48,97]:=by rw [textT_mk];rfl
theorem t_kl:textT kl=[108,40,120,35,48,97,32,120,41]:=by
 rw [textT_mk]
 simp only [List.map_cons,List.map_nil,t_kx,t_lf]
 rfl
theorem t_kl2:textT kl2=[108,40,121,32,120,41]:=by
 rw [textT_mk]
 simp only [List.map_cons,List.map_nil,t_lf]
 rfl
theorem t_kh:textT kh=[104,91,52,49,58,54,50,54,51,93]:=by rw [textT_mk];rfl
theorem t_kT:textT kT=kS:=by
 rw [textT_mk]
 simp only [List.map_cons,List.map_nil,t_ka,t_kl,t_kh]
 rfl
theorem t_kT2:textT kT2=kS2:=by
 rw [textT_mk]
 simp only [List.map_cons,List.map_nil,t_ka,t_kl2,t_kh]
 rfl
theorem v_of (t:Tr) (h1:nodesT t≤65536) (h2:heightT t≤40) (h3:allT nodeB t=true):validT t=true:=by
 unfold validT
 rw [h3,decide_eq_true h1,decide_eq_true h2]
 rfl
theorem v_kT:validT kT=true:=by
 refine v_of _ ?_ ?_ ?_
 · simp only [nodesT_mk,List.map_cons,List.map_nil];decide
 · simp only [heightT_mk,List.map_cons,List.map_nil];decide
 · simp only [allT_mk,List.all_cons,List.all_nil];decide
theorem v_kT2:validT kT2=true:=by
 refine v_of _ ?_ ?_ ?_
 · simp only [nodesT_mk,List.map_cons,List.map_nil];decide
 · simp only [heightT_mk,List.map_cons,List.map_nil];decide
 · simp only [allT_mk,List.all_cons,List.all_nil];decide
theorem v_lf {s:List UInt8} (h:nodeB ⟨mkB s,0,[],[]⟩=true):validT (lf s)=true:=by
 refine v_of _ ?_ ?_ ?_
 · simp only [nodesT_mk,List.map_nil];decide
 · simp only [heightT_mk,List.map_nil];decide
 · simp only [allT_mk,List.all_nil,h];rfl
theorem nodes_kT:nodesT kT=6:=by simp only [nodesT_mk,List.map_cons,List.map_nil];rfl
theorem p_kT:parseR RP kS=some kT:=(parseR_iff RP_ok _ _).2 ⟨v_kT,t_kT⟩
theorem p_y:parseR RP [121]=some (lf [121]):=(parseR_iff RP_ok _ _).2 ⟨v_lf (by decide),t_lf _⟩
theorem p_a:parseR RP [97]=some (lf [97]):=(parseR_iff RP_ok _ _).2 ⟨v_lf (by decide),t_lf _⟩
abbrev k1:Tr := .mk ⟨mkB [97],1,[],[]⟩ []
abbrev k00:Tr := .mk ⟨mkB [97],0,[0],[]⟩ []
abbrev kb:Tr := .mk ⟨mkB [97],0,[],[]⟩ [lf [98]]
abbrev kbb:Tr := .mk ⟨mkB [97],0,[],[]⟩ [lf [98],lf [98]]
theorem intL1:intL 1=[61,49]:=by
 unfold intL
 rw [if_neg (by decide),show (1:Int)=((1:Nat):Int) from rfl,itoa1 (by decide)]
 rfl
theorem p_a1:parseR RP [97,61,49]=some k1:=by
 refine (parseR_iff RP_ok _ _).2 ⟨?_,?_⟩
 · refine v_of _ ?_ ?_ ?_
   · simp only [nodesT_mk,List.map_cons,List.map_nil];decide
   · simp only [heightT_mk,List.map_cons,List.map_nil];decide
   · simp only [allT_mk,List.all_cons,List.all_nil];decide
 · rw [textT_mk]
   unfold nodeL
   simp only [intL1]
   rfl
theorem p_a00:parseR RP [97,35,48,48]=some k00:=by
 refine (parseR_iff RP_ok _ _).2 ⟨?_,by rw [textT_mk];rfl⟩
 refine v_of _ ?_ ?_ ?_
 · simp only [nodesT_mk,List.map_cons,List.map_nil];decide
 · simp only [heightT_mk,List.map_cons,List.map_nil];decide
 · simp only [allT_mk,List.all_cons,List.all_nil];decide
theorem p_ab:parseR RP [97,40,98,41]=some kb:=by
 refine (parseR_iff RP_ok _ _).2 ⟨?_,by rw [textT_mk];simp only [List.map_cons,List.map_nil,t_lf];rfl⟩
 refine v_of _ ?_ ?_ ?_
 · simp only [nodesT_mk,List.map_cons,List.map_nil];decide
 · simp only [heightT_mk,List.map_cons,List.map_nil];decide
 · simp only [allT_mk,List.all_cons,List.all_nil];decide
theorem p_abb:parseR RP [97,40,98,32,98,41]=some kbb:=by
 refine (parseR_iff RP_ok _ _).2 ⟨?_,by rw [textT_mk];simp only [List.map_cons,List.map_nil,t_lf];rfl⟩
 refine v_of _ ?_ ?_ ?_
 · simp only [nodesT_mk,List.map_cons,List.map_nil];decide
 · simp only [heightT_mk,List.map_cons,List.map_nil];decide
 · simp only [allT_mk,List.all_cons,List.all_nil];decide
theorem r_a0:parseR RP [97,61,48]=none:=by
 unfold parseR
 rw [show readV RP 40 [97,61,48]=some (lf [97],[]) from by kernel_rfl]
 simp only
 rw [if_neg (fun h=>by have:=h.2;rw [t_lf] at this;cases this)]
theorem r_a0A:parseR RP [97,35,48,65]=none:=by
 unfold parseR
 rw [show readV RP 40 [97,35,48,65]=none from by kernel_rfl]
theorem r_abc:parseR RP [97,40,98,32,32,99,41]=none:=by
 unfold parseR
 rw [show readV RP 40 [97,40,98,32,32,99,41]=some (.mk ⟨mkB [97],0,[],[]⟩ [lf [98],lf [],lf [99]],[]) from by kernel_rfl]
 simp only
 rw [if_neg (fun h=>by
  have:=h.1
  unfold validT at this
  simp only [allT_mk,List.all_cons,List.all_nil] at this
  revert this
  simp only [nodesT_mk,heightT_mk,List.map_cons,List.map_nil]
  decide)]
theorem c_1:cmpT (lf [97]) k1 = -1∧cmpT k1 (lf [97])=1:=by constructor<;>rw [cmpT_mk]<;>decide
theorem c_2:cmpT k00 k1 = -1∧cmpT k1 k00=1:=by constructor<;>rw [cmpT_mk]<;>decide
theorem c_lf (s:List UInt8) (h:cmpN ⟨mkB s,0,[],[]⟩ ⟨mkB s,0,[],[]⟩=0):cmpT (lf s) (lf s)=0:=by
 rw [cmpT_mk]
 exact (if_pos h).trans rfl
theorem c_3:cmpT kb kbb = -1∧cmpT kbb kb=1:=by
 have h0:cmpN ⟨mkB [97],0,[],[]⟩ ⟨mkB [97],0,[],[]⟩=0:=by decide
 have h1:=c_lf [98] (by decide)
 constructor
 · rw [cmpT_mk]
   refine (if_pos h0).trans ?_
   show listsC cmpT [lf [98]] [lf [98],lf [98]] = -1
   simp only [listsC,h1,if_true]
 · rw [cmpT_mk]
   refine (if_pos h0).trans ?_
   show listsC cmpT [lf [98],lf [98]] [lf [98]]=1
   simp only [listsC,h1,if_true]
theorem s_lx1:stepsP [108,46,120,58,49]=some [([108],0),([120],1)]:=by kernel_rfl
theorem s_a:stepsP [97]=some [([97],0)]:=by kernel_rfl
theorem s_lx2:stepsP [108,46,120,58,50]=some [([108],0),([120],2)]:=by kernel_rfl
theorem s_llx:stepsP [108,46,46,120]=none:=by kernel_rfl
theorem s_lx0:stepsP [108,46,120,58,48]=none:=by kernel_rfl
theorem s_lx:stepsP [108,46,120]=some [([108],0),([120],0)]:=by kernel_rfl
theorem a_lx1:atT [([108],0),([120],1)] kT=some (lf [120]):=by kernel_rfl
theorem a_a:atT [([97],0)] kT=some ka:=by kernel_rfl
theorem a_lx2:atT [([108],0),([120],2)] kT=none:=by kernel_rfl
theorem u_lx:putT (lf [121]) [([108],0),([120],0)] kT=some kT2:=by kernel_rfl
theorem w_kT:(walkT kT []).map Prod.fst=[[],[97],[108],[108,46,120],[108,46,120,58,49],[104]]:=by
 have h1:cntB ([]++[kx.nd.name]) (lf [120]).nd.name=1:=by decide
 have h2:stepB (lf [120]).nd.name 1=[120,58,49]:=by
  unfold stepB
  rw [if_neg (by decide),Go.Lib.decDigits_one (by decide)]
  rfl
 simp only [walkT_mk,List.map_cons,List.map_nil,partsW,h1,h2]
 rfl
theorem cmp_zero:cmpT tr0 tr0=0:=by
 unfold tr0
 rw [cmpT_mk]
 exact (if_pos (by decide)).trans rfl
def GetsH (path want:List UInt8) (no:Int) (t:Tr):Prop:=(no=0∧∃ l t',stepsP path=some l∧atT l t=some t'∧textT t'=want∧want.length≤100000000)∨(no=6∧stepsP path=none)∨(no=9∧∃ l,stepsP path=some l∧atT l t=none)
theorem gets_ret {w0:World} (hE:EnvOK w0) (v:Value) (t:Tr) (path want:List UInt8) (no:Int) (hpl:path.length≤100000000) (hv:ValAt w0 v t) (hval:validT t=true) (h:GetsH path want no t):Ret Pg 33 #[v,.string (mkB path),.string (mkB want),.int .i64 no] w0 fun r w'=>r = .bool true∧Ext w0 w':=by
 obtain ⟨bv,hv',pv,rfl,hB,hH,hT,o1,o2,o3⟩:=hv.op
 have hn:=valid_nodes hval
 refine n9s (R:=retR _) ?_;unfold n9
 simp (disch:=try exact DI) only [↓PR,QR,simprocAttr]
 have e1:Ext w0 (w0.alloc (.cells (trCells t.nd bv hv' pv).toArray 26)):=(Ext.refl w0).alloc _
 generalize (w0.alloc (.cells (trCells t.nd bv hv' pv).toArray 26))=w1 at *
 have hV:ValAt w1 (.agg (trCells t.nd bv hv' pv).toArray) t:=ValAt.ext ⟨_,_,_,rfl,hB,hH,hT⟩ e1
 refine callK_ret (Get_ret (hE.ext e1) _ t path hpl hV (by omega)) ?_
 rintro r w2 ⟨e2,hr⟩
 rw [if_pos hval] at hr
 unfold n9c4
 have hzero:∀ e:Int,e≠0→r = .tuple #[zeroV,.int .i64 e]→no=e→n9c4 (.string (mkB want)) (.int .i64 no) r (retR fun r w'=>r = .bool true∧Ext w0 w') w2:=by
  intro e he hre hne
  have hre':r = .tuple #[.agg #[.string ByteArray.empty,.int .i64 0,.slice none 0 0,.slice none 0 0,.slice none 0 0],.int .i64 e]:=hre
  have hd:(no != 0)=true:=by rw [hne];simpa using he
  have hd2:(e == no)=true:=by rw [hne];simp
  rw [hre']
  unfold n9c4
  simp (disch:=try exact DI) only [↓PR,QR,simprocAttr,hd,hd2]
  have o3:=heap_new w2 #[.string ByteArray.empty,.int .i64 0,.slice none 0 0,.slice none 0 0,.slice none 0 0] 26
  have e3:Ext w2 (w2.alloc (.cells #[.string ByteArray.empty,.int .i64 0,.slice none 0 0,.slice none 0 0,.slice none 0 0] 26)):=ee
  generalize (w2.alloc (.cells #[.string ByteArray.empty,.int .i64 0,.slice none 0 0,.slice none 0 0,.slice none 0 0] 26))=w3 at *
  unfold n9c3 joinK
  simp (disch:=try exact DI) only [↓PR,QR,simprocAttr,hd2,(cells_of_heap o3).1]
  refine zcr (Equal_ret w3 _ _ tr0 tr0 (ValAt.zero _) (ValAt.zero _)) fun w4 e4=>?_
  rw [cmp_zero]
  simp (disch:=try exact DI) only [↓PR,QR,simprocAttr,hd2]
  exact ⟨trivial,e1.trans (e2.trans (e3.trans e4))⟩
 rcases h with ⟨rfl,l,t',hs,ha,htx,hwl⟩ | ⟨hno,hs⟩ | ⟨hno,l,hs,ha⟩
 · rw [hs] at hr
   simp only [ha] at hr
   obtain ⟨cs,lo,hi,rfl,hO,h1,h2⟩:=hr
   obtain ⟨b3,h3,q3,rfl,g1,g2,g3,g4,g5,g6⟩:=hO.read.op
   clear hzero
   simp (disch:=try exact DI) only [↓PR,QR,simprocAttr]
   have o3:=heap_new w2 #[.string t'.nd.name,.int .i64 t'.nd.int,b3,h3,q3] 26
   have e3:Ext w2 (w2.alloc (.cells #[.string t'.nd.name,.int .i64 t'.nd.int,b3,h3,q3] 26)):=ee
   have hV3:ValAt w2 (.agg #[.string t'.nd.name,.int .i64 t'.nd.int,b3,h3,q3]) t':=⟨b3,h3,q3,rfl,g1,g2,g3⟩
   have hval':=validT_at l t t' hval ha
   have hn':=valid_nodes hval'
   refine zcr (Text_ret _ _ t' (hV3.ext e3) (hE.ext (e1.trans (e2.trans e3))).tab (by omega) (by rw [htx];omega)) fun w4 e4=>?_
   rw [if_pos hval',htx]
   unfold n9c2 joinK
   simp (disch:=try exact DI) only [↓PR,QR,simprocAttr]
   unfold n9c1 joinK
   simp (disch:=try exact DI) only [↓PR,QR,simprocAttr]
   exact ⟨trivial,e1.trans (e2.trans (e3.trans e4))⟩
 · rw [hs] at hr
   exact hzero 6 (by decide) hr hno
 · rw [hs] at hr
   simp only [ha] at hr
   exact hzero 9 (by decide) hr hno
theorem refused_ret {w0:World} (hE:EnvOK w0) (s:List UInt8) (hs:s.length≤100000000) (h:parseR RP s=none):Ret Pg 36 #[.string (mkB s)] w0 fun r w'=>r = .bool true∧Ext w0 w':=by
 refine n12s (R:=retR _) ?_;unfold n12
 refine callK_ret (Parse_ret w0 (mkB s) hE (by rw [mkB_size];omega)) ?_
 rintro r w1 ⟨e1,v,c,rfl,hr⟩
 rw [mkB_data,h] at hr
 obtain ⟨rfl,hv⟩:=hr
 obtain ⟨bv,hv',pv,rfl,_,_,_,o1,o2,o3⟩:=hv.op
 unfold n12c1
 simp (disch:=try exact DI) only [↓PR,QR,simprocAttr]
 exact ⟨trivial,e1.trans ((Ext.refl _).alloc _)⟩
theorem before_ret {w0:World} (hE:EnvOK w0) (a b:List UInt8) (ha:a.length≤100000000) (hb:b.length≤100000000) (t u:Tr) (h1:parseR RP a=some t) (h2:parseR RP b=some u) (h3:cmpT t u = -1∧cmpT u t=1):Ret Pg 35 #[.string (mkB a),.string (mkB b)] w0 fun r w'=>r = .bool true∧Ext w0 w':=by
 refine n8s (R:=retR _) ?_;unfold n8
 refine callK_ret (Parse_ret w0 (mkB a) hE (by rw [mkB_size];omega)) ?_
 rintro r w1 ⟨e1,v,c,rfl,hr⟩
 rw [mkB_data,h1] at hr
 obtain ⟨rfl,hv⟩:=hr
 obtain ⟨bv,hv',pv,rfl,g1,g2,g3,o1,o2,o3⟩:=hv.op
 have hV1:ValAt w1 (.agg #[.string t.nd.name,.int .i64 t.nd.int,bv,hv',pv]) t:=⟨_,_,_,rfl,g1,g2,g3⟩
 unfold n8c4
 simp (disch:=try exact DI) only [↓PR,QR,simprocAttr]
 have c1:=heap_new w1 #[.string t.nd.name,.int .i64 t.nd.int,bv,hv',pv] 26
 have e2:Ext w1 (w1.alloc (.cells #[.string t.nd.name,.int .i64 t.nd.int,bv,hv',pv] 26)):=ee
 generalize (w1.alloc (.cells #[.string t.nd.name,.int .i64 t.nd.int,bv,hv',pv] 26))=w2 at *
 refine callK_ret (Parse_ret w2 (mkB b) (hE.ext (e1.trans e2)) (by rw [mkB_size];omega)) ?_
 rintro r w3 ⟨e3,v2,c2,rfl,hr2⟩
 rw [mkB_data,h2] at hr2
 obtain ⟨rfl,hv2⟩:=hr2
 obtain ⟨bv2,hv2',pv2,rfl,k1,k2,k3,p1,p2,p3⟩:=hv2.op
 have hV2:ValAt w3 (.agg #[.string u.nd.name,.int .i64 u.nd.int,bv2,hv2',pv2]) u:=⟨_,_,_,rfl,k1,k2,k3⟩
 have c1:=e3.obj c1
 unfold n8c3 joinK
 simp (disch:=try exact DI) only [↓PR,QR,simprocAttr]
 have c2:=heap_new w3 #[.string u.nd.name,.int .i64 u.nd.int,bv2,hv2',pv2] 26
 have e4:Ext w3 (w3.alloc (.cells #[.string u.nd.name,.int .i64 u.nd.int,bv2,hv2',pv2] 26)):=ee
 generalize (w3.alloc (.cells #[.string u.nd.name,.int .i64 u.nd.int,bv2,hv2',pv2] 26))=w4 at *
 have c1:=e4.obj c1
 unfold n8c2 joinK
 simp (disch:=try exact DI) only [↓PR,QR,simprocAttr,(cells_of_heap c1).1,(cells_of_heap c2).1]
 refine zcr (Compare_ret t w4 _ _ u (hV1.ext (e2.trans (e3.trans e4))) (hV2.ext e4)) fun w5 e5=>?_
 have c1:=e5.obj c1
 have c2:=e5.obj c2
 rw [h3.1]
 simp (disch:=try exact DI) only [↓PR,QR,simprocAttr]
 unfold n8c1 joinK
 simp (disch:=try exact DI) only [↓PR,QR,simprocAttr,(cells_of_heap c1).1,(cells_of_heap c2).1]
 refine zcr (Compare_ret u w5 _ _ t (hV2.ext (e4.trans e5)) (hV1.ext (e2.trans (e3.trans (e4.trans e5))))) fun w6 e6=>?_
 rw [h3.2]
 simp (disch:=try exact DI) only [↓PR,QR,simprocAttr]
 exact ⟨trivial,e1.trans (e2.trans (e3.trans (e4.trans (e5.trans e6))))⟩
theorem text_ret {w0:World} (hE:EnvOK w0) (s path to want:List UInt8) (hs:s.length≤100000000) (hp:path.length≤100000000) (ht:to.length≤100000000) (t u t3:Tr) (l:List Stp) (h1:parseR RP s=some t) (h2:parseR RP to=some u) (h3:stepsP path=some l) (h4:putT u l t=some t3) (h5:validT t3=true) (h6:textT t3=want) (hw:want.length≤100000000):Ret Pg 34 #[.string (mkB s),.string (mkB path),.string (mkB to)] w0 fun r w'=>r = .string (mkB want)∧Ext w0 w':=by
 have hv1:=((parseR_iff RP_ok _ _).1 h1).1
 have hv2:=((parseR_iff RP_ok _ _).1 h2).1
 have n1:=valid_nodes hv1
 have n2:=valid_nodes hv2
 have n3:=valid_nodes h5
 refine n15s (R:=retR _) ?_;unfold n15
 refine callK_ret (Parse_ret w0 (mkB s) hE (by rw [mkB_size];omega)) ?_
 rintro r w1 ⟨e1,v,c,rfl,hr⟩
 rw [mkB_data,h1] at hr
 obtain ⟨rfl,hv⟩:=hr
 obtain ⟨bv,hv',pv,rfl,g1,g2,g3,o1,o2,o3⟩:=hv.op
 have hV1:ValAt w1 (.agg #[.string t.nd.name,.int .i64 t.nd.int,bv,hv',pv]) t:=⟨_,_,_,rfl,g1,g2,g3⟩
 unfold n15c6
 simp (disch:=try exact DI) only [↓PR,QR,simprocAttr]
 have c1:=heap_new w1 #[.string t.nd.name,.int .i64 t.nd.int,bv,hv',pv] 26
 have e2:Ext w1 (w1.alloc (.cells #[.string t.nd.name,.int .i64 t.nd.int,bv,hv',pv] 26)):=ee
 generalize (w1.alloc (.cells #[.string t.nd.name,.int .i64 t.nd.int,bv,hv',pv] 26))=w2 at *
 refine callK_ret (Parse_ret w2 (mkB to) (hE.ext (e1.trans e2)) (by rw [mkB_size];omega)) ?_
 rintro r w3 ⟨e3,v2,c2,rfl,hr2⟩
 rw [mkB_data,h2] at hr2
 obtain ⟨rfl,hvv⟩:=hr2
 obtain ⟨bv2,hv2',pv2,rfl,k1,k2,k3,p1,p2,p3⟩:=hvv.op
 have hV2:ValAt w3 (.agg #[.string u.nd.name,.int .i64 u.nd.int,bv2,hv2',pv2]) u:=⟨_,_,_,rfl,k1,k2,k3⟩
 have c1:=e3.obj c1
 unfold n15c5
 simp (disch:=try exact DI) only [↓PR,QR,simprocAttr,fun o=>(cells_of_heap (((Ext.refl w3).alloc o).obj c1)).1]
 have c2:=heap_new w3 #[.string u.nd.name,.int .i64 u.nd.int,bv2,hv2',pv2] 26
 have e4:Ext w3 (w3.alloc (.cells #[.string u.nd.name,.int .i64 u.nd.int,bv2,hv2',pv2] 26)):=ee
 generalize (w3.alloc (.cells #[.string u.nd.name,.int .i64 u.nd.int,bv2,hv2',pv2] 26))=w4 at *
 have e04:=e1.trans (e2.trans (e3.trans e4))
 refine callK_ret (Set_ret (hE.ext e04) 1048576 _ _ t u path hp (hV1.ext (e2.trans (e3.trans e4))) (hV2.ext e4) (by omega) (by omega) (valid_hn hv1) (valid_hn hv2)) ?_
 rintro r w5 ⟨e5,hr⟩
 rw [if_pos ⟨hv1,hv2⟩,h3] at hr
 simp only [h4,h5,if_true] at hr
 obtain ⟨cs,lo,hi,rfl,hI,_,_⟩:=hr
 obtain ⟨b3,h3',q3,rfl,m1,m2,m3,m4,m5,m6⟩:=hI.1.all.op
 unfold n15c4
 simp (disch:=try exact DI) only [↓PR,QR,simprocAttr]
 have e6:Ext w5 (w5.alloc (.cells #[.string t3.nd.name,.int .i64 t3.nd.int,b3,h3',q3] 26)):=ee
 have hV3:ValAt w5 (.agg #[.string t3.nd.name,.int .i64 t3.nd.int,b3,h3',q3]) t3:=⟨_,_,_,rfl,m1,m2,m3⟩
 generalize (w5.alloc (.cells #[.string t3.nd.name,.int .i64 t3.nd.int,b3,h3',q3] 26))=w6 at *
 refine zcr (Text_ret w6 _ t3 (hV3.ext e6) (hE.ext (e04.trans (e5.trans e6))).tab (by omega) (by rw [h6];omega)) fun w7 e7=>?_
 rw [if_pos h5,h6]
 unfold n15c3 joinK
 simp (disch:=try exact DI) only [↓PR,QR,simprocAttr]
 unfold n15c2 joinK
 simp (disch:=try exact DI) only [↓PR,QR,simprocAttr]
 unfold n15c1 joinK
 simp (disch:=try exact DI) only [↓PR,QR,simprocAttr]
 exact ⟨trivial,e04.trans (e5.trans (e6.trans e7))⟩
abbrev wantL:List (List UInt8):=[[],[97],[108],[108,46,120],[108,46,120,58,49],[104]]
theorem Lasts7.reg {A:World} {lo hi:Nat}:Lasts7 (fun V u=>(∀ b,lo≤b→b < hi→¬ V b∧u.heap[b]?=A.heap[b]?)∧hi≤u.heap.size):=fun V V' w w' hl ⟨h,hs⟩=>⟨fun b h1 h2=>by
 obtain ⟨g1,g2⟩:=h b h1 h2
 refine ⟨fun hv=>?_,(hl.block b (by omega) g1).trans g2⟩
 rcases hl.new b hv with hv | hv
 · exact g1 hv
 · omega,Nat.le_trans hs hl.size⟩
abbrev wantW:Array Value := #[.string ⟨#[]⟩,.string ⟨#[97]⟩,.string ⟨#[108]⟩,.string ⟨#[108,46,120]⟩,.string ⟨#[108,46,120,58,49]⟩,.string ⟨#[104]⟩]
theorem want_get:∀ (j:Nat) (wl:List UInt8),wantL[j]?=some wl→wantW[j]?=some (.string (mkB wl))
 | 0,_,h=>by cases h;rfl
 | 1,_,h=>by cases h;rfl
 | 2,_,h=>by cases h;rfl
 | 3,_,h=>by cases h;rfl
 | 4,_,h=>by cases h;rfl
 | 5,_,h=>by cases h;rfl
 | _+6,_,h=>by cases h
theorem walk_len:(walkT kT []).length=6:=by
 have:=congrArg List.length w_kT
 rwa [List.length_map] at this
def KnI (w0 A:World) (b0 q lo p2:Nat) (k:Nat) (V:Bks) (u:World):Prop:=(Ext w0 u∧∀ b,V b→w0.heap.size≤b)∧((∀ b,lo≤b→b < p2→¬ V b∧u.heap[b]?=A.heap[b]?)∧p2≤u.heap.size)∧(¬ V b0∧u.heap[b0]?=some (.cells #[.bool false] 4 (0,0)))∧(¬ V q∧u.heap[q]?=some (.cells wantW 9 (0,0)))∧(¬ V (q+1)∧u.heap[q+1]?=some (.cells #[.slice (some ⟨q,0,none⟩) 6 6] 65 (0,0)))∧(¬ V (q+2)∧u.heap[q+2]?=some (.cells #[.int .i64 (k:Int)] 3 (0,0)))
theorem KnI.lasts (w0 A:World) (b0 q lo p2 k:Nat):Lasts7 (KnI w0 A b0 q lo p2 k):=Lasts7.from.and (Lasts7.reg.and (Lasts7.has.and (Lasts7.has.and (Lasts7.has.and Lasts7.has))))
theorem known_ret {w0:World} (hE:EnvOK w0):Ret Pg 11 #[] w0 fun r w'=>r = .bool true∧Ext w0 w':=by
 refine n10s (R:=retR _) ?_;unfold n10
 simp (disch:=try exact DI) only [↓PR,QR,simprocAttr]
 have c0:=heap_new w0 #[.bool false] 4
 have e0:Ext w0 (w0.alloc (.cells #[.bool false] 4)):=ee
 have z0:(w0.alloc (.cells #[.bool false] 4)).heap.size=w0.heap.size+1:=by simp
 generalize (w0.alloc (.cells #[.bool false] 4))=w1 at *
 generalize hb0:w0.heap.size=b0 at *
 refine callK_ret (Parse_ret w1 (mkB kS) (hE.ext e0) (by rw [mkB_size];decide)) ?_
 rintro r w2 ⟨e1,v,c,rfl,hr⟩
 rw [mkB_data,p_kT] at hr
 obtain ⟨rfl,hv⟩:=hr
 obtain ⟨bv,hv',pv,rfl,g1,g2,g3,o1,o2,o3⟩:=hv.op
 have e:=e0.trans e1
 have c0:=e1.obj c0
 unfold n10c23
 simp (disch:=try exact DI) only [↓PR,QR,simprocAttr]
 have c1:=heap_new w2 #[.string kT.nd.name,.int .i64 kT.nd.int,bv,hv',pv] 26
 have e2:Ext w2 (w2.alloc (.cells #[.string kT.nd.name,.int .i64 kT.nd.int,bv,hv',pv] 26)):=ee
 have hV:ValAt w2 (.agg #[.string kT.nd.name,.int .i64 kT.nd.int,bv,hv',pv]) kT:=⟨_,_,_,rfl,g1,g2,g3⟩
 generalize (w2.alloc (.cells #[.string kT.nd.name,.int .i64 kT.nd.int,bv,hv',pv] 26))=w3 at *
 generalize hb1:w2.heap.size=b1 at *
 have hV:=hV.ext e2
 have e:=e.trans e2
 have c0:=e2.obj c0
 refine zcr (Text_ret w3 _ kT hV (hE.ext e).tab (by rw [nodes_kT];decide) (by rw [t_kT];decide)) fun w4 e3=>?_
 rw [if_pos v_kT,t_kT]
 have hV:=hV.ext e3
 have e:=e.trans e3
 have c0:=e3.obj c0
 have c1:=e3.obj c1
 unfold n10c22 joinK
 simp (disch:=try exact DI) only [↓PR,QR,simprocAttr]
 unfold n10c21 joinK
 have hd:(mkB kS)=(⟨#[109,40,97,61,53,32,108,40,120,35,48,97,32,120,41,32,104,91,52,49,58,54,50,54,51,93,41]⟩:ByteArray):=rfl
 simp (disch:=try exact DI) only [↓PR,QR,simprocAttr,hd]
 unfold n10c20 joinK
 simp (disch:=try exact DI) only [↓PR,QR,simprocAttr,(cells_of_heap c1).1]
 refine zcr (Nodes_ret w4 _ kT hV (by rw [nodes_kT];decide)) fun w5 e4=>?_
 rw [nodes_kT]
 have hV:=hV.ext e4
 have e:=e.trans e4
 have c0:=e4.obj c0
 have c1:=e4.obj c1
 simp (disch:=try exact DI) only [↓PR,QR,simprocAttr]
 unfold n10c19 joinK
 simp (disch:=try exact DI) only [↓PR,QR,simprocAttr,(cells_of_heap c1).1]
 refine zcr (gets_ret (hE.ext e) _ kT [108,46,120,58,49] [120] 0 (by decide) hV v_kT (.inl ⟨rfl,_,_,s_lx1,a_lx1,t_lf _,by decide⟩)) fun w6 e5=>?_
 have hV:=hV.ext e5
 have e:=e.trans e5
 have c0:=e5.obj c0
 have c1:=e5.obj c1
 simp (disch:=try exact DI) only [↓PR,QR,simprocAttr]
 unfold n10c18 joinK
 simp (disch:=try exact DI) only [↓PR,QR,simprocAttr,(cells_of_heap c1).1]
 refine zcr (gets_ret (hE.ext e) _ kT [97] [97,61,53] 0 (by decide) hV v_kT (.inl ⟨rfl,_,_,s_a,a_a,t_ka,by decide⟩)) fun w7 e6=>?_
 have hV:=hV.ext e6
 have e:=e.trans e6
 have c0:=e6.obj c0
 have c1:=e6.obj c1
 simp (disch:=try exact DI) only [↓PR,QR,simprocAttr]
 unfold n10c17 joinK
 simp (disch:=try exact DI) only [↓PR,QR,simprocAttr,(cells_of_heap c1).1]
 refine zcr (gets_ret (hE.ext e) _ kT [108,46,120,58,50] [] 9 (by decide) hV v_kT (.inr (.inr ⟨rfl,_,s_lx2,a_lx2⟩))) fun w8 e7=>?_
 have hV:=hV.ext e7
 have e:=e.trans e7
 have c0:=e7.obj c0
 have c1:=e7.obj c1
 simp (disch:=try exact DI) only [↓PR,QR,simprocAttr]
 unfold n10c16 joinK
 simp (disch:=try exact DI) only [↓PR,QR,simprocAttr,(cells_of_heap c1).1]
 refine zcr (gets_ret (hE.ext e) _ kT [108,46,46,120] [] 6 (by decide) hV v_kT (.inr (.inl ⟨rfl,s_llx⟩))) fun w9 e8=>?_
 have hV:=hV.ext e8
 have e:=e.trans e8
 have c0:=e8.obj c0
 have c1:=e8.obj c1
 simp (disch:=try exact DI) only [↓PR,QR,simprocAttr]
 unfold n10c15 joinK
 simp (disch:=try exact DI) only [↓PR,QR,simprocAttr,(cells_of_heap c1).1]
 refine zcr (gets_ret (hE.ext e) _ kT [108,46,120,58,48] [] 6 (by decide) hV v_kT (.inr (.inl ⟨rfl,s_lx0⟩))) fun w10 e9=>?_
 have hV:=hV.ext e9
 have e:=e.trans e9
 have c0:=e9.obj c0
 have c1:=e9.obj c1
 simp (disch:=try exact DI) only [↓PR,QR,simprocAttr]
 unfold n10c14
 simp (disch:=try exact DI) only [↓PR,QR,simprocAttr]
 unfold n10c13
 simp (disch:=try exact DI) only [↓PR,QR,simprocAttr,fun a b c=>(cells_of_heap (((((Ext.refl w10).alloc a).alloc b).alloc c).obj c1)).1]
 have k1:=heap_new w10 #[.string ⟨#[]⟩,.string ⟨#[97]⟩,.string ⟨#[108]⟩,.string ⟨#[108,46,120]⟩,.string ⟨#[108,46,120,58,49]⟩,.string ⟨#[104]⟩] 9
 have a1:Ext w10 (w10.alloc (.cells #[.string ⟨#[]⟩,.string ⟨#[97]⟩,.string ⟨#[108]⟩,.string ⟨#[108,46,120]⟩,.string ⟨#[108,46,120,58,49]⟩,.string ⟨#[104]⟩] 9)):=ee
 have y1:(w10.alloc (.cells #[.string ⟨#[]⟩,.string ⟨#[97]⟩,.string ⟨#[108]⟩,.string ⟨#[108,46,120]⟩,.string ⟨#[108,46,120,58,49]⟩,.string ⟨#[104]⟩] 9)).heap.size=w10.heap.size+1:=by simp
 generalize (w10.alloc (.cells #[.string ⟨#[]⟩,.string ⟨#[97]⟩,.string ⟨#[108]⟩,.string ⟨#[108,46,120]⟩,.string ⟨#[108,46,120,58,49]⟩,.string ⟨#[104]⟩] 9))=w11 at *
 generalize hq:w10.heap.size=q at *
 have k2:=heap_new w11 #[.slice (some ⟨q,0,none⟩) 6 6] 65
 have a2:Ext w11 (w11.alloc (.cells #[.slice (some ⟨q,0,none⟩) 6 6] 65)):=ee
 have y2:(w11.alloc (.cells #[.slice (some ⟨q,0,none⟩) 6 6] 65)).heap.size=w11.heap.size+1:=by simp
 generalize (w11.alloc (.cells #[.slice (some ⟨q,0,none⟩) 6 6] 65))=w12 at *
 have k3:=heap_new w12 #[.int .i64 0] 3
 have a3:Ext w12 (w12.alloc (.cells #[.int .i64 0] 3)):=ee
 have y3:(w12.alloc (.cells #[.int .i64 0] 3)).heap.size=w12.heap.size+1:=by simp
 generalize (w12.alloc (.cells #[.int .i64 0] 3))=w13 at *
 rw [y1] at k2
 rw [y2,y1] at k3
 simp only [y2,y1]
 have a:=a1.trans (a2.trans a3)
 have e:=e.trans a
 have hV:=hV.ext a
 have c0:=a.obj c0
 have k1:=a3.obj (a2.obj k1)
 have k2:=a3.obj k2
 refine callK_ret (Walk_ret _ kT hV (by rw [nodes_kT];decide)) ?_
 rintro r w14 ⟨e14,hr⟩
 rw [if_pos v_kT] at hr
 obtain ⟨xb,xh,xp,lo,p2,rfl,hWP,hO,hlo,hp2⟩:=hr
 have e:=e.trans e14
 have c0:=e14.obj c0
 have k1:=e14.obj k1
 have k2:=e14.obj k2
 have k3:=e14.obj k3
 unfold n10c12
 rw [op_eqNilF Tryz.underlying43]
 simp (disch:=try exact DI) only [↓PR,QR,simprocAttr]
 unfold n10c11
 rw [y1]
 have zlo:w13.heap.size≤lo:=hlo
 have z13:w13.heap.size=q+3:=by rw [y3,y2,y1]
 have hlp:=hO.le
 have hbq:b0 < q:=by
  have h0:=(Array.getElem?_eq_some_iff.1 (show w10.heap[b0]?=_ from by assumption)).1
  omega
 have H0:KnI w0 w14 b0 q lo (p2+2) 0 (fun _=>False) w14:=⟨⟨e,fun b hb=>hb.elim⟩,⟨fun b h1 h2=>⟨fun h=>h,rfl⟩,by omega⟩,⟨fun h=>h,c0⟩,⟨fun h=>h,k1⟩,⟨fun h=>h,k2⟩,⟨fun h=>h,k3⟩⟩
 refine ⟨_,_,_,_,_,_,_,KnI w0 w14 b0 q lo (p2+2),fun _ _ _=>False,fun _ _ _=>False,rfl,c82,walk_at hO v_kT (p2+1) p2 (by omega) (Nat.le_refl _) (by omega),fun w' e'=>trivial,fun b hb=>hb.elim,H0,fun k V u h=>⟨⟨hE.ext h.1.1,Nat.le_trans (Nat.le_add_right p2 2) h.2.1.2,fun b h1 h2=>(h.2.1.1 b h1 (by omega)).2⟩,(h.2.1.1 _ (by omega) (by omega)).2.trans hWP.1,(h.2.1.1 _ (by omega) (by omega)).2.trans hWP.2⟩,fun c V u h=>h.elim,fun k=>KnI.lasts _ _ _ _ _ _ _,fun c=>Lasts7.const _,fun ch=>Lasts7.const _,?_,?_,?_,?_⟩
 · intro Rk V hR hV0 j xx yy u hj hY hI hRu hltu hready
   obtain ⟨qq,cs,lo',hi',hq',rfl,rfl,_⟩:=hY
   have hw:wantL[j]?=some qq.1:=by
    have:=congrArg (fun l=>l[j]?) w_kT
    simp only [List.getElem?_map,hq',Option.map_some] at this
    exact this.symm
   have hwc:=want_get j qq.1 hw
   rw [walk_len] at hj
   refine ⟨hready,fun w5 hbz=>?_⟩
   have hR5:=hR _ _ (KR7.busied hbz) hRu
   have H5:=(KnI.lasts w0 w14 b0 q lo (p2+2) j).busied hbz (show plusB V w14.heap.size (w14.heap.size+1) from .inr (.inr rfl)) hI
   obtain ⟨i1,i2,i3,i4,i5,i6⟩:=H5
   have hdj:¬ ((6:Int)≤(j:Int)):=by omega
   have hdk:(j:Int) < 6:=by omega
   have hdj2:¬ (((6:Nat):Int)≤(j:Int)):=by omega
   have hdk2:(j:Int) < ((6:Nat):Int):=by omega
   have hwj:IntKind.i64.wrap ((j:Int)+1)=((j+1:Nat):Int):=wrap_succ (by omega)
   have hcell:w5.cell? ⟨q,j,none⟩=some (.string (mkB qq.1)):=by rw [(cells_of_heap i4.2).1];exact hwc
   unfold n10c2 joinK
   simp (disch:=try exact DI) only [↓PR,QR,simprocAttr,(cells_of_heap i6.2).1,(cells_of_heap i5.2).1,hdj,hdk,hdj2,hdk2,Nat.mul_one,hcell]
   unfold n10c1
   simp (disch:=try exact DI) only [↓PR,QR,simprocAttr,(cells_of_heap i6.2).1,(cells_of_heap i6.2).2,hwj]
   refine ⟨hR _ _ ((KR7.refl _ w5).setCell _ _ _ (.inl i6.1)) hR5,⟨⟨i1.1.os,i1.1.tape,i1.1.output,by simpa using i1.1.size,fun b hb=>?_⟩,i1.2⟩,⟨fun b h1 h2=>⟨(i2.1 b h1 h2).1,?_⟩,by simpa using i2.2⟩,⟨i3.1,?_⟩,⟨i4.1,?_⟩,⟨i5.1,?_⟩,i6.1,heap_set (o:=0) i6.2 _⟩
   · rw [heap_setE (by omega)];exact i1.1.block b hb
   · rw [heap_setE (by omega)];exact (i2.1 b h1 h2).2
   · rw [heap_setE (by omega)];exact i3.2
   · rw [heap_setE (by omega)];exact i4.2
   · rw [heap_setE (by omega)];exact i5.2
 · intro V u H hmk
   rw [walk_len] at H
   obtain ⟨i1,i2,i3,i4,i5,i6⟩:=H
   unfold n10c10 joinK
   simp (disch:=try exact DI) only [↓PR,QR,simprocAttr,(cells_of_heap i6.2).1,(cells_of_heap i5.2).1]
   have eu:=i1.1
   have cu:=i3.2
   have mu:=hmk
   have h66:((6:Int) == ((6:Nat):Int))=true:=rfl
   refine zcr (text_ret (hE.ext eu) kS [108,46,120] [121] kS2 (by decide) (by decide) (by decide) kT (lf [121]) kT2 _ p_kT p_y s_lx u_lx v_kT2 t_kT2 (by decide)) fun u20 f20=>?_
   have eu:=eu.trans f20
   have cu:=f20.obj cu
   have mu:=MarkAt.ext mu f20
   have hd2:(mkB kS2)=(⟨#[109,40,97,61,53,32,108,40,121,32,120,41,32,104,91,52,49,58,54,50,54,51,93,41]⟩:ByteArray):=rfl
   unfold n10c9
   simp (disch:=try exact DI) only [↓PR,QR,simprocAttr,hd2,h66]
   unfold n10c8 joinK
   simp (disch:=try exact DI) only [↓PR,QR,simprocAttr,h66]
   refine zcr (before_ret (hE.ext eu) [97] [97,61,49] (by decide) (by decide) _ _ p_a p_a1 c_1) fun u21 f21=>?_
   have eu:=eu.trans f21
   have cu:=f21.obj cu
   have mu:=MarkAt.ext mu f21
   unfold n10c7 joinK
   simp (disch:=try exact DI) only [↓PR,QR,simprocAttr,h66]
   refine zcr (before_ret (hE.ext eu) [97,35,48,48] [97,61,49] (by decide) (by decide) _ _ p_a00 p_a1 c_2) fun u22 f22=>?_
   have eu:=eu.trans f22
   have cu:=f22.obj cu
   have mu:=MarkAt.ext mu f22
   unfold n10c6 joinK
   simp (disch:=try exact DI) only [↓PR,QR,simprocAttr,h66]
   refine zcr (before_ret (hE.ext eu) [97,40,98,41] [97,40,98,32,98,41] (by decide) (by decide) _ _ p_ab p_abb c_3) fun u23 f23=>?_
   have eu:=eu.trans f23
   have cu:=f23.obj cu
   have mu:=MarkAt.ext mu f23
   unfold n10c5 joinK
   simp (disch:=try exact DI) only [↓PR,QR,simprocAttr,h66]
   refine zcr (refused_ret (hE.ext eu) [97,61,48] (by decide) r_a0) fun u24 f24=>?_
   have eu:=eu.trans f24
   have cu:=f24.obj cu
   have mu:=MarkAt.ext mu f24
   unfold n10c4 joinK
   simp (disch:=try exact DI) only [↓PR,QR,simprocAttr,h66]
   refine zcr (refused_ret (hE.ext eu) [97,35,48,65] (by decide) r_a0A) fun u25 f25=>?_
   have eu:=eu.trans f25
   have cu:=f25.obj cu
   have mu:=MarkAt.ext mu f25
   unfold n10c3 joinK
   simp (disch:=try exact DI) only [↓PR,QR,simprocAttr,h66]
   refine zcr (refused_ret (hE.ext eu) [97,40,98,32,32,99,41] (by decide) r_abc) fun u26 f26=>?_
   have eu:=eu.trans f26
   have cu:=f26.obj cu
   have mu:=MarkAt.ext mu f26
   simp (disch:=try exact DI) only [↓PR,QR,simprocAttr,(cells_of_heap cu).1,(cells_of_heap cu).2]
   have cv:=heap_set (o:=0) cu (.bool true)
   change _=some (Obj.cells #[.bool true] 4 (0,0)) at cv
   refine outX_mark (MarkAt.setCell mu _ _) ?_
   simp (disch:=try exact DI) only [↓PR,QR,simprocAttr,outX_nil,retV,resOne,cell_putMark (MarkAt.setCell mu ⟨b0,0,none⟩ (.bool true)),(cells_of_heap cv).1]
   refine ⟨trivial,eu.os,eu.tape,eu.output,by simpa using eu.size,fun b hb=>?_⟩
   rw [World.putObj_heap_other (by have:=e.size;have:=hWP.1;omega),heap_setE (by omega)]
   exact eu.block b hb
 · rintro c V u h
   exact h.elim
 · rintro ch V u h
   exact h.elim
theorem listsC_refl {α:Type} {f:α→α→Int}:∀ {l:List α},(∀ x∈l,f x x=0)→listsC f l l=0
 | [],_=>rfl
 | x::l,h=>by
  rw [listsC,if_pos (h x (List.mem_cons_self ..))]
  exact listsC_refl fun y hy=>h y (List.mem_cons_of_mem _ hy)
theorem cmpB_refl:∀ l:List UInt8,Go.Lib.compareBytes l l=0
 | []=>rfl
 | a::l=>by
  have h:¬ a < a:=UInt8.lt_irrefl a
  unfold Go.Lib.compareBytes
  rw [if_neg h,if_neg h]
  exact cmpB_refl l
theorem cmpH_refl (h:ByteArray×ByteArray):cmpH h h=0:=by
 unfold cmpH cmpS
 rw [cmpB_refl,cmpB_refl]
 rfl
theorem cmpN_refl (n:Nd):cmpN n n=0:=by
 unfold cmpN cmpS
 rw [cmpB_refl,cmpB_refl,listsC_refl fun x _=>cmpH_refl x,show Go.Lib.compareInt n.int n.int=0 by unfold Go.Lib.compareInt;simp]
 rfl
theorem cmp_refl (t:Tr):cmpT t t=0:=by
 refine Tr.ind (p:=fun t=>cmpT t t=0) ?_ t
 intro n ps ih
 rw [cmpT_mk]
 exact (if_pos (cmpN_refl n)).trans (listsC_refl ih)
end Go.Proofs.YtcffhmapmaahnaaGreatDoor
namespace Go.Sw
open Go.ChangeShapes Go.WideShapes Go.RowKit Go.ChangeAt Go.Deep
theorem list_of {α:Type} {p:Nat→α→Prop}:∀ (n:Nat),(∀ i,i < n→∃ x,p i x)→∃ l:List α,l.length=n∧∀ k x,l[k]?=some x→p k x
 | 0,_=>⟨[],rfl,fun k x h=>by simp at h⟩
 | n+1,h=>by
  obtain ⟨l,hl,hp⟩:=list_of n (fun i hi=>h i (by omega))
  obtain ⟨x,hx⟩:=h n (by omega)
  refine ⟨l++[x],by simp [hl],fun k y hy=>?_⟩
  rw [List.getElem?_append] at hy
  split at hy
  · exact hp k y hy
  · have hk:k=n:=by
     have:=(List.getElem?_eq_some_iff.1 hy).1
     simp at this
     omega
    subst hk
    simp [hl] at hy
    subst hy
    exact hx
section
variable {H:Type} {enc:TypeId×Value→H} {P:Program} {w:World} {base:Nat} {spare:Nat→Bool} {held:Bool}
theorem weightsAll_mem {e:TypeId} {m:Nat} {d:DataW H}:∀ {l:List (DataW H)},d∈l→m∈d.weights P e→m∈DataW.weightsAll P e l
 | [],h,_=>by cases h
 | a::l,h,hm=>by
  rw [DataW.weightsAll,List.mem_append]
  rcases List.mem_cons.1 h with rfl | h
  · exact .inl hm
  · exact .inr (weightsAll_mem h hm)
def Reached (P:Program) (t:TypeId) (d:DataW H):Prop:=∀ m∈d.weights P t,m≤reachBytes
theorem reached_of {ts:List TypeId} {ds:List (DataW H)} (h:(DataW.weightsEach P ts ds).all (· ≤ reachBytes)=true) {j:Nat} {t:TypeId} {d:DataW H} (ht:ts[j]?=some t) (hd:ds[j]?=some d):Reached P t d:=fun m hm=>by
 have:=List.all_eq_true.1 h _ (DataW.weights_mem_each ht hd m hm)
 simpa using this
theorem trodAll_stays (hl:laidOutB P=true) {W W':World} (he:Ext W W'):∀ {ts:List TypeId} {vs:List Value} {ds:List (DataW H)} {ps:List MemPlace},(∀ t∈ts,P.readableRec t=true∧t < P.types.size)→(∀ x∈ps,x.block < W.heap.size) →
 DataW.TrodAll enc P W 0 (fun _=>true) true ts vs ds ps→DataW.TrodAll enc P W' 0 (fun b=>decide (b < W.heap.size)) true ts vs ds ps
 | [],_,_,_,_,_,h=>by obtain ⟨rfl,rfl,rfl⟩:=trodAll_nil h;exact trodAll_mk0
 | t::ts,_,_,_,hr,hlt,h=>by
  obtain ⟨v,vs1,d,ds1,a,b,rfl,rfl,rfl,h1,h2⟩:=trodAll_cons h
  refine ⟨a,b,?_,trodAll_stays hl he (fun t ht=>hr t (List.mem_cons_of_mem _ ht)) (fun x hx=>hlt x (List.mem_append_right _ hx)) h2,rfl⟩
  exact Below.trod hl (hr t (List.mem_cons_self ..)).1 (hr t (List.mem_cons_self ..)).2 h1 ⟨he.os,he.tape,he.output,he.size,he.block⟩ (fun x hx=>hlt x (List.mem_append_left _ hx))
theorem law_post {f:Func} {s:ChangeSpec} {W W':World} {args:Array Value} {ds gs:List (DataW H)} {before:List MemPlace} {tb:TypeId} (hl:laidOutB P=true) (hr:∀ t∈f.params.toList,P.readableRec t=true∧t < P.types.size) (hs:s.vars=[])
 (hW:DataW.Whole enc P f.params.toList s.vars false W args.toList ds gs before) (he:Ext W W') (hres:f.resultTypes = #[tb]) (htb:P.underlying tb=some .bool) (hfn:(s.fn H ds).results=[.lit (.bool true)]) (hargs:(s.fn H ds).args=ds) (hvars:(s.fn H ds).vars=[]) :
 s.post enc P f false true false false W args (.bool true) W':=by
 have hW':=hW
 obtain ⟨p,q,hA,hV,rfl,_,_⟩:=hW
 rw [hs] at hV
 obtain ⟨rfl,rfl⟩:=trodVars_none hV
 have hlt:∀ x∈p,x.block < W.heap.size:=fun x hx=>hW'.lt x (by simpa using hx)
 rw [List.append_nil] at hW'
 refine ⟨ds,[],p,[],p,[],hW',?_,?_,?_,Below.frame ⟨he.os,he.tape,he.output,he.size,he.block⟩ _,fun h=>by cases h⟩
 · rw [List.append_nil,hfn,hres]
   exact trodAll_mk1 (shut_bool htb _)
 · rw [List.append_nil,hargs]
   exact trodAll_stays hl he hr hlt hA
 · rw [List.append_nil,hvars,hs]
   exact rfl
end
end Go.Sw
namespace Go.Proofs.YtcffhmapmaahnaaGreatDoor
open Sw
open Go.RowKit Go.Deep
def role_laid:List (String×DataW Unit):=[("math/bits.deBruijn32tab", Rows.laid_math_bits_deBruijn32tab),("math/bits.deBruijn64tab", Rows.laid_math_bits_deBruijn64tab),("internal/strconv.uint64pow10", Rows.laid_internal_strconv_uint64pow10),("unicode/utf8.acceptRanges", Rows.laid_unicode_utf8_acceptRanges),("strconv.ErrRange", Rows.laid_strconv_ErrRange),("strconv.ErrSyntax", Rows.laid_strconv_ErrSyntax),("unicode/utf8.first", Rows.laid_unicode_utf8_first)]
theorem role_own:ownKnob Pg.godebug=none:=by kernel_rfl
theorem role_laidOut:laidOutB Pg=true:=by kernel_rfl
theorem role_met (os:Os) (args:Array Value):laidMetH Pg role_laid ((World.laidAll Pg os role_laid).forCall (fun _ _=>0) ⟨#[],args,[]⟩).memory:=by
 rw [MakeChecks.laidMetH_plain _ _ _ (by kernel_rfl)]
 exact laidMet_laidAll _ (by kernel_rfl) (by kernel_rfl)
theorem role_tab {W:World} (h:laidMetH Pg role_laid W):TabOK W:=by
 rw [MakeChecks.laidMetH_plain _ _ _ (by kernel_rfl)] at h
 have h3:=laidMet.tail (laidMet.tail h)
 have he:(Rows.laid_internal_strconv_uint64pow10:DataW Unit)=Go.Lib.tabData .u64 Go.Lib.pow10Tab:=by kernel_rfl
 rw [he] at h3
 obtain ⟨g,hg⟩:=Option.isSome_iff_exists.1 gPow
 have hty:(Pg.globals[g]?).map (·.type)=some 187:=by
  have h1:(Pg.globalNamed "internal/strconv.uint64pow10").bind (fun g=>(Pg.globals[g]?).map (·.type))=some 187:=by kernel_rfl
  rw [hg] at h1
  exact h1
 exact Go.Lib.tabIs_of_head hg hty Tryz.underlying187 Tryz.underlying163 (by kernel_rfl) (by kernel_rfl) h3
theorem role_star : "*" ++ "errors.errorString" = "*errors.errorString" := by decide
theorem role_rowErr (u:TypeId) (h:Pg.typeName? 3 u=some "*errors.errorString"):u=181 :=
 typeName_ptr_named (nm := "errors.errorString") (by rw [role_star];kernel_rfl) (by kernel_rfl) (by decide) u (by rw [role_star];exact h)
theorem role_env {W:World} (hs:W.ShapedOpen Pg) (h:laidMetH Pg role_laid W):EnvOK W:=by
 refine ⟨role_tab h,Go.Proofs.cell_of_shapedOpen_int (k := .i64) hs (of_decide_eq_true (by kernel_rfl)) (zero := #[.int .i64 0]) (t:=3) (by kernel_rfl) rfl (by kernel_rfl) (by kernel_rfl) Tryz.underlying3,?_,?_⟩
 · rw [MakeChecks.laidMetH_plain _ _ _ (by kernel_rfl)] at h
   have h5:=h.tail.tail.tail.tail.tail
   obtain ⟨a,s,hv,_⟩:=laid_sentinel (g:=1) h5 (by kernel_rfl) (by kernel_rfl) Tryz.underlying113 role_rowErr Tryz.underlying181 Tryz.underlying183 rfl rfl Tryz.underlying9 (by kernel_rfl) (by kernel_rfl)
   refine ⟨_,by rw [World.var?_cell (show Pg.globalNamed "strconv.ErrSyntax" = some 1 by kernel_rfl) hv 0];rfl,.inr ⟨_,_,rfl⟩⟩
 · rw [MakeChecks.laidMetH_plain _ _ _ (by kernel_rfl)] at h
   have h5:=h.tail.tail.tail.tail
   obtain ⟨a,s,hv,_⟩:=laid_sentinel (g:=2) h5 (by kernel_rfl) (by kernel_rfl) Tryz.underlying113 role_rowErr Tryz.underlying181 Tryz.underlying183 rfl rfl Tryz.underlying9 (by kernel_rfl) (by kernel_rfl)
   refine ⟨_,by rw [World.var?_cell (show Pg.globalNamed "strconv.ErrRange" = some 2 by kernel_rfl) hv 0];rfl,.inr ⟨_,_,rfl⟩⟩
theorem handed_and {H:Type} {enc:TypeId×Value→H} {a:Assume} {C:Checked} {os:Os} {f:FuncId} {fn:Func} {s:ChangeSpec} {conds:List PathCond} {apart fresh handsOn again:Bool} {X:World→Array Value→Prop}
 (hX:∀ (w w':World) (args:Array Value),w.heap=w'.heap→X w args→X w' args)
 (own:ownKnob C.prog.godebug=none) (started:os.Started) (noInit:C.prog.inits.idxOf? f=none) (hfn:C.prog.funcs[f]?=some fn)
 (witness:∃ (w:World) (tape:Tape) (i:Input),w.os=os∧(w.forCall tape i).Shaped C.prog∧i.vars=[]∧Input.okWide C.prog (w.forCall tape i) .any w.heap.size f i ∧
  ((s.pre enc C.prog fn conds apart (w.forCall tape i).memory i.args∧X (w.forCall tape i).memory i.args)∧sizedMet enc C.prog fn (OpenSpec.ofChange s) apart (w.forCall tape i).memory i.args)∧a.holds C.prog (lone (Frame.enter C.prog f i.args .normal) [] (w.forCall tape i)))
 (contract:∀ (W:World) (base:Nat) (args:Array Value) (ds gs:List (DataW H)) (before:List MemPlace),
  (∀ (j:Nat) t v,fn.params[j]?=some t→args[j]?=some v→Value.okWide C.prog W .any base t v) →
  DataW.Whole enc C.prog fn.params.toList s.vars apart W args.toList ds gs before →
  conds.all (PathCond.test C.prog ⟨fn.params.toList,ds,s.plain.varTypes C.prog,gs⟩)=true →
  (DataW.weightsEach C.prog (fn.params.toList++s.plain.varTypes C.prog) (ds++gs)).all (· ≤ reachBytes)=true→X W args→W.ShapedOpen C.prog →
  a.holds C.prog (lone (Frame.enter C.prog f args .normal) [] W) →
  Calls C.prog f args W fun e W'=>∃ v,e = .returned v∧s.post enc C.prog fn apart fresh handsOn again W args v W') :
 ReturnsInHanded a C os f .any (fun w args=>(s.pre enc C.prog fn conds apart w args∧X w args)∧sizedMet enc C.prog fn (OpenSpec.ofChange s) apart w args) (s.post enc C.prog fn apart fresh handsOn again):=by
 refine returnsInHanded_of_calls own started noInit witness ?_
 intro w tape i _ hsh _ hok hpre hholds
 obtain ⟨_,_,_,fn',hfn',_,_,_,_,hval⟩:=hok
 have e:fn'=fn:=Option.some.inj (hfn'.symm.trans hfn)
 subst e
 obtain ⟨⟨⟨ds,gs,before,hw,hc⟩,hx⟩,hz⟩:=hpre
 have hw':=DataW.Whole.of_heap (w':=w.forCall tape i) (by rfl) hw
 refine (contract (w.forCall tape i) w.heap.size i.args ds gs before hval hw' hc (hz.weights hw) (hX _ _ _ (by rfl) hx) hsh hholds).mono fun e W' ⟨v,he,hp⟩=>?_
 subst he
 exact ChangeSpec.post_blind hp
end Go.Proofs.YtcffhmapmaahnaaGreatDoor
namespace Go.Proofs.YtcffhmapmaahnaaGreatDoor
open Sw
open Go.ChangeShapes Go.WideShapes Go.RowKit Go.ChangeAt Go.Deep
section
variable {H:Type} {enc:TypeId×Value→H} {w:World} {base:Nat} {spare:Nat→Bool} {held:Bool}
theorem slice_of_trodF {α:Type} {E:World→List Value→α→Prop} {Q:α→Prop} {t e:TypeId} {n fuel:Nat} {cs:List Value} {x:DataW H×List MemPlace} (ht:Pg.underlying t=some (.slice e)) (hn:Pg.cellsOf e=n) (hb1:1≤Pg.bytesOf e) (h0:0 < n)
 (hE:∀ m cs' y,m < fuel→DataW.trod enc Pg w base spare held m e cs'=some y→Reached Pg e y.1→∃ x,E w cs' x∧Q x) (h:DataW.trod enc Pg w base spare held fuel t cs=some x) (hr:Reached Pg t x.1):∃ v l,cs=[v]∧SliceOf w n E v l∧(∀ x∈l,Q x)∧l.length≤140737488355328:=by
 rcases DataW.trod_slice ht h with ⟨rfl,_⟩ | ⟨a,len,cap,elems,rest,k,hk,rfl,hx,hb,hl,hm,hel,hget,hs1,hs2⟩
 · exact ⟨_,[],rfl,SliceOf.nil _ _ _,fun x hx=>by (cases hx),Nat.zero_le _⟩
 · subst hx
   have hw0:=hr ((elems.length+rest.length)*Pg.bytesOf e) (by simp only [DataW.weights,ht];simp)
   have hlen:len≤140737488355328:=by
    have:len*1≤(elems.length+rest.length)*Pg.bytesOf e:=Nat.mul_le_mul (by omega) hb1
    simp only [reachBytes] at hw0
    omega
   obtain ⟨l,hll,hp⟩:=list_of (p:=fun i (x:α)=>∃ cs',w.cells? base (a.add (i*n)) n=some cs'∧E w cs' x∧Q x) len (fun i hi=>by
    have h1:=hget i hi
    obtain ⟨y,hy⟩:=getElem?_lt (l:=elems) (k:=i) (by omega)
    rw [hy,hn] at h1
    obtain ⟨cs',h2,h3⟩:=Option.bind_eq_some_iff.1 h1
    obtain ⟨x,hx⟩:=hE _ _ _ (by omega) h3 (fun q hq=>hr q (by
     simp only [DataW.weights,ht,List.mem_cons,List.mem_append]
     exact .inr (.inl (weightsAll_mem (List.mem_map.2 ⟨y,List.mem_of_getElem? hy,rfl⟩) hq))))
    exact ⟨x,cs',h2,hx⟩)
   refine ⟨_,l,rfl,⟨some a,cap,by rw [hll],by rw [hll];exact hl,by simp only [maxLen] at hm;omega,fun hne=>?_⟩,fun x hx=>?_,by omega⟩
   · obtain ⟨b,o,spot⟩:=a
     have hspot:spot=none:=by
      have:0 < l.length:=List.length_pos_iff.2 hne
      obtain ⟨y,hy⟩:=getElem?_lt this
      obtain ⟨cs',h1,_⟩:=hp 0 y hy
      obtain ⟨_,h2,h3⟩:=World.cells?_some h1
      have h4:=h3 0 h0
      rw [List.getElem?_eq_getElem (by omega)] at h4
      simpa [Addr.add] using World.cell?_spot h4
     subst hspot
     refine ⟨b,o,rfl,fun k x hx=>?_⟩
     obtain ⟨cs',h1,h2,_⟩:=hp k x hx
     obtain ⟨_,h3,h4⟩:=World.cells?_some h1
     refine ⟨cs',h3,fun j v hv=>?_,h2⟩
     have h5:=h4 j (by have:=(List.getElem?_eq_some_iff.1 hv).1;omega)
     rw [hv] at h5
     simpa [Addr.add_lit] using h5
   · obtain ⟨k,hk⟩:=List.getElem?_of_mem hx
     obtain ⟨_,_,_,hq⟩:=hp k x hk
     exact hq
theorem struct_of_trodF {fs:Array Field} {t:TypeId} {n fuel:Nat} {cs:List Value} {x:DataW H×List MemPlace} (ht:Pg.underlying t=some (.struct fs)) (hn:Pg.cellsOf t=n) (h:DataW.trod enc Pg w base spare held fuel t cs=some x) (hr:Reached Pg t x.1) :
 cs.length=n∧∃ m,m < fuel∧∀ (i:Nat) (ty off k:Nat),(fs[i]?).map (fun f=>(f.type,f.offset))=some (ty,off)→Pg.cellsOf ty=k→∃ y,DataW.trod enc Pg w base spare held m ty ((cs.drop off).take k)=some y∧Reached Pg ty y.1:=by
 obtain ⟨xs,m,hm,rfl,hl,hlen,hf⟩:=DataW.trod_struct ht h
 refine ⟨hl.trans hn,m,by omega,fun i ty off k hi hk=>?_⟩
 obtain ⟨f,hfi,he⟩:=Option.map_eq_some_iff.1 hi
 injection he with h1 h2
 subst h1 h2 hk
 have hil:i < xs.length:=by rw [hlen];exact (Array.getElem?_eq_some_iff.1 hfi).1
 refine ⟨xs[i],(hf i f hfi).trans (List.getElem?_eq_getElem hil),fun q hq=>hr q ?_⟩
 simp only [DataW.weights,ht]
 refine DataW.weights_mem_each (j:=i) (t:=f.type) (d:=xs[i].1) ?_ ?_ q hq
 · rw [List.getElem?_map,Array.getElem?_toList,hfi];rfl
 · rw [List.getElem?_map,List.getElem?_eq_getElem hil];rfl
theorem cellsVal:Pg.cellsOf 26=5:=by kernel_rfl
theorem cellsHdr:Pg.cellsOf 74=2:=by kernel_rfl
theorem cellsString:Pg.cellsOf 9=1:=by kernel_rfl
theorem cellsInt:Pg.cellsOf 3=1:=by kernel_rfl
theorem cellsU8:Pg.cellsOf 5=1:=by kernel_rfl
theorem cellsBs:Pg.cellsOf 22=1:=by kernel_rfl
theorem cellsHs:Pg.cellsOf 23=1:=by kernel_rfl
theorem cellsVs:Pg.cellsOf 24=1:=by kernel_rfl
theorem bytesVal:1≤Pg.bytesOf 26:=Nat.le_of_ble_eq_true (by kernel_rfl)
theorem bytesHdr:1≤Pg.bytesOf 74:=Nat.le_of_ble_eq_true (by kernel_rfl)
theorem bytesU8:1≤Pg.bytesOf 5:=Nat.le_of_ble_eq_true (by kernel_rfl)
theorem hdr_of {m:Nat} {cs:List Value} {y:DataW H×List MemPlace} (h:DataW.trod enc Pg w base spare held m 74 cs=some y) (hr:Reached Pg 74 y.1):∃ x,EHdr w cs x:=by
 obtain ⟨hl,n,_,hf⟩:=struct_of_trodF Tryz.underlying74 cellsHdr h hr
 obtain ⟨y0,h0,r0⟩:=hf 0 9 0 1 rfl cellsString
 obtain ⟨y1,h1,r1⟩:=hf 1 9 1 1 rfl cellsString
 match cs,hl with
 | [c0,c1],_ =>
  obtain ⟨s,e0,_⟩:=DataW.trod_string Tryz.underlying9 h0
  obtain ⟨k,e1,_⟩:=DataW.trod_string Tryz.underlying9 h1
  simp at e0 e1
  subst e0 e1
  exact ⟨(s,k),rfl⟩
theorem byte_of {m:Nat} {cs:List Value} {y:DataW H×List MemPlace} (h:DataW.trod enc Pg w base spare held m 5 cs=some y):∃ x:UInt8,EByte w cs x:=by
 obtain ⟨k,rfl,_,hw⟩:=DataW.trod_int Tryz.underlying5 h
 have hk:0≤k∧k≤255:=by
  have h2:(decide (IntKind.u8.min≤k)&&decide (k≤IntKind.u8.max))=true:=hw
  rw [Bool.and_eq_true,decide_eq_true_eq,decide_eq_true_eq,show IntKind.u8.min=0 from rfl,show IntKind.u8.max=255 from rfl] at h2
  exact h2
 refine ⟨UInt8.ofNat k.toNat,?_⟩
 show [Value.int .u8 k]=[Value.int .u8 ((UInt8.ofNat k.toNat).toNat:Int)]
 rw [UInt8.toNat_ofNat',Nat.mod_eq_of_lt (by omega)]
 congr 2
 omega
theorem value_of:∀ (m:Nat) (cs:List Value) (y:DataW H×List MemPlace),DataW.trod enc Pg w base spare held m 26 cs=some y→Reached Pg 26 y.1→∃ t,ETr w cs t:=by
 intro m
 induction m using Nat.strongRecOn with
 | ind m ih =>
  intro cs y h hr
  obtain ⟨hl,n,hn,hf⟩:=struct_of_trodF Tryz.underlying26 cellsVal h hr
  obtain ⟨y0,h0,r0⟩:=hf 0 9 0 1 rfl cellsString
  obtain ⟨y1,h1,r1⟩:=hf 1 3 1 1 rfl cellsInt
  obtain ⟨y2,h2,r2⟩:=hf 2 22 2 1 rfl cellsBs
  obtain ⟨y3,h3,r3⟩:=hf 3 23 3 1 rfl cellsHs
  obtain ⟨y4,h4,r4⟩:=hf 4 24 4 1 rfl cellsVs
  match cs,hl with
  | [c0,c1,c2,c3,c4],_ =>
   obtain ⟨s,e0,_⟩:=DataW.trod_string Tryz.underlying9 h0
   obtain ⟨k,e1,_⟩:=DataW.trod_int Tryz.underlying3 h1
   obtain ⟨v2,l2,e2,hS2,_,_⟩:=slice_of_trodF (E:=EByte) (Q:=fun _=>True) Tryz.underlying22 cellsU8 bytesU8 (by decide) (fun _ _ _ _ h hr=>let ⟨x,hx⟩:=byte_of h; ⟨x,hx,trivial⟩) h2 r2
   obtain ⟨v3,l3,e3,hS3,_,_⟩:=slice_of_trodF (E:=EHdr) (Q:=fun _=>True) Tryz.underlying23 cellsHdr bytesHdr (by decide) (fun _ _ _ _ h hr=>let ⟨x,hx⟩:=hdr_of h hr; ⟨x,hx,trivial⟩) h3 r3
   obtain ⟨v4,l4,e4,hS4,_,_⟩:=slice_of_trodF (E:=ETr) (Q:=fun _=>True) Tryz.underlying24 cellsVal bytesVal (by decide) (fun m' _ _ hm' h hr=>let ⟨x,hx⟩:=ih m' (by omega) _ _ h hr; ⟨x,hx,trivial⟩) h4 r4
   simp at e0 e1 e2 e3 e4
   subst e0 e1 e2 e3 e4
   exact ⟨.mk ⟨s,k,l2,l3⟩ l4,ETr_mk.2 ⟨_,_,_,rfl,hS2,hS3,hS4⟩⟩
theorem val_val {r:Reach} {b0:Nat} {v:Value} {d:DataW H} {ps:List MemPlace} (hval:Value.okWide Pg w r b0 26 v) (h:DataW.Trod enc Pg w base spare held 26 v d ps) (hr:Reached Pg 26 d):∃ t:Tr,ValAt w v t∧True:=by
 obtain ⟨cs,rfl,_⟩:=okWide_struct Tryz.underlying26 hval
 obtain ⟨fuel,hf⟩:=h
 obtain ⟨t,ht⟩:=value_of _ _ _ hf hr
 obtain ⟨bv,hv,pv,hc,g1,g2,g3⟩:=ETr_of.1 ht
 exact ⟨t,⟨bv,hv,pv,congrArg Value.agg (by rw [← hc,cells_agg]),g1,g2,g3⟩,trivial⟩
end
end Go.Proofs.YtcffhmapmaahnaaGreatDoor
namespace Go.Proofs.YtcffhmapmaahnaaGreatDoor
open Sw
open Go.RowKit (intOf Below)
theorem allT_imp {f g:Nd→Bool} (h:∀ n,f n=true→g n=true) (t:Tr):allT f t=true→allT g t=true:=by
 refine Tr.ind (p:=fun t=>allT f t=true→allT g t=true) ?_ t
 intro n ps ih ht
 rw [allT_mk,Bool.and_eq_true,List.all_eq_true] at ht ⊢
 exact ⟨h n ht.1,fun x hx=>ih x hx (ht.2 x hx)⟩
theorem hdrs_small (t:Tr):allT smallN t=true→hdrsT t≤110*nodesT t:=by
 refine Tr.ind (p:=fun t=>allT smallN t=true→hdrsT t≤110*nodesT t) ?_ t
 intro n ps ih ht
 rw [allT_mk,Bool.and_eq_true,List.all_eq_true] at ht
 have h1:n.hdrs.length≤110:=by
  have:=ht.1
  unfold smallN at this
  simp only [Bool.and_eq_true,decide_eq_true_eq] at this
  omega
 have h2:∀ l:List Tr,(∀ x∈l,hdrsT x≤110*nodesT x)→(l.map hdrsT).sum≤110*(l.map nodesT).sum:=by
  intro l
  induction l with
  | nil=>intro _;simp
  | cons a l ihl =>
   intro h
   have ha:=h a (List.mem_cons_self ..)
   have:=ihl fun x hx=>h x (List.mem_cons_of_mem _ hx)
   rw [List.map_cons,List.map_cons,List.sum_cons,List.sum_cons]
   omega
 have h3:=h2 ps fun x hx=>ih x hx (ht.2 x hx)
 rw [hdrsT_mk,nodesT_mk]
 omega
structure RsI (w0:World) (s:List UInt8) (k:Nat) (v:Value) (rows:List Stp) (w:World):Prop where
 e:Ext w0 w
 own:OwnE w w0.heap.size 61 2 encS v rows
 st:stepsL ((splitB 46 s).take k)=some (rows.map capS)
 len:rows.length=k
 bnd:∀ x∈rows,x.2≤9223372036854775807
theorem small_of {t:Tr} (h2:allT smallN t=true) (h1:nodesT t≤200):shortT t=true∧fitT t=true∧hnT 1048576 t=true∧hdrsT t≤22000:=by
 have h3:=hdrs_small t h2
 refine ⟨allT_imp (fun n hn=>?_) t h2,?_,allT_imp (fun n hn=>?_) t h2,by omega⟩
 · unfold smallN at hn
   unfold shortN
   simp only [Bool.and_eq_true,decide_eq_true_eq,List.all_eq_true] at hn ⊢
   refine ⟨⟨by omega,by omega⟩,fun x hx=>?_⟩
   have:=hn.2.2.2 x hx
   unfold smallH at this
   simp only [Bool.and_eq_true,decide_eq_true_eq] at this
   omega
 · unfold fitT
   rw [Bool.and_eq_true,decide_eq_true_eq]
   refine ⟨allT_imp (fun n hn=>?_) t h2,by omega⟩
   unfold smallN at hn
   unfold fitN
   simp only [Bool.and_eq_true,decide_eq_true_eq] at hn ⊢
   omega
 · unfold smallN at hn
   simp only [Bool.and_eq_true,decide_eq_true_eq,List.all_eq_true] at hn ⊢
   intro x hx
   have:=hn.2.2.2 x hx
   unfold smallH at this
   simp only [Bool.and_eq_true,decide_eq_true_eq] at this
   omega
theorem walk_count (t:Tr):∀ path,(walkT t path).length=nodesT t:=by
 refine Tr.ind (p:=fun t=>∀ path,(walkT t path).length=nodesT t) ?_ t
 intro n ps ih path
 rw [walkT_mk,nodesT_mk,List.length_cons]
 have key:∀ (ps:List Tr) (seen:List ByteArray),(∀ x∈ps,∀ path,(walkT x path).length=nodesT x)→(partsW path seen ps (ps.map walkT)).flatten.length=(ps.map nodesT).sum:=by
  intro ps
  induction ps with
  | nil=>intro seen _;rfl
  | cons p ps ih =>
   intro seen h
   show (walkT p _++(partsW path (seen++[p.nd.name]) ps (ps.map walkT)).flatten).length=_
   rw [List.length_append,h p (List.mem_cons_self ..),ih _ fun x hx=>h x (List.mem_cons_of_mem _ hx)]
   rfl
 rw [key ps [] ih]
 omega
def EWk (A:World) (cs:List Value) (q:List UInt8×Tr):Prop:=∃ vcs,cs = .string (mkB q.1)::vcs∧ETr A vcs q.2
theorem EWk.cells {A:World} {cs:List Value} {q:List UInt8×Tr} (h:EWk A cs q):∀ u∈cs,u.oneCell'=true:=by
 obtain ⟨vcs,rfl,h⟩:=h
 intro u hu
 rcases List.mem_cons.1 hu with rfl | hu
 · rfl
 · exact h.cells5 u hu
def RWalkK (A w0:World) (L:List (List UInt8×Tr)) (r:Value) (w':World):Prop:=Ext w0 w'∧∃ css:List (Cs 6),OwnE w' w0.heap.size 48 6 (Subtype.val:Cs 6→List Value) r css∧Mates 6 (EWk A) css L
theorem rWalk_ret {A:World} (t:Tr):∀ (w0:World) (path:List UInt8) (bv hv pv:Value),Ext A w0→ETr A (trCells t.nd bv hv pv) t→allT nodeB t=true→fitT t=true→path.length+200*heightT t≤900000000→Ret Pg 24 #[.agg (trCells t.nd bv hv pv).toArray,.string (mkB path)] w0 fun r w'=>RWalkK A w0 (walkT t path) r w':=by
 refine Tr.ind (p:=fun t=>∀ (w0:World) (path:List UInt8) (bv hv pv:Value),Ext A w0→ETr A (trCells t.nd bv hv pv) t→allT nodeB t=true→fitT t=true→path.length+200*heightT t≤900000000→Ret Pg 24 #[.agg (trCells t.nd bv hv pv).toArray,.string (mkB path)] w0 fun r w'=>RWalkK A w0 (walkT t path) r w') ?_ t
 intro n ps ih w0 path bv hv pv eA hT0 hn hf hl
 rw [heightT_mk] at hl
 rw [allT_mk,Bool.and_eq_true,List.all_eq_true] at hn
 obtain ⟨hf1,hf2,hf3,hf4⟩:=fitT_mk hf
 have hnodes:nodesT (.mk n ps)≤1000000:=by
  unfold fitT at hf
  rw [Bool.and_eq_true,decide_eq_true_eq] at hf
  exact hf.2
 have hnb:∀ p∈ps,nameB p.nd.name=true:=fun p hp=>by
  have:=hn.2 p hp
  cases p with
  | mk n2 ps2 =>
   rw [allT_mk,Bool.and_eq_true] at this
   have h:=this.1
   unfold nodeB at h
   rw [Bool.and_eq_true] at h
   exact h.1
 have hh:∀ (k:Nat) (p:Tr),ps[k]?=some p→(belowB path ps k p).length+200*heightT p≤900000000:=fun k p hp=>by
  have hm:=(foldr_max_le (l:=ps.map heightT) (m:=(ps.map heightT).foldr max 0)).1 (Nat.le_refl _) _ (List.mem_map_of_mem (List.mem_of_getElem? hp))
  have:=below_len (path:=path) (k:=k) (hnb p (List.mem_of_getElem? hp)) hf3
  omega
 obtain ⟨x1,x2,x3,hx,hB,hH,hT⟩:=ETr_mk.1 hT0
 obtain ⟨rfl,rfl,rfl⟩:bv=x1∧hv=x2∧pv=x3:=by
  unfold trCells at hx
  injection hx with _ hx
  injection hx with _ hx
  injection hx with e1 hx
  injection hx with e2 hx
  injection hx with e3 _
  exact ⟨e1,e2,e3⟩
 have o1:=SliceOf.oneCell hB
 have o2:=SliceOf.oneCell hH
 have o3:=SliceOf.oneCell hT
 obtain ⟨LL,hLL⟩:∃ LL:List (List (List UInt8×Tr)),LL=partsW path [] ps (ps.map walkT):=⟨_,rfl⟩
 have hLk:∀ (k:Nat) (p:Tr),ps[k]?=some p→LL[k]?=some (walkT p (belowB path ps k p)):=fun k p hp=>by
  rw [hLL,partsW_get hp]
  rfl
 have hLlen:LL.length=ps.length:=by rw [hLL,partsW_len]
 have hL:walkT (.mk n ps) path=(path,.mk n ps)::LL.flatten:=by rw [walkT_mk,hLL]
 have hcount:=walk_count (.mk n ps) path
 rw [hL] at hcount ⊢
 rw [List.length_cons] at hcount
 show Ret _ _ #[.agg (trCells n bv hv pv).toArray,_] _ _
 refine n24s (R:=retR _) ?_;unfold n24
 simp (disch:=try exact DI) only [↓PR,QR,simprocAttr]
 have c1:=heap_new w0 #[.string n.name,.int .i64 n.int,bv,hv,pv] 26
 change (w0.alloc (.cells (trCells n bv hv pv).toArray 26)).heap[w0.heap.size]?=_ at c1
 have e1:Ext w0 (w0.alloc (.cells (trCells n bv hv pv).toArray 26)):=(Ext.refl w0).alloc _
 have z1:(w0.alloc (.cells (trCells n bv hv pv).toArray 26)).heap.size=w0.heap.size+1:=by simp
 generalize (w0.alloc (.cells (trCells n bv hv pv).toArray 26))=w1 at *
 have e2:Ext w1 (w1.alloc (.cells #[.string (mkB path),.string n.name,.int .i64 n.int,bv,hv,pv] 48)):=(Ext.refl w1).alloc _
 have hO0:OwnE (w1.alloc (.cells #[.string (mkB path),.string n.name,.int .i64 n.int,bv,hv,pv] 48)) (w0.heap.size+1) 48 6 (Subtype.val:Cs 6→List Value) (.slice (some ⟨w0.heap.size+1,0,none⟩) 1 1) [⟨[.string (mkB path),.string n.name,.int .i64 n.int,bv,hv,pv],rfl⟩]:=by
  have:=OwnE.new w1 48 6 (Subtype.val:Cs 6→List Value) [⟨[.string (mkB path),.string n.name,.int .i64 n.int,bv,hv,pv],rfl⟩] (fun x=>x.2) (by simp)
  rw [z1] at this
  exact this
 have z2:(w1.alloc (.cells #[.string (mkB path),.string n.name,.int .i64 n.int,bv,hv,pv] 48)).heap.size=w1.heap.size+1:=by simp
 generalize (w1.alloc (.cells #[.string (mkB path),.string n.name,.int .i64 n.int,bv,hv,pv] 48))=w2 at *
 have c1:=e2.obj c1
 have e:=e1.trans e2
 obtain ⟨B,c,rfl,hlc,hcm,hlm,hel⟩:=SliceOf.open hT
 refine loop2_intro (fun a i w=>∃ (k:Nat) (css:List (Cs 6)),i = .int .i64 k∧k≤ps.length∧Ext w0 w∧w.heap[w0.heap.size]?=some (.cells #[.string n.name,.int .i64 n.int,bv,hv,.slice B ps.length c] 26 (0,0))∧OwnE w (w0.heap.size+1) 48 6 (Subtype.val:Cs 6→List Value) a css∧Mates 6 (EWk A) css ((path,.mk n ps)::(LL.take k).flatten)) (fun _ i _=>ps.length - (intOf i).toNat) ⟨0,_,rfl,by omega,e,c1,hO0,?_⟩ ?_
 · refine ⟨rfl,fun k x cs hx hc=>?_⟩
   cases k with
   | zero =>
    simp only [List.getElem?_cons_zero,Option.some.injEq] at hx hc
    subst hx hc
    exact ⟨_,rfl,hT0⟩
   | succ k=>simp at hc
 clear hO0 c1 e e1 e2 z1 z2
 rintro v5 _ w ⟨k,css,rfl,hk,ew,c1,hO,hM⟩
 have zw:=(Array.getElem?_eq_some_iff.1 c1).1
 unfold n24c7
 by_cases hlt:k < ps.length
 case neg =>
  obtain rfl:k=ps.length:=by omega
  have hd:¬ ((ps.length:Int) < (ps.length:Int)):=by omega
  simp (disch:=try exact DI) only [↓PR,QR,simprocAttr,(cells_of_heap c1).1,hd]
  rw [List.take_of_length_le (by omega)] at hM
  exact ⟨ew,css,hO.base (by omega),hM⟩
 have hd:(k:Int) < (ps.length:Int):=by omega
 simp (disch:=try exact DI) only [↓PR,QR,simprocAttr,(cells_of_heap c1).1,hd]
 obtain ⟨x,hx⟩:=getElem?_lt hlt
 obtain ⟨b,o,cs,rfl,_,hA0,hEx⟩:=hel k x hx
 obtain ⟨xb,xh,xp,rfl,x1,x2,x3,f1,f2,f3⟩:=hEx.op
 refine loop2_intro (fun a i w'=>∃ m j:Nat,a = .int .i64 m∧i = .int .i64 j∧j≤k∧m=cntB ((ps.take j).map fun x=>x.nd.name) x.nd.name∧Ext w w') (fun _ i _=>k - (intOf i).toNat) ⟨0,0,rfl,rfl,by omega,rfl,Ext.refl _⟩ ?_
 rintro _ _ w3 ⟨m,j,rfl,rfl,hj,hm,e3⟩
 have c1:=e3.obj c1
 have e03:=ew.trans e3
 have eA3:=eA.trans e03
 have hml:m≤j:=by
  rw [hm]
  refine Nat.le_trans (cnt_le _ _) ?_
  rw [List.length_map,List.length_take]
  omega
 unfold n24c6
 by_cases hjk:j < k
 · obtain ⟨y,hy⟩:=getElem?_lt (l:=ps) (k:=j) (by omega)
   obtain ⟨b',o',cs',hbo,_,hAy,hEy⟩:=hel j y hy
   injection hbo with hbo
   injection hbo with g1 g2 _
   subst g1 g2
   obtain ⟨yb,yh,yp,rfl,_⟩:=hEy.op
   have dj:(j:Int) < (k:Int):=by omega
   have djl:(j:Int) < (ps.length:Int):=by omega
   have hwj:IntKind.i64.wrap ((j:Int)+1)=((j+1:Nat):Int):=by rw [wrap_ok (by omega) (by omega)];omega
   have hwm:IntKind.i64.wrap ((m:Int)+1)=((m+1:Nat):Int):=by rw [wrap_ok (by omega) (by omega)];omega
   have hcs:cntB ((ps.take (j+1)).map fun x=>x.nd.name) x.nd.name=cntB ((ps.take j).map fun x=>x.nd.name) x.nd.name+if y.nd.name=x.nd.name then 1 else 0:=by
    rw [List.take_add_one,hy,Option.toList_some,List.map_append]
    unfold cntB
    rw [List.filter_append,List.length_append]
    by_cases h:y.nd.name=x.nd.name<;>simp [h]
   simp (disch:=try exact DI) only [↓PR,QR,simprocAttr,dj]
   refine drawK_intro ?_
   have eD:Ext w3 (drew w3):=(Ext.refl w3).drew
   have c1:=eD.obj c1
   have eAD:=eA3.trans eD
   have e3D:=e3.trans eD
   generalize drew w3=D at *
   have r1:=(hAy.c5 eAD).1
   have r2:=(hA0.c5 eAD).1
   unfold n24c1
   by_cases hnm:y.nd.name=x.nd.name
   · rw [if_pos hnm] at hcs
     have hq:decide (y.nd.name=x.nd.name)=true:=decide_eq_true hnm
     simp (disch:=try exact DI) only [↓PR,QR,simprocAttr,(cells_of_heap c1).1,djl,hd,r1,r2,hq,hwm,hwj]
     exact ⟨⟨m+1,j+1,rfl,rfl,by omega,by rw [hcs,hm],e3D⟩,meas_lt (kd := .i64) hjk⟩
   · rw [if_neg hnm] at hcs
     have hq:decide (y.nd.name=x.nd.name)=false:=decide_eq_false hnm
     simp (disch:=try exact DI) only [↓PR,QR,simprocAttr,(cells_of_heap c1).1,djl,hd,r1,r2,hq,hwm,hwj]
     exact ⟨⟨m,j+1,rfl,rfl,by omega,by rw [hcs,hm];rfl,e3D⟩,meas_lt (kd := .i64) hjk⟩
 obtain rfl:j=k:=by omega
 have dj:¬ ((j:Int) < (j:Int)):=by omega
 simp (disch:=try exact DI) only [↓PR,QR,simprocAttr,dj]
 have hnbx:=hnb x (List.mem_of_getElem? hx)
 have hnl:=name_len hnbx
 have hsz:=Go.Lib.size_eq x.nd.name
 have hname:x.nd.name=mkB x.nd.name.data.toList:=bytes_ext (by rw [mkB_data])
 have hlen:path.length≤900000000:=by omega
 have hsl:(stepB x.nd.name m).length≤100:=step_len hnbx (by omega)
 have hgo:∀ w4,Ext w3 w4→n24c2 (.pointer (some ⟨w0.heap.size,0,none⟩)) v5 (.int .i64 (j:Int)) (.string (mkB (belowB path ps j x))) (fun a i w'=>(∃ (k:Nat) (css:List (Cs 6)),i = .int .i64 k∧k≤ps.length∧Ext w0 w'∧w'.heap[w0.heap.size]?=some (.cells #[.string n.name,.int .i64 n.int,bv,hv,.slice (some ⟨b,o,none⟩) ps.length c] 26 (0,0))∧OwnE w' (w0.heap.size+1) 48 6 (Subtype.val:Cs 6→List Value) a css∧Mates 6 (EWk A) css ((path,.mk n ps)::(LL.take k).flatten))∧ps.length - (intOf i).toNat < ps.length - (intOf (.int .i64 (j:Int))).toNat) (retR fun r w'=>RWalkK A w0 ((path,Tr.mk n ps)::LL.flatten) r w') w4:=by
  intro w4 e4
  have c1:=e4.obj c1
  have e04:=e03.trans e4
  have hO4:=hO.ext (e3.trans e4)
  obtain ⟨m1,m2,m3,m4,m5⟩:=hA0.c5 (eA3.trans e4)
  unfold n24c2
  simp (disch:=try exact DI) only [↓PR,QR,simprocAttr,(cells_of_heap c1).1,hd,m1,m2,m3,m4,m5]
  refine callK_ret (ih x (List.mem_of_getElem? hx) w4 (belowB path ps j x) xb xh xp (eA3.trans e4) hEx (hn.2 x (List.mem_of_getElem? hx)) (hf4 x (List.mem_of_getElem? hx)) (hh j x hx)) ?_
  rintro v7 w5 ⟨e5,css2,hO2,hM2⟩
  have c1:=e5.obj c1
  have hO5:=hO4.ext e5
  have hcx:=walk_count x (belowB path ps j x)
  have hpos:0 < css2.length:=by
   rw [hM2.1]
   cases x
   rw [walkT_mk]
   simp
  obtain ⟨g,cap,rfl,r1,r2,r3,r4,r5⟩:=hO2.row (fun x=>x.2) hpos
  have hoff:=offL_le (hLk j x hx)
  have hl1:css.length=1+offL LL j:=by
   rw [hM.1,List.length_cons,List.length_flatten]
   unfold offL
   omega
  have hl2:css2.length=(walkT x (belowB path ps j x)).length:=hM2.1
  have z4:=e4.size
  have z5:=e5.size
  have z3:=e3.size
  have hby:=by48
  refine op_appendL (l:=css) (l':=css2) Tryz.underlying45 ty48 rfl (by decide) (fun x=>x.2) (fun y hy u hu=>?_) hO5 (o:=0) (fun i y hy=>?_) (by omega) hpos ?_ (by omega) ?_
  · obtain ⟨q,_,hq⟩:=hM2.mem hy
    exact hq.cells u hu
  · rw [Nat.zero_add]
    exact r5 i y hy
  · exact Nat.le_trans (Nat.mul_le_mul (show css.length+css2.length≤2000001 by omega) hby) (by decide)
  · intro g2 cap2 w6 ho hg hgg hgl
    have hrow:∀ b,b < w5.heap.size→v5.ownBlock≠some b→w6.heap[b]?=w5.heap[b]?:=fun b hb hne=>hg.block b hb (fun e=>hne e.symm)
    have hne:∀ b,b < w0.heap.size+1→v5.ownBlock≠some b:=fun b hb e=>by have:=(OwnE.lt' hO5 e).1;omega
    have e06:Ext w0 w6:=⟨hg.os.trans (e04.trans e5).os,hg.tape.trans (e04.trans e5).tape,hg.output.trans (e04.trans e5).output,Nat.le_trans (e04.trans e5).size hg.size,fun b hb=>(hrow b (by omega) (hne b (by omega))).trans ((e04.trans e5).block b hb)⟩
    have c1:=(hrow _ (by omega) (hne _ (by omega))).trans c1
    have hwk:IntKind.i64.wrap ((j:Int)+1)=((j+1:Nat):Int):=by rw [wrap_ok (by omega) (by omega)];omega
    simp (disch:=try exact DI) only [↓PR,QR,simprocAttr,hwk]
    refine ⟨⟨j+1,css++css2,rfl,by omega,e06,c1,by rw [← List.length_append] at ho ⊢;exact ho,?_⟩,meas_lt (kd := .i64) hlt⟩
    have htk:(LL.take (j+1)).flatten=(LL.take j).flatten++walkT x (belowB path ps j x):=by
     rw [List.take_add_one,hLk j x hx,Option.toList_some,List.flatten_append,List.flatten_singleton]
    rw [htk,← List.cons_append]
    refine ⟨by rw [List.length_append,List.length_append,hM.1,hM2.1],fun i q cs hq hc=>?_⟩
    by_cases hi:i < css.length
    · rw [List.getElem?_append_left hi] at hc
      rw [List.getElem?_append_left (by rw [← hM.1];exact hi)] at hq
      exact hM.2 i q cs hq hc
    · rw [List.getElem?_append_right (by omega)] at hc
      rw [List.getElem?_append_right (by rw [← hM.1];omega),← hM.1] at hq
      exact hM2.2 _ q cs hq hc
 obtain ⟨m1,m2,m3,m4,m5⟩:=hA0.c5 eA3
 have hpath:∀ w4,Ext w3 w4→n24c3 (.string (mkB path)) (.pointer (some ⟨w0.heap.size,0,none⟩)) v5 (.int .i64 (j:Int)) (.string (mkB (stepB x.nd.name m))) (fun a i w'=>(∃ (k:Nat) (css:List (Cs 6)),i = .int .i64 k∧k≤ps.length∧Ext w0 w'∧w'.heap[w0.heap.size]?=some (.cells #[.string n.name,.int .i64 n.int,bv,hv,.slice (some ⟨b,o,none⟩) ps.length c] 26 (0,0))∧OwnE w' (w0.heap.size+1) 48 6 (Subtype.val:Cs 6→List Value) a css∧Mates 6 (EWk A) css ((path,.mk n ps)::(LL.take k).flatten))∧ps.length - (intOf i).toNat < ps.length - (intOf (.int .i64 (j:Int))).toNat) (retR fun r w'=>RWalkK A w0 ((path,Tr.mk n ps)::LL.flatten) r w') w4:=by
  intro w4 e4
  have hgo:=hgo w4 e4
  have hbel:belowB path ps j x=dotB path (stepB x.nd.name m):=by rw [hm];rfl
  rw [hbel] at hgo
  generalize stepB x.nd.name m=sb at *
  unfold n24c3 joinK
  by_cases hp0:path=[]
  · subst hp0
    rw [show dotB [] sb=sb from if_pos rfl] at hgo
    rw [show mkB []=(⟨#[]⟩:ByteArray) from rfl]
    simp (disch:=try exact DI) only [↓PR,QR,simprocAttr]
    exact hgo
  · have hpn:¬ mkB path=(⟨#[]⟩:ByteArray):=fun h=>hp0 (by
     have:=congrArg (fun b:ByteArray=>b.data.toList) h
     rwa [mkB_data] at this)
    rw [show dotB path sb=(path++[46])++sb by unfold dotB;rw [if_neg hp0];simp] at hgo
    simp (disch:=try exact DI) only [↓PR,QR,simprocAttr,hpn]
    rw [show (⟨#[46]⟩:ByteArray)=mkB [46] from rfl,op_saddL _ _ _ _ (by simp;omega)]
    simp (disch:=try exact DI) only [↓PR,QR,simprocAttr]
    rw [op_saddL _ _ _ _ (by simp;omega)]
    simp (disch:=try exact DI) only [↓PR,QR,simprocAttr]
    exact hgo
 unfold n24c5 joinK
 by_cases hm0:m=0
 · have hdm:¬ ((0:Int) < (m:Int)):=by omega
   have hst:mkB (stepB x.nd.name m)=x.nd.name:=by
    unfold stepB
    rw [if_pos hm0,List.append_nil,← hname]
   simp (disch:=try exact DI) only [↓PR,QR,simprocAttr,(cells_of_heap c1).1,hd,m1,hdm]
   have:=hpath w3 (Ext.refl _)
   rw [hst] at this
   exact this
 · have hdm:(0:Int) < (m:Int):=by omega
   simp (disch:=try exact DI) only [↓PR,QR,simprocAttr,(cells_of_heap c1).1,hd,m1,hdm]
   unfold n24c4
   rw [hname,show (⟨#[58]⟩:ByteArray)=mkB [58] from rfl,op_saddL _ _ _ _ (by simp;omega)]
   refine zcr (rdecimal_ret w3 m (by omega)) fun w4 e4=>?_
   have hdl:=decD_small 11 m (by omega)
   have hit:decB (m:Int)=mkB (Go.Lib.decDigits m):=by
    unfold decB
    rw [itoa_pos (by omega),Int.toNat_natCast]
    rfl
   have hst:mkB (stepB x.nd.name m)=mkB (x.nd.name.data.toList++[58]++Go.Lib.decDigits m):=by
    unfold stepB
    rw [if_neg hm0]
    simp
   rw [hit,op_saddL _ _ _ _ (by simp;omega)]
   have:=hpath w4 e4
   rw [hst] at this
   exact this
def n7c1 (t3 t8 t9:Value) (Kr3:World→Prop) (Qr3:List PanicEntry→World→Prop) (Xr3:Nat→World→Prop) (R:RT) (w:World):Prop :=
 opV Pg (Instr.loadAt 3 t9) Qr3 w fun t60 w =>
 opV Pg (binS .add 3 true t60 (.int .i64 1)) Qr3 w fun t61 w =>
 opU Pg (Instr.storeAt 3 t9 t61) Qr3 w fun w =>
 opV Pg (Instr.loadAt 3 t8) Qr3 w fun t62 w =>
 opV Pg (binS .eql 3 true t62 (.int .i64 0)) Qr3 w fun t63 w =>
 joinK (fun (t67:Value) (w:World) =>
 pickK t63 t67 (.bool false) fun t68 =>
 condP t68 (
 Xr3 1 w) (
 Kr3 w)) fun K7 =>
 guardP t63 true (
 opV Pg (Instr.loadAt 3 t9) Qr3 w fun t65 w =>
 opV Pg (Instr.loadAt 3 t3) Qr3 w fun t66 w =>
 opV Pg (binS .geq 3 false t65 t66) Qr3 w fun t67 w =>
 K7 t67 w) (
 K7 undef w)
def n7c2 (t3 t4 t8 t9 t11 t47 t56:Value) (Kr3:World→Prop) (Qr3:List PanicEntry→World→Prop) (Xr3:Nat→World→Prop) (R:RT) (w:World):Prop :=
 pickK t47 (.bool true) t56 fun t57 =>
 condP t57 (
 opU Pg (Instr.storeAt 4 t4 (.bool false)) Qr3 w fun w =>
 Xr3 0 w) (
 opV Pg (Instr.loadAt 26 t11) Qr3 w fun t58 w =>
 callK Pg 17 #[t58] Qr3 w fun t59 w =>
 n7c1 t3 t8 t9 Kr3 Qr3 Xr3 R w)
def n7c3 (t3 t4 t7 t8 t9 t11 t38 t46:Value) (C4:World→Prop) (Kr3:World→Prop) (Qr3:List PanicEntry→World→Prop) (Xr3:Nat→World→Prop) (R:RT) (w:World):Prop :=
 pickK t38 (.bool true) t46 fun t47 =>
 joinK (fun (t56:Value) (w:World) =>
 n7c2 t3 t4 t8 t9 t11 t47 t56 Kr3 Qr3 Xr3 R w) fun K6 =>
 guardP t47 false (
 qV Pg C4 (Instr.loadAt 26 t11) fun t49 =>
 qV Pg C4 (Instr.loadAt 45 t7) fun t50 =>
 qV Pg C4 (Instr.loadAt 3 t9) fun t51 =>
 qV Pg C4 (Instr.indexAt 45 t50 t51) fun t52 =>
 qV Pg C4 (Instr.fieldAt 48 t52 1) fun t53 =>
 qV Pg C4 (Instr.loadAt 26 t53) fun t54 =>
 callK Pg 13 #[t49,t54] Qr3 w fun t55 w =>
 C4 w∧(
 qV Pg C4 (Op.unary .not t55) fun t56 =>
 K6 t56 w)) (
 K6 undef w)
def n7c4 (t3 t4 t7 t8 t9 t11 t33:Value) (C4:World→Prop) (Kr3:World→Prop) (Qr3:List PanicEntry→World→Prop) (Xr3:Nat→World→Prop) (R:RT) (w:World):Prop :=
 qV Pg C4 (Instr.loadAt 3 t9) fun t35 =>
 qV Pg C4 (Instr.loadAt 45 t7) fun t36 =>
 qV Pg C4 (Builtin.len_ #[45] 3 #[t36]) fun t37 =>
 qV Pg C4 (binS .geq 3 false t35 t37) fun t38 =>
 joinK (fun (t46:Value) (w:World) =>
 n7c3 t3 t4 t7 t8 t9 t11 t38 t46 C4 Kr3 Qr3 Xr3 R w) fun K5 =>
 guardP t38 false (
 qV Pg C4 (Instr.loadAt 45 t7) fun t41 =>
 qV Pg C4 (Instr.loadAt 3 t9) fun t42 =>
 qV Pg C4 (Instr.indexAt 45 t41 t42) fun t43 =>
 qV Pg C4 (Instr.fieldAt 48 t43 0) fun t44 =>
 qV Pg C4 (Instr.loadAt 9 t44) fun t45 =>
 qV Pg C4 (binS .neq 9 false t33 t45) fun t46 =>
 K5 t46 w) (
 K5 undef w)
def n7c5 (t3 t4 t7 t8 t9 t33 t34:Value) (Kr3:World→Prop) (Qr3:List PanicEntry→World→Prop) (Xr3:Nat→World→Prop) (l3:Nat) (R:RT) (w:World):Prop :=
 opV Pg (Instr.alloc 26 true (.tuple #[])) (fun _ _=>False) w fun t11 w =>
 opU Pg (Instr.storeAt 26 t11 t34) (fun _ _=>False) w fun w =>
 busyK l3 w fun w =>
 drawK w fun C4 w =>
 n7c4 t3 t4 t7 t8 t9 t11 t33 C4 Kr3 Qr3 Xr3 R w
def n7c6 (t4 t8:Value) (next2:List Deferred→Value→World→Prop) (ds:List Deferred) (R:RT) (w:World):Prop :=
 opV Pg (Instr.loadAt 3 t8) (outQ Pg ds [(some 4,t4)] R) w fun t90 w =>
 opV Pg (Instr.alloc 3 true (.tuple #[])) (outQ Pg ds [(some 4,t4)] R) w fun t8 w =>
 opU Pg (Instr.storeAt 3 t8 t90) (outQ Pg ds [(some 4,t4)] R) w fun w =>
 opV Pg (Instr.loadAt 3 t8) (outQ Pg ds [(some 4,t4)] R) w fun t30 w =>
 opV Pg (binS .add 3 true t30 (.int .i64 1)) (outQ Pg ds [(some 4,t4)] R) w fun t31 w =>
 opU Pg (Instr.storeAt 3 t8 t31) (outQ Pg ds [(some 4,t4)] R) w fun w =>
 next2 ds t8 w
def n7c7 (t4 t8 t79 t88:Value) (next2:List Deferred→Value→World→Prop) (ds:List Deferred) (R:RT) (w:World):Prop :=
 pickK t79 (.bool true) t88 fun t89 =>
 condP t89 (
 opU Pg (Instr.storeAt 4 t4 (.bool false)) (outQ Pg ds [(some 4,t4)] R) w fun w =>
 outX Pg ds [(some 4,t4)] R w) (
 n7c6 t4 t8 next2 ds R w)
def n7c8 (t4 t8 t79 t83 t87:Value) (next2:List Deferred→Value→World→Prop) (ds:List Deferred) (R:RT) (w:World):Prop :=
 joinK (fun (t88:Value) (w:World) =>
 n7c7 t4 t8 t79 t88 next2 ds R w) fun K11 =>
 guardP t79 false (
 pickK t83 t87 (.bool false) fun t88 =>
 K11 t88 w) (
 K11 undef w)
def n7c9 (t4 t7 t8 t9 t79 t83:Value) (next2:List Deferred→Value→World→Prop) (ds:List Deferred) (R:RT) (w:World):Prop :=
 joinK (fun (t87:Value) (w:World) =>
 n7c8 t4 t8 t79 t83 t87 next2 ds R w) fun K10 =>
 guardP t83 true (
 opV Pg (Instr.loadAt 3 t9) (outQ Pg ds [(some 4,t4)] R) w fun t84 w =>
 opV Pg (Instr.loadAt 45 t7) (outQ Pg ds [(some 4,t4)] R) w fun t85 w =>
 opV Pg (Builtin.len_ #[45] 3 #[t85]) (outQ Pg ds [(some 4,t4)] R) w fun t86 w =>
 opV Pg (binS .neq 3 false t84 t86) (outQ Pg ds [(some 4,t4)] R) w fun t87 w =>
 K10 t87 w) (
 K10 undef w)
def n7c10 (t4 t7 t8 t9 t70 t78:Value) (next2:List Deferred→Value→World→Prop) (ds:List Deferred) (R:RT) (w:World):Prop :=
 pickK t70 t78 (.bool false) fun t79 =>
 joinK (fun (t83:Value) (w:World) =>
 n7c9 t4 t7 t8 t9 t79 t83 next2 ds R w) fun K9 =>
 guardP t79 false (
 opV Pg (Instr.loadAt 3 t8) (outQ Pg ds [(some 4,t4)] R) w fun t81 w =>
 opV Pg (binS .eql 3 true t81 (.int .i64 1)) (outQ Pg ds [(some 4,t4)] R) w fun t82 w =>
 K9 t82 w) (
 K9 undef w)
def n7c11 (t3 t4 t7 t9:Value) (K8:KV) (ds:List Deferred) (R:RT) (w:World):Prop :=
 opV Pg (Instr.loadAt 3 t9) (outQ Pg ds [(some 4,t4)] R) w fun t72 w =>
 opV Pg (Instr.loadAt 45 t7) (outQ Pg ds [(some 4,t4)] R) w fun t73 w =>
 opV Pg (Builtin.len_ #[45] 3 #[t73]) (outQ Pg ds [(some 4,t4)] R) w fun t74 w =>
 opV Pg (Instr.loadAt 3 t3) (outQ Pg ds [(some 4,t4)] R) w fun t75 w =>
 opV Pg (Builtin.max_ #[3,3] 3 #[(.int .i64 1),t75]) (outQ Pg ds [(some 4,t4)] R) w fun t76 w =>
 opV Pg (Builtin.min_ #[3,3] 3 #[t74,t76]) (outQ Pg ds [(some 4,t4)] R) w fun t77 w =>
 opV Pg (binS .neq 3 false t72 t77) (outQ Pg ds [(some 4,t4)] R) w fun t78 w =>
 K8 t78 w
def n7c12 (t3 t4 t7 t8 t9:Value) (next2:List Deferred→Value→World→Prop) (ds:List Deferred) (R:RT) (w:World):Prop :=
 opV Pg (Instr.loadAt 3 t8) (outQ Pg ds [(some 4,t4)] R) w fun t69 w =>
 opV Pg (binS .eql 3 true t69 (.int .i64 0)) (outQ Pg ds [(some 4,t4)] R) w fun t70 w =>
 joinK (fun (t78:Value) (w:World) =>
 n7c10 t4 t7 t8 t9 t70 t78 next2 ds R w) fun K8 =>
 guardP t70 true (
 n7c11 t3 t4 t7 t9 K8 ds R w) (
 K8 undef w)
def n7c13 (t4 t8:Value) (next2:List Deferred→Value→World→Prop) (ds:List Deferred) (R:RT) (w:World):Prop :=
 opV Pg (Instr.loadAt 3 t8) (outQ Pg ds [(some 4,t4)] R) w fun t90 w =>
 opV Pg (Instr.alloc 3 true (.tuple #[])) (outQ Pg ds [(some 4,t4)] R) w fun t8 w =>
 opU Pg (Instr.storeAt 3 t8 t90) (outQ Pg ds [(some 4,t4)] R) w fun w =>
 opV Pg (Instr.loadAt 3 t8) (outQ Pg ds [(some 4,t4)] R) w fun t30 w =>
 opV Pg (binS .add 3 true t30 (.int .i64 1)) (outQ Pg ds [(some 4,t4)] R) w fun t31 w =>
 opU Pg (Instr.storeAt 3 t8 t31) (outQ Pg ds [(some 4,t4)] R) w fun w =>
 next2 ds t8 w
def n7c14 (t4 t8 t79 t88:Value) (next2:List Deferred→Value→World→Prop) (ds:List Deferred) (R:RT) (w:World):Prop :=
 pickK t79 (.bool true) t88 fun t89 =>
 condP t89 (
 opU Pg (Instr.storeAt 4 t4 (.bool false)) (outQ Pg ds [(some 4,t4)] R) w fun w =>
 outX Pg ds [(some 4,t4)] R w) (
 n7c13 t4 t8 next2 ds R w)
def n7c15 (t4 t8 t79 t83 t87:Value) (next2:List Deferred→Value→World→Prop) (ds:List Deferred) (R:RT) (w:World):Prop :=
 joinK (fun (t88:Value) (w:World) =>
 n7c14 t4 t8 t79 t88 next2 ds R w) fun K15 =>
 guardP t79 false (
 pickK t83 t87 (.bool false) fun t88 =>
 K15 t88 w) (
 K15 undef w)
def n7c16 (t4 t7 t8 t9 t79 t83:Value) (next2:List Deferred→Value→World→Prop) (ds:List Deferred) (R:RT) (w:World):Prop :=
 joinK (fun (t87:Value) (w:World) =>
 n7c15 t4 t8 t79 t83 t87 next2 ds R w) fun K14 =>
 guardP t83 true (
 opV Pg (Instr.loadAt 3 t9) (outQ Pg ds [(some 4,t4)] R) w fun t84 w =>
 opV Pg (Instr.loadAt 45 t7) (outQ Pg ds [(some 4,t4)] R) w fun t85 w =>
 opV Pg (Builtin.len_ #[45] 3 #[t85]) (outQ Pg ds [(some 4,t4)] R) w fun t86 w =>
 opV Pg (binS .neq 3 false t84 t86) (outQ Pg ds [(some 4,t4)] R) w fun t87 w =>
 K14 t87 w) (
 K14 undef w)
def n7c17 (t4 t7 t8 t9 t70 t78:Value) (next2:List Deferred→Value→World→Prop) (ds:List Deferred) (R:RT) (w:World):Prop :=
 pickK t70 t78 (.bool false) fun t79 =>
 joinK (fun (t83:Value) (w:World) =>
 n7c16 t4 t7 t8 t9 t79 t83 next2 ds R w) fun K13 =>
 guardP t79 false (
 opV Pg (Instr.loadAt 3 t8) (outQ Pg ds [(some 4,t4)] R) w fun t81 w =>
 opV Pg (binS .eql 3 true t81 (.int .i64 1)) (outQ Pg ds [(some 4,t4)] R) w fun t82 w =>
 K13 t82 w) (
 K13 undef w)
def n7c18 (t3 t4 t7 t9:Value) (K12:KV) (ds:List Deferred) (R:RT) (w:World):Prop :=
 opV Pg (Instr.loadAt 3 t9) (outQ Pg ds [(some 4,t4)] R) w fun t72 w =>
 opV Pg (Instr.loadAt 45 t7) (outQ Pg ds [(some 4,t4)] R) w fun t73 w =>
 opV Pg (Builtin.len_ #[45] 3 #[t73]) (outQ Pg ds [(some 4,t4)] R) w fun t74 w =>
 opV Pg (Instr.loadAt 3 t3) (outQ Pg ds [(some 4,t4)] R) w fun t75 w =>
 opV Pg (Builtin.max_ #[3,3] 3 #[(.int .i64 1),t75]) (outQ Pg ds [(some 4,t4)] R) w fun t76 w =>
 opV Pg (Builtin.min_ #[3,3] 3 #[t74,t76]) (outQ Pg ds [(some 4,t4)] R) w fun t77 w =>
 opV Pg (binS .neq 3 false t72 t77) (outQ Pg ds [(some 4,t4)] R) w fun t78 w =>
 K12 t78 w
def n7c19 (t3 t4 t7 t8 t9:Value) (next2:List Deferred→Value→World→Prop) (ds:List Deferred) (R:RT) (w:World):Prop :=
 opV Pg (Instr.loadAt 3 t8) (outQ Pg ds [(some 4,t4)] R) w fun t69 w =>
 opV Pg (binS .eql 3 true t69 (.int .i64 0)) (outQ Pg ds [(some 4,t4)] R) w fun t70 w =>
 joinK (fun (t78:Value) (w:World) =>
 n7c17 t4 t7 t8 t9 t70 t78 next2 ds R w) fun K12 =>
 guardP t70 true (
 n7c18 t3 t4 t7 t9 K12 ds R w) (
 K12 undef w)
def n7c20 (t4:Value) (ds:List Deferred) (R:RT) (w:World):Prop :=
 callK Pg 11 #[] (outQ Pg ds [(some 4,t4)] R) w fun t91 w =>
 opU Pg (Instr.storeAt 4 t4 t91) (outQ Pg ds [(some 4,t4)] R) w fun w =>
 outX Pg ds [(some 4,t4)] R w
def n7c21 (t3 t4 t7 t8 t19:Value) (next2:List Deferred→Value→World→Prop) (ds:List Deferred) (R:RT) (w:World):Prop :=
 opV Pg (Instr.alloc 3 true (.tuple #[])) (outQ Pg ds [(some 4,t4)] R) w fun t9 w =>
 opU Pg (Instr.storeAt 3 t9 (.int .i64 0)) (outQ Pg ds [(some 4,t4)] R) w fun w =>
 Sw.rangeN7 Pg t19 ds (fun l3 t33 t34 w Kr3 Xr3 Qr3 =>
 n7c5 t3 t4 t7 t8 t9 t33 t34 Kr3 Qr3 Xr3 l3 R w) (fun ch ds w=>outQ Pg ds [(some 4,t4)] R ch w) w (fun ds w =>
 n7c12 t3 t4 t7 t8 t9 next2 ds R w) [fun ds w =>
 outX Pg ds [(some 4,t4)] R w,fun ds w =>
 n7c19 t3 t4 t7 t8 t9 next2 ds R w]
def n7c22 (t3 t4 t7 t8 t19:Value) (next2:List Deferred→Value→World→Prop) (ds:List Deferred) (R:RT) (w:World):Prop :=
 opV Pg (Instr.loadAt 3 t8) (outQ Pg ds [(some 4,t4)] R) w fun t28 w =>
 opV Pg (binS .lss 3 true t28 (.int .i64 2)) (outQ Pg ds [(some 4,t4)] R) w fun t29 w =>
 condP t29 (
 n7c21 t3 t4 t7 t8 t19 next2 ds R w) (
 n7c20 t4 ds R w)
def n7c23 (t3 t4 t7 t19:Value) (ds:List Deferred) (R:RT) (w:World):Prop :=
 opV Pg (Instr.alloc 3 true (.tuple #[])) (outQ Pg ds [(some 4,t4)] R) w fun t8 w =>
 opU Pg (Instr.storeAt 3 t8 (.int .i64 0)) (outQ Pg ds [(some 4,t4)] R) w fun w =>
 loopM1 (fun ds t8 w next2 =>
 n7c22 t3 t4 t7 t8 t19 next2 ds R w) ds t8 w
def n7c24 (t2 t4 t7:Value) (K1:World→Prop) (ds:List Deferred) (R:RT) (w:World):Prop :=
 opV Pg (Instr.loadAt 26 t2) (outQ Pg ds [(some 4,t4)] R) w fun t26 w =>
 callK Pg 24 #[t26,(.string { data := #[] })] (outQ Pg ds [(some 4,t4)] R) w fun t27 w =>
 opU Pg (Instr.storeAt 45 t7 t27) (outQ Pg ds [(some 4,t4)] R) w fun w =>
 K1 w
def n7c25 (t2 t3 t4 t19:Value) (ds:List Deferred) (R:RT) (w:World):Prop :=
 opV Pg (Instr.alloc 45 true (.tuple #[])) (outQ Pg ds [(some 4,t4)] R) w fun t7 w =>
 opV Pg (Instr.loadAt 26 t2) (outQ Pg ds [(some 4,t4)] R) w fun t24 w =>
 callK Pg 23 #[t24] (outQ Pg ds [(some 4,t4)] R) w fun t25 w =>
 joinK (fun (w:World) =>
 n7c23 t3 t4 t7 t19 ds R w) fun K1 =>
 condP t25 (
 n7c24 t2 t4 t7 K1 ds R w) (
 K1 w)
def n7c26 (t2 t3 t4 t5 t19:Value) (ds:List Deferred) (R:RT) (w:World):Prop :=
 opV Pg (Instr.loadAt 26 t5) (outQ Pg ds [(some 4,t4)] R) w fun t22 w =>
 callK Pg 17 #[t22] (outQ Pg ds [(some 4,t4)] R) w fun t23 w =>
 n7c25 t2 t3 t4 t19 ds R w
def n7c27 (t2 t3 t4 t5 t19:Value) (ds:List Deferred) (R:RT) (w:World):Prop :=
 opV Pg (binS .eql 43 true t19 .nilFunc) (outQ Pg ds [(some 4,t4)] R) w fun t21 w =>
 condP t21 (
 opU Pg (Instr.storeAt 4 t4 (.bool false)) (outQ Pg ds [(some 4,t4)] R) w fun w =>
 outX Pg ds [(some 4,t4)] R w) (
 n7c26 t2 t3 t4 t5 t19 ds R w)
def n7c28 (t2 t3 t4 t17:Value) (ds:List Deferred) (R:RT) (w:World):Prop :=
 opV Pg (Instr.alloc 26 true (.tuple #[])) (outQ Pg ds [(some 4,t4)] R) w fun t5 w =>
 opU Pg (Instr.storeAt 26 t5 t17) (outQ Pg ds [(some 4,t4)] R) w fun w =>
 opV Pg (Instr.loadAt 26 t5) (outQ Pg ds [(some 4,t4)] R) w fun t18 w =>
 callK Pg 22 #[t18] (outQ Pg ds [(some 4,t4)] R) w fun t19 w =>
 n7c27 t2 t3 t4 t5 t19 ds R w
def n7c29 (t4:Value) (ds:List Deferred) (R:RT) (w:World):Prop :=
 callK Pg 11 #[] (outQ Pg ds [(some 4,t4)] R) w fun t15 w =>
 opU Pg (Instr.storeAt 4 t4 t15) (outQ Pg ds [(some 4,t4)] R) w fun w =>
 outX Pg ds [(some 4,t4)] R w
def n7c30 (t2 t3 t4:Value) (ds:List Deferred) (R:RT) (w:World):Prop :=
 opV Pg (Instr.loadAt 26 t2) (outQ Pg ds [(some 4,t4)] R) w fun t16 w =>
 callK Pg 16 #[t16] (outQ Pg ds [(some 4,t4)] R) w fun t17 w =>
 n7c28 t2 t3 t4 t17 ds R w
def n7c31 (t2 t3 t4 t13:Value) (ds:List Deferred) (R:RT) (w:World):Prop :=
 opV Pg (Op.unary .not t13) (outQ Pg ds [(some 4,t4)] R) w fun t14 w =>
 condP t14 (
 n7c29 t4 ds R w) (
 n7c30 t2 t3 t4 ds R w)
def n7 (t0 t1:Value) (R:RT) (w:World):Prop :=
 (fun (ds:List Deferred) =>
 opV Pg (Instr.box 26 t0) (outQ Pg ds [(some 4,undef)] R) w fun t2 w =>
 opV Pg (Instr.box 3 t1) (outQ Pg ds [(some 4,undef)] R) w fun t3 w =>
 opV Pg (Instr.alloc 4 true (.tuple #[])) (outQ Pg ds [(some 4,undef)] R) w fun t4 w =>
 opV Pg (Instr.loadAt 26 t2) (outQ Pg ds [(some 4,t4)] R) w fun t12 w =>
 callK Pg 10 #[t12] (outQ Pg ds [(some 4,t4)] R) w fun t13 w =>
 n7c31 t2 t3 t4 t13 ds R w) []
set_option maxHeartbeats 40000000 in
theorem n7s {t0 t1:Value} {R:RT} {w:World} (h:n7 t0 t1 R w):Calls Pg 6 #[t0,t1] w R:=by
 refine yE Tryz.func6 ?_
 unfold n7 at h
 dsimp only at h
 refine zs<|zr<|yv h fun _ w h=>yv h fun _ w h=>yv h fun _ w h=>zn<|zk<|zs<|zs<|zr<|yv h fun _ w h=>yc h c10 fun _ w h=>yv h fun _ w h=>zn<|zk ?_
 refine yC h (fun h=>zs<|zr<|yc h c11 fun _ w h=>yu h fun w h=>zn<|zk<|sim_ret<|sim_then_ret<|bodyM_ret rfl h) fun h=>sim_skip<|zk<|zs<|zr<|yv h fun _ w h=>yc h c16 fun _ w h=>yv h fun _ w h=>yu h fun w h=>zn<|zk<|zs<|zr<|yv h fun _ w h=>?_
 refine yc h c22 fun _ w h=>zm<|zn<|zk<|zs<|zs<|zr<|zm<|yb h fun _ w h=>zn<|zk<|yC h (fun h=>zs<|zr<|yu h fun w h=>zn<|zk<|sim_ret<|sim_then_ret<|bodyM_ret rfl h) fun h=>sim_skip<|zk ?_
 refine zs<|zr<|yv h fun _ w h=>yc h c17 fun _ w h=>zn<|zk<|zs<|zr<|yv h fun _ w h=>zn<|zk<|zs<|zs<|zr<|yv h fun _ w h=>?_
 refine yc h c23 fun _ w h=>zn<|zk<|yJ0 [26,27] h (fun _ _ hkK1 h=>?_) fun σ w h=>?_
 · refine yC h (fun h=>?_) fun h=>?_
   · refine zr<|yv h fun _ w h=>yc h c24 fun _ w h=>yu h fun w h=>zn<|zk ?_
     exact zt hkK1 h
   refine sim_skip<|zk ?_
   exact zt hkK1 h
 refine zk<|zs<|zs<|zr<|yv h fun _ w h=>yu h fun w h=>zn<|zk<|sim_block<|yL1 [8,9,28,29,30,31,32,69,70,71,72,73,74,75,76,77,78,79,80,81,82,83,84,85,86,87,88,89,90] 8 h fun σ ds w next h=>zs<|zs<|zr<|yv h fun _ w h=>yb h fun _ w h=>?_
 refine zn<|zk<|yC h (fun h=>?_) fun h=>?_
 · refine sim_skip<|zk<|zs<|sim_block<|zs<|zr<|yv h fun _ w h=>yu h fun w h=>zn<|zk<|zs<|zs<|zr<|zm<|zn ?_
   refine zk<|sim_block<|sim_range7 [.ret,.exit 2] h rfl (fun l3 t33 t34 w Kr3 Xr3 Qr3 h=>?_) (fun ds w h=>?_) (fun c ds w h=>?_) (fun ch ds w h=>outQ_of rfl h)
   · refine zs<|zr<|zm<|zn<|zk<|zr<|yv h fun _ w h=>yu h fun w h=>zn<|zk ?_
     obtain ⟨hr,h⟩:=h
     refine ⟨rfl,hr,fun w hb=>?_⟩
     have h:=h w hb
     refine sim_block<|zs<|zs<|yh [35,36,37,38,39,40,41,42,43,44,45,46,47,48,49,50,51,52,53,54,55,56,57] h fun C hC h=>ye 0 hC h fun _ h=>?_
     refine ye 1 hC h fun _ h=>?_
     refine ye 2 hC h fun _ h=>?_
     refine ye 3 hC h fun _ h=>?_
     refine yw 4 hC ?_
     refine yj1 11 [11,10,9,8,7,6,5,4,3,2,1,0] [40,41,42,43,44,45,46] 46 h (fun _ hT hb h=>?_) (fun _ hT hb h=>?_) fun σ w hC h=>?_
     · refine yw 5 hC ?_
       refine ye 6 hC h fun _ h=>?_
       refine ye 7 hC h fun _ h=>?_
       refine ye 8 hC h fun _ h=>?_
       refine ye 9 hC h fun _ h=>?_
       refine ye 10 hC h fun _ h=>?_
       refine ye 11 hC h fun _ h=>?_
       exact yt hT hC h
     · refine yi 5 hC ?_
       refine yi 6 hC ?_
       refine yi 7 hC ?_
       refine yi 8 hC ?_
       refine yi 9 hC ?_
       refine yi 10 hC ?_
       refine yi 11 hC ?_
       exact yt hT hC h
     refine yP 12 hC h fun _ h=>?_
     refine yw 13 hC ?_
     refine yj1 1 [21,20,19,18,17,16,15,14,13,12,11,10,9,8,7,6,5,4,3,2,1,0] [49,50,51,52,53,54,55,56] 56 h (fun _ hT hb h=>?_) (fun _ hT hb h=>?_) fun σ w hC h=>?_
     · refine ye 14 hC h fun _ h=>?_
       refine ye 15 hC h fun _ h=>?_
       refine ye 16 hC h fun _ h=>?_
       refine ye 17 hC h fun _ h=>?_
       refine ye 18 hC h fun _ h=>?_
       refine ye 19 hC h fun _ h=>?_
       refine yo 20 ?_
       refine yc h c13 fun _ w h=>zn ?_
       obtain ⟨hC,h⟩:=h
       refine ⟨hC,?_⟩
       refine ye 21 hC h fun _ h=>?_
       exact yt hT hC h
     · refine yi 14 hC ?_
       refine yi 15 hC ?_
       refine yi 16 hC ?_
       refine yi 17 hC ?_
       refine yi 18 hC ?_
       refine yi 19 hC ?_
       refine yi 20 hC ?_
       refine yi 21 hC ?_
       exact yt hT hC h
     refine yP 22 hC h fun _ h=>?_
     refine yz<|zk<|yC h (fun h=>zs<|zr<|yu h fun w h=>zn<|zk<|sim_ret<|sim_then_ret<|sim_block_ret<|⟨rfl,0,rfl,h⟩) fun h=>sim_skip<|zk<|zs<|zr<|yv h fun _ w h=>yc h c17 fun _ w h=>zn<|zk<|zs<|zr<|yv h fun _ w h=>?_
     refine yb h fun _ w h=>yu h fun w h=>zn<|zk<|zs<|sim_regionG<|yG 3<|yv h fun _ w h=>yb h fun _ w h=>zm<|zn<|yg1 3 2 true [65,66,67] 67 h (fun _ T hT h=>?_) fun σ w h=>?_
     · refine yv h fun _ w h=>yv h fun _ w h=>yb h fun _ w h=>zn ?_
       exact zt hT h
     exact yG 1<|yp h fun _ h=>zn<|sim_end<|zk<|yC h (fun h=>sim_exit<|sim_block_miss rfl<|⟨rfl,1,rfl,h⟩) fun h=>sim_skip<|sim_block_normal<|⟨rfl,h⟩
   · refine sim_block_normal<|zk<|zs<|sim_regionG<|yG 3<|yv h fun _ w h=>yb h fun _ w h=>zm<|zn<|yg1 7 2 true [72,73,74,75,76,77,78] 78 h (fun _ T hT h=>?_) fun σ w h=>?_
     · refine yv h fun _ w h=>yv h fun _ w h=>yx h fun _ w h=>yv h fun _ w h=>yx h fun _ w h=>yx h fun _ w h=>yb h fun _ w h=>zn ?_
       exact zt hT h
     refine yG 2<|yp h fun _ h=>zm<|zn<|yg1 3 11 false [81,82,83] 83 h (fun _ T hT h=>?_) fun σ w h=>?_
     · refine yv h fun _ w h=>yb h fun _ w h=>zm<|zn ?_
       exact zt hT h
     refine yg1 4 14 true [84,85,86,87] 87 h (fun _ T hT h=>?_) fun σ w h=>?_
     · refine yv h fun _ w h=>yv h fun _ w h=>yx h fun _ w h=>yb h fun _ w h=>zn ?_
       exact zt hT h
     refine yg1 1 11 false [88] 88 h (fun _ T hT h=>?_) fun σ w h=>?_
     · refine yp h fun _ h=>zn ?_
       exact zt hT h
     refine yG 1<|yp h fun _ h=>zn<|sim_end<|zk<|yC h (fun h=>zs<|zr<|yu h fun w h=>zn<|zk<|sim_ret<|sim_block_ret<|sim_then_ret<|sim_then_ret<|sim_block_ret<|sim_then_ret<|bodyM_ret rfl h) fun h=>sim_skip<|sim_block_normal<|zk<|zs<|zs<|zr<|yv h fun _ w h=>zn ?_
     exact zk<|zr<|yv h fun _ w h=>yu h fun w h=>zn<|zk<|zr<|yv h fun _ w h=>yb h fun _ w h=>yu h fun w h=>zn<|zk<|h
   rcases c with _ | c
   · refine ⟨_,rfl,.inl ⟨rfl,?_⟩⟩
     exact sim_block_ret<|sim_then_ret<|sim_block_ret<|sim_then_ret<|sim_then_ret<|sim_block_ret<|sim_then_ret<|bodyM_ret rfl h
   rcases c with _ | c
   · refine ⟨_,rfl,.inr ⟨_,rfl,?_⟩⟩
     refine sim_block_hit<|zk<|zs<|sim_regionG<|yG 3<|yv h fun _ w h=>yb h fun _ w h=>zm<|zn<|yg1 7 2 true [72,73,74,75,76,77,78] 78 h (fun _ T hT h=>?_) fun σ w h=>?_
     · refine yv h fun _ w h=>yv h fun _ w h=>yx h fun _ w h=>yv h fun _ w h=>yx h fun _ w h=>yx h fun _ w h=>yb h fun _ w h=>zn ?_
       exact zt hT h
     refine yG 2<|yp h fun _ h=>zm<|zn<|yg1 3 11 false [81,82,83] 83 h (fun _ T hT h=>?_) fun σ w h=>?_
     · refine yv h fun _ w h=>yb h fun _ w h=>zm<|zn ?_
       exact zt hT h
     refine yg1 4 14 true [84,85,86,87] 87 h (fun _ T hT h=>?_) fun σ w h=>?_
     · refine yv h fun _ w h=>yv h fun _ w h=>yx h fun _ w h=>yb h fun _ w h=>zn ?_
       exact zt hT h
     refine yg1 1 11 false [88] 88 h (fun _ T hT h=>?_) fun σ w h=>?_
     · refine yp h fun _ h=>zn ?_
       exact zt hT h
     refine yG 1<|yp h fun _ h=>zn<|sim_end<|zk<|yC h (fun h=>zs<|zr<|yu h fun w h=>zn<|zk<|sim_ret<|sim_block_ret<|sim_then_ret<|sim_then_ret<|sim_block_ret<|sim_then_ret<|bodyM_ret rfl h) fun h=>sim_skip<|sim_block_normal<|zk<|zs<|zs<|zr<|yv h fun _ w h=>zn ?_
     exact zk<|zr<|yv h fun _ w h=>yu h fun w h=>zn<|zk<|zr<|yv h fun _ w h=>yb h fun _ w h=>yu h fun w h=>zn<|zk<|h
   exact h.elim
 exact sim_exit<|sim_then_exit<|sim_then_exit<|sim_block_hit<|zk<|zs<|zr<|yc h c11 fun _ w h=>yu h fun w h=>zn<|zk<|sim_ret<|bodyM_ret rfl h
end Go.Proofs.YtcffhmapmaahnaaGreatDoor
