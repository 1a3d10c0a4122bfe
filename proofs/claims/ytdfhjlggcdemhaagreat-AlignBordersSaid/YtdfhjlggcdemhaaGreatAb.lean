/-
  phrasebooklaw14.AlignBorders returns true for every definition, every number of bits and every position, and leaves its arguments as they were; no condition is asked.
-/
import Derived.Test.YtdfhjlggcdemhaaGreatAb4
set_option linter.all false
set_option maxHeartbeats 4000000
set_option maxRecDepth 100000
namespace Go.Proofs.YtdfhjlggcdemhaaGreat
open Sw
open Go.RowKit (intOf Below)
variable {R:RT}
def turnA (a:Value) (w:World):Nat:=match a with
 | .pointer (some p)=>(match w.cell? p with
  | some (.int _ t)=>(2 - t).toNat
  | _=>0)
 | _=>0
theorem yie_after1 {w2:World} {p6 p7 p8 p10 p11:Nat} {many:Int} {t k n:Nat} {A:Option Addr} {cc:Nat} {ds:List Deferred} {next1:List Deferred→Value→World→Prop} (x6:w2.heap[p6]?=some (.cells #[.int .i64 many] 3 (0,0))) (x7:w2.heap[p7]?=some (.cells #[.slice A n cc] 48 (0,0))) (y10:w2.heap[p10]?=some (.cells #[.int .i64 (t:Int)] 3 (0,0))) (y11:w2.heap[p11]?=some (.cells #[.int .i64 (k:Int)] 3 (0,0)))
 (ht:t < 2) (h0:t=0→(k:Int)=min (n:Int) (max 1 many)) (h1:t=1→k=n) (hn:∀ w',w2.heap.size < w'.heap.size→w'.heap[w2.heap.size]?=some (.cells #[.int .i64 ((t+1:Nat):Int)] 3 (0,0))→Ext w2 w'→next1 ds (.pointer (some ⟨w2.heap.size,0,none⟩)) w') :
 n31c9 (.pointer (some ⟨p6,0,none⟩)) (.pointer (some ⟨p7,0,none⟩)) (.pointer (some ⟨p8,0,none⟩)) (.pointer (some ⟨p10,0,none⟩)) (.pointer (some ⟨p11,0,none⟩)) next1 ds R w2:=by
 have fin:n31c4 (.pointer (some ⟨p8,0,none⟩)) (.pointer (some ⟨p10,0,none⟩)) next1 ds R w2:=by
  unfold n31c4
  simp (disch:=try exact DI) only [↓PR,QR,simprocAttr,(cells_of_heap y10).1]
  exact hn _ (by simp only [World.size_alloc];omega) (by simpa using heap_new w2 #[.int .i64 ((t+1:Nat):Int)] 3) ee
 unfold n31c9
 have hcase:t=0∨t=1:=by omega
 rcases hcase with rfl | rfl
 · have hm:(if (if many > 1 then many else 1) < (n:Int) then (if many > 1 then many else 1) else (n:Int))=(k:Int):=by
    rw [h0 rfl]
    split<;>split<;>omega
   have d0:((((0:Nat):Int)) == 0)=true:=rfl
   have d1:((((0:Nat):Int)) == 1)=false:=rfl
   have dk:((k:Int) != (k:Int))=false:=by simp
   simp (disch:=try exact DI) only [↓PR,QR,simprocAttr,(cells_of_heap y10).1,d0,(cells_of_heap y11).1,(cells_of_heap x7).1,(cells_of_heap x6).1,hm,dk,d1,↓n31c8,↓n31c7,↓n31c6,↓n31c5]
   exact fin
 · have d0:((((1:Nat):Int)) == 0)=false:=rfl
   have d1:((((1:Nat):Int)) == 1)=true:=rfl
   have dk:((k:Int) != (n:Int))=false:=by rw [h1 rfl];simp
   simp (disch:=try exact DI) only [↓PR,QR,simprocAttr,(cells_of_heap y10).1,d0,d1,(cells_of_heap y11).1,(cells_of_heap x7).1,dk,↓n31c8,↓n31c7,↓n31c6,↓n31c5]
   exact fin
theorem yie_after2 {w2:World} {p6 p7 p8 p10 p11:Nat} {many:Int} {t k n:Nat} {A:Option Addr} {cc:Nat} {ds:List Deferred} {next1:List Deferred→Value→World→Prop} (x6:w2.heap[p6]?=some (.cells #[.int .i64 many] 3 (0,0))) (x7:w2.heap[p7]?=some (.cells #[.slice A n cc] 48 (0,0))) (y10:w2.heap[p10]?=some (.cells #[.int .i64 (t:Int)] 3 (0,0))) (y11:w2.heap[p11]?=some (.cells #[.int .i64 (k:Int)] 3 (0,0)))
 (ht:t < 2) (h0:t=0→(k:Int)=min (n:Int) (max 1 many)) (h1:t=1→k=n) (hn:∀ w',w2.heap.size < w'.heap.size→w'.heap[w2.heap.size]?=some (.cells #[.int .i64 ((t+1:Nat):Int)] 3 (0,0))→Ext w2 w'→next1 ds (.pointer (some ⟨w2.heap.size,0,none⟩)) w') :
 n31c16 (.pointer (some ⟨p6,0,none⟩)) (.pointer (some ⟨p7,0,none⟩)) (.pointer (some ⟨p8,0,none⟩)) (.pointer (some ⟨p10,0,none⟩)) (.pointer (some ⟨p11,0,none⟩)) next1 ds R w2:=by
 have fin:n31c10 (.pointer (some ⟨p8,0,none⟩)) (.pointer (some ⟨p10,0,none⟩)) next1 ds R w2:=by
  unfold n31c10
  simp (disch:=try exact DI) only [↓PR,QR,simprocAttr,(cells_of_heap y10).1]
  exact hn _ (by simp only [World.size_alloc];omega) (by simpa using heap_new w2 #[.int .i64 ((t+1:Nat):Int)] 3) ee
 unfold n31c16
 have hcase:t=0∨t=1:=by omega
 rcases hcase with rfl | rfl
 · have hm:(if (if many > 1 then many else 1) < (n:Int) then (if many > 1 then many else 1) else (n:Int))=(k:Int):=by
    rw [h0 rfl]
    split<;>split<;>omega
   have d0:((((0:Nat):Int)) == 0)=true:=rfl
   have d1:((((0:Nat):Int)) == 1)=false:=rfl
   have dk:((k:Int) != (k:Int))=false:=by simp
   simp (disch:=try exact DI) only [↓PR,QR,simprocAttr,(cells_of_heap y10).1,d0,(cells_of_heap y11).1,(cells_of_heap x7).1,(cells_of_heap x6).1,hm,dk,d1,↓n31c15,↓n31c14,↓n31c13,↓n31c12,↓n31c11]
   exact fin
 · have d0:((((1:Nat):Int)) == 0)=false:=rfl
   have d1:((((1:Nat):Int)) == 1)=true:=rfl
   have dk:((k:Int) != (n:Int))=false:=by rw [h1 rfl];simp
   simp (disch:=try exact DI) only [↓PR,QR,simprocAttr,(cells_of_heap y10).1,d0,d1,(cells_of_heap y11).1,(cells_of_heap x7).1,dk,↓n31c15,↓n31c14,↓n31c13,↓n31c12,↓n31c11]
   exact fin
theorem yields_ret (w0:World) (v:Value) (d:DefD) (i many:Int) (wv:Value) (hd:DefVal w0 v d) (ht:calm d) (hL:SliceOf w0 1 EInt wv (offsL (msgL d i))):Ret Pg 29 #[v,.int .i64 i,.int .i64 many,wv] w0 fun r w'=>r = .bool true∧Ext w0 w':=by
 obtain ⟨mv,rfl,hM⟩:=hd
 have hm1:=SliceOf.oneCell hM
 have hw1:=SliceOf.oneCell hL
 obtain ⟨hokM,hlen⟩ := @msgL_ok d i
 refine n31s (R:=retR _) ?_;unfold n31
 simp (disch:=try exact DI) only [↓PR,QR,simprocAttr]
 simp only [World.size_alloc,cells_one hw1]
 generalize hW:World.alloc (World.alloc (World.alloc (World.alloc w0 _) _) _) _=W
 have e0:Ext w0 W:=by rw [← hW];exact ee
 have o6:W.heap[w0.heap.size+1]?=some (.cells #[.int .i64 many] 3 (0,0)):=by rw [← hW];simp (disch:=try exact DI) only [↓PR,QR,simprocAttr]
 have o7:W.heap[w0.heap.size+1+1]?=some (.cells #[wv] 48 (0,0)):=by rw [← hW];simp (disch:=try exact DI) only [↓PR,QR,simprocAttr]
 have o8:W.heap[w0.heap.size+1+1+1]?=some (.cells #[.bool false] 4 (0,0)):=by rw [← hW];simp (disch:=try exact DI) only [↓PR,QR,simprocAttr]
 clear hW
 generalize hp6:w0.heap.size+1=p6 at *
 generalize hp7:p6+1=p7 at *
 generalize hp8:p7+1=p8 at *
 refine callK_ret (Offsets_ret _ d i ⟨_,rfl,hM.ext e0⟩ ht) ?_
 rintro _ w1 ⟨p5,rfl,⟨w1',ea,hIt,eb⟩,e1⟩
 obtain ⟨fv,hOff⟩:=hIt.off
 have E1:=e0.trans e1
 have x6:=e1.obj o6
 have x7:=e1.obj o7
 have x8:=e1.obj o8
 have hL1:=hL.ext keptInt E1
 generalize msgL d i=l at hOff hL1 hokM hlen
 clear hIt o6 o7 o8 hL
 obtain ⟨A,cc,rfl,hlc,hcm,hlm,hel⟩:=SliceOf.open hL1
 rw [offsL_len] at *
 unfold n31c20
 simp (disch:=try exact DI) only [↓PR,QR,simprocAttr]
 unfold n31c19
 simp (disch:=try exact DI) only [↓PR,QR,simprocAttr]
 have l8:=(Array.getElem?_eq_some_iff.1 x8).1
 have o10:=heap_new w1 #[.int .i64 0] 3
 have eX:Ext w1 (w1.alloc (Obj.cells #[.int .i64 0] 3)):=ee
 generalize (w1.alloc (Obj.cells #[.int .i64 0] 3))=X at o10 eX ⊢
 refine loopM1_intro (fun ds a w'=>∃ (p10:Nat) (t:Nat),a = .pointer (some ⟨p10,0,none⟩)∧t≤2∧w1.heap.size≤p10∧w'.heap[p10]?=some (.cells #[.int .i64 (t:Int)] 3 (0,0))∧Ext w1 w'∧(∃ bs:List Nat,ds=bs.map Sw.mark∧bs.Nodup∧∀ b∈bs,MarkAt b w'∧w1.heap.size≤b)) turnA ⟨w1.heap.size,0,rfl,by omega,Nat.le_refl _,o10,eX,[],rfl,by simp,by simp⟩ ?_
 rintro ds _ w2 ⟨p10,t,rfl,ht2,hp10,y10,e2,bs,rfl,hnd,hbs⟩
 have hcw:∀ (w':World) (p u:Nat),w'.heap[p]?=some (.cells #[.int .i64 (u:Int)] 3 (0,0))→turnA (.pointer (some ⟨p,0,none⟩)) w'=2 - u:=by
  intro w' p u h
  unfold turnA
  simp only
  rw [(cells_of_heap h).1 0]
  show ((2:Int) - (u:Int)).toNat=2 - u
  omega
 unfold n31c18
 by_cases ht:t < 2
 · have dt:decide ((t:Int) < 2)=true:=by simp;omega
   simp (disch:=try exact DI) only [↓PR,QR,simprocAttr,(cells_of_heap y10).1,dt]
   unfold n31c17
   simp (disch:=try exact DI) only [↓PR,QR,simprocAttr]
   have l10:p10 < w2.heap.size:=(Array.getElem?_eq_some_iff.1 y10).1
   have eB:Ext w2 (w2.alloc (Obj.cells #[.int .i64 0] 3)):=ee
   have o11:=heap_new w2 #[.int .i64 0] 3
   have hs3:(w2.alloc (Obj.cells #[.int .i64 0] 3)).heap.size=w2.heap.size+1:=by simp only [World.size_alloc]
   generalize hp11:w2.heap.size=p11 at o11 hs3 ⊢
   generalize (w2.alloc (Obj.cells #[.int .i64 0] 3))=w3 at eB o11 hs3 ⊢
   have s2:=e2.size
   let I:Nat→World→Prop:=fun k w'=>Ext w1 w'∧(∀ b∈bs,MarkAt b w')∧w'.heap[p10]?=some (.cells #[.int .i64 (t:Int)] 3 (0,0))∧w'.heap[p11]?=some (.cells #[.int .i64 (k:Int)] 3 (0,0))∧(t=0→k=0∨(k:Int) < many)
   let Ix:Nat→World→Prop:=fun c w'=>c=1∧Ext w1 w'∧(∀ b∈bs,MarkAt b w')∧w'.heap[p10]?=some (.cells #[.int .i64 (t:Int)] 3 (0,0))∧∃ k:Nat,w'.heap[p11]?=some (.cells #[.int .i64 (k:Int)] 3 (0,0))∧t=0∧(k:Int)=min (l.length:Int) (max 1 many)
   have hmk:Lasts2 w3.heap.size (fun w=>∀ b∈bs,MarkAt b w):=lasts2_marks fun b hb=>by have:=(Array.getElem?_eq_some_iff.1 (hbs b hb).1).1;omega
   have hLI:∀ k,Lasts2 w3.heap.size (I k):=fun k=>(Lasts2.from (by omega)).and (hmk.and ((Lasts2.has _ (by simp) (by simp)).and ((Lasts2.has _ (by simp) (by simp)).and (Lasts2.const _ _))))
   have hLX:∀ k,Lasts2 w3.heap.size (Ix k):=fun k=>(Lasts2.const _ _).and ((Lasts2.from (by omega)).and (hmk.and ((Lasts2.has _ (by simp) (by simp)).and (.ex fun k=>(Lasts2.has _ (by simp) (by simp)).and (Lasts2.const _ _)))))
   have hfin:∀ (w4:World),Ext w1 w4→(∀ b∈bs,MarkAt b w4)→MarkAt w3.heap.size w4→∀ w5,w4.heap.size < w5.heap.size→w5.heap[w4.heap.size]?=some (.cells #[.int .i64 ((t+1:Nat):Int)] 3 (0,0))→Ext w4 w5 →
    (∃ (p10:Nat) (t':Nat),Value.pointer (some ⟨w4.heap.size,0,none⟩) = .pointer (some ⟨p10,0,none⟩)∧t'≤2∧w1.heap.size≤p10∧w5.heap[p10]?=some (.cells #[.int .i64 (t':Int)] 3 (0,0))∧Ext w1 w5∧(∃ bs':List Nat,(Sw.mark w3.heap.size::bs.map Sw.mark)=bs'.map Sw.mark∧bs'.Nodup∧∀ b∈bs',MarkAt b w5∧w1.heap.size≤b)) ∧
    turnA (.pointer (some ⟨w4.heap.size,0,none⟩)) w5 < turnA (.pointer (some ⟨p10,0,none⟩)) w2:=by
    intro w4 e4 hm4 hmk w5 hlt5 h5 e5
    have s4:=e4.size
    refine ⟨⟨w4.heap.size,t+1,rfl,by omega,by omega,h5,e4.trans e5,w3.heap.size::bs,rfl,List.nodup_cons.2 ⟨fun hin=>?_,hnd⟩,fun b hb=>?_⟩,?_⟩
    · have:=(Array.getElem?_eq_some_iff.1 (hbs _ hin).1).1
      omega
    · rcases List.mem_cons.1 hb with rfl | hb
      · exact ⟨hmk.ext e5,by omega⟩
      · exact ⟨(hm4 b hb).ext e5,(hbs b hb).2⟩
    · rw [hcw w5 _ (t+1) h5,hcw w2 p10 t y10];omega
   refine ⟨_,_,l.length,(fun k => .int .i64 k),(fun k => .int .i64 (endO (l.take k))),OffAt p5 fv l,I,Ix,fun _ _=>False,rfl,c57,Offsets_seq p5 fv l hokM.1,⟨e2.trans eB,fun b hb=>(hbs b hb).1.ext eB,eB.obj y10,o11,fun _ => .inl rfl⟩,fun k w' h=>hOff.ext h.1,hLI,hLX,fun _=>Lasts2.const _ _,?_,?_,?_,?_⟩
   · intro Rk hRk j w4 hj hI4 hR4 hlt hready
     refine ⟨hready,fun w5 hbz=>?_⟩
     have hR5:=hRk _ _ (KR.busied hbz) hR4
     obtain ⟨e5,hm5,q10,q11,hjm⟩:=(hLI j).busied hbz (Nat.le_succ _) hI4
     obtain ⟨b,o,cs,rfl,_,hE,hcs⟩:=hel j _ (offsL_get hj)
     subst hcs
     have hge:decide ((j:Int)≥(l.length:Int))=false:=by simp;omega
     have hjj:((j:Int) != (j:Int))=false:=by simp
     have hss:(endO (l.take j) != endO (l.take j))=false:=by simp
     unfold n31c3
     simp (disch:=try exact DI) only [↓PR,QR,simprocAttr,(cells_of_heap q11).1,(cells_of_heap (e5.obj x7)).1,hge,hjj,hE.c1 e5,hss,↓n31c2]
     unfold n31c1
     have hw:IntKind.i64.wrap ((j:Int)+1)=((j+1:Nat):Int):=by rw [wrap_ok (by omega) (by omega)];omega
     have r11:(w5.setCell ⟨p11,0,none⟩ (.int .i64 ((j+1:Nat):Int))).heap[p11]?=some (.cells #[.int .i64 ((j+1:Nat):Int)] 3 (0,0)):=by simpa using heap_set (o:=0) q11 (.int .i64 ((j+1:Nat):Int))
     have r10:=(Only.setCell w5 p11 0 (.int .i64 ((j+1:Nat):Int)) p10 (by omega)).trans q10
     have e6:Ext w1 (w5.setCell ⟨p11,0,none⟩ (.int .i64 ((j+1:Nat):Int))):=e5.setCell (by show w1.heap.size≤p11;omega) _
     have hm6:∀ b∈bs,MarkAt b (w5.setCell ⟨p11,0,none⟩ (.int .i64 ((j+1:Nat):Int))):=fun b hb=>(hm5 b hb).setCell _ _
     have hR6:=hRk _ _ (KR.setCell (KR.refl _ w5) p11 0 (.int .i64 ((j+1:Nat):Int)) (.inl (by omega))) hR5
     have x6':=e5.obj x6
     have hcase:t=0∨t=1:=by omega
     rcases hcase with ht0 | ht1
     · have d0:((t:Int) == 0)=true:=by rw [ht0];rfl
       by_cases hmy:((j+1:Nat):Int)≥many
       · have dm:decide (((j+1:Nat):Int)≥many)=true:=by simpa using hmy
         simp (disch:=try exact DI) only [↓PR,QR,simprocAttr,(cells_of_heap q11).1,(cells_of_heap q11).2,(cells_of_heap q10).1,d0,(cells_of_heap r11).1,(cells_of_heap x6').1,dm]
         refine ⟨hR6,rfl,e6,hm6,r10,j+1,r11,ht0,?_⟩
         have:=hjm ht0
         omega
       · have dm:decide (((j+1:Nat):Int)≥many)=false:=by simpa using hmy
         simp (disch:=try exact DI) only [↓PR,QR,simprocAttr,(cells_of_heap q11).1,(cells_of_heap q11).2,(cells_of_heap q10).1,d0,(cells_of_heap r11).1,(cells_of_heap x6').1,dm]
         exact ⟨hR6,e6,hm6,r10,r11,fun _ => .inr (by omega)⟩
     · have d0:((t:Int) == 0)=false:=by rw [ht1];rfl
       simp (disch:=try exact DI) only [↓PR,QR,simprocAttr,(cells_of_heap q11).1,(cells_of_heap q11).2,(cells_of_heap q10).1,d0]
       exact ⟨hR6,e6,hm6,r10,r11,fun h=>by omega⟩
   · rintro w4 ⟨e4,hm4,q10,q11,hjm⟩ hmk
     exact yie_after1 (e4.obj x6) (e4.obj x7) q10 q11 ht (fun h=>by have:=hjm h;omega) (fun _=>rfl) (hfin w4 e4 hm4 hmk)
   · rintro c w4 ⟨rfl,e4,hm4,q10,k,q11,ht0,hk⟩ hmk
     exact yie_after2 (e4.obj x6) (e4.obj x7) q10 q11 ht (fun _=>hk) (fun h=>by omega) (hfin w4 e4 hm4 hmk)
   · rintro ch w4 h
     exact h.elim
 · have dt:decide ((t:Int) < 2)=false:=by simp;omega
   have q8:=e2.obj x8
   simp (disch:=try exact DI) only [↓PR,QR,simprocAttr,(cells_of_heap y10).1,dt,(cells_of_heap q8).1,(cells_of_heap q8).2]
   have r8:(w2.setCell ⟨p8,0,none⟩ (.bool true)).heap[p8]?=some (.cells #[.bool true] 4 (0,0)):=by simpa using heap_set (o:=0) q8 (.bool true)
   refine outs_marks (w0:=w0) hnd (fun b hb=>⟨(hbs b hb).1.setCell _ _,by have:=(hbs b hb).2;have:=E1.size;omega⟩) ((E1.trans e2).setCell (by show w0.heap.size≤p8;omega) _) (fun w' e' hh=>?_)
   have z8:=hh _ _ has_nd r8
   simp (disch:=try exact DI) only [↓PR,QR,simprocAttr,outX_nil,retV,resOne,(cells_of_heap z8).1]
   exact ⟨by trivial,e'⟩
end Go.Proofs.YtdfhjlggcdemhaaGreat
namespace Go.Sw
open Go.ChangeShapes Go.WideShapes Go.RowKit Go.ChangeAt Go.Deep
theorem list_of {α:Type} {p:Nat→α→Prop}:∀ (n:Nat),(∀ i,i < n→∃ x,p i x)→∃ l:List α,l.length=n∧∀ k x,l[k]?=some x→p k x
 | 0,_=>⟨[],rfl,fun k x h=>by simp at h⟩
 | n+1,h=>by
  obtain ⟨l,hl,hp⟩:=list_of n (fun i hi=>h i (by omega))
  obtain ⟨x,hx⟩:=h n (by omega)
  refine ⟨l++[x],by simp [hl],fun k y hy=>?_⟩
  rw [List.getElem?_append] at hy
  split at hy
  · exact hp k y hy
  · have hk:k=n:=by
     have:=(List.getElem?_eq_some_iff.1 hy).1
     simp at this
     omega
    subst hk
    simp [hl] at hy
    subst hy
    exact hx
section
variable {H:Type} {enc:TypeId×Value→H} {P:Program} {w:World} {base:Nat} {spare:Nat→Bool} {held:Bool}
theorem weightsAll_mem {e:TypeId} {m:Nat} {d:DataW H}:∀ {l:List (DataW H)},d∈l→m∈d.weights P e→m∈DataW.weightsAll P e l
 | [],h,_=>by cases h
 | a::l,h,hm=>by
  rw [DataW.weightsAll,List.mem_append]
  rcases List.mem_cons.1 h with rfl | h
  · exact .inl hm
  · exact .inr (weightsAll_mem h hm)
def Reached (P:Program) (t:TypeId) (d:DataW H):Prop:=∀ m∈d.weights P t,m≤reachBytes
theorem reached_of {ts:List TypeId} {ds:List (DataW H)} (h:(DataW.weightsEach P ts ds).all (· ≤ reachBytes)=true) {j:Nat} {t:TypeId} {d:DataW H} (ht:ts[j]?=some t) (hd:ds[j]?=some d):Reached P t d:=fun m hm=>by
 have:=List.all_eq_true.1 h _ (DataW.weights_mem_each ht hd m hm)
 simpa using this
theorem slice_of_trod {α:Type} {E:World→List Value→α→Prop} {Q:α→Prop} {t e:TypeId} {n fuel:Nat} {cs:List Value} {x:DataW H×List MemPlace} (ht:P.underlying t=some (.slice e)) (hn:P.cellsOf e=n) (hb1:1≤P.bytesOf e) (h0:0 < n)
 (hE:∀ m cs' y,DataW.trod enc P w base spare held m e cs'=some y→Reached P e y.1→∃ x,E w cs' x∧Q x) (h:DataW.trod enc P w base spare held fuel t cs=some x) (hr:Reached P t x.1):∃ v l,cs=[v]∧SliceOf w n E v l∧(∀ x∈l,Q x)∧l.length≤140737488355328:=by
 rcases open_slice ht h with ⟨rfl,_⟩ | ⟨a,len,cap,m,k,D,Pl,rfl,hb,hl,hm,hmm,hx,hel⟩
 · exact ⟨_,[],rfl,SliceOf.nil _ _ _,fun x hx=>by (cases hx),Nat.zero_le _⟩
 · have hlm:len≤m:=by rw [hmm];split<;>omega
   subst hx
   have hw0:=hr ((len+(m - len))*P.bytesOf e) (by simp only [DataW.weights,ht];simp)
   have hlen:len≤140737488355328:=by
    have:len*1≤(len+(m - len))*P.bytesOf e:=Nat.mul_le_mul (by omega) hb1
    simp only [reachBytes] at hw0
    omega
   have hD:∀ i,i < len→Reached P e (D i):=fun i hi q hq=>hr q (by
    simp only [DataW.weights,ht,List.mem_cons,List.mem_append]
    exact .inr (.inl (weightsAll_mem (List.mem_map.2 ⟨i,List.mem_range.2 hi,rfl⟩) hq)))
   obtain ⟨l,hll,hp⟩:=list_of (p:=fun i (x:α)=>∃ cs',w.cells? base (a.add (i*n)) n=some cs'∧E w cs' x∧Q x) len (fun i hi=>by
    obtain ⟨cs',h1,h2⟩:=hel i (by omega)
    rw [hn] at h1
    obtain ⟨x,hx⟩:=hE _ _ _ h2 (hD i hi)
    exact ⟨x,cs',h1,hx⟩)
   refine ⟨_,l,rfl,⟨some a,cap,by rw [hll],by rw [hll];exact hl,by simp only [maxLen] at hm;omega,fun hne=>?_⟩,fun x hx=>?_,by omega⟩
   · obtain ⟨b,o,spot⟩:=a
     have hspot:spot=none:=by
      have:0 < l.length:=List.length_pos_iff.2 hne
      obtain ⟨y,hy⟩:=getElem?_lt this
      obtain ⟨cs',h1,_⟩:=hp 0 y hy
      obtain ⟨_,h2,h3⟩:=World.cells?_some h1
      have h4:=h3 0 h0
      rw [List.getElem?_eq_getElem (by omega)] at h4
      simpa [Addr.add] using World.cell?_spot h4
     subst hspot
     refine ⟨b,o,rfl,fun k x hx=>?_⟩
     obtain ⟨cs',h1,h2,_⟩:=hp k x hx
     obtain ⟨_,h3,h4⟩:=World.cells?_some h1
     refine ⟨cs',h3,fun j v hv=>?_,h2⟩
     have h5:=h4 j (by have:=(List.getElem?_eq_some_iff.1 hv).1;omega)
     rw [hv] at h5
     simpa [Addr.add_lit] using h5
   · obtain ⟨k,hk⟩:=List.getElem?_of_mem hx
     obtain ⟨_,_,_,hq⟩:=hp k x hk
     exact hq
theorem struct_of_trod {fs:Array Field} {t:TypeId} {n fuel:Nat} {cs:List Value} {x:DataW H×List MemPlace} (ht:P.underlying t=some (.struct fs)) (hn:P.cellsOf t=n) (h:DataW.trod enc P w base spare held fuel t cs=some x) (hr:Reached P t x.1) :
 cs.length=n∧∃ m,∀ (i:Nat) (ty off k:Nat),(fs[i]?).map (fun f=>(f.type,f.offset))=some (ty,off)→P.cellsOf ty=k→∃ y,DataW.trod enc P w base spare held m ty ((cs.drop off).take k)=some y∧Reached P ty y.1:=by
 obtain ⟨xs,m,_,rfl,hl,hlen,hf⟩:=DataW.trod_struct ht h
 refine ⟨hl.trans hn,m,fun i ty off k hi hk=>?_⟩
 obtain ⟨f,hfi,he⟩:=Option.map_eq_some_iff.1 hi
 injection he with h1 h2
 subst h1 h2 hk
 have hil:i < xs.length:=by rw [hlen];exact (Array.getElem?_eq_some_iff.1 hfi).1
 refine ⟨xs[i],(hf i f hfi).trans (List.getElem?_eq_getElem hil),fun q hq=>hr q ?_⟩
 simp only [DataW.weights,ht]
 refine DataW.weights_mem_each (j:=i) (t:=f.type) (d:=xs[i].1) ?_ ?_ q hq
 · rw [List.getElem?_map,Array.getElem?_toList,hfi];rfl
 · rw [List.getElem?_map,List.getElem?_eq_getElem hil];rfl
theorem trodAll_stays (hl:laidOutB P=true) {W W':World} (he:Ext W W'):∀ {ts:List TypeId} {vs:List Value} {ds:List (DataW H)} {ps:List MemPlace},(∀ t∈ts,P.readableRec t=true∧t < P.types.size)→(∀ x∈ps,x.block < W.heap.size) →
 DataW.TrodAll enc P W 0 (fun _=>true) true ts vs ds ps→DataW.TrodAll enc P W' 0 (fun b=>decide (b < W.heap.size)) true ts vs ds ps
 | [],_,_,_,_,_,h=>by obtain ⟨rfl,rfl,rfl⟩:=trodAll_nil h;exact trodAll_mk0
 | t::ts,_,_,_,hr,hlt,h=>by
  obtain ⟨v,vs1,d,ds1,a,b,rfl,rfl,rfl,h1,h2⟩:=trodAll_cons h
  refine ⟨a,b,?_,trodAll_stays hl he (fun t ht=>hr t (List.mem_cons_of_mem _ ht)) (fun x hx=>hlt x (List.mem_append_right _ hx)) h2,rfl⟩
  exact Below.trod hl (hr t (List.mem_cons_self ..)).1 (hr t (List.mem_cons_self ..)).2 h1 ⟨he.os,he.tape,he.output,he.size,he.block⟩ (fun x hx=>hlt x (List.mem_append_left _ hx))
theorem law_post {f:Func} {s:ChangeSpec} {W W':World} {args:Array Value} {ds gs:List (DataW H)} {before:List MemPlace} {tb:TypeId} (hl:laidOutB P=true) (hr:∀ t∈f.params.toList,P.readableRec t=true∧t < P.types.size) (hs:s.vars=[])
 (hW:DataW.Whole enc P f.params.toList s.vars false W args.toList ds gs before) (he:Ext W W') (hres:f.resultTypes = #[tb]) (htb:P.underlying tb=some .bool) (hfn:(s.fn H ds).results=[.lit (.bool true)]) (hargs:(s.fn H ds).args=ds) (hvars:(s.fn H ds).vars=[]) :
 s.post enc P f false true false false W args (.bool true) W':=by
 have hW':=hW
 obtain ⟨p,q,hA,hV,rfl,_,_⟩:=hW
 rw [hs] at hV
 obtain ⟨rfl,rfl⟩:=trodVars_none hV
 have hlt:∀ x∈p,x.block < W.heap.size:=fun x hx=>hW'.lt x (by simpa using hx)
 rw [List.append_nil] at hW'
 refine ⟨ds,[],p,[],p,[],hW',?_,?_,?_,Below.frame ⟨he.os,he.tape,he.output,he.size,he.block⟩ _,fun h=>by cases h⟩
 · rw [List.append_nil,hfn,hres]
   exact trodAll_mk1 (shut_bool htb _)
 · rw [List.append_nil,hargs]
   exact trodAll_stays hl he hr hlt hA
 · rw [List.append_nil,hvars,hs]
   exact rfl
end
end Go.Sw
namespace Go.Proofs.YtdfhjlggcdemhaaGreat
open Sw
open Go.ChangeShapes Go.WideShapes Go.RowKit Go.ChangeAt Go.Deep
theorem cellsTerm:Pg.cellsOf 121=2:=by kernel_rfl
theorem cellsCase:Pg.cellsOf 116=3:=by kernel_rfl
theorem cellsSize:Pg.cellsOf 35=2:=by kernel_rfl
theorem cellsField:Pg.cellsOf 38=15:=by kernel_rfl
theorem cellsMessage:Pg.cellsOf 44=2:=by kernel_rfl
theorem cellsDefinition:Pg.cellsOf 24=3:=by kernel_rfl
theorem cellsString:Pg.cellsOf 9=1:=by kernel_rfl
theorem cellsInt:Pg.cellsOf 3=1:=by kernel_rfl
theorem cellsBool:Pg.cellsOf 4=1:=by kernel_rfl
theorem cellsKind:Pg.cellsOf 32=1:=by kernel_rfl
theorem cellsTerms:Pg.cellsOf 33=1:=by kernel_rfl
theorem cellsCases:Pg.cellsOf 36=1:=by kernel_rfl
theorem cellsFields:Pg.cellsOf 42=1:=by kernel_rfl
theorem bytesTerm:1≤Pg.bytesOf 121:=Nat.le_of_ble_eq_true (by kernel_rfl)
theorem bytesCase:1≤Pg.bytesOf 116:=Nat.le_of_ble_eq_true (by kernel_rfl)
theorem bytesField:1≤Pg.bytesOf 38:=Nat.le_of_ble_eq_true (by kernel_rfl)
theorem bytesMessage:1≤Pg.bytesOf 44:=Nat.le_of_ble_eq_true (by kernel_rfl)
def FieldSm (f:FieldD):Prop:=f.terms.length≤140737488355328∧f.cases.length≤140737488355328∧∀ c∈f.cases,c.of.size≤140737488355328
def MsgSm (m:MsgD):Prop:=m.fields.length≤140737488355328∧∀ f∈m.fields,FieldSm f
def DefSm (d:DefD):Prop:=d.msgs.length≤140737488355328∧∀ m∈d.msgs,MsgSm m
theorem cellsMessages:Pg.cellsOf 22=1:=by kernel_rfl
section
variable {H:Type} {enc:TypeId×Value→H} {w:World} {base:Nat} {spare:Nat→Bool} {held:Bool}
theorem term_of {m:Nat} {cs:List Value} {y:DataW H×List MemPlace} (h:DataW.trod enc Pg w base spare held m 121 cs=some y) (hr:Reached Pg 121 y.1):∃ x,ETerm w cs x:=by
 obtain ⟨hl,n,hf⟩:=struct_of_trod Tryz.underlying121 cellsTerm h hr
 obtain ⟨y0,h0,r0⟩:=hf 0 9 0 1 rfl cellsString
 obtain ⟨y1,h1,r1⟩:=hf 1 3 1 1 rfl cellsInt
 match cs,hl with
 | [c0,c1],_ =>
  obtain ⟨s,e0,_⟩:=DataW.trod_string Tryz.underlying9 h0
  obtain ⟨k,e1,_⟩:=DataW.trod_int Tryz.underlying3 h1
  simp at e0 e1
  subst e0 e1
  exact ⟨⟨s,k⟩,rfl⟩
theorem case_of {m:Nat} {cs:List Value} {y:DataW H×List MemPlace} (h:DataW.trod enc Pg w base spare held m 116 cs=some y) (hr:Reached Pg 116 y.1):∃ x,ECase w cs x∧x.of.size≤140737488355328:=by
 obtain ⟨hl,n,hf⟩:=struct_of_trod Tryz.underlying116 cellsCase h hr
 obtain ⟨y0,h0,r0⟩:=hf 0 3 0 1 rfl cellsInt
 obtain ⟨y1,h1,r1⟩:=hf 1 3 1 1 rfl cellsInt
 obtain ⟨y2,h2,r2⟩:=hf 2 9 2 1 rfl cellsString
 match cs,hl with
 | [c0,c1,c2],_ =>
  obtain ⟨a,e0,_⟩:=DataW.trod_int Tryz.underlying3 h0
  obtain ⟨b,e1,_⟩:=DataW.trod_int Tryz.underlying3 h1
  obtain ⟨s,e2,e3,_⟩:=DataW.trod_string Tryz.underlying9 h2
  simp at e0 e1 e2
  subst e0 e1 e2
  refine ⟨⟨a,b,s⟩,rfl,?_⟩
  have:=r2 s.data.toList.length (by rw [e3];exact List.mem_singleton.2 rfl)
  simp only [reachBytes] at this
  have h4:s.size=s.data.toList.length:=Array.length_toList.symm
  show s.size≤_
  omega
theorem size_of {m:Nat} {cs:List Value} {y:DataW H×List MemPlace} (h:DataW.trod enc Pg w base spare held m 35 cs=some y) (hr:Reached Pg 35 y.1):∃ b tv ts,cs=[.int .i64 b,tv]∧TermsOf w tv ts∧ts.length≤140737488355328:=by
 obtain ⟨hl,n,hf⟩:=struct_of_trod Tryz.underlying35 cellsSize h hr
 obtain ⟨y0,h0,r0⟩:=hf 0 3 0 1 rfl cellsInt
 obtain ⟨y1,h1,r1⟩:=hf 1 33 1 1 rfl cellsTerms
 match cs,hl with
 | [c0,c1],_ =>
  obtain ⟨a,e0,_⟩:=DataW.trod_int Tryz.underlying3 h0
  obtain ⟨v,l,e1,hS,_,hL⟩:=slice_of_trod (E:=ETerm) (Q:=fun _=>True) Tryz.underlying33 cellsTerm bytesTerm (by decide) (fun _ _ _ h hr=>let ⟨x,hx⟩:=term_of h hr; ⟨x,hx,trivial⟩) h1 r1
  simp at e0 e1
  subst e0 e1
  exact ⟨a,_,l,rfl,hS,hL⟩
theorem field_of {m:Nat} {cs:List Value} {y:DataW H×List MemPlace} (h:DataW.trod enc Pg w base spare held m 38 cs=some y) (hr:Reached Pg 38 y.1):∃ x,EField w cs x∧FieldSm x:=by
 obtain ⟨hl,n,hf⟩:=struct_of_trod Tryz.underlying38 cellsField h hr
 obtain ⟨y0,h0,r0⟩:=hf 0 9 0 1 rfl cellsString
 obtain ⟨y1,h1,r1⟩:=hf 1 32 1 1 rfl cellsKind
 obtain ⟨y2,h2,r2⟩:=hf 2 3 2 1 rfl cellsInt
 obtain ⟨y3,h3,r3⟩:=hf 3 4 3 1 rfl cellsBool
 obtain ⟨y4,h4,r4⟩:=hf 4 4 4 1 rfl cellsBool
 obtain ⟨y5,h5,r5⟩:=hf 5 3 5 1 rfl cellsInt
 obtain ⟨y6,h6,r6⟩:=hf 6 3 6 1 rfl cellsInt
 obtain ⟨y7,h7,r7⟩:=hf 7 35 7 2 rfl cellsSize
 obtain ⟨y8,h8,r8⟩:=hf 8 9 9 1 rfl cellsString
 obtain ⟨y9,h9,r9⟩:=hf 9 9 10 1 rfl cellsString
 obtain ⟨y10,h10,r10⟩:=hf 10 9 11 1 rfl cellsString
 obtain ⟨y11,h11,r11⟩:=hf 11 36 12 1 rfl cellsCases
 obtain ⟨y12,h12,r12⟩:=hf 12 3 13 1 rfl cellsInt
 obtain ⟨y13,h13,r13⟩:=hf 13 3 14 1 rfl cellsInt
 match cs,hl with
 | [c0,c1,c2,c3,c4,c5,c6,c7,c8,c9,c10,c11,c12,c13,c14],_ =>
  obtain ⟨x0,e0,_⟩:=DataW.trod_string Tryz.underlying9 h0
  obtain ⟨x1,e1,_⟩:=DataW.trod_int Tryz.underlying32 h1
  obtain ⟨x2,e2,_⟩:=DataW.trod_int Tryz.underlying3 h2
  obtain ⟨x3,e3,_⟩:=DataW.trod_bool Tryz.underlying4 h3
  obtain ⟨x4,e4,_⟩:=DataW.trod_bool Tryz.underlying4 h4
  obtain ⟨x5,e5,_⟩:=DataW.trod_int Tryz.underlying3 h5
  obtain ⟨x6,e6,_⟩:=DataW.trod_int Tryz.underlying3 h6
  obtain ⟨x7,tv,ts,e7,hT,hTl⟩:=size_of h7 r7
  obtain ⟨x9,e9,_⟩:=DataW.trod_string Tryz.underlying9 h8
  obtain ⟨x10,e10,_⟩:=DataW.trod_string Tryz.underlying9 h9
  obtain ⟨x11,e11,_⟩:=DataW.trod_string Tryz.underlying9 h10
  obtain ⟨cv,l,e12,hC,hCq,hCl⟩:=slice_of_trod (E:=ECase) (Q:=fun c=>c.of.size≤140737488355328) Tryz.underlying36 cellsCase bytesCase (by decide) (fun _ _ _ h hr=>case_of h hr) h11 r11
  obtain ⟨x13,e13,_⟩:=DataW.trod_int Tryz.underlying3 h12
  obtain ⟨x14,e14,_⟩:=DataW.trod_int Tryz.underlying3 h13
  simp at e0 e1 e2 e3 e4 e5 e6 e7 e9 e10 e11 e12 e13 e14
  obtain ⟨e7,e8⟩:=e7
  subst e0 e1 e2 e3 e4 e5 e6 e7 e8 e9 e10 e11 e12 e13 e14
  exact ⟨⟨x0,x1,x2,x3,x4,x5,x6,x7,ts,x9,x10,x11,l,x13,x14⟩,⟨_,_,rfl,hT,hC⟩,hTl,hCl,hCq⟩
theorem msg_of {m:Nat} {cs:List Value} {y:DataW H×List MemPlace} (h:DataW.trod enc Pg w base spare held m 44 cs=some y) (hr:Reached Pg 44 y.1):∃ x,EMsg w cs x∧MsgSm x:=by
 obtain ⟨hl,n,hf⟩:=struct_of_trod Tryz.underlying44 cellsMessage h hr
 obtain ⟨y0,h0,r0⟩:=hf 0 9 0 1 rfl cellsString
 obtain ⟨y1,h1,r1⟩:=hf 1 42 1 1 rfl cellsFields
 match cs,hl with
 | [c0,c1],_ =>
  obtain ⟨a,e0,_⟩:=DataW.trod_string Tryz.underlying9 h0
  obtain ⟨v,l,e1,hS,hQ,hL⟩:=slice_of_trod (E:=EField) (Q:=FieldSm) Tryz.underlying42 cellsField bytesField (by decide) (fun _ _ _ h hr=>field_of h hr) h1 r1
  simp at e0 e1
  subst e0 e1
  exact ⟨⟨a,l⟩,⟨_,rfl,hS⟩,hL,hQ⟩
theorem def_of {m:Nat} {cs:List Value} {y:DataW H×List MemPlace} (h:DataW.trod enc Pg w base spare held m 24 cs=some y) (hr:Reached Pg 24 y.1):∃ d mv,cs=defCells d mv∧MsgsOf w mv d.msgs∧DefSm d:=by
 obtain ⟨hl,n,hf⟩:=struct_of_trod Tryz.underlying24 cellsDefinition h hr
 obtain ⟨y0,h0,r0⟩:=hf 0 9 0 1 rfl cellsString
 obtain ⟨y1,h1,r1⟩:=hf 1 22 1 1 rfl cellsMessages
 obtain ⟨y2,h2,r2⟩:=hf 2 9 2 1 rfl cellsString
 match cs,hl with
 | [c0,c1,c2],_ =>
  obtain ⟨a,e0,_⟩:=DataW.trod_string Tryz.underlying9 h0
  obtain ⟨v,l,e1,hS,hQ,hL⟩:=slice_of_trod (E:=EMsg) (Q:=MsgSm) Tryz.underlying22 cellsMessage bytesMessage (by decide) (fun _ _ _ h hr=>msg_of h hr) h1 r1
  obtain ⟨b,e2,_⟩:=DataW.trod_string Tryz.underlying9 h2
  simp at e0 e1 e2
  subst e0 e1 e2
  exact ⟨⟨a,l,b⟩,_,rfl,hS,hL,hQ⟩
theorem def_val {r:Reach} {b0:Nat} {v:Value} {d:DataW H} {ps:List MemPlace} (hval:Value.okWide Pg w r b0 24 v) (h:DataW.Trod enc Pg w base spare held 24 v d ps) (hr:Reached Pg 24 d):∃ f,DefVal w v f∧DefSm f:=by
 obtain ⟨cs,rfl,_⟩:=okWide_struct Tryz.underlying24 hval
 obtain ⟨fuel,hf⟩:=h
 obtain ⟨f,tv,h1,h2,hs⟩:=def_of hf hr
 exact ⟨f,⟨tv,congrArg Value.agg (by rw [← h1,cells_agg]),h2⟩,hs⟩
end
end Go.Proofs.YtdfhjlggcdemhaaGreat
namespace Go.Proofs.YtdfhjlggcdemhaaGreat
open Sw
open Go.RowKit (intOf Below)
def sumF (l:List MsgD):Nat:=(l.map fun m=>m.fields.length).sum
def okF (f:FieldD):Prop:=f.cases.length≤50∧f.terms.length≤10
def fitsP (d:DefD):Prop:=d.msgs.length≤70∧sumF d.msgs≤400∧∀ m∈d.msgs,∀ f∈m.fields,okF f
theorem sumF_take {l:List MsgD} {k:Nat} {x:MsgD} (hx:l[k]?=some x):sumF (l.take (k+1))=sumF (l.take k)+x.fields.length:=by
 rw [take_snoc hx];simp [sumF]
theorem le_sumF {l:List MsgD} {m:MsgD} (h:m∈l):m.fields.length≤sumF l:=by
 unfold sumF
 induction l with
 | nil=>cases h
 | cons a l ih =>
  rcases List.mem_cons.1 h with rfl | h
  · simp
  · have:=ih h;simp at this ⊢;omega
theorem forall_take {α:Type} {p:α→Prop} {l:List α} {k:Nat} {x:α} (h:∀ y∈l.take k,p y) (hx:l[k]?=some x) (hp:p x):∀ y∈l.take (k+1),p y:=by
 rw [take_snoc hx]
 intro y hy
 rcases List.mem_append.1 hy with hy | hy
 · exact h y hy
 · simp only [List.mem_singleton] at hy;subst hy;exact hp
theorem refsF_len {f:FieldD} (h:okF f):(refsF f).length≤50:=by
 unfold refsF
 split
 · simp
 · split
   · simpa using h.1
   · simp
theorem allRefs_len:∀ {l:List FieldD},(∀ f∈l,okF f)→(allRefs l).length≤l.length*50
 | [],_=>by simp [allRefs]
 | f::l,h=>by
  have h1:=refsF_len (h f (List.mem_cons_self ..))
  have h2:=allRefs_len (l:=l) (fun g hg=>h g (List.mem_cons_of_mem _ hg))
  unfold allRefs at *
  rw [List.flatMap_cons,List.length_append,List.length_cons]
  omega
theorem fits_calm {d:DefD} (h:fitsP d):calm d:=fun m hm=>by
 have h1:=le_sumF hm
 have h2:=h.2.1
 have h3:=allRefs_len (h.2.2 m hm)
 exact ⟨by omega,fun f hf=>by have:=(h.2.2 m hm f hf).2;omega⟩
end Go.Proofs.YtdfhjlggcdemhaaGreat
namespace Go.Proofs.YtdfhjlggcdemhaaGreat
open Sw
open Go.RowKit (intOf Below)
theorem fits14_ret (w0:World) (v:Value) (d:DefD) (hd:DefVal w0 v d) (hs:DefSm d):Ret Pg 14 #[v] w0 fun r w'=>∃ b,r = .bool b∧(b=true→fitsP d)∧Ext w0 w':=by
 obtain ⟨mv,rfl,hM⟩:=hd
 obtain ⟨A,c,rfl,hlc,hcm,hlm,hel⟩:=SliceOf.open hM
 refine n26s (R:=retR _) ?_;unfold n26
 simp (disch:=try exact DI) only [↓PR,QR,simprocAttr]
 have hBW:=ElemAt.new (w:=w0) (defCells d (.slice A d.msgs.length c)) (24)
 have eW:Ext w0 (w0.alloc (Obj.cells (List.toArray (defCells d (.slice A d.msgs.length c))) (24))):=(Ext.refl _).alloc _
 generalize (w0.alloc (Obj.cells (List.toArray (defCells d (.slice A d.msgs.length c))) (24)))=W at hBW eW ⊢
 refine loop2_intro (fun a0 a1 w=>∃ (k:Nat) , a0 = .int .i64 (sumF (d.msgs.take k):Nat)∧a1 = .int .i64 (k:Int)∧k≤d.msgs.length∧Ext W w∧sumF (d.msgs.take k)≤400∧∀ m∈d.msgs.take k,∀ f∈m.fields,okF f) (fun a0 a1 _=>d.msgs.length - (intOf a1).toNat) ⟨0,rfl,rfl,Nat.zero_le _,ee,⟨by simp [sumF],by simp⟩⟩ ?_
 rintro _ _ w ⟨k,rfl,rfl,hk,e,hI⟩
 have se:=e.size
 rcases drop_cases hk with ⟨x,hx,hd,hlt,hdec⟩ | ⟨hk,hd,hdec⟩
 · obtain ⟨h400,hok⟩:=hI
   obtain ⟨b,o,cs,rfl,hl,hA,fv,rfl,hF⟩:=hel k x hx
   obtain ⟨A2,c2,rfl,hlc2,hcm2,hlm2,hel2⟩:=SliceOf.open hF
   have hxm:=List.mem_of_getElem? hx
   have hsx:=hs.2 x hxm
   have hx1:=hsx.1
   have e':=eW.trans e
   unfold n26c5
   by_cases hk70:k≤70
   · have d1:decide ((k:Int)≤70)=true:=by simp;omega
     simp (disch:=try exact DI) only [↓PR,QR,simprocAttr,hBW.c3,hdec,d1]
     unfold n26c4
     have hwr:IntKind.i64.wrap ((sumF (d.msgs.take k):Int)+(x.fields.length:Int))=((sumF (d.msgs.take (k+1)):Nat):Int):=by
      rw [sumF_take hx,wrap_ok (by omega) (by omega)];omega
     by_cases hn:sumF (d.msgs.take (k+1))≤400
     · have d2:decide (((sumF (d.msgs.take (k+1)):Nat):Int) > 400)=false:=by simp;omega
       simp (disch:=try exact DI) only [↓PR,QR,simprocAttr,hBW.c3,(hA.c2 e').1,(hA.c2 e').2,hwr,d2]
       rw [hwr]
       refine loop1_intro (fun a0 wb=>∃ (kb:Nat) , a0 = .int .i64 (kb:Int)∧kb≤x.fields.length∧Ext w wb∧∀ f∈x.fields.take kb,okF f) (fun a0 _=>x.fields.length - (intOf a0).toNat) ⟨0,rfl,Nat.zero_le _,ee,by simp⟩ ?_
       rintro _ wb ⟨kb,rfl,hkb,eb,hIb⟩
       have seb:=eb.size
       rcases drop_cases hkb with ⟨xb,hxb,hdb,hltb,hdecb⟩ | ⟨hkb,hdb,hdecb⟩
       · obtain ⟨b2,o2,cs2,rfl,hl2,hA2,hE2⟩:=hel2 kb xb hxb
         obtain ⟨tv,cv,rfl,hT,hC,ht1,hc1⟩:=hE2.op
         obtain ⟨A3,c3,rfl,hlc3,hcm3,hlm3,hel3⟩:=SliceOf.open hC
         obtain ⟨A4,c4,rfl,hlc4,hcm4,hlm4,hel4⟩:=SliceOf.open hT
         have eb':=e'.trans eb
         unfold n26c2
         simp (disch:=try exact DI) only [↓PR,QR,simprocAttr,hdecb]
         unfold n26c1
         have hcell:=hA2.c15 eb'
         by_cases hc50:xb.cases.length≤50
         · have d3:decide ((xb.cases.length:Int) > 50)=false:=by simp;omega
           by_cases ht10:xb.terms.length≤10
           · have d4:decide ((xb.terms.length:Int) > 10)=false:=by simp;omega
             simp (disch:=try exact DI) only [↓PR,QR,simprocAttr,hcell,d3,d4]
             exact ⟨⟨kb+1,rfl,by omega,ee,forall_take hIb hxb ⟨hc50,ht10⟩⟩,meas_lt hltb⟩
           · have d4:decide ((xb.terms.length:Int) > 10)=true:=by simp;omega
             simp (disch:=try exact DI) only [↓PR,QR,simprocAttr,hcell,d3,d4]
             exact ⟨false,rfl,by simp,ee⟩
         · have d3:decide ((xb.cases.length:Int) > 50)=true:=by simp;omega
           simp (disch:=try exact DI) only [↓PR,QR,simprocAttr,hcell,d3]
           exact ⟨false,rfl,by simp,ee⟩
       · subst hkb
         rw [List.take_length] at hIb
         unfold n26c2
         simp (disch:=try exact DI) only [↓PR,QR,simprocAttr,hdecb]
         exact ⟨⟨k+1,rfl,rfl,by omega,ee,⟨hn,forall_take hok hx hIb⟩⟩,meas_lt hlt⟩
     · have d2:decide (((sumF (d.msgs.take (k+1)):Nat):Int) > 400)=true:=by simp;omega
       simp (disch:=try exact DI) only [↓PR,QR,simprocAttr,hBW.c3,(hA.c2 e').1,(hA.c2 e').2,hwr,d2]
       exact ⟨false,rfl,by simp,ee⟩
   · have d1:decide ((k:Int)≤70)=false:=by simp;omega
     have d2:decide ((d.msgs.length:Int)≤70)=false:=by simp;omega
     simp (disch:=try exact DI) only [↓PR,QR,simprocAttr,hBW.c3,hdec,d1,n26c3,d2]
     exact ⟨false,rfl,by simp,ee⟩
 · subst hk
   obtain ⟨h400,hok⟩:=hI
   rw [List.take_length] at h400 hok
   unfold n26c5
   simp (disch:=try exact DI) only [↓PR,QR,simprocAttr,hBW.c3,hdec,n26c3]
   exact ⟨_,rfl,fun hb=>⟨by have:=of_decide_eq_true hb;omega,h400,hok⟩,ee⟩
theorem pads_true (w0:World) (n p want no:Int) (h:padP n p=(want,no)):Ret Pg 48 #[.int .i64 n,.int .i64 p,.int .i64 want,.int .i64 no] w0 fun r w'=>r = .bool true∧Ext w0 w':=by
 refine n30s (R:=retR _) ?_;unfold n30
 refine zcr (Padding_ret n p) fun w1 e1=>?_
 rw [h]
 have d1:(want == want)=true:=by simp
 have d2:(no == no)=true:=by simp
 unfold n30c1
 simp (disch:=try exact DI) only [↓PR,QR,simprocAttr,d1,d2]
 exact ⟨by trivial,e1⟩
theorem known14_ret (w0:World):Ret Pg 15 #[] w0 fun r w'=>r = .bool true∧Ext w0 w':=by
 have hcg:calm (gD gF):=calm_g gF_plain (by decide)
 have hc1:calm (gD (gL 1)):=calm_g (by decide) (by decide)
 have hc2:calm (gD (gL 2)):=calm_g (by decide) (by decide)
 have hE:msgE (gD gF) 0=0:=by decide +kernel
 have hL:msgL (gD gF) 0=gF:=by decide +kernel
 have f1:flawedA (gD (gL 1))=true:=by unfold flawedA;rw [al_1];rfl
 have f2:flawedA (gD (gL 2))=true:=by unfold flawedA;rw [al_2];rfl
 have fg:flawedA (gD gF)=false:=by unfold flawedA;rw [al_g];rfl
 refine n28s (R:=retR _) ?_;unfold n28
 refine callK_ret (given_ret _) ?_
 rintro _ w1 ⟨bf1,bm1,rfl,_,_,_,hO1,hm1,e1⟩
 refine zcr (End_ret _ (gD gF) 0 (one_def hm1 (own_fields hO1 gF_plain)) hcg) fun w2 e2=>?_
 rw [hE,hL,en_g]
 unfold n28c17
 simp (disch:=try exact DI) only [↓PR,QR,simprocAttr]
 refine callK_ret (given_ret _) ?_
 rintro _ w3 ⟨bf3,bm3,rfl,_,_,_,hO3,hm3,e3⟩
 refine zcr (Fixed_ret _ (gD gF) 0 (one_def hm3 (own_fields hO3 gF_plain)) hcg) fun w4 e4=>?_
 rw [hE,hL,fx_g]
 have E4:=e1.trans (e2.trans (e3.trans e4))
 unfold n28c16
 simp (disch:=try exact DI) only [↓PR,QR,simprocAttr]
 refine callK_ret (less_ret _ 1 (.inl rfl)) ?_
 rintro v5 w5 ⟨hd5,e5⟩
 refine zcr (alCheck_ret _ v5 _ hd5 hc1) fun w6 e6=>?_
 rw [al_1,f1]
 have E6:=E4.trans (e5.trans e6)
 unfold n28c15
 simp (disch:=try exact DI) only [↓PR,QR,simprocAttr]
 have eX:Ext w6 (w6.alloc (.cells #[.int .i64 0,.int .i64 2,.int .i64 12] 29)):=ee
 have oX:=heap_new w6 #[.int .i64 0,.int .i64 2,.int .i64 12] 29
 generalize (w6.alloc (.cells #[.int .i64 0,.int .i64 2,.int .i64 12] 29))=X at eX oX ⊢
 refine callK_ret (less_ret _ 2 (.inr rfl)) ?_
 rintro v7 w7 ⟨hd7,e7⟩
 refine zcr (alCheck_ret _ v7 _ hd7 hc2) fun w8 e8=>?_
 rw [al_2,f2]
 unfold n28c14
 simp (disch:=try exact DI) only [↓PR,QR,simprocAttr]
 simp only [World.size_setCell,World.size_alloc]
 generalize hY:World.alloc (World.alloc w8 _) _=Y
 have eY:Ext w8 Y:=by rw [← hY];exact ee
 have o7:Y.heap[w8.heap.size]?=some (.cells #[.int .i64 0,.int .i64 2,.int .i64 12] 29 (0,0)):=by rw [← hY];simp (disch:=try exact DI) only [↓PR,QR,simprocAttr]
 have o9:Y.heap[w8.heap.size+1]?=some (.cells #[.int .i64 0,.int .i64 2,.int .i64 12] 29 (0,0)):=by rw [← hY];simp (disch:=try exact DI) only [↓PR,QR,simprocAttr]
 clear hY
 have x5:=(e7.trans (e8.trans eY)).obj oX
 have E9:=E6.trans (eX.trans (e7.trans (e8.trans eY)))
 clear e7 e8 eY hd7 hd5 e5 e6 oX eX E4 E6 hO1 hO3 hm1 hm3 e1 e2 e3 e4
 generalize w8.heap.size=p7 at o7 o9 ⊢
 generalize w6.heap.size=p5 at x5 ⊢
 refine callK_ret (given_ret _) ?_
 rintro _ w10 ⟨bf,bm,rfl,_,_,_,hO,hm,e10⟩
 unfold n28c13
 simp (disch:=try exact DI) only [↓PR,QR,simprocAttr]
 have hS:=SliceOf.new1 (E:=EInt) (fun n=>Value.int .i64 n) (fun _ _=>rfl) w10 [0,3,4,0] 3 (by decide)
 have eZ:Ext w10 (w10.alloc (.cells (([0,3,4,0]:List Int).map (fun n=>Value.int .i64 n)).toArray 3)):=ee
 refine zcr (yields_ret (w10.alloc (.cells (([0,3,4,0]:List Int).map (fun n=>Value.int .i64 n)).toArray 3)) _ (gD gF) 0 9 _ ((one_def hm (own_fields hO gF_plain)).ext eZ) hcg (by rw [hL,of_g];exact hS)) fun w11 e11=>?_
 have E11:=E9.trans (e10.trans (eZ.trans e11))
 have y5:=(e10.trans (eZ.trans e11)).obj x5
 have y7:=(e10.trans (eZ.trans e11)).obj o7
 have y9:=(e10.trans (eZ.trans e11)).obj o9
 clear e10 eZ e11 x5 o7 o9 hO hm hS E9
 simp (disch:=try exact DI) only [↓PR,QR,simprocAttr,↓n28c12,↓n28c11,↓n28c10,↓n28c9,↓n28c8]
 refine callK_ret (given_ret _) ?_
 rintro _ w12 ⟨bf2,bm2,rfl,_,_,_,hO,hm,e12⟩
 refine zcr (Aligned_ret _ (gD gF) (one_def hm (own_fields hO gF_plain)) hcg) fun w13 e13=>?_
 rw [fg]
 have z5:=(e12.trans e13).obj y5
 have z7:=(e12.trans e13).obj y7
 have z9:=(e12.trans e13).obj y9
 have E13:=E11.trans (e12.trans e13)
 simp (disch:=try exact DI) only [↓PR,QR,simprocAttr,↓n28c7,↓n28c6,↓n28c5,↓n28c4,(cells_of_heap z5).1,(cells_of_heap z7).1,(cells_of_heap z9).1]
 refine zcr (pads_true _ 4 3 1 0 (by decide +kernel)) fun w14 e14=>?_
 simp (disch:=try exact DI) only [↓PR,QR,simprocAttr,↓n28c3]
 refine zcr (pads_true _ 16 24 8 0 (by decide +kernel)) fun w15 e15=>?_
 simp (disch:=try exact DI) only [↓PR,QR,simprocAttr,↓n28c2]
 refine zcr (pads_true _ 8 8 0 0 (by decide +kernel)) fun w16 e16=>?_
 simp (disch:=try exact DI) only [↓PR,QR,simprocAttr,↓n28c1]
 refine zcr (pads_true _ 3 0 0 2 (by decide +kernel)) fun w17 e17=>?_
 simp (disch:=try exact DI) only [↓PR,QR,simprocAttr]
 exact ⟨by trivial,E13.trans (e14.trans (e15.trans (e16.trans e17)))⟩
end Go.Proofs.YtdfhjlggcdemhaaGreat
namespace Go.Proofs.YtdfhjlggcdemhaaGreat
open Sw
def n25c1 (t12 t14 t89:Value) (next5:KW) (R:RT) (w:World):Prop :=
 joinK (fun (t123:Value) (w:World) =>
 pickK t12 (.bool true) t123 fun t124 =>
 B0 .add 3 true t89 (.int .i64 1) R w fun t125 w =>
 next5 t124 t125 w) fun K11 =>
 guardP t12 false (
 F0 38 t14 1 R w fun t121 w =>
 L0 32 t121 R w fun t122 w =>
 B0 .eql 32 true t122 (.int .i64 10) R w fun t123 w =>
 K11 t123 w) (
 K11 undef w)
def n25c2 (t12 t14 t89 t110 t114 t116:Value) (next5:KW) (R:RT) (w:World):Prop :=
 joinK (fun (t117:Value) (w:World) =>
 pickK t110 (.bool true) t117 fun t118 =>
 condP t118 (
 R (.returned (.bool false)) w) (
 n25c1 t12 t14 t89 next5 R w)) fun K10 =>
 guardP t110 false (
 pickK t114 t116 (.bool false) fun t117 =>
 K10 t117 w) (
 K10 undef w)
def n25c3 (t12 t14 t89 t99 t110 t114:Value) (next5:KW) (R:RT) (w:World):Prop :=
 joinK (fun (t116:Value) (w:World) =>
 n25c2 t12 t14 t89 t110 t114 t116 next5 R w) fun K9 =>
 guardP t114 true (
 B0 .neq 3 true t99 (.int .i64 0) R w fun t116 w =>
 K9 t116 w) (
 K9 undef w)
def n25c4 (t12 t14 t89 t99 t106 t109:Value) (next5:KW) (R:RT) (w:World):Prop :=
 pickK t106 (.bool true) t109 fun t110 =>
 joinK (fun (t114:Value) (w:World) =>
 n25c3 t12 t14 t89 t99 t110 t114 next5 R w) fun K8 =>
 guardP t110 false (
 L0 38 t14 R w fun t112 w =>
 C0 19 #[t112] R w fun t113 w =>
 K8 t113 w) (
 K8 undef w)
def n25c5 (t12 t14 t89 t99 t102 t105:Value) (next5:KW) (R:RT) (w:World):Prop :=
 pickK t102 (.bool true) t105 fun t106 =>
 joinK (fun (t109:Value) (w:World) =>
 n25c4 t12 t14 t89 t99 t106 t109 next5 R w) fun K7 =>
 guardP t106 false (
 B0 .gtr 3 true t99 (.int .i64 7) R w fun t109 w =>
 K7 t109 w) (
 K7 undef w)
def n25c6 (t12 t14 t89 t98:Value) (next5:KW) (R:RT) (w:World):Prop :=
 opV Pg (Instr.extract t98 0) (panK R) w fun t99 w =>
 opV Pg (Instr.extract t98 1) (panK R) w fun t100 w =>
 B0 .neq 52 true t100 (.int .i64 0) R w fun t102 w =>
 joinK (fun (t105:Value) (w:World) =>
 n25c5 t12 t14 t89 t99 t102 t105 next5 R w) fun K6 =>
 guardP t102 false (
 B0 .lss 3 true t99 (.int .i64 0) R w fun t105 w =>
 K6 t105 w) (
 K6 undef w)
def n25c7 (t11 t147 t151 t154:Value) (next4:KV) (R:RT) (w:World):Prop :=
 joinK (fun (t155:Value) (w:World) =>
 pickK t147 (.bool true) t155 fun t156 =>
 condP t156 (
 R (.returned (.bool false)) w) (
 B0 .add 3 true t11 (.int .i64 1) R w fun t81 w =>
 next4 t81 w)) fun K16 =>
 guardP t147 false (
 pickK t151 t154 (.bool false) fun t155 =>
 K16 t155 w) (
 K16 undef w)
def n25c8 (t11 t136 t147 t151:Value) (next4:KV) (R:RT) (w:World):Prop :=
 joinK (fun (t154:Value) (w:World) =>
 n25c7 t11 t147 t151 t154 next4 R w) fun K15 =>
 guardP t151 true (
 B0 .rem 3 true t136 (.int .i64 8) R w fun t153 w =>
 B0 .neq 3 true t153 (.int .i64 0) R w fun t154 w =>
 K15 t154 w) (
 K15 undef w)
def n25c9 (t11 t12 t136 t143 t146:Value) (next4:KV) (R:RT) (w:World):Prop :=
 pickK t143 (.bool true) t146 fun t147 =>
 joinK (fun (t151:Value) (w:World) =>
 n25c8 t11 t136 t147 t151 next4 R w) fun K14 =>
 guardP t147 false (
 opV Pg (Op.unary .not t12) (panK R) w fun t150 w =>
 K14 t150 w) (
 K14 undef w)
def n25c10 (t11 t12 t130 t136 t139 t142:Value) (next4:KV) (R:RT) (w:World):Prop :=
 pickK t139 (.bool true) t142 fun t143 =>
 joinK (fun (t146:Value) (w:World) =>
 n25c9 t11 t12 t136 t143 t146 next4 R w) fun K13 =>
 guardP t143 false (
 B0 .neq 3 true t130 (.int .i64 0) R w fun t146 w =>
 K13 t146 w) (
 K13 undef w)
def n25c11 (t11 t12 t130 t131 t135:Value) (next4:KV) (R:RT) (w:World):Prop :=
 opV Pg (Instr.extract t135 0) (panK R) w fun t136 w =>
 opV Pg (Instr.extract t135 1) (panK R) w fun t137 w =>
 B0 .neq 52 true t131 (.int .i64 0) R w fun t139 w =>
 joinK (fun (t142:Value) (w:World) =>
 n25c10 t11 t12 t130 t136 t139 t142 next4 R w) fun K12 =>
 guardP t139 false (
 B0 .neq 52 true t137 (.int .i64 0) R w fun t142 w =>
 K12 t142 w) (
 K12 undef w)
def n25c12 (t3 t11 t12 t129:Value) (next4:KV) (R:RT) (w:World):Prop :=
 opV Pg (Instr.extract t129 0) (panK R) w fun t130 w =>
 opV Pg (Instr.extract t129 1) (panK R) w fun t131 w =>
 L0 24 t3 R w fun t133 w =>
 C0 28 #[t133,t11] R w fun t135 w =>
 n25c11 t11 t12 t130 t131 t135 next4 R w
def n25c13 (t3 t11 t12 t87 t89:Value) (next5:KW) (R:RT) (w:World):Prop :=
 X0 42 t87 t89 R w fun t92 w =>
 L0 38 t92 R w fun t93 w =>
 opV Pg (Instr.alloc 38 true (.tuple #[])) (panK R) w fun t14 w =>
 opU Pg (Instr.storeAt 38 t14 t93) (panK R) w fun w =>
 L0 24 t3 R w fun t95 w =>
 C0 26 #[t95,t11,t89] R w fun t98 w =>
 n25c6 t12 t14 t89 t98 next5 R w
def n25c14 (t3 t11 t12 t87 t88 t89:Value) (next4:KV) (next5:KW) (R:RT) (w:World):Prop :=
 B0 .lss 3 false t89 t88 R w fun t90 w =>
 condP t90 (
 n25c13 t3 t11 t12 t87 t89 next5 R w) (
 L0 24 t3 R w fun t127 w =>
 C0 27 #[t127,t11] R w fun t129 w =>
 n25c12 t3 t11 t12 t129 next4 R w)
def n25c15 (t3 t11:Value) (next4:KV) (R:RT) (w:World):Prop :=
 F0 24 t3 1 R w fun t82 w =>
 L0 22 t82 R w fun t83 w =>
 X0 22 t83 t11 R w fun t85 w =>
 F0 44 t85 1 R w fun t86 w =>
 L0 42 t86 R w fun t87 w =>
 opV Pg (Builtin.len_ #[42] 3 #[t87]) (panK R) w fun t88 w =>
 loop2 (fun t12 t89 w next5 =>
 n25c14 t3 t11 t12 t87 t88 t89 next4 next5 R w) (.bool false) (.int .i64 0) w
def n25c16 (t3 t11:Value) (next4:KV) (R:RT) (w:World):Prop :=
 F0 24 t3 1 R w fun t76 w =>
 L0 22 t76 R w fun t77 w =>
 opV Pg (Builtin.len_ #[22] 3 #[t77]) (panK R) w fun t78 w =>
 B0 .lss 3 false t11 t78 R w fun t79 w =>
 condP t79 (
 n25c15 t3 t11 next4 R w) (
 C0 15 #[] R w fun t157 w =>
 R (.returned t157) w)
def n25c17 (t3 t68 t72:Value) (R:RT) (w:World):Prop :=
 pickK t68 (.bool true) t72 fun t73 =>
 condP t73 (
 C0 15 #[] R w fun t74 w =>
 R (.returned t74) w) (
 loop1 (fun t11 w next4 =>
 n25c16 t3 t11 next4 R w) (.int .i64 0) w)
def n25c18 (t3 t62 t67:Value) (R:RT) (w:World):Prop :=
 pickK t62 (.bool true) t67 fun t68 =>
 joinK (fun (t72:Value) (w:World) =>
 n25c17 t3 t68 t72 R w) fun K3 =>
 guardP t68 false (
 L0 24 t3 R w fun t70 w =>
 C0 18 #[t70] R w fun t71 w =>
 opV Pg (Op.unary .not t71) (panK R) w fun t72 w =>
 K3 t72 w) (
 K3 undef w)
def n25c19 (t3 t61:Value) (R:RT) (w:World):Prop :=
 opV Pg (Op.unary .not t61) (panK R) w fun t62 w =>
 joinK (fun (t67:Value) (w:World) =>
 n25c18 t3 t62 t67 R w) fun K2 =>
 guardP t62 false (
 F0 24 t3 1 R w fun t64 w =>
 L0 22 t64 R w fun t65 w =>
 opV Pg (Builtin.len_ #[22] 3 #[t65]) (panK R) w fun t66 w =>
 B0 .gtr 3 true t66 (.int .i64 12) R w fun t67 w =>
 K2 t67 w) (
 K2 undef w)
def n25c20 (t51 t55 t57:Value) (K1:World→Prop) (R:RT) (w:World):Prop :=
 joinK (fun (t58:Value) (w:World) =>
 pickK t51 (.bool true) t58 fun t59 =>
 condP t59 (
 R (.returned (.bool false)) w) (
 K1 w)) fun K21 =>
 guardP t51 false (
 pickK t55 t57 (.bool false) fun t58 =>
 K21 t58 w) (
 K21 undef w)
def n25c21 (t35 t51 t55:Value) (K1:World→Prop) (R:RT) (w:World):Prop :=
 joinK (fun (t57:Value) (w:World) =>
 n25c20 t51 t55 t57 K1 R w) fun K20 =>
 guardP t55 true (
 B0 .neq 3 true t35 (.int .i64 0) R w fun t57 w =>
 K20 t57 w) (
 K20 undef w)
def n25c22 (t35 t36 t43 t50:Value) (K1:World→Prop) (R:RT) (w:World):Prop :=
 pickK t43 (.bool true) t50 fun t51 =>
 joinK (fun (t55:Value) (w:World) =>
 n25c21 t35 t51 t55 K1 R w) fun K19 =>
 guardP t51 false (
 B0 .eql 52 true t36 (.int .i64 0) R w fun t54 w =>
 K19 t54 w) (
 K19 undef w)
def n25c23 (t1 t2 t25 t35 t36 t38 t42:Value) (K1:World→Prop) (R:RT) (w:World):Prop :=
 pickK t38 (.bool true) t42 fun t43 =>
 joinK (fun (t50:Value) (w:World) =>
 n25c22 t35 t36 t43 t50 K1 R w) fun K18 =>
 guardP t43 false (
 B0 .add 3 false t2 t25 R w fun t47 w =>
 B0 .rem 3 false t47 t1 R w fun t49 w =>
 B0 .neq 3 true t49 (.int .i64 0) R w fun t50 w =>
 K18 t50 w) (
 K18 undef w)
def n25c24 (t1 t2 t25 t34:Value) (K1:World→Prop) (R:RT) (w:World):Prop :=
 opV Pg (Instr.extract t34 0) (panK R) w fun t35 w =>
 opV Pg (Instr.extract t34 1) (panK R) w fun t36 w =>
 B0 .lss 3 true t25 (.int .i64 0) R w fun t38 w =>
 joinK (fun (t42:Value) (w:World) =>
 n25c23 t1 t2 t25 t35 t36 t38 t42 K1 R w) fun K17 =>
 guardP t38 false (
 B0 .geq 3 false t25 t1 R w fun t42 w =>
 K17 t42 w) (
 K17 undef w)
def n25c25 (t1 t2 t3 t24:Value) (R:RT) (w:World):Prop :=
 opV Pg (Instr.extract t24 0) (panK R) w fun t25 w =>
 opV Pg (Instr.extract t24 1) (panK R) w fun t26 w =>
 B0 .eql 52 true t26 (.int .i64 0) R w fun t28 w =>
 joinK (fun (w:World) =>
 L0 24 t3 R w fun t60 w =>
 C0 14 #[t60] R w fun t61 w =>
 n25c19 t3 t61 R w) fun K1 =>
 condP t28 (
 B0 .add 3 false t2 t25 R w fun t33 w =>
 C0 24 #[t1,t33] R w fun t34 w =>
 n25c24 t1 t2 t25 t34 K1 R w) (
 K1 w)
def n25 (t0 t1 t2:Value) (R:RT) (w:World):Prop :=
 opV Pg (Instr.box 24 t0) (panK R) w fun t3 w =>
 C0 24 #[t1,t2] R w fun t24 w =>
 n25c25 t1 t2 t3 t24 R w
set_option maxHeartbeats 40000000 in
theorem n25s {t0 t1 t2:Value} {R:RT} {w:World} (h:n25 t0 t1 t2 R w):Calls Pg 8 #[t0,t1,t2] w R:=by
 refine yD Tryz.func8 ?_
 refine zs<|zr<|yv h fun _ w h=>zm<|zn<|zk<|zs<|zs<|zr<|zm<|zm<|yc h c24 fun _ w h=>zm<|yv h fun _ w h=>yv h fun _ w h=>?_
 refine zm<|zm<|zn<|zk<|zs<|zr<|zm<|yb h fun _ w h=>zn<|zk<|yJ0 [6,9,10,29,30,31,32,33,34,35,36,37,38,39,40,41,42,43,44,45,46,47,48,49,50,51,52,53,54,55,56,57,58,59] h (fun _ _ hkK1 h=>?_) fun σ w h=>?_
 · refine yC h (fun h=>?_) fun h=>?_
   · refine zs<|zr<|zm<|zm<|zm<|yb h fun _ w h=>yc h c24 fun _ w h=>zm<|yv h fun _ w h=>yv h fun _ w h=>zm<|zm<|zn<|zk<|zs ?_
     refine sim_regionG<|yG 3<|zm<|yb h fun _ w h=>zm<|zn<|yg1 3 2 false [40,41,42] 42 h (fun _ T hT h=>?_) fun σ w h=>?_
     · refine zm<|zm<|yb h fun _ w h=>zn ?_
       exact zt hT h
     refine yG 2<|yp h fun _ h=>zm<|zn<|yg1 6 7 false [45,46,47,48,49,50] 50 h (fun _ T hT h=>?_) fun σ w h=>?_
     · refine zm<|zm<|yb h fun _ w h=>zm<|yb h fun _ w h=>yb h fun _ w h=>zn ?_
       exact zt hT h
     refine yG 2<|yp h fun _ h=>zm<|zn<|yg1 3 15 false [53,54,55] 55 h (fun _ T hT h=>?_) fun σ w h=>?_
     · refine zm<|yb h fun _ w h=>zm<|zn ?_
       exact zt hT h
     refine yg1 2 18 true [56,57] 57 h (fun _ T hT h=>?_) fun σ w h=>?_
     · refine zm<|yb h fun _ w h=>zn ?_
       exact zt hT h
     refine yg1 1 15 false [58] 58 h (fun _ T hT h=>?_) fun σ w h=>?_
     · refine yp h fun _ h=>zn ?_
       exact zt hT h
     refine yG 1<|yp h fun _ h=>zn<|sim_end<|zk<|yC h (fun h=>zs<|zr<|zm<|zn<|zk<|sim_ret<|sim_then_ret<|sim_then_ret<|body_ret1 rfl rfl h) fun h=>sim_skip<|zk ?_
     exact zt hkK1 h
   refine sim_skip<|zk ?_
   exact zt hkK1 h
 refine zk<|zs<|zs<|sim_regionG<|yG 4<|yv h fun _ w h=>yc h c14 fun _ w h=>yv h fun _ w h=>zm<|zn<|yg1 4 3 false [64,65,66,67] 67 h (fun _ T hT h=>?_) fun σ w h=>?_
 · refine yv h fun _ w h=>yv h fun _ w h=>yx h fun _ w h=>yb h fun _ w h=>zn ?_
   exact zt hT h
 refine yG 2<|yp h fun _ h=>zm<|zn<|yg1 3 9 false [70,71,72] 72 h (fun _ T hT h=>?_) fun σ w h=>?_
 · refine yv h fun _ w h=>yc h c18 fun _ w h=>yv h fun _ w h=>zn ?_
   exact zt hT h
 refine yG 1<|yp h fun _ h=>zn<|sim_end<|zk<|yC h (fun h=>zs<|zr<|yc h c15 fun _ w h=>zm<|zn<|zk<|sim_ret<|sim_then_ret<|body_ret1 rfl rfl h) fun h=>sim_skip<|zk<|zs<|zs<|zr<|zm<|zn<|zk ?_
 refine sim_block<|yl1 [6,11,12,13,14,15,16,17,18,19,20,75,76,77,78,79,80,81,82,83,84,85,86,87,88,89,90,91,92,93,94,95,96,97,98,99,100,101,102,103,104,105,106,107,108,109,110,111,112,113,114,115,116,117,118,119,120,121,122,123,124,125,126,127,128,129,130,131,132,133,134,135,136,137,138,139,140,141,142,143,144,145,146,147,148,149,150,151,152,153,154,155,156] 11 h fun σ w next h=>zs<|zs<|zr<|zm<|yv h fun _ w h=>yv h fun _ w h=>yx h fun _ w h=>yb h fun _ w h=>zn<|zk<|yC h (fun h=>?_) fun h=>?_
 · refine sim_skip<|zk<|zs<|sim_block<|zs<|zr<|zm<|zn<|zk<|zs<|zs<|zr<|yv h fun _ w h=>yv h fun _ w h=>zm ?_
   refine yv h fun _ w h=>yv h fun _ w h=>yv h fun _ w h=>yx h fun _ w h=>zm<|zn<|zk<|sim_block<|yl2 [6,12,13,14,15,16,89,90,91,92,93,94,95,96,97,98,99,100,101,102,103,104,105,106,107,108,109,110,111,112,113,114,115,116,117,118,119,120,121,122,123,124,125] 12 89 h fun σ w next h=>zs<|zr<|yb h fun _ w h=>zn<|zk<|zs ?_
   refine yC h (fun h=>?_) fun h=>?_
   · refine sim_skip<|zk<|zs<|sim_block<|zs<|zr<|zm<|yv h fun _ w h=>yv h fun _ w h=>yv h fun _ w h=>zm<|yu h fun w h=>zn<|zk<|zs ?_
     refine zr<|yv h fun _ w h=>zm<|zm<|yc h c26 fun _ w h=>zm<|yv h fun _ w h=>yv h fun _ w h=>zm<|zm<|zn<|zk<|zs<|zs<|sim_regionG ?_
     refine yG 3<|zm<|yb h fun _ w h=>zm<|zn<|yg1 2 2 false [104,105] 105 h (fun _ T hT h=>?_) fun σ w h=>?_
     · refine zm<|yb h fun _ w h=>zn ?_
       exact zt hT h
     refine yG 2<|yp h fun _ h=>zm<|zn<|yg1 2 6 false [108,109] 109 h (fun _ T hT h=>?_) fun σ w h=>?_
     · refine zm<|yb h fun _ w h=>zn ?_
       exact zt hT h
     refine yG 2<|yp h fun _ h=>zm<|zn<|yg1 3 10 false [112,113,114] 114 h (fun _ T hT h=>?_) fun σ w h=>?_
     · refine yv h fun _ w h=>yc h c19 fun _ w h=>zm<|zn ?_
       exact zt hT h
     refine yg1 2 13 true [115,116] 116 h (fun _ T hT h=>?_) fun σ w h=>?_
     · refine zm<|yb h fun _ w h=>zn ?_
       exact zt hT h
     refine yg1 1 10 false [117] 117 h (fun _ T hT h=>?_) fun σ w h=>?_
     · refine yp h fun _ h=>zn ?_
       exact zt hT h
     refine yG 1<|yp h fun _ h=>zn<|sim_end<|zk<|yC h (fun h=>?_) fun h=>?_
     · refine zs<|zr<|zm<|zn<|zk<|sim_ret<|sim_then_ret<|sim_block_ret<|sim_then_ret<|sim_then_ret<|sim_block_ret<|sim_then_ret<|sim_block_ret<|sim_then_ret<|sim_then_ret ?_
       exact sim_block_ret<|sim_then_ret<|body_ret1 rfl rfl h
     refine sim_skip<|zk<|sim_regionG<|yG 2<|zm<|zm<|zn<|yg1 3 1 false [121,122,123] 123 h (fun _ T hT h=>?_) fun σ w h=>?_
     · refine yv h fun _ w h=>yv h fun _ w h=>yb h fun _ w h=>zn ?_
       exact zt hT h
     exact yG 2<|yp h fun _ h=>zm<|zn<|sim_end<|sim_block_normal<|zk<|zr<|yb h fun _ w h=>zm<|zn<|zk<|⟨rfl,h⟩
   refine sim_exit<|sim_then_exit<|sim_then_exit<|sim_block_hit<|zk<|zs<|zr<|yv h fun _ w h=>zm<|yc h c27 fun _ w h=>zm<|yv h fun _ w h=>yv h fun _ w h=>zm<|zm ?_
   refine zn<|zk<|zs<|zr<|yv h fun _ w h=>zm<|yc h c28 fun _ w h=>zm<|yv h fun _ w h=>yv h fun _ w h=>zm<|zm<|zn<|zk<|zs ?_
   refine sim_regionG<|yG 3<|zm<|yb h fun _ w h=>zm<|zn<|yg1 2 2 false [141,142] 142 h (fun _ T hT h=>?_) fun σ w h=>?_
   · refine zm<|yb h fun _ w h=>zn ?_
     exact zt hT h
   refine yG 2<|yp h fun _ h=>zm<|zn<|yg1 2 6 false [145,146] 146 h (fun _ T hT h=>?_) fun σ w h=>?_
   · refine zm<|yb h fun _ w h=>zn ?_
     exact zt hT h
   refine yG 2<|yp h fun _ h=>zm<|zn<|yg1 3 10 false [149,150,151] 151 h (fun _ T hT h=>?_) fun σ w h=>?_
   · refine zm<|yv h fun _ w h=>zm<|zn ?_
     exact zt hT h
   refine yg1 3 13 true [152,153,154] 154 h (fun _ T hT h=>?_) fun σ w h=>?_
   · refine zm<|yb h fun _ w h=>yb h fun _ w h=>zn ?_
     exact zt hT h
   refine yg1 1 10 false [155] 155 h (fun _ T hT h=>?_) fun σ w h=>?_
   · refine yp h fun _ h=>zn ?_
     exact zt hT h
   refine yG 1<|yp h fun _ h=>zn<|sim_end<|zk<|yC h (fun h=>zs<|zr<|zm<|zn<|zk<|sim_ret<|sim_block_ret<|sim_then_ret<|sim_then_ret<|sim_block_ret<|sim_then_ret<|body_ret1 rfl rfl h) fun h=>sim_skip<|sim_block_normal<|zk<|zr<|zm<|yb h fun _ w h=>zm<|zn ?_
   exact zk<|⟨rfl,h⟩
 exact sim_exit<|sim_then_exit<|sim_then_exit<|sim_block_hit<|zk<|zs<|zr<|yc h c15 fun _ w h=>zm<|zn<|zk<|sim_ret<|body_ret1 rfl rfl h
end Go.Proofs.YtdfhjlggcdemhaaGreat
namespace Go.Proofs.YtdfhjlggcdemhaaGreat
open Sw
open Go.RowKit (intOf Below)
theorem alignM_zero:∀ (l:List MsgD) (k:Nat),(alignM k l).2.2=0→∀ m∈l,firstW m.fields=none
 | [],_,_,m,hm=>by cases hm
 | a::l,k,h,m,hm=>by
  cases hf:firstW a.fields with
  | some i=>rw [alignM_some hf] at h;exact absurd h (show (12:Int)≠0 by decide)
  | none =>
   rw [alignM_none hf] at h
   rcases List.mem_cons.1 hm with rfl | hm
   · exact hf
   · exact alignM_zero l _ h m hm
theorem aligned_msg {d:DefD} (h:flawedA d=false):(checkP d).2.2=0∧∀ m∈d.msgs,∀ j,j≤m.fields.length→wrongP m.fields j=false:=by
 have h0:(alignP d).2.2=0:=by unfold flawedA at h;simpa using h
 by_cases hc:(checkP d).2.2=0
 · refine ⟨hc,fun m hm j hj=>?_⟩
   rw [alignP_valid hc] at h0
   have:=alignM_zero _ _ h0 m hm
   unfold firstW at this
   rw [List.find?_eq_none] at this
   simpa using this j (List.mem_range.2 (by omega))
 · rw [alignP_flawed hc] at h0;exact absurd h0 hc
theorem border_end {l:List FieldD} (hw:∀ j,j≤l.length→wrongP l j=false):endO l=0:=by
 have:=hw l.length (Nat.le_refl _)
 unfold wrongP at this
 rw [List.getElem?_eq_none (Nat.le_refl _)] at this
 simpa using this
theorem border_field {l:List FieldD} (hw:∀ j,j≤l.length→wrongP l j=false) {i:Nat} {f:FieldD} (hi:l[i]?=some f) (hn:needsB f=true):endO (l.take i)=0:=by
 have:=hw i (Nat.le_of_lt (List.getElem?_eq_some_iff.1 hi).1)
 unfold wrongP at this
 rw [hi] at this
 simp only [hn,Bool.and_true,Bool.or_eq_false_iff] at this
 simpa using this.1
theorem border_fix {l:List FieldD} (hok:∀ f∈l,okA f) (hw:∀ j,j≤l.length→wrongP l j=false) (hp:l.any (fun f=>f.kind == 10)=false):(fixO l).tmod 8=0:=by
 have key:∀ k,k≤l.length→∃ q:Int,fixO (l.take k) - endO (l.take k)=8*q:=by
  intro k
  induction k with
  | zero=>exact fun _=>⟨0,by simp [fixO,endO]⟩
  | succ k ih =>
   intro hk
   obtain ⟨q,hq⟩:=ih (by omega)
   obtain ⟨f,hf⟩:=getElem?_lt (l:=l) (k:=k) (by omega)
   have hfm:=List.mem_of_getElem? hf
   have hk10:f.kind≠10:=fun h=>by
    rw [List.any_eq_false] at hp
    exact hp f hfm (by simp [h])
   have hB:=endO_bounds (l:=l.take k) fun g hg=>hok g (List.mem_of_mem_take hg)
   rw [fixO_step hf,endO_step hf]
   by_cases h12:f.kind=1∨f.kind=2
   · have hb:=(hok f hfm).1 h12
     rw [if_pos h12]
     unfold nextO
     rw [if_pos h12,Int.tmod_eq_emod_of_nonneg (by omega)]
     have h1:=Int.emod_add_mul_ediv (endO (l.take k)+f.bits) 8
     exact ⟨q+(endO (l.take k)+f.bits) / 8,by omega⟩
   · rw [if_neg h12]
     unfold nextO
     rw [if_neg h12,if_neg hk10]
     have h0:endO (l.take k)=0:=border_field hw hf (by
      unfold needsB
      have a1:(f.kind == 1)=false:=by simpa using fun h=>h12 (.inl h)
      have a2:(f.kind == 2)=false:=by simpa using fun h=>h12 (.inr h)
      have a3:(f.kind == 10)=false:=by simpa using hk10
      rw [a1,a2,a3];simp)
     exact ⟨q,by omega⟩
 obtain ⟨q,hq⟩:=key l.length (Nat.le_refl _)
 rw [List.take_length,border_end hw] at hq
 rw [show fixO l=8*q by omega,Int.mul_tmod_right]
def padsB (l:List FieldD):Bool:=l.any fun f=>f.kind == 10
theorem padsB_step {l:List FieldD} {k:Nat} {f:FieldD} (h:l[k]?=some f):padsB (l.take (k+1))=(padsB (l.take k)||f.kind == 10):=by
 unfold padsB;rw [take_snoc h,List.any_append];simp
section
variable {w0:World} {v:Value} {d:DefD} {n p:Int}
theorem bord_pad {w:World} {t3:Value} {Φ:Value→World→Prop} (h:∀ w',Ext w w'→opV Pg (Instr.loadAt 24 t3) (panK (retR Φ)) w' fun t60 w=>callK Pg 14 #[t60] (panK (retR Φ)) w fun t61 w=>n25c19 t3 t61 (retR Φ) w) :
 n25c25 (.int .i64 n) (.int .i64 p) t3 (.tuple #[.int .i64 (padP n p).1,.int .i64 (padP n p).2]) (retR Φ) w:=by
 unfold n25c25
 by_cases hp:padOK n p
 · have hp':=hp
   obtain ⟨h1,h2,h3⟩:=hp'
   have hn:1≤n:=by omega
   obtain ⟨q,hq,he,hq1,hq2⟩:=upI_mul h2 hn
   have hP:padP n p=(upI p n - p,0):=by unfold padP;rw [if_pos hp]
   rw [hP]
   have hs:p+(upI p n - p)=upI p n:=by omega
   simp (disch:=try exact DI) only [↓PR,QR,simprocAttr,wrap_ok,hs]
   refine zcr (Padding_ret n (upI p n)) fun w1 e1=>?_
   unfold n25c24
   have d1:decide (upI p n - p < 0)=false:=decide_eq_false (by omega)
   have d2:decide (upI p n - p≥n)=false:=decide_eq_false (by omega)
   have d3:((upI p n).tmod n != 0)=false:=by rw [upI_mod hn h2];rfl
   have hn0:n≠0:=by omega
   by_cases hq':padOK n (upI p n)
   · have hU:upI (upI p n) n=upI p n:=by
      have:=upI_hit (n:=n) (p:=upI p n) (k:=upI p n) hn (by omega) (Int.le_refl _) (by
       obtain ⟨r,_,hr,hr1,_⟩:=upI_mul (v:=upI p n) (n:=n) (by omega) hn
       omega) (upI_mod hn h2)
      exact this.symm
     have hP2:padP n (upI p n)=(0,0):=by unfold padP;rw [if_pos hq',hU];simp
     rw [hP2]
     simp (disch:=try exact DI) only [↓PR,QR,simprocAttr,d1,d2,d3,hs,wrap_ok,op_rem,↓n25c23,↓n25c22,↓n25c21,↓n25c20]
     exact h _ e1
   · have hP2:padP n (upI p n)=(0,2):=by unfold padP;rw [if_neg hq']
     rw [hP2]
     simp (disch:=try exact DI) only [↓PR,QR,simprocAttr,d1,d2,d3,hs,wrap_ok,op_rem,↓n25c23,↓n25c22,↓n25c21,↓n25c20]
     exact h _ e1
 · have hP:padP n p=(0,2):=by unfold padP;rw [if_neg hp]
   rw [hP]
   simp (disch:=try exact DI) only [↓PR,QR,simprocAttr]
   exact h _ (Ext.refl _)
theorem AlignBorders_ret (w0:World) (v:Value) (d:DefD) (n p:Int) (hd:DefVal w0 v d) (hsm:DefSm d):Ret Pg 8 #[v,.int .i64 n,.int .i64 p] w0 fun r w'=>r = .bool true∧Ext w0 w':=by
 obtain ⟨mv,rfl,hM⟩:=hd
 obtain ⟨A,c,rfl,hlc,hcm,hlm,hel⟩:=SliceOf.open hM
 refine n25s (R:=retR _) ?_;unfold n25
 rw [op_boxA]
 have hBW:=ElemAt.new (w:=w0) (defCells d (.slice A d.msgs.length c)) (24)
 have eW:Ext w0 (w0.alloc (Obj.cells (List.toArray (defCells d (.slice A d.msgs.length c))) (24))):=(Ext.refl _).alloc _
 generalize (w0.alloc (Obj.cells (List.toArray (defCells d (.slice A d.msgs.length c))) (24)))=W at hBW eW ⊢
 have hdv:∀ w,Ext w0 w→DefVal w (.agg #[.string d.name,.slice A d.msgs.length c,.string d.start]) d:=fun w e=>⟨_,rfl,hM.ext e⟩
 refine zcr (Padding_ret n p) fun w1 e1=>?_
 refine bord_pad fun w2 e2=>?_
 have f2:=e1.trans e2
 have E2:=eW.trans f2
 clear e1 e2
 simp (disch:=try exact DI) only [↓PR,QR,simprocAttr,hBW.c3 f2]
 refine callK_ret (fits14_ret _ _ d (hdv _ E2) hsm) ?_
 rintro _ w3 ⟨b,rfl,hfit,e3⟩
 have f3:=f2.trans e3
 have E3:=eW.trans f3
 have hW3:=hBW.c3 f3
 unfold n25c19
 cases b with
 | false =>
  simp (disch:=try exact DI) only [↓PR,QR,simprocAttr,↓n25c18,↓n25c17]
  refine zcr (known14_ret _) fun w4 e4=>?_
  simp (disch:=try exact DI) only [↓PR,QR,simprocAttr]
  exact ⟨by trivial,E3.trans e4⟩
 | true =>
 have ht:=fits_calm (hfit rfl)
 by_cases h12:(12:Int) < d.msgs.length
 · have d1:decide ((d.msgs.length:Int) > 12)=true:=decide_eq_true h12
   simp (disch:=try exact DI) only [↓PR,QR,simprocAttr,d1,hW3,↓n25c18,↓n25c17]
   refine zcr (known14_ret _) fun w4 e4=>?_
   simp (disch:=try exact DI) only [↓PR,QR,simprocAttr]
   exact ⟨by trivial,E3.trans e4⟩
 have d1:decide ((d.msgs.length:Int) > 12)=false:=decide_eq_false h12
 simp (disch:=try exact DI) only [↓PR,QR,simprocAttr,d1,hW3,↓n25c18]
 refine zcr (Aligned_ret _ d (hdv _ E3) ht) fun w4 e4=>?_
 have f4:=f3.trans e4
 have E4:=eW.trans f4
 cases hfl:flawedA d with
 | true =>
  simp (disch:=try exact DI) only [↓PR,QR,simprocAttr,↓n25c17]
  refine zcr (known14_ret _) fun w5 e5=>?_
  simp (disch:=try exact DI) only [↓PR,QR,simprocAttr]
  exact ⟨by trivial,E4.trans e5⟩
 | false =>
 obtain ⟨hck,hal⟩:=aligned_msg hfl
 simp (disch:=try exact DI) only [↓PR,QR,simprocAttr,↓n25c17]
 refine loop1_intro (fun i w=>∃ k:Nat,i = .int .i64 k∧k≤d.msgs.length∧Ext W w) (fun i _=>d.msgs.length - (intOf i).toNat) ⟨0,rfl,by omega,f4⟩ ?_
 rintro _ w5 ⟨k,rfl,hk,f5⟩
 have E5:=eW.trans f5
 unfold n25c16
 rcases drop_cases hk with ⟨m,hm,hdr,hlt,hdec⟩ | ⟨hk,hdr,hdec⟩
 · obtain ⟨b,o,cs,rfl,hl,hA,fv,rfl,hF⟩:=hel k m hm
   have hF':=hF
   obtain ⟨A',c',rfl,hlc',hcm',hlm',hel'⟩:=SliceOf.open hF
   obtain ⟨hokM,hl1,hl40⟩:=valid_okM hck (List.mem_of_getElem? hm)
   have hw:=hal m (List.mem_of_getElem? hm)
   have hE:msgE d k=0:=by unfold msgE;rw [if_neg (by simp [hck]),if_neg (by omega)]
   have hL:msgL d k=m.fields:=by unfold msgL;rw [if_pos hE,Int.toNat_natCast,hm]
   have hO:∀ i:Nat,i < m.fields.length→offsetP d k i=(endO (m.fields.take i),0):=by
    intro i hi
    unfold offsetP
    rw [if_neg (by simp [hE]),hL,if_neg (by omega),atO_hit (by omega) rfl]
   have hidx:∀ (w:World) (QP:List PanicEntry→World→Prop) (K:Value→World→Prop),opV Pg (Instr.indexAt 22 (.slice (some ⟨b,o,none⟩) d.msgs.length c) (.int .i64 k)) QP w K=K (.pointer (some ⟨b,o+k*2,none⟩)) w:=fun w QP K=>op_indexN Tryz.underlying22 ty44 _ _ _ _ _ k hlt
   simp (disch:=try exact DI) only [↓PR,QR,simprocAttr,hBW.c3 f5,hdec]
   unfold n25c15
   simp (disch:=try exact DI) only [↓PR,QR,simprocAttr,hBW.c3 f5,hidx,(hA.c2 E5).1,(hA.c2 E5).2]
   refine loop2_intro (fun a i w=>∃ j:Nat,a = .bool (padsB (m.fields.take j))∧i = .int .i64 j∧j≤m.fields.length∧Ext W w) (fun _ i _=>m.fields.length - (intOf i).toNat) ⟨0,rfl,rfl,by omega,f5⟩ ?_
   rintro _ _ w6 ⟨j,rfl,rfl,hj,f6⟩
   have E6:=eW.trans f6
   unfold n25c14
   rcases drop_cases hj with ⟨x,hx,hdr',hlt',hdec'⟩ | ⟨hj,hdr',hdec'⟩
   · obtain ⟨b2,o2,cs2,rfl,hl2,hA2,hE2⟩:=hel' j x hx
     obtain ⟨tv,cv,rfl,hT,hC,ht1,hc1⟩:=hE2.op
     simp (disch:=try exact DI) only [↓PR,QR,simprocAttr,hdec']
     unfold n25c13
     try unfold X0
     try unfold L0
     rw [op_indexN Tryz.underlying42 ty38 _ _ _ _ _ j hlt',op_load ((hA2.ext E6).loads ty38 rfl)]
     simp (disch:=try exact DI) only [↓PR,QR,simprocAttr]
     have eX:Ext w6 (w6.alloc (.cells (fieldCells x tv cv).toArray 38)):=ee
     have oX:=heap_new w6 (fieldCells x tv cv).toArray 38
     generalize hX:(w6.alloc (.cells (fieldCells x tv cv).toArray 38))=X at eX oX ⊢
     clear hX
     generalize w6.heap.size=px at oX ⊢
     simp (disch:=try exact DI) only [↓PR,QR,simprocAttr,hBW.c3 (f6.trans eX)]
     have f7:=f6.trans eX
     refine zcr (Offset_ret _ d k j (hdv _ (eW.trans f7)) ht) fun w8 e8=>?_
     have f8:=f7.trans e8
     have o8:=e8.obj oX
     rw [hO j hlt']
     dsimp only
     have hB:=endO_bounds (l:=m.fields.take j) fun g hg=>hokM.1 g (List.mem_of_mem_take hg)
     have d2:decide (endO (m.fields.take j) < 0)=false:=decide_eq_false (by omega)
     have d3:decide (endO (m.fields.take j) > 7)=false:=decide_eq_false (by omega)
     simp (disch:=try exact DI) only [↓PR,QR,simprocAttr,d2,d3,↓n25c6,↓n25c5,↓n25c4,(cells_of_heap o8).1]
     refine zcr (Needs_ret _ _ x ⟨tv,cv,rfl,hT.ext (eW.trans f8),hC.ext (eW.trans f8)⟩) fun w9 e9=>?_
     have f9:=f8.trans e9
     have o9:=e9.obj o8
     have hst:=padsB_step hx
     have d3':decide (7 < endO (m.fields.take j))=false:=decide_eq_false (by omega)
     have hne:needsB x=true→(endO (m.fields.take j) != 0)=false:=fun h=>by rw [border_field hw hx h];rfl
     have fin:∀ (z:Bool),z=padsB (m.fields.take (j+1))→(∃ j':Nat,Value.bool z = .bool (padsB (m.fields.take j'))∧Value.int .i64 ((j+1:Nat):Int) = .int .i64 j'∧j'≤m.fields.length∧Ext W w9)∧m.fields.length - (intOf (Value.int .i64 ((j+1:Nat):Int))).toNat < m.fields.length - (intOf (Value.int .i64 (j:Int))).toNat:=by
      rintro z rfl
      exact ⟨⟨j+1,rfl,rfl,by omega,f9⟩,meas_lt hlt'⟩
     unfold n25c3
     cases hnb:needsB x with
     | false=>cases hpb:padsB (m.fields.take j)<;>rw [hpb] at hst<;>simp (disch:=try exact DI) only [↓PR,QR,simprocAttr,d3',↓n25c2,↓n25c1,(cells_of_heap o9).1]<;>exact fin _ (by rw [hst];first | rfl | simp)
     | true =>
      have hn0:=hne hnb
      cases hpb:padsB (m.fields.take j)<;>rw [hpb] at hst<;>simp (disch:=try exact DI) only [↓PR,QR,simprocAttr,d3',hn0,↓n25c2,↓n25c1,(cells_of_heap o9).1]<;>exact fin _ (by rw [hst];first | rfl | simp)
   · subst hj
     simp (disch:=try exact DI) only [↓PR,QR,simprocAttr,hdec',hBW.c3 f6]
     refine zcr (End_ret _ d k (hdv _ E6) ht) fun w7 e7=>?_
     have f7:=f6.trans e7
     unfold n25c12
     simp (disch:=try exact DI) only [↓PR,QR,simprocAttr,hBW.c3 f7]
     refine zcr (Fixed_ret _ d k (hdv _ (eW.trans f7)) ht) fun w8 e8=>?_
     have f8:=f7.trans e8
     rw [hE,hL,border_end hw,List.take_length]
     have fin:(∃ k':Nat,Value.int .i64 ((k+1:Nat):Int) = .int .i64 k'∧k'≤d.msgs.length∧Ext W w8)∧d.msgs.length - (intOf (Value.int .i64 ((k+1:Nat):Int))).toNat < d.msgs.length - (intOf (Value.int .i64 (k:Int))).toNat:=⟨⟨k+1,rfl,by omega,f8⟩,meas_lt hlt⟩
     unfold n25c11
     cases hpb:padsB m.fields with
     | true =>
      simp (disch:=try exact DI) only [↓PR,QR,simprocAttr,↓n25c10,↓n25c9,↓n25c8,↓n25c7]
      exact fin
     | false =>
      have d4:((fixO m.fields).tmod 8 != 0)=false:=by rw [border_fix hokM.1 hw hpb];rfl
      simp (disch:=try exact DI) only [↓PR,QR,simprocAttr,d4,↓n25c10,↓n25c9,↓n25c8,↓n25c7]
      exact fin
 · subst hk
   simp (disch:=try exact DI) only [↓PR,QR,simprocAttr,hBW.c3 f5,hdec]
   refine zcr (known14_ret _) fun w6 e6=>?_
   simp (disch:=try exact DI) only [↓PR,QR,simprocAttr]
   exact ⟨by trivial,E5.trans e6⟩
end
end Go.Proofs.YtdfhjlggcdemhaaGreat
namespace Go.Proofs.YtdfhjlggcdemhaaGreat
open Sw
open Go.ChangeShapes Go.WideShapes Go.RowKit Go.ChangeAt Go.Deep
theorem aborders_own:ownKnob Pg.godebug=none:=by kernel_rfl
theorem aborders_laidOut:laidOutB Pg=true:=by kernel_rfl
theorem aborders_lifted (os:Os) (started:os.Started) (H:Type) (enc:TypeId×Value→H) :
 ReturnsInHanded {} Tryz.checked os 8 .any (Rows.alignBordersSpec.pre6 enc Pg Tryz.f8 Rows.alignBordersRow.domain false) (Rows.alignBordersSpec.post enc Pg Tryz.f8 false true false false):=by
 refine returnsInHanded_of_change_sized (C:=Tryz.checked) aborders_own started (by kernel_rfl) Tryz.func8
  (ChangeSpec.witness6 (enc:=enc) (C:=Tryz.checked) false ⟨#[],#[.agg #[.string ByteArray.empty,.slice none 0 0,.string ByteArray.empty],.int .i64 0,.int .i64 0],[]⟩ 8 (by kernel_rfl) (by kernel_rfl) (by kernel_rfl) (by kernel_rfl)) ?_
 intro W base args ds gs before hval hW _ hsz _
 have hW':=hW
 obtain ⟨p,q,hA0,hV,rfl,_,_⟩:=hW
 have hA:DataW.TrodAll enc Pg W 0 (fun _=>true) true Tryz.f8.params.toList args.toList ds p:=hA0
 rw [Tryz.params8] at hA hval hsz
 obtain ⟨v0,vs0,d0,ds0,p0,q0,ha0,rfl,rfl,h0,r0⟩:=trodAll_cons hA
 obtain ⟨v1,vs1,d1,ds1,p1,q1,ha1,rfl,rfl,h1,r1⟩:=trodAll_cons r0
 obtain ⟨v2,vs2,d2,ds2,p2,q2,ha2,rfl,rfl,h2,r2⟩:=trodAll_cons r1
 obtain ⟨rfl,rfl,rfl⟩:=trodAll_nil r2
 subst ha2 ha1
 obtain rfl:args = #[v0,v1,v2]:=by cases args;simp_all
 obtain ⟨f0,hf0,hs0⟩:=def_val (hval 0 _ v0 rfl rfl) h0 (reached_of (j:=0) hsz rfl rfl)
 obtain ⟨n1,rfl,_,_,hw1⟩:=open_int Tryz.underlying3 (hval 1 _ v1 rfl rfl) h1
 obtain ⟨n2,rfl,_,_,hw2⟩:=open_int Tryz.underlying3 (hval 2 _ v2 rfl rfl) h2
 refine Calls.mono (AlignBorders_ret W v0 f0 n1 n2 hf0 hs0) fun e W' ⟨v,he,hv,hx⟩=>?_
 subst he hv
 exact ⟨_,rfl,law_post aborders_laidOut (by decide +kernel) rfl hW' hx rfl Tryz.underlying4 rfl rfl rfl⟩
theorem aborders_holds:Rows.AlignBordersSaid :=
 OpenClaim.holds_of_wide 8 Tryz.f8 rfl rfl rfl rfl rfl rfl rfl ⟨rfl,rfl,rfl,rfl,rfl⟩ rfl rfl rfl rfl rfl (by kernel_rfl) Tryz.func8 (by kernel_rfl)
  (of_decide_eq_true (by kernel_rfl)) (by unfold Func.isWrapper;first | (rw [if_pos (by decide +kernel)];kernel_rfl) | (rw [if_neg (by decide +kernel)];exact ⟨rfl,rfl⟩))
  (fun os started H enc _=>aborders_lifted os started H enc)
end Go.Proofs.YtdfhjlggcdemhaaGreat
