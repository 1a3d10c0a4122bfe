/-
  phrasebooklaw14.AlignSwaps returns true for every two numbers of bits and all numbers ahead of them and behind, and leaves its arguments as they were; no condition is asked.
-/
import Derived.Test.YtdfhjlggcdemhaaGreatAw4
set_option linter.all false
set_option maxHeartbeats 4000000
set_option maxRecDepth 100000
namespace Go.Proofs.YtdfhjlggcdemhaaGreat
open Sw
open Go.RowKit (intOf Below)
variable {R:RT}
def turnA (a:Value) (w:World):Nat:=match a with
 | .pointer (some p)=>(match w.cell? p with
  | some (.int _ t)=>(2 - t).toNat
  | _=>0)
 | _=>0
theorem yie_after1 {w2:World} {p6 p7 p8 p10 p11:Nat} {many:Int} {t k n:Nat} {A:Option Addr} {cc:Nat} {ds:List Deferred} {next1:List Deferred→Value→World→Prop} (x6:w2.heap[p6]?=some (.cells #[.int .i64 many] 3 (0,0))) (x7:w2.heap[p7]?=some (.cells #[.slice A n cc] 48 (0,0))) (y10:w2.heap[p10]?=some (.cells #[.int .i64 (t:Int)] 3 (0,0))) (y11:w2.heap[p11]?=some (.cells #[.int .i64 (k:Int)] 3 (0,0)))
 (ht:t < 2) (h0:t=0→(k:Int)=min (n:Int) (max 1 many)) (h1:t=1→k=n) (hn:∀ w',w2.heap.size < w'.heap.size→w'.heap[w2.heap.size]?=some (.cells #[.int .i64 ((t+1:Nat):Int)] 3 (0,0))→Ext w2 w'→next1 ds (.pointer (some ⟨w2.heap.size,0,none⟩)) w') :
 n30c9 (.pointer (some ⟨p6,0,none⟩)) (.pointer (some ⟨p7,0,none⟩)) (.pointer (some ⟨p8,0,none⟩)) (.pointer (some ⟨p10,0,none⟩)) (.pointer (some ⟨p11,0,none⟩)) next1 ds R w2:=by
 have fin:n30c4 (.pointer (some ⟨p8,0,none⟩)) (.pointer (some ⟨p10,0,none⟩)) next1 ds R w2:=by
  unfold n30c4
  simp (disch:=try exact DI) only [↓PR,QR,simprocAttr,(cells_of_heap y10).1]
  exact hn _ (by simp only [World.size_alloc];omega) (by simpa using heap_new w2 #[.int .i64 ((t+1:Nat):Int)] 3) ee
 unfold n30c9
 have hcase:t=0∨t=1:=by omega
 rcases hcase with rfl | rfl
 · have hm:(if (if many > 1 then many else 1) < (n:Int) then (if many > 1 then many else 1) else (n:Int))=(k:Int):=by
    rw [h0 rfl]
    split<;>split<;>omega
   have d0:((((0:Nat):Int)) == 0)=true:=rfl
   have d1:((((0:Nat):Int)) == 1)=false:=rfl
   have dk:((k:Int) != (k:Int))=false:=by simp
   simp (disch:=try exact DI) only [↓PR,QR,simprocAttr,(cells_of_heap y10).1,d0,(cells_of_heap y11).1,(cells_of_heap x7).1,(cells_of_heap x6).1,hm,dk,d1,↓n30c8,↓n30c7,↓n30c6,↓n30c5]
   exact fin
 · have d0:((((1:Nat):Int)) == 0)=false:=rfl
   have d1:((((1:Nat):Int)) == 1)=true:=rfl
   have dk:((k:Int) != (n:Int))=false:=by rw [h1 rfl];simp
   simp (disch:=try exact DI) only [↓PR,QR,simprocAttr,(cells_of_heap y10).1,d0,d1,(cells_of_heap y11).1,(cells_of_heap x7).1,dk,↓n30c8,↓n30c7,↓n30c6,↓n30c5]
   exact fin
theorem yie_after2 {w2:World} {p6 p7 p8 p10 p11:Nat} {many:Int} {t k n:Nat} {A:Option Addr} {cc:Nat} {ds:List Deferred} {next1:List Deferred→Value→World→Prop} (x6:w2.heap[p6]?=some (.cells #[.int .i64 many] 3 (0,0))) (x7:w2.heap[p7]?=some (.cells #[.slice A n cc] 48 (0,0))) (y10:w2.heap[p10]?=some (.cells #[.int .i64 (t:Int)] 3 (0,0))) (y11:w2.heap[p11]?=some (.cells #[.int .i64 (k:Int)] 3 (0,0)))
 (ht:t < 2) (h0:t=0→(k:Int)=min (n:Int) (max 1 many)) (h1:t=1→k=n) (hn:∀ w',w2.heap.size < w'.heap.size→w'.heap[w2.heap.size]?=some (.cells #[.int .i64 ((t+1:Nat):Int)] 3 (0,0))→Ext w2 w'→next1 ds (.pointer (some ⟨w2.heap.size,0,none⟩)) w') :
 n30c16 (.pointer (some ⟨p6,0,none⟩)) (.pointer (some ⟨p7,0,none⟩)) (.pointer (some ⟨p8,0,none⟩)) (.pointer (some ⟨p10,0,none⟩)) (.pointer (some ⟨p11,0,none⟩)) next1 ds R w2:=by
 have fin:n30c10 (.pointer (some ⟨p8,0,none⟩)) (.pointer (some ⟨p10,0,none⟩)) next1 ds R w2:=by
  unfold n30c10
  simp (disch:=try exact DI) only [↓PR,QR,simprocAttr,(cells_of_heap y10).1]
  exact hn _ (by simp only [World.size_alloc];omega) (by simpa using heap_new w2 #[.int .i64 ((t+1:Nat):Int)] 3) ee
 unfold n30c16
 have hcase:t=0∨t=1:=by omega
 rcases hcase with rfl | rfl
 · have hm:(if (if many > 1 then many else 1) < (n:Int) then (if many > 1 then many else 1) else (n:Int))=(k:Int):=by
    rw [h0 rfl]
    split<;>split<;>omega
   have d0:((((0:Nat):Int)) == 0)=true:=rfl
   have d1:((((0:Nat):Int)) == 1)=false:=rfl
   have dk:((k:Int) != (k:Int))=false:=by simp
   simp (disch:=try exact DI) only [↓PR,QR,simprocAttr,(cells_of_heap y10).1,d0,(cells_of_heap y11).1,(cells_of_heap x7).1,(cells_of_heap x6).1,hm,dk,d1,↓n30c15,↓n30c14,↓n30c13,↓n30c12,↓n30c11]
   exact fin
 · have d0:((((1:Nat):Int)) == 0)=false:=rfl
   have d1:((((1:Nat):Int)) == 1)=true:=rfl
   have dk:((k:Int) != (n:Int))=false:=by rw [h1 rfl];simp
   simp (disch:=try exact DI) only [↓PR,QR,simprocAttr,(cells_of_heap y10).1,d0,d1,(cells_of_heap y11).1,(cells_of_heap x7).1,dk,↓n30c15,↓n30c14,↓n30c13,↓n30c12,↓n30c11]
   exact fin
theorem yields_ret (w0:World) (v:Value) (d:DefD) (i many:Int) (wv:Value) (hd:DefVal w0 v d) (ht:calm d) (hL:SliceOf w0 1 EInt wv (offsL (msgL d i))):Ret Pg 29 #[v,.int .i64 i,.int .i64 many,wv] w0 fun r w'=>r = .bool true∧Ext w0 w':=by
 obtain ⟨mv,rfl,hM⟩:=hd
 have hm1:=SliceOf.oneCell hM
 have hw1:=SliceOf.oneCell hL
 obtain ⟨hokM,hlen⟩ := @msgL_ok d i
 refine n30s (R:=retR _) ?_;unfold n30
 simp (disch:=try exact DI) only [↓PR,QR,simprocAttr]
 simp only [World.size_alloc,cells_one hw1]
 generalize hW:World.alloc (World.alloc (World.alloc (World.alloc w0 _) _) _) _=W
 have e0:Ext w0 W:=by rw [← hW];exact ee
 have o6:W.heap[w0.heap.size+1]?=some (.cells #[.int .i64 many] 3 (0,0)):=by rw [← hW];simp (disch:=try exact DI) only [↓PR,QR,simprocAttr]
 have o7:W.heap[w0.heap.size+1+1]?=some (.cells #[wv] 48 (0,0)):=by rw [← hW];simp (disch:=try exact DI) only [↓PR,QR,simprocAttr]
 have o8:W.heap[w0.heap.size+1+1+1]?=some (.cells #[.bool false] 4 (0,0)):=by rw [← hW];simp (disch:=try exact DI) only [↓PR,QR,simprocAttr]
 clear hW
 generalize hp6:w0.heap.size+1=p6 at *
 generalize hp7:p6+1=p7 at *
 generalize hp8:p7+1=p8 at *
 refine callK_ret (Offsets_ret _ d i ⟨_,rfl,hM.ext e0⟩ ht) ?_
 rintro _ w1 ⟨p5,rfl,⟨w1',ea,hIt,eb⟩,e1⟩
 obtain ⟨fv,hOff⟩:=hIt.off
 have E1:=e0.trans e1
 have x6:=e1.obj o6
 have x7:=e1.obj o7
 have x8:=e1.obj o8
 have hL1:=hL.ext keptInt E1
 generalize msgL d i=l at hOff hL1 hokM hlen
 clear hIt o6 o7 o8 hL
 obtain ⟨A,cc,rfl,hlc,hcm,hlm,hel⟩:=SliceOf.open hL1
 rw [offsL_len] at *
 unfold n30c20
 simp (disch:=try exact DI) only [↓PR,QR,simprocAttr]
 unfold n30c19
 simp (disch:=try exact DI) only [↓PR,QR,simprocAttr]
 have l8:=(Array.getElem?_eq_some_iff.1 x8).1
 have o10:=heap_new w1 #[.int .i64 0] 3
 have eX:Ext w1 (w1.alloc (Obj.cells #[.int .i64 0] 3)):=ee
 generalize (w1.alloc (Obj.cells #[.int .i64 0] 3))=X at o10 eX ⊢
 refine loopM1_intro (fun ds a w'=>∃ (p10:Nat) (t:Nat),a = .pointer (some ⟨p10,0,none⟩)∧t≤2∧w1.heap.size≤p10∧w'.heap[p10]?=some (.cells #[.int .i64 (t:Int)] 3 (0,0))∧Ext w1 w'∧(∃ bs:List Nat,ds=bs.map Sw.mark∧bs.Nodup∧∀ b∈bs,MarkAt b w'∧w1.heap.size≤b)) turnA ⟨w1.heap.size,0,rfl,by omega,Nat.le_refl _,o10,eX,[],rfl,by simp,by simp⟩ ?_
 rintro ds _ w2 ⟨p10,t,rfl,ht2,hp10,y10,e2,bs,rfl,hnd,hbs⟩
 have hcw:∀ (w':World) (p u:Nat),w'.heap[p]?=some (.cells #[.int .i64 (u:Int)] 3 (0,0))→turnA (.pointer (some ⟨p,0,none⟩)) w'=2 - u:=by
  intro w' p u h
  unfold turnA
  simp only
  rw [(cells_of_heap h).1 0]
  show ((2:Int) - (u:Int)).toNat=2 - u
  omega
 unfold n30c18
 by_cases ht:t < 2
 · have dt:decide ((t:Int) < 2)=true:=by simp;omega
   simp (disch:=try exact DI) only [↓PR,QR,simprocAttr,(cells_of_heap y10).1,dt]
   unfold n30c17
   simp (disch:=try exact DI) only [↓PR,QR,simprocAttr]
   have l10:p10 < w2.heap.size:=(Array.getElem?_eq_some_iff.1 y10).1
   have eB:Ext w2 (w2.alloc (Obj.cells #[.int .i64 0] 3)):=ee
   have o11:=heap_new w2 #[.int .i64 0] 3
   have hs3:(w2.alloc (Obj.cells #[.int .i64 0] 3)).heap.size=w2.heap.size+1:=by simp only [World.size_alloc]
   generalize hp11:w2.heap.size=p11 at o11 hs3 ⊢
   generalize (w2.alloc (Obj.cells #[.int .i64 0] 3))=w3 at eB o11 hs3 ⊢
   have s2:=e2.size
   let I:Nat→World→Prop:=fun k w'=>Ext w1 w'∧(∀ b∈bs,MarkAt b w')∧w'.heap[p10]?=some (.cells #[.int .i64 (t:Int)] 3 (0,0))∧w'.heap[p11]?=some (.cells #[.int .i64 (k:Int)] 3 (0,0))∧(t=0→k=0∨(k:Int) < many)
   let Ix:Nat→World→Prop:=fun c w'=>c=1∧Ext w1 w'∧(∀ b∈bs,MarkAt b w')∧w'.heap[p10]?=some (.cells #[.int .i64 (t:Int)] 3 (0,0))∧∃ k:Nat,w'.heap[p11]?=some (.cells #[.int .i64 (k:Int)] 3 (0,0))∧t=0∧(k:Int)=min (l.length:Int) (max 1 many)
   have hmk:Lasts2 w3.heap.size (fun w=>∀ b∈bs,MarkAt b w):=lasts2_marks fun b hb=>by have:=(Array.getElem?_eq_some_iff.1 (hbs b hb).1).1;omega
   have hLI:∀ k,Lasts2 w3.heap.size (I k):=fun k=>(Lasts2.from (by omega)).and (hmk.and ((Lasts2.has _ (by simp) (by simp)).and ((Lasts2.has _ (by simp) (by simp)).and (Lasts2.const _ _))))
   have hLX:∀ k,Lasts2 w3.heap.size (Ix k):=fun k=>(Lasts2.const _ _).and ((Lasts2.from (by omega)).and (hmk.and ((Lasts2.has _ (by simp) (by simp)).and (.ex fun k=>(Lasts2.has _ (by simp) (by simp)).and (Lasts2.const _ _)))))
   have hfin:∀ (w4:World),Ext w1 w4→(∀ b∈bs,MarkAt b w4)→MarkAt w3.heap.size w4→∀ w5,w4.heap.size < w5.heap.size→w5.heap[w4.heap.size]?=some (.cells #[.int .i64 ((t+1:Nat):Int)] 3 (0,0))→Ext w4 w5 →
    (∃ (p10:Nat) (t':Nat),Value.pointer (some ⟨w4.heap.size,0,none⟩) = .pointer (some ⟨p10,0,none⟩)∧t'≤2∧w1.heap.size≤p10∧w5.heap[p10]?=some (.cells #[.int .i64 (t':Int)] 3 (0,0))∧Ext w1 w5∧(∃ bs':List Nat,(Sw.mark w3.heap.size::bs.map Sw.mark)=bs'.map Sw.mark∧bs'.Nodup∧∀ b∈bs',MarkAt b w5∧w1.heap.size≤b)) ∧
    turnA (.pointer (some ⟨w4.heap.size,0,none⟩)) w5 < turnA (.pointer (some ⟨p10,0,none⟩)) w2:=by
    intro w4 e4 hm4 hmk w5 hlt5 h5 e5
    have s4:=e4.size
    refine ⟨⟨w4.heap.size,t+1,rfl,by omega,by omega,h5,e4.trans e5,w3.heap.size::bs,rfl,List.nodup_cons.2 ⟨fun hin=>?_,hnd⟩,fun b hb=>?_⟩,?_⟩
    · have:=(Array.getElem?_eq_some_iff.1 (hbs _ hin).1).1
      omega
    · rcases List.mem_cons.1 hb with rfl | hb
      · exact ⟨hmk.ext e5,by omega⟩
      · exact ⟨(hm4 b hb).ext e5,(hbs b hb).2⟩
    · rw [hcw w5 _ (t+1) h5,hcw w2 p10 t y10];omega
   refine ⟨_,_,l.length,(fun k => .int .i64 k),(fun k => .int .i64 (endO (l.take k))),OffAt p5 fv l,I,Ix,fun _ _=>False,rfl,c57,Offsets_seq p5 fv l hokM.1,⟨e2.trans eB,fun b hb=>(hbs b hb).1.ext eB,eB.obj y10,o11,fun _ => .inl rfl⟩,fun k w' h=>hOff.ext h.1,hLI,hLX,fun _=>Lasts2.const _ _,?_,?_,?_,?_⟩
   · intro Rk hRk j w4 hj hI4 hR4 hlt hready
     refine ⟨hready,fun w5 hbz=>?_⟩
     have hR5:=hRk _ _ (KR.busied hbz) hR4
     obtain ⟨e5,hm5,q10,q11,hjm⟩:=(hLI j).busied hbz (Nat.le_succ _) hI4
     obtain ⟨b,o,cs,rfl,_,hE,hcs⟩:=hel j _ (offsL_get hj)
     subst hcs
     have hge:decide ((j:Int)≥(l.length:Int))=false:=by simp;omega
     have hjj:((j:Int) != (j:Int))=false:=by simp
     have hss:(endO (l.take j) != endO (l.take j))=false:=by simp
     unfold n30c3
     simp (disch:=try exact DI) only [↓PR,QR,simprocAttr,(cells_of_heap q11).1,(cells_of_heap (e5.obj x7)).1,hge,hjj,hE.c1 e5,hss,↓n30c2]
     unfold n30c1
     have hw:IntKind.i64.wrap ((j:Int)+1)=((j+1:Nat):Int):=by rw [wrap_ok (by omega) (by omega)];omega
     have r11:(w5.setCell ⟨p11,0,none⟩ (.int .i64 ((j+1:Nat):Int))).heap[p11]?=some (.cells #[.int .i64 ((j+1:Nat):Int)] 3 (0,0)):=by simpa using heap_set (o:=0) q11 (.int .i64 ((j+1:Nat):Int))
     have r10:=(Only.setCell w5 p11 0 (.int .i64 ((j+1:Nat):Int)) p10 (by omega)).trans q10
     have e6:Ext w1 (w5.setCell ⟨p11,0,none⟩ (.int .i64 ((j+1:Nat):Int))):=e5.setCell (by show w1.heap.size≤p11;omega) _
     have hm6:∀ b∈bs,MarkAt b (w5.setCell ⟨p11,0,none⟩ (.int .i64 ((j+1:Nat):Int))):=fun b hb=>(hm5 b hb).setCell _ _
     have hR6:=hRk _ _ (KR.setCell (KR.refl _ w5) p11 0 (.int .i64 ((j+1:Nat):Int)) (.inl (by omega))) hR5
     have x6':=e5.obj x6
     have hcase:t=0∨t=1:=by omega
     rcases hcase with ht0 | ht1
     · have d0:((t:Int) == 0)=true:=by rw [ht0];rfl
       by_cases hmy:((j+1:Nat):Int)≥many
       · have dm:decide (((j+1:Nat):Int)≥many)=true:=by simpa using hmy
         simp (disch:=try exact DI) only [↓PR,QR,simprocAttr,(cells_of_heap q11).1,(cells_of_heap q11).2,(cells_of_heap q10).1,d0,(cells_of_heap r11).1,(cells_of_heap x6').1,dm]
         refine ⟨hR6,rfl,e6,hm6,r10,j+1,r11,ht0,?_⟩
         have:=hjm ht0
         omega
       · have dm:decide (((j+1:Nat):Int)≥many)=false:=by simpa using hmy
         simp (disch:=try exact DI) only [↓PR,QR,simprocAttr,(cells_of_heap q11).1,(cells_of_heap q11).2,(cells_of_heap q10).1,d0,(cells_of_heap r11).1,(cells_of_heap x6').1,dm]
         exact ⟨hR6,e6,hm6,r10,r11,fun _ => .inr (by omega)⟩
     · have d0:((t:Int) == 0)=false:=by rw [ht1];rfl
       simp (disch:=try exact DI) only [↓PR,QR,simprocAttr,(cells_of_heap q11).1,(cells_of_heap q11).2,(cells_of_heap q10).1,d0]
       exact ⟨hR6,e6,hm6,r10,r11,fun h=>by omega⟩
   · rintro w4 ⟨e4,hm4,q10,q11,hjm⟩ hmk
     exact yie_after1 (e4.obj x6) (e4.obj x7) q10 q11 ht (fun h=>by have:=hjm h;omega) (fun _=>rfl) (hfin w4 e4 hm4 hmk)
   · rintro c w4 ⟨rfl,e4,hm4,q10,k,q11,ht0,hk⟩ hmk
     exact yie_after2 (e4.obj x6) (e4.obj x7) q10 q11 ht (fun _=>hk) (fun h=>by omega) (hfin w4 e4 hm4 hmk)
   · rintro ch w4 h
     exact h.elim
 · have dt:decide ((t:Int) < 2)=false:=by simp;omega
   have q8:=e2.obj x8
   simp (disch:=try exact DI) only [↓PR,QR,simprocAttr,(cells_of_heap y10).1,dt,(cells_of_heap q8).1,(cells_of_heap q8).2]
   have r8:(w2.setCell ⟨p8,0,none⟩ (.bool true)).heap[p8]?=some (.cells #[.bool true] 4 (0,0)):=by simpa using heap_set (o:=0) q8 (.bool true)
   refine outs_marks (w0:=w0) hnd (fun b hb=>⟨(hbs b hb).1.setCell _ _,by have:=(hbs b hb).2;have:=E1.size;omega⟩) ((E1.trans e2).setCell (by show w0.heap.size≤p8;omega) _) (fun w' e' hh=>?_)
   have z8:=hh _ _ has_nd r8
   simp (disch:=try exact DI) only [↓PR,QR,simprocAttr,outX_nil,retV,resOne,(cells_of_heap z8).1]
   exact ⟨by trivial,e'⟩
end Go.Proofs.YtdfhjlggcdemhaaGreat
namespace Go.Sw
open Go.ChangeShapes Go.WideShapes Go.RowKit Go.ChangeAt Go.Deep
theorem list_of {α:Type} {p:Nat→α→Prop}:∀ (n:Nat),(∀ i,i < n→∃ x,p i x)→∃ l:List α,l.length=n∧∀ k x,l[k]?=some x→p k x
 | 0,_=>⟨[],rfl,fun k x h=>by simp at h⟩
 | n+1,h=>by
  obtain ⟨l,hl,hp⟩:=list_of n (fun i hi=>h i (by omega))
  obtain ⟨x,hx⟩:=h n (by omega)
  refine ⟨l++[x],by simp [hl],fun k y hy=>?_⟩
  rw [List.getElem?_append] at hy
  split at hy
  · exact hp k y hy
  · have hk:k=n:=by
     have:=(List.getElem?_eq_some_iff.1 hy).1
     simp at this
     omega
    subst hk
    simp [hl] at hy
    subst hy
    exact hx
section
variable {H:Type} {enc:TypeId×Value→H} {P:Program} {w:World} {base:Nat} {spare:Nat→Bool} {held:Bool}
theorem weightsAll_mem {e:TypeId} {m:Nat} {d:DataW H}:∀ {l:List (DataW H)},d∈l→m∈d.weights P e→m∈DataW.weightsAll P e l
 | [],h,_=>by cases h
 | a::l,h,hm=>by
  rw [DataW.weightsAll,List.mem_append]
  rcases List.mem_cons.1 h with rfl | h
  · exact .inl hm
  · exact .inr (weightsAll_mem h hm)
def Reached (P:Program) (t:TypeId) (d:DataW H):Prop:=∀ m∈d.weights P t,m≤reachBytes
theorem reached_of {ts:List TypeId} {ds:List (DataW H)} (h:(DataW.weightsEach P ts ds).all (· ≤ reachBytes)=true) {j:Nat} {t:TypeId} {d:DataW H} (ht:ts[j]?=some t) (hd:ds[j]?=some d):Reached P t d:=fun m hm=>by
 have:=List.all_eq_true.1 h _ (DataW.weights_mem_each ht hd m hm)
 simpa using this
theorem slice_of_trod {α:Type} {E:World→List Value→α→Prop} {Q:α→Prop} {t e:TypeId} {n fuel:Nat} {cs:List Value} {x:DataW H×List MemPlace} (ht:P.underlying t=some (.slice e)) (hn:P.cellsOf e=n) (hb1:1≤P.bytesOf e) (h0:0 < n)
 (hE:∀ m cs' y,DataW.trod enc P w base spare held m e cs'=some y→Reached P e y.1→∃ x,E w cs' x∧Q x) (h:DataW.trod enc P w base spare held fuel t cs=some x) (hr:Reached P t x.1):∃ v l,cs=[v]∧SliceOf w n E v l∧(∀ x∈l,Q x)∧l.length≤140737488355328:=by
 rcases open_slice ht h with ⟨rfl,_⟩ | ⟨a,len,cap,m,k,D,Pl,rfl,hb,hl,hm,hmm,hx,hel⟩
 · exact ⟨_,[],rfl,SliceOf.nil _ _ _,fun x hx=>by (cases hx),Nat.zero_le _⟩
 · have hlm:len≤m:=by rw [hmm];split<;>omega
   subst hx
   have hw0:=hr ((len+(m - len))*P.bytesOf e) (by simp only [DataW.weights,ht];simp)
   have hlen:len≤140737488355328:=by
    have:len*1≤(len+(m - len))*P.bytesOf e:=Nat.mul_le_mul (by omega) hb1
    simp only [reachBytes] at hw0
    omega
   have hD:∀ i,i < len→Reached P e (D i):=fun i hi q hq=>hr q (by
    simp only [DataW.weights,ht,List.mem_cons,List.mem_append]
    exact .inr (.inl (weightsAll_mem (List.mem_map.2 ⟨i,List.mem_range.2 hi,rfl⟩) hq)))
   obtain ⟨l,hll,hp⟩:=list_of (p:=fun i (x:α)=>∃ cs',w.cells? base (a.add (i*n)) n=some cs'∧E w cs' x∧Q x) len (fun i hi=>by
    obtain ⟨cs',h1,h2⟩:=hel i (by omega)
    rw [hn] at h1
    obtain ⟨x,hx⟩:=hE _ _ _ h2 (hD i hi)
    exact ⟨x,cs',h1,hx⟩)
   refine ⟨_,l,rfl,⟨some a,cap,by rw [hll],by rw [hll];exact hl,by simp only [maxLen] at hm;omega,fun hne=>?_⟩,fun x hx=>?_,by omega⟩
   · obtain ⟨b,o,spot⟩:=a
     have hspot:spot=none:=by
      have:0 < l.length:=List.length_pos_iff.2 hne
      obtain ⟨y,hy⟩:=getElem?_lt this
      obtain ⟨cs',h1,_⟩:=hp 0 y hy
      obtain ⟨_,h2,h3⟩:=World.cells?_some h1
      have h4:=h3 0 h0
      rw [List.getElem?_eq_getElem (by omega)] at h4
      simpa [Addr.add] using World.cell?_spot h4
     subst hspot
     refine ⟨b,o,rfl,fun k x hx=>?_⟩
     obtain ⟨cs',h1,h2,_⟩:=hp k x hx
     obtain ⟨_,h3,h4⟩:=World.cells?_some h1
     refine ⟨cs',h3,fun j v hv=>?_,h2⟩
     have h5:=h4 j (by have:=(List.getElem?_eq_some_iff.1 hv).1;omega)
     rw [hv] at h5
     simpa [Addr.add_lit] using h5
   · obtain ⟨k,hk⟩:=List.getElem?_of_mem hx
     obtain ⟨_,_,_,hq⟩:=hp k x hk
     exact hq
theorem trodAll_stays (hl:laidOutB P=true) {W W':World} (he:Ext W W'):∀ {ts:List TypeId} {vs:List Value} {ds:List (DataW H)} {ps:List MemPlace},(∀ t∈ts,P.readableRec t=true∧t < P.types.size)→(∀ x∈ps,x.block < W.heap.size) →
 DataW.TrodAll enc P W 0 (fun _=>true) true ts vs ds ps→DataW.TrodAll enc P W' 0 (fun b=>decide (b < W.heap.size)) true ts vs ds ps
 | [],_,_,_,_,_,h=>by obtain ⟨rfl,rfl,rfl⟩:=trodAll_nil h;exact trodAll_mk0
 | t::ts,_,_,_,hr,hlt,h=>by
  obtain ⟨v,vs1,d,ds1,a,b,rfl,rfl,rfl,h1,h2⟩:=trodAll_cons h
  refine ⟨a,b,?_,trodAll_stays hl he (fun t ht=>hr t (List.mem_cons_of_mem _ ht)) (fun x hx=>hlt x (List.mem_append_right _ hx)) h2,rfl⟩
  exact Below.trod hl (hr t (List.mem_cons_self ..)).1 (hr t (List.mem_cons_self ..)).2 h1 ⟨he.os,he.tape,he.output,he.size,he.block⟩ (fun x hx=>hlt x (List.mem_append_left _ hx))
theorem law_post {f:Func} {s:ChangeSpec} {W W':World} {args:Array Value} {ds gs:List (DataW H)} {before:List MemPlace} {tb:TypeId} (hl:laidOutB P=true) (hr:∀ t∈f.params.toList,P.readableRec t=true∧t < P.types.size) (hs:s.vars=[])
 (hW:DataW.Whole enc P f.params.toList s.vars false W args.toList ds gs before) (he:Ext W W') (hres:f.resultTypes = #[tb]) (htb:P.underlying tb=some .bool) (hfn:(s.fn H ds).results=[.lit (.bool true)]) (hargs:(s.fn H ds).args=ds) (hvars:(s.fn H ds).vars=[]) :
 s.post enc P f false true false false W args (.bool true) W':=by
 have hW':=hW
 obtain ⟨p,q,hA,hV,rfl,_,_⟩:=hW
 rw [hs] at hV
 obtain ⟨rfl,rfl⟩:=trodVars_none hV
 have hlt:∀ x∈p,x.block < W.heap.size:=fun x hx=>hW'.lt x (by simpa using hx)
 rw [List.append_nil] at hW'
 refine ⟨ds,[],p,[],p,[],hW',?_,?_,?_,Below.frame ⟨he.os,he.tape,he.output,he.size,he.block⟩ _,fun h=>by cases h⟩
 · rw [List.append_nil,hfn,hres]
   exact trodAll_mk1 (shut_bool htb _)
 · rw [List.append_nil,hargs]
   exact trodAll_stays hl he hr hlt hA
 · rw [List.append_nil,hvars,hs]
   exact rfl
end
end Go.Sw
namespace Go.Proofs.YtdfhjlggcdemhaaGreat
open Sw
open Go.RowKit (intOf Below)
theorem pads_true (w0:World) (n p want no:Int) (h:padP n p=(want,no)):Ret Pg 48 #[.int .i64 n,.int .i64 p,.int .i64 want,.int .i64 no] w0 fun r w'=>r = .bool true∧Ext w0 w':=by
 refine n29s (R:=retR _) ?_;unfold n29
 refine zcr (Padding_ret n p) fun w1 e1=>?_
 rw [h]
 have d1:(want == want)=true:=by simp
 have d2:(no == no)=true:=by simp
 unfold n29c1
 simp (disch:=try exact DI) only [↓PR,QR,simprocAttr,d1,d2]
 exact ⟨by trivial,e1⟩
theorem known14_ret (w0:World):Ret Pg 15 #[] w0 fun r w'=>r = .bool true∧Ext w0 w':=by
 have hcg:calm (gD gF):=calm_g gF_plain (by decide)
 have hc1:calm (gD (gL 1)):=calm_g (by decide) (by decide)
 have hc2:calm (gD (gL 2)):=calm_g (by decide) (by decide)
 have hE:msgE (gD gF) 0=0:=by decide +kernel
 have hL:msgL (gD gF) 0=gF:=by decide +kernel
 have f1:flawedA (gD (gL 1))=true:=by unfold flawedA;rw [al_1];rfl
 have f2:flawedA (gD (gL 2))=true:=by unfold flawedA;rw [al_2];rfl
 have fg:flawedA (gD gF)=false:=by unfold flawedA;rw [al_g];rfl
 refine n27s (R:=retR _) ?_;unfold n27
 refine callK_ret (given_ret _) ?_
 rintro _ w1 ⟨bf1,bm1,rfl,_,_,_,hO1,hm1,e1⟩
 refine zcr (End_ret _ (gD gF) 0 (one_def hm1 (own_fields hO1 gF_plain)) hcg) fun w2 e2=>?_
 rw [hE,hL,en_g]
 unfold n27c17
 simp (disch:=try exact DI) only [↓PR,QR,simprocAttr]
 refine callK_ret (given_ret _) ?_
 rintro _ w3 ⟨bf3,bm3,rfl,_,_,_,hO3,hm3,e3⟩
 refine zcr (Fixed_ret _ (gD gF) 0 (one_def hm3 (own_fields hO3 gF_plain)) hcg) fun w4 e4=>?_
 rw [hE,hL,fx_g]
 have E4:=e1.trans (e2.trans (e3.trans e4))
 unfold n27c16
 simp (disch:=try exact DI) only [↓PR,QR,simprocAttr]
 refine callK_ret (less_ret _ 1 (.inl rfl)) ?_
 rintro v5 w5 ⟨hd5,e5⟩
 refine zcr (alCheck_ret _ v5 _ hd5 hc1) fun w6 e6=>?_
 rw [al_1,f1]
 have E6:=E4.trans (e5.trans e6)
 unfold n27c15
 simp (disch:=try exact DI) only [↓PR,QR,simprocAttr]
 have eX:Ext w6 (w6.alloc (.cells #[.int .i64 0,.int .i64 2,.int .i64 12] 29)):=ee
 have oX:=heap_new w6 #[.int .i64 0,.int .i64 2,.int .i64 12] 29
 generalize (w6.alloc (.cells #[.int .i64 0,.int .i64 2,.int .i64 12] 29))=X at eX oX ⊢
 refine callK_ret (less_ret _ 2 (.inr rfl)) ?_
 rintro v7 w7 ⟨hd7,e7⟩
 refine zcr (alCheck_ret _ v7 _ hd7 hc2) fun w8 e8=>?_
 rw [al_2,f2]
 unfold n27c14
 simp (disch:=try exact DI) only [↓PR,QR,simprocAttr]
 simp only [World.size_setCell,World.size_alloc]
 generalize hY:World.alloc (World.alloc w8 _) _=Y
 have eY:Ext w8 Y:=by rw [← hY];exact ee
 have o7:Y.heap[w8.heap.size]?=some (.cells #[.int .i64 0,.int .i64 2,.int .i64 12] 29 (0,0)):=by rw [← hY];simp (disch:=try exact DI) only [↓PR,QR,simprocAttr]
 have o9:Y.heap[w8.heap.size+1]?=some (.cells #[.int .i64 0,.int .i64 2,.int .i64 12] 29 (0,0)):=by rw [← hY];simp (disch:=try exact DI) only [↓PR,QR,simprocAttr]
 clear hY
 have x5:=(e7.trans (e8.trans eY)).obj oX
 have E9:=E6.trans (eX.trans (e7.trans (e8.trans eY)))
 clear e7 e8 eY hd7 hd5 e5 e6 oX eX E4 E6 hO1 hO3 hm1 hm3 e1 e2 e3 e4
 generalize w8.heap.size=p7 at o7 o9 ⊢
 generalize w6.heap.size=p5 at x5 ⊢
 refine callK_ret (given_ret _) ?_
 rintro _ w10 ⟨bf,bm,rfl,_,_,_,hO,hm,e10⟩
 unfold n27c13
 simp (disch:=try exact DI) only [↓PR,QR,simprocAttr]
 have hS:=SliceOf.new1 (E:=EInt) (fun n=>Value.int .i64 n) (fun _ _=>rfl) w10 [0,3,4,0] 3 (by decide)
 have eZ:Ext w10 (w10.alloc (.cells (([0,3,4,0]:List Int).map (fun n=>Value.int .i64 n)).toArray 3)):=ee
 refine zcr (yields_ret (w10.alloc (.cells (([0,3,4,0]:List Int).map (fun n=>Value.int .i64 n)).toArray 3)) _ (gD gF) 0 9 _ ((one_def hm (own_fields hO gF_plain)).ext eZ) hcg (by rw [hL,of_g];exact hS)) fun w11 e11=>?_
 have E11:=E9.trans (e10.trans (eZ.trans e11))
 have y5:=(e10.trans (eZ.trans e11)).obj x5
 have y7:=(e10.trans (eZ.trans e11)).obj o7
 have y9:=(e10.trans (eZ.trans e11)).obj o9
 clear e10 eZ e11 x5 o7 o9 hO hm hS E9
 simp (disch:=try exact DI) only [↓PR,QR,simprocAttr,↓n27c12,↓n27c11,↓n27c10,↓n27c9,↓n27c8]
 refine callK_ret (given_ret _) ?_
 rintro _ w12 ⟨bf2,bm2,rfl,_,_,_,hO,hm,e12⟩
 refine zcr (Aligned_ret _ (gD gF) (one_def hm (own_fields hO gF_plain)) hcg) fun w13 e13=>?_
 rw [fg]
 have z5:=(e12.trans e13).obj y5
 have z7:=(e12.trans e13).obj y7
 have z9:=(e12.trans e13).obj y9
 have E13:=E11.trans (e12.trans e13)
 simp (disch:=try exact DI) only [↓PR,QR,simprocAttr,↓n27c7,↓n27c6,↓n27c5,↓n27c4,(cells_of_heap z5).1,(cells_of_heap z7).1,(cells_of_heap z9).1]
 refine zcr (pads_true _ 4 3 1 0 (by decide +kernel)) fun w14 e14=>?_
 simp (disch:=try exact DI) only [↓PR,QR,simprocAttr,↓n27c3]
 refine zcr (pads_true _ 16 24 8 0 (by decide +kernel)) fun w15 e15=>?_
 simp (disch:=try exact DI) only [↓PR,QR,simprocAttr,↓n27c2]
 refine zcr (pads_true _ 8 8 0 0 (by decide +kernel)) fun w16 e16=>?_
 simp (disch:=try exact DI) only [↓PR,QR,simprocAttr,↓n27c1]
 refine zcr (pads_true _ 3 0 0 2 (by decide +kernel)) fun w17 e17=>?_
 simp (disch:=try exact DI) only [↓PR,QR,simprocAttr]
 exact ⟨by trivial,E13.trans (e14.trans (e15.trans (e16.trans e17)))⟩
end Go.Proofs.YtdfhjlggcdemhaaGreat
namespace Go.Proofs.YtdfhjlggcdemhaaGreat
open Sw
open Go.RowKit (intOf Below)
def nmB (i:Nat):ByteArray:=⟨#[102,UInt8.ofNat (97+i / 26),UInt8.ofNat (97+i % 26)]⟩
def uF (i n:Nat):FieldD:={ zeroF with name:=nmB i,kind:=1,bits:=(n:Int) }
def pF (i:Nat):FieldD:={ zeroF with name:=nmB i,kind:=10,bits:=4 }
def swF (p:Nat×Nat):FieldD:=if 24 < 1+p.2 % 32 then pF p.1 else uF p.1 (1+p.2 % 32)
theorem swF_name (p:Nat×Nat):(swF p).name=nmB p.1:=by unfold swF;split<;>rfl
theorem swF_plain (p:Nat×Nat):(swF p).terms=[]∧(swF p).cases=[]:=by unfold swF;split<;>exact ⟨rfl,rfl⟩
theorem nmB_inj {i j:Nat} (hi:i < 38) (hj:j < 38) (h:nmB i=nmB j):i=j:=by
 have key:∀ i j:Fin 38,nmB i=nmB j→i=j:=by decide +kernel
 have:=key ⟨i,hi⟩ ⟨j,hj⟩ h
 exact congrArg Fin.val this
theorem nmB_name {i:Nat} (hi:i < 38):nameB (nmB i)=true:=by
 have key:∀ i:Fin 38,nameB (nmB i)=true:=by decide +kernel
 exact key ⟨i,hi⟩
theorem sw_exam {bef:List FieldD} {D S:List (ByteArray×Value)} {p:Nat×Nat} (hi:p.1 < 38) (hb:∀ g∈bef,g.name≠nmB p.1):examineC bef D S (swF p)=0:=by
 have h1:nameB (swF p).name=true:=by rw [swF_name];exact nmB_name hi
 have h2:(!bef.any fun o=>decide (o.name=(swF p).name))=true:=by
  rw [swF_name,Bool.not_eq_true',List.any_eq_false]
  intro g hg
  simpa using hb g hg
 have h3:decide (1≤(swF p).kind∧(swF p).kind≤12)=true:=by
  unfold swF
  split<;>rfl
 have h4:decide (clearK (swF p)=bareF (swF p))=true:=by
  apply decide_eq_true
  unfold swF
  split
  · unfold clearK
    simp only [show (pF p.1).kind=10 from rfl]
    rfl
  · unfold clearK
    simp only [show (uF p.1 (1+p.2 % 32)).kind=1 from rfl]
    rfl
 have h5:checkC bef D S (swF p)=0:=by
  unfold swF
  split
  · rfl
  · rename_i hn
    rw [show checkC bef D S (uF p.1 (1+p.2 % 32))=orC (needC (bitsB (uF p.1 (1+p.2 % 32))) 6) (withinC (topF (uF p.1 (1+p.2 % 32))) 0 [0,0]) from rfl]
    have hbits:bitsB (uF p.1 (1+p.2 % 32))=true:=by
     unfold bitsB
     have b1:decide (1≤(uF p.1 (1+p.2 % 32)).bits)=true:=decide_eq_true (by show (1:Int)≤((1+p.2 % 32:Nat):Int);omega)
     have b2:decide ((uF p.1 (1+p.2 % 32)).bits≤32)=true:=decide_eq_true (by show ((1+p.2 % 32:Nat):Int)≤32;omega)
     rw [b1,b2];rfl
    have htop:0≤topF (uF p.1 (1+p.2 % 32)):=by
     unfold topF
     have:(1:Int)≤2 ^ (uF p.1 (1+p.2 % 32)).bits.toNat:=by exact_mod_cast Nat.one_le_two_pow
     omega
    rw [hbits]
    have hd:decide ((0:Int)≤topF (uF p.1 (1+p.2 % 32)))=true:=decide_eq_true htop
    simp only [withinC,hd]
    rfl
 unfold examineC
 rw [h1,h2,h3,h4,h5]
 rfl
theorem sw_fields {D:List (ByteArray×Int)} {S:List (ByteArray×Bool)}:∀ (ps qs:List (Nat×Nat)),((qs++ps).map (·.1)).Nodup→(∀ p∈qs++ps,p.1 < 38)→fieldsP D S (qs.map swF) (ps.map swF)=(-1,0)
 | [],_,_,_=>rfl
 | p::ps,qs,hn,hb=>by
  rw [List.map_cons,fieldsP,if_pos (sw_exam (hb p (by simp)) fun g hg=>?_)]
  · have:=sw_fields (D:=D) (S:=S) ps (qs++[p]) (by simpa using hn) (by simpa using hb)
    simpa using this
  · obtain ⟨q,hq,rfl⟩:=List.mem_map.1 hg
    rw [swF_name]
    intro he
    have h1:=nmB_inj (hb q (by simp [hq])) (hb p (by simp)) he
    rw [List.map_append,List.nodup_append] at hn
    exact hn.2.2 q.1 (List.mem_map_of_mem hq) p.1 (by simp) h1
theorem sw_refs:∀ ps:List (Nat×Nat),allRefs (ps.map swF)=[]
 | []=>rfl
 | p::ps=>by
  have h0:refsF (swF p)=[]:=by unfold swF;split<;>rfl
  show refsF (swF p)++allRefs (ps.map swF)=[]
  rw [h0,sw_refs ps];rfl
theorem sw_valid {ps:List (Nat×Nat)} (hn:(ps.map (·.1)).Nodup) (hb:∀ p∈ps,p.1 < 38) (h1:1≤ps.length) (h40:ps.length≤40):(checkP (gD (ps.map swF))).2.2=0:=by
 have hr:refsM ⟨⟨#[109]⟩,ps.map swF⟩=[]:=by unfold refsM;rw [sw_refs];rfl
 have hd:depthM [] ⟨⟨#[109]⟩,ps.map swF⟩=0:=by unfold depthM;rw [hr];rfl
 have hf:fieldsP [] [] [] (ps.map swF)=(-1,0):=sw_fields ps [] (by simpa using hn) (by simpa using hb)
 have hx:nextP [] [] ⟨⟨#[109]⟩,ps.map swF⟩=(-1,0):=by
  unfold nextP
  rw [if_pos (show nameB ⟨#[109]⟩=true by decide +kernel),if_neg (by simp [lastP]),if_pos (by simp;omega),hf]
  unfold tailP
  rw [if_pos rfl,hd,if_pos (by decide)]
 unfold checkP
 rw [if_pos (show nameB (gD (ps.map swF)).name=true by show nameB ⟨#[100]⟩=true;decide +kernel),if_pos (show 1≤(gD (ps.map swF)).msgs.length∧(gD (ps.map swF)).msgs.length≤60 by simp [gD])]
 have hm:msgsP [] [] 0 (gD (ps.map swF)).msgs=(0,0,0):=by
  show msgsP [] [] 0 [⟨⟨#[109]⟩,ps.map swF⟩]=_
  rw [msgsP,hx];rfl
 rw [hm]
 unfold endP
 rw [if_pos rfl]
 have hl:(lastP (depsOf (gD (ps.map swF)).msgs) (gD (ps.map swF)).start).isSome=true:=by
  show (lastP ([]++[((⟨#[109]⟩:ByteArray),depthM [] ⟨⟨#[109]⟩,ps.map swF⟩+1)]) ⟨#[109]⟩).isSome=true
  rw [hd];decide +kernel
 rw [if_pos hl]
theorem sw_next {o:Int} {a b i j:Nat} (h0:0≤o):nextO (uF j b) (nextO (uF i a) o)=nextO (uF i a) (nextO (uF j b) o):=by
 unfold nextO
 simp only [uF,true_or,if_true]
 have h1:=Int.emod_nonneg (o+a) (b:=8) (by decide)
 have h2:=Int.emod_nonneg (o+b) (b:=8) (by decide)
 rw [Int.tmod_eq_emod_of_nonneg (a:=o+a) (by omega),Int.tmod_eq_emod_of_nonneg (a:=o+b) (by omega)]
 rw [Int.tmod_eq_emod_of_nonneg (by omega),Int.tmod_eq_emod_of_nonneg (by omega)]
 omega
theorem swF_small {i n:Nat} (h:n < 24):swF (i,n)=uF i (1+n):=by
 unfold swF
 simp only
 rw [Nat.mod_eq_of_lt (by omega),if_neg (by omega)]
theorem sw_okA {p:Nat×Nat}:okA (swF p):=by
 unfold swF
 split
 · exact ⟨fun h=>by simp [pF] at h,fun _=>rfl⟩
 · refine ⟨fun _=>?_,fun h=>by simp [uF] at h⟩
   simp only [uF];omega
theorem sw_end {P Q:List (Nat×Nat)} {i j a b:Nat} (ha:a < 24) (hb:b < 24):endO ((P++(i,a)::(j,b)::Q).map swF)=endO ((P++(j,b)::(i,a)::Q).map swF):=by
 simp only [List.map_append,List.map_cons]
 unfold endO
 rw [List.foldl_append,List.foldl_append]
 simp only [List.foldl_cons]
 have h0:0≤(P.map swF).foldl (fun o f=>nextO f o) 0:=(endO_bounds (l:=P.map swF) fun f hf=>by
  obtain ⟨p,_,rfl⟩:=List.mem_map.1 hf
  exact sw_okA).1
 rw [swF_small ha,swF_small hb,sw_next h0]
theorem sw_take {P Q:List (Nat×Nat)} {i j a b:Nat} (ha:a < 24) (hb:b < 24) (k:Nat) (hk:k≠P.length+1):endO (((P++(i,a)::(j,b)::Q).map swF).take k)=endO (((P++(j,b)::(i,a)::Q).map swF).take k):=by
 rw [← List.map_take,← List.map_take]
 by_cases h:k≤P.length
 · rw [List.take_append_of_le_length h,List.take_append_of_le_length h]
 · obtain ⟨q,rfl⟩:∃ q,k=P.length+(q+2):=⟨k - P.length - 2,by omega⟩
   rw [List.take_length_add_append,List.take_length_add_append]
   simp only [List.take_succ_cons]
   exact sw_end ha hb
def swN (a b:Nat) (ah be:List UInt8) (i:Nat):Nat:=if i < ah.length then ((ah[i]?).map (·.toNat)).getD 0 else if i=ah.length then a % 24 else if i=ah.length+1 then b % 24 else ((be[i - ah.length - 2]?).map (·.toNat)).getD 0
def swP (a b:Nat) (ah be:List UInt8):List (Nat×Nat):=(List.range (ah.length+2+be.length)).map fun i=>(i,swN a b ah be i)
section
variable {a b:Nat} {ah be:List UInt8}
theorem swP_len:(swP a b ah be).length=ah.length+2+be.length:=by simp [swP]
theorem swP_get {i:Nat} (h:i < ah.length+2+be.length):(swP a b ah be)[i]?=some (i,swN a b ah be i):=by simp [swP,h]
theorem swP_fst:(swP a b ah be).map (·.1)=List.range (ah.length+2+be.length):=by
 unfold swP
 rw [List.map_map]
 exact List.map_id _
theorem swP_split:swP a b ah be=(swP a b ah be).take ah.length++(ah.length,a % 24)::(ah.length+1,b % 24)::(swP a b ah be).drop (ah.length+2):=by
 have h1:=swP_get (a:=a) (b:=b) (ah:=ah) (be:=be) (i:=ah.length) (by omega)
 have h2:=swP_get (a:=a) (b:=b) (ah:=ah) (be:=be) (i:=ah.length+1) (by omega)
 have e1:swN a b ah be ah.length=a % 24:=by unfold swN;rw [if_neg (by omega),if_pos rfl]
 have e2:swN a b ah be (ah.length+1)=b % 24:=by unfold swN;rw [if_neg (by omega),if_neg (by omega),if_pos rfl]
 rw [e1] at h1
 rw [e2] at h2
 obtain ⟨l1,g1⟩:=List.getElem?_eq_some_iff.1 h1
 obtain ⟨l2,g2⟩:=List.getElem?_eq_some_iff.1 h2
 rw [← g1,← g2]
 rw [← List.drop_eq_getElem_cons l2,← List.drop_eq_getElem_cons l1,List.take_append_drop]
def swX (a b:Nat) (ah be:List UInt8):List (Nat×Nat):=(swP a b ah be).take ah.length++(ah.length+1,b % 24)::(ah.length,a % 24)::(swP a b ah be).drop (ah.length+2)
theorem swX_perm:(swX a b ah be).Perm (swP a b ah be):=by
 conv=>rhs;rw [swP_split]
 exact List.Perm.append_left _ (List.Perm.swap ..)
theorem swX_len:(swX a b ah be).length=ah.length+2+be.length:=by rw [swX_perm.length_eq,swP_len]
theorem sw_ok (h1:ah.length≤18) (h2:be.length≤18):(checkP (gD ((swP a b ah be).map swF))).2.2=0∧(checkP (gD ((swX a b ah be).map swF))).2.2=0:=by
 have hb:∀ p∈swP a b ah be,p.1 < 38:=by
  intro p hp
  have:=List.mem_map_of_mem (f:=(·.1)) hp
  rw [swP_fst,List.mem_range] at this
  omega
 have hn:((swP a b ah be).map (·.1)).Nodup:=by rw [swP_fst];exact List.nodup_range
 refine ⟨sw_valid hn hb (by rw [swP_len];omega) (by rw [swP_len];omega),sw_valid ?_ (fun p hp=>hb p (swX_perm.mem_iff.1 hp)) (by rw [swX_len];omega) (by rw [swX_len];omega)⟩
 exact (swX_perm.map _).nodup_iff.2 hn
theorem sw_law (k:Nat) (hk:k≠ah.length+1) (h:k≤ah.length+2+be.length):endO (((swP a b ah be).map swF).take k)=endO (((swX a b ah be).map swF).take k):=by
 rw [swP_split]
 unfold swX
 have hl:((swP a b ah be).take ah.length).length=ah.length:=by rw [List.length_take,swP_len];omega
 exact sw_take (Nat.mod_lt _ (by decide)) (Nat.mod_lt _ (by decide)) k (by rw [hl];exact hk)
theorem swX_set:(((swP a b ah be).map swF).set ah.length (swF (ah.length+1,b % 24))).set (ah.length+1) (swF (ah.length,a % 24))=(swX a b ah be).map swF:=by
 have hl:((swP a b ah be).take ah.length).length=ah.length:=by rw [List.length_take,swP_len];omega
 conv=>lhs;rw [swP_split]
 unfold swX
 simp only [List.map_append,List.map_cons]
 have hl':(((swP a b ah be).take ah.length).map swF).length=ah.length:=by rw [List.length_map,hl]
 rw [List.set_append_right _ _ (by omega),hl',Nat.sub_self,List.set_cons_zero,List.set_append_right _ _ (by omega),hl',show ah.length+1 - ah.length=1 by omega,List.set_cons_succ,List.set_cons_zero]
end
end Go.Proofs.YtdfhjlggcdemhaaGreat
namespace Go.Proofs.YtdfhjlggcdemhaaGreat
open Sw
open Go.RowKit (intOf Below)
theorem setCells_only {b:Nat}:∀ (vs:List Value) (o:Nat) (w:World),Only b w (setCells w b o vs)
 | [],_,_=>fun _ _=>rfl
 | v::vs,o,w=>fun g hg=>(setCells_only vs (o+1) (w.setCell ⟨b,o,none⟩ v) g hg).trans (Only.setCell w b o v g hg)
theorem setCells_ext {W:World} {b:Nat} (hb:W.heap.size≤b):∀ (vs:List Value) (o:Nat) {w:World},Ext W w→Ext W (setCells w b o vs)
 | [],_,_,e=>e
 | v::vs,o,w,e=>setCells_ext hb vs (o+1) (e.setCell (by exact hb) v)
theorem op_storeRow {P:Program} {QP:List PanicEntry→World→Prop} {w:World} {T n m:Nat} {z:Value} {ku:World→Prop} (h:TyInfo P T true n m z) {b:Nat} {cur:Array Value} {T':TypeId} (hc:w.heap[b]?=some (.cells cur T' (0,0))) (o:Nat) (vs:List Value) (ho:o+n≤cur.size) (hn:vs.length=n) (hv:∀ v∈vs,v.oneCell'=true) :
 opU P (Instr.storeAt T (.pointer (some ⟨b,o,none⟩)) (.agg vs.toArray)) QP w ku=ku (setCells w b o vs):=by
 refine opU_ok (u:=()) ?_
 have:=run_storeCellsA (P:=P) b o vs 0 w (fun j hj=>⟨cur[o+(0+j)]'(by omega),by rw [(cells_of_heap hc).1];exact Array.getElem?_eq_getElem (by omega)⟩) (fun j hj=>(cells_of_heap hc).2 _) hv
 simp [Instr.storeAt,Instr.sureAddr,storeVar,Sw.run_sizeOf h,cells_agg,hn,this]
end Go.Proofs.YtdfhjlggcdemhaaGreat
namespace Go.Proofs.YtdfhjlggcdemhaaGreat
open Sw
def n25c1 (t9 t10 t12:Value) (next2:KW) (R:RT) (w:World):Prop :=
 L0 38 t12 R w fun t103 w =>
 opV Pg (Instr.buildSlice 42 1 #[(0,t103)]) (panK R) w fun t104 w =>
 opV Pg (Builtin.append_ #[42,42] 42 #[t9,t104]) (panK R) w fun t105 w =>
 B0 .add 3 true t10 (.int .i64 1) R w fun t44 w =>
 next2 t105 t44 w
def n25c2 (t12:Value) (K4:World→Prop) (R:RT) (w:World):Prop :=
 F0 38 t12 0 R w fun t99 w =>
 L0 9 t99 R w fun t100 w =>
 opV Pg (Instr.build 38 #[(0,t100),(1,(.int .i64 10)),(2,(.int .i64 4))]) (panK R) w fun t101 w =>
 opU Pg (Instr.storeAt 38 t12 t101) (panK R) w fun w =>
 K4 w
def n25c3 (t9 t10 t11:Value) (next2:KW) (R:RT) (w:World):Prop :=
 B0 .quo 3 true t10 (.int .i64 26) R w fun t82 w =>
 B0 .add 3 true (.int .i64 97) t82 R w fun t83 w =>
 opV Pg (Go.convert 3 5 t83) (panK R) w fun t84 w =>
 B0 .rem 3 true t10 (.int .i64 26) R w fun t86 w =>
 B0 .add 3 true (.int .i64 97) t86 R w fun t87 w =>
 opV Pg (Go.convert 3 5 t87) (panK R) w fun t88 w =>
 opV Pg (Instr.buildSlice 64 2 #[(0,t84),(1,t88)]) (panK R) w fun t89 w =>
 opV Pg (Go.convert 64 9 t89) (panK R) w fun t90 w =>
 opV Pg (binS .add 9 true (.string { data := #[102] }) t90) (panK R) w fun t91 w =>
 B0 .rem 3 true t11 (.int .i64 32) R w fun t93 w =>
 B0 .add 3 true (.int .i64 1) t93 R w fun t94 w =>
 opV Pg (Instr.build 38 #[(0,t91),(1,(.int .i64 1)),(2,t94)]) (panK R) w fun t95 w =>
 opV Pg (Instr.alloc 38 true (.tuple #[])) (panK R) w fun t12 w =>
 opU Pg (Instr.storeAt 38 t12 t95) (panK R) w fun w =>
 F0 38 t12 2 R w fun t96 w =>
 L0 3 t96 R w fun t97 w =>
 B0 .gtr 3 true t97 (.int .i64 24) R w fun t98 w =>
 joinK (fun (w:World) =>
 n25c1 t9 t10 t12 next2 R w) fun K4 =>
 condP t98 (
 n25c2 t12 K4 R w) (
 K4 w)
def n25c4 (t2 t3 t10:Value) (K3:KV) (R:RT) (w:World):Prop :=
 opV Pg (Builtin.len_ #[64] 3 #[t2]) (panK R) w fun t48 w =>
 B0 .sub 3 false t10 t48 R w fun t49 w =>
 B0 .sub 3 true t49 (.int .i64 2) R w fun t50 w =>
 X0 64 t3 t50 R w fun t51 w =>
 L0 5 t51 R w fun t52 w =>
 opV Pg (Go.convert 5 3 t52) (panK R) w fun t53 w =>
 K3 t53 w
def n25c5 (t1 t2 t3 t10:Value) (K3:KV) (R:RT) (w:World):Prop :=
 opV Pg (Builtin.len_ #[64] 3 #[t2]) (panK R) w fun t75 w =>
 B0 .add 3 true t75 (.int .i64 1) R w fun t76 w =>
 B0 .eql 3 false t10 t76 R w fun t77 w =>
 condP t77 (
 opV Pg (Go.convert 5 3 t1) (panK R) w fun t79 w =>
 B0 .rem 3 true t79 (.int .i64 24) R w fun t80 w =>
 K3 t80 w) (
 n25c4 t2 t3 t10 K3 R w)
def n25c6 (t2 t10:Value) (K3:KV) (R:RT) (w:World):Prop :=
 X0 64 t2 t10 R w fun t61 w =>
 L0 5 t61 R w fun t62 w =>
 opV Pg (Go.convert 5 3 t62) (panK R) w fun t63 w =>
 K3 t63 w
def n25c7 (t0 t1 t2 t3 t10:Value) (K3:KV) (R:RT) (w:World):Prop :=
 opV Pg (Builtin.len_ #[64] 3 #[t2]) (panK R) w fun t67 w =>
 B0 .eql 3 false t10 t67 R w fun t68 w =>
 condP t68 (
 opV Pg (Go.convert 5 3 t0) (panK R) w fun t70 w =>
 B0 .rem 3 true t70 (.int .i64 24) R w fun t71 w =>
 K3 t71 w) (
 n25c5 t1 t2 t3 t10 K3 R w)
def n25c8 (t17 t158 t164 t167:Value) (next7:KV) (R:RT) (w:World):Prop :=
 joinK (fun (t168:Value) (w:World) =>
 pickK t158 (.bool true) t168 fun t169 =>
 condP t169 (
 R (.returned (.bool false)) w) (
 B0 .add 3 true t17 (.int .i64 1) R w fun t140 w =>
 next7 t140 w)) fun K11 =>
 guardP t158 false (
 pickK t164 t167 (.bool false) fun t168 =>
 K11 t168 w) (
 K11 undef w)
def n25c9 (t17 t145 t151 t158 t164:Value) (next7:KV) (R:RT) (w:World):Prop :=
 joinK (fun (t167:Value) (w:World) =>
 n25c8 t17 t158 t164 t167 next7 R w) fun K10 =>
 guardP t164 true (
 B0 .neq 3 false t145 t151 R w fun t167 w =>
 K10 t167 w) (
 K10 undef w)
def n25c10 (t17 t107 t145 t151 t154 t157:Value) (next7:KV) (R:RT) (w:World):Prop :=
 pickK t154 (.bool true) t157 fun t158 =>
 joinK (fun (t164:Value) (w:World) =>
 n25c9 t17 t145 t151 t158 t164 next7 R w) fun K9 =>
 guardP t158 false (
 B0 .add 3 true t107 (.int .i64 1) R w fun t162 w =>
 B0 .neq 3 false t17 t162 R w fun t163 w =>
 K9 t163 w) (
 K9 undef w)
def n25c11 (t17 t107 t145 t146 t150:Value) (next7:KV) (R:RT) (w:World):Prop :=
 opV Pg (Instr.extract t150 0) (panK R) w fun t151 w =>
 opV Pg (Instr.extract t150 1) (panK R) w fun t152 w =>
 B0 .neq 52 true t146 (.int .i64 0) R w fun t154 w =>
 joinK (fun (t157:Value) (w:World) =>
 n25c10 t17 t107 t145 t151 t154 t157 next7 R w) fun K8 =>
 guardP t154 false (
 B0 .neq 52 true t152 (.int .i64 0) R w fun t157 w =>
 K8 t157 w) (
 K8 undef w)
def n25c12 (t16 t17 t107 t144:Value) (next7:KV) (R:RT) (w:World):Prop :=
 opV Pg (Instr.extract t144 0) (panK R) w fun t145 w =>
 opV Pg (Instr.extract t144 1) (panK R) w fun t146 w =>
 L0 24 t16 R w fun t148 w =>
 C0 26 #[t148,(.int .i64 0),t17] R w fun t150 w =>
 n25c11 t17 t107 t145 t146 t150 next7 R w
def n25c13 (t185 t189:Value) (R:RT) (w:World):Prop :=
 pickK t185 t189 (.bool false) fun t190 =>
 joinK (fun (t192:Value) (w:World) =>
 pickK t190 t192 (.bool false) fun t193 =>
 R (.returned t193) w) fun K14 =>
 guardP t190 true (
 C0 15 #[] R w fun t192 w =>
 K14 t192 w) (
 K14 undef w)
def n25c14 (t173 t178 t181 t184:Value) (R:RT) (w:World):Prop :=
 pickK t181 t184 (.bool false) fun t185 =>
 joinK (fun (t189:Value) (w:World) =>
 n25c13 t185 t189 R w) fun K13 =>
 guardP t185 true (
 B0 .eql 3 false t173 t178 R w fun t189 w =>
 K13 t189 w) (
 K13 undef w)
def n25c15 (t173 t174 t177:Value) (R:RT) (w:World):Prop :=
 opV Pg (Instr.extract t177 0) (panK R) w fun t178 w =>
 opV Pg (Instr.extract t177 1) (panK R) w fun t179 w =>
 B0 .eql 52 true t174 (.int .i64 0) R w fun t181 w =>
 joinK (fun (t184:Value) (w:World) =>
 n25c14 t173 t178 t181 t184 R w) fun K12 =>
 guardP t181 true (
 B0 .eql 52 true t179 (.int .i64 0) R w fun t184 w =>
 K12 t184 w) (
 K12 undef w)
def n25c16 (t16 t172:Value) (R:RT) (w:World):Prop :=
 opV Pg (Instr.extract t172 0) (panK R) w fun t173 w =>
 opV Pg (Instr.extract t172 1) (panK R) w fun t174 w =>
 L0 24 t16 R w fun t176 w =>
 C0 27 #[t176,(.int .i64 0)] R w fun t177 w =>
 n25c15 t173 t174 t177 R w
def n25c17 (t15 t16 t17 t107:Value) (next7:KV) (R:RT) (w:World):Prop :=
 L0 24 t15 R w fun t142 w =>
 C0 26 #[t142,(.int .i64 0),t17] R w fun t144 w =>
 n25c12 t16 t17 t107 t144 next7 R w
def n25c18 (t9 t15 t16 t17 t107:Value) (next7:KV) (R:RT) (w:World):Prop :=
 opV Pg (Builtin.len_ #[42] 3 #[t9]) (panK R) w fun t137 w =>
 B0 .lss 3 false t17 t137 R w fun t138 w =>
 condP t138 (
 n25c17 t15 t16 t17 t107 next7 R w) (
 L0 24 t15 R w fun t171 w =>
 C0 27 #[t171,(.int .i64 0)] R w fun t172 w =>
 n25c16 t16 t172 R w)
def n25c19 (t9 t107 t110:Value) (R:RT) (w:World):Prop :=
 opV Pg (Instr.build 44 #[(0,(.string { data := #[109] })),(1,t9)]) (panK R) w fun t128 w =>
 opV Pg (Instr.buildSlice 22 1 #[(0,t128)]) (panK R) w fun t129 w =>
 opV Pg (Instr.build 24 #[(0,(.string { data := #[100] })),(2,(.string { data := #[109] })),(1,t129)]) (panK R) w fun t130 w =>
 opV Pg (Instr.alloc 24 true (.tuple #[])) (panK R) w fun t15 w =>
 opU Pg (Instr.storeAt 24 t15 t130) (panK R) w fun w =>
 opV Pg (Instr.build 44 #[(0,(.string { data := #[109] })),(1,t110)]) (panK R) w fun t132 w =>
 opV Pg (Instr.buildSlice 22 1 #[(0,t132)]) (panK R) w fun t133 w =>
 opV Pg (Instr.build 24 #[(0,(.string { data := #[100] })),(2,(.string { data := #[109] })),(1,t133)]) (panK R) w fun t134 w =>
 opV Pg (Instr.alloc 24 true (.tuple #[])) (panK R) w fun t16 w =>
 opU Pg (Instr.storeAt 24 t16 t134) (panK R) w fun w =>
 loop1 (fun t17 w next7 =>
 n25c18 t9 t15 t16 t17 t107 next7 R w) (.int .i64 0) w
def n25c20 (t9 t107 t110 t115 t124:Value) (C5:World→Prop) (R:RT) (w:World):Prop :=
 qV Pg C5 (Instr.indexAt 42 t110 t115) fun t126 =>
 opU Pg (Instr.storeAt 38 t126 t124) (panK R) w fun w =>
 turnK w fun C6 w =>
 n25c19 t9 t107 t110 R w
def n25c21 (t9 t107 t110:Value) (C5:World→Prop) (R:RT) (w:World):Prop :=
 qV Pg C5 (binS .add 3 true t107 (.int .i64 1)) fun t115 =>
 qV Pg C5 (binS .add 3 true t107 (.int .i64 1)) fun t118 =>
 qV Pg C5 (Instr.indexAt 42 t9 t118) fun t119 =>
 qV Pg C5 (Instr.loadAt 38 t119) fun t120 =>
 qV Pg C5 (Instr.indexAt 42 t9 t107) fun t123 =>
 qV Pg C5 (Instr.loadAt 38 t123) fun t124 =>
 qV Pg C5 (Instr.indexAt 42 t110 t107) fun t125 =>
 opU Pg (Instr.storeAt 38 t125 t120) (panK R) w fun w =>
 C5 w∧(
 n25c20 t9 t107 t110 t115 t124 C5 R w)
def n25c22 (t2 t9:Value) (R:RT) (w:World):Prop :=
 opV Pg (Builtin.len_ #[64] 3 #[t2]) (panK R) w fun t107 w =>
 opV Pg (Instr.buildSlice 42 0 #[]) (panK R) w fun t108 w =>
 opV Pg (Builtin.append_ #[42,42] 42 #[t108,t9]) (panK R) w fun t110 w =>
 drawK w fun C5 w =>
 n25c21 t9 t107 t110 C5 R w
def n25c23 (t0 t1 t2 t3 t9 t10:Value) (next2:KW) (R:RT) (w:World):Prop :=
 opV Pg (Builtin.len_ #[64] 3 #[t2]) (panK R) w fun t57 w =>
 B0 .lss 3 false t10 t57 R w fun t58 w =>
 joinK (fun (t11:Value) (w:World) =>
 n25c3 t9 t10 t11 next2 R w) fun K3 =>
 condP t58 (
 n25c6 t2 t10 K3 R w) (
 n25c7 t0 t1 t2 t3 t10 K3 R w)
def n25c24 (t0 t1 t2 t3 t9 t10:Value) (next2:KW) (R:RT) (w:World):Prop :=
 opV Pg (Builtin.len_ #[64] 3 #[t2]) (panK R) w fun t37 w =>
 B0 .add 3 true t37 (.int .i64 2) R w fun t38 w =>
 opV Pg (Builtin.len_ #[64] 3 #[t3]) (panK R) w fun t40 w =>
 B0 .add 3 false t38 t40 R w fun t41 w =>
 B0 .lss 3 false t10 t41 R w fun t42 w =>
 condP t42 (
 n25c23 t0 t1 t2 t3 t9 t10 next2 R w) (
 n25c22 t2 t9 R w)
def n25c25 (t0 t1 t2 t3 t28 t32:Value) (R:RT) (w:World):Prop :=
 pickK t28 (.bool true) t32 fun t33 =>
 condP t33 (
 C0 15 #[] R w fun t34 w =>
 R (.returned t34) w) (
 loop2 (fun t9 t10 w next2 =>
 n25c24 t0 t1 t2 t3 t9 t10 next2 R w) (Value.slice none 0 0) (.int .i64 0) w)
def n25 (t0 t1 t2 t3:Value) (R:RT) (w:World):Prop :=
 opV Pg (Builtin.len_ #[64] 3 #[t2]) (panK R) w fun t27 w =>
 B0 .gtr 3 true t27 (.int .i64 18) R w fun t28 w =>
 joinK (fun (t32:Value) (w:World) =>
 n25c25 t0 t1 t2 t3 t28 t32 R w) fun K1 =>
 guardP t28 false (
 opV Pg (Builtin.len_ #[64] 3 #[t3]) (panK R) w fun t31 w =>
 B0 .gtr 3 true t31 (.int .i64 18) R w fun t32 w =>
 K1 t32 w) (
 K1 undef w)
set_option maxHeartbeats 40000000 in
theorem n25s {t0 t1 t2 t3:Value} {R:RT} {w:World} (h:n25 t0 t1 t2 t3 R w):Calls Pg 9 #[t0,t1,t2,t3] w R:=by
 refine yD Tryz.func9 ?_
 refine zs<|zr<|zm<|zn<|zk<|zs<|zs<|sim_regionG<|yG 4<|zm<|yx h fun _ w h=>yb h fun _ w h=>zm<|zn<|yg1 3 3 false [30,31,32] 32 h (fun _ T hT h=>?_) fun σ w h=>?_
 · refine zm<|yx h fun _ w h=>yb h fun _ w h=>zn ?_
   exact zt hT h
 refine yG 1<|yp h fun _ h=>zn<|sim_end<|zk<|yC h (fun h=>zs<|zr<|yc h c15 fun _ w h=>zm<|zn<|zk<|sim_ret<|sim_then_ret<|body_ret1 rfl rfl h) fun h=>sim_skip<|zk<|zs<|zr<|zm<|zn<|zk<|zs ?_
 refine zs<|zr<|zm<|zn<|zk<|sim_block<|yl2 [9,10,11,12,35,36,37,38,39,40,41,42,43,44,45,46,47,48,49,50,51,52,53,54,55,56,57,58,59,60,61,62,63,64,65,66,67,68,69,70,71,72,73,74,75,76,77,78,79,80,81,82,83,84,85,86,87,88,89,90,91,92,93,94,95,96,97,98,99,100,101,102,103,104,105] 9 10 h fun σ w next h=>zs<|zs<|zr<|zm<|zm<|yx h fun _ w h=>yb h fun _ w h=>zm ?_
 refine yx h fun _ w h=>yb h fun _ w h=>yb h fun _ w h=>zn<|zk<|yC h (fun h=>?_) fun h=>?_
 · refine sim_skip<|zk<|zs<|sim_block<|zs<|zr<|zm<|zn<|zk<|zs<|sim_block<|zs<|zr<|zm<|zm ?_
   refine yx h fun _ w h=>yb h fun _ w h=>zm<|zn<|zk<|yJ1 [11,45,46,47,48,49,50,51,52,53,59,60,61,62,63,64,65,66,67,68,69,70,71,72,73,74,75,76,77,78,79,80] 11 h (fun _ _ hkK3 h=>?_) fun σ w h=>?_
   · refine yC h (fun h=>?_) fun h=>?_
     · refine zr<|zm<|zm<|yv h fun _ w h=>yv h fun _ w h=>yv h fun _ w h=>zm<|zn<|zk ?_
       exact zt hkK3 h
     refine zs<|zr<|zm<|zm<|yx h fun _ w h=>yb h fun _ w h=>zm<|zn<|zk<|yC h (fun h=>?_) fun h=>?_
     · refine zr<|zm<|yv h fun _ w h=>yb h fun _ w h=>zm<|zn<|zk ?_
       exact zt hkK3 h
     refine zs<|zr<|zm<|zm<|yx h fun _ w h=>yb h fun _ w h=>yb h fun _ w h=>zm<|zn<|zk<|yC h (fun h=>?_) fun h=>?_
     · refine zr<|zm<|yv h fun _ w h=>yb h fun _ w h=>zm<|zn<|zk ?_
       exact zt hkK3 h
     refine zr<|zm<|zm<|zm<|yx h fun _ w h=>yb h fun _ w h=>yb h fun _ w h=>yv h fun _ w h=>yv h fun _ w h=>yv h fun _ w h=>zm<|zn<|zk ?_
     exact zt hkK3 h
   refine sim_block_normal<|zk<|zs<|zr<|zm<|yb h fun _ w h=>yb h fun _ w h=>yv h fun _ w h=>zm<|yb h fun _ w h=>yb h fun _ w h=>yv h fun _ w h=>yS h fun _ w h=>yv h fun _ w h=>yb h fun _ w h=>?_
   refine zm<|yb h fun _ w h=>yb h fun _ w h=>yB h fun _ w h=>yv h fun _ w h=>yu h fun w h=>zn<|zk<|zs<|zs<|zr<|yv h fun _ w h=>yv h fun _ w h=>yb h fun _ w h=>zn ?_
   refine zk<|yJ0 [99,100,101] h (fun _ _ hkK4 h=>?_) fun σ w h=>?_
   · refine yC h (fun h=>?_) fun h=>?_
     · refine zr<|yv h fun _ w h=>yv h fun _ w h=>yB h fun _ w h=>yu h fun w h=>zn<|zk ?_
       exact zt hkK4 h
     refine sim_skip<|zk ?_
     exact zt hkK4 h
   refine zk<|zr<|zm<|yv h fun _ w h=>yS h fun _ w h=>yx h fun _ w h=>zm<|zn<|sim_block_normal<|zk<|zr<|zm<|yb h fun _ w h=>zm<|zn ?_
   exact zk<|⟨rfl,h⟩
 refine sim_exit<|sim_then_exit<|sim_then_exit<|sim_block_hit<|zk<|zs<|zr<|zm<|yx h fun _ w h=>zm<|zn<|zk<|zs<|zr<|yS h fun _ w h=>?_
 refine zm<|yx h fun _ w h=>zm<|zn<|zk<|zs<|yh [111,112,113,114,115,116,117,118,119,120,121,122,123,124,125,126] h fun C hC h=>yw 0 hC ?_
 refine yw 1 hC ?_
 refine yw 2 hC ?_
 refine yw 3 hC ?_
 refine ye 4 hC h fun _ h=>?_
 refine yw 5 hC ?_
 refine yw 6 hC ?_
 refine ye 7 hC h fun _ h=>?_
 refine ye 8 hC h fun _ h=>?_
 refine ye 9 hC h fun _ h=>?_
 refine yw 10 hC ?_
 refine yw 11 hC ?_
 refine ye 12 hC h fun _ h=>?_
 refine ye 13 hC h fun _ h=>?_
 refine ye 14 hC h fun _ h=>?_
 refine yo 15 ?_
 refine yu h fun w h=>zn ?_
 obtain ⟨hC,h⟩:=h
 refine ⟨hC,?_⟩
 refine ye 16 hC h fun _ h=>?_
 refine yq 17 1 ?_
 refine yu h fun w h=>zn ?_
 obtain ⟨C6,hC,h⟩:=h
 refine ⟨C6,hC,?_⟩
 refine yz<|zk<|zs<|zr<|zm<|yB h fun _ w h=>yS h fun _ w h=>yB h fun _ w h=>yv h fun _ w h=>yu h fun w h=>zn<|zk<|zs<|zr<|zm ?_
 refine yB h fun _ w h=>yS h fun _ w h=>yB h fun _ w h=>yv h fun _ w h=>yu h fun w h=>zn<|zk<|zs<|zs<|zr<|zm<|zn<|zk<|sim_block<|yl1 [8,17,18,19,20,21,135,136,137,138,139,140,141,142,143,144,145,146,147,148,149,150,151,152,153,154,155,156,157,158,159,160,161,162,163,164,165,166,167,168,169] 17 h fun σ w next h=>?_
 refine zs<|zs<|zr<|zm<|zm<|yx h fun _ w h=>yb h fun _ w h=>zn<|zk<|yC h (fun h=>?_) fun h=>?_
 · refine sim_skip<|zk<|zs<|sim_block<|zs<|zr<|yv h fun _ w h=>zm<|yc h c26 fun _ w h=>zm<|yv h fun _ w h=>yv h fun _ w h=>zm<|zm<|zn ?_
   refine zk<|zs<|zr<|yv h fun _ w h=>zm<|yc h c26 fun _ w h=>zm<|yv h fun _ w h=>yv h fun _ w h=>zm<|zm<|zn<|zk<|zs<|sim_regionG ?_
   refine yG 3<|zm<|yb h fun _ w h=>zm<|zn<|yg1 2 2 false [156,157] 157 h (fun _ T hT h=>?_) fun σ w h=>?_
   · refine zm<|yb h fun _ w h=>zn ?_
     exact zt hT h
   refine yG 2<|yp h fun _ h=>zm<|zn<|yg1 5 6 false [160,161,162,163,164] 164 h (fun _ T hT h=>?_) fun σ w h=>?_
   · refine zm<|zm<|yb h fun _ w h=>yb h fun _ w h=>zm<|zn ?_
     exact zt hT h
   refine yg1 3 11 true [165,166,167] 167 h (fun _ T hT h=>?_) fun σ w h=>?_
   · refine zm<|zm<|yb h fun _ w h=>zn ?_
     exact zt hT h
   refine yg1 1 6 false [168] 168 h (fun _ T hT h=>?_) fun σ w h=>?_
   · refine yp h fun _ h=>zn ?_
     exact zt hT h
   refine yG 1<|yp h fun _ h=>zn<|sim_end<|zk<|yC h (fun h=>zs<|zr<|zm<|zn<|zk<|sim_ret<|sim_block_ret<|sim_then_ret<|sim_then_ret<|sim_block_ret<|sim_then_ret<|body_ret1 rfl rfl h) fun h=>sim_skip<|sim_block_normal<|zk<|zr<|zm<|yb h fun _ w h=>zm<|zn ?_
   exact zk<|⟨rfl,h⟩
 refine sim_exit<|sim_then_exit<|sim_then_exit<|sim_block_hit<|zk<|zs<|zr<|yv h fun _ w h=>yc h c27 fun _ w h=>zm<|yv h fun _ w h=>yv h fun _ w h=>zm<|zm<|zn ?_
 refine zk<|zs<|zr<|yv h fun _ w h=>yc h c27 fun _ w h=>zm<|yv h fun _ w h=>yv h fun _ w h=>zm<|zm<|zn<|zk<|zs<|sim_regionG<|yG 3 ?_
 refine zm<|yb h fun _ w h=>zm<|zn<|yg1 2 2 true [183,184] 184 h (fun _ T hT h=>?_) fun σ w h=>?_
 · refine zm<|yb h fun _ w h=>zn ?_
   exact zt hT h
 refine yG 2<|yp h fun _ h=>zm<|zn<|yg1 3 6 true [187,188,189] 189 h (fun _ T hT h=>?_) fun σ w h=>?_
 · refine zm<|zm<|yb h fun _ w h=>zn ?_
   exact zt hT h
 refine yG 2<|yp h fun _ h=>zm<|zn<|yg1 1 11 true [192] 192 h (fun _ T hT h=>?_) fun σ w h=>?_
 · refine yc h c15 fun _ w h=>zn ?_
   exact zt hT h
 exact yG 2<|yp h fun _ h=>zm<|zn<|sim_end<|zk<|sim_ret<|body_ret1 rfl rfl h
end Go.Proofs.YtdfhjlggcdemhaaGreat
namespace Go.Proofs.YtdfhjlggcdemhaaGreat
open Sw
open Go.RowKit (intOf Below)
theorem setCells_get {b:Nat} {T:TypeId} {fr:Nat×Nat}:∀ (vs:List Value) (o:Nat) {w:World} {cur:Array Value},w.heap[b]?=some (.cells cur T fr)→∃ cur':Array Value,(setCells w b o vs).heap[b]?=some (.cells cur' T fr)∧cur'.size=cur.size∧∀ j,j < cur.size→cur'[j]?=if o≤j∧j < o+vs.length then vs[j - o]? else cur[j]?
 | [],o,_,cur,h=>⟨cur,h,rfl,fun j _=>by rw [if_neg (by simp)]⟩
 | v::vs,o,w,cur,h=>by
  obtain ⟨cur',h1,h2,h3⟩:=setCells_get vs (o+1) (heap_set (o:=o) h v)
  refine ⟨cur',h1,by rw [h2];simp,fun j hj=>?_⟩
  rw [h3 j (by simpa using hj)]
  by_cases hjo:j=o
  · subst hjo
    rw [if_neg (by omega),if_pos (by simp),Nat.sub_self]
    simp [Array.getElem?_setIfInBounds_self_of_lt hj]
  · by_cases hin:o+1≤j∧j < o+1+vs.length
    · rw [if_pos hin,if_pos (by simp;omega),show j - o=(j - (o+1))+1 by omega,List.getElem?_cons_succ]
    · rw [if_neg hin,if_neg (by simp;omega),Array.getElem?_setIfInBounds_ne (by omega)]
theorem setCells_elem {w:World} {b o:Nat} {T:TypeId} {cur:Array Value} {vs:List Value} (h:w.heap[b]?=some (.cells cur T (0,0))) (ho:o+vs.length≤cur.size):ElemAt (setCells w b o vs) b o vs:=by
 obtain ⟨cur',h1,h2,h3⟩:=setCells_get vs o h
 intro j v hv
 have hj:=(List.getElem?_eq_some_iff.1 hv).1
 rw [(cells_of_heap h1).1,h3 _ (by omega),if_pos (by omega),show o+j - o=j by omega]
 exact hv
theorem OwnE.setRow {α:Type} {w:World} {lo n g len cap:Nat} {T:TypeId} {enc:α→List Value} {l:List α} (h:OwnE w lo T n enc (.slice (some ⟨g,0,none⟩) len cap) l) (hn:∀ x,(enc x).length=n) (h0:0 < n) {k:Nat} (hk:k < l.length) (f:α):OwnE (setCells w g (k*n) (enc f)) lo T n enc (.slice (some ⟨g,0,none⟩) len cap) (l.set k f):=by
 rcases h.2 with ⟨hx,_⟩ | ⟨g',cap',cur,hv,hb,hg,hc,hm,hs,ht⟩
 · cases hx
 injection hv with hv hlen hv'
 injection hv with hv
 injection hv with hv
 subst hv hv' hlen
 obtain ⟨cur',h1,h2,h3⟩:=setCells_get (enc f) (k*n) hg
 have hfl:((l.set k f).flatMap enc).length=(l.set k f).length*n:=by
  generalize l.set k f=l'
  induction l' with
  | nil=>simp
  | cons a l ih=>rw [List.flatMap_cons,List.length_append,hn,ih,List.length_cons,Nat.add_mul];omega
 refine ⟨hfl,.inr ⟨g,cap,cur',by rw [List.length_set],hb,h1,by rw [List.length_set];exact hc,hm,by rw [h2];exact hs,?_⟩⟩
 have hln:l.length*n≤cur.size:=by rw [hs];exact Nat.mul_le_mul_right _ hc
 rw [List.length_set]
 apply List.ext_getElem?
 intro j
 by_cases hj:j < l.length*n
 · have hq:j / n < l.length:=Nat.div_lt_of_lt_mul (by rw [Nat.mul_comm];exact hj)
   have hr:j % n < n:=Nat.mod_lt _ h0
   have hdm:j / n*n+j % n=j:=by rw [Nat.mul_comm];exact Nat.div_add_mod j n
   rw [List.getElem?_take,if_pos hj,Array.getElem?_toList,h3 j (by omega),hn f]
   by_cases hjk:j / n=k
   · obtain ⟨u,hu⟩:=getElem?_lt (l:=enc f) (k:=j % n) (by rw [hn];exact hr)
     have:=flatMap_get hn (l.set k f) (j / n) f (j % n) u (by rw [hjk,List.getElem?_set_self hk]) hu
     rw [hdm] at this
     rw [hjk] at hdm
     rw [this,if_pos (by omega),show j - k*n=j % n by omega,hu]
   · obtain ⟨x,hx⟩:=getElem?_lt hq
     obtain ⟨u,hu⟩:=getElem?_lt (l:=enc x) (k:=j % n) (by rw [hn];exact hr)
     have a1:=flatMap_get hn (l.set k f) (j / n) x (j % n) u (by rw [List.getElem?_set_ne (by omega)];exact hx) hu
     have a2:=flatMap_get hn l (j / n) x (j % n) u hx hu
     rw [hdm] at a1 a2
     have hno:¬ (k*n≤j∧j < k*n+n):=by
      rintro ⟨p1,p2⟩
      refine hjk (Nat.div_eq_of_lt_le p1 ?_)
      rw [Nat.add_mul,Nat.one_mul];exact p2
     rw [a1,if_neg hno,← a2,← ht,List.getElem?_take,if_pos hj,Array.getElem?_toList]
 · rw [List.getElem?_eq_none (by rw [List.length_take];omega),List.getElem?_eq_none (by rw [hfl,List.length_set];omega)]
theorem op_sadd {w:World} {QP:List PanicEntry→World→Prop} {k:Value→World→Prop} (t:TypeId) (c:Bool) (a b:ByteArray) (h:a.size+b.size≤9223372036854775807):opV Pg (binS .add t c (.string a) (.string b)) QP w k=k (.string (a++b)) w:=opV_ok (by
 have h1:¬ (((a.size+b.size:Nat):Int) > IntKind.i64.max):=by
  have:IntKind.i64.max=9223372036854775807:=rfl
  omega
 simp [binS,binOp,Op.stringOp,h1]
 omega)
def twoB (x y:Int):ByteArray:=[x,y].foldl (fun r n=>r.push (UInt8.ofNat n.toNat)) ByteArray.empty
theorem op_two {w:World} {QP:List PanicEntry→World→Prop} {k:Value→World→Prop} {b:Nat} {T:TypeId} {x y:Int} (h:w.heap[b]?=some (.cells #[.int .u8 x,.int .u8 y] T (0,0))):opV Pg (Go.convert 64 9 (.slice (some ⟨b,0,none⟩) 2 2)) QP w k=k (.string (twoB x y)) w:=by
 refine opV_ok ?_
 rw [run_convert_bytes_string w _ _ 5 _ 2 2 Tryz.underlying64 Tryz.underlying5 Tryz.underlying9]
 refine run_bytesToString w ⟨b,0,none⟩ 2 2 [x,y] ?_
 have:=Sw.run_loadCellsFrom (P:=Pg) (w:=w) ⟨b,0,none⟩ 2 0 #[] [.int .u8 x,.int .u8 y] rfl (fun j v hv=>by
  rw [Addr.add_lit,Nat.zero_add,Nat.zero_add,(cells_of_heap h).1];simpa using hv)
 simpa [loadCells] using this
theorem twoB_eq {k:Nat} (h:k < 38):(⟨#[102]⟩:ByteArray)++twoB ((97+k / 26:Nat):Int) ((97+k % 26:Nat):Int)=nmB k:=by
 have key:∀ k:Fin 38,(⟨#[102]⟩:ByteArray)++twoB ((97+k.val / 26:Nat):Int) ((97+k.val % 26:Nat):Int)=nmB k.val:=by decide +kernel
 exact key ⟨k,h⟩
theorem twoB_size (x y:Int):(twoB x y).size=2:=rfl
theorem u8_ok {n:Nat} (h:n < 123):IntKind.u8.wrap (n:Int)=n:=by
 have key:∀ n:Fin 123,IntKind.u8.wrap (n.val:Int)=n.val:=by decide +kernel
 exact key ⟨n,h⟩
theorem law_c1 {R:RT} {w0 w:World} {v:Value} {l:List FieldD} {k px:Nat} {f:FieldD} {next2:Value→Value→World→Prop} (hO:OwnE w w0.heap.size 38 15 encP v l) (e:Ext w0 w) (hk:k < 38) (hl:l.length≤38) (hE:ElemAt w px 0 (encP f))
 (h:∀ v' w',OwnE w' w0.heap.size 38 15 encP v' (l++[f])→Ext w0 w'→next2 v' (.int .i64 ((k+1:Nat):Int)) w'):n25c1 v (.int .i64 (k:Int)) (.pointer (some ⟨px,0,none⟩)) next2 R w:=by
 unfold n25c1
 try unfold L0
 rw [op_load (hE.loads ty38 rfl)]
 simp (disch:=try exact DI) only [↓PR,QR,Int.reduceBEq,Int.reduceBNe,Int.reduceLT,Int.reduceLE,Int.reduceGT,Int.reduceGE,Int.reduceNeg]
 have eX:Ext w (w.alloc (.cells (encP f).toArray 38)):=ee
 have oX:=heap_new w (encP f).toArray 38
 show opV _ _ _ (w.alloc (.cells (encP f).toArray 38)) _
 generalize (w.alloc (.cells (encP f).toArray 38))=X at eX oX ⊢
 generalize w.heap.size=pX at oX ⊢
 refine append_one Tryz.underlying42 ty38 by38 rfl (by decide) (fun _=>rfl) f (encP_one f) (hO.ext eX) (ElemAt.of_heap oX) (e.trans eX).size (by omega) ?_
 rintro v' w' hO' hext
 have w5:IntKind.i64.wrap ((k:Int)+1)=((k+1:Nat):Int):=by rw [wrap_ok (by omega) (by omega)];omega
 simp (disch:=try exact DI) only [↓PR,QR,Int.reduceBEq,Int.reduceBNe,Int.reduceLT,Int.reduceLE,Int.reduceGT,Int.reduceGE,Int.reduceNeg,w5]
 exact h v' w' hO' (hext w0 (e.trans eX) (Nat.le_refl _))
theorem law_c3 {R:RT} {w0 w:World} {v:Value} {l:List FieldD} {k n:Nat} {next2:Value→Value→World→Prop} (hO:OwnE w w0.heap.size 38 15 encP v l) (e:Ext w0 w) (hk:k < 38) (hn:n < 256) (hl:l.length≤38)
 (h:∀ v' w',OwnE w' w0.heap.size 38 15 encP v' (l++[swF (k,n)])→Ext w0 w'→next2 v' (.int .i64 ((k+1:Nat):Int)) w'):n25c3 v (.int .i64 (k:Int)) (.int .i64 (n:Int)) next2 R w:=by
 have hq:(k:Int).tdiv 26=((k / 26:Nat):Int):=by rw [Int.tdiv_eq_ediv_of_nonneg (by omega)];omega
 have hr:(k:Int).tmod 26=((k % 26:Nat):Int):=by rw [Int.tmod_eq_emod_of_nonneg (by omega)];omega
 have hm:(n:Int).tmod 32=((n % 32:Nat):Int):=by rw [Int.tmod_eq_emod_of_nonneg (by omega)];omega
 have w1:IntKind.i64.wrap ((k / 26:Nat):Int)=((k / 26:Nat):Int):=wrap_ok (by omega) (by omega)
 have w2:IntKind.i64.wrap (97+((k / 26:Nat):Int))=((97+k / 26:Nat):Int):=by rw [wrap_ok (by omega) (by omega)];omega
 have w3:IntKind.i64.wrap (97+((k % 26:Nat):Int))=((97+k % 26:Nat):Int):=by rw [wrap_ok (by omega) (by omega)];omega
 have w4:IntKind.i64.wrap (1+((n % 32:Nat):Int))=((1+n % 32:Nat):Int):=by rw [wrap_ok (by omega) (by omega)];omega
 have w5:IntKind.i64.wrap ((k:Int)+1)=((k+1:Nat):Int):=by rw [wrap_ok (by omega) (by omega)];omega
 have b1:=u8_ok (n:=97+k / 26) (by omega)
 have b2:=u8_ok (n:=97+k % 26) (by omega)
 have h26:(26:Int)≠0:=by decide
 unfold n25c3
 simp (disch:=try exact DI) only [↓PR,QR,Int.reduceBEq,Int.reduceBNe,Int.reduceLT,Int.reduceLE,Int.reduceGT,Int.reduceGE,Int.reduceNeg,op_quo _ _ _ _ _ h26,hq,hr,w1,w2,w3,b1,b2]
 have e1:Ext w (w.alloc (.cells #[.int .u8 ((97+k / 26:Nat):Int),.int .u8 ((97+k % 26:Nat):Int)] 5)):=ee
 have o1:=heap_new w #[.int .u8 ((97+k / 26:Nat):Int),.int .u8 ((97+k % 26:Nat):Int)] 5
 generalize (w.alloc (.cells #[.int .u8 ((97+k / 26:Nat):Int),.int .u8 ((97+k % 26:Nat):Int)] 5))=W at e1 o1 ⊢
 have hsz:(⟨#[102]⟩:ByteArray).size+(twoB ((97+k / 26:Nat):Int) ((97+k % 26:Nat):Int)).size≤9223372036854775807:=by rw [twoB_size];decide
 have h32:(32:Int)≠0:=by decide
 have E1:=e.trans e1
 have eX:Ext W (W.alloc (.cells (encP (uF k (1+n % 32))).toArray 38)):=ee
 have oX:=heap_new W (encP (uF k (1+n % 32))).toArray 38
 by_cases hbig:24 < 1+n % 32
 · have d:decide (((1+n % 32:Nat):Int) > 24)=true:=decide_eq_true (by omega)
   have hF:swF (k,n)=pF k:=by unfold swF;rw [if_pos hbig]
   rw [hF] at h
   simp (disch:=try exact DI) only [↓PR,QR,Int.reduceBEq,Int.reduceBNe,Int.reduceLT,Int.reduceLE,Int.reduceGT,Int.reduceGE,Int.reduceNeg,op_two o1,op_sadd _ _ _ _ hsz,twoB_eq hk,op_rem _ _ _ _ _ h32,hm,w4,d]
   show n25c2 _ _ _ (W.alloc (.cells (encP (uF k (1+n % 32))).toArray 38))
   generalize (W.alloc (.cells (encP (uF k (1+n % 32))).toArray 38))=X at eX oX ⊢
   have hpx:=E1.size
   have hpw:=e1.size
   have hs15:0+15≤(encP (uF k (1+n % 32))).toArray.size:=by simp [encP]
   generalize W.heap.size=px at oX hpx hpw ⊢
   unfold n25c2
   simp (disch:=try exact DI) only [↓PR,QR,Int.reduceBEq,Int.reduceBNe,Int.reduceLT,Int.reduceLE,Int.reduceGT,Int.reduceGE,Int.reduceNeg,(cells_of_heap oX).1]
   show opU _ (Instr.storeAt _ _ (.agg (encP (pF k)).toArray)) _ _ _
   rw [op_storeRow ty38 oX 0 (encP (pF k)) hs15 rfl (encP_one _)]
   have r1:OwnE (setCells X px 0 (encP (pF k))) w0.heap.size 38 15 encP v l:=(OwnR.only (hO.range.ext (e1.trans eX)) (setCells_only (encP (pF k)) 0 X) (.inl hpw)).1
   have r2:Ext w0 (setCells X px 0 (encP (pF k))):=setCells_ext hpx (encP (pF k)) 0 (E1.trans eX)
   have r3:ElemAt (setCells X px 0 (encP (pF k))) px 0 (encP (pF k)):=setCells_elem oX hs15
   generalize setCells X px 0 (encP (pF k))=Y at r1 r2 r3 ⊢
   exact law_c1 (w0:=w0) (f:=pF k) r1 r2 hk hl r3 h
 · have d:decide (((1+n % 32:Nat):Int) > 24)=false:=decide_eq_false (by omega)
   have hF:swF (k,n)=uF k (1+n % 32):=by unfold swF;rw [if_neg hbig]
   rw [hF] at h
   simp (disch:=try exact DI) only [↓PR,QR,Int.reduceBEq,Int.reduceBNe,Int.reduceLT,Int.reduceLE,Int.reduceGT,Int.reduceGE,Int.reduceNeg,op_two o1,op_sadd _ _ _ _ hsz,twoB_eq hk,op_rem _ _ _ _ _ h32,hm,w4,d]
   exact law_c1 (w0:=w0) (f:=uF k (1+n % 32)) (hO.ext (e1.trans eX)) (E1.trans eX) hk hl (ElemAt.of_heap oX) h
theorem law_c23 {R:RT} {w0 w:World} {v va vb:Value} {l:List FieldD} {k a b:Nat} {ah be:List UInt8} {next2:Value→Value→World→Prop} (hA:BytesOf w0 va ah) (hB:BytesOf w0 vb be) (h1:ah.length≤18) (h2:be.length≤18) (ha:a < 256) (hb:b < 256) (hO:OwnE w w0.heap.size 38 15 encP v l) (e:Ext w0 w) (hk:k < ah.length+2+be.length) (hl:l.length≤38)
 (h:∀ v' w',OwnE w' w0.heap.size 38 15 encP v' (l++[swF (k,swN a b ah be k)])→Ext w0 w'→next2 v' (.int .i64 ((k+1:Nat):Int)) w'):n25c23 (.int .u8 (a:Int)) (.int .u8 (b:Int)) va vb v (.int .i64 (k:Int)) next2 R w:=by
 have hb8:∀ x:UInt8,x.toNat < 256:=fun x=>x.toNat_lt
 have h24:(24:Int)≠0:=by decide
 obtain ⟨A,c,rfl,hlc,hcm,hlm,hel⟩:=SliceOf.open hA
 obtain ⟨B,c',rfl,hlc',hcm',hlm',hel'⟩:=SliceOf.open hB
 have hN:swN a b ah be k < 256:=by
  unfold swN
  split
  · obtain ⟨x,hx⟩:=getElem?_lt (l:=ah) (k:=k) (by omega)
    rw [hx];exact hb8 x
  · split
    · omega
    · split
      · omega
      · obtain ⟨x,hx⟩:=getElem?_lt (l:=be) (k:=k - ah.length - 2) (by omega)
        rw [hx];exact hb8 x
 have fin:=law_c3 (R:=R) (next2:=next2) (n:=swN a b ah be k) hO e (by omega) hN hl h
 unfold n25c23
 by_cases c1:k < ah.length
 · have d1:decide ((k:Int) < (ah.length:Int))=true:=by simpa using c1
   obtain ⟨x,hx⟩:=getElem?_lt c1
   obtain ⟨b1,o1,cs,rfl,_,hE,rfl⟩:=hel k x hx
   have hn:swN a b ah be k=x.toNat:=by unfold swN;rw [if_pos c1,hx];rfl
   have hw:IntKind.i64.wrap (x.toNat:Int)=x.toNat:=wrap_ok (by omega) (by have:=hb8 x;omega)
   rw [hn] at fin
   simp (disch:=try exact DI) only [↓PR,QR,Int.reduceBEq,Int.reduceBNe,Int.reduceLT,Int.reduceLE,Int.reduceGT,Int.reduceGE,Int.reduceNeg,d1,↓n25c6,hE.c1 e,hw]
   exact fin
 · have d1:decide ((k:Int) < (ah.length:Int))=false:=by simpa using c1
   by_cases c2:k=ah.length
   · have d2:((k:Int) == (ah.length:Int))=true:=by simp [c2]
     have hn:swN a b ah be k=a % 24:=by unfold swN;rw [if_neg c1,if_pos c2]
     have hw:IntKind.i64.wrap (a:Int)=a:=wrap_ok (by omega) (by omega)
     have hm:(a:Int).tmod 24=((a % 24:Nat):Int):=by rw [Int.tmod_eq_emod_of_nonneg (by omega)];omega
     rw [hn] at fin
     simp (disch:=try exact DI) only [↓PR,QR,Int.reduceBEq,Int.reduceBNe,Int.reduceLT,Int.reduceLE,Int.reduceGT,Int.reduceGE,Int.reduceNeg,d1,d2,↓n25c7,op_rem _ _ _ _ _ h24,hw,hm]
     exact fin
   · have d2:((k:Int) == (ah.length:Int))=false:=by simp;omega
     have hw1:IntKind.i64.wrap ((ah.length:Int)+1)=(ah.length:Int)+1:=wrap_ok (by omega) (by omega)
     by_cases c3:k=ah.length+1
     · have d3:((k:Int) == (ah.length:Int)+1)=true:=by simp [c3]
       have hn:swN a b ah be k=b % 24:=by unfold swN;rw [if_neg c1,if_neg c2,if_pos c3]
       have hw:IntKind.i64.wrap (b:Int)=b:=wrap_ok (by omega) (by omega)
       have hm:(b:Int).tmod 24=((b % 24:Nat):Int):=by rw [Int.tmod_eq_emod_of_nonneg (by omega)];omega
       rw [hn] at fin
       simp (disch:=try exact DI) only [↓PR,QR,Int.reduceBEq,Int.reduceBNe,Int.reduceLT,Int.reduceLE,Int.reduceGT,Int.reduceGE,Int.reduceNeg,d1,d2,d3,hw1,↓n25c7,↓n25c5,op_rem _ _ _ _ _ h24,hw,hm]
       exact fin
     · have d3:((k:Int) == (ah.length:Int)+1)=false:=by simp;omega
       obtain ⟨x,hx⟩:=getElem?_lt (l:=be) (k:=k - ah.length - 2) (by omega)
       obtain ⟨b1,o1,cs,rfl,_,hE,rfl⟩:=hel' _ x hx
       have hn:swN a b ah be k=x.toNat:=by unfold swN;rw [if_neg c1,if_neg c2,if_neg c3,hx];rfl
       have hw:IntKind.i64.wrap (x.toNat:Int)=x.toNat:=wrap_ok (by omega) (by have:=hb8 x;omega)
       have hs1:IntKind.i64.wrap ((k:Int) - (ah.length:Int))=(k:Int) - (ah.length:Int):=wrap_ok (by omega) (by omega)
       have hs2:IntKind.i64.wrap ((k:Int) - (ah.length:Int) - 2)=((k - ah.length - 2:Nat):Int):=by rw [wrap_ok (by omega) (by omega)];omega
       rw [hn] at fin
       simp (disch:=try exact DI) only [↓PR,QR,Int.reduceBEq,Int.reduceBNe,Int.reduceLT,Int.reduceLE,Int.reduceGT,Int.reduceGE,Int.reduceNeg,d1,d2,d3,hw1,hs1,hs2,↓n25c7,↓n25c5,↓n25c4,hE.c1 e,hw]
       exact fin
end Go.Proofs.YtdfhjlggcdemhaaGreat
namespace Go.Proofs.YtdfhjlggcdemhaaGreat
open Sw
open Go.ChangeShapes Go.WideShapes Go.RowKit Go.ChangeAt Go.Deep
theorem u8_range {n:Int} (h:(Lit.int .u8 n).wf=true):0≤n∧n < 256:=by
 have hn:0≤n∧n≤255:=by simpa [Lit.wf,IntKind.min,IntKind.max,IntKind.signed,IntKind.bits] using h
 omega
theorem cellsU8:Pg.cellsOf 5=1:=by kernel_rfl
theorem bytesU8:1≤Pg.bytesOf 5:=Nat.le_of_ble_eq_true (by kernel_rfl)
section
variable {H:Type} {enc:TypeId×Value→H} {w:World} {base:Nat} {spare:Nat→Bool} {held:Bool}
theorem byte_of {m:Nat} {cs:List Value} {y:DataW H×List MemPlace} (h:DataW.trod enc Pg w base spare held m 5 cs=some y) (_:Reached Pg 5 y.1):∃ x,EByte w cs x∧True:=by
 obtain ⟨n,rfl,_,hw⟩:=DataW.trod_int Tryz.underlying5 h
 obtain ⟨h1,h2⟩:=u8_range hw
 refine ⟨UInt8.ofNat n.toNat,?_,trivial⟩
 show [Value.int .u8 n]=[Value.int .u8 _]
 rw [UInt8.toNat_ofNat_of_lt' (by show n.toNat < 256;omega)]
 congr 2;omega
theorem u8s_val {r:Reach} {b0:Nat} {v:Value} {d:DataW H} {ps:List MemPlace} (hval:Value.okWide Pg w r b0 64 v) (h:DataW.Trod enc Pg w base spare held 64 v d ps) (hr:Reached Pg 64 d):∃ l:List UInt8,BytesOf w v l∧True:=by
 obtain ⟨a,len,cap,rfl⟩:=okWide_slice Tryz.underlying64 hval
 obtain ⟨fuel,hf⟩:=h
 obtain ⟨v',l,e1,hS,_,_⟩:=slice_of_trod (E:=EByte) (Q:=fun _=>True) Tryz.underlying64 cellsU8 bytesU8 (by decide) (fun _ _ _ h hr=>byte_of h hr) hf hr
 have e2:[Value.slice a len cap]=[v']:=e1
 injection e2 with e2 _
 subst e2
 exact ⟨l,hS,trivial⟩
end
end Go.Proofs.YtdfhjlggcdemhaaGreat
namespace Go.Proofs.YtdfhjlggcdemhaaGreat
open Sw
open Go.RowKit (intOf Below)
theorem gD_off {l:List FieldD} (h:(checkP (gD l)).2.2=0) {i:Nat} (hi:i < l.length):offsetP (gD l) 0 i=(endO (l.take i),0):=by
 have hE:msgE (gD l) 0=0:=by unfold msgE;rw [if_neg (by simp [h]),if_neg (by simp [gD])]
 have hL:msgL (gD l) 0=l:=by unfold msgL;rw [if_pos hE];rfl
 unfold offsetP
 rw [if_neg (by simp [hE]),hL,if_neg (by omega),atO_hit (by omega) rfl]
theorem gD_end {l:List FieldD} (h:(checkP (gD l)).2.2=0):msgE (gD l) 0=0∧msgL (gD l) 0=l:=by
 have hE:msgE (gD l) 0=0:=by unfold msgE;rw [if_neg (by simp [h]),if_neg (by simp [gD])]
 exact ⟨hE,by unfold msgL;rw [if_pos hE];rfl⟩
theorem sw_plain (ps:List (Nat×Nat)):∀ f∈ps.map swF,f.terms=[]∧f.cases=[]:=by
 intro f hf
 obtain ⟨p,_,rfl⟩:=List.mem_map.1 hf
 exact swF_plain p
theorem sw_calm (ps:List (Nat×Nat)):calm (gD (ps.map swF)):=calm_g (sw_plain ps) (by rw [sw_refs];decide)
section
variable {w0:World} {a b:Nat} {ah be:List UInt8}
abbrev swΦ (w0:World):Value→World→Prop:=fun r w'=>r = .bool true∧Ext w0 w'
theorem law_c19 {w:World} {v v2:Value} (h1:ah.length≤18) (h2:be.length≤18) (hF:FieldsOf w v ((swP a b ah be).map swF)) (hX:FieldsOf w v2 ((swX a b ah be).map swF)) (e:Ext w0 w):n25c19 v (.int .i64 (ah.length:Int)) v2 (retR (swΦ w0)) w:=by
 obtain ⟨ok1,ok2⟩:=sw_ok (a:=a) (b:=b) h1 h2
 have hcl1:=sw_calm (swP a b ah be)
 have hcl2:=sw_calm (swX a b ah be)
 have law:=sw_law (a:=a) (b:=b) (ah:=ah) (be:=be)
 have hl1:((swP a b ah be).map swF).length=ah.length+2+be.length:=by rw [List.length_map,swP_len]
 have hl2:((swX a b ah be).map swF).length=ah.length+2+be.length:=by rw [List.length_map,swX_len]
 generalize (swP a b ah be).map swF=L1 at hF ok1 hcl1 law hl1
 generalize (swX a b ah be).map swF=L2 at hX ok2 hcl2 law hl2
 obtain ⟨A,c,rfl,hlc,hcm,hlm,_⟩:=SliceOf.open hF
 have hv2:=SliceOf.oneCell hX
 unfold n25c19
 simp (disch:=try exact DI) only [↓PR,QR,simprocAttr]
 simp only [World.size_alloc,cells_one hv2]
 generalize hW:World.alloc (World.alloc (World.alloc (World.alloc w _) _) _) _=W
 have eW:Ext w W:=by rw [← hW];exact ee
 have m1:W.heap[w.heap.size]?=some (.cells #[.string ⟨#[109]⟩,.slice A L1.length c] 44 (0,0)):=by rw [← hW];simp (disch:=try exact DI) only [↓PR,QR,simprocAttr]
 have o15:W.heap[w.heap.size+1]?=some (.cells #[.string ⟨#[100]⟩,.slice (some ⟨w.heap.size,0,none⟩) 1 1,.string ⟨#[109]⟩] 24 (0,0)):=by rw [← hW];simp (disch:=try exact DI) only [↓PR,QR,simprocAttr]
 have m2:W.heap[w.heap.size+1+1]?=some (.cells #[.string ⟨#[109]⟩,v2] 44 (0,0)):=by rw [← hW];simp (disch:=try exact DI) only [↓PR,QR,simprocAttr]
 have o16:W.heap[w.heap.size+1+1+1]?=some (.cells #[.string ⟨#[100]⟩,.slice (some ⟨w.heap.size+1+1,0,none⟩) 1 1,.string ⟨#[109]⟩] 24 (0,0)):=by rw [← hW];simp (disch:=try exact DI) only [↓PR,QR,simprocAttr]
 clear hW
 have EW:=e.trans eW
 have dv1:∀ w',Ext W w'→DefVal w' (gVal w.heap.size) (gD L1):=fun w' e'=>one_def (e'.obj m1) (hF.ext (eW.trans e'))
 have dv2:∀ w',Ext W w'→DefVal w' (gVal (w.heap.size+1+1)) (gD L2):=fun w' e'=>one_def (e'.obj m2) (hX.ext (eW.trans e'))
 refine loop1_intro (fun i w=>∃ k:Nat,i = .int .i64 k∧k≤L1.length∧Ext W w) (fun i _=>L1.length - (intOf i).toNat) ⟨0,rfl,by omega,Ext.refl _⟩ ?_
 rintro _ x ⟨k,rfl,hk,ex⟩
 unfold n25c18
 have hb2:∀ n:Int,(n == n)=true:=fun n=>by simp
 have hb3:∀ n:Int,(n != n)=false:=fun n=>by simp
 by_cases hlt:k < L1.length
 · have d1:decide ((k:Int) < (L1.length:Int))=true:=by simpa using hlt
   simp (disch:=try exact DI) only [↓PR,QR,simprocAttr,d1,↓n25c17,(cells_of_heap (ex.obj o15)).1]
   refine zcr (Offset_ret _ (gD L1) 0 k (dv1 _ ex) hcl1) fun x1 e1=>?_
   have f1:=ex.trans e1
   rw [gD_off ok1 hlt]
   unfold n25c12
   simp (disch:=try exact DI) only [↓PR,QR,simprocAttr,(cells_of_heap (f1.obj o16)).1]
   refine zcr (Offset_ret _ (gD L2) 0 k (dv2 _ f1) hcl2) fun x2 e2=>?_
   have f2:=f1.trans e2
   rw [gD_off ok2 (by omega)]
   have fin:(∃ k':Nat,Value.int .i64 ((k+1:Nat):Int) = .int .i64 k'∧k'≤L1.length∧Ext W x2)∧L1.length - (intOf (Value.int .i64 ((k+1:Nat):Int))).toNat < L1.length - (intOf (Value.int .i64 (k:Int))).toNat:=⟨⟨k+1,rfl,by omega,f2⟩,meas_lt hlt⟩
   have hw1:IntKind.i64.wrap ((ah.length:Int)+1)=(ah.length:Int)+1:=wrap_ok (by omega) (by omega)
   unfold n25c11
   by_cases hka:k=ah.length+1
   · have d2:((k:Int) != (ah.length:Int)+1)=false:=by simp [hka]
     simp (disch:=try exact DI) only [↓PR,QR,simprocAttr,d2,hw1,↓n25c10,↓n25c9,↓n25c8]
     exact fin
   · have d2:((k:Int) != (ah.length:Int)+1)=true:=by simp;omega
     rw [law k hka (by omega)]
     simp (disch:=try exact DI) only [↓PR,QR,simprocAttr,d2,hw1,hb3,↓n25c10,↓n25c9,↓n25c8]
     exact fin
 · have d1:decide ((k:Int) < (L1.length:Int))=false:=by simpa using hlt
   simp (disch:=try exact DI) only [↓PR,QR,simprocAttr,d1,(cells_of_heap (ex.obj o15)).1]
   refine zcr (End_ret _ (gD L1) 0 (dv1 _ ex) hcl1) fun x1 e1=>?_
   have f1:=ex.trans e1
   unfold n25c16
   simp (disch:=try exact DI) only [↓PR,QR,simprocAttr,(cells_of_heap (f1.obj o16)).1]
   refine zcr (End_ret _ (gD L2) 0 (dv2 _ f1) hcl2) fun x2 e2=>?_
   have f2:=f1.trans e2
   obtain ⟨a1,a2⟩:=gD_end ok1
   obtain ⟨b1,b2⟩:=gD_end ok2
   have hend:endO L1=endO L2:=by
    have:=law (ah.length+2+be.length) (by omega) (Nat.le_refl _)
    rwa [List.take_of_length_le (by omega),List.take_of_length_le (by omega)] at this
   rw [a1,a2,b1,b2,hend]
   unfold n25c15
   simp (disch:=try exact DI) only [↓PR,QR,simprocAttr,hb2,↓n25c14,↓n25c13]
   refine zcr (known14_ret _) fun x3 e3=>?_
   simp (disch:=try exact DI) only [↓PR,QR,simprocAttr,hb2]
   exact ⟨by trivial,EW.trans (f2.trans e3)⟩
theorem law_c22 {w:World} {v va:Value} (h1:ah.length≤18) (h2:be.length≤18) (hA:BytesOf w0 va ah) (hO:OwnE w w0.heap.size 38 15 encP v ((swP a b ah be).map swF)) (e:Ext w0 w):n25c22 va v (retR (swΦ w0)) w:=by
 obtain ⟨A,c,rfl,hlc,hcm,hlm,hel⟩:=SliceOf.open hA
 have hl1:((swP a b ah be).map swF).length=ah.length+2+be.length:=by rw [List.length_map,swP_len]
 have hset:=swX_set (a:=a) (b:=b) (ah:=ah) (be:=be)
 have hga:((swP a b ah be).map swF)[ah.length]?=some (swF (ah.length,a % 24)):=by
  rw [List.getElem?_map,swP_get (by omega)]
  unfold swN
  rw [if_neg (by omega),if_pos rfl];rfl
 have hgb:((swP a b ah be).map swF)[ah.length+1]?=some (swF (ah.length+1,b % 24)):=by
  rw [List.getElem?_map,swP_get (by omega)]
  unfold swN
  rw [if_neg (by omega),if_neg (by omega),if_pos rfl];rfl
 have fin:=fun w v v2 hF hX e=>law_c19 (w0:=w0) (a:=a) (b:=b) (ah:=ah) (be:=be) (w:=w) (v:=v) (v2:=v2) h1 h2 hF hX e
 have hp1:=sw_plain (swP a b ah be)
 have hp2:=sw_plain (swX a b ah be)
 generalize (swP a b ah be).map swF=L at hO hl1 hset hga hgb fin hp1
 generalize (swX a b ah be).map swF=LX at hset fin hp2
 generalize swF (ah.length,a % 24)=fa at hga hset
 generalize swF (ah.length+1,b % 24)=fb at hgb hset
 generalize hk:ah.length=k at *
 obtain ⟨g,cap,rfl,hg0,hgl,hT,hfz,hrow⟩:=hO.row (fun _=>rfl) (by omega)
 unfold n25c22
 simp (disch:=try exact DI) only [↓PR,QR,simprocAttr]
 have hO0:=OwnE.new w 38 15 encP [] (fun _=>rfl) (by simp)
 simp only [List.flatMap_nil,List.length_nil] at hO0
 have eZ:Ext w (w.alloc (.cells #[] 38)):=ee
 generalize (w.alloc (.cells #[] 38))=Z at hO0 eZ ⊢
 refine op_appendE (l':=L) (b:=g) (o:=0) Tryz.underlying42 ty38 rfl (by decide) (fun _=>rfl) (fun x _=>encP_one x) hO0 (fun j x hx=>by rw [Nat.zero_add];exact (hrow j x hx).ext eZ) eZ.size (Nat.le_trans (Nat.mul_le_mul (show ([]:List FieldD).length+L.length≤70 by simp;omega) by38) (by decide)) (by simp;omega) ?_
 rintro v2 w2 hO2 hg2
 rw [List.nil_append] at hO2
 obtain ⟨g2,cap2,rfl,hg20,hgl2,hT2,hfz2,hrow2⟩:=hO2.row (fun _=>rfl) (by omega)
 have e2:Ext w w2:=eZ.grown hg2 fun g hg=>by have:=(World.ownsRow.lt hO0 g hg).1;omega
 have hne:g≠g2:=by omega
 let C:World→Prop:=fun x=>ElemAt x g (k*15) (encP fa)∧ElemAt x g ((k+1)*15) (encP fb)
 have hC0:C (drew w2):=⟨(hrow k fa hga).ext (e2.trans ((Ext.refl _).wdrew)),(hrow (k+1) fb hgb).ext (e2.trans ((Ext.refl _).wdrew))⟩
 haveI:ClassNe C:=⟨⟨_,hC0⟩⟩
 have qi:∀ (j:Nat) (K:Value→Prop),j < L.length→qV Pg C (Instr.indexAt 42 (.slice (some ⟨g,0,none⟩) L.length cap) (.int .i64 j)) K=K (.pointer (some ⟨g,0+j*15,none⟩)):=fun j K hj=>qV_of fun QP w' K=>op_indexN Tryz.underlying42 ty38 g 0 L.length cap .i64 j hj
 have qj:∀ (j:Nat) (K:Value→Prop),j < L.length→qV Pg C (Instr.indexAt 42 (.slice (some ⟨g2,0,none⟩) L.length cap2) (.int .i64 j)) K=K (.pointer (some ⟨g2,0+j*15,none⟩)):=fun j K hj=>qV_of fun QP w' K=>op_indexN Tryz.underlying42 ty38 g2 0 L.length cap2 .i64 j hj
 have qa:∀ K:Value→Prop,qV Pg C (Instr.loadAt 38 (.pointer (some ⟨g,0+k*15,none⟩))) K=K (.agg (encP fa).toArray):=fun K=>qV_eqC fun w' h=>run_of_op fun QP k=>op_load (by have:=h.1.loads ty38 rfl;rwa [Nat.zero_add])
 have qb:∀ K:Value→Prop,qV Pg C (Instr.loadAt 38 (.pointer (some ⟨g,0+(k+1)*15,none⟩))) K=K (.agg (encP fb).toArray):=fun K=>qV_eqC fun w' h=>run_of_op fun QP k=>op_load (by have:=h.2.loads ty38 rfl;rwa [Nat.zero_add])
 have hw1:IntKind.i64.wrap ((k:Int)+1)=((k+1:Nat):Int):=by rw [wrap_ok (by omega) (by omega)];omega
 have qp:∀ K:Value→Prop,qV Pg C (binS .add 3 true (.int .i64 (k:Int)) (.int .i64 1)) K=K (.int .i64 ((k+1:Nat):Int)):=fun K=>qV_of fun QP w' K=>by simp (disch:=try exact DI) only [↓PR,QR,simprocAttr,hw1]
 refine ⟨C,hC0,?_⟩
 unfold n25c21
 dsimp only
 rw [qp,qp,qi _ _ (by omega),qb,qi _ _ (by omega),qa,qj _ _ (by omega)]
 have eD:Ext w2 (drew w2):=(Ext.refl _).wdrew
 have hO3:=hO2.ext eD
 have hO1:=hO.range.ext (e2.trans eD)
 have e4:=e.trans (e2.trans eD)
 generalize drew w2=w3 at hC0 eD hO3 hO1 e4 ⊢
 have row:∀ {l':List FieldD} {x:World},OwnE x w.heap.size 38 15 encP (.slice (some ⟨g2,0,none⟩) L.length cap2) l'→l'.length=L.length→∃ cur:Array Value,x.heap[g2]?=some (.cells cur 38 (0,0))∧L.length*15≤cur.size:=by
  rintro l' x ⟨_,⟨hx,_⟩ | ⟨g',cap',cur,hv,hb,hg,hc,hm,hs,ht⟩⟩ hl'
  · cases hx
  · injection hv with hv _ _
    injection hv with hv
    injection hv with hv
    subst hv
    exact ⟨cur,hg,by rw [hs,← hl'];exact Nat.mul_le_mul_right _ hc⟩
 have sg:w0.heap.size≤w.heap.size:=e.size
 obtain ⟨cur,hcur,hcs⟩:=row hO3 rfl
 rw [Nat.zero_add,op_storeRow ty38 hcur (k*15) (encP fb) (by omega) rfl (encP_one _)]
 have s1:=OwnE.setRow hO3 (fun _=>rfl) (by decide) (k:=k) (by omega) fb
 have t1:=setCells_only (b:=g2) (encP fb) (k*15) w3
 have x1:=setCells_ext (W:=w0) (b:=g2) (by omega) (encP fb) (k*15) e4
 have hC1:C (setCells w3 g2 (k*15) (encP fb)):=by
  have hcell:∀ o,(setCells w3 g2 (k*15) (encP fb)).cell? ⟨g,o,none⟩=w3.cell? ⟨g,o,none⟩:=fun o=>by unfold World.cell?;simp only [t1 g hne]
  exact ⟨fun j v hv=>(hcell _).trans (hC0.1 j v hv),fun j v hv=>(hcell _).trans (hC0.2 j v hv)⟩
 have hO1':OwnR (setCells w3 g2 (k*15) (encP fb)) w0.heap.size w.heap.size 38 15 encP (.slice (some ⟨g,0,none⟩) L.length cap) L:=OwnR.only hO1 t1 (.inl hg20)
 generalize setCells w3 g2 (k*15) (encP fb)=w4 at s1 x1 hC1 hO1' ⊢
 refine ⟨hC1,?_⟩
 unfold n25c20
 rw [qj _ _ (by omega)]
 obtain ⟨cur',hcur',hcs'⟩:=row s1 (by simp)
 rw [Nat.zero_add,op_storeRow ty38 hcur' ((k+1)*15) (encP fa) (by omega) rfl (encP_one _)]
 have s2:=OwnE.setRow s1 (fun _=>rfl) (by decide) (k:=k+1) (by simp;omega) fa
 rw [hset] at s2
 have t2:=setCells_only (b:=g2) (encP fa) ((k+1)*15) w4
 have x2:=setCells_ext (W:=w0) (b:=g2) (by omega) (encP fa) ((k+1)*15) x1
 have hO1'':=OwnR.only hO1' t2 (.inl hg20)
 generalize setCells w4 g2 ((k+1)*15) (encP fa)=w5 at s2 x2 hO1'' ⊢
 refine turnK_intro ?_
 exact fin _ _ _ (own_fields hO1''.1 hp1) (own_fields s2 hp2) x2
theorem AlignSwaps_ret (w0:World) (a b:Int) (va vb:Value) (ah be:List UInt8) (hA:BytesOf w0 va ah) (hB:BytesOf w0 vb be) (ha:0≤a∧a < 256) (hb:0≤b∧b < 256):Ret Pg 9 #[.int .u8 a,.int .u8 b,va,vb] w0 (swΦ w0):=by
 obtain ⟨a,rfl⟩:∃ n:Nat,a=n:=⟨a.toNat,by omega⟩
 obtain ⟨b,rfl⟩:∃ n:Nat,b=n:=⟨b.toNat,by omega⟩
 have hA':=hA
 have hB':=hB
 obtain ⟨A,c,rfl,hlc,hcm,hlm,hel⟩:=SliceOf.open hA
 obtain ⟨B,c',rfl,hlc',hcm',hlm',hel'⟩:=SliceOf.open hB
 have out:∀ t:Bool,t=true→n25c25 (.int .u8 (a:Int)) (.int .u8 (b:Int)) (.slice A ah.length c) (.slice B be.length c') (.bool true) (.bool t) (retR (swΦ w0)) w0→True:=fun _ _ _=>trivial
 have stop:callK Pg 15 #[] (panK (retR (swΦ w0))) w0 fun t34 w=>retR (swΦ w0) (.returned t34) w:=by
  refine zcr (known14_ret _) fun w1 e1=>?_
  exact ⟨_,rfl,rfl,e1⟩
 refine n25s (R:=retR _) ?_;unfold n25
 by_cases h1:18 < ah.length
 · have d1:decide ((ah.length:Int) > 18)=true:=decide_eq_true (by omega)
   simp (disch:=try exact DI) only [↓PR,QR,simprocAttr,d1,↓n25c25]
   exact stop
 have d1:decide ((ah.length:Int) > 18)=false:=decide_eq_false (by omega)
 by_cases h2:18 < be.length
 · have d2:decide ((be.length:Int) > 18)=true:=decide_eq_true (by omega)
   simp (disch:=try exact DI) only [↓PR,QR,simprocAttr,d1,d2,↓n25c25]
   exact stop
 have d2:decide ((be.length:Int) > 18)=false:=decide_eq_false (by omega)
 simp (disch:=try exact DI) only [↓PR,QR,simprocAttr,d1,d2,↓n25c25]
 have hl:((swP a b ah be).map swF).length=ah.length+2+be.length:=by rw [List.length_map,swP_len]
 refine loop2_intro (fun v i w=>∃ k:Nat,i = .int .i64 k∧k≤((swP a b ah be).map swF).length∧OwnE w w0.heap.size 38 15 encP v (((swP a b ah be).map swF).take k)∧Ext w0 w) (fun _ i _=>((swP a b ah be).map swF).length - (intOf i).toNat) ⟨0,rfl,by omega,OwnE.nil _ _ _ _ _,Ext.refl _⟩ ?_
 rintro v _ w ⟨k,rfl,hk,hO,e⟩
 have w1:IntKind.i64.wrap ((ah.length:Int)+2)=(ah.length:Int)+2:=wrap_ok (by omega) (by omega)
 have w2:IntKind.i64.wrap ((ah.length:Int)+2+(be.length:Int))=(ah.length:Int)+2+(be.length:Int):=wrap_ok (by omega) (by omega)
 unfold n25c24
 by_cases hlt:k < ((swP a b ah be).map swF).length
 · have d3:decide ((k:Int) < (ah.length:Int)+2+(be.length:Int))=true:=decide_eq_true (by omega)
   simp (disch:=try exact DI) only [↓PR,QR,simprocAttr,w1,w2,d3]
   refine law_c23 hA' hB' (by omega) (by omega) (by omega) (by omega) hO e (by omega) (by rw [List.length_take];omega) (fun v' w' hO' e'=>⟨⟨k+1,rfl,by omega,?_,e'⟩,meas_lt hlt⟩)
   rwa [take_snoc (x:=swF (k,swN a b ah be k)) (by rw [List.getElem?_map,swP_get (by omega)];rfl)]
 · have d3:decide ((k:Int) < (ah.length:Int)+2+(be.length:Int))=false:=decide_eq_false (by omega)
   simp (disch:=try exact DI) only [↓PR,QR,simprocAttr,w1,w2,d3]
   rw [List.take_of_length_le (by omega)] at hO
   exact law_c22 (by omega) (by omega) hA' hO e
end
end Go.Proofs.YtdfhjlggcdemhaaGreat
namespace Go.Proofs.YtdfhjlggcdemhaaGreat
open Sw
open Go.ChangeShapes Go.WideShapes Go.RowKit Go.ChangeAt Go.Deep
theorem aswaps_own:ownKnob Pg.godebug=none:=by kernel_rfl
theorem aswaps_laidOut:laidOutB Pg=true:=by kernel_rfl
theorem aswaps_lifted (os:Os) (started:os.Started) (H:Type) (enc:TypeId×Value→H) :
 ReturnsInHanded {} Tryz.checked os 9 .any (Rows.alignSwapsSpec.pre6 enc Pg Tryz.f9 Rows.alignSwapsRow.domain false) (Rows.alignSwapsSpec.post enc Pg Tryz.f9 false true false false):=by
 refine returnsInHanded_of_change_sized (C:=Tryz.checked) aswaps_own started (by kernel_rfl) Tryz.func9
  (ChangeSpec.witness6 (enc:=enc) (C:=Tryz.checked) false ⟨#[],#[.int .u8 0,.int .u8 0,.slice none 0 0,.slice none 0 0],[]⟩ 8 (by kernel_rfl) (by kernel_rfl) (by kernel_rfl) (by kernel_rfl)) ?_
 intro W base args ds gs before hval hW _ hsz _
 have hW':=hW
 obtain ⟨p,q,hA0,hV,rfl,_,_⟩:=hW
 have hA:DataW.TrodAll enc Pg W 0 (fun _=>true) true Tryz.f9.params.toList args.toList ds p:=hA0
 rw [Tryz.params9] at hA hval hsz
 obtain ⟨v0,vs0,d0,ds0,p0,q0,ha0,rfl,rfl,h0,r0⟩:=trodAll_cons hA
 obtain ⟨v1,vs1,d1,ds1,p1,q1,ha1,rfl,rfl,h1,r1⟩:=trodAll_cons r0
 obtain ⟨v2,vs2,d2,ds2,p2,q2,ha2,rfl,rfl,h2,r2⟩:=trodAll_cons r1
 obtain ⟨v3,vs3,d3,ds3,p3,q3,ha3,rfl,rfl,h3,r3⟩:=trodAll_cons r2
 obtain ⟨rfl,rfl,rfl⟩:=trodAll_nil r3
 subst ha3 ha2 ha1
 obtain rfl:args = #[v0,v1,v2,v3]:=by cases args;simp_all
 obtain ⟨n0,rfl,_,_,hw0⟩:=open_int Tryz.underlying5 (hval 0 _ v0 rfl rfl) h0
 obtain ⟨n1,rfl,_,_,hw1⟩:=open_int Tryz.underlying5 (hval 1 _ v1 rfl rfl) h1
 obtain ⟨f2,hf2,hs2⟩:=u8s_val (hval 2 _ v2 rfl rfl) h2 (reached_of (j:=2) hsz rfl rfl)
 obtain ⟨f3,hf3,hs3⟩:=u8s_val (hval 3 _ v3 rfl rfl) h3 (reached_of (j:=3) hsz rfl rfl)
 refine Calls.mono (AlignSwaps_ret W n0 n1 v2 v3 f2 f3 hf2 hf3 (u8_range hw0) (u8_range hw1)) fun e W' ⟨v,he,hv,hx⟩=>?_
 subst he hv
 exact ⟨_,rfl,law_post aswaps_laidOut (by decide +kernel) rfl hW' hx rfl Tryz.underlying4 rfl rfl rfl⟩
theorem aswaps_holds:Rows.AlignSwapsSaid :=
 OpenClaim.holds_of_wide 9 Tryz.f9 rfl rfl rfl rfl rfl rfl rfl ⟨rfl,rfl,rfl,rfl,rfl⟩ rfl rfl rfl rfl rfl (by kernel_rfl) Tryz.func9 (by kernel_rfl)
  (of_decide_eq_true (by kernel_rfl)) (by unfold Func.isWrapper;first | (rw [if_pos (by decide +kernel)];kernel_rfl) | (rw [if_neg (by decide +kernel)];exact ⟨rfl,rfl⟩))
  (fun os started H enc _=>aswaps_lifted os started H enc)
end Go.Proofs.YtdfhjlggcdemhaaGreat
