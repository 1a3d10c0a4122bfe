/-
  phrasebooklaw14.AlignPads returns true for every number of bits and every position, and leaves its arguments as they were; no condition is asked.
-/
import Derived.Test.YtdfhjlggcdemhaaGreatAp4
set_option linter.all false
set_option maxHeartbeats 4000000
set_option maxRecDepth 100000
namespace Go.Proofs.YtdfhjlggcdemhaaGreat
open Sw
open Go.RowKit (intOf Below)
variable {R:RT}
def turnA (a:Value) (w:World):Nat:=match a with
 | .pointer (some p)=>(match w.cell? p with
  | some (.int _ t)=>(2 - t).toNat
  | _=>0)
 | _=>0
theorem yie_after1 {w2:World} {p6 p7 p8 p10 p11:Nat} {many:Int} {t k n:Nat} {A:Option Addr} {cc:Nat} {ds:List Deferred} {next1:List Deferred→Value→World→Prop} (x6:w2.heap[p6]?=some (.cells #[.int .i64 many] 3 (0,0))) (x7:w2.heap[p7]?=some (.cells #[.slice A n cc] 48 (0,0))) (y10:w2.heap[p10]?=some (.cells #[.int .i64 (t:Int)] 3 (0,0))) (y11:w2.heap[p11]?=some (.cells #[.int .i64 (k:Int)] 3 (0,0)))
 (ht:t < 2) (h0:t=0→(k:Int)=min (n:Int) (max 1 many)) (h1:t=1→k=n) (hn:∀ w',w2.heap.size < w'.heap.size→w'.heap[w2.heap.size]?=some (.cells #[.int .i64 ((t+1:Nat):Int)] 3 (0,0))→Ext w2 w'→next1 ds (.pointer (some ⟨w2.heap.size,0,none⟩)) w') :
 n29c9 (.pointer (some ⟨p6,0,none⟩)) (.pointer (some ⟨p7,0,none⟩)) (.pointer (some ⟨p8,0,none⟩)) (.pointer (some ⟨p10,0,none⟩)) (.pointer (some ⟨p11,0,none⟩)) next1 ds R w2:=by
 have fin:n29c4 (.pointer (some ⟨p8,0,none⟩)) (.pointer (some ⟨p10,0,none⟩)) next1 ds R w2:=by
  unfold n29c4
  simp (disch:=try exact DI) only [↓PR,QR,simprocAttr,(cells_of_heap y10).1]
  exact hn _ (by simp only [World.size_alloc];omega) (by simpa using heap_new w2 #[.int .i64 ((t+1:Nat):Int)] 3) ee
 unfold n29c9
 have hcase:t=0∨t=1:=by omega
 rcases hcase with rfl | rfl
 · have hm:(if (if many > 1 then many else 1) < (n:Int) then (if many > 1 then many else 1) else (n:Int))=(k:Int):=by
    rw [h0 rfl]
    split<;>split<;>omega
   have d0:((((0:Nat):Int)) == 0)=true:=rfl
   have d1:((((0:Nat):Int)) == 1)=false:=rfl
   have dk:((k:Int) != (k:Int))=false:=by simp
   simp (disch:=try exact DI) only [↓PR,QR,simprocAttr,(cells_of_heap y10).1,d0,(cells_of_heap y11).1,(cells_of_heap x7).1,(cells_of_heap x6).1,hm,dk,d1,↓n29c8,↓n29c7,↓n29c6,↓n29c5]
   exact fin
 · have d0:((((1:Nat):Int)) == 0)=false:=rfl
   have d1:((((1:Nat):Int)) == 1)=true:=rfl
   have dk:((k:Int) != (n:Int))=false:=by rw [h1 rfl];simp
   simp (disch:=try exact DI) only [↓PR,QR,simprocAttr,(cells_of_heap y10).1,d0,d1,(cells_of_heap y11).1,(cells_of_heap x7).1,dk,↓n29c8,↓n29c7,↓n29c6,↓n29c5]
   exact fin
theorem yie_after2 {w2:World} {p6 p7 p8 p10 p11:Nat} {many:Int} {t k n:Nat} {A:Option Addr} {cc:Nat} {ds:List Deferred} {next1:List Deferred→Value→World→Prop} (x6:w2.heap[p6]?=some (.cells #[.int .i64 many] 3 (0,0))) (x7:w2.heap[p7]?=some (.cells #[.slice A n cc] 48 (0,0))) (y10:w2.heap[p10]?=some (.cells #[.int .i64 (t:Int)] 3 (0,0))) (y11:w2.heap[p11]?=some (.cells #[.int .i64 (k:Int)] 3 (0,0)))
 (ht:t < 2) (h0:t=0→(k:Int)=min (n:Int) (max 1 many)) (h1:t=1→k=n) (hn:∀ w',w2.heap.size < w'.heap.size→w'.heap[w2.heap.size]?=some (.cells #[.int .i64 ((t+1:Nat):Int)] 3 (0,0))→Ext w2 w'→next1 ds (.pointer (some ⟨w2.heap.size,0,none⟩)) w') :
 n29c16 (.pointer (some ⟨p6,0,none⟩)) (.pointer (some ⟨p7,0,none⟩)) (.pointer (some ⟨p8,0,none⟩)) (.pointer (some ⟨p10,0,none⟩)) (.pointer (some ⟨p11,0,none⟩)) next1 ds R w2:=by
 have fin:n29c10 (.pointer (some ⟨p8,0,none⟩)) (.pointer (some ⟨p10,0,none⟩)) next1 ds R w2:=by
  unfold n29c10
  simp (disch:=try exact DI) only [↓PR,QR,simprocAttr,(cells_of_heap y10).1]
  exact hn _ (by simp only [World.size_alloc];omega) (by simpa using heap_new w2 #[.int .i64 ((t+1:Nat):Int)] 3) ee
 unfold n29c16
 have hcase:t=0∨t=1:=by omega
 rcases hcase with rfl | rfl
 · have hm:(if (if many > 1 then many else 1) < (n:Int) then (if many > 1 then many else 1) else (n:Int))=(k:Int):=by
    rw [h0 rfl]
    split<;>split<;>omega
   have d0:((((0:Nat):Int)) == 0)=true:=rfl
   have d1:((((0:Nat):Int)) == 1)=false:=rfl
   have dk:((k:Int) != (k:Int))=false:=by simp
   simp (disch:=try exact DI) only [↓PR,QR,simprocAttr,(cells_of_heap y10).1,d0,(cells_of_heap y11).1,(cells_of_heap x7).1,(cells_of_heap x6).1,hm,dk,d1,↓n29c15,↓n29c14,↓n29c13,↓n29c12,↓n29c11]
   exact fin
 · have d0:((((1:Nat):Int)) == 0)=false:=rfl
   have d1:((((1:Nat):Int)) == 1)=true:=rfl
   have dk:((k:Int) != (n:Int))=false:=by rw [h1 rfl];simp
   simp (disch:=try exact DI) only [↓PR,QR,simprocAttr,(cells_of_heap y10).1,d0,d1,(cells_of_heap y11).1,(cells_of_heap x7).1,dk,↓n29c15,↓n29c14,↓n29c13,↓n29c12,↓n29c11]
   exact fin
theorem yields_ret (w0:World) (v:Value) (d:DefD) (i many:Int) (wv:Value) (hd:DefVal w0 v d) (ht:calm d) (hL:SliceOf w0 1 EInt wv (offsL (msgL d i))):Ret Pg 29 #[v,.int .i64 i,.int .i64 many,wv] w0 fun r w'=>r = .bool true∧Ext w0 w':=by
 obtain ⟨mv,rfl,hM⟩:=hd
 have hm1:=SliceOf.oneCell hM
 have hw1:=SliceOf.oneCell hL
 obtain ⟨hokM,hlen⟩ := @msgL_ok d i
 refine n29s (R:=retR _) ?_;unfold n29
 simp (disch:=try exact DI) only [↓PR,QR,simprocAttr]
 simp only [World.size_alloc,cells_one hw1]
 generalize hW:World.alloc (World.alloc (World.alloc (World.alloc w0 _) _) _) _=W
 have e0:Ext w0 W:=by rw [← hW];exact ee
 have o6:W.heap[w0.heap.size+1]?=some (.cells #[.int .i64 many] 3 (0,0)):=by rw [← hW];simp (disch:=try exact DI) only [↓PR,QR,simprocAttr]
 have o7:W.heap[w0.heap.size+1+1]?=some (.cells #[wv] 48 (0,0)):=by rw [← hW];simp (disch:=try exact DI) only [↓PR,QR,simprocAttr]
 have o8:W.heap[w0.heap.size+1+1+1]?=some (.cells #[.bool false] 4 (0,0)):=by rw [← hW];simp (disch:=try exact DI) only [↓PR,QR,simprocAttr]
 clear hW
 generalize hp6:w0.heap.size+1=p6 at *
 generalize hp7:p6+1=p7 at *
 generalize hp8:p7+1=p8 at *
 refine callK_ret (Offsets_ret _ d i ⟨_,rfl,hM.ext e0⟩ ht) ?_
 rintro _ w1 ⟨p5,rfl,⟨w1',ea,hIt,eb⟩,e1⟩
 obtain ⟨fv,hOff⟩:=hIt.off
 have E1:=e0.trans e1
 have x6:=e1.obj o6
 have x7:=e1.obj o7
 have x8:=e1.obj o8
 have hL1:=hL.ext keptInt E1
 generalize msgL d i=l at hOff hL1 hokM hlen
 clear hIt o6 o7 o8 hL
 obtain ⟨A,cc,rfl,hlc,hcm,hlm,hel⟩:=SliceOf.open hL1
 rw [offsL_len] at *
 unfold n29c20
 simp (disch:=try exact DI) only [↓PR,QR,simprocAttr]
 unfold n29c19
 simp (disch:=try exact DI) only [↓PR,QR,simprocAttr]
 have l8:=(Array.getElem?_eq_some_iff.1 x8).1
 have o10:=heap_new w1 #[.int .i64 0] 3
 have eX:Ext w1 (w1.alloc (Obj.cells #[.int .i64 0] 3)):=ee
 generalize (w1.alloc (Obj.cells #[.int .i64 0] 3))=X at o10 eX ⊢
 refine loopM1_intro (fun ds a w'=>∃ (p10:Nat) (t:Nat),a = .pointer (some ⟨p10,0,none⟩)∧t≤2∧w1.heap.size≤p10∧w'.heap[p10]?=some (.cells #[.int .i64 (t:Int)] 3 (0,0))∧Ext w1 w'∧(∃ bs:List Nat,ds=bs.map Sw.mark∧bs.Nodup∧∀ b∈bs,MarkAt b w'∧w1.heap.size≤b)) turnA ⟨w1.heap.size,0,rfl,by omega,Nat.le_refl _,o10,eX,[],rfl,by simp,by simp⟩ ?_
 rintro ds _ w2 ⟨p10,t,rfl,ht2,hp10,y10,e2,bs,rfl,hnd,hbs⟩
 have hcw:∀ (w':World) (p u:Nat),w'.heap[p]?=some (.cells #[.int .i64 (u:Int)] 3 (0,0))→turnA (.pointer (some ⟨p,0,none⟩)) w'=2 - u:=by
  intro w' p u h
  unfold turnA
  simp only
  rw [(cells_of_heap h).1 0]
  show ((2:Int) - (u:Int)).toNat=2 - u
  omega
 unfold n29c18
 by_cases ht:t < 2
 · have dt:decide ((t:Int) < 2)=true:=by simp;omega
   simp (disch:=try exact DI) only [↓PR,QR,simprocAttr,(cells_of_heap y10).1,dt]
   unfold n29c17
   simp (disch:=try exact DI) only [↓PR,QR,simprocAttr]
   have l10:p10 < w2.heap.size:=(Array.getElem?_eq_some_iff.1 y10).1
   have eB:Ext w2 (w2.alloc (Obj.cells #[.int .i64 0] 3)):=ee
   have o11:=heap_new w2 #[.int .i64 0] 3
   have hs3:(w2.alloc (Obj.cells #[.int .i64 0] 3)).heap.size=w2.heap.size+1:=by simp only [World.size_alloc]
   generalize hp11:w2.heap.size=p11 at o11 hs3 ⊢
   generalize (w2.alloc (Obj.cells #[.int .i64 0] 3))=w3 at eB o11 hs3 ⊢
   have s2:=e2.size
   let I:Nat→World→Prop:=fun k w'=>Ext w1 w'∧(∀ b∈bs,MarkAt b w')∧w'.heap[p10]?=some (.cells #[.int .i64 (t:Int)] 3 (0,0))∧w'.heap[p11]?=some (.cells #[.int .i64 (k:Int)] 3 (0,0))∧(t=0→k=0∨(k:Int) < many)
   let Ix:Nat→World→Prop:=fun c w'=>c=1∧Ext w1 w'∧(∀ b∈bs,MarkAt b w')∧w'.heap[p10]?=some (.cells #[.int .i64 (t:Int)] 3 (0,0))∧∃ k:Nat,w'.heap[p11]?=some (.cells #[.int .i64 (k:Int)] 3 (0,0))∧t=0∧(k:Int)=min (l.length:Int) (max 1 many)
   have hmk:Lasts2 w3.heap.size (fun w=>∀ b∈bs,MarkAt b w):=lasts2_marks fun b hb=>by have:=(Array.getElem?_eq_some_iff.1 (hbs b hb).1).1;omega
   have hLI:∀ k,Lasts2 w3.heap.size (I k):=fun k=>(Lasts2.from (by omega)).and (hmk.and ((Lasts2.has _ (by simp) (by simp)).and ((Lasts2.has _ (by simp) (by simp)).and (Lasts2.const _ _))))
   have hLX:∀ k,Lasts2 w3.heap.size (Ix k):=fun k=>(Lasts2.const _ _).and ((Lasts2.from (by omega)).and (hmk.and ((Lasts2.has _ (by simp) (by simp)).and (.ex fun k=>(Lasts2.has _ (by simp) (by simp)).and (Lasts2.const _ _)))))
   have hfin:∀ (w4:World),Ext w1 w4→(∀ b∈bs,MarkAt b w4)→MarkAt w3.heap.size w4→∀ w5,w4.heap.size < w5.heap.size→w5.heap[w4.heap.size]?=some (.cells #[.int .i64 ((t+1:Nat):Int)] 3 (0,0))→Ext w4 w5 →
    (∃ (p10:Nat) (t':Nat),Value.pointer (some ⟨w4.heap.size,0,none⟩) = .pointer (some ⟨p10,0,none⟩)∧t'≤2∧w1.heap.size≤p10∧w5.heap[p10]?=some (.cells #[.int .i64 (t':Int)] 3 (0,0))∧Ext w1 w5∧(∃ bs':List Nat,(Sw.mark w3.heap.size::bs.map Sw.mark)=bs'.map Sw.mark∧bs'.Nodup∧∀ b∈bs',MarkAt b w5∧w1.heap.size≤b)) ∧
    turnA (.pointer (some ⟨w4.heap.size,0,none⟩)) w5 < turnA (.pointer (some ⟨p10,0,none⟩)) w2:=by
    intro w4 e4 hm4 hmk w5 hlt5 h5 e5
    have s4:=e4.size
    refine ⟨⟨w4.heap.size,t+1,rfl,by omega,by omega,h5,e4.trans e5,w3.heap.size::bs,rfl,List.nodup_cons.2 ⟨fun hin=>?_,hnd⟩,fun b hb=>?_⟩,?_⟩
    · have:=(Array.getElem?_eq_some_iff.1 (hbs _ hin).1).1
      omega
    · rcases List.mem_cons.1 hb with rfl | hb
      · exact ⟨hmk.ext e5,by omega⟩
      · exact ⟨(hm4 b hb).ext e5,(hbs b hb).2⟩
    · rw [hcw w5 _ (t+1) h5,hcw w2 p10 t y10];omega
   refine ⟨_,_,l.length,(fun k => .int .i64 k),(fun k => .int .i64 (endO (l.take k))),OffAt p5 fv l,I,Ix,fun _ _=>False,rfl,c57,Offsets_seq p5 fv l hokM.1,⟨e2.trans eB,fun b hb=>(hbs b hb).1.ext eB,eB.obj y10,o11,fun _ => .inl rfl⟩,fun k w' h=>hOff.ext h.1,hLI,hLX,fun _=>Lasts2.const _ _,?_,?_,?_,?_⟩
   · intro Rk hRk j w4 hj hI4 hR4 hlt hready
     refine ⟨hready,fun w5 hbz=>?_⟩
     have hR5:=hRk _ _ (KR.busied hbz) hR4
     obtain ⟨e5,hm5,q10,q11,hjm⟩:=(hLI j).busied hbz (Nat.le_succ _) hI4
     obtain ⟨b,o,cs,rfl,_,hE,hcs⟩:=hel j _ (offsL_get hj)
     subst hcs
     have hge:decide ((j:Int)≥(l.length:Int))=false:=by simp;omega
     have hjj:((j:Int) != (j:Int))=false:=by simp
     have hss:(endO (l.take j) != endO (l.take j))=false:=by simp
     unfold n29c3
     simp (disch:=try exact DI) only [↓PR,QR,simprocAttr,(cells_of_heap q11).1,(cells_of_heap (e5.obj x7)).1,hge,hjj,hE.c1 e5,hss,↓n29c2]
     unfold n29c1
     have hw:IntKind.i64.wrap ((j:Int)+1)=((j+1:Nat):Int):=by rw [wrap_ok (by omega) (by omega)];omega
     have r11:(w5.setCell ⟨p11,0,none⟩ (.int .i64 ((j+1:Nat):Int))).heap[p11]?=some (.cells #[.int .i64 ((j+1:Nat):Int)] 3 (0,0)):=by simpa using heap_set (o:=0) q11 (.int .i64 ((j+1:Nat):Int))
     have r10:=(Only.setCell w5 p11 0 (.int .i64 ((j+1:Nat):Int)) p10 (by omega)).trans q10
     have e6:Ext w1 (w5.setCell ⟨p11,0,none⟩ (.int .i64 ((j+1:Nat):Int))):=e5.setCell (by show w1.heap.size≤p11;omega) _
     have hm6:∀ b∈bs,MarkAt b (w5.setCell ⟨p11,0,none⟩ (.int .i64 ((j+1:Nat):Int))):=fun b hb=>(hm5 b hb).setCell _ _
     have hR6:=hRk _ _ (KR.setCell (KR.refl _ w5) p11 0 (.int .i64 ((j+1:Nat):Int)) (.inl (by omega))) hR5
     have x6':=e5.obj x6
     have hcase:t=0∨t=1:=by omega
     rcases hcase with ht0 | ht1
     · have d0:((t:Int) == 0)=true:=by rw [ht0];rfl
       by_cases hmy:((j+1:Nat):Int)≥many
       · have dm:decide (((j+1:Nat):Int)≥many)=true:=by simpa using hmy
         simp (disch:=try exact DI) only [↓PR,QR,simprocAttr,(cells_of_heap q11).1,(cells_of_heap q11).2,(cells_of_heap q10).1,d0,(cells_of_heap r11).1,(cells_of_heap x6').1,dm]
         refine ⟨hR6,rfl,e6,hm6,r10,j+1,r11,ht0,?_⟩
         have:=hjm ht0
         omega
       · have dm:decide (((j+1:Nat):Int)≥many)=false:=by simpa using hmy
         simp (disch:=try exact DI) only [↓PR,QR,simprocAttr,(cells_of_heap q11).1,(cells_of_heap q11).2,(cells_of_heap q10).1,d0,(cells_of_heap r11).1,(cells_of_heap x6').1,dm]
         exact ⟨hR6,e6,hm6,r10,r11,fun _ => .inr (by omega)⟩
     · have d0:((t:Int) == 0)=false:=by rw [ht1];rfl
       simp (disch:=try exact DI) only [↓PR,QR,simprocAttr,(cells_of_heap q11).1,(cells_of_heap q11).2,(cells_of_heap q10).1,d0]
       exact ⟨hR6,e6,hm6,r10,r11,fun h=>by omega⟩
   · rintro w4 ⟨e4,hm4,q10,q11,hjm⟩ hmk
     exact yie_after1 (e4.obj x6) (e4.obj x7) q10 q11 ht (fun h=>by have:=hjm h;omega) (fun _=>rfl) (hfin w4 e4 hm4 hmk)
   · rintro c w4 ⟨rfl,e4,hm4,q10,k,q11,ht0,hk⟩ hmk
     exact yie_after2 (e4.obj x6) (e4.obj x7) q10 q11 ht (fun _=>hk) (fun h=>by omega) (hfin w4 e4 hm4 hmk)
   · rintro ch w4 h
     exact h.elim
 · have dt:decide ((t:Int) < 2)=false:=by simp;omega
   have q8:=e2.obj x8
   simp (disch:=try exact DI) only [↓PR,QR,simprocAttr,(cells_of_heap y10).1,dt,(cells_of_heap q8).1,(cells_of_heap q8).2]
   have r8:(w2.setCell ⟨p8,0,none⟩ (.bool true)).heap[p8]?=some (.cells #[.bool true] 4 (0,0)):=by simpa using heap_set (o:=0) q8 (.bool true)
   refine outs_marks (w0:=w0) hnd (fun b hb=>⟨(hbs b hb).1.setCell _ _,by have:=(hbs b hb).2;have:=E1.size;omega⟩) ((E1.trans e2).setCell (by show w0.heap.size≤p8;omega) _) (fun w' e' hh=>?_)
   have z8:=hh _ _ has_nd r8
   simp (disch:=try exact DI) only [↓PR,QR,simprocAttr,outX_nil,retV,resOne,(cells_of_heap z8).1]
   exact ⟨by trivial,e'⟩
end Go.Proofs.YtdfhjlggcdemhaaGreat
namespace Go.Sw
open Go.ChangeShapes Go.WideShapes Go.RowKit Go.ChangeAt Go.Deep
section
variable {H:Type} {enc:TypeId×Value→H} {P:Program} {w:World} {base:Nat} {spare:Nat→Bool} {held:Bool}
theorem trodAll_stays (hl:laidOutB P=true) {W W':World} (he:Ext W W'):∀ {ts:List TypeId} {vs:List Value} {ds:List (DataW H)} {ps:List MemPlace},(∀ t∈ts,P.readableRec t=true∧t < P.types.size)→(∀ x∈ps,x.block < W.heap.size) →
 DataW.TrodAll enc P W 0 (fun _=>true) true ts vs ds ps→DataW.TrodAll enc P W' 0 (fun b=>decide (b < W.heap.size)) true ts vs ds ps
 | [],_,_,_,_,_,h=>by obtain ⟨rfl,rfl,rfl⟩:=trodAll_nil h;exact trodAll_mk0
 | t::ts,_,_,_,hr,hlt,h=>by
  obtain ⟨v,vs1,d,ds1,a,b,rfl,rfl,rfl,h1,h2⟩:=trodAll_cons h
  refine ⟨a,b,?_,trodAll_stays hl he (fun t ht=>hr t (List.mem_cons_of_mem _ ht)) (fun x hx=>hlt x (List.mem_append_right _ hx)) h2,rfl⟩
  exact Below.trod hl (hr t (List.mem_cons_self ..)).1 (hr t (List.mem_cons_self ..)).2 h1 ⟨he.os,he.tape,he.output,he.size,he.block⟩ (fun x hx=>hlt x (List.mem_append_left _ hx))
theorem law_post {f:Func} {s:ChangeSpec} {W W':World} {args:Array Value} {ds gs:List (DataW H)} {before:List MemPlace} {tb:TypeId} (hl:laidOutB P=true) (hr:∀ t∈f.params.toList,P.readableRec t=true∧t < P.types.size) (hs:s.vars=[])
 (hW:DataW.Whole enc P f.params.toList s.vars false W args.toList ds gs before) (he:Ext W W') (hres:f.resultTypes = #[tb]) (htb:P.underlying tb=some .bool) (hfn:(s.fn H ds).results=[.lit (.bool true)]) (hargs:(s.fn H ds).args=ds) (hvars:(s.fn H ds).vars=[]) :
 s.post enc P f false true false false W args (.bool true) W':=by
 have hW':=hW
 obtain ⟨p,q,hA,hV,rfl,_,_⟩:=hW
 rw [hs] at hV
 obtain ⟨rfl,rfl⟩:=trodVars_none hV
 have hlt:∀ x∈p,x.block < W.heap.size:=fun x hx=>hW'.lt x (by simpa using hx)
 rw [List.append_nil] at hW'
 refine ⟨ds,[],p,[],p,[],hW',?_,?_,?_,Below.frame ⟨he.os,he.tape,he.output,he.size,he.block⟩ _,fun h=>by cases h⟩
 · rw [List.append_nil,hfn,hres]
   exact trodAll_mk1 (shut_bool htb _)
 · rw [List.append_nil,hargs]
   exact trodAll_stays hl he hr hlt hA
 · rw [List.append_nil,hvars,hs]
   exact rfl
end
end Go.Sw
namespace Go.Proofs.YtdfhjlggcdemhaaGreat
open Sw
open Go.RowKit (intOf Below)
theorem pads_true (w0:World) (n p want no:Int) (h:padP n p=(want,no)):Ret Pg 48 #[.int .i64 n,.int .i64 p,.int .i64 want,.int .i64 no] w0 fun r w'=>r = .bool true∧Ext w0 w':=by
 refine n28s (R:=retR _) ?_;unfold n28
 refine zcr (Padding_ret n p) fun w1 e1=>?_
 rw [h]
 have d1:(want == want)=true:=by simp
 have d2:(no == no)=true:=by simp
 unfold n28c1
 simp (disch:=try exact DI) only [↓PR,QR,simprocAttr,d1,d2]
 exact ⟨by trivial,e1⟩
theorem known14_ret (w0:World):Ret Pg 15 #[] w0 fun r w'=>r = .bool true∧Ext w0 w':=by
 have hcg:calm (gD gF):=calm_g gF_plain (by decide)
 have hc1:calm (gD (gL 1)):=calm_g (by decide) (by decide)
 have hc2:calm (gD (gL 2)):=calm_g (by decide) (by decide)
 have hE:msgE (gD gF) 0=0:=by decide +kernel
 have hL:msgL (gD gF) 0=gF:=by decide +kernel
 have f1:flawedA (gD (gL 1))=true:=by unfold flawedA;rw [al_1];rfl
 have f2:flawedA (gD (gL 2))=true:=by unfold flawedA;rw [al_2];rfl
 have fg:flawedA (gD gF)=false:=by unfold flawedA;rw [al_g];rfl
 refine n26s (R:=retR _) ?_;unfold n26
 refine callK_ret (given_ret _) ?_
 rintro _ w1 ⟨bf1,bm1,rfl,_,_,_,hO1,hm1,e1⟩
 refine zcr (End_ret _ (gD gF) 0 (one_def hm1 (own_fields hO1 gF_plain)) hcg) fun w2 e2=>?_
 rw [hE,hL,en_g]
 unfold n26c17
 simp (disch:=try exact DI) only [↓PR,QR,simprocAttr]
 refine callK_ret (given_ret _) ?_
 rintro _ w3 ⟨bf3,bm3,rfl,_,_,_,hO3,hm3,e3⟩
 refine zcr (Fixed_ret _ (gD gF) 0 (one_def hm3 (own_fields hO3 gF_plain)) hcg) fun w4 e4=>?_
 rw [hE,hL,fx_g]
 have E4:=e1.trans (e2.trans (e3.trans e4))
 unfold n26c16
 simp (disch:=try exact DI) only [↓PR,QR,simprocAttr]
 refine callK_ret (less_ret _ 1 (.inl rfl)) ?_
 rintro v5 w5 ⟨hd5,e5⟩
 refine zcr (alCheck_ret _ v5 _ hd5 hc1) fun w6 e6=>?_
 rw [al_1,f1]
 have E6:=E4.trans (e5.trans e6)
 unfold n26c15
 simp (disch:=try exact DI) only [↓PR,QR,simprocAttr]
 have eX:Ext w6 (w6.alloc (.cells #[.int .i64 0,.int .i64 2,.int .i64 12] 29)):=ee
 have oX:=heap_new w6 #[.int .i64 0,.int .i64 2,.int .i64 12] 29
 generalize (w6.alloc (.cells #[.int .i64 0,.int .i64 2,.int .i64 12] 29))=X at eX oX ⊢
 refine callK_ret (less_ret _ 2 (.inr rfl)) ?_
 rintro v7 w7 ⟨hd7,e7⟩
 refine zcr (alCheck_ret _ v7 _ hd7 hc2) fun w8 e8=>?_
 rw [al_2,f2]
 unfold n26c14
 simp (disch:=try exact DI) only [↓PR,QR,simprocAttr]
 simp only [World.size_setCell,World.size_alloc]
 generalize hY:World.alloc (World.alloc w8 _) _=Y
 have eY:Ext w8 Y:=by rw [← hY];exact ee
 have o7:Y.heap[w8.heap.size]?=some (.cells #[.int .i64 0,.int .i64 2,.int .i64 12] 29 (0,0)):=by rw [← hY];simp (disch:=try exact DI) only [↓PR,QR,simprocAttr]
 have o9:Y.heap[w8.heap.size+1]?=some (.cells #[.int .i64 0,.int .i64 2,.int .i64 12] 29 (0,0)):=by rw [← hY];simp (disch:=try exact DI) only [↓PR,QR,simprocAttr]
 clear hY
 have x5:=(e7.trans (e8.trans eY)).obj oX
 have E9:=E6.trans (eX.trans (e7.trans (e8.trans eY)))
 clear e7 e8 eY hd7 hd5 e5 e6 oX eX E4 E6 hO1 hO3 hm1 hm3 e1 e2 e3 e4
 generalize w8.heap.size=p7 at o7 o9 ⊢
 generalize w6.heap.size=p5 at x5 ⊢
 refine callK_ret (given_ret _) ?_
 rintro _ w10 ⟨bf,bm,rfl,_,_,_,hO,hm,e10⟩
 unfold n26c13
 simp (disch:=try exact DI) only [↓PR,QR,simprocAttr]
 have hS:=SliceOf.new1 (E:=EInt) (fun n=>Value.int .i64 n) (fun _ _=>rfl) w10 [0,3,4,0] 3 (by decide)
 have eZ:Ext w10 (w10.alloc (.cells (([0,3,4,0]:List Int).map (fun n=>Value.int .i64 n)).toArray 3)):=ee
 refine zcr (yields_ret (w10.alloc (.cells (([0,3,4,0]:List Int).map (fun n=>Value.int .i64 n)).toArray 3)) _ (gD gF) 0 9 _ ((one_def hm (own_fields hO gF_plain)).ext eZ) hcg (by rw [hL,of_g];exact hS)) fun w11 e11=>?_
 have E11:=E9.trans (e10.trans (eZ.trans e11))
 have y5:=(e10.trans (eZ.trans e11)).obj x5
 have y7:=(e10.trans (eZ.trans e11)).obj o7
 have y9:=(e10.trans (eZ.trans e11)).obj o9
 clear e10 eZ e11 x5 o7 o9 hO hm hS E9
 simp (disch:=try exact DI) only [↓PR,QR,simprocAttr,↓n26c12,↓n26c11,↓n26c10,↓n26c9,↓n26c8]
 refine callK_ret (given_ret _) ?_
 rintro _ w12 ⟨bf2,bm2,rfl,_,_,_,hO,hm,e12⟩
 refine zcr (Aligned_ret _ (gD gF) (one_def hm (own_fields hO gF_plain)) hcg) fun w13 e13=>?_
 rw [fg]
 have z5:=(e12.trans e13).obj y5
 have z7:=(e12.trans e13).obj y7
 have z9:=(e12.trans e13).obj y9
 have E13:=E11.trans (e12.trans e13)
 simp (disch:=try exact DI) only [↓PR,QR,simprocAttr,↓n26c7,↓n26c6,↓n26c5,↓n26c4,(cells_of_heap z5).1,(cells_of_heap z7).1,(cells_of_heap z9).1]
 refine zcr (pads_true _ 4 3 1 0 (by decide +kernel)) fun w14 e14=>?_
 simp (disch:=try exact DI) only [↓PR,QR,simprocAttr,↓n26c3]
 refine zcr (pads_true _ 16 24 8 0 (by decide +kernel)) fun w15 e15=>?_
 simp (disch:=try exact DI) only [↓PR,QR,simprocAttr,↓n26c2]
 refine zcr (pads_true _ 8 8 0 0 (by decide +kernel)) fun w16 e16=>?_
 simp (disch:=try exact DI) only [↓PR,QR,simprocAttr,↓n26c1]
 refine zcr (pads_true _ 3 0 0 2 (by decide +kernel)) fun w17 e17=>?_
 simp (disch:=try exact DI) only [↓PR,QR,simprocAttr]
 exact ⟨by trivial,E13.trans (e14.trans (e15.trans (e16.trans e17)))⟩
end Go.Proofs.YtdfhjlggcdemhaaGreat
namespace Go.Proofs.YtdfhjlggcdemhaaGreat
open Sw
def n24c1 (t23 t27:Value) (R:RT) (w:World):Prop :=
 pickK t23 t27 (.bool false) fun t28 =>
 joinK (fun (t30:Value) (w:World) =>
 pickK t28 t30 (.bool false) fun t31 =>
 R (.returned t31) w) fun K2 =>
 guardP t28 true (
 C0 15 #[] R w fun t30 w =>
 K2 t30 w) (
 K2 undef w)
def n24c2 (t13 t14 t18:Value) (R:RT) (w:World):Prop :=
 opV Pg (Instr.extract t18 0) (panK R) w fun t19 w =>
 opV Pg (Instr.extract t18 1) (panK R) w fun t20 w =>
 B0 .eql 3 false t13 t19 R w fun t23 w =>
 joinK (fun (t27:Value) (w:World) =>
 n24c1 t23 t27 R w) fun K1 =>
 guardP t23 true (
 B0 .eql 3 false t14 t20 R w fun t27 w =>
 K1 t27 w) (
 K1 undef w)
def n24c3 (t0 t1 t12:Value) (R:RT) (w:World):Prop :=
 opV Pg (Instr.extract t12 0) (panK R) w fun t13 w =>
 opV Pg (Instr.extract t12 1) (panK R) w fun t14 w =>
 C0 25 #[t0,t1] R w fun t18 w =>
 n24c2 t13 t14 t18 R w
def n24 (t0 t1:Value) (R:RT) (w:World):Prop :=
 C0 24 #[t0,t1] R w fun t12 w =>
 n24c3 t0 t1 t12 R w
theorem n24s {t0 t1:Value} {R:RT} {w:World} (h:n24 t0 t1 R w):Calls Pg 6 #[t0,t1] w R:=by
 refine yD Tryz.func6 ?_
 refine zs<|zr<|zm<|zn<|zk<|zs<|zr<|zm<|zm<|yc h c24 fun _ w h=>zm<|yv h fun _ w h=>yv h fun _ w h=>zm<|zm ?_
 refine zn<|zk<|zs<|zr<|zm<|zm<|yc h c25 fun _ w h=>zm<|yv h fun _ w h=>yv h fun _ w h=>zm<|zm<|zn<|zk<|zs ?_
 refine sim_regionG<|yG 4<|zm<|zm<|yb h fun _ w h=>zm<|zn<|yg1 3 3 true [25,26,27] 27 h (fun _ T hT h=>?_) fun σ w h=>?_
 · refine zm<|zm<|yb h fun _ w h=>zn ?_
   exact zt hT h
 refine yG 2<|yp h fun _ h=>zm<|zn<|yg1 1 8 true [30] 30 h (fun _ T hT h=>?_) fun σ w h=>?_
 · refine yc h c15 fun _ w h=>zn ?_
   exact zt hT h
 exact yG 2<|yp h fun _ h=>zm<|zn<|sim_end<|zk<|sim_ret<|body_ret1 rfl rfl h
end Go.Proofs.YtdfhjlggcdemhaaGreat
namespace Go.Proofs.YtdfhjlggcdemhaaGreat
open Sw
open Go.RowKit (intOf Below)
theorem AlignPads_ret (w0:World) (n p:Int):Ret Pg 6 #[.int .i64 n,.int .i64 p] w0 fun r w'=>r = .bool true∧Ext w0 w':=by
 refine n24s (R:=retR _) ?_;unfold n24
 refine zcr (Padding_ret n p) fun w1 e1=>?_
 unfold n24c3
 simp (disch:=try exact DI) only [↓PR,QR,simprocAttr]
 refine zcr (rPadding_ret n p) fun w2 e2=>?_
 have hbe:∀ n:Int,(n == n)=true:=fun n=>by simp
 have hw:IntKind.i64.wrap (padP n p).2=(padP n p).2:=by unfold padP;split<;>rfl
 unfold n24c2
 simp (disch:=try exact DI) only [↓PR,QR,simprocAttr,hbe,hw,↓n24c1]
 refine zcr (known14_ret _) fun w3 e3=>?_
 simp (disch:=try exact DI) only [↓PR,QR,simprocAttr]
 exact ⟨by trivial,e1.trans (e2.trans e3)⟩
end Go.Proofs.YtdfhjlggcdemhaaGreat
namespace Go.Proofs.YtdfhjlggcdemhaaGreat
open Sw
open Go.ChangeShapes Go.WideShapes Go.RowKit Go.ChangeAt Go.Deep
theorem apads_own:ownKnob Pg.godebug=none:=by kernel_rfl
theorem apads_laidOut:laidOutB Pg=true:=by kernel_rfl
theorem apads_lifted (os:Os) (started:os.Started) (H:Type) (enc:TypeId×Value→H) :
 ReturnsInHanded {} Tryz.checked os 6 .any (Rows.alignPadsSpec.pre6 enc Pg Tryz.f6 Rows.alignPadsRow.domain false) (Rows.alignPadsSpec.post enc Pg Tryz.f6 false true false false):=by
 refine returnsInHanded_of_change_sized (C:=Tryz.checked) apads_own started (by kernel_rfl) Tryz.func6
  (ChangeSpec.witness6 (enc:=enc) (C:=Tryz.checked) false ⟨#[],#[.int .i64 0,.int .i64 0],[]⟩ 8 (by kernel_rfl) (by kernel_rfl) (by kernel_rfl) (by kernel_rfl)) ?_
 intro W base args ds gs before hval hW _ hsz _
 have hW':=hW
 obtain ⟨p,q,hA0,hV,rfl,_,_⟩:=hW
 have hA:DataW.TrodAll enc Pg W 0 (fun _=>true) true Tryz.f6.params.toList args.toList ds p:=hA0
 rw [Tryz.params6] at hA hval hsz
 obtain ⟨v0,vs0,d0,ds0,p0,q0,ha0,rfl,rfl,h0,r0⟩:=trodAll_cons hA
 obtain ⟨v1,vs1,d1,ds1,p1,q1,ha1,rfl,rfl,h1,r1⟩:=trodAll_cons r0
 obtain ⟨rfl,rfl,rfl⟩:=trodAll_nil r1
 subst ha1
 obtain rfl:args = #[v0,v1]:=by cases args;simp_all
 obtain ⟨n0,rfl,_,_,hw0⟩:=open_int Tryz.underlying3 (hval 0 _ v0 rfl rfl) h0
 obtain ⟨n1,rfl,_,_,hw1⟩:=open_int Tryz.underlying3 (hval 1 _ v1 rfl rfl) h1
 refine Calls.mono (AlignPads_ret W n0 n1 ) fun e W' ⟨v,he,hv,hx⟩=>?_
 subst he hv
 exact ⟨_,rfl,law_post apads_laidOut (by decide +kernel) rfl hW' hx rfl Tryz.underlying4 rfl rfl rfl⟩
theorem apads_holds:Rows.AlignPadsSaid :=
 OpenClaim.holds_of_wide 6 Tryz.f6 rfl rfl rfl rfl rfl rfl rfl ⟨rfl,rfl,rfl,rfl,rfl⟩ rfl rfl rfl rfl rfl (by kernel_rfl) Tryz.func6 (by kernel_rfl)
  (of_decide_eq_true (by kernel_rfl)) (by unfold Func.isWrapper;first | (rw [if_pos (by decide +kernel)];kernel_rfl) | (rw [if_neg (by decide +kernel)];exact ⟨rfl,rfl⟩))
  (fun os started H enc _=>apads_lifted os started H enc)
end Go.Proofs.YtdfhjlggcdemhaaGreat
