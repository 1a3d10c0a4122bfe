/-
  Lemmas for the claim.
-/
import Derived.Test.YtfdecdnmooaegaaGreatDoorRc4
set_option linter.all false
set_option maxHeartbeats 4000000
set_option maxRecDepth 100000
namespace Go.Proofs.YtfdecdnmooaegaaGreatDoor
open Sw
open Go.RowKit (intOf Below)
abbrev mkV (pb:Nat) (i:Int):Value := .agg #[.pointer (some ⟨pb,0,none⟩),.int .i64 i]
section
variable {X w:World} {pb rm gm base:Nat} {d:DefD} {mc:Value} {code:List InsD} {φ ψ:ByteArray→Option Int}
def Adds (X:World) (pb rm gm base:Nat) (d:DefD) (mc:Value) (φ ψ:ByteArray→Option Int) (w:World) (code:List InsD) (r:Value) (w':World):Prop:=r = .tuple #[]∧Cmp X pb rm gm base d mc w' code φ ψ∧FrC pb rm gm w w'
theorem put_ret (h:Cmp X pb rm gm base d mc w code φ ψ) (i c f t:Int) (hl:code.length≤100000):Ret Pg 43 #[mkV pb i,.int .i64 c,.int .i64 f,.int .i64 t] w (Adds X pb rm gm base d mc φ ψ w (code++[⟨c,i,f,-1,-1,t⟩])):=by
 refine n45s (R:=retR _) ?_;unfold n45
 rw [op_boxA]
 have o2:=heap_new w #[.pointer (some ⟨pb,0,none⟩),.int .i64 i] 96
 have e1:Ext w (w.alloc (.cells #[.pointer (some ⟨pb,0,none⟩),.int .i64 i] 96)):=ee
 generalize (w.alloc (.cells #[.pointer (some ⟨pb,0,none⟩),.int .i64 i] 96))=w1 at o2 e1 ⊢
 generalize hp2:w.heap.size=p2 at o2 ⊢
 refine zcr (instruction_ret w1 c) fun w2 e2=>?_
 have q2:=e2.obj o2
 unfold n45c1
 have hc2:∀ O o,(w2.alloc O).cell? ⟨p2,o,none⟩=(#[.pointer (some ⟨pb,0,none⟩),.int .i64 i]:Array Value)[o]?:=fun O o=>(cells_of_heap ((Ext.alloc (Ext.refl w2) O).obj q2)).1 o
 simp (disch:=try exact DI) only [↓PR,QR,simprocAttr,hc2]
 refine callK_ret (add_ret (h.go ee) i ⟨c,i,f,-1,-1,t⟩ hl) ?_
 rintro _ w3 ⟨rfl,hC,hF⟩
 exact ⟨_,rfl,rfl,hC,(FrC.of ee).trans hF⟩
def CmpK (X:World) (pb rm gm base:Nat) (d:DefD) (mc:Value) (φ ψ:ByteArray→Option Int) (w:World):World→Prop:=fun w'=>∃ code,Cmp X pb rm gm base d mc w' code φ ψ∧FrC pb rm gm w w'
theorem CmpK.ptr {w':World} (h:CmpK X pb rm gm base d mc φ ψ w w'):w'.cell? ⟨pb,4,none⟩=some (.map (some rm)):=by
 obtain ⟨code,h1,_⟩:=h
 obtain ⟨cv,h2,_⟩:=h1.obj
 rw [(cells_of_heap h2).1]
 rfl
theorem CmpK.cell {w':World} (h:CmpK X pb rm gm base d mc φ ψ w w') {b o:Nat} {cs:Array Value} {T:TypeId} {v:Value} (hb:w.heap[b]?=some (.cells cs T (0,0))) (hT:T≠TI) (hC:Cmp X pb rm gm base d mc w code φ ψ) (hn:base≤b) (hv:cs[o]?=some v):w'.cell? ⟨b,o,none⟩=some v:=by
 obtain ⟨code,_,h2⟩:=h
 have h3:=hC.bp
 have h4:=hC.br
 have h5:=hC.bg
 have:=h2.2 b _ hb (by omega) (by omega) (by omega) (by rintro cs' he;injection he with _ he;exact hT he)
 rw [(cells_of_heap this).1]
 exact hv
theorem looksK {C:World→Prop} {w:World} {f:(World→Prop)→World→Prop} (hC:C (drew w)) (h:ClassNe C→f C (drew w)):drawK w f:=⟨C,hC,h ⟨⟨_,hC⟩⟩⟩
theorem one_ret (h:Cmp X pb rm gm base d mc w code φ ψ) (i k:Int) (f:FieldD) (v:Value) (hf:FieldVal w v f) {t:Int} (hφ:φ f.of=some t) (hl:code.length≤100000):Ret Pg 44 #[mkV pb i,.int .i64 k,v] w (Adds X pb rm gm base d mc φ ψ w (code++[⟨5,i,k,-1,-1,t⟩])):=by
 obtain ⟨tv,cv,rfl,hT,hC,ht1,hc1⟩:=hf.op
 refine n43s (R:=retR _) ?_;unfold n43
 rw [op_boxA,op_boxA]
 have o3:=heap_new w #[.pointer (some ⟨pb,0,none⟩),.int .i64 i] 96
 have e1:Ext w (w.alloc (.cells #[.pointer (some ⟨pb,0,none⟩),.int .i64 i] 96)):=ee
 generalize (w.alloc (.cells #[.pointer (some ⟨pb,0,none⟩),.int .i64 i] 96))=w1 at o3 e1 ⊢
 have hb:=h.bw
 have s1:=e1.size
 generalize hp3:w.heap.size=p3 at o3 hb s1 ⊢
 have o5:=heap_new w1 (fieldCells f tv cv).toArray 71
 have e2:Ext w1 (w1.alloc (.cells (fieldCells f tv cv).toArray 71)):=ee
 generalize (w1.alloc (.cells (fieldCells f tv cv).toArray 71))=w2 at o5 e2 ⊢
 generalize hp5:w1.heap.size=p5 at o5 s1 ⊢
 have q3:=e2.obj o3
 have e12:=e1.trans e2
 have h2:=h.go e12
 refine looksK (C:=CmpK X pb rm gm base d mc φ ψ w2) ⟨code,h2.go (Ext.refl w2).drew,FrC.of (Ext.refl w2).drew⟩ fun hne=>?_
 unfold n43c1
 have c3:∀ w',CmpK X pb rm gm base d mc φ ψ w2 w'→∀ o u,(#[.pointer (some ⟨pb,0,none⟩),.int .i64 i]:Array Value)[o]?=some u→w'.cell? ⟨p3,o,none⟩=some u:=fun w' hw o u hu=>hw.cell q3 (by decide) h2 (by omega) hu
 have c5:∀ w',CmpK X pb rm gm base d mc φ ψ w2 w'→∀ o u,(fieldCells f tv cv).toArray[o]?=some u→w'.cell? ⟨p5,o,none⟩=some u:=fun w' hw o u hu=>hw.cell o5 (by decide) h2 (by omega) hu
 have hm3:∀ K:Value→Prop,qV Pg (CmpK X pb rm gm base d mc φ ψ w2) (Instr.loadAt 96 (.pointer (some ⟨p3,0,none⟩))) K=K (mkV pb i):=fun K=>qV_loadG fun w' hw=>ElemAt.loads (b:=p3) (o:=0) (cs:=[.pointer (some ⟨pb,0,none⟩),.int .i64 i]) (fun j u hu=>by rw [Nat.zero_add];exact c3 w' hw j u (by simpa using hu)) ty96 rfl
 have hp:∀ K:Value→Prop,qV Pg (CmpK X pb rm gm base d mc φ ψ w2) (Instr.loadAt 27 (.pointer (some ⟨p3,0,none⟩))) K=K (.pointer (some ⟨pb,0,none⟩)):=fun K=>qV_loadG fun w' hw=>Loads.one ty27 (c3 w' hw 0 _ rfl)
 have hr:∀ K:Value→Prop,qV Pg (CmpK X pb rm gm base d mc φ ψ w2) (Instr.loadAt 59 (.pointer (some ⟨pb,4,none⟩))) K=K (.map (some rm)):=fun K=>qV_loadG fun w' hw=>Loads.one ty59 hw.ptr
 have ho:∀ K:Value→Prop,qV Pg (CmpK X pb rm gm base d mc φ ψ w2) (Instr.loadAt 9 (.pointer (some ⟨p5,9,none⟩))) K=K (.string f.of):=fun K=>qV_loadG fun w' hw=>Loads.one ty9 (c5 w' hw 9 _ rfl)
 have hk:∀ K:Value→Prop,qV Pg (CmpK X pb rm gm base d mc φ ψ w2) (Instr.lookup 59 (.map (some rm)) (.string f.of) false) K=K (.int .i64 t):=fun K=>qV_eqC fun w' hw=>run_of_op fun QP kk=>by
  obtain ⟨code',h3,_⟩:=hw
  rw [h3.routs.look,hφ]
  rfl
 simp (disch:=try exact DI) only [↓PR,QR,simprocAttr,hm3,hp,hr,ho,hk]
 have eD:=(Ext.refl w2).drew
 refine callK_ret (put_ret (h2.go eD) i 5 k t hl) ?_
 rintro _ w3 ⟨rfl,hC3,hF3⟩
 exact ⟨⟨_,hC3,(FrC.of eD).trans hF3⟩,_,rfl,rfl,hC3,(FrC.of (e12.trans eD)).trans hF3⟩
theorem many_ret (h:Cmp X pb rm gm base d mc w code φ ψ) (i k:Int) (f:FieldD) (v:Value) (hf:FieldVal w v f) {t:Int} (hφ:φ f.of=some t) (hl:code.length≤100000):Ret Pg 45 #[mkV pb i,.int .i64 k,v] w (Adds X pb rm gm base d mc φ ψ w (code++[⟨6,i,k,-1,-1,t⟩])):=by
 obtain ⟨tv,cv,rfl,hT,hC,ht1,hc1⟩:=hf.op
 refine n42s (R:=retR _) ?_;unfold n42
 rw [op_boxA,op_boxA]
 have o3:=heap_new w #[.pointer (some ⟨pb,0,none⟩),.int .i64 i] 96
 have e1:Ext w (w.alloc (.cells #[.pointer (some ⟨pb,0,none⟩),.int .i64 i] 96)):=ee
 generalize (w.alloc (.cells #[.pointer (some ⟨pb,0,none⟩),.int .i64 i] 96))=w1 at o3 e1 ⊢
 have hb:=h.bw
 have s1:=e1.size
 generalize hp3:w.heap.size=p3 at o3 hb s1 ⊢
 have o5:=heap_new w1 (fieldCells f tv cv).toArray 71
 have e2:Ext w1 (w1.alloc (.cells (fieldCells f tv cv).toArray 71)):=ee
 generalize (w1.alloc (.cells (fieldCells f tv cv).toArray 71))=w2 at o5 e2 ⊢
 generalize hp5:w1.heap.size=p5 at o5 s1 ⊢
 have q3:=e2.obj o3
 have e12:=e1.trans e2
 have h2:=h.go e12
 refine looksK (C:=CmpK X pb rm gm base d mc φ ψ w2) ⟨code,h2.go (Ext.refl w2).drew,FrC.of (Ext.refl w2).drew⟩ fun hne=>?_
 unfold n42c1
 have c3:∀ w',CmpK X pb rm gm base d mc φ ψ w2 w'→∀ o u,(#[.pointer (some ⟨pb,0,none⟩),.int .i64 i]:Array Value)[o]?=some u→w'.cell? ⟨p3,o,none⟩=some u:=fun w' hw o u hu=>hw.cell q3 (by decide) h2 (by omega) hu
 have c5:∀ w',CmpK X pb rm gm base d mc φ ψ w2 w'→∀ o u,(fieldCells f tv cv).toArray[o]?=some u→w'.cell? ⟨p5,o,none⟩=some u:=fun w' hw o u hu=>hw.cell o5 (by decide) h2 (by omega) hu
 have hm3:∀ K:Value→Prop,qV Pg (CmpK X pb rm gm base d mc φ ψ w2) (Instr.loadAt 96 (.pointer (some ⟨p3,0,none⟩))) K=K (mkV pb i):=fun K=>qV_loadG fun w' hw=>ElemAt.loads (b:=p3) (o:=0) (cs:=[.pointer (some ⟨pb,0,none⟩),.int .i64 i]) (fun j u hu=>by rw [Nat.zero_add];exact c3 w' hw j u (by simpa using hu)) ty96 rfl
 have hp:∀ K:Value→Prop,qV Pg (CmpK X pb rm gm base d mc φ ψ w2) (Instr.loadAt 27 (.pointer (some ⟨p3,0,none⟩))) K=K (.pointer (some ⟨pb,0,none⟩)):=fun K=>qV_loadG fun w' hw=>Loads.one ty27 (c3 w' hw 0 _ rfl)
 have hr:∀ K:Value→Prop,qV Pg (CmpK X pb rm gm base d mc φ ψ w2) (Instr.loadAt 59 (.pointer (some ⟨pb,4,none⟩))) K=K (.map (some rm)):=fun K=>qV_loadG fun w' hw=>Loads.one ty59 hw.ptr
 have ho:∀ K:Value→Prop,qV Pg (CmpK X pb rm gm base d mc φ ψ w2) (Instr.loadAt 9 (.pointer (some ⟨p5,9,none⟩))) K=K (.string f.of):=fun K=>qV_loadG fun w' hw=>Loads.one ty9 (c5 w' hw 9 _ rfl)
 have hk:∀ K:Value→Prop,qV Pg (CmpK X pb rm gm base d mc φ ψ w2) (Instr.lookup 59 (.map (some rm)) (.string f.of) false) K=K (.int .i64 t):=fun K=>qV_eqC fun w' hw=>run_of_op fun QP kk=>by
  obtain ⟨code',h3,_⟩:=hw
  rw [h3.routs.look,hφ]
  rfl
 simp (disch:=try exact DI) only [↓PR,QR,simprocAttr,hm3,hp,hr,ho,hk]
 have eD:=(Ext.refl w2).drew
 refine callK_ret (put_ret (h2.go eD) i 6 k t hl) ?_
 rintro _ w3 ⟨rfl,hC3,hF3⟩
 exact ⟨⟨_,hC3,(FrC.of eD).trans hF3⟩,_,rfl,rfl,hC3,(FrC.of (e12.trans eD)).trans hF3⟩
theorem view_ret (h:Cmp X pb rm gm base d mc w code φ ψ) (i k:Int) (f:FieldD) (v:Value) (hf:FieldVal w v f) {t:Int} (hφ:φ f.of=some t) (hl:code.length≤100000):Ret Pg 46 #[mkV pb i,.int .i64 k,v] w (Adds X pb rm gm base d mc φ ψ w (code++[⟨9,i,k,-1,-1,t⟩])):=by
 obtain ⟨tv,cv,rfl,hT,hC,ht1,hc1⟩:=hf.op
 refine n46s (R:=retR _) ?_;unfold n46
 rw [op_boxA,op_boxA]
 have o3:=heap_new w #[.pointer (some ⟨pb,0,none⟩),.int .i64 i] 96
 have e1:Ext w (w.alloc (.cells #[.pointer (some ⟨pb,0,none⟩),.int .i64 i] 96)):=ee
 generalize (w.alloc (.cells #[.pointer (some ⟨pb,0,none⟩),.int .i64 i] 96))=w1 at o3 e1 ⊢
 have hb:=h.bw
 have s1:=e1.size
 generalize hp3:w.heap.size=p3 at o3 hb s1 ⊢
 have o5:=heap_new w1 (fieldCells f tv cv).toArray 71
 have e2:Ext w1 (w1.alloc (.cells (fieldCells f tv cv).toArray 71)):=ee
 generalize (w1.alloc (.cells (fieldCells f tv cv).toArray 71))=w2 at o5 e2 ⊢
 generalize hp5:w1.heap.size=p5 at o5 s1 ⊢
 have q3:=e2.obj o3
 have e12:=e1.trans e2
 have h2:=h.go e12
 refine looksK (C:=CmpK X pb rm gm base d mc φ ψ w2) ⟨code,h2.go (Ext.refl w2).drew,FrC.of (Ext.refl w2).drew⟩ fun hne=>?_
 unfold n46c1
 have c3:∀ w',CmpK X pb rm gm base d mc φ ψ w2 w'→∀ o u,(#[.pointer (some ⟨pb,0,none⟩),.int .i64 i]:Array Value)[o]?=some u→w'.cell? ⟨p3,o,none⟩=some u:=fun w' hw o u hu=>hw.cell q3 (by decide) h2 (by omega) hu
 have c5:∀ w',CmpK X pb rm gm base d mc φ ψ w2 w'→∀ o u,(fieldCells f tv cv).toArray[o]?=some u→w'.cell? ⟨p5,o,none⟩=some u:=fun w' hw o u hu=>hw.cell o5 (by decide) h2 (by omega) hu
 have hm3:∀ K:Value→Prop,qV Pg (CmpK X pb rm gm base d mc φ ψ w2) (Instr.loadAt 96 (.pointer (some ⟨p3,0,none⟩))) K=K (mkV pb i):=fun K=>qV_loadG fun w' hw=>ElemAt.loads (b:=p3) (o:=0) (cs:=[.pointer (some ⟨pb,0,none⟩),.int .i64 i]) (fun j u hu=>by rw [Nat.zero_add];exact c3 w' hw j u (by simpa using hu)) ty96 rfl
 have hp:∀ K:Value→Prop,qV Pg (CmpK X pb rm gm base d mc φ ψ w2) (Instr.loadAt 27 (.pointer (some ⟨p3,0,none⟩))) K=K (.pointer (some ⟨pb,0,none⟩)):=fun K=>qV_loadG fun w' hw=>Loads.one ty27 (c3 w' hw 0 _ rfl)
 have hr:∀ K:Value→Prop,qV Pg (CmpK X pb rm gm base d mc φ ψ w2) (Instr.loadAt 59 (.pointer (some ⟨pb,4,none⟩))) K=K (.map (some rm)):=fun K=>qV_loadG fun w' hw=>Loads.one ty59 hw.ptr
 have ho:∀ K:Value→Prop,qV Pg (CmpK X pb rm gm base d mc φ ψ w2) (Instr.loadAt 9 (.pointer (some ⟨p5,9,none⟩))) K=K (.string f.of):=fun K=>qV_loadG fun w' hw=>Loads.one ty9 (c5 w' hw 9 _ rfl)
 have hk:∀ K:Value→Prop,qV Pg (CmpK X pb rm gm base d mc φ ψ w2) (Instr.lookup 59 (.map (some rm)) (.string f.of) false) K=K (.int .i64 t):=fun K=>qV_eqC fun w' hw=>run_of_op fun QP kk=>by
  obtain ⟨code',h3,_⟩:=hw
  rw [h3.routs.look,hφ]
  rfl
 simp (disch:=try exact DI) only [↓PR,QR,simprocAttr,hm3,hp,hr,ho,hk]
 have eD:=(Ext.refl w2).drew
 refine callK_ret (put_ret (h2.go eD) i 9 k t hl) ?_
 rintro _ w3 ⟨rfl,hC3,hF3⟩
 exact ⟨⟨_,hC3,(FrC.of eD).trans hF3⟩,_,rfl,rfl,hC3,(FrC.of (e12.trans eD)).trans hF3⟩
end
def toCs (x:InsD):Cs 6:=⟨insCells x,rfl⟩
theorem own_cs {w:World} {lo:Nat} {v:Value} {l:List InsD}:OwnE w lo TI 6 insCells v l↔OwnE w lo TI 6 Subtype.val v (l.map toCs):=by
 unfold OwnE
 rw [List.length_map,List.flatMap_map]
 exact Iff.rfl
theorem own_setI {w:World} {lo g cap len:Nat} {l:List InsD} (h:OwnE w lo TI 6 insCells (.slice (some ⟨g,0,none⟩) len cap) l) {k:Nat} {x y:InsD} (hk:l[k]?=some x) {j:Nat} (hj:j < 6) (u:Value) (hy:insCells y=(insCells x).set j u):OwnE (w.setCell ⟨g,k*6+j,none⟩ u) lo TI 6 insCells (.slice (some ⟨g,0,none⟩) len cap) (l.set k y):=by
 have h1:=(own_cs.1 h).set (k:=k) (cs:=toCs x) (by rw [List.getElem?_map,hk];rfl) hj u
 refine own_cs.2 ?_
 rw [List.map_set]
 have:toCs y=⟨(toCs x).1.set j u,by simp [toCs]⟩:=Subtype.ext hy
 rw [this]
 exact h1
section
variable {X w w':World} {pb rm gm base:Nat} {d:DefD} {mc:Value} {code:List InsD} {φ ψ:ByteArray→Option Int}
theorem Cmp.setI {k j:Nat} {x y:InsD} {g cap len:Nat} {cv:Value} (h:Cmp X pb rm gm base d mc w code φ ψ) (hc:w.heap[pb]?=some (.cells (progCells d mc cv rm gm).toArray 61 (0,0))) (hO:OwnE w base TI 6 insCells cv code) (hv:cv = .slice (some ⟨g,0,none⟩) len cap) (hk:code[k]?=some x) (hj:j < 6) (u:Value) (hy:insCells y=(insCells x).set j u):Cmp X pb rm gm base d mc (w.setCell ⟨g,k*6+j,none⟩ u) (code.set k y) φ ψ∧FrC pb rm gm w (w.setCell ⟨g,k*6+j,none⟩ u):=by
 subst hv
 have ho:=Only.setCell w g (k*6+j) u
 have hg:base≤g∧∃ cur,w.heap[g]?=some (.cells cur TI (0,0)):=by
  rcases hO.2 with ⟨h1,_⟩ | ⟨g',cap',cur,h1,h2,h3,_⟩
  · cases h1
  · injection h1 with h1
    injection h1 with h1
    injection h1 with h1
    subst h1
    exact ⟨h2,_,h3⟩
 obtain ⟨hg1,cur,hg2⟩:=hg
 have hbp:=h.bp
 have hbr:=h.br
 have hbg:=h.bg
 have hlp:=h.lp
 refine ⟨⟨h.ext.setCell (p:=⟨g,k*6+j,none⟩) (by show X.heap.size≤g;omega) u,h.lp,h.lr,h.lg,hbp,hbr,hbg,by rw [World.size_setCell];exact h.bw,h.ne,⟨_,(ho pb (by omega)).trans hc,own_setI hO hk hj u hy⟩,h.routs.same (ho rm (by omega)),h.regs.same (ho gm (by omega))⟩,by rw [World.size_setCell];exact Nat.le_refl _,fun b o hb _ _ _ h4=>(ho b ?_).trans hb⟩
 rintro rfl
 rw [hg2] at hb
 injection hb with hb
 exact h4 _ hb.symm
theorem Cmp.row (h:Cmp X pb rm gm base d mc w code φ ψ) (hl:0 < code.length):∃ g cap,w.heap[pb]?=some (.cells (progCells d mc (.slice (some ⟨g,0,none⟩) code.length cap) rm gm).toArray 61 (0,0))∧OwnE w base TI 6 insCells (.slice (some ⟨g,0,none⟩) code.length cap) code∧(∀ k x,code[k]?=some x→ElemAt w g (k*6) (insCells x))∧(∀ o,w.frozen? ⟨g,o,none⟩=false)∧g < w.heap.size:=by
 obtain ⟨cv,h1,h2⟩:=h.obj
 obtain ⟨g,cap,rfl,_,hg,_,hfz,hE⟩:=h2.row (fun _=>rfl) hl
 exact ⟨g,cap,h1,h2,hE,hfz,hg⟩
theorem FrC.cells (hF:FrC pb rm gm w w') (h1:pb < base) (h2:rm < base) (h3:gm < base) {b:Nat} {cs:Array Value} {T:TypeId} (hb:w.heap[b]?=some (.cells cs T (0,0))) (hn:base≤b) (hT:T≠TI):w'.heap[b]?=some (.cells cs T (0,0)):=by
 refine hF.2 b _ hb (by omega) (by omega) (by omega) ?_
 rintro cs' he
 injection he with _ he
 exact hT he
theorem casI_succ {rt:ByteArray→Int} {i k:Int} {l:List CaseD} {j:Nat} {c:CaseD} (hj:l[j]?=some c):casI rt i k l (j+1)=casI rt i k l j++[⟨8,i,k,-1,j,rt c.of⟩]:=by
 show casI rt i k l j++_=_
 rw [hj]
theorem choice_ret (h:Cmp X pb rm gm base d mc w code φ ψ) (i k:Int) (f:FieldD) (v:Value) (hf:FieldVal X v f) (rt:ByteArray→Int) (hφ:∀ c∈f.cases,φ c.of=some (rt c.of)) (hl:code.length+f.cases.length+1≤100000):Ret Pg 47 #[mkV pb i,.int .i64 k,v] w (Adds X pb rm gm base d mc φ ψ w (code++(⟨7,i,k,-1,-1,-1⟩::casI rt i k f.cases f.cases.length))):=by
 obtain ⟨tv,cv,rfl,hT,hC,ht1,hc1⟩:=hf.op
 obtain ⟨A,c,rfl,hlc,hcm,hlm,hel⟩:=SliceOf.open hC
 refine n41s (R:=retR _) ?_;unfold n41
 rw [op_boxA,op_boxA]
 have o3:=heap_new w #[.pointer (some ⟨pb,0,none⟩),.int .i64 i] 96
 have e1:Ext w (w.alloc (.cells #[.pointer (some ⟨pb,0,none⟩),.int .i64 i] 96)):=ee
 generalize (w.alloc (.cells #[.pointer (some ⟨pb,0,none⟩),.int .i64 i] 96))=w1 at o3 e1 ⊢
 have hb:=h.bw
 have b1:=h.bp
 have b2:=h.br
 have b3:=h.bg
 have s1:=e1.size
 generalize hp3:w.heap.size=p3 at o3 hb s1 ⊢
 have o5:=heap_new w1 (fieldCells f tv (.slice A f.cases.length c)).toArray 71
 have e2:Ext w1 (w1.alloc (.cells (fieldCells f tv (.slice A f.cases.length c)).toArray 71)):=ee
 generalize (w1.alloc (.cells (fieldCells f tv (.slice A f.cases.length c)).toArray 71))=w2 at o5 e2 ⊢
 generalize hp5:w1.heap.size=p5 at o5 s1 ⊢
 have q3:=e2.obj o3
 have e12:=e1.trans e2
 simp (disch:=try exact DI) only [↓PR,QR,simprocAttr,(cells_of_heap q3).1]
 refine callK_ret (put_ret (h.go e12) i 7 k (-1) (by omega)) ?_
 rintro _ w3 ⟨rfl,hC3,hF3⟩
 have r3:=hF3.cells b1 b2 b3 q3 (by omega) (by decide)
 have r5:=hF3.cells b1 b2 b3 o5 (by omega) (by decide)
 unfold n41c4
 simp (disch:=try exact DI) only [↓PR,QR,simprocAttr,(cells_of_heap r5).1]
 refine loop1_intro (fun a w'=>∃ j:Nat,a = .int .i64 j∧j≤f.cases.length∧Cmp X pb rm gm base d mc w' (code++(⟨7,i,k,-1,-1,-1⟩::casI rt i k f.cases j)) φ ψ∧FrC pb rm gm w3 w') (fun a _=>f.cases.length - (intOf a).toNat) ⟨0,rfl,by omega,hC3,FrC.refl _ _ _ _⟩ ?_
 rintro _ w4 ⟨j,rfl,hj,hC4,hF4⟩
 rcases Nat.lt_or_ge j f.cases.length with hlt | hge
 · have hdec:decide ((j:Int) < (f.cases.length:Int))=true:=decide_eq_true (by omega)
   obtain ⟨cc,hcc⟩:=getElem?_lt hlt
   obtain ⟨b,o,cs,rfl,_,hA,rfl⟩:=hel j cc hcc
   have q3:=hF4.cells b1 b2 b3 r3 (by omega) (by decide)
   simp (disch:=try exact DI) only [↓PR,QR,simprocAttr,hdec,↓n41c3,hA.c3 hC4.ext]
   have o7:=heap_new w4 #[.int .i64 cc.low,.int .i64 cc.high,.string cc.of] 85
   have e5:Ext w4 (w4.alloc (.cells #[.int .i64 cc.low,.int .i64 cc.high,.string cc.of] 85)):=ee
   generalize (w4.alloc (.cells #[.int .i64 cc.low,.int .i64 cc.high,.string cc.of] 85))=w5 at o7 e5 ⊢
   have b4:=hC4.bw
   generalize hp7:w4.heap.size=p7 at o7 b4 ⊢
   have h5:=hC4.go e5
   have r3':=e5.obj q3
   refine looksK (C:=CmpK X pb rm gm base d mc φ ψ w5) ⟨_,h5.go (Ext.refl w5).drew,FrC.of (Ext.refl w5).drew⟩ fun hne=>?_
   unfold n41c2
   have c3:∀ w',CmpK X pb rm gm base d mc φ ψ w5 w'→∀ o u,(#[.pointer (some ⟨pb,0,none⟩),.int .i64 i]:Array Value)[o]?=some u→w'.cell? ⟨p3,o,none⟩=some u:=fun w' hw o u hu=>hw.cell r3' (by decide) h5 (by omega) hu
   have c7:∀ w',CmpK X pb rm gm base d mc φ ψ w5 w'→∀ o u,(#[.int .i64 cc.low,.int .i64 cc.high,.string cc.of]:Array Value)[o]?=some u→w'.cell? ⟨p7,o,none⟩=some u:=fun w' hw o u hu=>hw.cell o7 (by decide) h5 (by omega) hu
   have hm3:∀ K:Value→Prop,qV Pg (CmpK X pb rm gm base d mc φ ψ w5) (Instr.loadAt 96 (.pointer (some ⟨p3,0,none⟩))) K=K (mkV pb i):=fun K=>qV_loadG fun w' hw=>ElemAt.loads (b:=p3) (o:=0) (cs:=[.pointer (some ⟨pb,0,none⟩),.int .i64 i]) (fun j u hu=>by rw [Nat.zero_add];exact c3 w' hw j u (by simpa using hu)) ty96 rfl
   have hp:∀ K:Value→Prop,qV Pg (CmpK X pb rm gm base d mc φ ψ w5) (Instr.loadAt 27 (.pointer (some ⟨p3,0,none⟩))) K=K (.pointer (some ⟨pb,0,none⟩)):=fun K=>qV_loadG fun w' hw=>Loads.one ty27 (c3 w' hw 0 _ rfl)
   have hr:∀ K:Value→Prop,qV Pg (CmpK X pb rm gm base d mc φ ψ w5) (Instr.loadAt 59 (.pointer (some ⟨pb,4,none⟩))) K=K (.map (some rm)):=fun K=>qV_loadG fun w' hw=>Loads.one ty59 hw.ptr
   have ho:∀ K:Value→Prop,qV Pg (CmpK X pb rm gm base d mc φ ψ w5) (Instr.loadAt 9 (.pointer (some ⟨p7,2,none⟩))) K=K (.string cc.of):=fun K=>qV_loadG fun w' hw=>Loads.one ty9 (c7 w' hw 2 _ rfl)
   have hk:∀ K:Value→Prop,qV Pg (CmpK X pb rm gm base d mc φ ψ w5) (Instr.lookup 59 (.map (some rm)) (.string cc.of) false) K=K (.int .i64 (rt cc.of)):=fun K=>qV_eqC fun w' hw=>run_of_op fun QP kk=>by
    obtain ⟨code',h3,_⟩:=hw
    rw [h3.routs.look,hφ cc (List.mem_of_getElem? hcc)]
    rfl
   simp (disch:=try exact DI) only [↓PR,QR,simprocAttr,hm3,hp,hr,ho,hk]
   have eD:=(Ext.refl w5).drew
   have hll:(code++(⟨7,i,k,-1,-1,-1⟩::casI rt i k f.cases j):List InsD).length=code.length+1+j:=by
    rw [List.length_append,List.length_cons,casI_len hj];omega
   refine callK_ret (put_ret (h5.go eD) i 8 k (rt cc.of) (by omega)) ?_
   rintro _ w6 ⟨rfl,hC6,hF6⟩
   refine ⟨⟨_,hC6,(FrC.of eD).trans hF6⟩,?_⟩
   refine drawK_intro ?_
   have eE:Ext w6 (Sw.drew w6):=(Ext.refl w6).drew
   have hC7:=hC6.go eE
   have r3'':=eE.obj (hF6.cells b1 b2 b3 (eD.obj r3') (by omega) (by decide))
   have hF7:=hF6.ext eE
   have hF47:FrC pb rm gm w4 (Sw.drew w6):=(FrC.of (e5.trans eD)).trans hF7
   generalize (Sw.drew w6)=w7 at hC7 r3'' hF7 hF47 ⊢
   clear eE hC6 hF6
   have hl7:((code++(⟨7,i,k,-1,-1,-1⟩::casI rt i k f.cases j))++[⟨8,i,k,-1,-1,rt cc.of⟩]:List InsD).length=code.length+1+j+1:=by rw [List.length_append,hll];rfl
   obtain ⟨g,cap,hc8,hO8,hE8,hfz,hg8⟩:=hC7.row (by omega)
   rw [hl7] at hc8 hO8
   have hlast:((code++(⟨7,i,k,-1,-1,-1⟩::casI rt i k f.cases j))++[⟨8,i,k,-1,-1,rt cc.of⟩]:List InsD)[code.length+1+j]?=some ⟨8,i,k,-1,-1,rt cc.of⟩:=by
    rw [List.getElem?_append_right (by omega),hll,Nat.sub_self];rfl
   have hcell:=hE8 _ _ hlast 4 (.int .i64 (-1)) rfl
   have hwl:IntKind.i64.wrap (((code.length+1+j+1:Nat):Int) - 1)=((code.length+1+j:Nat):Int):=by rw [wrap_ok (by omega) (by omega)];omega
   obtain ⟨hC8,hF8⟩:=hC7.setI hc8 hO8 rfl hlast (j:=4) (by decide) (.int .i64 (j:Int)) (y:=⟨8,i,k,-1,j,rt cc.of⟩) rfl
   unfold n41c1
   have hidx:∀ K:Value→Prop,qV Pg (EC w7) (Instr.indexAt 32 (.slice (some ⟨g,0,none⟩) (code.length+1+j+1) cap) (.int .i64 ((code.length+1+j:Nat):Int))) K=K (.pointer (some ⟨g,(code.length+1+j)*6,none⟩)):=fun K=>qV_eqC fun w' _=>run_of_op fun QP kk=>(op_indexN Tryz.underlying32 ty36 g 0 _ cap .i64 (code.length+1+j) (by omega)).trans (by rw [Nat.zero_add])
   simp (disch:=try exact DI) only [↓PR,QR,simprocAttr,(cells_of_heap r3'').1,(cells_of_heap hc8).1,hwl,hidx,hcell,hfz]
   refine turnK_intro ?_
   have hwr:IntKind.i64.wrap ((j:Int)+1)=(j:Int)+1:=wrap_ok (by omega) (by omega)
   simp (disch:=try exact DI) only [↓PR,QR,simprocAttr,hwr]
   refine ⟨⟨j+1,rfl,by omega,?_,hF4.trans (hF47.trans hF8)⟩,meas_lt (kd := .i64) hlt⟩
   rw [List.set_append_right _ _ (by omega),hll,Nat.sub_self] at hC8
   rw [casI_succ hcc]
   simpa using hC8
 · obtain rfl:j=f.cases.length:=by omega
   have hdec:decide ((f.cases.length:Int) < (f.cases.length:Int))=false:=decide_eq_false (by omega)
   simp (disch:=try exact DI) only [↓PR,QR,simprocAttr,hdec]
   exact ⟨by trivial,hC4,(FrC.of e12).trans (hF3.trans hF4)⟩
theorem Cmp.putG {ψ':ByteArray→Option Int} (h:Cmp X pb rm gm base d mc w code φ ψ) (hm:MapI w' gm ψ') (hp:PutAt gm w w'):Cmp X pb rm gm base d mc w' code φ ψ'∧FrC pb rm gm w w':=by
 obtain ⟨cv,h1,h2⟩:=h.obj
 obtain ⟨hz,ho,he,_⟩:=hp
 have hbg:=h.bg
 refine ⟨⟨he X h.ext h.lg,h.lp,h.lr,h.lg,h.bp,h.br,h.bg,by rw [hz];exact h.bw,h.ne,⟨cv,(ho pb h.ne.2.1).trans h1,h2.1,?_⟩,h.routs.same (ho rm h.ne.2.2),hm⟩,by rw [hz];exact Nat.le_refl _,fun b o hb _ _ h3 _=>(ho b h3).trans hb⟩
 rcases h2.2 with h3 | ⟨g,cap,cur,h3,h4,h5,h6⟩
 · exact .inl h3
 · exact .inr ⟨g,cap,cur,h3,h4,(ho g (by omega)).trans h5,h6⟩
theorem Cmp.putR {φ':ByteArray→Option Int} (h:Cmp X pb rm gm base d mc w code φ ψ) (hm:MapI w' rm φ') (hp:PutAt rm w w'):Cmp X pb rm gm base d mc w' code φ' ψ∧FrC pb rm gm w w':=by
 obtain ⟨cv,h1,h2⟩:=h.obj
 obtain ⟨hz,ho,he,_⟩:=hp
 have hbg:=h.br
 refine ⟨⟨he X h.ext h.lr,h.lp,h.lr,h.lg,h.bp,h.br,h.bg,by rw [hz];exact h.bw,h.ne,⟨cv,(ho pb h.ne.1).trans h1,h2.1,?_⟩,hm,h.regs.same (ho gm (Ne.symm h.ne.2.2))⟩,by rw [hz];exact Nat.le_refl _,fun b o hb _ h3 _ _=>(ho b h3).trans hb⟩
 rcases h2.2 with h3 | ⟨g,cap,cur,h3,h4,h5,h6⟩
 · exact .inl h3
 · exact .inr ⟨g,cap,cur,h3,h4,(ho g (by omega)).trans h5,h6⟩
end
section
variable {X w w':World} {pb rm gm base:Nat} {d:DefD} {mc:Value} {code:List InsD} {φ ψ:ByteArray→Option Int}
def stepR (ψ:ByteArray→Option Int) (s:ByteArray) (n:Int) (b:Bool):ByteArray→Option Int:=if b then fun s'=>if s=s' then some (n+1) else ψ s' else ψ
theorem plain_ret (h:Cmp X pb rm gm base d mc w code φ ψ) {A:Option Addr} {c:Nat} {msgs:List MsgD} (hmc:mc = .slice A msgs.length c) (hM:MsgsOf X mc msgs) {i:Nat} {m:MsgD} (hi:msgs[i]?=some m) (k:Int) (f:FieldD) (v:Value) (hf:FieldVal X v f) {n:Int} (hn:ψ m.name=some n) (hn0:0≤n∧n≤100000) (hl:code.length≤100000) :
 Ret Pg 48 #[mkV pb i,.int .i64 k,v] w (Adds X pb rm gm base d mc φ (stepR ψ m.name n (regB m.fields f)) w (code++[⟨4,i,k,if regB m.fields f then n else -1,-1,-1⟩])):=by
 subst hmc
 obtain ⟨tv,cv,rfl,hT,hC,ht1,hc1⟩:=hf.op
 have hM0:=hM
 have hil:=(List.getElem?_eq_some_iff.1 hi).1
 obtain ⟨bM,o,c1,hA1,_,hcm,_,_,hel⟩:=open1 hM hi
 injection hA1 with hA1 _ hc1
 subst hA1 hc1
 obtain ⟨cs,_,hAm,fv,rfl,hF⟩:=hel i m hi
 have hfv:=SliceOf.oneCell hF
 refine n44s (R:=retR _) ?_;unfold n44
 rw [op_boxA,op_boxA]
 have o3:=heap_new w #[.pointer (some ⟨pb,0,none⟩),.int .i64 (i:Int)] 96
 have e1:Ext w (w.alloc (.cells #[.pointer (some ⟨pb,0,none⟩),.int .i64 (i:Int)] 96)):=ee
 generalize (w.alloc (.cells #[.pointer (some ⟨pb,0,none⟩),.int .i64 (i:Int)] 96))=w1 at o3 e1 ⊢
 have hb:=h.bw
 have b1:=h.bp
 have b2:=h.br
 have b3:=h.bg
 have s1:=e1.size
 generalize hp3:w.heap.size=p3 at o3 hb s1 ⊢
 have o5:=heap_new w1 (fieldCells f tv cv).toArray 71
 have e2:Ext w1 (w1.alloc (.cells (fieldCells f tv cv).toArray 71)):=ee
 generalize (w1.alloc (.cells (fieldCells f tv cv).toArray 71))=w2 at o5 e2 ⊢
 generalize hp5:w1.heap.size=p5 at o5 s1 ⊢
 have q3:=e2.obj o3
 have e12:=e1.trans e2
 refine zcr (instruction_ret w2 4) fun w3 e3=>?_
 have r3:=e3.obj q3
 have r5:=e3.obj o5
 have E3:=e12.trans e3
 unfold n44c8
 have hc3:∀ O o,(w3.alloc O).cell? ⟨p3,o,none⟩=(#[.pointer (some ⟨pb,0,none⟩),.int .i64 (i:Int)]:Array Value)[o]?:=fun O o=>(cells_of_heap ((Ext.alloc (Ext.refl w3) O).obj r3)).1 o
 have s2:=e3.size
 have l5:=(Array.getElem?_eq_some_iff.1 o5).1
 simp (disch:=try exact DI) only [↓PR,QR,simprocAttr,hc3]
 have o6:=heap_new w3 #[.int .i64 4,.int .i64 (i:Int),.int .i64 k,.int .i64 (-1),.int .i64 (-1),.int .i64 (-1)] TI
 have e4:Ext w3 (w3.alloc (.cells #[.int .i64 4,.int .i64 (i:Int),.int .i64 k,.int .i64 (-1),.int .i64 (-1),.int .i64 (-1)] TI)):=ee
 generalize (w3.alloc (.cells #[.int .i64 4,.int .i64 (i:Int),.int .i64 k,.int .i64 (-1),.int .i64 (-1),.int .i64 (-1)] TI))=w4 at o6 e4 ⊢
 have s3:=e4.size
 have l3:=(Array.getElem?_eq_some_iff.1 o6).1
 generalize hp6:w3.heap.size=p6 at o6 s2 s3 l3 ⊢
 refine drawK_intro ?_
 have eD:Ext w4 (Sw.drew w4):=(Ext.refl w4).drew
 have E5:=E3.trans (e4.trans eD)
 have t3:=(e4.trans eD).obj r3
 have t5:=(e4.trans eD).obj r5
 have t6:=eD.obj o6
 have s4:=eD.size
 generalize (Sw.drew w4)=w5 at E5 t3 t5 t6 s4 ⊢
 clear eD
 have h5:=h.go E5
 obtain ⟨cdv,hpb,_⟩:=h5.obj
 unfold n44c7
 simp (disch:=try exact DI) only [↓PR,QR,simprocAttr,(cells_of_heap t3).1,(cells_of_heap hpb).1,hAm.c2 h5.ext]
 refine ⟨ee,?_⟩
 unfold n44c6
 have hal:∀ (QP:List PanicEntry→World→Prop) (K:World→Prop),opU Pg (Instr.storeAt 53 (.pointer (some ⟨w5.heap.size,0,none⟩)) (.agg #[.string m.name,fv])) QP (w5.alloc (.cells #[.string ByteArray.empty,.slice none 0 0] 53)) K=K (w5.alloc (.cells #[.string m.name,fv] 53)):=fun QP K=>by simp (disch:=try exact DI) only [↓PR,QR,simprocAttr]
 rw [hal]
 clear hal
 have o7:=heap_new w5 #[.string m.name,fv] 53
 have e6:Ext w5 (w5.alloc (.cells #[.string m.name,fv] 53)):=ee
 generalize (w5.alloc (.cells #[.string m.name,fv] 53))=w6 at o7 e6 ⊢
 have s5:=e6.size
 have l7:=(Array.getElem?_eq_some_iff.1 o7).1
 generalize hp7:w5.heap.size=p7 at o7 s4 s5 l7 ⊢
 refine turnK_intro ?_
 have u3:=e6.obj t3
 have u5:=e6.obj t5
 have u6:=e6.obj t6
 have h6:=h5.go e6
 have hfw:∀ w',Ext w6 w'→FieldVal w' (.agg (fieldCells f tv cv).toArray) f:=fun w' e=>hf.ext (h6.ext.trans e)
 have hld:∀ (QP:List PanicEntry→World→Prop) (K:Value→World→Prop),opV Pg (Instr.loadAt 71 (.pointer (some ⟨p5,0,none⟩))) QP w6 K=K (.agg (fieldCells f tv cv).toArray) w6:=fun QP K=>op_load (ElemAt.loads (b:=p5) (o:=0) (cs:=fieldCells f tv cv) (fun j u hu=>by rw [Nat.zero_add,(cells_of_heap u5).1];simpa using hu) ty71 rfl)
 rw [hld]
 refine zcr (Number_ret _ _ f (hfw _ (Ext.refl _))) fun w7 e7=>?_
 have v3:=e7.obj u3
 have v5:=e7.obj u5
 have v6:=e7.obj u6
 have v7:=e7.obj o7
 have h7:=h6.go e7
 have E7:=E5.trans (e6.trans e7)
 have s7:=e7.size
 have fin:∀ (r:Int) (w9:World) (ψ':ByteArray→Option Int),Cmp X pb rm gm base d (.slice (some ⟨bM,o,none⟩) msgs.length c) w9 code φ ψ'→FrC pb rm gm w w9→w9.heap[p3]?=some (.cells #[.pointer (some ⟨pb,0,none⟩),.int .i64 (i:Int)] 96 (0,0))→w9.heap[p6]?=some (.cells #[.int .i64 4,.int .i64 (i:Int),.int .i64 k,.int .i64 r,.int .i64 (-1),.int .i64 (-1)] TI (0,0)) →
  n44c1 (.pointer (some ⟨p3,0,none⟩)) (.pointer (some ⟨p6,0,none⟩)) (retR (Adds X pb rm gm base d (.slice (some ⟨bM,o,none⟩) msgs.length c) φ ψ' w (code++[⟨4,i,k,r,-1,-1⟩]))) w9:=by
  intro r w9 ψ' h9 hF9 a3 a6
  unfold n44c1
  simp (disch:=try exact DI) only [↓PR,QR,simprocAttr,(cells_of_heap a3).1,(cells_of_heap a6).1]
  refine callK_ret (add_ret h9 i ⟨4,i,k,r,-1,-1⟩ hl) ?_
  rintro _ w10 ⟨rfl,hC10,hF10⟩
  exact ⟨_,rfl,rfl,hC10,hF9.trans hF10⟩
 have rest:∀ (b:Bool) (w8:World),Ext w7 w8→b=regB m.fields f→joinK (fun (w_1:World)=>n44c1 (.pointer (some ⟨p3,0,none⟩)) (.pointer (some ⟨p6,0,none⟩)) (retR (Adds X pb rm gm base d (.slice (some ⟨bM,o,none⟩) msgs.length c) φ (stepR ψ m.name n (regB m.fields f)) w (code++[⟨4,i,k,if regB m.fields f then n else -1,-1,-1⟩]))) w_1) (fun K4=>condP (.bool b) (drawK w8 fun C5 w_2=>n44c3 (.pointer (some ⟨p3,0,none⟩)) (.pointer (some ⟨p6,0,none⟩)) (.pointer (some ⟨p7,0,none⟩)) C5 K4 (retR (Adds X pb rm gm base d (.slice (some ⟨bM,o,none⟩) msgs.length c) φ (stepR ψ m.name n (regB m.fields f)) w (code++[⟨4,i,k,if regB m.fields f then n else -1,-1,-1⟩]))) w_2) (K4 w8)):=by
  intro b w8 e8 hb8
  have x3:=e8.obj v3
  have x6:=e8.obj v6
  have x7:=e8.obj v7
  have h8:=h7.go e8
  have E8:=E7.trans e8
  have s8:=e8.size
  rw [← hb8,joinK_eq]
  cases b with
  | false =>
   simp (disch:=try exact DI) only [↓PR,QR,simprocAttr]
   exact fin (-1) w8 ψ h8 (FrC.of E8) x3 x6
  | true =>
   rw [Sw.cond_true]
   refine drawK_intro ?_
   have eD:Ext w8 (Sw.drew w8):=(Ext.refl w8).drew
   have y3:=eD.obj x3
   have y6:=eD.obj x6
   have y7:=eD.obj x7
   have E9:=E8.trans eD
   have h9:=h8.go eD
   have s9:=eD.size
   generalize (Sw.drew w8)=w9 at E9 y3 y6 y7 h9 s9 ⊢
   clear eD
   obtain ⟨cdv,hpb,_⟩:=h9.obj
   have hlk:∀ K:Value→Prop,qV Pg (EC w9) (Instr.lookup 59 (.map (some gm)) (.string m.name) false) K=K (.int .i64 n):=fun K=>qV_eqC fun w' hw=>run_of_op fun QP kk=>by
    rw [(h9.regs.ext hw).look,hn]
    rfl
   unfold n44c3
   simp (disch:=try exact DI) only [↓PR,QR,simprocAttr,(cells_of_heap y3).1,(cells_of_heap hpb).1,(cells_of_heap y7).1,hlk,(cells_of_heap y6).1,(cells_of_heap y6).2]
   refine turnK_intro ?_
   refine drawK_intro ?_
   have ho:=Only.setCell w9 p6 3 (.int .i64 n)
   have z3:=(ho p3 (by omega)).trans y3
   have z7:=(ho p7 (by omega)).trans y7
   have z6:(w9.setCell ⟨p6,3,none⟩ (.int .i64 n)).heap[p6]?=some (.cells #[.int .i64 4,.int .i64 (i:Int),.int .i64 k,.int .i64 n,.int .i64 (-1),.int .i64 (-1)] TI (0,0)):=by simpa using heap_set (o:=3) y6 (.int .i64 n)
   have E10:=E9.setCell (p:=⟨p6,3,none⟩) (by show w.heap.size≤p6;omega) (.int .i64 n)
   generalize (w9.setCell ⟨p6,3,none⟩ (.int .i64 n))=w10 at z3 z7 z6 E10 ⊢
   have eD:Ext w10 (Sw.drew w10):=(Ext.refl w10).drew
   have a3:=eD.obj z3
   have a6:=eD.obj z6
   have a7:=eD.obj z7
   have E11:=E10.trans eD
   generalize (Sw.drew w10)=w11 at E11 a3 a6 a7 ⊢
   clear eD
   have h11:=h.go E11
   obtain ⟨cdv,hpb,_⟩:=h11.obj
   have hlk:∀ K:Value→Prop,qV Pg (EC w11) (Instr.lookup 59 (.map (some gm)) (.string m.name) false) K=K (.int .i64 n):=fun K=>qV_eqC fun w' hw=>run_of_op fun QP kk=>by
    rw [(h11.regs.ext hw).look,hn]
    rfl
   have hwr:IntKind.i64.wrap (n+1)=n+1:=wrap_ok (by omega) (by omega)
   unfold n44c2
   simp (disch:=try exact DI) only [↓PR,QR,simprocAttr,(cells_of_heap a3).1,(cells_of_heap hpb).1,(cells_of_heap a7).1,hlk,hwr]
   refine h11.regs.update m.name (n+1) fun w12 hM12 hP12=>?_
   refine turnK_intro ?_
   obtain ⟨h12,hF12⟩:=h11.putG hM12 hP12
   have c3:=hP12.2.1 p3 (by omega)
   have c6:=hP12.2.1 p6 (by omega)
   rw [a3] at c3
   rw [a6] at c6
   have hst:stepR ψ m.name n true=fun s=>if m.name=s then some (n+1) else ψ s:=rfl
   rw [hst]
   exact fin n w12 _ h12 ((FrC.of E11).trans hF12) c3 c6
 unfold n44c5
 rw [joinK_eq]
 cases hnb:numberB f with
 | false =>
  simp (disch:=try exact DI) only [↓PR,QR,simprocAttr,↓n44c4]
  have hr:false=regB m.fields f:=by unfold regB;rw [hnb];rfl
  exact rest false w7 (Ext.refl _) hr
 | true =>
  simp (disch:=try exact DI) only [↓PR,QR,simprocAttr,(cells_of_heap v7).1,(cells_of_heap v5).1]
  refine zcr (uses_ret w7 _ m f.name ⟨fv,rfl,FieldsOf.ext hF h7.ext⟩) fun w8 e8=>?_
  simp (disch:=try exact DI) only [↓PR,QR,simprocAttr,↓n44c4]
  have hr:usedN m.fields f.name=regB m.fields f:=by unfold regB;rw [hnb];rfl
  exact rest _ w8 e8 hr
end
def n22c1 (t5 t7:Value) (Kr1:World→Prop) (Qr1:List PanicEntry→World→Prop) (Xr1:Nat→World→Prop) (R:RT) (w:World):Prop :=
 opV Pg (Instr.loadAt 3 t7) Qr1 w fun t32 w =>
 opV Pg (binS .add 3 true t32 (.int .i64 1)) Qr1 w fun t33 w =>
 opU Pg (Instr.storeAt 3 t7 t33) Qr1 w fun w =>
 opV Pg (Instr.loadAt 3 t7) Qr1 w fun t34 w =>
 opV Pg (Instr.loadAt 3 t5) Qr1 w fun t35 w =>
 opV Pg (binS .geq 3 false t34 t35) Qr1 w fun t36 w =>
 condP t36 (
 Xr1 1 w) (
 Kr1 w)
def n22c2 (t4 t5 t6 t7 t9 t17 t22:Value) (C2:World→Prop) (Kr1:World→Prop) (Qr1:List PanicEntry→World→Prop) (Xr1:Nat→World→Prop) (R:RT) (w:World):Prop :=
 pickK t17 (.bool true) t22 fun t23 =>
 joinK (fun (t30:Value) (w:World) =>
 pickK t23 (.bool true) t30 fun t31 =>
 condP t31 (
 opU Pg (Instr.storeAt 4 t6 (.bool false)) Qr1 w fun w =>
 Xr1 0 w) (
 n22c1 t5 t7 Kr1 Qr1 Xr1 R w)) fun K4 =>
 guardP t23 false (
 qV Pg C2 (Instr.loadAt 36 t9) fun t25 =>
 qV Pg C2 (Instr.loadAt 32 t4) fun t26 =>
 qV Pg C2 (Instr.loadAt 3 t7) fun t27 =>
 qV Pg C2 (Instr.indexAt 32 t26 t27) fun t28 =>
 qV Pg C2 (Instr.loadAt 36 t28) fun t29 =>
 qV Pg C2 (binS .neq 36 false t25 t29) fun t30 =>
 K4 t30 w) (
 K4 undef w)
def n22c3 (t4 t5 t6 t7 t9 t13:Value) (C2:World→Prop) (Kr1:World→Prop) (Qr1:List PanicEntry→World→Prop) (Xr1:Nat→World→Prop) (R:RT) (w:World):Prop :=
 qV Pg C2 (Instr.loadAt 3 t7) fun t16 =>
 qV Pg C2 (binS .neq 3 false t13 t16) fun t17 =>
 joinK (fun (t22:Value) (w:World) =>
 n22c2 t4 t5 t6 t7 t9 t17 t22 C2 Kr1 Qr1 Xr1 R w) fun K3 =>
 guardP t17 false (
 qV Pg C2 (Instr.loadAt 3 t7) fun t19 =>
 qV Pg C2 (Instr.loadAt 32 t4) fun t20 =>
 qV Pg C2 (Builtin.len_ #[32] 3 #[t20]) fun t21 =>
 qV Pg C2 (binS .geq 3 false t19 t21) fun t22 =>
 K3 t22 w) (
 K3 undef w)
def n22c4 (t4 t5 t6 t7 t13 t14:Value) (Kr1:World→Prop) (Qr1:List PanicEntry→World→Prop) (Xr1:Nat→World→Prop) (l1:Nat) (R:RT) (w:World):Prop :=
 opV Pg (Instr.alloc 36 true (.tuple #[])) (fun _ _=>False) w fun t9 w =>
 opU Pg (Instr.storeAt 36 t9 t14) (fun _ _=>False) w fun w =>
 busyK l1 w fun w =>
 drawK w fun C2 w =>
 n22c3 t4 t5 t6 t7 t9 t13 C2 Kr1 Qr1 Xr1 R w
def n22c5 (t4 t5 t6 t7:Value) (ds:List Deferred) (R:RT) (w:World):Prop :=
 opV Pg (Instr.loadAt 3 t7) (outQ Pg ds [(some 4,t6)] R) w fun t37 w =>
 opV Pg (Instr.loadAt 32 t4) (outQ Pg ds [(some 4,t6)] R) w fun t38 w =>
 opV Pg (Builtin.len_ #[32] 3 #[t38]) (outQ Pg ds [(some 4,t6)] R) w fun t39 w =>
 opV Pg (Instr.loadAt 3 t5) (outQ Pg ds [(some 4,t6)] R) w fun t40 w =>
 opV Pg (Builtin.max_ #[3,3] 3 #[(.int .i64 1),t40]) (outQ Pg ds [(some 4,t6)] R) w fun t41 w =>
 opV Pg (Builtin.min_ #[3,3] 3 #[t39,t41]) (outQ Pg ds [(some 4,t6)] R) w fun t42 w =>
 opV Pg (binS .eql 3 false t37 t42) (outQ Pg ds [(some 4,t6)] R) w fun t43 w =>
 opU Pg (Instr.storeAt 4 t6 t43) (outQ Pg ds [(some 4,t6)] R) w fun w =>
 outX Pg ds [(some 4,t6)] R w
def n22c6 (t4 t5 t6 t7:Value) (ds:List Deferred) (R:RT) (w:World):Prop :=
 opV Pg (Instr.loadAt 3 t7) (outQ Pg ds [(some 4,t6)] R) w fun t37 w =>
 opV Pg (Instr.loadAt 32 t4) (outQ Pg ds [(some 4,t6)] R) w fun t38 w =>
 opV Pg (Builtin.len_ #[32] 3 #[t38]) (outQ Pg ds [(some 4,t6)] R) w fun t39 w =>
 opV Pg (Instr.loadAt 3 t5) (outQ Pg ds [(some 4,t6)] R) w fun t40 w =>
 opV Pg (Builtin.max_ #[3,3] 3 #[(.int .i64 1),t40]) (outQ Pg ds [(some 4,t6)] R) w fun t41 w =>
 opV Pg (Builtin.min_ #[3,3] 3 #[t39,t41]) (outQ Pg ds [(some 4,t6)] R) w fun t42 w =>
 opV Pg (binS .eql 3 false t37 t42) (outQ Pg ds [(some 4,t6)] R) w fun t43 w =>
 opU Pg (Instr.storeAt 4 t6 t43) (outQ Pg ds [(some 4,t6)] R) w fun w =>
 outX Pg ds [(some 4,t6)] R w
def n22c7 (t0 t4 t5 t6:Value) (ds:List Deferred) (R:RT) (w:World):Prop :=
 opV Pg (Instr.alloc 3 true (.tuple #[])) (outQ Pg ds [(some 4,t6)] R) w fun t7 w =>
 opU Pg (Instr.storeAt 3 t7 (.int .i64 0)) (outQ Pg ds [(some 4,t6)] R) w fun w =>
 rangeN2 Pg t0 ds (fun l1 t13 t14 w Kr1 Xr1 Qr1 =>
 n22c4 t4 t5 t6 t7 t13 t14 Kr1 Qr1 Xr1 l1 R w) (fun ch ds w=>outQ Pg ds [(some 4,t6)] R ch w) w (fun ds w =>
 n22c5 t4 t5 t6 t7 ds R w) [fun ds w =>
 outX Pg ds [(some 4,t6)] R w,fun ds w =>
 n22c6 t4 t5 t6 t7 ds R w]
def n22 (t0 t1 t2:Value) (R:RT) (w:World):Prop :=
 (fun (ds:List Deferred) =>
 opV Pg (Instr.box 32 t1) (outQ Pg ds [(some 4,undef)] R) w fun t4 w =>
 opV Pg (Instr.box 3 t2) (outQ Pg ds [(some 4,undef)] R) w fun t5 w =>
 opV Pg (Instr.alloc 4 true (.tuple #[])) (outQ Pg ds [(some 4,undef)] R) w fun t6 w =>
 opV Pg (binS .eql 42 true t0 .nilFunc) (outQ Pg ds [(some 4,t6)] R) w fun t11 w =>
 condP t11 (
 opU Pg (Instr.storeAt 4 t6 (.bool false)) (outQ Pg ds [(some 4,t6)] R) w fun w =>
 outX Pg ds [(some 4,t6)] R w) (
 n22c7 t0 t4 t5 t6 ds R w)) []
theorem n22s {t0 t1 t2:Value} {R:RT} {w:World} (h:n22 t0 t1 t2 R w):Calls Pg 18 #[t0,t1,t2] w R:=by
 refine yE Tryz.func18 ?_
 unfold n22 at h
 dsimp only at h
 refine zs<|zr<|yv h fun _ w h=>yv h fun _ w h=>yv h fun _ w h=>zn<|zk<|zs<|zs<|zr<|zm<|yb h fun _ w h=>zn<|zk<|yC h (fun h=>zs<|zr<|yu h fun w h=>zn<|zk<|sim_ret<|sim_then_ret<|bodyM_ret rfl h) fun h=>?_
 refine sim_skip<|zk<|zs<|zr<|yv h fun _ w h=>yu h fun w h=>zn<|zk<|zs<|zs<|zr<|zm<|zn<|zk<|sim_block ?_
 refine sim_range2 [.ret,.exit 0] h rfl (fun l1 t13 t14 w Kr1 Xr1 Qr1 h=>?_) (fun ds w h=>?_) (fun c ds w h=>?_) (fun ch ds w h=>outQ_of rfl h)
 · refine zs<|zr<|zm<|zn<|zk<|zr<|yv h fun _ w h=>yu h fun w h=>zn<|zk ?_
   obtain ⟨hr,h⟩:=h
   refine ⟨rfl,hr,fun w hb=>?_⟩
   have h:=h w hb
   refine sim_block<|zs<|zs<|yh [15,16,17,18,19,20,21,22,23,24,25,26,27,28,29,30,31] h fun C hC h=>yw 0 hC ?_
   refine ye 1 hC h fun _ h=>?_
   refine ye 2 hC h fun _ h=>?_
   refine yw 3 hC ?_
   refine yj1 9 [7,6,5,4,3,2,1,0] [19,20,21,22] 22 h (fun _ hT hb h=>?_) (fun _ hT hb h=>?_) fun σ w hC h=>?_
   · refine ye 4 hC h fun _ h=>?_
     refine ye 5 hC h fun _ h=>?_
     refine ye 6 hC h fun _ h=>?_
     refine ye 7 hC h fun _ h=>?_
     exact yt hT hC h
   · refine yi 4 hC ?_
     refine yi 5 hC ?_
     refine yi 6 hC ?_
     refine yi 7 hC ?_
     exact yt hT hC h
   refine yP 8 hC h fun _ h=>?_
   refine yw 9 hC ?_
   refine yj1 1 [15,14,13,12,11,10,9,8,7,6,5,4,3,2,1,0] [25,26,27,28,29,30] 30 h (fun _ hT hb h=>?_) (fun _ hT hb h=>?_) fun σ w hC h=>?_
   · refine ye 10 hC h fun _ h=>?_
     refine ye 11 hC h fun _ h=>?_
     refine ye 12 hC h fun _ h=>?_
     refine ye 13 hC h fun _ h=>?_
     refine ye 14 hC h fun _ h=>?_
     refine ye 15 hC h fun _ h=>?_
     exact yt hT hC h
   · refine yi 10 hC ?_
     refine yi 11 hC ?_
     refine yi 12 hC ?_
     refine yi 13 hC ?_
     refine yi 14 hC ?_
     refine yi 15 hC ?_
     exact yt hT hC h
   refine yP 16 hC h fun _ h=>?_
   refine yz<|zk<|yC h (fun h=>zs<|zr<|yu h fun w h=>zn<|zk<|sim_ret<|sim_then_ret<|sim_block_ret<|⟨rfl,0,rfl,h⟩) fun h=>sim_skip<|zk<|zs<|zr<|yv h fun _ w h=>yb h fun _ w h=>yu h fun w h=>zn<|zk<|zs<|zr ?_
   exact yv h fun _ w h=>yv h fun _ w h=>yb h fun _ w h=>zn<|zk<|yC h (fun h=>sim_exit<|sim_block_miss rfl<|⟨rfl,1,rfl,h⟩) fun h=>sim_skip<|sim_block_normal<|⟨rfl,h⟩
 · refine sim_block_normal<|zk<|zs<|zr<|yv h fun _ w h=>yv h fun _ w h=>yx h fun _ w h=>yv h fun _ w h=>yx h fun _ w h=>yx h fun _ w h=>yb h fun _ w h=>yu h fun w h=>zn<|zk<|sim_ret ?_
   exact bodyM_ret rfl h
 rcases c with _ | c
 · refine ⟨_,rfl,.inl ⟨rfl,?_⟩⟩
   exact sim_block_ret<|sim_then_ret<|bodyM_ret rfl h
 rcases c with _ | c
 · refine ⟨_,rfl,.inr ⟨_,rfl,?_⟩⟩
   refine sim_block_hit<|zk<|zs<|zr<|yv h fun _ w h=>yv h fun _ w h=>yx h fun _ w h=>yv h fun _ w h=>yx h fun _ w h=>yx h fun _ w h=>yb h fun _ w h=>yu h fun w h=>zn<|zk<|sim_ret ?_
   exact bodyM_ret rfl h
 exact h.elim
def n4c1 (t7:Value) (R:RT) (w:World):Prop :=
 opV Pg (Instr.extract t7 0) (panK R) w fun t8 w =>
 opV Pg (Instr.extract t7 1) (panK R) w fun t9 w =>
 opV Pg (Instr.alloc 92 true (.tuple #[])) (panK R) w fun t3 w =>
 opU Pg (Instr.storeAt 92 t3 t8) (panK R) w fun w =>
 opV Pg (Op.unary .not t9) (panK R) w fun t11 w =>
 R (.returned t11) w
def n4 (t0:Value) (R:RT) (w:World):Prop :=
 opV Pg (Instr.box 24 t0) (panK R) w fun t1 w =>
 opV Pg (Instr.loadAt 24 t1) (panK R) w fun t6 w =>
 callK Pg 39 #[t6] (panK R) w fun t7 w =>
 n4c1 t7 R w
theorem n4s {t0:Value} {R:RT} {w:World} (h:n4 t0 R w):Calls Pg 19 #[t0] w R:=by
 refine yD Tryz.func19 ?_
 refine zs<|zr<|yv h fun _ w h=>zm<|zn<|zk<|zs<|zr<|yv h fun _ w h=>yc h c39 fun _ w h=>zm<|yv h fun _ w h=>yv h fun _ w h=>yv h fun _ w h=>yu h fun w h=>?_
 exact zm<|zn<|zk<|zs<|zr<|zm<|yv h fun _ w h=>zm<|zn<|zk<|sim_ret<|body_ret1 rfl rfl h
def n24c1 (t5 t11 t96:Value) (K10:World→Prop) (R:RT) (w:World):Prop :=
 opV Pg (Instr.loadAt 96 t5) (panK R) w fun t113 w =>
 opV Pg (Instr.loadAt 71 t11) (panK R) w fun t115 w =>
 callK Pg 48 #[t113,t96,t115] (panK R) w fun t116 w =>
 K10 w
def n24c2 (t5 t83 t94 t96:Value) (next9:KV) (R:RT) (w:World):Prop :=
 opV Pg (Instr.indexAt 51 t94 t96) (panK R) w fun t99 w =>
 opV Pg (Instr.loadAt 71 t99) (panK R) w fun t100 w =>
 opV Pg (Instr.alloc 71 true (.tuple #[])) (panK R) w fun t11 w =>
 opU Pg (Instr.storeAt 71 t11 t100) (panK R) w fun w =>
 opV Pg (Instr.fieldAt 71 t11 1) (panK R) w fun t103 w =>
 opV Pg (Instr.loadAt 65 t103) (panK R) w fun t104 w =>
 opV Pg (Instr.lookup 103 t83 t104 true) (panK R) w fun t105 w =>
 opV Pg (Instr.extract t105 0) (panK R) w fun t106 w =>
 opV Pg (Instr.extract t105 1) (panK R) w fun t107 w =>
 joinK (fun (w:World) =>
 opV Pg (binS .add 3 true t96 (.int .i64 1)) (panK R) w fun t117 w =>
 next9 t117 w) fun K10 =>
 condP t107 (
 opV Pg (Instr.loadAt 71 t11) (panK R) w fun t111 w =>
 callV Pg t106 #[t96,t111] (panK R) w fun t112 w =>
 K10 w) (
 n24c1 t5 t11 t96 K10 R w)
def n24c3 (t5 t83 t94 t95 t96:Value) (K5:World→Prop) (next9:KV) (R:RT) (w:World):Prop :=
 opV Pg (binS .lss 3 false t96 t95) (panK R) w fun t97 w =>
 condP t97 (
 n24c2 t5 t83 t94 t96 next9 R w) (
 opV Pg (Instr.loadAt 96 t5) (panK R) w fun t118 w =>
 callK Pg 43 #[t118,(.int .i64 10),(.int .i64 (-1)),(.int .i64 (-1))] (panK R) w fun t119 w =>
 K5 w)
def n24c4 (t5 t8:Value) (K5:World→Prop) (R:RT) (w:World):Prop :=
 opV Pg (Instr.makeMap 103 none) (panK R) w fun t83 w =>
 opV Pg (Instr.loadAt 96 t5) (panK R) w fun t84 w =>
 opV Pg (Instr.makeFunc (.func 44) #[t84] #[]) (panK R) w fun t85 w =>
 opU Pg (Instr.mapUpdate 103 t83 (.int .i64 8) t85) (panK R) w fun w =>
 opV Pg (Instr.loadAt 96 t5) (panK R) w fun t86 w =>
 opV Pg (Instr.makeFunc (.func 45) #[t86] #[]) (panK R) w fun t87 w =>
 opU Pg (Instr.mapUpdate 103 t83 (.int .i64 7) t87) (panK R) w fun w =>
 opV Pg (Instr.loadAt 96 t5) (panK R) w fun t88 w =>
 opV Pg (Instr.makeFunc (.func 46) #[t88] #[]) (panK R) w fun t89 w =>
 opU Pg (Instr.mapUpdate 103 t83 (.int .i64 12) t89) (panK R) w fun w =>
 opV Pg (Instr.loadAt 96 t5) (panK R) w fun t90 w =>
 opV Pg (Instr.makeFunc (.func 47) #[t90] #[]) (panK R) w fun t91 w =>
 opU Pg (Instr.mapUpdate 103 t83 (.int .i64 9) t91) (panK R) w fun w =>
 opV Pg (Instr.fieldAt 53 t8 1) (panK R) w fun t93 w =>
 opV Pg (Instr.loadAt 51 t93) (panK R) w fun t94 w =>
 opV Pg (Builtin.len_ #[51] 3 #[t94]) (panK R) w fun t95 w =>
 loop1 (fun t96 w next9 =>
 n24c3 t5 t83 t94 t95 t96 K5 next9 R w) (.int .i64 0) w
def n24c5 (t5 t8:Value) (K5:World→Prop) (R:RT) (w:World):Prop :=
 opV Pg (Instr.loadAt 96 t5) (panK R) w fun t81 w =>
 callK Pg 43 #[t81,(.int .i64 3),(.int .i64 (-1)),(.int .i64 (-1))] (panK R) w fun t82 w =>
 n24c4 t5 t8 K5 R w
def n24c6 (t5 t8 t69 t71:Value) (K5:World→Prop) (R:RT) (w:World):Prop :=
 opV Pg (Instr.mapEntry 59 t69 t71) (panK R) w fun t79 w =>
 turnK w fun C7 w =>
 qV Pg C7 (Instr.extract t79 1) fun t80 =>
 opU Pg (Instr.entryStore 59 t69 t80 (.int .i64 0)) (panK R) w fun w =>
 turnK w fun C8 w =>
 n24c5 t5 t8 K5 R w
def n24c7 (t5 t8 t23:Value) (C6:World→Prop) (K5:World→Prop) (R:RT) (w:World):Prop :=
 qN Pg C6 (nilN t23) fun t61 =>
 qV Pg C6 (Instr.fieldAt 61 t61 2) fun t62 =>
 qV Pg C6 (Instr.loadAt 59 t62) fun t63 =>
 qV Pg C6 (Instr.fieldAt 53 t8 0) fun t64 =>
 qV Pg C6 (Instr.loadAt 9 t64) fun t65 =>
 qN Pg C6 (nilN t23) fun t67 =>
 qV Pg C6 (Instr.fieldAt 61 t67 3) fun t68 =>
 qV Pg C6 (Instr.loadAt 59 t68) fun t69 =>
 qV Pg C6 (Instr.fieldAt 53 t8 0) fun t70 =>
 qV Pg C6 (Instr.loadAt 9 t70) fun t71 =>
 qN Pg C6 (nilN t23) fun t73 =>
 qV Pg C6 (Instr.fieldAt 61 t73 1) fun t74 =>
 qV Pg C6 (Instr.loadAt 32 t74) fun t75 =>
 qV Pg C6 (Builtin.len_ #[32] 3 #[t75]) fun t76 =>
 opV Pg (Instr.mapEntry 59 t63 t65) (panK R) w fun t77 w =>
 C6 w∧(
 qV Pg C6 (Instr.extract t77 1) fun t78 =>
 opU Pg (Instr.entryStore 59 t63 t78 t76) (panK R) w fun w =>
 C6 w∧(
 n24c6 t5 t8 t69 t71 K5 R w))
def n24c8 (t23:Value) (C11:World→Prop) (R:RT) (w:World):Prop :=
 qN Pg C11 (nilN t23) fun t122 =>
 qV Pg C11 (Instr.fieldAt 61 t122 1) fun t123 =>
 qV Pg C11 (Instr.loadAt 32 t123) fun t124 =>
 qN Pg C11 (nilN t23) fun t126 =>
 qV Pg C11 (Instr.fieldAt 61 t126 2) fun t127 =>
 qV Pg C11 (Instr.loadAt 59 t127) fun t128 =>
 qN Pg C11 (nilN t23) fun t130 =>
 qV Pg C11 (Instr.fieldAt 61 t130 0) fun t131 =>
 qV Pg C11 (Instr.fieldAt 58 t131 0) fun t132 =>
 qV Pg C11 (Instr.fieldAt 24 t132 2) fun t133 =>
 qV Pg C11 (Instr.loadAt 9 t133) fun t134 =>
 qV Pg C11 (Instr.lookup 59 t128 t134 false) fun t135 =>
 qV Pg C11 (Instr.indexAt 32 t124 (.int .i64 0)) fun t136 =>
 qV Pg C11 (Instr.fieldAt 36 t136 5) fun t137 =>
 opU Pg (Instr.storeAt 3 t137 t135) (panK R) w fun w =>
 turnK w fun C12 w =>
 R (.returned (.tuple #[t23,(.int .i64 0)])) w
def n24c9 (t5 t23 t40 t46 t48:Value) (next4:KV) (R:RT) (w:World):Prop :=
 joinK (fun (w:World) =>
 opV Pg (binS .add 3 true t48 (.int .i64 1)) (panK R) w fun t120 w =>
 next4 t120 w) fun K5 =>
 opV Pg (Instr.indexAt 22 t46 t48) (panK R) w fun t51 w =>
 opV Pg (Instr.loadAt 53 t51) (panK R) w fun t52 w =>
 opV Pg (Instr.alloc 53 true (.tuple #[])) (panK R) w fun t8 w =>
 opU Pg (Instr.storeAt 53 t8 t52) (panK R) w fun w =>
 opV Pg (Instr.fieldAt 53 t8 0) (panK R) w fun t54 w =>
 opV Pg (Instr.loadAt 9 t54) (panK R) w fun t55 w =>
 opV Pg (Instr.lookup 99 t40 t55 false) (panK R) w fun t56 w =>
 opV Pg (Op.unary .not t56) (panK R) w fun t57 w =>
 condP t57 (
 K5 w) (
 opV Pg (Instr.fieldAt 96 t5 1) (panK R) w fun t59 w =>
 opU Pg (Instr.storeAt 3 t59 t48) (panK R) w fun w =>
 drawK w fun C6 w =>
 n24c7 t5 t8 t23 C6 K5 R w)
def n24c10 (t5 t23 t40:Value) (R:RT) (w:World):Prop :=
 opN Pg (nilN t23) (panK R) w fun t42 w =>
 opV Pg (Instr.fieldAt 61 t42 0) (panK R) w fun t43 w =>
 opV Pg (Instr.fieldAt 58 t43 0) (panK R) w fun t44 w =>
 opV Pg (Instr.fieldAt 24 t44 1) (panK R) w fun t45 w =>
 opV Pg (Instr.loadAt 22 t45) (panK R) w fun t46 w =>
 opV Pg (Builtin.len_ #[22] 3 #[t46]) (panK R) w fun t47 w =>
 loop1 (fun t48 w next4 =>
 opV Pg (binS .lss 3 false t48 t47) (panK R) w fun t49 w =>
 condP t49 (
 n24c9 t5 t23 t40 t46 t48 next4 R w) (
 drawK w fun C11 w =>
 n24c8 t23 C11 R w)) (.int .i64 0) w
def n24c11 (t1 t5 t23:Value) (C3:World→Prop) (R:RT) (w:World):Prop :=
 qV Pg C3 (Instr.loadAt 24 t1) fun t32 =>
 qN Pg C3 (nilN t23) fun t34 =>
 qV Pg C3 (Instr.fieldAt 61 t34 0) fun t35 =>
 qV Pg C3 (Instr.fieldAt 58 t35 0) fun t36 =>
 qV Pg C3 (Instr.fieldAt 24 t36 2) fun t37 =>
 qV Pg C3 (Instr.loadAt 9 t37) fun t38 =>
 opV Pg (Instr.buildSlice 80 1 #[(0,t38)]) (panK R) w fun t39 w =>
 C3 w∧(
 callK Pg 42 #[t32,t39] (panK R) w fun t40 w =>
 C3 w∧(
 n24c10 t5 t23 t40 R w))
def n24c12 (t1 t5 t23:Value) (C2:World→Prop) (R:RT) (w:World):Prop :=
 qV Pg C2 (Instr.loadAt 96 t5) fun t29 =>
 callK Pg 41 #[(.int .i64 2)] (panK R) w fun t30 w =>
 C2 w∧(
 callK Pg 40 #[t29,t30] (panK R) w fun t31 w =>
 C2 w∧(
 drawK w fun C3 w =>
 n24c11 t1 t5 t23 C3 R w))
def n24c13 (t1 t5 t23:Value) (C1:World→Prop) (R:RT) (w:World):Prop :=
 qV Pg C1 (Instr.loadAt 96 t5) fun t26 =>
 callK Pg 41 #[(.int .i64 1)] (panK R) w fun t27 w =>
 C1 w∧(
 callK Pg 40 #[t26,t27] (panK R) w fun t28 w =>
 C1 w∧(
 drawK w fun C2 w =>
 n24c12 t1 t5 t23 C2 R w))
def n24c14 (t1 t18:Value) (R:RT) (w:World):Prop :=
 opV Pg (Instr.build 58 #[(0,t18)]) (panK R) w fun t19 w =>
 opV Pg (Instr.makeMap 59 none) (panK R) w fun t20 w =>
 opV Pg (Instr.makeMap 59 none) (panK R) w fun t21 w =>
 opV Pg (Instr.build 61 #[(0,t19),(2,t20),(3,t21)]) (panK R) w fun t22 w =>
 opV Pg (Instr.box 61 t22) (panK R) w fun t23 w =>
 opV Pg (Instr.build 96 #[(0,t23)]) (panK R) w fun t25 w =>
 opV Pg (Instr.alloc 96 true (.tuple #[])) (panK R) w fun t5 w =>
 opU Pg (Instr.storeAt 96 t5 t25) (panK R) w fun w =>
 drawK w fun C1 w =>
 n24c13 t1 t5 t23 C1 R w
def n24c15 (t1 t15:Value) (R:RT) (w:World):Prop :=
 opV Pg (Op.unary .not t15) (panK R) w fun t16 w =>
 condP t16 (
 R (.returned (.tuple #[(Value.pointer none),(.int .i64 2)])) w) (
 opV Pg (Instr.loadAt 24 t1) (panK R) w fun t17 w =>
 callK Pg 24 #[t17] (panK R) w fun t18 w =>
 n24c14 t1 t18 R w)
def n24 (t0:Value) (R:RT) (w:World):Prop :=
 opV Pg (Instr.box 24 t0) (panK R) w fun t1 w =>
 opV Pg (Instr.loadAt 24 t1) (panK R) w fun t14 w =>
 callK Pg 19 #[t14] (panK R) w fun t15 w =>
 n24c15 t1 t15 R w
set_option maxHeartbeats 40000000 in
theorem n24s {t0:Value} {R:RT} {w:World} (h:n24 t0 R w):Calls Pg 20 #[t0] w R:=by
 refine yD Tryz.func20 ?_
 refine zs<|zr<|yv h fun _ w h=>zm<|zm<|zn<|zk<|zs<|zs<|zr<|yv h fun _ w h=>yc h c19 fun _ w h=>yv h fun _ w h=>zn<|zk ?_
 refine yC h (fun h=>zs<|zr<|zm<|zm<|zn<|zk<|sim_ret<|sim_then_ret<|body_ret2 rfl rfl rfl h) fun h=>sim_skip<|zk<|zs<|zr<|yv h fun _ w h=>yc h c24 fun _ w h=>yB h fun _ w h=>yv h fun _ w h=>yv h fun _ w h=>yB h fun _ w h=>yv h fun _ w h=>zm<|zn ?_
 refine zk<|zs<|zr<|zm<|yB h fun _ w h=>yv h fun _ w h=>yu h fun w h=>zn<|zk<|zs<|yh [26,27,28] h fun C hC h=>ye 0 hC h fun _ h=>?_
 refine yo 1 ?_
 refine yc h c41 fun _ w h=>zn ?_
 obtain ⟨hC,h⟩:=h
 refine ⟨hC,?_⟩
 refine yo 2 ?_
 refine yc h c40 fun _ w h=>zn ?_
 obtain ⟨hC,h⟩:=h
 refine ⟨hC,?_⟩
 refine yz<|zk<|zs<|yh [29,30,31] h fun C hC h=>ye 0 hC h fun _ h=>?_
 refine yo 1 ?_
 refine yc h c41 fun _ w h=>zn ?_
 obtain ⟨hC,h⟩:=h
 refine ⟨hC,?_⟩
 refine yo 2 ?_
 refine yc h c40 fun _ w h=>zn ?_
 obtain ⟨hC,h⟩:=h
 refine ⟨hC,?_⟩
 refine yz<|zk<|zs<|yh [6,32,33,34,35,36,37,38,39,40] h fun C hC h=>ye 0 hC h fun _ h=>?_
 refine yw 1 hC ?_
 refine yn 2 hC h fun _ h=>?_
 refine ye 3 hC h fun _ h=>?_
 refine ye 4 hC h fun _ h=>?_
 refine ye 5 hC h fun _ h=>?_
 refine ye 6 hC h fun _ h=>?_
 refine yo 7 ?_
 refine yS h fun _ w h=>zn ?_
 obtain ⟨hC,h⟩:=h
 refine ⟨hC,?_⟩
 refine yo 8 ?_
 refine yc h c42 fun _ w h=>zn ?_
 obtain ⟨hC,h⟩:=h
 refine ⟨hC,?_⟩
 refine yw 9 hC ?_
 refine yz<|zk<|zs<|zs<|zr<|zm<|yN h fun _ w h=>yv h fun _ w h=>yv h fun _ w h=>yv h fun _ w h=>yv h fun _ w h=>yx h fun _ w h=>zm<|zn<|zk ?_
 refine sim_block<|yl1 [7,8,9,10,11,12,13,48,49,50,51,52,53,54,55,56,57,58,59,60,61,62,63,64,65,66,67,68,69,70,71,72,73,74,75,76,77,78,79,80,81,82,83,84,85,86,87,88,89,90,91,92,93,94,95,96,97,98,99,100,101,102,103,104,105,106,107,108,109,110,111,112,113,114,115,116,117,118,119,120] 48 h fun σ w next h=>zs<|zr<|yb h fun _ w h=>zn<|zk<|zs<|yC h (fun h=>?_) fun h=>?_
 · refine sim_skip<|zk<|zs<|yJ0 [7,8,9,10,11,12,13,50,51,52,53,54,55,56,57,58,59,60,61,62,63,64,65,66,67,68,69,70,71,72,73,74,75,76,77,78,79,80,81,82,83,84,85,86,87,88,89,90,91,92,93,94,95,96,97,98,99,100,101,102,103,104,105,106,107,108,109,110,111,112,113,114,115,116,117,118,119] h (fun _ _ hkK5 h=>?_) fun σ w h=>?_
   · refine sim_block<|zs<|zr<|zm<|yv h fun _ w h=>yv h fun _ w h=>yv h fun _ w h=>zm<|yu h fun w h=>zn<|zk<|zs<|zs<|zr<|zm ?_
     refine yv h fun _ w h=>yv h fun _ w h=>yv h fun _ w h=>yv h fun _ w h=>zn<|zk<|yC h (fun h=>?_) fun h=>?_
     · refine sim_exit<|sim_then_exit<|sim_block_hit<|zk ?_
       exact zt hkK5 h
     refine sim_skip<|zk<|zs<|zr<|zm<|yv h fun _ w h=>yu h fun w h=>zn<|zk<|zs<|yh [60,61,62,63,64,65,66,67,68,69,70,71,72,73,74,75,76,77,78,79,80] h fun C hC h=>yw 0 hC ?_
     refine yn 1 hC h fun _ h=>?_
     refine ye 2 hC h fun _ h=>?_
     refine ye 3 hC h fun _ h=>?_
     refine ye 4 hC h fun _ h=>?_
     refine ye 5 hC h fun _ h=>?_
     refine yw 6 hC ?_
     refine yn 7 hC h fun _ h=>?_
     refine ye 8 hC h fun _ h=>?_
     refine ye 9 hC h fun _ h=>?_
     refine ye 10 hC h fun _ h=>?_
     refine ye 11 hC h fun _ h=>?_
     refine yw 12 hC ?_
     refine yn 13 hC h fun _ h=>?_
     refine ye 14 hC h fun _ h=>?_
     refine ye 15 hC h fun _ h=>?_
     refine ye 16 hC h fun _ h=>?_
     refine yo 17 ?_
     refine yv h fun _ w h=>zn ?_
     obtain ⟨hC,h⟩:=h
     refine ⟨hC,?_⟩
     refine ye 18 hC h fun _ h=>?_
     refine yo 19 ?_
     refine yu h fun w h=>zn ?_
     obtain ⟨hC,h⟩:=h
     refine ⟨hC,?_⟩
     refine yq 20 3 ?_
     refine yv h fun _ w h=>zn ?_
     obtain ⟨C7,hC,h⟩:=h
     refine ⟨C7,hC,?_⟩
     refine ye 21 hC h fun _ h=>?_
     refine yq 22 1 ?_
     refine yu h fun w h=>zn ?_
     obtain ⟨C8,hC,h⟩:=h
     refine ⟨C8,hC,?_⟩
     refine yz<|zk<|zs<|zr<|yv h fun _ w h=>yc h c43 fun _ w h=>zn<|zk<|zs<|zr<|yv h fun _ w h=>yv h fun _ w h=>yF h fun _ w h=>yu h fun w h=>yv h fun _ w h=>?_
     refine yF h fun _ w h=>yu h fun w h=>yv h fun _ w h=>yF h fun _ w h=>yu h fun w h=>yv h fun _ w h=>yF h fun _ w h=>yu h fun w h=>zm<|zm<|zn<|zk<|zs<|zs<|zr ?_
     refine yv h fun _ w h=>yv h fun _ w h=>yx h fun _ w h=>zm<|zn<|zk<|sim_block<|yl1 [10,11,12,13,96,97,98,99,100,101,102,103,104,105,106,107,108,109,110,111,112,113,114,115,116,117] 96 h fun σ w next h=>zs<|zr<|yb h fun _ w h=>zn<|zk<|zs<|yC h (fun h=>?_) fun h=>?_
     · refine sim_skip<|zk<|zs<|sim_block<|zs<|zr<|zm<|yv h fun _ w h=>yv h fun _ w h=>yv h fun _ w h=>zm<|yu h fun w h=>zn<|zk<|zs ?_
       refine zr<|zm<|yv h fun _ w h=>yv h fun _ w h=>yv h fun _ w h=>zm<|yv h fun _ w h=>yv h fun _ w h=>zm<|zm<|zn<|zk<|zs<|zr<|zm ?_
       refine zn<|zk<|yJ0 [109,110,111,112,113,114,115,116] h (fun _ _ hkK10 h=>?_) fun σ w h=>?_
       · refine yC h (fun h=>?_) fun h=>?_
         · refine zr<|zm<|zm<|yv h fun _ w h=>yV h fun _ w h=>zn<|zk ?_
           exact zt hkK10 h
         refine zr<|yv h fun _ w h=>zm<|yv h fun _ w h=>yc h c48 fun _ w h=>zn<|zk ?_
         exact zt hkK10 h
       exact sim_block_normal<|zk<|zr<|yb h fun _ w h=>zm<|zn<|zk<|⟨rfl,h⟩
     refine sim_exit<|sim_then_exit<|sim_then_exit<|sim_block_hit<|zk<|zr<|yv h fun _ w h=>yc h c43 fun _ w h=>zn<|sim_block_normal<|zk ?_
     exact zt hkK5 h
   exact zk<|zr<|yb h fun _ w h=>zm<|zn<|zk<|⟨rfl,h⟩
 refine sim_exit<|sim_then_exit<|sim_then_exit<|sim_block_hit<|zk<|zs<|yh [121,122,123,124,125,126,127,128,129,130,131,132,133,134,135,136,137] h fun C hC h=>yw 0 hC ?_
 refine yn 1 hC h fun _ h=>?_
 refine ye 2 hC h fun _ h=>?_
 refine ye 3 hC h fun _ h=>?_
 refine yw 4 hC ?_
 refine yn 5 hC h fun _ h=>?_
 refine ye 6 hC h fun _ h=>?_
 refine ye 7 hC h fun _ h=>?_
 refine yw 8 hC ?_
 refine yn 9 hC h fun _ h=>?_
 refine ye 10 hC h fun _ h=>?_
 refine ye 11 hC h fun _ h=>?_
 refine ye 12 hC h fun _ h=>?_
 refine ye 13 hC h fun _ h=>?_
 refine ye 14 hC h fun _ h=>?_
 refine ye 15 hC h fun _ h=>?_
 refine ye 16 hC h fun _ h=>?_
 refine yq 17 2 ?_
 refine yu h fun w h=>zn ?_
 obtain ⟨C12,hC,h⟩:=h
 refine ⟨C12,hC,?_⟩
 exact yz<|zk<|zs<|zr<|zm<|zm<|zm<|zn<|zk<|sim_ret<|body_ret2 rfl rfl rfl h
def n30 (t0 t1:Value) (R:RT) (w:World):Prop :=
 opV Pg (Instr.box 27 t0) (panK R) w fun t2 w =>
 opV Pg (Instr.loadAt 27 t2) (panK R) w fun t6 w =>
 opV Pg (Instr.makeFunc (.func 50) #[] #[t2]) (panK R) w fun t8 w =>
 callK Pg 49 #[t6,t1,t8] (panK R) w fun t9 w =>
 opV Pg (Instr.extract t9 0) (panK R) w fun t10 w =>
 opV Pg (Instr.extract t9 1) (panK R) w fun t11 w =>
 R (.returned (.tuple #[t10,t11])) w
theorem n30s {t0 t1:Value} {R:RT} {w:World} (h:n30 t0 t1 R w):Calls Pg 21 #[t0,t1] w R:=by
 refine yD Tryz.func21 ?_
 refine zs<|zr<|yv h fun _ w h=>zm<|zm<|zn<|zk<|zs<|zr<|yv h fun _ w h=>zm<|yF h fun _ w h=>yc h c49 fun _ w h=>yv h fun _ w h=>yv h fun _ w h=>?_
 exact zm<|zm<|zn<|zk<|sim_ret<|body_ret2 rfl rfl rfl h
def n32 (t0 t1:Value) (R:RT) (w:World):Prop :=
 opV Pg (Instr.box 27 t0) (panK R) w fun t2 w =>
 opV Pg (Instr.loadAt 27 t2) (panK R) w fun t6 w =>
 opV Pg (Instr.makeFunc (.func 51) #[] #[t2]) (panK R) w fun t8 w =>
 callK Pg 49 #[t6,t1,t8] (panK R) w fun t9 w =>
 opV Pg (Instr.extract t9 0) (panK R) w fun t10 w =>
 opV Pg (Instr.extract t9 1) (panK R) w fun t11 w =>
 R (.returned (.tuple #[t10,t11])) w
theorem n32s {t0 t1:Value} {R:RT} {w:World} (h:n32 t0 t1 R w):Calls Pg 22 #[t0,t1] w R:=by
 refine yD Tryz.func22 ?_
 refine zs<|zr<|yv h fun _ w h=>zm<|zm<|zn<|zk<|zs<|zr<|yv h fun _ w h=>zm<|yF h fun _ w h=>yc h c49 fun _ w h=>yv h fun _ w h=>yv h fun _ w h=>?_
 exact zm<|zm<|zn<|zk<|sim_ret<|body_ret2 rfl rfl rfl h
abbrev bndV (fn:FuncId) (pb:Nat) (i:Int):Value := .func (.func fn) #[mkV pb i] #[]
def kfn (pb:Nat) (i k:Int):Option Value :=
 if k=9 then some (bndV 47 pb i) else if k=12 then some (bndV 46 pb i) else if k=7 then some (bndV 45 pb i) else if k=8 then some (bndV 44 pb i) else none
def KMap (w:World) (r pb:Nat) (i:Int):Prop:=∃ L c,MapB w r (fun n:Int=>Value.int .i64 n) L c∧∀ k,Sw.look L k=kfn pb i k
theorem KMap.is {w:World} {r pb:Nat} {i:Int} (h:KMap w r pb i):∃ es c,w.heap[r]?=some (.map es c):=let ⟨_,_,h1,_⟩:=h; ⟨_,_,h1.obj⟩
theorem KMap.same {w w':World} {r pb:Nat} {i:Int} (h:KMap w r pb i) (e:w'.heap[r]?=w.heap[r]?):KMap w' r pb i:=let ⟨L,c,h1,h2⟩:=h; ⟨L,c,MapB.of_obj h1 e,h2⟩
theorem KMap.look {w:World} {r pb:Nat} {i:Int} (h:KMap w r pb i) {QP:List PanicEntry→World→Prop} {K:Value→World→Prop} (k:Int):opV Pg (Instr.lookup 103 (.map (some r)) (.int .i64 k) true) QP w K=K (.tuple #[(kfn pb i k).getD .nilFunc,.bool (kfn pb i k).isSome]) w:=by
 obtain ⟨L,c,h1,h2⟩:=h
 rw [op_lookup Tryz.underlying103 (KeyOK.int Tryz.underlying65) ty102 h1 k,h2]
theorem kput {w:World} {m c:Nat} {L:List (Int×Value×Nat)} {QP:List PanicEntry→World→Prop} {ku:World→Prop} (hM:MapB w m (fun n:Int=>Value.int .i64 n) L c) (k:Int) (v:Value)
 (h:∀ w' L' c',MapB w' m (fun n:Int=>Value.int .i64 n) L' c'→(∀ k',Sw.look L' k'=if k'=k then some v else Sw.look L k')→(∀ w0,Ext w0 w→w0.heap.size≤m→Ext w0 w')→ku w'):opU Pg (Instr.mapUpdate 103 (.map (some m)) (.int .i64 k) v) QP w ku:=by
 rw [op_mapUpdate Tryz.underlying103 (KeyOK.int Tryz.underlying65) hM k v]
 exact h _ _ _ (hM.put k v) (fun k'=>look_put _ _ _ _ _) fun w0 e hm=>e.putObj hm _
theorem cnt_le (l:List FieldD):∀ k,cntR l k≤k
 | 0=>Nat.le_refl _
 | k+1=>by
  have:=cnt_le l k
  unfold cntR
  cases l[k]? with
  | none=>simp;omega
  | some f=>simp only;split<;>omega
theorem cntR_succ {l:List FieldD} {k:Nat} {f:FieldD} (hf:l[k]?=some f):cntR l (k+1)=cntR l k+(if regB l f then 1 else 0):=by
 show cntR l k+_=_
 rw [hf]
theorem lenK_succ {l:List FieldD} {k:Nat} {f:FieldD} (hf:l[k]?=some f):lenK l (k+1)=lenK l k+lenF f:=by
 show lenK l k+_=_
 rw [hf]
theorem fieldsC_succ {rt:ByteArray→Int} {i:Int} {l:List FieldD} {k:Nat} {f:FieldD} (hf:l[k]?=some f):fieldsC rt i l (k+1)=fieldsC rt i l k++fieldC rt i k (gR l k f) f:=by
 show fieldsC rt i l k++_=_
 rw [hf]
theorem lenF_pos (f:FieldD):1≤lenF f:=by unfold lenF;split<;>omega
theorem lenK_mono (l:List FieldD):∀ {j k:Nat},j≤k→lenK l j≤lenK l k
 | j,0,h=>by
  have:j=0:=by omega
  subst this;exact Nat.le_refl _
 | j,k+1,h=>by
  rcases Nat.lt_or_ge j (k+1) with h1 | h1
  · have:=lenK_mono l (j:=j) (k:=k) (by omega)
    show _≤lenK l k+_
    omega
  · have:j=k+1:=by omega
    subst this;exact Nat.le_refl _
theorem le_lenK (l:List FieldD):∀ {k:Nat},k≤l.length→k≤lenK l k
 | 0,_=>Nat.zero_le _
 | k+1,h=>by
  obtain ⟨f,hf⟩:=getElem?_lt (show k < l.length by omega)
  have:=le_lenK l (k:=k) (by omega)
  have:=lenF_pos f
  rw [lenK_succ hf];omega
theorem regB_kind {l:List FieldD} {f:FieldD} (h:f.kind=7∨f.kind=8∨f.kind=9∨f.kind=12):regB l f=false:=by
 unfold regB numberB
 rcases h with h | h | h | h<;>rw [h]<;>rfl
section
variable {X w w':World} {pb rm gm base:Nat} {d:DefD} {mc:Value} {code:List InsD} {φ ψ:ByteArray→Option Int} {m:MsgD}
theorem Cmp.congr {φ' ψ':ByteArray→Option Int} (h:Cmp X pb rm gm base d mc w code φ ψ) (h1:∀ s,φ s=φ' s) (h2:∀ s,ψ s=ψ' s):Cmp X pb rm gm base d mc w code φ' ψ':=⟨h.ext,h.lp,h.lr,h.lg,h.bp,h.br,h.bg,h.bw,h.ne,h.obj,h.routs.congr h1,h.regs.congr h2⟩
theorem FrC.map (hF:FrC pb rm gm w w') (h1:pb < base) (h2:rm < base) (h3:gm < base) {b:Nat} {es:Array MapEntry} {c:Nat} (hb:w.heap[b]?=some (.map es c)) (hn:base≤b):w'.heap[b]?=w.heap[b]?:=by
 rw [hb]
 exact hF.2 b _ hb (by omega) (by omega) (by omega) fun cs' he=>by cases he
def regF (ψ:ByteArray→Option Int) (s:ByteArray) (l:List FieldD) (k:Nat):ByteArray→Option Int:=fun s'=>if s=s' then some (cntR l k:Int) else ψ s'
theorem regF_step {s:ByteArray} {l:List FieldD} {k:Nat} {f:FieldD} (hf:l[k]?=some f) (s':ByteArray):stepR (regF ψ s l k) s (cntR l k) (regB l f) s'=regF ψ s l (k+1) s':=by
 unfold stepR regF
 rw [cntR_succ hf]
 cases regB l f with
 | false=>simp
 | true =>
  simp only [if_true]
  split<;>rfl
theorem fields_loop (h:Cmp X pb rm gm base d mc w code φ (regF ψ m.name m.fields 0)) {A:Option Addr} {c:Nat} {msgs:List MsgD} (hmc:mc = .slice A msgs.length c) (hM:MsgsOf X mc msgs) {i:Nat} (hi:msgs[i]?=some m) (rt:ByteArray→Int) (hφ:∀ s∈allRefs m.fields,φ s=some (rt s))
 {p5 r:Nat} {fv:Value} (hF:FieldsOf X fv m.fields) (q5:w.heap[p5]?=some (.cells #[.pointer (some ⟨pb,0,none⟩),.int .i64 (i:Int)] 96 (0,0))) (hK:KMap w r pb i) (hb5:base≤p5) (hbr:base≤r) (hl:code.length+lenK m.fields m.fields.length+1≤100000) {R:RT} {K5:World→Prop}
 (hK5:∀ w',Cmp X pb rm gm base d mc w' ((code++fieldsC rt i m.fields m.fields.length)++[⟨10,i,-1,-1,-1,-1⟩]) φ (regF ψ m.name m.fields m.fields.length)→FrC pb rm gm w w'→K5 w') :
 loop1 (fun t96 w next9=>n24c3 (.pointer (some ⟨p5,0,none⟩)) (.map (some r)) fv (.int .i64 (m.fields.length:Int)) t96 K5 next9 R w) (.int .i64 0) w:=by
 obtain ⟨B,cB,rfl,hlc,hcm,hlm,hel⟩:=SliceOf.open hF
 have b1:=h.bp
 have b2:=h.br
 have b3:=h.bg
 refine loop1_intro (fun a w'=>∃ k:Nat,a = .int .i64 k∧k≤m.fields.length∧Cmp X pb rm gm base d mc w' (code++fieldsC rt i m.fields k) φ (regF ψ m.name m.fields k)∧FrC pb rm gm w w') (fun a _=>m.fields.length - (intOf a).toNat) ⟨0,rfl,by omega,by rw [show fieldsC rt i m.fields 0=[] from rfl,List.append_nil];exact h,FrC.refl _ _ _ _⟩ ?_
 rintro _ w1 ⟨k,rfl,hk,h1,hF1⟩
 have q51:=hF1.cells b1 b2 b3 q5 hb5 (by decide)
 have hK1:KMap w1 r pb i:=by
  obtain ⟨es,cc,he⟩:=hK.is
  exact hK.same (hF1.map b1 b2 b3 he hbr)
 have hlk:(code++fieldsC rt i m.fields k).length=code.length+lenK m.fields k:=by rw [List.length_append,fieldsC_len]
 unfold n24c3
 rcases Nat.lt_or_ge k m.fields.length with hlt | hge
 · have hdec:decide ((k:Int) < (m.fields.length:Int))=true:=decide_eq_true (by omega)
   obtain ⟨f,hf⟩:=getElem?_lt hlt
   obtain ⟨b,o,cs,rfl,_,hA,hE⟩:=hel k f hf
   obtain ⟨tv,cv,rfl,hT,hC⟩:=hE
   have hfX:FieldVal X (.agg (fieldCells f tv cv).toArray) f:=⟨tv,cv,rfl,hT,hC⟩
   have ht1:=SliceOf.oneCell hT
   have hc1:=SliceOf.oneCell hC
   have hfd:f∈m.fields:=List.mem_of_getElem? hf
   simp (disch:=try exact DI) only [↓PR,QR,simprocAttr,hdec,↓n24c2,hA.c15 h1.ext]
   have o11:=heap_new w1 (fieldCells f tv cv).toArray 71
   have e2:Ext w1 (w1.alloc (.cells (fieldCells f tv cv).toArray 71)):=ee
   generalize (w1.alloc (.cells (fieldCells f tv cv).toArray 71))=w2 at o11 e2 ⊢
   have hK2:KMap w2 r pb i:=by
    obtain ⟨es,cc,he⟩:=hK1.is
    exact hK1.same ((e2.obj he).trans he.symm)
   have h2:=h1.go e2
   have q52:=e2.obj q51
   generalize hp11:w1.heap.size=p11 at o11 ⊢
   rw [hK2.look]
   have hld:∀ (QP:List PanicEntry→World→Prop) (K:Value→World→Prop),opV Pg (Instr.loadAt 71 (.pointer (some ⟨p11,0,none⟩))) QP w2 K=K (.agg (fieldCells f tv cv).toArray) w2:=fun QP K=>op_load (ElemAt.loads (b:=p11) (o:=0) (cs:=fieldCells f tv cv) (fun j u hu=>by rw [Nat.zero_add,(cells_of_heap o11).1];simpa using hu) ty71 rfl)
   have hlf:=lenK_mono m.fields (show k+1≤m.fields.length by omega)
   rw [lenK_succ hf] at hlf
   have hpos:=lenF_pos f
   have hk1:=le_lenK m.fields (Nat.le_refl _)
   have hwr:IntKind.i64.wrap ((k:Int)+1)=(k:Int)+1:=wrap_ok (by omega) (by omega)
   have fin:∀ w3,Cmp X pb rm gm base d mc w3 ((code++fieldsC rt i m.fields k)++fieldC rt i k (gR m.fields k f) f) φ (regF ψ m.name m.fields (k+1))→FrC pb rm gm w2 w3→opV Pg (binS BinOp.add 3 true (Value.int IntKind.i64 (k:Int)) (Value.int IntKind.i64 1)) (panK R) w3 fun t117 w_4=>(fun a0' w'=>(∃ k:Nat,a0'=Value.int IntKind.i64 k∧k≤m.fields.length∧Cmp X pb rm gm base d mc w' (code++fieldsC rt i m.fields k) φ (regF ψ m.name m.fields k)∧FrC pb rm gm w w')∧m.fields.length - (intOf a0').toNat < m.fields.length - (intOf (Value.int IntKind.i64 (k:Int))).toNat) t117 w_4:=by
    intro w3 hC3 hF3
    simp (disch:=try exact DI) only [↓PR,QR,simprocAttr,hwr]
    refine ⟨⟨k+1,rfl,by omega,?_,hF1.trans ((FrC.of e2).trans hF3)⟩,meas_lt (kd := .i64) hlt⟩
    rw [fieldsC_succ hf,← List.append_assoc]
    exact hC3
   have same:(f.kind=7∨f.kind=8∨f.kind=9∨f.kind=12)→∀ s,regF ψ m.name m.fields k s=regF ψ m.name m.fields (k+1) s:=fun hh s=>by
    unfold regF
    rw [cntR_succ hf,regB_kind hh]
    rfl
   by_cases h9:f.kind=9
   · have hk9:kfn pb i f.kind=some (bndV 47 pb i):=by rw [h9];rfl
     rw [hk9]
     simp (disch:=try exact DI) only [↓PR,QR,simprocAttr,(cells_of_heap o11).1,Option.getD_some,Option.isSome_some]
     rw [callV_func c47]
     simp only [List.push_toArray,List.append_toArray,Array.append_eq_append,List.cons_append,List.nil_append]
     have hlen:lenF f=1+f.cases.length:=by unfold lenF;rw [if_pos h9]
     refine callK_ret (choice_ret h2 i k f _ hfX rt (fun c hc=>hφ _ (List.mem_flatMap.2 ⟨f,hfd,by unfold refsF;rw [h9];simp;exact ⟨c,hc,rfl⟩⟩)) (by omega)) ?_
     rintro _ w3 ⟨rfl,hC3,hF3⟩
     refine fin w3 ?_ hF3
     have:=hC3.congr (fun _=>rfl) (same (by simp [h9]))
     unfold fieldC
     rw [if_pos h9]
     exact this
   by_cases h8:f.kind=8
   · have hk8:kfn pb i f.kind=some (bndV 44 pb i):=by rw [h8];rfl
     rw [hk8]
     simp (disch:=try exact DI) only [↓PR,QR,simprocAttr,(cells_of_heap o11).1,Option.getD_some,Option.isSome_some]
     rw [callV_func c44]
     simp only [List.push_toArray,List.append_toArray,Array.append_eq_append,List.cons_append,List.nil_append]
     have hfo:φ f.of=some (rt f.of):=hφ _ (List.mem_flatMap.2 ⟨f,hfd,by unfold refsF;rw [h8];simp⟩)
     refine callK_ret (one_ret h2 i k f _ (hfX.ext h2.ext) hfo (by omega)) ?_
     rintro _ w3 ⟨rfl,hC3,hF3⟩
     refine fin w3 ?_ hF3
     have:=hC3.congr (fun _=>rfl) (same (by simp [h8]))
     unfold fieldC
     rw [h8]
     exact this
   by_cases h7:f.kind=7
   · have hk7:kfn pb i f.kind=some (bndV 45 pb i):=by rw [h7];rfl
     rw [hk7]
     simp (disch:=try exact DI) only [↓PR,QR,simprocAttr,(cells_of_heap o11).1,Option.getD_some,Option.isSome_some]
     rw [callV_func c45]
     simp only [List.push_toArray,List.append_toArray,Array.append_eq_append,List.cons_append,List.nil_append]
     have hfo:φ f.of=some (rt f.of):=hφ _ (List.mem_flatMap.2 ⟨f,hfd,by unfold refsF;rw [h7];simp⟩)
     refine callK_ret (many_ret h2 i k f _ (hfX.ext h2.ext) hfo (by omega)) ?_
     rintro _ w3 ⟨rfl,hC3,hF3⟩
     refine fin w3 ?_ hF3
     have:=hC3.congr (fun _=>rfl) (same (by simp [h7]))
     unfold fieldC
     rw [h7]
     exact this
   by_cases h12:f.kind=12
   · have hk12:kfn pb i f.kind=some (bndV 46 pb i):=by rw [h12];rfl
     rw [hk12]
     simp (disch:=try exact DI) only [↓PR,QR,simprocAttr,(cells_of_heap o11).1,Option.getD_some,Option.isSome_some]
     rw [callV_func c46]
     simp only [List.push_toArray,List.append_toArray,Array.append_eq_append,List.cons_append,List.nil_append]
     have hfo:φ f.of=some (rt f.of):=hφ _ (List.mem_flatMap.2 ⟨f,hfd,by unfold refsF;rw [h12];simp⟩)
     refine callK_ret (view_ret h2 i k f _ (hfX.ext h2.ext) hfo (by omega)) ?_
     rintro _ w3 ⟨rfl,hC3,hF3⟩
     refine fin w3 ?_ hF3
     have:=hC3.congr (fun _=>rfl) (same (by simp [h12]))
     unfold fieldC
     rw [h12]
     exact this
   have hkn:kfn pb i f.kind=none:=by unfold kfn;rw [if_neg h9,if_neg h12,if_neg h7,if_neg h8]
   rw [hkn]
   simp (disch:=try exact DI) only [↓PR,QR,simprocAttr,↓n24c1,(cells_of_heap q52).1,(cells_of_heap o11).1,Option.isSome_none]
   have hcn:cntR m.fields k≤k:=cnt_le m.fields k
   refine callK_ret (plain_ret h2 hmc hM hi k f _ hfX (n:=cntR m.fields k) (by unfold regF;rw [if_pos rfl]) ⟨by omega,by omega⟩ (by omega)) ?_
   rintro _ w3 ⟨rfl,hC3,hF3⟩
   refine fin w3 ?_ hF3
   have:=hC3.congr (fun _=>rfl) (regF_step hf)
   unfold fieldC gR
   rw [if_neg h9,if_neg h8,if_neg h7,if_neg h12]
   exact this
 · obtain rfl:k=m.fields.length:=by omega
   have hdec:decide ((m.fields.length:Int) < (m.fields.length:Int))=false:=decide_eq_false (by omega)
   simp (disch:=try exact DI) only [↓PR,QR,simprocAttr,hdec,(cells_of_heap q51).1]
   refine callK_ret (put_ret h1 i 10 (-1) (-1) (by omega)) ?_
   rintro _ w2 ⟨rfl,hC2,hF2⟩
   exact hK5 w2 hC2 (hF1.trans hF2)
end
section
variable {X w w':World} {pb rm gm base:Nat} {d:DefD} {mc:Value} {code:List InsD} {φ ψ:ByteArray→Option Int} {m:MsgD}
theorem kfn_eq (pb:Nat) (i k:Int) (L:List (Int×Value×Nat)) (h0:L=[]):(if k=9 then some (bndV 47 pb i) else if k=12 then some (bndV 46 pb i) else if k=7 then some (bndV 45 pb i) else if k=8 then some (bndV 44 pb i) else Sw.look L k)=kfn pb i k:=by
 subst h0
 rfl
theorem msg_body (h:Cmp X pb rm gm base d mc w code φ (regF ψ m.name m.fields 0)) {A:Option Addr} {c:Nat} {msgs:List MsgD} (hmc:mc = .slice A msgs.length c) (hM:MsgsOf X mc msgs) {i:Nat} (hi:msgs[i]?=some m) (rt:ByteArray→Int) (hφ:∀ s∈allRefs m.fields,φ s=some (rt s))
 {p5 p8:Nat} {fv:Value} (hF:FieldsOf X fv m.fields) (q5:w.heap[p5]?=some (.cells #[.pointer (some ⟨pb,0,none⟩),.int .i64 (i:Int)] 96 (0,0))) (q8:w.heap[p8]?=some (.cells #[.string m.name,fv] 53 (0,0))) (hb5:base≤p5) (hb8:base≤p8) (hl:code.length+lenM m≤100000) {R:RT} {K5:World→Prop}
 (hK5:∀ w',Cmp X pb rm gm base d mc w' (code++msgC rt i m) φ (regF ψ m.name m.fields m.fields.length)→FrC pb rm gm w w'→K5 w') :
 n24c5 (.pointer (some ⟨p5,0,none⟩)) (.pointer (some ⟨p8,0,none⟩)) K5 R w:=by
 have b1:=h.bp
 have b2:=h.br
 have b3:=h.bg
 have hll:lenM m=2+lenK m.fields m.fields.length:=rfl
 have hF0:=hF
 obtain ⟨B,cB,rfl,hlc,hcm,hlm,hel⟩:=SliceOf.open hF
 unfold n24c5
 simp (disch:=try exact DI) only [↓PR,QR,simprocAttr,(cells_of_heap q5).1]
 refine callK_ret (put_ret h i 3 (-1) (-1) (by omega)) ?_
 rintro _ w1 ⟨rfl,h1,hF1⟩
 have q51:=hF1.cells b1 b2 b3 q5 hb5 (by decide)
 have q81:=hF1.cells b1 b2 b3 q8 hb8 (by decide)
 have hbw:=h1.bw
 unfold n24c4
 have hmk:∀ (QP:List PanicEntry→World→Prop) (K:Value→World→Prop),opV Pg (Instr.makeMap 103 none) QP w1 K=K (.map (some w1.heap.size)) (w1.alloc (.map #[] 0)):=fun QP K=>by simp (disch:=try exact DI) only [↓PR,QR,simprocAttr]
 rw [hmk]
 clear hmk
 have hM2:MapB (w1.alloc (.map #[] 0)) w1.heap.size (fun n:Int=>Value.int .i64 n) [] 0:=MapB.new w1 _
 have e2:Ext w1 (w1.alloc (.map #[] 0)):=ee
 generalize (w1.alloc (.map #[] 0))=w2 at hM2 e2 ⊢
 simp (disch:=try exact DI) only [↓PR,QR,simprocAttr,(cells_of_heap (e2.obj q51)).1]
 refine kput hM2 8 _ fun w3 L3 c3 hM3 hl3 hE3=>?_
 have e3:=hE3 w1 e2 (Nat.le_refl _)
 simp (disch:=try exact DI) only [↓PR,QR,simprocAttr,(cells_of_heap (e3.obj q51)).1]
 refine kput hM3 7 _ fun w4 L4 c4 hM4 hl4 hE4=>?_
 have e4:=hE4 w1 e3 (Nat.le_refl _)
 simp (disch:=try exact DI) only [↓PR,QR,simprocAttr,(cells_of_heap (e4.obj q51)).1]
 refine kput hM4 12 _ fun w5 L5 c5 hM5 hl5 hE5=>?_
 have e5:=hE5 w1 e4 (Nat.le_refl _)
 simp (disch:=try exact DI) only [↓PR,QR,simprocAttr,(cells_of_heap (e5.obj q51)).1]
 refine kput hM5 9 _ fun w6 L6 c6 hM6 hl6 hE6=>?_
 have e6:=hE6 w1 e5 (Nat.le_refl _)
 have hK:KMap w6 w1.heap.size pb i:=⟨_,_,hM6,fun k=>by rw [hl6,hl5,hl4,hl3];exact kfn_eq pb i k [] rfl⟩
 simp (disch:=try exact DI) only [↓PR,QR,simprocAttr,(cells_of_heap (e6.obj q81)).1]
 refine fields_loop (h1.go e6) hmc hM hi rt hφ hF0 (e6.obj q51) hK hb5 hbw (by rw [List.length_append,List.length_singleton];omega) fun w' hC' hF'=>?_
 refine hK5 w' ?_ (hF1.trans ((FrC.of e6).trans hF'))
 unfold msgC
 have he:∀ (a:List InsD) x b y,a++[x]++b++y=a++(x::b++y):=fun a x b y=>by simp
 rw [he] at hC'
 exact hC'
end
structure Vis (l:List MsgD) (Q:Nat→Bool) (φ ψ:ByteArray→Bool):Prop where
 more:∀ s,φ s=true→ψ s=true
 only:∀ j x,l[j]?=some x→ψ x.name=true→φ x.name=true∨Q j=true
 all:∀ j x,l[j]?=some x→ψ x.name=true→φ x.name=false→∀ k y,toB l j k=true→l[k]?=some y→ψ y.name=true
theorem Vis.refl (l:List MsgD) (Q:Nat→Bool) (φ:ByteArray→Bool):Vis l Q φ φ:=⟨fun _ h=>h,fun _ _ _ h => .inl h,fun _ _ _ h h'=>by rw [h] at h';cases h'⟩
theorem Vis.trans {l:List MsgD} {Q:Nat→Bool} {φ ψ χ:ByteArray→Bool} (h:Vis l Q φ ψ) (k:Vis l Q ψ χ):Vis l Q φ χ:=by
 refine ⟨fun s hs=>k.more s (h.more s hs),fun j x hj hx=>?_,fun j x hj hx hn q y hq hy=>?_⟩
 · rcases k.only j x hj hx with h1 | h1
   · exact h.only j x hj h1
   · exact .inr h1
 · cases hp:ψ x.name with
   | true=>exact k.more _ (h.all j x hj hp hn q y hq hy)
   | false=>exact k.all j x hj hx hp q y hq hy
abbrev visV (p5 p2 p6:Nat):Value := .func (.func 74) #[] #[.pointer (some ⟨p5,0,none⟩),.pointer (some ⟨p2,0,none⟩),.pointer (some ⟨p6,0,none⟩)]
theorem visit_ret {w0 X:World} {d:DefD} {A:Option Addr} {c p2 p5 p6 r:Nat} {Q:Nat→Bool} (hf:Fine d.msgs) (ht:calm d) (hM:MsgsOf w0 (.slice A d.msgs.length c) d.msgs) (e0:Ext w0 X) (hr:w0.heap.size≤r) (h5:r < p5) (h2:p2 < r) (h6:r < p6)
 (o2:X.heap[p2]?=some (.cells (defCells d (.slice A d.msgs.length c)).toArray 24 (0,0))) (o5:X.heap[p5]?=some (.cells #[.map (some r)] 99 (0,0))) (o6:X.heap[p6]?=some (.cells #[visV p5 p2 p6] 140 (0,0)))
 (hQ:∀ k i,Q k=true→toB d.msgs k i=true→Q i=true):∀ (n i:Nat) (m:MsgD) (w:World) (φ:ByteArray→Bool),i < n→d.msgs[i]?=some m→Q i=true→Save r (r+1) X w→SetI w r φ →
 Ret Pg 74 #[.string m.name,.pointer (some ⟨p5,0,none⟩),.pointer (some ⟨p2,0,none⟩),.pointer (some ⟨p6,0,none⟩)] w fun v w'=>v = .tuple #[]∧Save r (r+1) w w'∧∃ ψ,SetI w' r ψ∧Vis d.msgs Q φ ψ∧ψ m.name=true
 | 0,_,_,_,_,h,_,_,_,_=>absurd h (Nat.not_lt_zero _)
 | n+1,i,m,w,φ,hi,hm,hq,sv,hS=>by
  have hM0:=hM
  obtain ⟨b,o,c1,hA1,_,hcm,_,_,helM⟩:=open1 hM hm
  injection hA1 with hA1 _ hc1
  subst hA1 hc1
  obtain ⟨cs,_,hAm,fv,rfl,hF⟩:=helM i m hm
  have hfv:=SliceOf.oneCell hF
  have hil:=(List.getElem?_eq_some_iff.1 hm).1
  have hX:∀ w',Save r (r+1) X w'→Ext w0 w':=fun w' h=>h.to_ext e0 hr
  refine n48s (R:=retR _) ?_;unfold n48
  dsimp only
  have q5:=sv.obj o5 (.inr (by omega))
  simp (disch:=try exact DI) only [↓PR,QR,simprocAttr,(cells_of_heap q5).1]
  rw [hS.look]
  cases hv:φ m.name with
  | true =>
   simp (disch:=try exact DI) only [↓PR,QR,simprocAttr,outX_nil,retV]
   exact ⟨trivial,Save.refl _ _ _,φ,hS,Vis.refl _ _ _,hv⟩
  | false =>
   simp (disch:=try exact DI) only [↓PR,QR,simprocAttr,↓n48c3,(cells_of_heap q5).1]
   refine hS.update m.name fun w2 hS2 hput=>?_
   obtain ⟨hz2,_,_,sp2⟩:=hput
   have sv2:=sv.trans sp2
   have E2:=hX w2 sv2
   have q2:=sv2.obj o2 (.inl h2)
   simp (disch:=try exact DI) only [↓PR,QR,simprocAttr,(cells_of_heap q2).1]
   refine zcr (Find_ret _ _ d m.name ⟨_,rfl,hM0.ext E2⟩) fun w3 e3=>?_
   have hany:(d.msgs.any fun x=>decide (x.name=m.name))=true:=List.any_eq_true.2 ⟨m,List.mem_of_getElem? hm,by simp⟩
   have hid:idx0 (fun x:MsgD=>decide (x.name=m.name)) d.msgs=i:=by
    rw [idx0_any hany]
    exact idN_at hf hm
   rw [hid]
   have sv3:=sv2.ext e3
   have E3:=hX w3 sv3
   have q23:=sv3.obj o2 (.inl h2)
   simp (disch:=try exact DI) only [↓PR,QR,simprocAttr,↓n48c2,(cells_of_heap q23).1,hAm.c2 E3]
   refine callK_ret (Refers_ret w3 _ m ⟨fv,rfl,FieldsOf.ext hF E3⟩ (ht m (List.mem_of_getElem? hm)).1) ?_
   rintro _ w4 ⟨pb,sv',rfl,hSt,hpb,e4⟩
   have sv4:=sv3.ext e4
   have hS4:=(hS2.ext e3).ext e4
   have sw4:=(sp2.ext e3).ext e4
   have z4:=sv4.size
   have lX:=(Array.getElem?_eq_some_iff.1 o6).1
   have z2:=sv2.size
   have z3:=e3.size
   unfold n48c1
   refine ⟨_,_,(refsM m).length,strX (refsM m),fun w=>StrsAt w pb sv' (allRefs m.fields),fun j w'=>Save r (r+1) w4 w'∧∃ ψ,SetI w' r ψ∧Vis d.msgs Q (fun s=>if m.name=s then true else φ s) ψ∧∀ q s,q < j→(refsM m)[q]?=some s→ψ s=true,fun _ _=>False,fun _ _=>False,rfl,c95,Refers_seq pb sv' _,⟨Save.refl _ _ _,_,hS4,Vis.refl _ _ _,fun q s h=>absurd h (Nat.not_lt_zero _)⟩,fun j w' h=>h.1.strs hSt (by omega),fun j=>(lasts_sv (Nat.le_refl _)).and (.ex fun ψ=>lasts_set.and (Lasts.const _ _)),fun _=>Lasts.const _ _,?_,?_,?_,?_⟩
   · intro rec j w5 hj hI5 hrec hready
     refine ⟨hready,fun w6 hbz=>?_⟩
     have hrec6:=hrec.busied hbz
     obtain ⟨s6,ψ,hS6,hV6,hall⟩:=Lasts.busied (I:=fun w'=>Save r (r+1) w4 w'∧∃ ψ,SetI w' r ψ∧Vis d.msgs Q (fun s=>if m.name=s then true else φ s) ψ∧∀ q s,q < j→(refsM m)[q]?=some s→ψ s=true) ((lasts_sv (Nat.le_refl _)).and (.ex fun ψ=>lasts_set.and (Lasts.const _ _))) hbz (Nat.le_succ _) hI5
     clear hI5 hrec hready hbz
     obtain ⟨s,hs⟩:=getElem?_lt hj
     rw [show strX (refsM m) j = .string s by unfold strX;rw [hs]]
     obtain ⟨i',m',hi',hm',rfl,hto⟩:=refs_to hf hm (mem_refsM (List.mem_of_getElem? hs))
     have s6X:=sv4.trans s6
     have q66:=s6X.obj o6 (.inr (by omega))
     simp (disch:=try exact DI) only [↓PR,QR,simprocAttr,(cells_of_heap q66).1]
     rw [callV_func c74]
     simp only [Array.empty_append,List.push_toArray,List.append_toArray,Array.append_eq_append]
     refine callK_ret (visit_ret hf ht hM0 e0 hr h5 h2 h6 o2 o5 o6 hQ n i' m' w6 ψ (by omega) hm' (hQ _ _ hq hto) s6X hS6) ?_
     rintro _ w7 ⟨rfl,s7,χ,hS7,hV7,hm7⟩
     refine ⟨⟨s7.obj hrec6.1 (.inr (by omega)),let ⟨st,p,h⟩:=hrec6.2; ⟨st,p,s7.obj h (.inr (by omega))⟩⟩,s6.trans s7,χ,hS7,hV6.trans hV7,fun q s hq hs'=>?_⟩
     by_cases hqj:q < j
     · exact hV7.more _ (hall q s hqj hs')
     · have:q=j:=by omega
       subst this
       rw [hs] at hs'
       injection hs' with hs'
       exact hs' ▸ hm7
   · rintro w5 ⟨s5,ψ,hS5,hV5,hall⟩ hmk
     refine outX_mark hmk ?_
     have lw:=sv.size
     have z5:=sw4.size
     simp (disch:=try exact DI) only [↓PR,QR,simprocAttr,outX_nil,retV]
     refine ⟨trivial,(sw4.trans s5).putObj z5 _,ψ,hS5.same (World.putObj_heap_other (by omega)),⟨fun s hs=>hV5.more s ?_,fun j x hj hx=>?_,fun j x hj hx hn k y hto hy=>?_⟩,hV5.more _ (if_pos rfl)⟩
     · show (if m.name=s then true else φ s)=true
       by_cases h:m.name=s
       · rw [if_pos h]
       · rw [if_neg h];exact hs
     · rcases hV5.only j x hj hx with h | h
       · have h:(if m.name=x.name then true else φ x.name)=true:=h
         by_cases he:m.name=x.name
         · have:=names_apart hf hm hj he
           subst this
           exact .inr hq
         · rw [if_neg he] at h;exact .inl h
       · exact .inr h
     · by_cases he:m.name=x.name
       · have:=names_apart hf hm hj he
         subst this
         obtain ⟨m0,m1,h1,h2',h3⟩:=to_names hf hto
         rw [hm] at h1
         injection h1 with h1
         subst h1
         rw [hy] at h2'
         injection h2' with h2'
         subst h2'
         obtain ⟨q,hq'⟩:=List.getElem?_of_mem h3
         exact hall q _ (List.getElem?_eq_some_iff.1 hq').1 hq'
       · exact hV5.all j x hj hx (show (if m.name=x.name then true else φ x.name)=false by rw [if_neg he];exact hn) k y hto hy
   · rintro c w5 h
     exact h.elim
   · rintro ch w5 h
     exact h.elim
theorem vis_reach {d:DefD} (hc:(checkP d).2.2=0) {ψ:ByteArray→Bool} (hV:Vis d.msgs (reachD d) (fun _=>false) ψ) (hs:ψ d.start=true) {i:Nat} {m:MsgD} (hm:d.msgs[i]?=some m):ψ m.name=reachD d i:=by
 have hf:=(check_fine hc).2.2.1
 have hil:=(List.getElem?_eq_some_iff.1 hm).1
 rw [Bool.eq_iff_iff]
 constructor
 · intro h
   exact (hV.only i m hm h).resolve_left (by simp)
 · have key:∀ (n i:Nat) (m:MsgD),d.msgs.length - i≤n→d.msgs[i]?=some m→reachD d i=true→ψ m.name=true:=by
    intro n
    induction n with
    | zero=>intro i m h hm _;have:=(List.getElem?_eq_some_iff.1 hm).1;omega
    | succ n ih =>
     intro i m h hm hr
     rcases reach_from hf _ i (Nat.le_refl _) (show reachN d.msgs (startI d) d.msgs.length i=true from hr) with rfl | ⟨k,hk,hto⟩
     · obtain ⟨m0,h1,h2⟩:=start_at hc
       rw [hm] at h1
       injection h1 with h1
       rw [h1,h2]
       exact hs
     · obtain ⟨h1,h2⟩:=to_lt hf hto
       obtain ⟨x,hx⟩:=getElem?_lt h2
       exact hV.all k x hx (ih k x (by omega) hx hk) rfl i m hto hm
   exact key _ i m (Nat.le_refl _) hm
theorem reached_ret (w0:World) (v:Value) (d:DefD) (b:Nat) (hd:DefVal w0 v d) (ht:calm d) (hc:(checkP d).2.2=0) (hb:w0.cell? ⟨b,0,none⟩=some (.string d.start)):Ret Pg 42 #[v,.slice (some ⟨b,0,none⟩) 1 1] w0 fun r w'=>(∃ g ψ,r = .map (some g)∧w0.heap.size≤g∧SetI w' g ψ∧∀ i m,d.msgs[i]?=some m→ψ m.name=reachD d i)∧Ext w0 w':=by
 obtain ⟨mv,rfl,hM⟩:=hd
 have hm1:=SliceOf.oneCell hM
 obtain ⟨A,c,rfl,_,_,_,_⟩:=SliceOf.open hM
 have hf:=(check_fine hc).2.2.1
 obtain ⟨m0,hm0,hn0⟩:=start_at hc
 have hbl:=World.block_lt_of_cell? w0 _ hb
 simp only at hbl
 refine n47s (R:=retR _) ?_;unfold n47
 rw [op_boxA]
 simp (disch:=try exact DI) only [↓PR,QR,simprocAttr]
 simp only [World.size_alloc,World.size_setCell]
 generalize hV:World.alloc (World.alloc (World.alloc (World.alloc w0 _) _) _) _=V
 have eV:Ext w0 V:=by rw [← hV];exact ee
 have o2:V.heap[w0.heap.size]?=some (.cells (defCells d (.slice A d.msgs.length c)).toArray 24 (0,0)):=by rw [← hV];simp (disch:=try exact DI) only [↓PR,QR,simprocAttr]
 have hS:SetI V (w0.heap.size+1) fun _=>false:=by
  rw [← hV]
  have:=SetI.new (w0.alloc (.cells (defCells d (.slice A d.msgs.length c)).toArray 24))
  rw [World.size_alloc] at this
  exact (this.ext ee).ext ee
 have o5:V.heap[w0.heap.size+1+1]?=some (.cells #[.map (some (w0.heap.size+1))] 99 (0,0)):=by rw [← hV];simp (disch:=try exact DI) only [↓PR,QR,simprocAttr]
 have o6:V.heap[w0.heap.size+1+1+1]?=some (.cells #[visV (w0.heap.size+1+1) w0.heap.size (w0.heap.size+1+1+1)] 140 (0,0)):=by rw [← hV];simp (disch:=try exact DI) only [↓PR,QR,simprocAttr]
 clear hV
 generalize hp2:w0.heap.size=p2 at *
 generalize hr:p2+1=r at *
 generalize hp5:r+1=p5 at *
 generalize hp6:p5+1=p6 at *
 have hX:∀ w',Save r (r+1) V w'→Ext w0 w':=fun w' h=>h.to_ext eV (by omega)
 refine loop1_intro (fun a w=>∃ k:Nat,a = .int .i64 k∧k≤1∧Save r (r+1) V w∧∃ ψ,SetI w r ψ∧Vis d.msgs (reachD d) (fun _=>false) ψ∧(k=1→ψ d.start=true)) (fun a _=>1 - (intOf a).toNat) ⟨0,rfl,by omega,Save.refl _ _ _,_,hS,Vis.refl _ _ _,fun h=>absurd h (by decide)⟩ ?_
 rintro _ w1 ⟨k,rfl,hk,s1,ψ,hS1,hV1,hst⟩
 unfold n47c2
 rcases Nat.eq_zero_or_pos k with rfl | hk1
 · have hb1:=(hX w1 s1).cell hb
   have q6:=s1.obj o6 (.inr (by omega))
   simp (disch:=try exact DI) only [↓PR,QR,simprocAttr,↓n47c1,hb1,(cells_of_heap q6).1]
   rw [callV_func c74]
   simp only [Array.empty_append,List.push_toArray,List.append_toArray,Array.append_eq_append]
   have hsr:reachD d (startI d)=true:=reach_start (start_spec hc).1
   have hv:=visit_ret (Q:=reachD d) hf ht hM eV (by omega) (by omega) (by omega) (by omega) o2 o5 o6 (reach_closed hf) (startI d+1) (startI d) m0 w1 ψ (by omega) hm0 hsr s1 hS1
   rw [hn0] at hv
   refine callK_ret hv ?_
   rintro _ w2 ⟨rfl,s2,χ,hS2,hV2,hm2⟩
   simp (disch:=try exact DI) only [↓PR,QR,simprocAttr]
   exact ⟨⟨1,rfl,by omega,s1.trans s2,χ,hS2,hV1.trans hV2,fun _=>hm2⟩,by decide⟩
 · have:k=1:=by omega
   subst this
   simp (disch:=try exact DI) only [↓PR,QR,simprocAttr,(cells_of_heap (s1.obj o5 (.inr (by omega)))).1]
   exact ⟨⟨r,ψ,rfl,by omega,hS1,fun i m hm=>vis_reach hc hV1 (hst rfl) hm⟩,hX w1 s1⟩
theorem MapI.entry {w:World} {r:Nat} {φ:ByteArray→Option Int} (h:MapI w r φ) (k:ByteArray) {QP:List PanicEntry→World→Prop} {kk:Value→World→Prop}
 (hk:∀ (w1:World) (z st:Value),PutAt r w w1→(∀ (v:Int) (QP:List PanicEntry→World→Prop) (ku:World→Prop),(∀ w2,MapI w2 r (fun s=>if k=s then some v else φ s)→PutAt r w w2→ku w2)→opU Pg (Instr.entryStore 59 (.map (some r)) st (.int .i64 v)) QP w1 ku)→kk (.tuple #[z,st]) w1) :
 opV Pg (Instr.mapEntry 59 (.map (some r)) (.string k)) QP w kk:=by
 obtain ⟨ps,h1,h2⟩:=h
 rw [op_mapEntryS Tryz.underlying59 Tryz.underlying9 ty3 h1 k]
 refine hk _ _ _ ⟨World.putObj_size,fun b hb=>World.putObj_heap_other hb,fun a e ha=>e.putObj ha _,⟨rfl,rfl,rfl,by rw [World.putObj_size];exact Nat.le_refl _,fun b _ hb=>World.putObj_heap_other (by omega)⟩⟩ fun v QP ku hku=>?_
 rw [op_entryStore (MapB.ent h1 k _) (hasK_ent _ _),ent_put,putObj_putObj]
 have hw1:w.putObj r (mapObj (fun s:ByteArray=>Value.string s) (putL (bld (vI ps)).1 (bld (vI ps)).2 k (.int .i64 v)) (putC (bld (vI ps)).1 (bld (vI ps)).2 k))=putW w r (vI ps) k (.int .i64 v):=by
  unfold putW;rw [bld_snoc]
 rw [hw1]
 refine hku _ ⟨ps++[(k,v)],?_,fun s=>?_⟩ (putAt k _)
 · have:=h1.put k (.int .i64 v)
   unfold vI at this ⊢
   rw [List.map_append]
   exact this
 · rw [lastP_snoc,h2]
theorem ref_to1 {l:List MsgD} (hf:Fine l) {r:Nat→Bool} (hr:∀ k i,r k=true→toB l k i=true→r i=true) {n:Nat} {m:MsgD} (hm:l[n]?=some m) (hrn:r n=true) {s:ByteArray} (hs:s∈allRefs m.fields):mapF l r (fun i=>(routN l r i:Int)) (n+1) s=some (toR l r s):=by
 rw [mapF_step hf hm hrn]
 by_cases h:m.name=s
 · rw [if_pos h,← h]
   unfold toR
   have:=idN_at hf hm
   unfold idN at this
   rw [this]
   rfl
 · rw [if_neg h,ref_to hf hr hm hrn hs]
def cntM (l:List MsgD) (i:Nat):Int:=match l[i]? with
 | some m=>(cntR m.fields m.fields.length:Int)
 | none=>0
theorem codeN_succ {rt:ByteArray→Int} {l:List MsgD} {r:Nat→Bool} {i:Nat} {m:MsgD} (hm:l[i]?=some m):codeN rt l r (i+1)=codeN rt l r i++(if r i then msgC rt i m else []):=by
 show codeN rt l r i++_=_
 rw [hm]
theorem routN_succ {l:List MsgD} {r:Nat→Bool} {i:Nat} {m:MsgD} (hm:l[i]?=some m):routN l r (i+1)=routN l r i+(if r i then lenM m else 0):=by
 show routN l r i+_=_
 rw [hm]
theorem routN_mono (l:List MsgD) (r:Nat→Bool):∀ {j k:Nat},j≤k→routN l r j≤routN l r k
 | j,0,h=>by
  have:j=0:=by omega
  subst this;exact Nat.le_refl _
 | j,k+1,h=>by
  rcases Nat.lt_or_ge j (k+1) with h1 | h1
  · have:=routN_mono l r (j:=j) (k:=k) (by omega)
    show _≤routN l r k+_
    omega
  · have:j=k+1:=by omega
    subst this;exact Nat.le_refl _
section
variable {X w w':World} {pb rm gm base:Nat} {d:DefD} {mc:Value} {code:List InsD} {φ ψ:ByteArray→Option Int}
theorem msgs_loop {r:Nat→Bool} (h:Cmp X pb rm gm base d mc w (headC (-1)) (fun _=>none) (fun _=>none)) {A:Option Addr} {c:Nat} (hmc:mc = .slice A d.msgs.length c) (hM:MsgsOf X mc d.msgs) (hf:Fine d.msgs) (hcl:∀ k i,r k=true→toB d.msgs k i=true→r i=true)
 {p5 g:Nat} {j0:Value} {χ:ByteArray→Bool} (q5:w.heap[p5]?=some (.cells #[.pointer (some ⟨pb,0,none⟩),j0] 96 (0,0))) (hS:SetI w g χ) (hχ:∀ i m,d.msgs[i]?=some m→χ m.name=r i) (hb5:base≤p5) (hbg:base≤g) (hl:routN d.msgs r d.msgs.length≤100000) (hl70:d.msgs.length≤100000) {R:RT}
 (hR:∀ w',Cmp X pb rm gm base d mc w' (headC (-1)++codeN (toR d.msgs r) d.msgs r d.msgs.length) (mapF d.msgs r (fun i=>(routN d.msgs r i:Int)) d.msgs.length) (mapF d.msgs r (cntM d.msgs) d.msgs.length)→drawK w' fun C11 w=>n24c8 (.pointer (some ⟨pb,0,none⟩)) C11 R w) :
 n24c10 (.pointer (some ⟨p5,0,none⟩)) (.pointer (some ⟨pb,0,none⟩)) (.map (some g)) R w:=by
 subst hmc
 have b1:=h.bp
 have b2:=h.br
 have b3:=h.bg
 obtain ⟨cv0,hpb0,_⟩:=h.obj
 have hM0:=hM
 obtain ⟨A',c',hA',hlc,hcm,hlm,hel⟩:=SliceOf.open hM
 injection hA' with hA' _ hc'
 subst hA' hc'
 unfold n24c10
 simp (disch:=try exact DI) only [↓PR,QR,simprocAttr,(cells_of_heap hpb0).1]
 refine loop1_intro (fun a w'=>∃ i:Nat,a = .int .i64 i∧i≤d.msgs.length∧Cmp X pb rm gm base d (.slice A d.msgs.length c) w' (headC (-1)++codeN (toR d.msgs r) d.msgs r i) (mapF d.msgs r (fun i=>(routN d.msgs r i:Int)) i) (mapF d.msgs r (cntM d.msgs) i)∧(∃ j0,w'.heap[p5]?=some (.cells #[.pointer (some ⟨pb,0,none⟩),j0] 96 (0,0)))∧SetI w' g χ) (fun a _=>d.msgs.length - (intOf a).toNat) ⟨0,rfl,by omega,by rw [show codeN (toR d.msgs r) d.msgs r 0=[] from rfl,List.append_nil];exact h.congr (fun s=>(mapF_zero _ _ _ s).symm) (fun s=>(mapF_zero _ _ _ s).symm),⟨_,q5⟩,hS⟩ ?_
 rintro _ w1 ⟨i,rfl,hi,h1,⟨j1,q51⟩,hS1⟩
 rcases Nat.lt_or_ge i d.msgs.length with hlt | hge
 · have hdec:decide ((i:Int) < (d.msgs.length:Int))=true:=decide_eq_true (by omega)
   obtain ⟨m,hm⟩:=getElem?_lt hlt
   obtain ⟨b,o,cs,rfl,_,hA,fv,rfl,hF⟩:=hel i m hm
   have hfv:=SliceOf.oneCell hF
   have hwr:IntKind.i64.wrap ((i:Int)+1)=(i:Int)+1:=wrap_ok (by omega) (by omega)
   simp (disch:=try exact DI) only [↓PR,QR,simprocAttr,hdec,↓n24c9,hA.c2 h1.ext]
   have o8:=heap_new w1 #[.string m.name,fv] 53
   have e2:Ext w1 (w1.alloc (.cells #[.string m.name,fv] 53)):=ee
   generalize (w1.alloc (.cells #[.string m.name,fv] 53))=w2 at o8 e2 ⊢
   have hb8:=h1.bw
   have l5:=(Array.getElem?_eq_some_iff.1 q51).1
   generalize hp8:w1.heap.size=p8 at o8 hb8 l5 ⊢
   have h2:=h1.go e2
   have q52:=e2.obj q51
   have hS2:=hS1.ext e2
   rw [hS2.look,hχ i m hm]
   cases hri:r i with
   | false =>
    simp (disch:=try exact DI) only [↓PR,QR,simprocAttr,hwr]
    refine ⟨⟨i+1,rfl,by omega,?_,⟨_,q52⟩,hS2⟩,meas_lt (kd := .i64) hlt⟩
    have hc:codeN (toR d.msgs r) d.msgs r (i+1)=codeN (toR d.msgs r) d.msgs r i:=by rw [codeN_succ hm,hri];simp
    rw [hc]
    exact h2.congr (fun s=>(mapF_skip hri s).symm) (fun s=>(mapF_skip hri s).symm)
   | true =>
    simp (disch:=try exact DI) only [↓PR,QR,simprocAttr,(cells_of_heap q52).1,(cells_of_heap q52).2]
    have ho:=Only.setCell w2 p5 1 (.int .i64 (i:Int))
    have h3:=h2.other (o:=1) (by have:=h.lp;omega) (by omega) q52 (by decide) (.int .i64 (i:Int))
    have q53:(w2.setCell ⟨p5,1,none⟩ (.int .i64 (i:Int))).heap[p5]?=some (.cells #[.pointer (some ⟨pb,0,none⟩),.int .i64 (i:Int)] 96 (0,0)):=by simpa using heap_set (o:=1) q52 (.int .i64 (i:Int))
    have q83:=(ho p8 (by omega)).trans o8
    have hS3:SetI (w2.setCell ⟨p5,1,none⟩ (.int .i64 (i:Int))) g χ:=hS2.same (ho g (by rintro rfl;obtain ⟨es,cc,he⟩:=hS2.is;rw [q52] at he;cases he))
    generalize (w2.setCell ⟨p5,1,none⟩ (.int .i64 (i:Int)))=w3 at h3 q53 q83 hS3 ⊢
    have hlc:(headC (-1)++codeN (toR d.msgs r) d.msgs r i).length=routN d.msgs r i:=by rw [List.length_append,← codeN_len (rt:=toR d.msgs r)];show 2+_=_;omega
    have hls:=routN_mono d.msgs r (show i+1≤d.msgs.length by omega)
    rw [routN_succ hm,hri,if_pos rfl] at hls
    have eD:Ext w3 (Sw.drew w3):=(Ext.refl w3).drew
    have h4:=h3.go eD
    obtain ⟨g4,cap4,hpb4,hO4,_,_,_⟩:=h4.row (by rw [List.length_append];show 0 < 2+_;omega)
    rw [hlc] at hpb4
    have q54:=eD.obj q53
    have q84:=eD.obj q83
    have hS4:=hS3.ext eD
    refine looksK (C:=fun w'=>w'.heap[pb]?=some (.cells (progCells d (.slice (some ⟨b,o,none⟩) d.msgs.length c) (.slice (some ⟨g4,0,none⟩) (routN d.msgs r i) cap4) rm gm).toArray 61 (0,0))∧w'.heap[p8]?=some (.cells #[.string m.name,fv] 53 (0,0))) ⟨hpb4,q84⟩ fun hne=>?_
    generalize hCC:(fun w':World=>w'.heap[pb]?=some (.cells (progCells d (.slice (some ⟨b,o,none⟩) d.msgs.length c) (.slice (some ⟨g4,0,none⟩) (routN d.msgs r i) cap4) rm gm).toArray 61 (0,0))∧w'.heap[p8]?=some (.cells #[.string m.name,fv] 53 (0,0)))=CC at hne ⊢
    have hCC1:∀ w',CC w'↔(w'.heap[pb]?=some (.cells (progCells d (.slice (some ⟨b,o,none⟩) d.msgs.length c) (.slice (some ⟨g4,0,none⟩) (routN d.msgs r i) cap4) rm gm).toArray 61 (0,0))∧w'.heap[p8]?=some (.cells #[.string m.name,fv] 53 (0,0))):=fun w'=>by rw [← hCC]
    clear hCC
    have hr4:∀ K:Value→Prop,qV Pg CC (Instr.loadAt 59 (.pointer (some ⟨pb,4,none⟩))) K=K (.map (some rm)):=fun K=>qV_loadG fun w' hw=>Loads.one ty59 (by rw [(cells_of_heap ((hCC1 w').1 hw).1).1];rfl)
    have hr5:∀ K:Value→Prop,qV Pg CC (Instr.loadAt 59 (.pointer (some ⟨pb,5,none⟩))) K=K (.map (some gm)):=fun K=>qV_loadG fun w' hw=>Loads.one ty59 (by rw [(cells_of_heap ((hCC1 w').1 hw).1).1];rfl)
    have hr3:∀ K:Value→Prop,qV Pg CC (Instr.loadAt 32 (.pointer (some ⟨pb,3,none⟩))) K=K (.slice (some ⟨g4,0,none⟩) (routN d.msgs r i) cap4):=fun K=>qV_loadG fun w' hw=>Loads.one ty32 (by rw [(cells_of_heap ((hCC1 w').1 hw).1).1];rfl)
    have hr8:∀ K:Value→Prop,qV Pg CC (Instr.loadAt 9 (.pointer (some ⟨p8,0,none⟩))) K=K (.string m.name):=fun K=>qV_loadG fun w' hw=>Loads.one ty9 (by rw [(cells_of_heap ((hCC1 w').1 hw).2).1];rfl)
    generalize (Sw.drew w3)=w4 at h4 hpb4 hO4 q54 q84 hS4 ⊢
    clear eD
    unfold n24c7
    simp (disch:=try exact DI) only [↓PR,QR,simprocAttr,hr3,hr4,hr5,hr8]
    have n1:=h.ne.1
    have n2:=h.ne.2.1
    have n3:=h.ne.2.2
    refine h4.routs.entry m.name fun w5 z5 st5 hP5 hst5=>?_
    refine ⟨(hCC1 w5).2 ⟨(hP5.2.1 pb n1).trans hpb4,(hP5.2.1 p8 (by omega)).trans q84⟩,?_⟩
    simp (disch:=try exact DI) only [↓PR,QR,simprocAttr]
    refine hst5 _ _ _ fun w6 hM6 hP6=>?_
    refine ⟨(hCC1 w6).2 ⟨(hP6.2.1 pb n1).trans hpb4,(hP6.2.1 p8 (by omega)).trans q84⟩,?_⟩
    obtain ⟨h6,hF6⟩:=h4.putR hM6 hP6
    unfold n24c6
    refine h6.regs.entry m.name fun w7 z7 st7 hP7 hst7=>?_
    refine turnK_intro ?_
    simp (disch:=try exact DI) only [↓PR,QR,simprocAttr]
    refine hst7 _ _ _ fun w8 hM8 hP8=>?_
    refine turnK_intro ?_
    obtain ⟨h8,hF8⟩:=h6.putG hM8 hP8
    have hF48:=hF6.trans hF8
    have q58:=hF48.cells b1 b2 b3 q54 hb5 (by decide)
    have q88:=hF48.cells b1 b2 b3 q84 (by omega) (by decide)
    have h9:=h8.congr (φ':=mapF d.msgs r (fun i=>(routN d.msgs r i:Int)) (i+1)) (ψ':=regF (mapF d.msgs r (cntM d.msgs) i) m.name m.fields 0) (fun s=>(mapF_step hf hm hri s).symm) (fun s=>rfl)
    refine msg_body h9 rfl hM0 hm (toR d.msgs r) (fun s hs=>ref_to1 hf hcl hm hri hs) hF q58 q88 hb5 (by omega) (by omega) fun w' hC' hF'=>?_
    have hF4':=hF48.trans hF'
    simp (disch:=try exact DI) only [↓PR,QR,simprocAttr,hwr]
    refine ⟨⟨i+1,rfl,by omega,?_,⟨_,hF4'.cells b1 b2 b3 q54 hb5 (by decide)⟩,?_⟩,meas_lt (kd := .i64) hlt⟩
    · have hc:codeN (toR d.msgs r) d.msgs r (i+1)=codeN (toR d.msgs r) d.msgs r i++msgC (toR d.msgs r) i m:=by rw [codeN_succ hm,hri,if_pos rfl]
      rw [hc,← List.append_assoc]
      refine hC'.congr (fun s=>rfl) (fun s=>?_)
      rw [mapF_step hf hm hri]
      unfold regF cntM
      rw [hm]
    · obtain ⟨es,cc,he⟩:=hS4.is
      exact hS4.same (hF4'.map b1 b2 b3 he hbg)
 · obtain rfl:i=d.msgs.length:=by omega
   have hdec:decide ((d.msgs.length:Int) < (d.msgs.length:Int))=false:=decide_eq_false (by omega)
   simp (disch:=try exact DI) only [↓PR,QR,simprocAttr,hdec]
   exact hR w1 h1
end
def upI (v n:Int):Int:=(v+n - 1).tdiv n*n
def nextO (f:FieldD) (o:Int):Int:=if f.kind=1∨f.kind=2 then (o+f.bits).tmod 8 else if f.kind=10 then (upI o f.bits).tmod 8 else 0
def endO (l:List FieldD):Int:=l.foldl (fun o f=>nextO f o) 0
def needsB (f:FieldD):Bool:=f.little||!(f.kind == 1||f.kind == 2||f.kind == 10)
theorem endO_snoc (l:List FieldD) (f:FieldD):endO (l++[f])=nextO f (endO l):=by unfold endO;rw [List.foldl_append];rfl
theorem endO_step {l:List FieldD} {k:Nat} {f:FieldD} (h:l[k]?=some f):endO (l.take (k+1))=nextO f (endO (l.take k)):=by rw [take_snoc h,endO_snoc]
def okA (f:FieldD):Prop:=(f.kind=1∨f.kind=2→1≤f.bits∧f.bits≤32)∧(f.kind=10→padB f=true)
theorem padB_bits {f:FieldD} (h:padB f=true):2≤f.bits∧f.bits≤512∧(f.bits=2∨f.bits=4∨∃ q,1≤q∧f.bits=8*q):=by
 unfold padB at h
 simp only [Bool.or_eq_true,Bool.and_eq_true,beq_iff_eq,decide_eq_true_eq] at h
 rcases h with (h | h) | ⟨⟨h1,h2⟩,h3⟩
 · omega
 · omega
 · rw [Int.tmod_eq_emod_of_nonneg (by omega)] at h3
   exact ⟨by omega,h2,.inr (.inr ⟨f.bits / 8,by omega,by omega⟩)⟩
theorem upI_mul {v n:Int} (hv:0≤v) (hn:1≤n):∃ q,0≤q∧upI v n=n*q∧v≤n*q∧n*q < v+n:=by
 unfold upI
 rw [Int.tdiv_eq_ediv_of_nonneg (by omega)]
 have h1:=Int.emod_add_mul_ediv (v+n - 1) n
 have h2:=Int.emod_nonneg (v+n - 1) (b:=n) (by omega)
 have h3:=Int.emod_lt_of_pos (v+n - 1) (b:=n) (by omega)
 refine ⟨(v+n - 1) / n,Int.ediv_nonneg (by omega) (by omega),Int.mul_comm _ _,?_,?_⟩<;>omega
theorem nextO_bounds {f:FieldD} {o:Int} (h:okA f) (h0:0≤o):0≤nextO f o∧nextO f o≤7:=by
 unfold nextO
 split
 · rename_i hk
   have:=h.1 hk
   rw [Int.tmod_eq_emod_of_nonneg (by omega)];omega
 · split
   · rename_i hk
     have hb:=padB_bits (h.2 hk)
     obtain ⟨q,hq,he,h1,h2⟩:=upI_mul h0 (show 1≤f.bits by omega)
     rw [Int.tmod_eq_emod_of_nonneg (by rw [he];omega)];omega
   · omega
theorem endO_bounds {l:List FieldD} (h:∀ f∈l,okA f):0≤endO l∧endO l≤7:=by
 have key:∀ (l:List FieldD) (o:Int),(∀ f∈l,okA f)→0≤o∧o≤7→0≤l.foldl (fun o f=>nextO f o) o∧l.foldl (fun o f=>nextO f o) o≤7:=by
  intro l
  induction l with
  | nil=>exact fun o _ h=>h
  | cons f l ih=>exact fun o hl ho=>ih _ (fun g hg=>hl g (List.mem_cons_of_mem _ hg)) (nextO_bounds (hl f (List.mem_cons_self ..)) ho.1)
 exact key l 0 h (by decide)
theorem fields_all {deps:List (ByteArray×Int)} {strs:List (ByteArray×Bool)}:∀ (l bef:List FieldD),(fieldsP deps strs bef l).2=0→∀ (j:Nat) (f:FieldD),l[j]?=some f→examineC (bef++l.take j) (vI deps) (vB strs) f=0
 | [],bef,_,j,f,hj=>by simp at hj
 | g::l,bef,h,j,f,hj=>by
  rw [fieldsP] at h
  split at h
  · rename_i h0
    cases j with
    | zero =>
     injection hj with hj
     subst hj
     simpa using h0
    | succ j =>
     have:=fields_all l (bef++[g]) h j f (by simpa using hj)
     rw [List.append_assoc] at this
     simpa using this
  · rename_i h0;exact absurd h h0
theorem okA_of {bef:List FieldD} {D S:List (ByteArray×Value)} {f:FieldD} (h:examineC bef D S f=0):okA f:=by
 unfold examineC at h
 obtain ⟨_,h⟩:=orC_iff.1 h
 obtain ⟨_,h⟩:=orC_iff.1 h
 obtain ⟨_,h⟩:=orC_iff.1 h
 obtain ⟨_,h⟩:=orC_iff.1 h
 have hbits:bitsB f=true→1≤f.bits∧f.bits≤32:=by
  unfold bitsB
  simp only [Bool.and_eq_true,decide_eq_true_eq]
  exact fun h=>h.1
 refine ⟨fun hk=>?_,fun hk=>?_⟩
 · rcases hk with hk | hk
   · rw [show checkC bef D S f=orC (needC (bitsB f) 6) (withinC (topF f) 0 [f.low,f.high]) by unfold checkC;rw [hk];rfl] at h
     exact hbits ((needC_iff (by decide)).1 (orC_iff.1 h).1)
   · rw [show checkC bef D S f=orC (needC (bitsB f) 6) (withinC (topF f) 0 [f.low]) by unfold checkC;rw [hk];rfl] at h
     exact hbits ((needC_iff (by decide)).1 (orC_iff.1 h).1)
 · rw [show checkC bef D S f=needC (padB f) 6 by unfold checkC;rw [hk];rfl] at h
   exact (needC_iff (by decide)).1 h
theorem valid_okA {d:DefD} (h:(checkP d).2.2=0) {m:MsgD} (hm:m∈d.msgs):∀ f∈m.fields,okA f:=by
 obtain ⟨_,_,hf,_⟩:=check_fine h
 obtain ⟨k,hk⟩:=List.getElem?_of_mem hm
 intro f hfm
 obtain ⟨j,hj⟩:=List.getElem?_of_mem hfm
 exact okA_of (fields_all _ _ (next_parts (hf.next hk)).2.2.2.1 j f hj)
def atO (l:List FieldD) (i:Int):Int:=if 0≤i∧i≤l.length then endO (l.take i.toNat) else 0
def wrongP (l:List FieldD) (i:Nat):Bool:=match l[i]? with
 | none=>endO l != 0
 | some f=>(endO (l.take i) != 0&&needsB f)||(f.kind == 11&&atO l (idx0 (fun g=>decide (g.name=f.fr)) l) != 0)
def firstW (l:List FieldD):Option Nat:=(List.range (l.length+1)).find? (wrongP l)
def alignM:Nat→List MsgD→Int×Int×Int
 | _,[]=>(0,0,0)
 | k,m::l=>match firstW m.fields with
  | some i=>(k,(if i=m.fields.length then -1 else i),12)
  | none=>alignM (k+1) l
def alignP (d:DefD):Int×Int×Int:=if (checkP d).2.2≠0 then checkP d else alignM 0 d.msgs
def okM (l:List FieldD):Prop:=(∀ f∈l,okA f)∧∀ (i:Nat) (f:FieldD),l[i]?=some f→f.kind=11→((l.take i).any fun o=>decide (o.name=f.fr))=true
theorem checkC_ref {bef:List FieldD} {D S:List (ByteArray×Value)} {f:FieldD} (h:examineC bef D S f=0) (hk:f.kind=11):(bef.any fun o=>decide (o.name=f.fr))=true:=by
 unfold examineC at h
 obtain ⟨_,h⟩:=orC_iff.1 h
 obtain ⟨_,h⟩:=orC_iff.1 h
 obtain ⟨_,h⟩:=orC_iff.1 h
 obtain ⟨_,h⟩:=orC_iff.1 h
 rw [show checkC bef D S f=orC (withinC 3 1 [f.check]) (needC (bef.any fun o=>decide (o.name=f.fr)) 8) by unfold checkC;rw [hk];rfl] at h
 exact (needC_iff (by decide)).1 (orC_iff.1 h).2
theorem valid_okM {d:DefD} (h:(checkP d).2.2=0) {m:MsgD} (hm:m∈d.msgs):okM m.fields∧1≤m.fields.length∧m.fields.length≤40:=by
 refine ⟨⟨valid_okA h hm,fun i f hi hk=>?_⟩,?_⟩<;>obtain ⟨_,_,hf,_⟩:=check_fine h<;>obtain ⟨k,hk'⟩:=List.getElem?_of_mem hm
 · exact checkC_ref (fields_all _ _ (next_parts (hf.next hk')).2.2.2.1 i f hi) hk
 · exact (next_parts (hf.next hk')).2.2.1
theorem firstW_some {l:List FieldD} {i:Nat} (hi:i≤l.length) (hb:∀ j,j < i→wrongP l j=false) (h:wrongP l i=true):firstW l=some i:=by
 unfold firstW
 rw [List.find?_range_eq_some]
 exact ⟨h,by simp;omega,fun j hj=>by simp [hb j hj]⟩
theorem firstW_none {l:List FieldD} (hb:∀ j,j < l.length+1→wrongP l j=false):firstW l=none:=by
 unfold firstW
 rw [List.find?_eq_none]
 intro j hj
 simp [hb j (List.mem_range.1 hj)]
theorem alignM_some {k i:Nat} {m:MsgD} {l:List MsgD} (h:firstW m.fields=some i):alignM k (m::l)=((k:Int),(if i=m.fields.length then (-1:Int) else (i:Int)),(12:Int)):=by rw [alignM,h]
theorem alignM_none {k:Nat} {m:MsgD} {l:List MsgD} (h:firstW m.fields=none):alignM k (m::l)=alignM (k+1) l:=by rw [alignM,h]
theorem checkP_zero {d:DefD} (h:(checkP d).2.2=0):checkP d=(0,0,0):=by
 unfold checkP at *
 by_cases h1:nameB d.name=true
 · rw [if_pos h1] at *
   by_cases h2:1≤d.msgs.length∧d.msgs.length≤60
   · rw [if_pos h2] at *
     unfold endP at *
     by_cases h3:(msgsP [] [] 0 d.msgs).2.2=0
     · rw [if_pos h3] at *
       by_cases h4:(lastP (depsOf d.msgs) d.start).isSome=true
       · rw [if_pos h4]
       · rw [if_neg h4] at h;exact absurd h (by decide)
     · rw [if_neg h3] at h;exact absurd h h3
   · rw [if_neg h2] at h;exact absurd h (by decide)
 · rw [if_neg h1] at h;exact absurd h (by decide)
def flawedA (d:DefD):Bool:=decide ((alignP d).2.2≠0)
theorem alignP_flawed {d:DefD} (h:(checkP d).2.2≠0):alignP d=checkP d:=by unfold alignP;rw [if_pos h]
theorem alignP_valid {d:DefD} (h:(checkP d).2.2=0):alignP d=alignM 0 d.msgs:=by unfold alignP;rw [if_neg (by simp [h])]
theorem up_ret (w0:World) (v n:Int) (hv:0≤v) (hv2:v≤1000000000) (hn:1≤n) (hn2:n≤512):Ret Pg 110 #[.int .i64 v,.int .i64 n] w0 fun r w'=>r = .int .i64 (upI v n)∧Ext w0 w':=by
 obtain ⟨q,hq,he,h1,h2⟩:=upI_mul hv hn
 have hd:(v+n - 1).tdiv n*n=upI v n:=rfl
 have hd0:0≤(v+n - 1).tdiv n∧(v+n - 1).tdiv n≤v+n:=by
  rw [Int.tdiv_eq_ediv_of_nonneg (by omega)]
  exact ⟨Int.ediv_nonneg (by omega) (by omega),Int.le_trans (Int.ediv_le_self _ (by omega)) (by omega)⟩
 have hn0:n≠0:=by omega
 refine n13s (R:=retR _) ?_;unfold n13
 have hb:0≤(v+n - 1).tdiv n*n∧(v+n - 1).tdiv n*n≤v+n:=by rw [hd];omega
 simp (disch:=try exact DI) only [↓PR,QR,simprocAttr,op_quo,wrap_ok,hd]
 exact ⟨by first | trivial | rfl,ee⟩
def KindsA (L:List (Int×Value×Nat)):Prop:=∀ k,Sw.look L k=if k=10 then some (.func (.func 109) #[] #[]) else if k=1∨k=2 then some (.func (.func 108) #[] #[]) else none
theorem kinda_step {w0 w:World} {m c:Nat} {L:List (Int×Value×Nat)} {QP:List PanicEntry→World→Prop} {ku:World→Prop} (hM:MapB w m kindEnc L c) (e:Ext w0 w) (hm:w0.heap.size≤m) (k:Int) (v:Value)
 (h:∀ w' L' c',MapB w' m kindEnc L' c'→(∀ k',Sw.look L' k'=if k'=k then some v else Sw.look L k')→Ext w0 w'→ku w'):opU Pg (Instr.mapUpdate 157 (.map (some m)) (.int .i64 k) v) QP w ku:=by
 rw [op_mapUpdate Tryz.underlying157 (KeyOK.int Tryz.underlying65) hM k v]
 exact h _ _ _ (hM.put k v) (fun k'=>look_put _ _ _ _ _) (e.putObj hm _)
theorem after_ret (w0:World):Ret Pg 87 #[] w0 fun r w'=>∃ m L c,r = .map (some m)∧w0.heap.size≤m∧MapB w' m kindEnc L c∧KindsA L∧Ext w0 w':=by
 refine n7s (R:=retR _) ?_;unfold n7
 simp (disch:=try exact DI) only [↓PR,QR,simprocAttr]
 have hM0:MapB (w0.alloc (.map #[] 0)) w0.heap.size kindEnc [] 0:=MapB.new w0 _
 have e0:Ext w0 (w0.alloc (.map #[] 0)):=ee
 refine kinda_step hM0 e0 (Nat.le_refl _) 1 _ (fun w1 L1 c1 hM1 hl1 e1=>?_)
 simp (disch:=try exact DI) only [↓PR,QR,simprocAttr]
 refine kinda_step hM1 e1 (Nat.le_refl _) 2 _ (fun w2 L2 c2 hM2 hl2 e2=>?_)
 simp (disch:=try exact DI) only [↓PR,QR,simprocAttr]
 refine kinda_step hM2 e2 (Nat.le_refl _) 10 _ (fun w3 L3 c3 hM3 hl3 e3=>?_)
 simp (disch:=try exact DI) only [↓PR,QR,simprocAttr]
 have hn:∀ k,Sw.look ([]:List (Int×Value×Nat)) k=none:=fun _=>rfl
 refine ⟨_,_,_,rfl,Nat.le_refl _,hM3,fun k=>?_,e3⟩
 rw [hl3,hl2,hl1,hn]
 by_cases h10:k=10
 · rw [if_pos h10,if_pos h10]
 · rw [if_neg h10,if_neg h10]
   by_cases h2:k=2
   · rw [if_pos h2,if_pos (.inr h2)]
   · rw [if_neg h2]
     by_cases h1:k=1
     · rw [if_pos h1,if_pos (.inl h1)]
     · rw [if_neg h1,if_neg (by omega)]
theorem Needs_ret (w0:World) (v:Value) (f:FieldD) (hf:FieldVal w0 v f):Ret Pg 89 #[v] w0 fun r w'=>r = .bool (needsB f)∧Ext w0 w':=by
 obtain ⟨tv,cv,rfl,hT,hC⟩:=hf
 have ht1:=SliceOf.oneCell hT
 have hc1:=SliceOf.oneCell hC
 refine n6s (R:=retR _) ?_;unfold n6
 simp (disch:=try exact DI) only [↓PR,QR,simprocAttr]
 generalize hW:World.alloc w0 _=W
 have e0:Ext w0 W:=by rw [← hW];exact ee
 have o1:W.heap[w0.heap.size]?=some (.cells (fieldCells f tv cv).toArray 71 (0,0)):=by rw [← hW];simp (disch:=try exact DI) only [↓PR,QR,simprocAttr]
 clear hW
 refine drawK_intro ?_
 have eD:Ext W W.drew:=(Ext.refl _).wdrew
 unfold n6c2
 simp (disch:=try exact DI) only [↓PR,QR,simprocAttr,(cells_of_heap o1).1]
 refine callK_ret (after_ret _) ?_
 rintro _ w1 ⟨m,L,c,rfl,hm,hM,hK,e1⟩
 have x1:=(eD.trans e1).obj o1
 have E1:=e0.trans (eD.trans e1)
 refine narrowK_KM e1 hM ?_
 haveI:ClassNe (KM W.drew m kindEnc L c):=⟨⟨w1,e1,hM⟩⟩
 unfold n6c1
 simp only [drew_wdrew]
 rw [qV_lookupKM Tryz.underlying157 (KeyOK.int Tryz.underlying65) ty155 ⟨w1,e1,hM⟩]
 rw [hK]
 unfold needsB
 by_cases h10:f.kind=10
 · rw [if_pos h10]
   simp (disch:=try exact DI) only [↓PR,QR,simprocAttr,(cells_of_heap x1).1]
   exact ⟨by simp [h10],E1⟩
 · rw [if_neg h10]
   by_cases h12:f.kind=1∨f.kind=2
   · rw [if_pos h12]
     simp (disch:=try exact DI) only [↓PR,QR,simprocAttr,(cells_of_heap x1).1]
     refine ⟨?_,E1⟩
     rcases h12 with h | h<;>simp [h]
   · rw [if_neg h12]
     simp (disch:=try exact DI) only [↓PR,QR,simprocAttr]
     refine ⟨?_,E1⟩
     have h1:f.kind≠1:=fun h=>h12 (.inl h)
     have h2:f.kind≠2:=fun h=>h12 (.inr h)
     simp [h1,h2,h10]
def EFieldW (_:World) (cs:List Value) (f:FieldD):Prop:=∃ tv cv,cs=fieldCells f tv cv∧tv.oneCell'=true∧cv.oneCell'=true
theorem keptFieldW:Kept EFieldW:=fun _ _ _ _ _ h=>h
def FieldsW (w:World) (v:Value) (l:List FieldD):Prop:=SliceOf w 15 EFieldW v l
theorem FieldsW.ext {w w':World} {v:Value} {l:List FieldD} (h:FieldsW w v l) (e:Ext w w'):FieldsW w' v l:=SliceOf.ext keptFieldW h e
theorem EField.weak {w w':World} {cs:List Value} {f:FieldD} (h:EField w cs f):EFieldW w' cs f:=by
 obtain ⟨tv,cv,h1,_,_,h4,h5⟩:=h.op
 exact ⟨tv,cv,h1,h4,h5⟩
theorem FieldsOf.weak {w:World} {v:Value} {l:List FieldD} (h:FieldsOf w v l):FieldsW w v l:=by
 obtain ⟨A,c,h1,h2,h3,h4⟩:=h
 refine ⟨A,c,h1,h2,h3,fun hn=>?_⟩
 obtain ⟨b,o,h5,h6⟩:=h4 hn
 refine ⟨b,o,h5,fun k x hx=>?_⟩
 obtain ⟨cs,h7,h8,h9⟩:=h6 k x hx
 exact ⟨cs,h7,h8,EField.weak h9⟩
def OffAt (pb:Nat) (v:Value) (l:List FieldD) (w:World):Prop:=w.heap[pb]?=some (.cells #[v] 51 (0,0))∧FieldsW w v l
theorem OffAt.ext {pb:Nat} {v:Value} {l:List FieldD} {w w':World} (h:OffAt pb v l w) (e:Ext w w'):OffAt pb v l w':=⟨e.obj h.1,h.2.ext e⟩
theorem offsets_ret (w0:World) (v:Value) (l:List FieldD) (hF:FieldsW w0 v l):Ret Pg 72 #[v] w0 fun r w'=>∃ pb,r = .func (.func 86) #[] #[.pointer (some ⟨pb,0,none⟩)]∧OffAt pb v l w'∧w0.heap.size≤pb∧pb < w'.heap.size∧Ext w0 w':=by
 obtain ⟨A,c,rfl,hlc,hcm,hlm,hel⟩:=SliceOf.open hF
 refine n11s (R:=retR _) ?_;unfold n11
 simp (disch:=try exact DI) only [↓PR,QR,simprocAttr]
 exact ⟨_,rfl,⟨heap_new _ _ _,hF.ext ee⟩,Nat.le_refl _,by simp,ee⟩
theorem alnum_ret (w0:World) (tv cv:Value) (ht1:tv.oneCell'=true) (hc1:cv.oneCell'=true) (f:FieldD) (o:Int) (hk:f.kind=1∨f.kind=2) (hok:okA f) (h0:0≤o∧o≤7):Ret Pg 108 #[.agg (fieldCells f tv cv).toArray,.int .i64 o] w0 fun r w'=>r = .int .i64 (o+f.bits)∧Ext w0 w':=by
 have hb:=hok.1 hk
 refine n8s (R:=retR _) ?_;unfold n8
 simp (disch:=try exact DI) only [↓PR,QR,simprocAttr,Sw.joinK_eq,wrap_ok]
 exact ⟨by first | trivial | rfl,ee⟩
theorem alpad_ret (w0:World) (tv cv:Value) (ht1:tv.oneCell'=true) (hc1:cv.oneCell'=true) (f:FieldD) (o:Int) (hk:f.kind=10) (hok:okA f) (h0:0≤o∧o≤7):Ret Pg 109 #[.agg (fieldCells f tv cv).toArray,.int .i64 o] w0 fun r w'=>r = .int .i64 (upI o f.bits)∧Ext w0 w':=by
 have hb:=padB_bits (hok.2 hk)
 refine n9s (R:=retR _) ?_;unfold n9
 simp (disch:=try exact DI) only [↓PR,QR,simprocAttr,Sw.joinK_eq]
 refine zcr (up_ret _ o f.bits (by omega) (by omega) (by omega) (by omega)) fun w1 e1=>?_
 have s1:=e1.size
 try simp only [World.size_alloc,World.size_setCell,World.size_drew,World.putObj_size,Sw.putW_size] at s1
 simp (disch:=try exact DI) only [↓PR,QR,simprocAttr]
 exact ⟨by first | trivial | rfl,ee⟩
theorem ElemAt.of_heap {w:World} {b:Nat} {cs:List Value} {T:TypeId} (h:w.heap[b]?=some (.cells cs.toArray T (0,0))):ElemAt w b 0 cs:=fun j v hv=>by
 rw [Nat.zero_add,(cells_of_heap h).1];simpa using hv
theorem offsets_seq (pb:Nat) (v:Value) (l:List FieldD) (hok:∀ f∈l,okA f) :
 SeqIt2 Pg 86 #[.pointer (some ⟨pb,0,none⟩)] (l.length+1) (fun k => .int .i64 k) (fun k => .int .i64 (endO (l.take k))) (OffAt pb v l):=by
 intro yv J Jx Jp w hy hFP hJl hJx hJp hstep h0
 obtain ⟨ho,hF⟩:=hFP 0 w h0
 obtain ⟨A,c,rfl,hlc,hcm,hlm,_⟩:=SliceOf.open hF
 refine n12s (t0:=yv) (t1 := .pointer (some ⟨pb,0,none⟩)) ?_
 unfold n12
 simp (disch:=try exact DI) only [↓PR,QR,simprocAttr,(cells_of_heap ho).1]
 refine loop2_intro (fun o i w'=>∃ k:Nat,o = .int .i64 (endO (l.take k))∧i = .int .i64 k∧k≤l.length∧J k w'∧w.heap.size≤w'.heap.size) (fun _ i _=>l.length - (intOf i).toNat) ⟨0,rfl,rfl,by omega,h0,Nat.le_refl _⟩ ?_
 rintro _ _ w' ⟨k,rfl,rfl,hk,hJ,hsz⟩
 obtain ⟨ho',hF'⟩:=hFP k w' hJ
 have hB:=endO_bounds (l:=l.take k) fun f hf=>hok f (List.mem_of_mem_take hf)
 rcases drop_cases hk with ⟨x,hx,hd,hlt,hdec⟩ | ⟨hk,hd,hdec⟩
 · obtain ⟨A',c',hv,_,_,_,hel⟩:=SliceOf.open hF'
   injection hv with hv1 _ hv2
   subst hv1 hv2
   obtain ⟨b,o,cs,rfl,hl,hA,tv,cv,rfl,ht1,hc1⟩:=hel k x hx
   have hokx:=hok x (List.mem_of_getElem? hx)
   simp (disch:=try exact DI) only [↓PR,QR,simprocAttr,hdec]
   unfold n12c5
   try unfold X0
   try unfold L0
   rw [op_indexN Tryz.underlying51 ty71 _ _ _ _ _ k hlt,op_load (hA.loads ty71 rfl)]
   simp (disch:=try exact DI) only [↓PR,QR,simprocAttr]
   have eW:Ext w' (w'.alloc (.cells (fieldCells x tv cv).toArray 71)):=ee
   have oW:=heap_new w' (fieldCells x tv cv).toArray 71
   generalize (w'.alloc (.cells (fieldCells x tv cv).toArray 71))=W at eW oW ⊢
   have hs:=hstep k (by omega) (fun u=>u.heap[w'.heap.size]?=some (.cells (fieldCells x tv cv).toArray 71 (0,0))∧w.heap.size≤u.heap.size) ((Firm.has hsz (by simp)).and (fun u u' h hh=>Nat.le_trans hh h.1)) W ((hJl k).ext hJ eW) ⟨oW,Nat.le_trans hsz eW.size⟩
   refine callV_mono hs (fun ch w h=>h.2) ?_
   rintro v w2 ⟨⟨o2,hs2⟩,⟨rfl,h2⟩ | ⟨rfl,h2⟩⟩
   · simp (disch:=try exact DI) only [↓PR,QR,simprocAttr]
     refine drawK_intro ?_
     have eD:Ext w2 w2.drew:=(Ext.refl _).wdrew
     unfold n12c3
     simp (disch:=try exact DI) only [↓PR,QR,simprocAttr,(cells_of_heap o2).1]
     refine callK_ret (after_ret _) ?_
     rintro _ w3 ⟨m,L,cc,rfl,hm,hM,hK,e3⟩
     have e23:=eD.trans e3
     have hE3:ElemAt w3 w'.heap.size 0 (fieldCells x tv cv):=ElemAt.of_heap (e23.obj o2)
     refine narrowK_KM e3 hM ?_
     haveI:ClassNe (KM w2.drew m kindEnc L cc):=⟨⟨w3,e3,hM⟩⟩
     unfold n12c2
     simp only [drew_wdrew]
     rw [qV_lookupKM Tryz.underlying157 (KeyOK.int Tryz.underlying65) ty155 ⟨w3,e3,hM⟩]
     rw [hK]
     have hend:=endO_step hx
     have fin:∀ w4 z,Ext w2 w4→z=nextO x (endO (l.take k))→(∃ k':Nat,Value.int .i64 z = .int .i64 (endO (l.take k'))∧Value.int .i64 ((k+1:Nat):Int) = .int .i64 k'∧k'≤l.length∧J k' w4∧w.heap.size≤w4.heap.size)∧l.length - (intOf (Value.int .i64 ((k+1:Nat):Int))).toNat < l.length - (intOf (Value.int .i64 (k:Int))).toNat:=by
      rintro w4 z e4 rfl
      exact ⟨⟨k+1,by rw [hend],rfl,by omega,(hJl _).ext h2 e4,Nat.le_trans hs2 e4.size⟩,meas_lt (kd := .i64) hlt⟩
     by_cases h10:x.kind=10
     · rw [if_pos h10]
       simp (disch:=try exact DI) only [↓PR,QR,simprocAttr]
       unfold n12c1
       try unfold L0
       rw [op_load (hE3.loads ty71 rfl),callV_func c109]
       refine zcr (alpad_ret _ _ _ ht1 hc1 x _ h10 hokx hB) fun w4 e4=>?_
       simp (disch:=try exact DI) only [↓PR,QR,simprocAttr]
       exact fin _ _ (e23.trans e4) (by unfold nextO;rw [if_neg (by omega),if_pos h10])
     · rw [if_neg h10]
       by_cases h12:x.kind=1∨x.kind=2
       · rw [if_pos h12]
         simp (disch:=try exact DI) only [↓PR,QR,simprocAttr]
         unfold n12c1
         try unfold L0
         rw [op_load (hE3.loads ty71 rfl),callV_func c108]
         refine zcr (alnum_ret _ _ _ ht1 hc1 x _ h12 hokx hB) fun w4 e4=>?_
         simp (disch:=try exact DI) only [↓PR,QR,simprocAttr]
         exact fin _ _ (e23.trans e4) (by unfold nextO;rw [if_pos h12])
       · rw [if_neg h12]
         simp (disch:=try exact DI) only [↓PR,QR,simprocAttr]
         exact fin _ _ e23 (by unfold nextO;rw [if_neg h12,if_neg h10])
   · simp (disch:=try exact DI) only [↓PR,QR,simprocAttr]
     exact .inr h2
 · subst hk
   simp (disch:=try exact DI) only [↓PR,QR,simprocAttr,↓n12c1,↓n12c2,↓n12c3,↓n12c4,↓n12c5,hdec,(cells_of_heap ho').1]
   have hs:=hstep l.length (by omega) _ Firm.true _ hJ trivial
   refine callV_mono hs (fun ch w h=>h.2) ?_
   rintro v w2 ⟨_,⟨rfl,h2⟩ | ⟨rfl,h2⟩⟩
   · simp (disch:=try exact DI) only [↓PR,QR,simprocAttr,↓n12c1,↓n12c2,↓n12c3,↓n12c4,↓n12c5]
     exact .inl h2
   · simp (disch:=try exact DI) only [↓PR,QR,simprocAttr,↓n12c1,↓n12c2,↓n12c3,↓n12c4,↓n12c5]
     exact .inr h2
theorem atO_hit {l:List FieldD} {i:Int} {j:Nat} (hj:j < l.length+1) (h:(j:Int)=i):atO l i=endO (l.take j):=by
 unfold atO;rw [if_pos (by omega),← h,Int.toNat_natCast]
theorem at_ret (w0:World) (v:Value) (l:List FieldD) (i:Int) (hF:FieldsOf w0 v l) (hok:∀ f∈l,okA f):Ret Pg 92 #[v,.int .i64 i] w0 fun r w'=>r = .int .i64 (atO l i)∧Ext w0 w':=by
 have hv1:=SliceOf.oneCell hF
 refine n10s (R:=retR _) ?_;unfold n10
 simp (disch:=try exact DI) only [↓PR,QR,simprocAttr]
 simp only [World.size_alloc]
 generalize hW:World.alloc (World.alloc w0 _) _=W
 have e0:Ext w0 W:=by rw [← hW];exact ee
 have o3:W.heap[w0.heap.size]?=some (.cells #[.int .i64 i] 3 (0,0)):=by rw [← hW];simp (disch:=try exact DI) only [↓PR,QR,simprocAttr]
 have o4:W.heap[w0.heap.size+1]?=some (.cells #[.int .i64 0] 3 (0,0)):=by rw [← hW];simp (disch:=try exact DI) only [↓PR,QR,simprocAttr]
 have hsz:W.heap.size=w0.heap.size+1+1:=by rw [← hW];simp only [World.size_alloc]
 clear hW
 refine callK_ret (offsets_ret _ _ l (hF.ext e0).weak) ?_
 rintro _ w1 ⟨pb,rfl,hO,hpb,hpb2,e1⟩
 have s1:=e1.size
 have E1:=e0.trans e1
 unfold n10c2
 let I:Nat→World→Prop:=fun k w'=>Ext w1 w'∧∀ j:Nat,j < k→(j:Int)≠i
 let Ix:Nat→World→Prop:=fun c w'=>c=0∧Ext w0 w'∧w'.heap[w0.heap.size+1]?=some (.cells #[.int .i64 (atO l i)] 3 (0,0))
 have hLI:∀ k,Lasts2 w1.heap.size (I k):=fun k=>(Lasts2.from (Nat.le_refl _)).and (Lasts2.const _ _)
 have hLX:∀ c,Lasts2 w1.heap.size (Ix c):=fun c=>(Lasts2.const _ _).and ((Lasts2.from (by omega)).and (Lasts2.has _ (by simp) (by simp)))
 refine ⟨_,_,l.length+1,(fun k => .int .i64 k),(fun k => .int .i64 (endO (l.take k))),OffAt pb v l,I,Ix,fun _ _=>False,rfl,c86,offsets_seq pb v l hok,⟨Ext.refl _,fun j h=>by omega⟩,fun k w h=>hO.ext h.1,hLI,hLX,fun _=>Lasts2.const _ _,?_,?_,?_,?_⟩
 · intro Rk hRk j w3 hj hI3 hR3 hlt hready
   refine ⟨hready,fun w4 hbz=>?_⟩
   have hR4:=hRk _ _ (KR.busied hbz) hR3
   obtain ⟨e4,hne⟩:=(hLI j).busied hbz (Nat.le_succ _) hI3
   have x3:=(e1.trans e4).obj o3
   have x4:=(e1.trans e4).obj o4
   unfold n10c1
   by_cases h:(j:Int)=i
   · have hd:((j:Int) == i)=true:=by simpa using h
     simp (disch:=try exact DI) only [↓PR,QR,simprocAttr,(cells_of_heap x3).1,hd,(cells_of_heap x4).1,(cells_of_heap x4).2]
     refine ⟨hRk _ _ (KR.setCell (KR.refl _ _) _ _ _ (.inl (by omega))) hR4,rfl,(E1.trans e4).setCell (by show w0.heap.size≤w0.heap.size+1;omega) _,?_⟩
     have:=heap_set (o:=0) x4 (.int .i64 (endO (l.take j)))
     rw [atO_hit hj h]
     simpa using this
   · have hd:((j:Int) == i)=false:=by simpa using h
     simp (disch:=try exact DI) only [↓PR,QR,simprocAttr,(cells_of_heap x3).1,hd]
     refine ⟨hR4,e4,fun j' h'=>?_⟩
     by_cases hjj:j'=j
     · rw [hjj];exact h
     · exact hne j' (by omega)
 · rintro w3 ⟨e3,hne⟩ hmk
   have x4:=(e1.trans e3).obj o4
   simp (disch:=try exact DI) only [↓PR,QR,simprocAttr,(cells_of_heap x4).1,(cells_of_heap x4).2]
   refine outX_mark (hmk.setCell _ _) ?_
   have y4:=heap_set (o:=0) x4 (.int .i64 0)
   have hz:atO l i=0:=by
    unfold atO
    split
    · rename_i h
      exact absurd (show ((i.toNat:Nat):Int)=i by omega) (hne i.toNat (by omega))
    · rfl
   rw [hz]
   have z4:((w3.setCell ⟨w0.heap.size+1,0,none⟩ (.int .i64 0)).putObj w1.heap.size (.deferred none)).heap[w0.heap.size+1]?=_:=(World.putObj_heap_other (by omega)).trans y4
   simp (disch:=try exact DI) only [↓PR,QR,simprocAttr,outX_nil,retV,resOne,(cells_of_heap z4).1]
   exact ⟨trivial,((E1.trans e3).setCell (by show w0.heap.size≤w0.heap.size+1;omega) _).putObj E1.size _⟩
 · rintro c w3 ⟨rfl,e3,x4⟩ hmk
   show outX _ _ _ _ _
   refine outX_mark hmk ?_
   have z4:(w3.putObj w1.heap.size (.deferred none)).heap[w0.heap.size+1]?=_:=(World.putObj_heap_other (by omega)).trans x4
   simp (disch:=try exact DI) only [↓PR,QR,simprocAttr,outX_nil,retV,resOne,(cells_of_heap z4).1]
   exact ⟨trivial,e3.putObj E1.size _⟩
 · rintro ch w3 h
   exact h.elim
section
variable {w0:World} {p3 p5 p7:Nat} {o:Int} {f:FieldD} {tv cv v:Value} {l:List FieldD}
theorem wrong1_ret (h5:w0.heap[p5]?=some (.cells #[.int .i64 o] 3 (0,0))) (h7:w0.heap[p7]?=some (.cells (fieldCells f tv cv).toArray 71 (0,0))) (hT:TermsOf w0 tv f.terms) (hC:CasesOf w0 cv f.cases) :
 Ret Pg 88 #[.pointer (some ⟨p5,0,none⟩),.pointer (some ⟨p7,0,none⟩)] w0 fun r w'=>r = .bool (o == 0||!needsB f)∧Ext w0 w':=by
 have ht1:=SliceOf.oneCell hT
 have hc1:=SliceOf.oneCell hC
 refine n15s (R:=retR _) ?_;unfold n15
 cases ho:(o == 0) with
 | true =>
  simp (disch:=try exact DI) only [↓PR,QR,simprocAttr,(cells_of_heap h5).1,ho]
  exact ⟨by simp,Ext.refl _⟩
 | false =>
  simp (disch:=try exact DI) only [↓PR,QR,simprocAttr,(cells_of_heap h5).1,(cells_of_heap h7).1,ho]
  refine zcr (Needs_ret _ _ f ⟨tv,cv,rfl,hT,hC⟩) fun w1 e1=>?_
  simp (disch:=try exact DI) only [↓PR,QR,simprocAttr,ho]
  exact ⟨by simp,e1⟩
theorem wrong2_ret (h3:w0.heap[p3]?=some (.cells #[v] 51 (0,0))) (hF:FieldsOf w0 v l) (hok:∀ g∈l,okA g) (h7:w0.heap[p7]?=some (.cells (fieldCells f tv cv).toArray 71 (0,0))) :
 Ret Pg 90 #[.pointer (some ⟨p3,0,none⟩),.pointer (some ⟨p7,0,none⟩)] w0 fun r w'=>r = .bool (f.kind != 11||atO l (idx0 (fun g=>decide (g.name=f.fr)) l) == 0)∧Ext w0 w':=by
 have hv1:=SliceOf.oneCell hF
 refine n16s (R:=retR _) ?_;unfold n16
 simp (disch:=try exact DI) only [↓PR,QR,simprocAttr,(cells_of_heap h3).1,(cells_of_heap h7).1]
 refine zcr (Field_ret w0 _ ⟨ByteArray.empty,l⟩ f.fr ⟨v,rfl,hF⟩) fun w1 e1=>?_
 unfold n16c1
 cases hk:(f.kind != 11) with
 | true =>
  simp (disch:=try exact DI) only [↓PR,QR,simprocAttr,(cells_of_heap (e1.obj h7)).1,hk]
  exact ⟨by simp,e1⟩
 | false =>
  simp (disch:=try exact DI) only [↓PR,QR,simprocAttr,(cells_of_heap (e1.obj h7)).1,(cells_of_heap (e1.obj h3)).1,hk]
  refine zcr (at_ret _ _ l _ (hF.ext e1) hok) fun w2 e2=>?_
  simp (disch:=try exact DI) only [↓PR,QR,simprocAttr,hk]
  exact ⟨by simp,e1.trans e2⟩
end
theorem wrong3_ret (w0:World) (g:FuncId) (caps:Array Value) (hg:Callable Pg g) (b:Bool) (h:Ret Pg g caps w0 fun r w'=>r = .bool b∧Ext w0 w'):Ret Pg 94 #[.func (.func g) #[] caps] w0 fun r w'=>r = .bool (!b)∧Ext w0 w':=by
 refine n17s (R:=retR _) ?_;unfold n17
 rw [callV_func hg]
 simp only [Array.empty_append,Array.append_empty]
 refine callK_ret h ?_
 rintro _ w1 ⟨rfl,e1⟩
 simp (disch:=try exact DI) only [↓PR,QR,simprocAttr]
 exact ⟨by trivial,e1⟩
theorem conds_idx (w0:World) (b:Nat) (g0 g1:FuncId) (c0 c1:Array Value) (hg0:Callable Pg g0) (hg1:Callable Pg g1) (hb:w0.heap[b]?=some (.cells #[.func (.func g0) #[] c0,.func (.func g1) #[] c1] 161 (0,0))) (p0 p1:Bool)
 (h0:∀ w,Ext w0 w→Ret Pg g0 c0 w fun r w'=>r = .bool p0∧Ext w w') (h1:∀ w,Ext w0 w→Ret Pg g1 c1 w fun r w'=>r = .bool p1∧Ext w w') :
 Ret Pg 93 #[.slice (some ⟨b,0,none⟩) 2 2,.func (.func 94) #[] #[]] w0 fun r w'=>r = .bool (!p0||!p1)∧Ext w0 w':=by
 refine n126s (R:=retR _) ?_;unfold n126
 have key:Ret Pg 113 #[.slice (some ⟨b,0,none⟩) 2 2,.func (.func 94) #[] #[]] w0 fun r w'=>r = .int .i64 (if p0 then (if p1 then -1 else 1) else 0)∧Ext w0 w':=by
  refine n135s (R:=retR _) ?_;unfold n135
  simp (disch:=try exact DI) only [↓PR,QR,Int.reduceBEq,Int.reduceBNe,Int.reduceLT,Int.reduceLE,Int.reduceGT,Int.reduceGE,Int.reduceNeg]
  refine loop1_intro (fun i w=>∃ k:Nat,i = .int .i64 k∧k≤2∧Ext w0 w∧(0 < k→p0=true)∧(1 < k→p1=true)) (fun i _=>2 - (intOf i).toNat) ⟨0,rfl,by omega,Ext.refl _,by omega,by omega⟩ ?_
  rintro _ w ⟨k,rfl,hk,e,hp0,hp1⟩
  have o:=e.obj hb
  have hk':k=0∨k=1∨k=2:=by omega
  rcases hk' with rfl | rfl | rfl
  · have d:decide (((0:Nat):Int) < ((2:Nat):Int))=true:=rfl
    simp (disch:=try exact DI) only [↓PR,QR,Int.reduceBEq,Int.reduceBNe,Int.reduceLT,Int.reduceLE,Int.reduceGT,Int.reduceGE,Int.reduceNeg,d]
    unfold n135c1
    simp (disch:=try exact DI) only [↓PR,QR,Int.reduceBEq,Int.reduceBNe,Int.reduceLT,Int.reduceLE,Int.reduceGT,Int.reduceGE,Int.reduceNeg,(cells_of_heap o).1,Nat.mul_one]
    rw [callV_func c94]
    refine zcr (wrong3_ret _ g0 c0 hg0 p0 (h0 w e)) fun w1 e1=>?_
    cases p0 with
    | true =>
     simp (disch:=try exact DI) only [↓PR,QR,Int.reduceBEq,Int.reduceBNe,Int.reduceLT,Int.reduceLE,Int.reduceGT,Int.reduceGE,Int.reduceNeg]
     exact ⟨⟨1,rfl,by omega,e.trans e1,fun _=>by trivial,by omega⟩,by decide⟩
    | false =>
     simp (disch:=try exact DI) only [↓PR,QR,Int.reduceBEq,Int.reduceBNe,Int.reduceLT,Int.reduceLE,Int.reduceGT,Int.reduceGE,Int.reduceNeg]
     exact ⟨rfl,e.trans e1⟩
  · have d:decide (((1:Nat):Int) < ((2:Nat):Int))=true:=rfl
    simp (disch:=try exact DI) only [↓PR,QR,Int.reduceBEq,Int.reduceBNe,Int.reduceLT,Int.reduceLE,Int.reduceGT,Int.reduceGE,Int.reduceNeg,d]
    unfold n135c1
    simp (disch:=try exact DI) only [↓PR,QR,Int.reduceBEq,Int.reduceBNe,Int.reduceLT,Int.reduceLE,Int.reduceGT,Int.reduceGE,Int.reduceNeg,(cells_of_heap o).1,Nat.mul_one]
    rw [callV_func c94]
    refine zcr (wrong3_ret _ g1 c1 hg1 p1 (h1 w e)) fun w1 e1=>?_
    rw [hp0 (by omega)]
    cases p1 with
    | true =>
     simp (disch:=try exact DI) only [↓PR,QR,Int.reduceBEq,Int.reduceBNe,Int.reduceLT,Int.reduceLE,Int.reduceGT,Int.reduceGE,Int.reduceNeg]
     exact ⟨⟨2,rfl,by omega,e.trans e1,fun _=>by trivial,fun _=>by trivial⟩,by decide⟩
    | false =>
     simp (disch:=try exact DI) only [↓PR,QR,Int.reduceBEq,Int.reduceBNe,Int.reduceLT,Int.reduceLE,Int.reduceGT,Int.reduceGE,Int.reduceNeg]
     exact ⟨rfl,e.trans e1⟩
  · have d:decide (((2:Nat):Int) < ((2:Nat):Int))=false:=rfl
    simp (disch:=try exact DI) only [↓PR,QR,Int.reduceBEq,Int.reduceBNe,Int.reduceLT,Int.reduceLE,Int.reduceGT,Int.reduceGE,Int.reduceNeg,d]
    rw [hp0 (by omega),hp1 (by omega)]
    exact ⟨rfl,e⟩
 refine callK_ret key ?_
 rintro _ w1 ⟨rfl,e1⟩
 simp (disch:=try exact DI) only [↓PR,QR,Int.reduceBEq,Int.reduceBNe,Int.reduceLT,Int.reduceLE,Int.reduceGT,Int.reduceGE,Int.reduceNeg]
 refine ⟨?_,e1⟩
 cases p0<;>cases p1<;>rfl
section
variable {P:Program} {QP:List PanicEntry→World→Prop} {w:World} {k:Value→World→Prop}
theorem op_buildA {T e len s n m m':Nat} {agg:Bool} {z cs:Array Value} {z':Value} {parts:Array (Nat×Value)} (hu:P.underlying T=some (.array len e)) (hz:TyInfo P T true n m (.agg z)) (he:TyInfo P e agg s m' z') (hf:Instr.fill (fun i=>some (i*s,s)) z parts.toList=some cs):opV P (Instr.build T parts) QP w k=k (.agg cs) w:=by
 have hsz:=Sw.run_sizeOf (w:=w) he
 obtain ⟨⟨i,hi,_,_,hzz⟩,_⟩:=hz
 refine opV_ok ?_
 unfold Instr.build
 have hz0:(zeroValue T).run P w = .ok (.agg z) w:=by simp [zeroValue,typeInfo,hi,hzz]
 simp only [Sem.run_bind,hz0,Result.andThen_ok,run_underlying hu,hsz]
 have:(Value.agg z).cells=z:=rfl
 rw [this,hf]
 rfl
theorem op_sliceA {T e len s m:Nat} {agg:Bool} {z:Value} (hu:P.underlying T=some (.array len e)) (he:TyInfo P e agg s m z) (hl:len≠0) (b o:Nat):opV P (Instr.sliceAt T (.pointer (some ⟨b,o,none⟩)) none none none) QP w k=k (.slice (some ⟨b,o,none⟩) len len) w:=by
 refine opV_ok ?_
 have ha:(Instr.sureAddr (.pointer (some ⟨b,o,none⟩))).run P w = .ok ⟨b,o,none⟩ w:=rfl
 simp [Instr.sliceAt,run_underlying hu,Instr.sliceBounds,run_sliceBound,Sw.run_sizeOf he,Addr.add_lit,ha,hl]
theorem op_conds {QP:List PanicEntry→World→Prop} {w:World} {k:Value→World→Prop} (F G:Fn) (a b:Array Value):opV Pg (Instr.build 161 #[(0,.func F #[] a),(1,.func G #[] b)]) QP w k=k (.agg #[.func F #[] a,.func G #[] b]) w:=op_buildA Tryz.underlying161 ty161 ty26 rfl
end
theorem wrong_ret (w0:World) (v:Value) (l:List FieldD) (i:Nat) (hi:i≤l.length) (hF:FieldsOf w0 v l) (hok:∀ f∈l,okA f):Ret Pg 73 #[v,.int .i64 i,.int .i64 (endO (l.take i))] w0 fun r w'=>r = .bool (wrongP l i)∧Ext w0 w':=by
 have hv1:=SliceOf.oneCell hF
 obtain ⟨A,c,rfl,hlc,hcm,hlm,hel⟩:=SliceOf.open hF
 refine n14s (R:=retR _) ?_;unfold n14
 simp (disch:=try exact DI) only [↓PR,QR,simprocAttr]
 simp only [World.size_alloc]
 generalize hW:World.alloc (World.alloc w0 _) _=W
 have e0:Ext w0 W:=by rw [← hW];exact ee
 have o3:W.heap[w0.heap.size]?=some (.cells #[.slice A l.length c] 51 (0,0)):=by rw [← hW];simp (disch:=try exact DI) only [↓PR,QR,simprocAttr]
 have o5:W.heap[w0.heap.size+1]?=some (.cells #[.int .i64 (endO (l.take i))] 3 (0,0)):=by rw [← hW];simp (disch:=try exact DI) only [↓PR,QR,simprocAttr]
 clear hW
 unfold wrongP
 by_cases h:i=l.length
 · subst h
   have hd:((l.length:Int) == (l.length:Int))=true:=by simp
   simp (disch:=try exact DI) only [↓PR,QR,simprocAttr,hd,(cells_of_heap o5).1]
   exact ⟨by simp,e0⟩
 · have hd:((i:Int) == (l.length:Int))=false:=by simp;omega
   have hlt:i < l.length:=by omega
   obtain ⟨x,hx⟩:=getElem?_lt hlt
   obtain ⟨b,o,cs,rfl,hl,hA,hE⟩:=hel i x hx
   obtain ⟨tv,cv,rfl,hT,hC,ht1,hc1⟩:=hE.op
   simp (disch:=try exact DI) only [↓PR,QR,simprocAttr,hd]
   unfold n14c1
   simp (disch:=try exact DI) only [↓PR,QR,simprocAttr,(cells_of_heap o3).1,hA.c15 e0]
   rw [op_conds]
   simp (disch:=try exact DI) only [↓PR,QR,simprocAttr]
   rw [op_sliceA Tryz.underlying161 ty26 (by decide)]
   have eX:Ext W (W.alloc (.cells (fieldCells x tv cv).toArray 71)):=ee
   have oX:=heap_new W (fieldCells x tv cv).toArray 71
   have sX:(W.alloc (.cells (fieldCells x tv cv).toArray 71)).heap.size=W.heap.size+1:=by simp only [World.size_alloc]
   generalize (W.alloc (.cells (fieldCells x tv cv).toArray 71))=X at eX oX sX ⊢
   have eY:Ext X (X.alloc (.cells #[.func (.func 88) #[] #[.pointer (some ⟨w0.heap.size+1,0,none⟩),.pointer (some ⟨W.heap.size,0,none⟩)],.func (.func 90) #[] #[.pointer (some ⟨w0.heap.size,0,none⟩),.pointer (some ⟨W.heap.size,0,none⟩)]] 161)):=ee
   have oY:=heap_new X #[.func (.func 88) #[] #[.pointer (some ⟨w0.heap.size+1,0,none⟩),.pointer (some ⟨W.heap.size,0,none⟩)],.func (.func 90) #[] #[.pointer (some ⟨w0.heap.size,0,none⟩),.pointer (some ⟨W.heap.size,0,none⟩)]] 161
   generalize (X.alloc (.cells #[.func (.func 88) #[] #[.pointer (some ⟨w0.heap.size+1,0,none⟩),.pointer (some ⟨W.heap.size,0,none⟩)],.func (.func 90) #[] #[.pointer (some ⟨w0.heap.size,0,none⟩),.pointer (some ⟨W.heap.size,0,none⟩)]] 161))=Y at eY oY ⊢
   have eWY:=eX.trans eY
   have r1:∀ w,Ext Y w→Ret Pg 88 #[.pointer (some ⟨w0.heap.size+1,0,none⟩),.pointer (some ⟨W.heap.size,0,none⟩)] w fun r w'=>r = .bool (endO (l.take i) == 0||!needsB x)∧Ext w w':=fun w e=>wrong1_ret ((eWY.trans e).obj o5) ((eY.trans e).obj oX) (hT.ext (e0.trans (eWY.trans e))) (hC.ext (e0.trans (eWY.trans e)))
   have r2:∀ w,Ext Y w→Ret Pg 90 #[.pointer (some ⟨w0.heap.size,0,none⟩),.pointer (some ⟨W.heap.size,0,none⟩)] w fun r w'=>r = .bool (x.kind != 11||atO l (idx0 (fun g=>decide (g.name=x.fr)) l) == 0)∧Ext w w':=fun w e=>wrong2_ret ((eWY.trans e).obj o3) (hF.ext (e0.trans (eWY.trans e))) hok ((eY.trans e).obj oX)
   have r3:=conds_idx Y X.heap.size _ _ _ _ c88 c90 oY _ _ r1 r2
   clear r1 r2
   rw [sX] at r3
   refine callK_ret r3 ?_
   rintro _ w2 ⟨rfl,e2⟩
   refine ⟨_,rfl,?_,e0.trans (eWY.trans e2)⟩
   rw [hx]
   simp only [bne]
   generalize (endO (l.take i) == 0)=b1
   generalize (x.kind == 11)=b2
   generalize (atO l (idx0 (fun g=>decide (g.name=x.fr)) l) == 0)=b3
   generalize needsB x=b4
   cases b1<;>cases b2<;>cases b3<;>cases b4<;>rfl
theorem outs_marks {L:List (Option TypeId×Value)} {R:RT} {bs:List Nat}:∀ {w w0:World},bs.Nodup→(∀ b∈bs,MarkAt b w∧w0.heap.size≤b)→Ext w0 w →
 (∀ w',Ext w0 w'→(∀ (b:Nat) (o:Obj),(∀ d,o ≠ .deferred d)→w.heap[b]?=some o→w'.heap[b]?=some o)→outX Pg [] L R w')→outX Pg (bs.map Sw.mark) L R w:=by
 induction bs with
 | nil=>exact fun _ _ e h=>h _ e fun _ _ _ h=>h
 | cons b bs ih =>
  intro w w0 hn hm e h
  obtain ⟨hb,hn'⟩:=List.nodup_cons.1 hn
  have hmb:=hm b (List.mem_cons_self ..)
  refine outX_mark hmb.1 (ih (w0:=w0) hn' (fun c hc=>⟨?_,(hm c (List.mem_cons_of_mem _ hc)).2⟩) (e.putObj hmb.2 _) (fun w' e' h'=>h w' e' (fun c o ho hc=>h' c o ho ((World.putObj_heap_other ?_).trans hc))))
  · exact (World.putObj_heap_other (fun (e:c=b)=>hb (by rw [← e];exact hc))).trans (hm c (List.mem_cons_of_mem _ hc)).1
  · rintro rfl
    have:=hmb.1
    unfold MarkAt at this
    rw [hc] at this
    injection this with this
    exact ho _ this
theorem lasts2_marks {B:Nat} {bs:List Nat} (h:∀ b∈bs,b < B):Lasts2 B (fun w=>∀ b∈bs,MarkAt b w):=fun w w' hl hm b hb=>Lasts2.low (h b hb) _ w w' hl (hm b hb)
theorem has_nd {T:TypeId} {cs:Array Value}:∀ d,Obj.cells cs T (0,0) ≠ .deferred d:=fun _ h=>by cases h
def KQ (w0:World) (p q:Nat) (A B:Array Value) (T U:TypeId):World→Prop:=fun x=>Ext w0 x∧x.heap[p]?=some (.cells A T (0,0))∧x.heap[q]?=some (.cells B U (0,0))
abbrev chkK (w0:World) (d:DefD):Ending→World→Prop:=retR fun r w'=>r = .tuple #[flawOf (alignP d),.bool (flawedA d)]∧Ext w0 w'
theorem chk_out {w0 w:World} {t2 t3:Nat} {a f c:Int} {b:Bool} {bs:List Nat} {d:DefD} (e:Ext w0 w) (o2:w.heap[t2]?=some (.cells #[.int .i64 a,.int .i64 f,.int .i64 c] 92 (0,0))) (o3:w.heap[t3]?=some (.cells #[.bool b] 4 (0,0))) (h2:w0.heap.size≤t2) (h3:w0.heap.size≤t3)
 (hn:bs.Nodup) (hm:∀ b∈bs,MarkAt b w∧w0.heap.size≤b) (hr:alignP d=(a,f,c)) (hb:b=flawedA d):drawK w fun C1 w=>n5c1 (.pointer (some ⟨t2,0,none⟩)) (.pointer (some ⟨t3,0,none⟩)) C1 (bs.map Sw.mark) (chkK w0 d) w:=by
 have n23:t2≠t3:=by rintro rfl;rw [o2] at o3;cases o3
 refine ⟨KQ w0 t2 t3 #[.int .i64 a,.int .i64 f,.int .i64 c] #[.bool b] 92 4,⟨e.wdrew,o2,o3⟩,?_⟩
 haveI:ClassNe (KQ w0 t2 t3 #[.int .i64 a,.int .i64 f,.int .i64 c] #[.bool b] 92 4):=⟨⟨w,e,o2,o3⟩⟩
 show n5c1 _ _ _ _ _ _
 unfold n5c1
 rw [qV_eqC (fun w' h=>run_of_op fun QP k=>op_load ((ElemAt.of_heap (cs:=[.int .i64 a,.int .i64 f,.int .i64 c]) h.2.1).loads ty92 rfl)),qV_eqC (fun w' h=>run_of_op fun QP k=>op_load ((ElemAt.of_heap (cs:=[.bool b]) h.2.2).load1 ty4))]
 have o2':w.drew.heap[t2]?=some (.cells #[.int .i64 a,.int .i64 f,.int .i64 c] 92 (0,0)):=o2
 have o3':w.drew.heap[t3]?=some (.cells #[.bool b] 4 (0,0)):=o3
 have eD:Ext w0 w.drew:=e.wdrew
 have hmD:∀ b∈bs,MarkAt b w.drew:=fun b hb=>(hm b hb).1
 rw [drew_wdrew]
 generalize w.drew=W at o2' o3' eD hmD ⊢
 simp (disch:=try exact DI) only [↓PR,QR,simprocAttr,(cells_of_heap o2').1,(cells_of_heap o2').2,(cells_of_heap o3').1,(cells_of_heap o3').2]
 have q2:=heap_set (o:=2) (heap_set (o:=1) (heap_set (o:=0) o2' (.int .i64 a)) (.int .i64 f)) (.int .i64 c)
 have q3:=(Only.setCell ((W.setCell ⟨t2,0,none⟩ (.int .i64 a)).setCell ⟨t2,1,none⟩ (.int .i64 f)) t2 2 (.int .i64 c) t3 n23.symm).trans ((Only.setCell (W.setCell ⟨t2,0,none⟩ (.int .i64 a)) t2 1 (.int .i64 f) t3 n23.symm).trans ((Only.setCell W t2 0 (.int .i64 a) t3 n23.symm).trans o3'))
 have eQ:Ext w0 (((W.setCell ⟨t2,0,none⟩ (.int .i64 a)).setCell ⟨t2,1,none⟩ (.int .i64 f)).setCell ⟨t2,2,none⟩ (.int .i64 c)):=((eD.setCell h2 _).setCell h2 _).setCell h2 _
 refine ⟨⟨eQ,by simpa using q2,q3⟩,?_⟩
 have mQ:∀ b∈bs,MarkAt b (((W.setCell ⟨t2,0,none⟩ (.int .i64 a)).setCell ⟨t2,1,none⟩ (.int .i64 f)).setCell ⟨t2,2,none⟩ (.int .i64 c)):=fun b hb=>(((hmD b hb).setCell _ _).setCell _ _).setCell _ _
 generalize (((W.setCell ⟨t2,0,none⟩ (.int .i64 a)).setCell ⟨t2,1,none⟩ (.int .i64 f)).setCell ⟨t2,2,none⟩ (.int .i64 c))=X at q2 q3 eQ mQ ⊢
 replace q2:X.heap[t2]?=some (.cells #[.int .i64 a,.int .i64 f,.int .i64 c] 92 (0,0)):=by simpa using q2
 simp (disch:=try exact DI) only [↓PR,QR,simprocAttr,(cells_of_heap q3).1,(cells_of_heap q3).2]
 refine turnK_intro ?_
 have y2:=(Only.setCell X t3 0 (.bool b) t2 n23).trans q2
 have y3:=heap_set (o:=0) q3 (.bool b)
 refine outs_marks (w0:=w0) hn (fun b hb=>⟨(mQ b hb).setCell _ _,(hm b hb).2⟩) (eQ.setCell h3 _) (fun w' e' hh=>?_)
 have z2:=hh _ _ has_nd y2
 have z3:w'.heap[t3]?=some (.cells #[.bool b] 4 (0,0)):=by simpa using hh _ _ has_nd y3
 simp (disch:=try exact DI) only [↓PR,QR,simprocAttr,outX_nil,retV,resOne,(cells_of_heap z2).1,(cells_of_heap z3).1]
 refine ⟨?_,e'⟩
 rw [hr,hb]
theorem chk_loop {w0 w:World} {d:DefD} {t1 t2 t3:Nat} {mv:Value} (hM:MsgsOf w0 mv d.msgs) (hv:(checkP d).2.2=0) (e:Ext w0 w) (o1:w.heap[t1]?=some (.cells (defCells d mv).toArray 24 (0,0))) (o2:w.heap[t2]?=some (.cells #[.int .i64 0,.int .i64 0,.int .i64 0] 92 (0,0))) (o3:w.heap[t3]?=some (.cells #[.bool false] 4 (0,0))) (h2:w0.heap.size≤t2) (h3:w0.heap.size≤t3) :
 n5c9 (.pointer (some ⟨t1,0,none⟩)) (.pointer (some ⟨t2,0,none⟩)) (.pointer (some ⟨t3,0,none⟩)) [] (chkK w0 d) w:=by
 obtain ⟨A,c,rfl,hlc,hcm,hlm,hel⟩:=SliceOf.open hM
 have n23:t2≠t3:=by rintro rfl;rw [o2] at o3;cases o3
 have l2:=(Array.getElem?_eq_some_iff.1 o2).1
 have l3:=(Array.getElem?_eq_some_iff.1 o3).1
 unfold n5c9
 simp (disch:=try exact DI) only [↓PR,QR,simprocAttr,(cells_of_heap o1).1]
 refine loopM1_intro (fun ds i w'=>∃ (k:Nat) (bs:List Nat),i = .int .i64 k∧k≤d.msgs.length∧ds=bs.map Sw.mark∧bs.Nodup∧(∀ b∈bs,MarkAt b w'∧w0.heap.size≤b)∧Ext w0 w'∧w'.heap[t2]?=some (.cells #[.int .i64 0,.int .i64 0,.int .i64 0] 92 (0,0))∧w'.heap[t3]?=some (.cells #[.bool false] 4 (0,0))∧alignP d=alignM k (d.msgs.drop k)) (fun i _=>d.msgs.length - (intOf i).toNat) ⟨0,[],rfl,by omega,rfl,by simp,by simp,e,o2,o3,alignP_valid hv⟩ ?_
 rintro _ _ w1 ⟨k,bs,rfl,hk,rfl,hnd,hbs,e1,x2,x3,hr⟩
 unfold n5c8
 rcases drop_cases hk with ⟨m,hm,hd,hlt,hdec⟩ | ⟨hk,hd,hdec⟩
 · obtain ⟨b,o,cs,rfl,hl,hA,fv,rfl,hF⟩:=hel k m hm
   have hf1:=SliceOf.oneCell hF
   obtain ⟨A2,c2,hfv,_,_,hlm2,_⟩:=SliceOf.open hF
   have hokM:=valid_okM hv (List.mem_of_getElem? hm)
   have hok:=hokM.1.1
   simp (disch:=try exact DI) only [↓PR,QR,simprocAttr,hdec]
   unfold n5c7
   simp (disch:=try exact DI) only [↓PR,QR,simprocAttr,(hA.c2 e1).1,(hA.c2 e1).2]
   simp only [World.size_alloc]
   generalize hW:World.alloc (World.alloc w1 _) _=W
   have eW:Ext w1 W:=by rw [← hW];exact ee
   have q4:W.heap[w1.heap.size]?=some (.cells #[.int .i64 (k:Int)] 3 (0,0)):=by rw [← hW];simp (disch:=try exact DI) only [↓PR,QR,simprocAttr]
   have q5:W.heap[w1.heap.size+1]?=some (.cells (msgCells m fv).toArray 53 (0,0)):=by rw [← hW];simp (disch:=try exact DI) only [↓PR,QR,simprocAttr]
   have hsz:W.heap.size=w1.heap.size+1+1:=by rw [← hW];simp only [World.size_alloc]
   clear hW
   have l2':=(Array.getElem?_eq_some_iff.1 x2).1
   have l3':=(Array.getElem?_eq_some_iff.1 x3).1
   refine callK_ret (offsets_ret _ _ m.fields (hF.ext (e1.trans eW)).weak) ?_
   rintro _ w2 ⟨pb,rfl,hO,hpb,hpb2,e2⟩
   have s2:=e2.size
   have E2:=(e1.trans eW).trans e2
   have e12:=eW.trans e2
   unfold n5c5
   generalize hB:w2.heap.size=B at *
   generalize hp4:w1.heap.size=p4 at *
   let J:World→Prop:=fun w'=>Ext w0 w'∧w'.heap[p4]?=some (.cells #[.int .i64 (k:Int)] 3 (0,0))∧w'.heap[p4+1]?=some (.cells (msgCells m fv).toArray 53 (0,0))∧w'.heap[pb]?=some (.cells #[fv] 51 (0,0))∧(∀ b∈bs,MarkAt b w')
   have hLJ:Lasts2 B J:=(Lasts2.from (by have:=E2.size;omega)).and ((Lasts2.has _ (by simp) (by simp)).and ((Lasts2.has _ (by simp) (by simp)).and ((Lasts2.has _ (by simp) (by simp)).and (lasts2_marks fun b hb=>by have:=(Array.getElem?_eq_some_iff.1 (hbs b hb).1).1;omega))))
   let I:Nat→World→Prop:=fun j w'=>J w'∧w'.heap[t2]?=some (.cells #[.int .i64 0,.int .i64 0,.int .i64 0] 92 (0,0))∧w'.heap[t3]?=some (.cells #[.bool false] 4 (0,0))∧∀ i,i < j→wrongP m.fields i=false
   let Ix:Nat→World→Prop:=fun c w'=>c=0∧J w'∧w'.heap[t3]?=some (.cells #[.bool true] 4 (0,0))∧∃ i:Nat,i≤m.fields.length∧firstW m.fields=some i∧w'.heap[t2]?=some (.cells #[.int .i64 (k:Int),.int .i64 (if i=m.fields.length then -1 else (i:Int)),.int .i64 12] 92 (0,0))
   have hLI:∀ j,Lasts2 B (I j):=fun j=>hLJ.and ((Lasts2.has _ (by simp) (by simp)).and ((Lasts2.has _ (by simp) (by simp)).and (Lasts2.const _ _)))
   have hLX:∀ c,Lasts2 B (Ix c):=fun c=>(Lasts2.const _ _).and (hLJ.and ((Lasts2.has _ (by simp) (by simp)).and (.ex fun i=>(Lasts2.const _ _).and ((Lasts2.const _ _).and (Lasts2.has _ (by simp) (by simp))))))
   have hJset:∀ w' p o v,J w'→(p=t2∨p=t3)→J (w'.setCell ⟨p,o,none⟩ v):=by
    rintro w' p o v ⟨j1,j2,j3,j4,j5⟩ hp
    have hp':w0.heap.size≤p∧p < p4:=by omega
    exact ⟨j1.setCell hp'.1 _,(Only.setCell w' p o v p4 (by omega)).trans j2,(Only.setCell w' p o v (p4+1) (by omega)).trans j3,(Only.setCell w' p o v pb (by omega)).trans j4,fun b hb=>(j5 b hb).setCell _ _⟩
   have hJext:∀ w' w'',J w'→Ext w' w''→J w'':=fun w' w'' h e=>hLJ.ext h e
   refine ⟨_,_,m.fields.length+1,(fun k => .int .i64 k),(fun k => .int .i64 (endO (m.fields.take k))),OffAt pb fv m.fields,I,Ix,fun _ _=>False,rfl,c86,offsets_seq pb fv m.fields hok,⟨⟨E2,e2.obj q4,e2.obj q5,hO.1,fun b hb=>(hbs b hb).1.ext e12⟩,e12.obj x2,e12.obj x3,fun i h=>by omega⟩,fun j w' h=>⟨h.1.2.2.2.1,(hF.ext h.1.1).weak⟩,hB ▸ hLI,hB ▸ hLX,fun _=>Lasts2.const _ _,?_,?_,?_,?_⟩
   · rw [hB]
     intro Rk hRk j w3 hj hI3 hR3 hlt3 hready
     refine ⟨hready,fun w4 hbz=>?_⟩
     have hR4:=hRk _ _ (KR.busied hbz) hR3
     obtain ⟨hJ4,y2,y3,hne⟩:=(hLI j).busied hbz (Nat.le_succ _) hI3
     obtain ⟨j1,j2,j3,j4,j5⟩:=hJ4
     unfold n5c3
     simp (disch:=try exact DI) only [↓PR,QR,simprocAttr,(cells_of_heap j3).1]
     refine zcr (wrong_ret _ _ m.fields j (by omega) (hF.ext j1) hok) fun w5 e5=>?_
     have hR5:=hRk _ _ (KR.of e5) hR4
     have hJ5:=hJext _ _ ⟨j1,j2,j3,j4,j5⟩ e5
     have z2:=e5.obj y2
     have z3:=e5.obj y3
     have hR6:∀ b,Rk (w5.setCell ⟨t3,0,none⟩ (.bool b)):=fun b=>hRk _ _ (KR.setCell (KR.refl _ _) _ _ _ (.inl (by omega))) hR5
     have hJ6:∀ b,J (w5.setCell ⟨t3,0,none⟩ (.bool b)):=fun b=>hJset _ _ _ _ hJ5 (.inr rfl)
     have r2:∀ b,(w5.setCell ⟨t3,0,none⟩ (.bool b)).heap[t2]?=some (.cells #[.int .i64 0,.int .i64 0,.int .i64 0] 92 (0,0)):=fun b=>(Only.setCell w5 t3 0 (.bool b) t2 n23).trans z2
     have r3:∀ b,(w5.setCell ⟨t3,0,none⟩ (.bool b)).heap[t3]?=some (.cells #[.bool b] 4 (0,0)):=fun b=>by simpa using heap_set (o:=0) z3 (.bool b)
     cases hw:wrongP m.fields j with
     | false =>
      simp (disch:=try exact DI) only [↓PR,QR,simprocAttr,(cells_of_heap z3).1,(cells_of_heap z3).2,(cells_of_heap (r3 false)).1]
      refine ⟨hR6 _,hJ6 _,r2 _,r3 _,fun i hi=>?_⟩
      by_cases hij:i=j
      · rw [hij];exact hw
      · exact hne i (by omega)
     | true =>
      simp (disch:=try exact DI) only [↓PR,QR,simprocAttr,(cells_of_heap z3).1,(cells_of_heap z3).2,(cells_of_heap (r3 true)).1]
      have hR6:=hR6 true
      have hJ6:=hJ6 true
      have r2:=r2 true
      have r3:=r3 true
      generalize (w5.setCell ⟨t3,0,none⟩ (.bool true))=w6 at hR6 hJ6 r2 r3 ⊢
      have hfst:=firstW_some (by omega) hne hw
      obtain ⟨j1,j2,j3,j4,j5⟩:=hJ6
      have u2:=heap_set (o:=2) (heap_set (o:=1) (heap_set (o:=0) r2 (.int .i64 (k:Int))) (.int .i64 (j:Int))) (.int .i64 12)
      have u3:=(Only.setCell ((w6.setCell ⟨t2,0,none⟩ (.int .i64 (k:Int))).setCell ⟨t2,1,none⟩ (.int .i64 (j:Int))) t2 2 (.int .i64 12) t3 n23.symm).trans ((Only.setCell (w6.setCell ⟨t2,0,none⟩ (.int .i64 (k:Int))) t2 1 (.int .i64 (j:Int)) t3 n23.symm).trans ((Only.setCell w6 t2 0 (.int .i64 (k:Int)) t3 n23.symm).trans r3))
      have uJ:=hJset _ t2 2 (.int .i64 12) (hJset _ t2 1 (.int .i64 (j:Int)) (hJset _ t2 0 (.int .i64 (k:Int)) ⟨j1,j2,j3,j4,j5⟩ (.inl rfl)) (.inl rfl)) (.inl rfl)
      have uR:=hRk _ _ ((((KR.refl (B+1+1) w6).setCell t2 0 (.int .i64 (k:Int)) (.inl (by omega))).setCell t2 1 (.int .i64 (j:Int)) (.inl (by omega))).setCell t2 2 (.int .i64 12) (.inl (by omega))) hR6
      rw [hfv] at j3
      unfold n5c2
      by_cases hje:j=m.fields.length
      · have hde:((j:Int) == (m.fields.length:Int))=true:=by simp [hje]
        simp (disch:=try exact DI) only [↓PR,QR,simprocAttr,(cells_of_heap j2).1,(cells_of_heap j3).1,(cells_of_heap r2).1,(cells_of_heap r2).2,hde]
        generalize (((w6.setCell ⟨t2,0,none⟩ (.int .i64 (k:Int))).setCell ⟨t2,1,none⟩ (.int .i64 (j:Int))).setCell ⟨t2,2,none⟩ (.int .i64 12))=w7 at u2 u3 uJ uR ⊢
        replace u2:w7.heap[t2]?=some (.cells #[.int .i64 (k:Int),.int .i64 (j:Int),.int .i64 12] 92 (0,0)):=by simpa using u2
        refine ⟨hRk _ _ (KR.setCell (KR.refl _ _) _ _ _ (.inl (by omega))) uR,rfl,hJset _ _ _ _ uJ (.inl rfl),(Only.setCell w7 t2 1 (.int .i64 (-1)) t3 n23.symm).trans u3,j,by omega,hfst,?_⟩
        rw [if_pos hje]
        simpa using heap_set (o:=1) u2 (.int .i64 (-1))
      · have hde:((j:Int) == (m.fields.length:Int))=false:=by simp;omega
        simp (disch:=try exact DI) only [↓PR,QR,simprocAttr,(cells_of_heap j2).1,(cells_of_heap j3).1,(cells_of_heap r2).1,(cells_of_heap r2).2,hde]
        refine ⟨uR,rfl,uJ,u3,j,by omega,hfst,?_⟩
        rw [if_neg hje]
        simpa using u2
   · rw [hB]
     rintro w3 ⟨hJ3,y2,y3,hne⟩ hmk
     simp (disch:=try exact DI) only [↓PR,QR,simprocAttr]
     refine ⟨⟨k+1,B::bs,rfl,by omega,rfl,List.nodup_cons.2 ⟨fun hin=>?_,hnd⟩,fun b hb=>?_,hJ3.1,y2,y3,?_⟩,meas_lt (kd := .i64) hlt⟩
     · have:=(Array.getElem?_eq_some_iff.1 (hbs _ hin).1).1;omega
     · rcases List.mem_cons.1 hb with rfl | hb
       · exact ⟨hmk,by have:=E2.size;omega⟩
       · exact ⟨hJ3.2.2.2.2 b hb,(hbs b hb).2⟩
     · rw [hr,hd,alignM_none (firstW_none hne)]
   · rw [hB]
     rintro c w3 ⟨rfl,hJ3,y3,i,hi,hf,y2⟩ hmk
     refine chk_out (bs:=B::bs) hJ3.1 y2 y3 h2 h3 (List.nodup_cons.2 ⟨fun hin=>?_,hnd⟩) (fun b hb=>?_) ?_ ?_
     · have:=(Array.getElem?_eq_some_iff.1 (hbs _ hin).1).1;omega
     · rcases List.mem_cons.1 hb with rfl | hb
       · exact ⟨hmk,by have:=E2.size;omega⟩
       · exact ⟨hJ3.2.2.2.2 b hb,(hbs b hb).2⟩
     · rw [hr,hd,alignM_some hf]
     · unfold flawedA;rw [hr,hd,alignM_some hf];rfl
   · rintro ch w3 h
     exact h.elim
 · subst hk
   simp (disch:=try exact DI) only [↓PR,QR,simprocAttr,hdec]
   have hr0:alignP d=(0,0,0):=by rw [hr,hd];rfl
   exact chk_out e1 x2 x3 h2 h3 hnd hbs hr0 (by unfold flawedA;rw [hr0];rfl)
theorem alCheck_ret (w0:World) (v:Value) (d:DefD) (hd:DefVal w0 v d) (ht:calm d):Ret Pg 39 #[v] w0 fun r w'=>r = .tuple #[flawOf (alignP d),.bool (flawedA d)]∧Ext w0 w':=by
 obtain ⟨mv,rfl,hM⟩:=hd
 have hm1:=SliceOf.oneCell hM
 refine n5s (R:=retR _) ?_;unfold n5
 simp (disch:=try exact DI) only [↓PR,QR,simprocAttr]
 simp only [World.size_alloc]
 generalize hW:World.alloc (World.alloc (World.alloc w0 _) _) _=W
 have e0:Ext w0 W:=by rw [← hW];exact ee
 have o1:W.heap[w0.heap.size]?=some (.cells (defCells d mv).toArray 24 (0,0)):=by rw [← hW];simp (disch:=try exact DI) only [↓PR,QR,simprocAttr]
 have o2:W.heap[w0.heap.size+1]?=some (.cells #[.int .i64 0,.int .i64 0,.int .i64 0] 92 (0,0)):=by rw [← hW];simp (disch:=try exact DI) only [↓PR,QR,simprocAttr]
 have o3:W.heap[w0.heap.size+1+1]?=some (.cells #[.bool false] 4 (0,0)):=by rw [← hW];simp (disch:=try exact DI) only [↓PR,QR,simprocAttr]
 clear hW
 generalize hp2:w0.heap.size+1=t2 at *
 generalize hp3:t2+1=t3 at *
 refine zcr (Check_ret _ d ⟨mv,rfl,hM.ext e0⟩ ht) fun w1 e1=>?_
 have E1:=e0.trans e1
 have x1:=e1.obj o1
 have x2:=e1.obj o2
 have x3:=e1.obj o3
 have n23:t2≠t3:=by omega
 unfold n5c10
 simp (disch:=try exact DI) only [↓PR,QR,simprocAttr,(cells_of_heap x2).1,(cells_of_heap x2).2,(cells_of_heap x3).1,(cells_of_heap x3).2]
 have q2:=heap_set (o:=2) (heap_set (o:=1) (heap_set (o:=0) x2 (.int .i64 (checkP d).1)) (.int .i64 (checkP d).2.1)) (.int .i64 (checkP d).2.2)
 have q3:=(Only.setCell ((w1.setCell ⟨t2,0,none⟩ (.int .i64 (checkP d).1)).setCell ⟨t2,1,none⟩ (.int .i64 (checkP d).2.1)) t2 2 (.int .i64 (checkP d).2.2) t3 n23.symm).trans ((Only.setCell (w1.setCell ⟨t2,0,none⟩ (.int .i64 (checkP d).1)) t2 1 (.int .i64 (checkP d).2.1) t3 n23.symm).trans ((Only.setCell w1 t2 0 (.int .i64 (checkP d).1) t3 n23.symm).trans x3))
 have q1:=(Only.setCell ((w1.setCell ⟨t2,0,none⟩ (.int .i64 (checkP d).1)).setCell ⟨t2,1,none⟩ (.int .i64 (checkP d).2.1)) t2 2 (.int .i64 (checkP d).2.2) w0.heap.size (by omega)).trans ((Only.setCell (w1.setCell ⟨t2,0,none⟩ (.int .i64 (checkP d).1)) t2 1 (.int .i64 (checkP d).2.1) w0.heap.size (by omega)).trans ((Only.setCell w1 t2 0 (.int .i64 (checkP d).1) w0.heap.size (by omega)).trans x1))
 have eQ:Ext w0 (((w1.setCell ⟨t2,0,none⟩ (.int .i64 (checkP d).1)).setCell ⟨t2,1,none⟩ (.int .i64 (checkP d).2.1)).setCell ⟨t2,2,none⟩ (.int .i64 (checkP d).2.2)):=((E1.setCell (show w0.heap.size≤t2 by omega) _).setCell (show w0.heap.size≤t2 by omega) _).setCell (show w0.heap.size≤t2 by omega) _
 generalize (((w1.setCell ⟨t2,0,none⟩ (.int .i64 (checkP d).1)).setCell ⟨t2,1,none⟩ (.int .i64 (checkP d).2.1)).setCell ⟨t2,2,none⟩ (.int .i64 (checkP d).2.2))=X at q1 q2 q3 eQ ⊢
 replace q2:X.heap[t2]?=some (.cells #[.int .i64 (checkP d).1,.int .i64 (checkP d).2.1,.int .i64 (checkP d).2.2] 92 (0,0)):=by simpa using q2
 have y1:=(Only.setCell X t3 0 (.bool (flawedB d)) w0.heap.size (by omega)).trans q1
 have y2:=(Only.setCell X t3 0 (.bool (flawedB d)) t2 n23).trans q2
 have y3:(X.setCell ⟨t3,0,none⟩ (.bool (flawedB d))).heap[t3]?=some (.cells #[.bool (flawedB d)] 4 (0,0)):=by simpa using heap_set (o:=0) q3 (.bool (flawedB d))
 have eY:=eQ.setCell (p:=⟨t3,0,none⟩) (show w0.heap.size≤t3 by omega) (.bool (flawedB d))
 simp (disch:=try exact DI) only [↓PR,QR,simprocAttr,(cells_of_heap q3).1,(cells_of_heap q3).2,(cells_of_heap y3).1]
 generalize (X.setCell ⟨t3,0,none⟩ (.bool (flawedB d)))=Y at y1 y2 y3 eY ⊢
 by_cases hf:(checkP d).2.2=0
 · have hfb:flawedB d=false:=by unfold flawedB;simp [hf]
   have hc0:=checkP_zero hf
   rw [hfb] at y3 ⊢
   rw [hc0] at y2
   simp (disch:=try exact DI) only [↓PR,QR,simprocAttr]
   exact chk_loop hM hf eY y1 y2 y3 (by omega) (by omega)
 · have hfb:flawedB d=true:=by unfold flawedB;simp [hf]
   rw [hfb] at y3 ⊢
   simp (disch:=try exact DI) only [↓PR,QR,simprocAttr]
   exact chk_out (bs:=[]) eY y2 y3 (by omega) (by omega) (by simp) (by simp) (alignP_flawed hf) (by unfold flawedA;rw [alignP_flawed hf];simp [hf])
section
variable {w0:World}
theorem Aligned_ret (v:Value) (d:DefD) (hd:DefVal w0 v d) (ht:calm d):Ret Pg 19 #[v] w0 fun r w'=>r = .bool (!flawedA d)∧Ext w0 w':=by
 obtain ⟨mv,rfl,hM⟩:=hd
 have hm1:=SliceOf.oneCell hM
 refine n4s (R:=retR _) ?_;unfold n4
 simp (disch:=try exact DI) only [↓PR,QR,simprocAttr]
 refine zcr (alCheck_ret _ _ d ⟨_,rfl,hM.ext ee⟩ ht) fun w1 e1=>?_
 unfold n4c1
 simp (disch:=try exact DI) only [↓PR,QR,simprocAttr]
 exact ⟨by first | trivial | rfl,ee⟩
def padOK (n p:Int):Prop:=(n=2∨n=4∨(8≤n∧n≤512∧n.tmod 8=0))∧0≤p∧p≤335544320
instance (n p:Int):Decidable (padOK n p):=by unfold padOK;infer_instance
end
def ProgAt (w:World) (lo pb:Nat) (d:DefD):Prop:=∃ mc cv rm gm,w.heap[pb]?=some (.cells (progCells d mc cv rm gm).toArray 61 (0,0))∧lo≤pb∧lo≤rm∧lo≤gm∧MsgsN w lo w.heap.size mc d.msgs∧OwnE w lo TI 6 insCells cv (codeP d) ∧
 MapI w rm (mapF d.msgs (reachD d) (fun i=>(routN d.msgs (reachD d) i:Int)) d.msgs.length)∧MapI w gm (mapF d.msgs (reachD d) (cntM d.msgs) d.msgs.length)
theorem ProgAt.ext {w w':World} {lo pb:Nat} {d:DefD} (h:ProgAt w lo pb d) (e:Ext w w'):ProgAt w' lo pb d:=by
 obtain ⟨mc,cv,rm,gm,h1,h2,h3,h4,h5,h6,h7,h8⟩:=h
 exact ⟨mc,cv,rm,gm,e.obj h1,h2,h3,h4,(h5.ext e).mono (Nat.le_refl _) e.size,h6.ext e,h7.ext e,h8.ext e⟩
theorem aligned_valid {d:DefD} (h:flawedA d=false):(checkP d).2.2=0:=by
 have h0:(alignP d).2.2=0:=by unfold flawedA at h;simpa using h
 by_cases hc:(checkP d).2.2=0
 · exact hc
 · rw [alignP_flawed hc] at h0;exact absurd h0 hc
def sizeP (d:DefD):Nat:=routN d.msgs (reachD d) d.msgs.length
theorem Compile_ret (w0:World) (v:Value) (d:DefD) (hd:DefVal w0 v d) (ht:calm d) (htm:tame d) (hz:sizeP d≤100000):Ret Pg 20 #[v] w0 fun r w'=>(if flawedA d then r = .tuple #[.pointer none,.int .i64 2] else ∃ pb,r = .tuple #[.pointer (some ⟨pb,0,none⟩),.int .i64 0]∧ProgAt w' w0.heap.size pb d)∧Ext w0 w':=by
 obtain ⟨mv,rfl,hM⟩:=hd
 have hm1:=SliceOf.oneCell hM
 refine n24s (R:=retR _) ?_;unfold n24
 rw [op_boxA]
 have o1:=heap_new w0 (defCells d mv).toArray 24
 have eW:Ext w0 (w0.alloc (.cells (defCells d mv).toArray 24)):=ee
 generalize (w0.alloc (.cells (defCells d mv).toArray 24))=W at o1 eW ⊢
 generalize hp1:w0.heap.size=p1 at o1 ⊢
 simp (disch:=try exact DI) only [↓PR,QR,simprocAttr,(cells_of_heap o1).1]
 refine zcr (Aligned_ret _ d ⟨_,rfl,hM.ext eW⟩ ht) fun w1 e1=>?_
 have E1:=eW.trans e1
 unfold n24c15
 cases hfl:flawedA d with
 | true =>
  simp (disch:=try exact DI) only [↓PR,QR,simprocAttr]
  exact ⟨by trivial,E1⟩
 | false =>
 simp (disch:=try exact DI) only [↓PR,QR,simprocAttr,(cells_of_heap (e1.obj o1)).1]
 refine callK_ret (Copy_ret w1 _ d ⟨_,rfl,hM.ext E1⟩ htm) ?_
 rintro _ w2 ⟨⟨mc,rfl,hMN⟩,e2⟩
 have E2:=E1.trans e2
 have q1:=(e1.trans e2).obj o1
 have hMc:=hMN.plain
 have hmc1:=SliceOf.oneCell hMc
 obtain ⟨A,c,rfl,_,_,_,_⟩:=SliceOf.open hMc
 unfold n24c14
 simp (disch:=try exact DI) only [↓PR,QR,simprocAttr]
 simp only [World.size_alloc]
 generalize hV:World.alloc (World.alloc (World.alloc (World.alloc w2 _) _) _) _=V
 have eV:Ext w2 V:=by rw [← hV];exact ee
 have sV:V.heap.size=w2.heap.size+1+1+1+1:=by rw [← hV];simp only [World.size_alloc]
 have oP:V.heap[w2.heap.size+1+1]?=some (.cells (progCells d (.slice A d.msgs.length c) (.slice none 0 0) w2.heap.size (w2.heap.size+1)).toArray 61 (0,0)):=by rw [← hV];simp (disch:=try exact DI) only [↓PR,QR,simprocAttr]
 have oR:MapI V w2.heap.size fun _=>none:=by
  rw [← hV]
  exact (((MapI.new w2).ext ee).ext ee).ext ee
 have oG:MapI V (w2.heap.size+1) fun _=>none:=by
  rw [← hV]
  have:=MapI.new (w2.alloc (.map #[] 0))
  rw [World.size_alloc] at this
  exact (this.ext ee).ext ee
 have o5:V.heap[w2.heap.size+1+1+1]?=some (.cells #[.pointer (some ⟨w2.heap.size+1+1,0,none⟩),.int .i64 0] 96 (0,0)):=by rw [← hV];simp (disch:=try exact DI) only [↓PR,QR,simprocAttr]
 clear hV
 generalize hrm:w2.heap.size=rm at *
 generalize hgm:rm+1=gm at *
 generalize hpb:gm+1=pb at *
 generalize hbs:pb+1=p5 at *
 have h0:Cmp w2 pb rm gm p5 d (.slice A d.msgs.length c) V [] (fun _=>none) (fun _=>none):=⟨eV,by omega,by omega,by omega,by omega,by omega,by omega,by omega,⟨by omega,by omega,by omega⟩,⟨_,oP,OwnE.nil _ _ _ _ _⟩,oR,oG⟩
 have b1:=h0.bp
 have b2:=h0.br
 have b3:=h0.bg
 have hch:=aligned_valid hfl
 have hfine:=(check_fine hch).2.2.1
 have hl60:=(check_fine hch).2.1.2
 have class5:∀ w',w'.heap[p5]?=some (.cells #[.pointer (some ⟨pb,0,none⟩),.int .i64 0] 96 (0,0))→Loads Pg w' 96 ⟨p5,0,none⟩ (mkV pb 0):=fun w' hw=>ElemAt.loads (b:=p5) (o:=0) (cs:=[.pointer (some ⟨pb,0,none⟩),.int .i64 0]) (fun j u hu=>by rw [Nat.zero_add,(cells_of_heap hw).1];simpa using hu) ty96 rfl
 refine looksK (C:=fun w'=>w'.heap[p5]?=some (.cells #[.pointer (some ⟨pb,0,none⟩),.int .i64 0] 96 (0,0))) o5 fun hne=>?_
 unfold n24c13
 rw [qV_loadG class5]
 have eD:=(Ext.refl V).drew
 refine zcr (instruction_ret _ 1) fun w3 e3=>?_
 have e03:=eD.trans e3
 refine ⟨e03.obj o5,?_⟩
 refine callK_ret (add_ret (h0.go e03) 0 ⟨1,-1,-1,-1,-1,-1⟩ (by simp)) ?_
 rintro _ w4 ⟨rfl,h4,hF4⟩
 have o54:=hF4.cells b1 b2 b3 (e03.obj o5) (Nat.le_refl _) (by decide)
 refine ⟨o54,?_⟩
 refine looksK (C:=fun w'=>w'.heap[p5]?=some (.cells #[.pointer (some ⟨pb,0,none⟩),.int .i64 0] 96 (0,0))) o54 fun hne=>?_
 unfold n24c12
 rw [qV_loadG class5]
 have eD4:=(Ext.refl w4).drew
 refine zcr (instruction_ret _ 2) fun w5 e5=>?_
 have e45:=eD4.trans e5
 refine ⟨e45.obj o54,?_⟩
 refine callK_ret (add_ret (h4.go e45) 0 ⟨2,-1,-1,-1,-1,-1⟩ (by simp)) ?_
 rintro _ w6 ⟨rfl,h6,hF6⟩
 have o56:=hF6.cells b1 b2 b3 (e45.obj o54) (Nat.le_refl _) (by decide)
 refine ⟨o56,?_⟩
 refine drawK_intro ?_
 have eD6:Ext w6 (Sw.drew w6):=(Ext.refl w6).drew
 have h7:=h6.go eD6
 have o57:=eD6.obj o56
 generalize (Sw.drew w6)=w7 at h7 o57 ⊢
 clear eD6
 obtain ⟨cv7,hp7,_⟩:=h7.obj
 have q17:=h7.ext.obj q1
 have hdv:∀ w',Ext w2 w'→DefVal w' (.agg (defCells d mv).toArray) d:=fun w' e=>⟨mv,rfl,hM.ext (E2.trans e)⟩
 unfold n24c11
 simp (disch:=try exact DI) only [↓PR,QR,simprocAttr,(cells_of_heap q17).1,(cells_of_heap hp7).1]
 have o8:=heap_new w7 #[.string d.start] 9
 have e8:Ext w7 (w7.alloc (.cells #[.string d.start] 9)):=ee
 generalize (w7.alloc (.cells #[.string d.start] 9))=w8 at o8 e8 ⊢
 refine ⟨e8,?_⟩
 refine callK_ret (reached_ret w8 _ d w7.heap.size (hdv _ (h7.ext.trans e8)) ht hch (by rw [(cells_of_heap o8).1];rfl)) ?_
 rintro _ w9 ⟨⟨g,χ,rfl,hg8,hS,hχ⟩,e9⟩
 refine ⟨e8.trans e9,?_⟩
 have h9:=h7.go (e8.trans e9)
 have o59:=(e8.trans e9).obj o57
 have hgb:p5≤g:=by have:=h7.bw;have:=e8.size;omega
 have hzz:routN d.msgs (reachD d) d.msgs.length≤100000:=hz
 refine msgs_loop (r:=reachD d) h9 rfl hMc hfine (reach_closed hfine) o59 hS hχ (Nat.le_refl _) hgb hzz (by omega) fun w10 h10=>?_
 refine drawK_intro ?_
 have h11:=h10.go (Ext.refl w10).drew
 generalize (Sw.drew w10)=w11 at h11 ⊢
 obtain ⟨gc,cap,hpc,hOc,hEc,hfz,hgl⟩:=h11.row (by rw [List.length_append];show 0 < 2+_;omega)
 have hst:∀ K:Value→Prop,qV Pg (EC w11) (Instr.lookup 59 (.map (some rm)) (.string d.start) false) K=K (.int .i64 (toR d.msgs (reachD d) d.start)):=fun K=>qV_eqC fun w' hw=>run_of_op fun QP kk=>by
  rw [(h11.routs.ext hw).look]
  obtain ⟨m0,hm0,hn0⟩:=start_at hch
  have:=mapF_at hfine (g:=fun i=>(routN d.msgs (reachD d) i:Int)) hm0 (List.getElem?_eq_some_iff.1 hm0).1 (show reachD d (startI d)=true from reach_start (start_spec hch).1)
  rw [hn0] at this
  rw [this]
  have h2:=idN_at hfine hm0
  rw [hn0] at h2
  unfold idN at h2
  unfold toR
  rw [h2]
  rfl
 have hidx:∀ (n:Nat),0 < n→∀ K:Value→Prop,qV Pg (EC w11) (Instr.indexAt 32 (.slice (some ⟨gc,0,none⟩) n cap) (.int .i64 0)) K=K (.pointer (some ⟨gc,0,none⟩)):=fun n hn K=>qV_eqC fun w' _=>run_of_op fun QP kk=>(op_indexN Tryz.underlying32 ty36 gc 0 _ cap .i64 0 (by omega)).trans (by rw [Nat.zero_add,Nat.zero_mul])
 have hfirst:(headC (-1)++codeN (toR d.msgs (reachD d)) d.msgs (reachD d) d.msgs.length)[0]?=some ⟨1,-1,-1,-1,-1,-1⟩:=rfl
 have hcell:=hEc _ _ hfirst 5 (.int .i64 (-1)) rfl
 have hlen:(headC (-1)++codeN (toR d.msgs (reachD d)) d.msgs (reachD d) d.msgs.length).length=sizeP d:=by rw [List.length_append];unfold sizeP;rw [← codeN_len (rt:=toR d.msgs (reachD d))];show 2+_=_;omega
 obtain ⟨h12,hF12⟩:=h11.setI hpc hOc rfl hfirst (j:=5) (by decide) (.int .i64 (toR d.msgs (reachD d) d.start)) (y:=⟨1,-1,-1,-1,-1,toR d.msgs (reachD d) d.start⟩) rfl
 have hpos:0 < sizeP d:=by rw [← hlen,List.length_append];show 0 < 2+_;omega
 rw [hlen] at hpc
 unfold n24c8
 simp (disch:=try exact DI) only [↓PR,QR,simprocAttr,(cells_of_heap hpc).1,hst,hidx _ hpos,hcell,hfz]
 refine turnK_intro ?_
 rw [Nat.zero_mul,Nat.zero_add] at h12
 obtain ⟨cv',ho1,ho2⟩:=h12.obj
 have hcode:(headC (-1)++codeN (toR d.msgs (reachD d)) d.msgs (reachD d) d.msgs.length).set 0 ⟨1,-1,-1,-1,-1,toR d.msgs (reachD d) d.start⟩=codeP d:=rfl
 rw [hcode] at ho2
 have z1:=E1.size
 have z2:=e2.size
 have z3:=h12.ext.size
 exact ⟨_,rfl,by rw [if_neg (by decide)];exact ⟨pb,rfl,_,cv',rm,gm,ho1,by omega,by omega,by omega,(hMN.ext h12.ext).mono (by omega) (by omega),ho2.base (by omega),h12.routs,h12.regs⟩,E2.trans h12.ext⟩
def n36c1 (t5 t8:Value) (K4:KV) (R:RT) (w:World):Prop :=
 opV Pg (Instr.fieldAt 36 t5 5) (panK R) w fun t88 w =>
 opV Pg (Instr.loadAt 3 t88) (panK R) w fun t89 w =>
 callK Pg 65 #[t89] (panK R) w fun t90 w =>
 opV Pg (Instr.buildSlice 80 1 #[(0,t90)]) (panK R) w fun t91 w =>
 opV Pg (Builtin.append_ #[80,80] 80 #[t8,t91]) (panK R) w fun t92 w =>
 K4 t92 w
def n36c2 (t5 t8:Value) (R:RT) (w:World):Prop :=
 opV Pg (Instr.fieldAt 36 t5 5) (panK R) w fun t84 w =>
 opV Pg (Instr.loadAt 3 t84) (panK R) w fun t85 w =>
 opV Pg (binS .geq 3 true t85 (.int .i64 0)) (panK R) w fun t86 w =>
 joinK (fun (t8:Value) (w:World) =>
 callK Pg 32 #[t8,(.string { data := #[32] })] (panK R) w fun t94 w =>
 R (.returned t94) w) fun K4 =>
 condP t86 (
 n36c1 t5 t8 K4 R w) (
 K4 t8 w)
def n36c3 (t8 t80:Value) (K3:KV) (R:RT) (w:World):Prop :=
 opV Pg (binS .add 9 true (.string { data := #[114] }) t80) (panK R) w fun t81 w =>
 opV Pg (Instr.buildSlice 80 1 #[(0,t81)]) (panK R) w fun t82 w =>
 opV Pg (Builtin.append_ #[80,80] 80 #[t8,t82]) (panK R) w fun t83 w =>
 K3 t83 w
def n36c4 (t5 t8:Value) (K3:KV) (R:RT) (w:World):Prop :=
 opV Pg (Instr.fieldAt 36 t5 3) (panK R) w fun t78 w =>
 opV Pg (Instr.loadAt 3 t78) (panK R) w fun t79 w =>
 callK Pg 65 #[t79] (panK R) w fun t80 w =>
 n36c3 t8 t80 K3 R w
def n36c5 (t5 t8:Value) (R:RT) (w:World):Prop :=
 opV Pg (Instr.fieldAt 36 t5 3) (panK R) w fun t74 w =>
 opV Pg (Instr.loadAt 3 t74) (panK R) w fun t75 w =>
 opV Pg (binS .geq 3 true t75 (.int .i64 0)) (panK R) w fun t76 w =>
 joinK (fun (t8:Value) (w:World) =>
 n36c2 t5 t8 R w) fun K3 =>
 condP t76 (
 n36c4 t5 t8 K3 R w) (
 K3 t8 w)
def n36c6 (t64 t67:Value) (C11:World→Prop) (K8:KV) (R:RT) (w:World):Prop :=
 qV Pg C11 (binS .add 9 true t64 (.string { data := #[45] })) fun t65 =>
 callK Pg 65 #[t67] (panK R) w fun t68 w =>
 C11 w∧(
 qV Pg C11 (binS .add 9 false t65 t68) fun t69 =>
 K8 t69 w)
def n36c7 (t11:Value) (C11:World→Prop) (K8:KV) (R:RT) (w:World):Prop :=
 qV Pg C11 (Instr.fieldAt 85 t11 0) fun t62 =>
 qV Pg C11 (Instr.loadAt 3 t62) fun t63 =>
 qV Pg C11 (Instr.fieldAt 85 t11 1) fun t66 =>
 qV Pg C11 (Instr.loadAt 3 t66) fun t67 =>
 callK Pg 65 #[t63] (panK R) w fun t64 w =>
 C11 w∧(
 n36c6 t64 t67 C11 K8 R w)
def n36c8 (t5 t9:Value) (C9:World→Prop) (K8:KV) (R:RT) (w:World):Prop :=
 qV Pg C9 (Instr.fieldAt 53 t9 1) fun t51 =>
 qV Pg C9 (Instr.loadAt 51 t51) fun t52 =>
 qV Pg C9 (Instr.fieldAt 36 t5 2) fun t53 =>
 qV Pg C9 (Instr.loadAt 3 t53) fun t54 =>
 qV Pg C9 (Instr.indexAt 51 t52 t54) fun t55 =>
 qV Pg C9 (Instr.fieldAt 71 t55 11) fun t56 =>
 qV Pg C9 (Instr.loadAt 69 t56) fun t57 =>
 qV Pg C9 (Instr.fieldAt 36 t5 4) fun t58 =>
 qV Pg C9 (Instr.loadAt 3 t58) fun t59 =>
 qV Pg C9 (Instr.indexAt 69 t57 t59) fun t60 =>
 qV Pg C9 (Instr.loadAt 85 t60) fun t61 =>
 opV Pg (Instr.alloc 85 true (.tuple #[])) (panK R) w fun t11 w =>
 C9 w∧(
 opU Pg (Instr.storeAt 85 t11 t61) (panK R) w fun w =>
 turnK w fun C10 w =>
 drawK w fun C11 w =>
 n36c7 t11 C11 K8 R w)
def n36c9 (t5 t9 t10 t19:Value) (K2:KV) (R:RT) (w:World):Prop :=
 opV Pg (Instr.fieldAt 36 t5 0) (panK R) w fun t48 w =>
 opV Pg (Instr.loadAt 34 t48) (panK R) w fun t49 w =>
 opV Pg (binS .eql 34 true t49 (.int .i64 8)) (panK R) w fun t50 w =>
 joinK (fun (t10:Value) (w:World) =>
 opV Pg (Instr.buildSlice 80 1 #[(0,t10)]) (panK R) w fun t72 w =>
 opV Pg (Builtin.append_ #[80,80] 80 #[t19,t72]) (panK R) w fun t73 w =>
 K2 t73 w) fun K8 =>
 condP t50 (
 drawK w fun C9 w =>
 n36c8 t5 t9 C9 K8 R w) (
 K8 t10 w)
def n36c10 (t5 t9 t34:Value) (K7:KV) (R:RT) (w:World):Prop :=
 opV Pg (Instr.fieldAt 53 t9 1) (panK R) w fun t39 w =>
 opV Pg (Instr.loadAt 51 t39) (panK R) w fun t40 w =>
 opV Pg (Instr.fieldAt 36 t5 2) (panK R) w fun t41 w =>
 opV Pg (Instr.loadAt 3 t41) (panK R) w fun t42 w =>
 opV Pg (Instr.indexAt 51 t40 t42) (panK R) w fun t43 w =>
 opV Pg (Instr.fieldAt 71 t43 0) (panK R) w fun t44 w =>
 opV Pg (Instr.loadAt 9 t44) (panK R) w fun t45 w =>
 opV Pg (binS .add 9 true (.string { data := #[46] }) t45) (panK R) w fun t46 w =>
 opV Pg (binS .add 9 false t34 t46) (panK R) w fun t47 w =>
 K7 t47 w
def n36c11 (t5 t9 t19:Value) (K2:KV) (R:RT) (w:World):Prop :=
 opV Pg (Instr.fieldAt 53 t9 0) (panK R) w fun t33 w =>
 opV Pg (Instr.loadAt 9 t33) (panK R) w fun t34 w =>
 opV Pg (Instr.fieldAt 36 t5 2) (panK R) w fun t35 w =>
 opV Pg (Instr.loadAt 3 t35) (panK R) w fun t36 w =>
 opV Pg (binS .geq 3 true t36 (.int .i64 0)) (panK R) w fun t37 w =>
 joinK (fun (t10:Value) (w:World) =>
 n36c9 t5 t9 t10 t19 K2 R w) fun K7 =>
 condP t37 (
 n36c10 t5 t9 t34 K7 R w) (
 K7 t34 w)
def n36c12 (t0 t5 t19:Value) (C5:World→Prop) (K2:KV) (R:RT) (w:World):Prop :=
 qN Pg C5 (nilN t0) fun t24 =>
 qV Pg C5 (Instr.fieldAt 61 t24 0) fun t25 =>
 qV Pg C5 (Instr.fieldAt 58 t25 0) fun t26 =>
 qV Pg C5 (Instr.fieldAt 24 t26 1) fun t27 =>
 qV Pg C5 (Instr.loadAt 22 t27) fun t28 =>
 qV Pg C5 (Instr.fieldAt 36 t5 1) fun t29 =>
 qV Pg C5 (Instr.loadAt 3 t29) fun t30 =>
 qV Pg C5 (Instr.indexAt 22 t28 t30) fun t31 =>
 qV Pg C5 (Instr.loadAt 53 t31) fun t32 =>
 opV Pg (Instr.alloc 53 true (.tuple #[])) (panK R) w fun t9 w =>
 C5 w∧(
 opU Pg (Instr.storeAt 53 t9 t32) (panK R) w fun w =>
 turnK w fun C6 w =>
 n36c11 t5 t9 t19 K2 R w)
def n36c13 (t0 t5 t19:Value) (R:RT) (w:World):Prop :=
 opV Pg (Instr.fieldAt 36 t5 1) (panK R) w fun t20 w =>
 opV Pg (Instr.loadAt 3 t20) (panK R) w fun t21 w =>
 opV Pg (binS .geq 3 true t21 (.int .i64 0)) (panK R) w fun t22 w =>
 joinK (fun (t8:Value) (w:World) =>
 n36c5 t5 t8 R w) fun K2 =>
 condP t22 (
 drawK w fun C5 w =>
 n36c12 t0 t5 t19 C5 K2 R w) (
 K2 t19 w)
def n36c14 (t0 t1 t5 t7:Value) (C1:World→Prop) (R:RT) (w:World):Prop :=
 qV Pg C1 (Instr.fieldAt 36 t5 0) fun t15 =>
 qV Pg C1 (Instr.loadAt 34 t15) fun t16 =>
 qV Pg C1 (Instr.indexAt 124 t7 t16) fun t17 =>
 qV Pg C1 (Instr.loadAt 9 t17) fun t18 =>
 callK Pg 65 #[t1] (panK R) w fun t14 w =>
 C1 w∧(
 opV Pg (Instr.buildSlice 80 2 #[(0,t14),(1,t18)]) (panK R) w fun t19 w =>
 C1 w∧(
 n36c13 t0 t5 t19 R w))
def n36 (t0 t1 t2:Value) (R:RT) (w:World):Prop :=
 opV Pg (Instr.box 36 t2) (panK R) w fun t5 w =>
 opV Pg (Instr.build 124 #[(0,(.string { data := #[] })),(1,(.string { data := #[99,97,108,108] })),(2,(.string { data := #[115,116,111,112] })),(3,(.string { data := #[101,110,116,101,114] })),(4,(.string { data := #[114,101,97,100] })),(5,(.string { data := #[111,110,101] })),(6,(.string { data := #[109,97,110,121] })),(7,(.string { data := #[115,101,108,101,99,116] })),(8,(.string { data := #[99,97,115,101] })),(9,(.string { data := #[118,105,101,119] })),(10,(.string { data := #[114,101,116,117,114,110] }))]) (panK R) w fun t12 w =>
 opV Pg (Instr.alloc 124 true (.tuple #[])) (panK R) w fun t7 w =>
 opU Pg (Instr.storeAt 124 t7 t12) (panK R) w fun w =>
 drawK w fun C1 w =>
 n36c14 t0 t1 t5 t7 C1 R w
set_option maxHeartbeats 40000000 in
theorem n36s {t0 t1 t2:Value} {R:RT} {w:World} (h:n36 t0 t1 t2 R w):Calls Pg 31 #[t0,t1,t2] w R:=by
 refine yD Tryz.func31 ?_
 refine zs<|zr<|yv h fun _ w h=>zm<|zn<|zk<|zs<|zr<|yB h fun _ w h=>yv h fun _ w h=>yu h fun w h=>zn<|zk<|zs<|yh [8,13,14,15,16,17,18,19] h fun C hC h=>?_
 refine yw 0 hC ?_
 refine ye 2 hC h fun _ h=>?_
 refine ye 3 hC h fun _ h=>?_
 refine ye 4 hC h fun _ h=>?_
 refine ye 5 hC h fun _ h=>?_
 refine yo 1 ?_
 refine yc h c65 fun _ w h=>zn ?_
 obtain ⟨hC,h⟩:=h
 refine ⟨hC,?_⟩
 refine yo 6 ?_
 refine yS h fun _ w h=>zn ?_
 obtain ⟨hC,h⟩:=h
 refine ⟨hC,?_⟩
 refine yw 7 hC ?_
 refine yz<|zk<|zs<|zs<|zr<|yv h fun _ w h=>yv h fun _ w h=>yb h fun _ w h=>zn<|zk<|yJ1 [8,9,10,11,23,24,25,26,27,28,29,30,31,32,33,34,35,36,37,38,39,40,41,42,43,44,45,46,47,48,49,50,51,52,53,54,55,56,57,58,59,60,61,62,63,64,65,66,67,68,69,70,71,72,73] 8 h (fun _ _ hkK2 h=>?_) fun σ w h=>?_
 · refine yC h (fun h=>?_) fun h=>?_
   · refine zs<|yh [9,23,24,25,26,27,28,29,30,31,32] h fun C hC h=>yw 0 hC ?_
     refine yn 1 hC h fun _ h=>?_
     refine ye 2 hC h fun _ h=>?_
     refine ye 3 hC h fun _ h=>?_
     refine ye 4 hC h fun _ h=>?_
     refine ye 5 hC h fun _ h=>?_
     refine ye 6 hC h fun _ h=>?_
     refine ye 7 hC h fun _ h=>?_
     refine ye 8 hC h fun _ h=>?_
     refine ye 9 hC h fun _ h=>?_
     refine yo 10 ?_
     refine yv h fun _ w h=>zn ?_
     obtain ⟨hC,h⟩:=h
     refine ⟨hC,?_⟩
     refine yq 11 1 ?_
     refine yu h fun w h=>zn ?_
     obtain ⟨C6,hC,h⟩:=h
     refine ⟨C6,hC,?_⟩
     refine yz<|zk<|zs<|zr<|yv h fun _ w h=>yv h fun _ w h=>zm<|zn<|zk<|zs<|zs<|zr<|yv h fun _ w h=>yv h fun _ w h=>yb h fun _ w h=>?_
     refine zn<|zk<|yJ1 [10,38,39,40,41,42,43,44,45,46,47] 10 h (fun _ _ hkK7 h=>?_) fun σ w h=>?_
     · refine yC h (fun h=>?_) fun h=>?_
       · refine zr<|zm<|yv h fun _ w h=>yv h fun _ w h=>yv h fun _ w h=>yv h fun _ w h=>yv h fun _ w h=>yv h fun _ w h=>yv h fun _ w h=>yb h fun _ w h=>yb h fun _ w h=>zm<|zn<|zk ?_
         exact zt hkK7 h
       refine sim_skip<|zk ?_
       exact zt hkK7 h
     refine zk<|zs<|zs<|zr<|yv h fun _ w h=>yv h fun _ w h=>yb h fun _ w h=>zn<|zk<|yJ1 [10,11,51,52,53,54,55,56,57,58,59,60,61,62,63,64,65,66,67,68,69] 10 h (fun _ _ hkK8 h=>?_) fun σ w h=>?_
     · refine yC h (fun h=>?_) fun h=>?_
       · refine zs<|yh [11,51,52,53,54,55,56,57,58,59,60,61] h fun C hC h=>ye 0 hC h fun _ h=>?_
         refine ye 1 hC h fun _ h=>?_
         refine ye 2 hC h fun _ h=>?_
         refine ye 3 hC h fun _ h=>?_
         refine ye 4 hC h fun _ h=>?_
         refine ye 5 hC h fun _ h=>?_
         refine ye 6 hC h fun _ h=>?_
         refine ye 7 hC h fun _ h=>?_
         refine ye 8 hC h fun _ h=>?_
         refine ye 9 hC h fun _ h=>?_
         refine ye 10 hC h fun _ h=>?_
         refine yo 11 ?_
         refine yv h fun _ w h=>zn ?_
         obtain ⟨hC,h⟩:=h
         refine ⟨hC,?_⟩
         refine yq 12 1 ?_
         refine yu h fun w h=>zn ?_
         obtain ⟨C10,hC,h⟩:=h
         refine ⟨C10,hC,?_⟩
         refine yz<|zk<|yh [10,62,63,64,65,66,67,68,69] h fun C hC h=>ye 0 hC h fun _ h=>?_
         refine ye 1 hC h fun _ h=>?_
         refine ye 4 hC h fun _ h=>?_
         refine ye 5 hC h fun _ h=>?_
         refine yo 2 ?_
         refine yc h c65 fun _ w h=>zn ?_
         obtain ⟨hC,h⟩:=h
         refine ⟨hC,?_⟩
         refine ye 3 hC h fun _ h=>?_
         refine yo 6 ?_
         refine yc h c65 fun _ w h=>zn ?_
         obtain ⟨hC,h⟩:=h
         refine ⟨hC,?_⟩
         refine ye 7 hC h fun _ h=>?_
         refine yw 8 hC ?_
         refine yz<|zk ?_
         exact zt hkK8 h
       refine sim_skip<|zk ?_
       exact zt hkK8 h
     refine zk<|zr<|zm<|zm<|yS h fun _ w h=>yx h fun _ w h=>zm<|zn<|zk ?_
     exact zt hkK2 h
   refine sim_skip<|zk ?_
   exact zt hkK2 h
 refine zk<|zs<|zs<|zr<|yv h fun _ w h=>yv h fun _ w h=>yb h fun _ w h=>zn<|zk<|yJ1 [8,77,78,79,80,81,82,83] 8 h (fun _ _ hkK3 h=>?_) fun σ w h=>?_
 · refine yC h (fun h=>?_) fun h=>?_
   · refine zr<|zm<|yv h fun _ w h=>yv h fun _ w h=>yc h c65 fun _ w h=>yb h fun _ w h=>yS h fun _ w h=>yx h fun _ w h=>zm<|zn<|zk ?_
     exact zt hkK3 h
   refine sim_skip<|zk ?_
   exact zt hkK3 h
 refine zk<|zs<|zs<|zr<|yv h fun _ w h=>yv h fun _ w h=>yb h fun _ w h=>zn<|zk<|yJ1 [8,87,88,89,90,91,92] 8 h (fun _ _ hkK4 h=>?_) fun σ w h=>?_
 · refine yC h (fun h=>?_) fun h=>?_
   · refine zr<|zm<|yv h fun _ w h=>yv h fun _ w h=>yc h c65 fun _ w h=>yS h fun _ w h=>yx h fun _ w h=>zm<|zn<|zk ?_
     exact zt hkK4 h
   refine sim_skip<|zk ?_
   exact zt hkK4 h
 exact zk<|zs<|zr<|zm<|yc h c32 fun _ w h=>zm<|zn<|zk<|sim_ret<|body_ret1 rfl rfl h
def n37 (t0:Value) (R:RT) (w:World):Prop :=
 opV Pg (binS .eql 27 true t0 (Value.pointer none)) (panK R) w fun t4 w =>
 joinK (fun (t11:Value) (w:World) =>
 pickK t4 (.bool true) t11 fun t12 =>
 R (.returned t12) w) fun K1 =>
 guardP t4 false (
 opN Pg (nilN t0) (panK R) w fun t7 w =>
 opV Pg (Instr.fieldAt 61 t7 1) (panK R) w fun t8 w =>
 opV Pg (Instr.loadAt 32 t8) (panK R) w fun t9 w =>
 opV Pg (Builtin.len_ #[32] 3 #[t9]) (panK R) w fun t10 w =>
 opV Pg (binS .eql 3 true t10 (.int .i64 0)) (panK R) w fun t11 w =>
 K1 t11 w) (
 K1 undef w)
theorem n37s {t0:Value} {R:RT} {w:World} (h:n37 t0 R w):Calls Pg 36 #[t0] w R:=by
 refine yD Tryz.func36 ?_
 refine zs<|zr<|zm<|zn<|zk<|zs<|sim_regionG<|yG 3<|zm<|yb h fun _ w h=>zm<|zn<|yg1 6 2 false [6,7,8,9,10,11] 11 h (fun _ T hT h=>?_) fun σ w h=>?_
 · refine zm<|yN h fun _ w h=>yv h fun _ w h=>yv h fun _ w h=>yx h fun _ w h=>yb h fun _ w h=>zn ?_
   exact zt hT h
 exact yG 2<|yp h fun _ h=>zm<|zn<|sim_end<|zk<|sim_ret<|body_ret1 rfl rfl h
def n38 (t0:Value) (R:RT) (w:World):Prop :=
 opV Pg (Instr.buildSlice 32 0 #[]) (panK R) w fun t3 w =>
 opV Pg (Builtin.append_ #[32,32] 32 #[t3,t0]) (panK R) w fun t5 w =>
 R (.returned t5) w
theorem n38s {t0:Value} {R:RT} {w:World} (h:n38 t0 R w):Calls Pg 37 #[t0] w R:=by
 refine yD Tryz.func37 ?_
 exact zs<|zr<|zm<|zn<|zk<|zs<|zr<|yS h fun _ w h=>zm<|yx h fun _ w h=>zm<|zn<|zk<|sim_ret<|body_ret1 rfl rfl h
def n28c1 (t0 t5 t7:Value) (K1:World→Prop) (next2:KV) (R:RT) (w:World):Prop :=
 opV Pg (Instr.indexAt 32 t5 t7) (panK R) w fun t10 w =>
 opV Pg (Instr.loadAt 36 t10) (panK R) w fun t11 w =>
 opV Pg (Instr.alloc 36 true (.tuple #[])) (panK R) w fun t4 w =>
 opU Pg (Instr.storeAt 36 t4 t11) (panK R) w fun w =>
 opV Pg (Instr.loadAt 36 t4) (panK R) w fun t14 w =>
 callV Pg t0 #[t7,t14] (panK R) w fun t15 w =>
 opV Pg (Op.unary .not t15) (panK R) w fun t16 w =>
 condP t16 (
 K1 w) (
 opV Pg (binS .add 3 true t7 (.int .i64 1)) (panK R) w fun t17 w =>
 next2 t17 w)
def n28 (t0 t1:Value) (R:RT) (w:World):Prop :=
 opV Pg (Instr.loadAt 32 t1) (panK R) w fun t5 w =>
 opV Pg (Builtin.len_ #[32] 3 #[t5]) (panK R) w fun t6 w =>
 joinK (fun (w:World) =>
 R (.returned (.tuple #[])) w) fun K1 =>
 loop1 (fun t7 w next2 =>
 opV Pg (binS .lss 3 false t7 t6) (panK R) w fun t8 w =>
 condP t8 (
 n28c1 t0 t5 t7 K1 next2 R w) (
 K1 w)) (.int .i64 0) w
theorem n28s {t0 t1:Value} {R:RT} {w:World} (h:n28 t0 t1 R w):Calls Pg 38 #[t0,t1] w R:=by
 refine yD Tryz.func38 ?_
 refine sim_scope<|zs<|sim_label<|zk<|zs<|zr<|yv h fun _ w h=>yx h fun _ w h=>zm<|zn<|zk<|yJ0 [3,4,7,8,9,10,11,12,13,14,15,16,17] h (fun _ _ hkK1 h=>?_) fun σ w h=>?_
 · refine sim_block<|yl1 [3,4,7,8,9,10,11,12,13,14,15,16,17] 7 h fun σ w next h=>zs<|zr<|yb h fun _ w h=>zn<|zk<|zs<|yC h (fun h=>?_) fun h=>?_
   · refine sim_skip<|zk<|zs<|sim_block<|zs<|zr<|zm<|yv h fun _ w h=>yv h fun _ w h=>yv h fun _ w h=>zm<|yu h fun w h=>zn<|zk<|zs ?_
     refine zr<|zm<|zm<|yv h fun _ w h=>yV h fun _ w h=>yv h fun _ w h=>zn<|zk<|yC h (fun h=>?_) fun h=>?_
     · refine sim_exit<|sim_block_miss rfl<|sim_then_exit<|sim_then_exit<|sim_block_hit<|zk ?_
       exact zt hkK1 h
     exact sim_skip<|sim_block_normal<|zk<|zr<|yb h fun _ w h=>zm<|zn<|zk<|⟨rfl,h⟩
   refine sim_exit<|sim_then_exit<|sim_then_exit<|sim_block_hit<|zk ?_
   exact zt hkK1 h
 exact body_normal<|body_ret0 rfl h
def n25c1 (t4:Value) (R:RT) (w:World):Prop :=
 opV Pg (Instr.build 36 #[]) (panK R) w fun t22 w =>
 opU Pg (Instr.storeAt 36 t4 t22) (panK R) w fun w =>
 qW Pg 36 t4 w fun r0 =>
 R (.returned (.tuple #[r0,(.int .i64 3)])) w
def n25c2 (t0 t1 t4:Value) (R:RT) (w:World):Prop :=
 opN Pg (nilN t0) (panK R) w fun t24 w =>
 opV Pg (Instr.fieldAt 61 t24 1) (panK R) w fun t25 w =>
 opV Pg (Instr.loadAt 32 t25) (panK R) w fun t26 w =>
 opV Pg (Instr.indexAt 32 t26 t1) (panK R) w fun t28 w =>
 opV Pg (Instr.loadAt 36 t28) (panK R) w fun t29 w =>
 opU Pg (Instr.storeAt 36 t4 t29) (panK R) w fun w =>
 qW Pg 36 t4 w fun r0 =>
 R (.returned (.tuple #[r0,(.int .i64 0)])) w
def n25c3 (t4:Value) (R:RT) (w:World):Prop :=
 opV Pg (Instr.build 36 #[]) (panK R) w fun t9 w =>
 opU Pg (Instr.storeAt 36 t4 t9) (panK R) w fun w =>
 qW Pg 36 t4 w fun r0 =>
 R (.returned (.tuple #[r0,(.int .i64 1)])) w
def n25c4 (t0 t1 t4:Value) (R:RT) (w:World):Prop :=
 opV Pg (binS .lss 3 true t1 (.int .i64 0)) (panK R) w fun t12 w =>
 joinK (fun (t20:Value) (w:World) =>
 pickK t12 (.bool true) t20 fun t21 =>
 condP t21 (
 n25c1 t4 R w) (
 n25c2 t0 t1 t4 R w)) fun K1 =>
 guardP t12 false (
 opN Pg (nilN t0) (panK R) w fun t16 w =>
 opV Pg (Instr.fieldAt 61 t16 1) (panK R) w fun t17 w =>
 opV Pg (Instr.loadAt 32 t17) (panK R) w fun t18 w =>
 opV Pg (Builtin.len_ #[32] 3 #[t18]) (panK R) w fun t19 w =>
 opV Pg (binS .geq 3 false t1 t19) (panK R) w fun t20 w =>
 K1 t20 w) (
 K1 undef w)
def n25 (t0 t1:Value) (R:RT) (w:World):Prop :=
 opV Pg (Instr.alloc 36 true (.tuple #[])) (panK R) w fun t4 w =>
 callK Pg 36 #[t0] (panK R) w fun t8 w =>
 condP t8 (
 n25c3 t4 R w) (
 n25c4 t0 t1 t4 R w)
theorem n25s {t0 t1:Value} {R:RT} {w:World} (h:n25 t0 t1 R w):Calls Pg 14 #[t0,t1] w R:=by
 refine yD Tryz.func14 ?_
 refine zs<|zr<|yv h fun _ w h=>zm<|zn<|zk<|zs<|sim_block<|zs<|zr<|zm<|yc h c36 fun _ w h=>zm<|zn<|zk ?_
 refine yC h (fun h=>zs<|zr<|yB h fun _ w h=>yu h fun w h=>zm<|zn<|zk<|sim_ret<|sim_block_ret<|sim_then_ret<|body_retCT rfl rfl rfl h) fun h=>zs<|sim_regionG<|yG 3<|zm<|yb h fun _ w h=>zm<|zn<|yg1 7 2 false [14,15,16,17,18,19,20] 20 h (fun _ T hT h=>?_) fun σ w h=>?_
 · refine zm<|zm<|yN h fun _ w h=>yv h fun _ w h=>yv h fun _ w h=>yx h fun _ w h=>yb h fun _ w h=>zn ?_
   exact zt hT h
 refine yG 2<|yp h fun _ h=>zm<|zn<|sim_end<|zk<|yC h (fun h=>zs<|zr<|yB h fun _ w h=>yu h fun w h=>zm<|zn<|zk<|sim_ret<|sim_block_ret<|sim_then_ret<|body_retCT rfl rfl rfl h) fun h=>sim_skip<|sim_block_normal<|zk<|zs<|zr<|zm<|yN h fun _ w h=>?_
 exact yv h fun _ w h=>yv h fun _ w h=>zm<|yv h fun _ w h=>yv h fun _ w h=>yu h fun w h=>zm<|zn<|zk<|sim_ret<|body_retCT rfl rfl rfl h
def n21 (t0:Value) (R:RT) (w:World):Prop :=
 R (.returned t0) w
theorem n21s {t0:Value} {R:RT} {w:World} (h:n21 t0 R w):Calls Pg 15 #[t0] w R:=by
 refine yD Tryz.func15 ?_
 exact zs<|zr<|zm<|zn<|zk<|zs<|zr<|zm<|zm<|zn<|zk<|sim_ret<|body_ret1 rfl rfl h
def n27c1 (t0 t3:Value) (K1:World→Prop) (R:RT) (w:World):Prop :=
 opN Pg (nilN t0) (panK R) w fun t8 w =>
 opV Pg (Instr.fieldAt 61 t8 1) (panK R) w fun t9 w =>
 opV Pg (Instr.loadAt 32 t9) (panK R) w fun t10 w =>
 callK Pg 37 #[t10] (panK R) w fun t11 w =>
 opU Pg (Instr.storeAt 32 t3 t11) (panK R) w fun w =>
 K1 w
def n27c2 (t0 t3 t5:Value) (R:RT) (w:World):Prop :=
 opV Pg (Op.unary .not t5) (panK R) w fun t6 w =>
 joinK (fun (w:World) =>
 opV Pg (Instr.makeFunc (.func 38) #[] #[t3]) (panK R) w fun t12 w =>
 R (.returned t12) w) fun K1 =>
 condP t6 (
 n27c1 t0 t3 K1 R w) (
 K1 w)
def n27 (t0:Value) (R:RT) (w:World):Prop :=
 opV Pg (Instr.alloc 32 true (.tuple #[])) (panK R) w fun t3 w =>
 callK Pg 36 #[t0] (panK R) w fun t5 w =>
 n27c2 t0 t3 t5 R w
theorem n27s {t0:Value} {R:RT} {w:World} (h:n27 t0 R w):Calls Pg 16 #[t0] w R:=by
 refine yD Tryz.func16 ?_
 refine zs<|zr<|zm<|zn<|zk<|zs<|zr<|yv h fun _ w h=>zn<|zk<|zs<|zs<|zr<|zm<|yc h c36 fun _ w h=>?_
 refine yv h fun _ w h=>zn<|zk<|yJ0 [7,8,9,10,11] h (fun _ _ hkK1 h=>?_) fun σ w h=>?_
 · refine yC h (fun h=>?_) fun h=>?_
   · refine zr<|zm<|yN h fun _ w h=>yv h fun _ w h=>yv h fun _ w h=>yc h c37 fun _ w h=>yu h fun w h=>zn<|zk ?_
     exact zt hkK1 h
   refine sim_skip<|zk ?_
   exact zt hkK1 h
 exact zk<|zs<|zr<|yF h fun _ w h=>zm<|zn<|zk<|sim_ret<|body_ret1 rfl rfl h
def n29c1 (t0:Value) (R:RT) (w:World):Prop :=
 opN Pg (nilN t0) (panK R) w fun t6 w =>
 opV Pg (Instr.fieldAt 61 t6 1) (panK R) w fun t7 w =>
 opV Pg (Instr.loadAt 32 t7) (panK R) w fun t8 w =>
 opV Pg (Builtin.len_ #[32] 3 #[t8]) (panK R) w fun t9 w =>
 R (.returned t9) w
def n29 (t0:Value) (R:RT) (w:World):Prop :=
 callK Pg 36 #[t0] (panK R) w fun t4 w =>
 condP t4 (
 R (.returned (.int .i64 0)) w) (
 n29c1 t0 R w)
theorem n29s {t0:Value} {R:RT} {w:World} (h:n29 t0 R w):Calls Pg 17 #[t0] w R:=by
 refine yD Tryz.func17 ?_
 refine zs<|zr<|zm<|zn<|zk<|zs<|zs<|zr<|zm<|yc h c36 fun _ w h=>zn<|zk<|yC h (fun h=>zs<|zr<|zm<|zn<|zk<|sim_ret<|sim_then_ret<|body_ret1 rfl rfl h) fun h=>sim_skip ?_
 exact zk<|zs<|zr<|zm<|yN h fun _ w h=>yv h fun _ w h=>yv h fun _ w h=>yx h fun _ w h=>zm<|zn<|zk<|sim_ret<|body_ret1 rfl rfl h
section
variable {P:Program} {QP:List PanicEntry→World→Prop} {w:World} {k:Value→World→Prop}
theorem eqNil_p (d0:Nat) {t e:TypeId} (hu:P.underlying t=some (.pointer e)) (a:Option Addr):(Op.equalIn (d0+1) t (.pointer a) (.pointer none)).run P w = .ok a.isNone w:=by cases a<;>simp [Op.equalIn,run_underlying hu]
theorem op_eqNilP {t e:TypeId} (hu:P.underlying t=some (.pointer e)) (c:Bool) (a:Option Addr):opV P (binS .eql t c (.pointer a) (.pointer none)) QP w k=k (.bool a.isNone) w:=opV_ok (run_eqv (eqNil_p 9999 hu a))
end
abbrev zeroCells:List Value:=[.string ByteArray.empty,.slice none 0 0,.string ByteArray.empty,.slice none 0 0,.map none,.map none]
theorem ext_set6 {w w':World} (e:Ext w w') {b:Nat} (hb:w.heap.size≤b) (v0 v1 v2 v3 v4 v5:Value):Ext w ((((((w'.setCell ⟨b,0,none⟩ v0).setCell ⟨b,1,none⟩ v1).setCell ⟨b,2,none⟩ v2).setCell ⟨b,3,none⟩ v3).setCell ⟨b,4,none⟩ v4).setCell ⟨b,5,none⟩ v5) :=
 (((((e.setCell (p:=⟨b,0,none⟩) hb _).setCell (p:=⟨b,1,none⟩) hb _).setCell (p:=⟨b,2,none⟩) hb _).setCell (p:=⟨b,3,none⟩) hb _).setCell (p:=⟨b,4,none⟩) hb _).setCell (p:=⟨b,5,none⟩) hb _
def NoProg (w:World) (p:Value):Prop:=p = .pointer none∨∃ pb,p = .pointer (some ⟨pb,0,none⟩)∧w.heap[pb]?=some (.cells zeroCells.toArray 61 (0,0))
theorem NoProg.ext {w w':World} {p:Value} (h:NoProg w p) (e:Ext w w'):NoProg w' p:=h.imp id fun ⟨pb,h1,h2⟩=>⟨pb,h1,e.obj h2⟩
theorem codeP_len (d:DefD):(codeP d).length=sizeP d:=by
 unfold codeP sizeP
 rw [List.length_append,← codeN_len (rt:=toR d.msgs (reachD d))]
 show 2+_=_
 omega
theorem sizeP_pos (d:DefD):2≤sizeP d:=by rw [← codeP_len];unfold codeP;rw [List.length_append];show 2≤2+_;omega
def zeroI:InsD:=⟨0,0,0,0,0,0⟩
section
variable {w:World} {lo pb:Nat} {d:DefD}
theorem ProgAt.code (h:ProgAt w lo pb d):∃ mc rm gm g cap,w.heap[pb]?=some (.cells (progCells d mc (.slice (some ⟨g,0,none⟩) (sizeP d) cap) rm gm).toArray 61 (0,0))∧OwnE w lo TI 6 insCells (.slice (some ⟨g,0,none⟩) (sizeP d) cap) (codeP d)∧(∀ k x,(codeP d)[k]?=some x→ElemAt w g (k*6) (insCells x))∧sizeP d≤cap:=by
 obtain ⟨mc,cv,rm,gm,h1,_,_,_,_,h2,_⟩:=h
 have hp:=sizeP_pos d
 have hl:=codeP_len d
 have hs:=h2.slice (E:=fun _ cs x=>cs=insCells x) (fun _=>rfl) (fun _ _=>rfl)
 obtain ⟨g,cap,rfl,_,_,_,_,hE⟩:=h2.row (fun _=>rfl) (by omega)
 obtain ⟨A,c,hv,hlc,_⟩:=SliceOf.open hs
 injection hv with _ _ hv
 rw [hl] at h1 h2
 exact ⟨mc,rm,gm,g,cap,h1,h2,hE,by omega⟩
theorem none_ret (h:ProgAt w lo pb d):Ret Pg 36 #[.pointer (some ⟨pb,0,none⟩)] w fun r w'=>r = .bool false∧Ext w w':=by
 obtain ⟨mc,rm,gm,g,cap,h1,_⟩:=h.code
 have hp:=sizeP_pos d
 have hz:((sizeP d:Int) == 0)=false:=by simp;omega
 refine n37s (R:=retR _) ?_;unfold n37
 rw [op_eqNilP Tryz.underlying27]
 simp (disch:=try exact DI) only [↓PR,QR,simprocAttr,(cells_of_heap h1).1,hz,Option.isNone_some]
 exact ⟨by trivial,Ext.refl _⟩
theorem isnone_ret {p:Value} (h:NoProg w p):Ret Pg 36 #[p] w fun r w'=>r = .bool true∧Ext w w':=by
 refine n37s (R:=retR _) ?_;unfold n37
 rcases h with rfl | ⟨pb,rfl,h1⟩
 · rw [op_eqNilP Tryz.underlying27]
   simp (disch:=try exact DI) only [↓PR,QR,simprocAttr,Option.isNone_none]
   exact ⟨by trivial,Ext.refl _⟩
 · rw [op_eqNilP Tryz.underlying27]
   simp (disch:=try exact DI) only [↓PR,QR,simprocAttr,(cells_of_heap h1).1,Option.isNone_some]
   exact ⟨by trivial,Ext.refl _⟩
theorem Len_ret (h:ProgAt w lo pb d):Ret Pg 17 #[.pointer (some ⟨pb,0,none⟩)] w fun r w'=>r = .int .i64 (sizeP d:Int)∧Ext w w':=by
 refine n29s (R:=retR _) ?_;unfold n29
 refine zcr (none_ret h) fun w1 e1=>?_
 obtain ⟨mc,rm,gm,g,cap,h1,_⟩:=(h.ext e1).code
 simp (disch:=try exact DI) only [↓PR,QR,simprocAttr,↓n29c1,(cells_of_heap h1).1]
 exact ⟨by first | trivial | rfl,ee⟩
theorem LenN_ret {p:Value} (h:NoProg w p):Ret Pg 17 #[p] w fun r w'=>r = .int .i64 0∧Ext w w':=by
 refine n29s (R:=retR _) ?_;unfold n29
 refine zcr (isnone_ret h) fun w1 e1=>?_
 simp (disch:=try exact DI) only [↓PR,QR,simprocAttr]
 exact ⟨by first | trivial | rfl,ee⟩
theorem AtN_ret {p:Value} (h:NoProg w p) (i:Int):Ret Pg 14 #[p,.int .i64 i] w fun r w'=>r = .tuple #[insVal zeroI,.int .i64 1]∧Ext w w':=by
 refine n25s (R:=retR _) ?_;unfold n25
 simp (disch:=try exact DI) only [↓PR,QR,simprocAttr]
 generalize hW:World.alloc w _=W
 have eW:Ext w W:=by rw [← hW];exact ee
 have oW:W.heap[w.heap.size]?=some (.cells (insCells zeroI).toArray TI (0,0)):=by rw [← hW];exact heap_new _ _ _
 clear hW
 refine zcr (isnone_ret (h.ext eW)) fun w1 e1=>?_
 have E1:=eW.trans e1
 have q1:=e1.obj oW
 simp (disch:=try exact DI) only [↓PR,QR,simprocAttr,↓n25c3,(cells_of_heap q1).1,(cells_of_heap q1).2]
 exact ⟨rfl,ext_set6 E1 (Nat.le_refl _) _ _ _ _ _ _⟩
theorem found_ret (h:ProgAt w lo pb d) (s:ByteArray) {fn:FuncId} {cp rr:Nat} {φ:ByteArray→Option Int} (hc:Callable Pg fn) (hM:MapI w rr φ) (hfn:∀ w',Ext w w'→Ret Pg fn #[.pointer (some ⟨cp,0,none⟩)] w' fun r w''=>r = .map (some rr)∧Ext w' w'') :
 Ret Pg 49 #[.pointer (some ⟨pb,0,none⟩),.string s,.func (.func fn) #[] #[.pointer (some ⟨cp,0,none⟩)]] w fun r w'=>r = .tuple #[.int .i64 ((φ s).getD 0),.int .i64 (if (φ s).isSome then 0 else 9)]∧Ext w w':=by
 refine n35s (R:=retR _) ?_;unfold n35
 refine zcr (none_ret h) fun w1 e1=>?_
 simp (disch:=try exact DI) only [↓PR,QR,simprocAttr]
 rw [callV_func hc]
 simp only [Array.empty_append,List.push_toArray,List.append_toArray,Array.append_eq_append,List.nil_append]
 refine zcr (hfn w1 e1) fun w2 e2=>?_
 unfold n35c1
 rw [(hM.ext (e1.trans e2)).look2]
 cases hf:φ s with
 | none=>simp (disch:=try exact DI) only [↓PR,QR,simprocAttr,Option.isSome_none,Option.getD_none];exact ⟨by trivial,e1.trans e2⟩
 | some n=>simp (disch:=try exact DI) only [↓PR,QR,simprocAttr,Option.isSome_some,Option.getD_some];exact ⟨by trivial,e1.trans e2⟩
theorem foundN_ret {p v:Value} (h:NoProg w p) (s:ByteArray):Ret Pg 49 #[p,.string s,v] w fun r w'=>r = .tuple #[.int .i64 0,.int .i64 1]∧Ext w w':=by
 refine n35s (R:=retR _) ?_;unfold n35
 refine zcr (isnone_ret h) fun w1 e1=>?_
 simp (disch:=try exact DI) only [↓PR,QR,simprocAttr]
 exact ⟨by trivial,e1⟩
def routE (d:DefD) (s:ByteArray):Option Int:=mapF d.msgs (reachD d) (fun i=>(routN d.msgs (reachD d) i:Int)) d.msgs.length s
def regE (d:DefD) (s:ByteArray):Option Int:=mapF d.msgs (reachD d) (cntM d.msgs) d.msgs.length s
theorem Routine_ret (h:ProgAt w lo pb d) (s:ByteArray):Ret Pg 22 #[.pointer (some ⟨pb,0,none⟩),.string s] w fun r w'=>r = .tuple #[.int .i64 ((routE d s).getD 0),.int .i64 (if (routE d s).isSome then 0 else 9)]∧Ext w w':=by
 refine n32s (R:=retR _) ?_;unfold n32
 simp (disch:=try exact DI) only [↓PR,QR,simprocAttr]
 generalize hV:World.alloc w _=W
 have eW:Ext w W:=by rw [← hV];exact ee
 have oW:W.heap[w.heap.size]?=some (.cells #[.pointer (some ⟨pb,0,none⟩)] 27 (0,0)):=by rw [← hV];exact heap_new _ _ _
 clear hV
 have hW:=h.ext eW
 obtain ⟨mc,cv,rm,gm,h1,h2,h3,h4,h5,h6,h7,h8⟩:=id hW
 refine callK_ret (found_ret hW s (φ:=routE d) c51 h7 fun w' e=>?_) ?_
 · refine n33s (R:=retR _) ?_;unfold n33
   simp (disch:=try exact DI) only [↓PR,QR,simprocAttr,(cells_of_heap (e.obj oW)).1,(cells_of_heap (e.obj h1)).1]
   exact ⟨by trivial,Ext.refl _⟩
 rintro _ w2 ⟨rfl,e2⟩
 simp (disch:=try exact DI) only [↓PR,QR,simprocAttr]
 exact ⟨by trivial,eW.trans e2⟩
theorem Registers_ret (h:ProgAt w lo pb d) (s:ByteArray):Ret Pg 21 #[.pointer (some ⟨pb,0,none⟩),.string s] w fun r w'=>r = .tuple #[.int .i64 ((regE d s).getD 0),.int .i64 (if (regE d s).isSome then 0 else 9)]∧Ext w w':=by
 refine n30s (R:=retR _) ?_;unfold n30
 simp (disch:=try exact DI) only [↓PR,QR,simprocAttr]
 generalize hV:World.alloc w _=W
 have eW:Ext w W:=by rw [← hV];exact ee
 have oW:W.heap[w.heap.size]?=some (.cells #[.pointer (some ⟨pb,0,none⟩)] 27 (0,0)):=by rw [← hV];exact heap_new _ _ _
 clear hV
 have hW:=h.ext eW
 obtain ⟨mc,cv,rm,gm,h1,h2,h3,h4,h5,h6,h7,h8⟩:=id hW
 refine callK_ret (found_ret hW s (φ:=regE d) c50 h8 fun w' e=>?_) ?_
 · refine n31s (R:=retR _) ?_;unfold n31
   simp (disch:=try exact DI) only [↓PR,QR,simprocAttr,(cells_of_heap (e.obj oW)).1,(cells_of_heap (e.obj h1)).1]
   exact ⟨by trivial,Ext.refl _⟩
 rintro _ w2 ⟨rfl,e2⟩
 simp (disch:=try exact DI) only [↓PR,QR,simprocAttr]
 exact ⟨by trivial,eW.trans e2⟩
theorem RoutineN_ret {p:Value} (h:NoProg w p) (s:ByteArray):Ret Pg 22 #[p,.string s] w fun r w'=>r = .tuple #[.int .i64 0,.int .i64 1]∧Ext w w':=by
 have hp:p.oneCell'=true:=by rcases h with rfl | ⟨pb,rfl,_⟩<;>rfl
 refine n32s (R:=retR _) ?_;unfold n32
 simp (disch:=try exact DI) only [↓PR,QR,simprocAttr]
 simp only [cells_one hp]
 simp (disch:=try exact DI) only [↓PR,QR,simprocAttr]
 generalize hV:World.alloc _ _=V
 have eV:Ext w V:=by rw [← hV];exact ee
 refine zcr (foundN_ret (h.ext eV) s) fun w2 e2=>?_
 simp (disch:=try exact DI) only [↓PR,QR,simprocAttr]
 exact ⟨by trivial,eV.trans e2⟩
theorem RegistersN_ret {p:Value} (h:NoProg w p) (s:ByteArray):Ret Pg 21 #[p,.string s] w fun r w'=>r = .tuple #[.int .i64 0,.int .i64 1]∧Ext w w':=by
 have hp:p.oneCell'=true:=by rcases h with rfl | ⟨pb,rfl,_⟩<;>rfl
 refine n30s (R:=retR _) ?_;unfold n30
 simp (disch:=try exact DI) only [↓PR,QR,simprocAttr]
 simp only [cells_one hp]
 simp (disch:=try exact DI) only [↓PR,QR,simprocAttr]
 generalize hV:World.alloc _ _=V
 have eV:Ext w V:=by rw [← hV];exact ee
 refine zcr (foundN_ret (h.ext eV) s) fun w2 e2=>?_
 simp (disch:=try exact DI) only [↓PR,QR,simprocAttr]
 exact ⟨by trivial,eV.trans e2⟩
theorem DefinitionN_ret {p:Value} (h:NoProg w p):Ret Pg 23 #[p] w fun r w'=>r = .agg (defCells nilDef (.slice none 0 0)).toArray∧Ext w w':=by
 refine n26s (R:=retR _) ?_;unfold n26
 simp (disch:=try exact DI) only [↓PR,QR,simprocAttr]
 generalize hW:World.alloc w _=W
 have eW:Ext w W:=by rw [← hW];exact ee
 have oW:W.heap[w.heap.size]?=some (.cells (defCells nilDef (.slice none 0 0)).toArray 24 (0,0)):=by rw [← hW];exact heap_new _ _ _
 clear hW
 refine zcr (isnone_ret (h.ext eW)) fun w1 e1=>?_
 have E1:=eW.trans e1
 have q1:=e1.obj oW
 generalize hp:w.heap.size=p at *
 simp (disch:=try exact DI) only [↓PR,QR,simprocAttr,↓n26c2,(cells_of_heap q1).1,(cells_of_heap q1).2]
 have hb:w.heap.size≤p:=by omega
 exact ⟨rfl,((E1.setCell (p:=⟨p,0,none⟩) hb _).setCell (p:=⟨p,1,none⟩) hb _).setCell (p:=⟨p,2,none⟩) hb _⟩
end
abbrev OwnS (w:World) (base:Nat) (v:Value) (l:List ByteArray):Prop:=OwnE w base 9 1 strEnc v l
def FineF (deps:List (ByteArray×Int)) (strs:List (ByteArray×Bool)) (l:List FieldD):Prop:=∀ (j:Nat) (f:FieldD),l[j]?=some f→examineC (l.take j) (vI deps) (vB strs) f=0
theorem withinQ {hi lo n:Int} {l:List Int} (h:withinC hi lo (n::l)=0):lo≤n∧n≤hi∧withinC hi n l=0:=by
 rw [withinC,orC_iff,needC_iff (by decide)] at h
 simp only [Bool.and_eq_true,decide_eq_true_eq] at h
 exact ⟨h.1.1,h.1.2,h.2⟩
theorem top_in {f:FieldD} (h:bitsB f=true):topF f≤34359738367:=by
 unfold bitsB at h
 simp only [Bool.and_eq_true,decide_eq_true_eq] at h
 obtain ⟨⟨h1,h2⟩,_⟩:=h
 unfold topF
 obtain ⟨n,hn⟩:∃ n:Nat,f.bits=n:=⟨f.bits.toNat,by omega⟩
 rw [hn,Int.toNat_natCast]
 have hn:n≤32:=by omega
 have key:∀ n:Nat,n≤32→(2:Int) ^ n - 1≤34359738367:=by decide
 exact key n hn
theorem exam_check {bef:List FieldD} {deps strs:List (ByteArray×Value)} {f:FieldD} (h:examineC bef deps strs f=0):checkC bef deps strs f=0:=by
 unfold examineC at h
 rw [orC_iff,orC_iff,orC_iff,orC_iff] at h
 exact h.2.2.2.2
theorem num_in {deps:List (ByteArray×Int)} {strs:List (ByteArray×Bool)} {l:List FieldD} (hF:FineF deps strs l) {g:FieldD} (hg:g∈l) (hn:numberB g=true):0≤g.low∧highOf g≤34359738367:=by
 obtain ⟨j,hj⟩:=List.getElem?_of_mem hg
 have h:=exam_check (hF j g hj)
 unfold checkC at h
 by_cases h1:g.kind=1
 · rw [if_pos h1,orC_iff,needC_iff (by decide)] at h
   have a:=withinQ h.2
   have b:=withinQ a.2.2
   have c:=top_in h.1
   have:highOf g=g.high:=by unfold highOf;rw [h1];rfl
   omega
 · rw [if_neg h1] at h
   by_cases h2:g.kind=2
   · rw [if_pos h2,orC_iff,needC_iff (by decide)] at h
     have a:=withinQ h.2
     have c:=top_in h.1
     have:highOf g=g.low:=by unfold highOf;rw [h2];rfl
     omega
   · rw [if_neg h2] at h
     have h3:g.kind=3:=by
      unfold numberB at hn
      simp [h1,h2] at hn
      exact hn
     rw [if_pos h3] at h
     have a:=withinQ h
     have b:=withinQ a.2.2
     have:highOf g=g.high:=by unfold highOf;rw [h3];rfl
     omega
theorem casesL_in {hi:Int} {deps:List (ByteArray×Value)} (hh:hi≤34359738367):∀ (l:List CaseD) (lo:Int),0≤lo→casesL hi deps lo l=0→∀ c∈l,0≤c.low∧c.low≤c.high∧c.high≤34359738367
 | [],_,_,_,c,hc=>by cases hc
 | a::l,lo,hl,h,c,hc=>by
  rw [casesL,orC_iff,orC_iff] at h
  have h1:=withinQ h.1
  have h2:=withinQ h1.2.2
  rcases List.mem_cons.1 hc with rfl | hc
  · omega
  · refine casesL_in hh l _ ?_ h.2.2 c hc
    rw [wrap_ok (by omega) (by omega)]
    omega
theorem case_in {l:List MsgD} (hf:Fine l) {i:Nat} {m:MsgD} (hm:l[i]?=some m) {f:FieldD} (hfm:f∈m.fields) (h9:f.kind=9):∀ c∈f.cases,0≤c.low∧c.low≤c.high∧c.high≤34359738367:=by
 obtain ⟨_,_,h3,h4,_⟩:=next_parts (hf.next hm)
 have hF:FineF (depsOf (l.take i)) (strsOf (l.take i)) m.fields:=fun j f hj=>by simpa using fields_all _ _ h4 j f hj
 obtain ⟨j,hj⟩:=List.getElem?_of_mem hfm
 have h:=exam_check (hF j f hj)
 unfold checkC at h
 rw [h9] at h
 simp only [Int.reduceEq,if_false,if_true] at h
 unfold casesC at h
 rw [orC_iff,orC_iff,needC_iff (by decide)] at h
 simp only [Bool.and_eq_true] at h
 obtain ⟨⟨ht,_⟩,_,hc⟩:=h
 cases hl:lastR (numR (m.fields.take j)) f.tag with
 | none=>rw [hl] at ht;cases ht
 | some q =>
  rw [hl] at hc
  obtain ⟨g,hg,hn,_,rfl⟩:=mem_numR.1 (lastP_mem hl)
  have:=num_in hF (List.mem_of_mem_take hg) hn
  exact casesL_in this.2 _ _ this.1 hc
def decB (n:Int):ByteArray:=⟨(Go.Lib.itoa n).toArray⟩
def joinW (sep:ByteArray) (xs:List ByteArray):ByteArray:=⟨(Go.Lib.join (xs.map (·.data.toList)) sep.data.toList).toArray⟩
theorem joinW_nil (sep:ByteArray):joinW sep []=ByteArray.empty:=rfl
theorem size_append (a b:ByteArray):(a++b).size=a.size+b.size:=by simp [ByteArray.size_append]
theorem lens_le {B:Nat}:∀ {xs:List (List UInt8)},(∀ x∈xs,x.length≤B)→Go.Lib.lens xs≤xs.length*B
 | [],_=>by simp [Go.Lib.lens]
 | a::l,h=>by
  have h1:=h a (List.mem_cons_self ..)
  have h2:=lens_le (xs:=l) fun x hx=>h x (List.mem_cons_of_mem _ hx)
  unfold Go.Lib.lens at *
  rw [List.map_cons,List.sum_cons,List.length_cons,Nat.add_mul]
  omega
theorem joinW_size {sep:ByteArray} {B:Nat} {xs:List ByteArray} (h:∀ x∈xs,x.size≤B):(joinW sep xs).size≤xs.length*(B+sep.size):=by
 cases xs with
 | nil=>simp [joinW_nil]
 | cons a l =>
  have h1:(joinW sep (a::l)).size=(Go.Lib.join ((a::l).map (·.data.toList)) sep.data.toList).length:=by unfold joinW ByteArray.size;simp
  have h2:=lens_le (B:=B) (xs:=(a::l).map (·.data.toList)) fun x hx=>by
   obtain ⟨y,hy,rfl⟩:=List.mem_map.1 hx
   have:=h y hy
   unfold ByteArray.size at this
   simpa using this
  rw [List.map_cons] at h1 h2
  rw [h1,Go.Lib.join_length]
  rw [List.length_cons,List.length_map] at h2
  have h3:sep.data.toList.length=sep.size:=by unfold ByteArray.size;simp
  rw [h3,List.length_map,List.length_cons,Nat.mul_add,Nat.mul_comm sep.size,Nat.add_mul l.length 1 sep.size]
  omega
def opNames:List ByteArray:=[⟨#[]⟩,⟨#[99,97,108,108]⟩,⟨#[115,116,111,112]⟩,⟨#[101,110,116,101,114]⟩,⟨#[114,101,97,100]⟩,⟨#[111,110,101]⟩,⟨#[109,97,110,121]⟩,⟨#[115,101,108,101,99,116]⟩,⟨#[99,97,115,101]⟩,⟨#[118,105,101,119]⟩,⟨#[114,101,116,117,114,110]⟩]
def opN (c:Int):ByteArray:=(opNames[c.toNat]?).getD ⟨#[]⟩
structure OkX (d:DefD) (x:InsD):Prop where
 code:1≤x.code∧x.code≤10
 msg:(x.msg = -1∧x.code≠8)∨∃ (i:Nat) (m:MsgD),x.msg=i∧d.msgs[i]?=some m∧((x.field = -1∧x.code≠8)∨∃ (k:Nat) (f:FieldD),x.field=k∧m.fields[k]?=some f∧(x.code≠8∨∃ (j:Nat) (c:CaseD),x.cas=j∧f.cases[j]?=some c∧0≤c.low∧c.low≤c.high∧c.high≤34359738367))
 reg : -1≤x.reg∧x.reg≤100000
 to : -1≤x.to∧x.to≤100000
def caseB (c:CaseD):ByteArray:=decB c.low++⟨#[45]⟩++decB c.high
def nameX (d:DefD) (x:InsD):ByteArray:=match d.msgs[x.msg.toNat]? with
 | some m=>if x.field < 0 then m.name else match m.fields[x.field.toNat]? with
  | some f=>if x.code=8 then (match f.cases[x.cas.toNat]? with
   | some c=>caseB c
   | none=>⟨#[]⟩) else m.name++(⟨#[46]⟩++f.name)
  | none=>⟨#[]⟩
 | none=>⟨#[]⟩
def words1 (i:Int) (x:InsD):List ByteArray:=[decB i,opN x.code]
def words2 (d:DefD) (i:Int) (x:InsD):List ByteArray:=if 0≤x.msg then words1 i x++[nameX d x] else words1 i x
def words3 (d:DefD) (i:Int) (x:InsD):List ByteArray:=if 0≤x.reg then words2 d i x++[⟨#[114]⟩++decB x.reg] else words2 d i x
def words4 (d:DefD) (i:Int) (x:InsD):List ByteArray:=if 0≤x.to then words3 d i x++[decB x.to] else words3 d i x
def lineB (d:DefD) (i:Int) (x:InsD):ByteArray:=joinW ⟨#[32]⟩ (words4 d i x)
def linesN (d:DefD) (l:List InsD):Nat→List ByteArray
 | 0=>[]
 | k+1=>linesN d l k++(match l[k]? with
  | some x=>[lineB d k x]
  | none=>[])
def textN (d:DefD) (l:List InsD) (k:Nat):ByteArray:=joinW ⟨#[10]⟩ (linesN d l k)
def Names100 (d:DefD):Prop:=∀ m∈d.msgs,m.name.size≤100∧∀ f∈m.fields,f.name.size≤100
theorem decB_size {n:Int} (h0 : -9223372036854775808≤n) (h1:n≤9223372036854775807):(decB n).size≤21:=by
 have:=Go.Lib.itoa_length_le n h0 h1
 unfold decB ByteArray.size
 simpa using this
theorem opN_size (c:Int):(opN c).size≤6:=by
 unfold opN
 rcases Nat.lt_or_ge c.toNat 11 with h | h
 · have:∀ n,n < 11→((opNames[n]?).getD ⟨#[]⟩).size≤6:=by decide
   exact this _ h
 · rw [List.getElem?_eq_none (by simpa [opNames] using h)]
   decide
theorem nameX_size {d:DefD} (hN:Names100 d) {x:InsD} (hx:OkX d x):(nameX d x).size≤201:=by
 unfold nameX
 cases hm:d.msgs[x.msg.toNat]? with
 | none=>exact (by decide:(⟨#[]⟩:ByteArray).size≤201)
 | some m =>
  have h1:=hN m (List.mem_of_getElem? hm)
  simp only
  split
  · omega
  · cases hf:m.fields[x.field.toNat]? with
    | none=>exact (by decide:(⟨#[]⟩:ByteArray).size≤201)
    | some f =>
     have h2:=h1.2 f (List.mem_of_getElem? hf)
     simp only
     split
     · rename_i hfd h8
       rcases hx.msg with ⟨_,h⟩ | ⟨i,m',hi,hm',h⟩
       · exact absurd h8 h
       · rcases h with ⟨_,h⟩ | ⟨k,f',hk,hf',h⟩
         · exact absurd h8 h
         · rcases h with h | ⟨j,c,hj,hc,h3,h4,h5⟩
           · exact absurd h8 h
           · rw [hi,Int.toNat_natCast,hm'] at hm
             injection hm with hm
             subst hm
             rw [hk,Int.toNat_natCast,hf'] at hf
             injection hf with hf
             subst hf
             rw [hj,Int.toNat_natCast,hc]
             simp only
             unfold caseB
             rw [size_append,size_append]
             have a:=decB_size (n:=c.low) (by omega) (by omega)
             have b:=decB_size (n:=c.high) (by omega) (by omega)
             have:(⟨#[45]⟩:ByteArray).size=1:=rfl
             omega
     · rw [size_append,size_append]
       have:(⟨#[46]⟩:ByteArray).size=1:=rfl
       omega
theorem words_size {d:DefD} (hN:Names100 d) {i:Int} (hi:0≤i∧i≤100000) {x:InsD} (hx:OkX d x):(∀ s∈words4 d i x,s.size≤201)∧(words4 d i x).length≤5∧(words3 d i x).length≤4∧(words2 d i x).length≤3:=by
 have h1:∀ s∈words1 i x,s.size≤201:=by
  intro s hs
  simp only [words1,List.mem_cons,List.not_mem_nil,or_false] at hs
  rcases hs with rfl | rfl
  · have:=decB_size (n:=i) (by omega) (by omega);omega
  · have:=opN_size x.code;omega
 have h2:(∀ s∈words2 d i x,s.size≤201)∧(words2 d i x).length≤3:=by
  unfold words2
  split
  · refine ⟨fun s hs=>?_,by simp [words1]⟩
    rcases List.mem_append.1 hs with hs | hs
    · exact h1 s hs
    · simp only [List.mem_singleton] at hs;subst hs;exact nameX_size hN hx
  · exact ⟨h1,by simp [words1]⟩
 have h3:(∀ s∈words3 d i x,s.size≤201)∧(words3 d i x).length≤4:=by
  unfold words3
  split
  · refine ⟨fun s hs=>?_,by simp;omega⟩
    rcases List.mem_append.1 hs with hs | hs
    · exact h2.1 s hs
    · simp only [List.mem_singleton] at hs;subst hs
      rw [size_append]
      have:=decB_size (n:=x.reg) (by have:=hx.reg;omega) (by have:=hx.reg;omega)
      have:(⟨#[114]⟩:ByteArray).size=1:=rfl
      omega
  · exact ⟨h2.1,by omega⟩
 refine ⟨?_,?_,h3.2,h2.2⟩
 · unfold words4
   split
   · intro s hs
     rcases List.mem_append.1 hs with hs | hs
     · exact h3.1 s hs
     · simp only [List.mem_singleton] at hs;subst hs
       have:=decB_size (n:=x.to) (by have:=hx.to;omega) (by have:=hx.to;omega)
       omega
   · exact h3.1
 · unfold words4
   split
   · simp;omega
   · omega
theorem line_size {d:DefD} (hN:Names100 d) {i:Int} (hi:0≤i∧i≤100000) {x:InsD} (hx:OkX d x):(lineB d i x).size≤1010:=by
 obtain ⟨h1,h2,_⟩:=words_size hN hi hx
 have:=joinW_size (sep:=⟨#[32]⟩) h1
 have h3:(⟨#[32]⟩:ByteArray).size=1:=rfl
 rw [h3] at this
 have:=Nat.mul_le_mul_right (201+1) h2
 unfold lineB
 omega
theorem linesN_len {d:DefD} {l:List InsD}:∀ {k:Nat},k≤l.length→(linesN d l k).length=k
 | 0,_=>rfl
 | k+1,h=>by
  obtain ⟨x,hx⟩:=getElem?_lt (show k < l.length by omega)
  unfold linesN
  rw [hx,List.length_append,linesN_len (by omega)]
  rfl
theorem linesN_succ {d:DefD} {l:List InsD} {k:Nat} {x:InsD} (hx:l[k]?=some x):linesN d l (k+1)=linesN d l k++[lineB d k x]:=by
 show linesN d l k++_=_
 rw [hx]
theorem linesN_size {d:DefD} (hN:Names100 d) {l:List InsD} (hx:∀ x∈l,OkX d x):∀ {k:Nat},k≤l.length→k≤100000→∀ s∈linesN d l k,s.size≤1010
 | 0,_,_,s,hs=>by cases hs
 | k+1,h,hk,s,hs=>by
  obtain ⟨x,hx'⟩:=getElem?_lt (show k < l.length by omega)
  rw [linesN_succ hx'] at hs
  rcases List.mem_append.1 hs with hs | hs
  · exact linesN_size hN hx (by omega) (by omega) s hs
  · simp only [List.mem_singleton] at hs
    subst hs
    exact line_size hN (by omega) (hx x (List.mem_of_getElem? hx'))
theorem textN_size {d:DefD} (hN:Names100 d) {l:List InsD} (hx:∀ x∈l,OkX d x) {k:Nat} (hk:k≤l.length) (hl:k≤100000):(textN d l k).size≤101100000:=by
 have:=joinW_size (sep:=⟨#[10]⟩) (linesN_size hN hx hk hl)
 rw [linesN_len hk] at this
 have h3:(⟨#[10]⟩:ByteArray).size=1:=rfl
 rw [h3] at this
 have:=Nat.mul_le_mul_right (1010+1) hl
 unfold textN
 omega
theorem idx_low {α:Type} (p:α→Bool) (l:List α):(idx p l).toNat≤l.length:=by
 unfold idx
 cases h:l.findIdx? p with
 | none=>simp
 | some i =>
  have:=(List.findIdx?_eq_some_iff_getElem.1 h).1
  simp
  omega
theorem toR_in (l:List MsgD) (r:Nat→Bool) (s:ByteArray):2≤toR l r s∧toR l r s≤routN l r l.length:=by
 unfold toR
 have h1:=routN_mono l r (idx_low (fun m=>decide (m.name=s)) l)
 have h2:=routN_mono l r (Nat.zero_le (idx (fun m=>decide (m.name=s)) l).toNat)
 have h3:routN l r 0=2:=rfl
 omega
theorem casI_mem {rt:ByteArray→Int} {i k:Int} {l:List CaseD} {x:InsD}:∀ {n:Nat},x∈casI rt i k l n→∃ (j:Nat) (c:CaseD),l[j]?=some c∧x=⟨8,i,k,-1,j,rt c.of⟩
 | 0,h=>by cases h
 | n+1,h=>by
  unfold casI at h
  rcases List.mem_append.1 h with h | h
  · exact casI_mem h
  · cases hc:l[n]? with
    | none=>rw [hc] at h;cases h
    | some c=>rw [hc] at h;simp only [List.mem_singleton] at h;exact ⟨n,c,hc,h⟩
theorem fieldsC_mem {rt:ByteArray→Int} {i:Int} {l:List FieldD} {x:InsD}:∀ {n:Nat},x∈fieldsC rt i l n→∃ (k:Nat) (f:FieldD),k < n∧l[k]?=some f∧x∈fieldC rt i k (gR l k f) f
 | 0,h=>by cases h
 | n+1,h=>by
  unfold fieldsC at h
  rcases List.mem_append.1 h with h | h
  · obtain ⟨k,f,h1,h2,h3⟩:=fieldsC_mem h
    exact ⟨k,f,by omega,h2,h3⟩
  · cases hc:l[n]? with
    | none=>rw [hc] at h;cases h
    | some c=>rw [hc] at h;exact ⟨n,c,Nat.lt_succ_self n,hc,h⟩
theorem codeN_mem {rt:ByteArray→Int} {l:List MsgD} {r:Nat→Bool} {x:InsD}:∀ {n:Nat},x∈codeN rt l r n→∃ (i:Nat) (m:MsgD),i < n∧l[i]?=some m∧r i=true∧x∈msgC rt i m
 | 0,h=>by cases h
 | n+1,h=>by
  unfold codeN at h
  rcases List.mem_append.1 h with h | h
  · obtain ⟨k,f,h1,h2,h3⟩:=codeN_mem h
    exact ⟨k,f,by omega,h2,h3⟩
  · cases hc:l[n]? with
    | none=>rw [hc] at h;cases h
    | some m =>
     rw [hc] at h
     simp only at h
     split at h
     · rename_i hr;exact ⟨n,m,Nat.lt_succ_self n,hc,hr,h⟩
     · cases h
theorem okx {d:DefD} {c m f g s t:Int} (h1:1≤c∧c≤10) (h2:(m = -1∧c≠8)∨∃ (i:Nat) (x:MsgD),m=i∧d.msgs[i]?=some x∧((f = -1∧c≠8)∨∃ (k:Nat) (y:FieldD),f=k∧x.fields[k]?=some y∧(c≠8∨∃ (j:Nat) (z:CaseD),s=j∧y.cases[j]?=some z∧0≤z.low∧z.low≤z.high∧z.high≤34359738367))) (h3 : -1≤g∧g≤100000) (h4 : -1≤t∧t≤100000):OkX d ⟨c,m,f,g,s,t⟩:=⟨h1,h2,h3,h4⟩
theorem code_ok {d:DefD} (hc:(checkP d).2.2=0) (hz:sizeP d≤100000):∀ x∈codeP d,OkX d x:=by
 have hf:=(check_fine hc).2.2.1
 have hto:∀ s,-1≤toR d.msgs (reachD d) s∧toR d.msgs (reachD d) s≤100000:=fun s=>by
  have:=toR_in d.msgs (reachD d) s
  unfold sizeP at hz
  omega
 intro x hx
 unfold codeP at hx
 rcases List.mem_append.1 hx with hx | hx
 · simp only [headC,List.mem_cons,List.not_mem_nil,or_false] at hx
   rcases hx with rfl | rfl
   · exact okx (by decide) (.inl ⟨rfl,by decide⟩) (by decide) (hto _)
   · exact okx (by decide) (.inl ⟨rfl,by decide⟩) (by decide) (by decide)
 · obtain ⟨i,m,_,hm,_,hx⟩:=codeN_mem hx
   unfold msgC at hx
   simp only [List.cons_append,List.mem_cons,List.mem_append,List.not_mem_nil,or_false] at hx
   rcases hx with rfl | hx | rfl
   · exact okx (by decide) (.inr ⟨i,m,rfl,hm,.inl ⟨rfl,by decide⟩⟩) (by decide) (by decide)
   · obtain ⟨k,f,hk,hfk,hx⟩:=fieldsC_mem hx
     have hl40:=(next_parts (hf.next hm)).2.2.1.2
     have hg : -1≤gR m.fields k f∧gR m.fields k f≤100000:=by
      unfold gR
      have:=cnt_le m.fields k
      split<;>omega
     have hrest:∀ c:Int,(1≤c∧c≤10)→c≠8→∀ g t:Int,(-1≤g∧g≤100000)→(-1≤t∧t≤100000)→OkX d ⟨c,i,k,g,-1,t⟩:=fun c h1 h2 g t h3 h4=>⟨h1,.inr ⟨i,m,rfl,hm,.inr ⟨k,f,rfl,hfk,.inl h2⟩⟩,h3,h4⟩
     unfold fieldC at hx
     split at hx
     · rename_i h9
       rcases List.mem_cons.1 hx with rfl | hx
       · exact hrest 7 (by decide) (by decide) _ _ (by decide) (by decide)
       · obtain ⟨j,c,hj,rfl⟩:=casI_mem hx
         have hb:=case_in hf hm (List.mem_of_getElem? hfk) h9 c (List.mem_of_getElem? hj)
         exact okx (by decide) (.inr ⟨i,m,rfl,hm,.inr ⟨k,f,rfl,hfk,.inr ⟨j,c,rfl,hj,hb⟩⟩⟩) (by decide) (hto _)
     · split at hx
       · simp only [List.mem_singleton] at hx;subst hx;exact hrest 5 (by decide) (by decide) _ _ (by decide) (hto _)
       · split at hx
         · simp only [List.mem_singleton] at hx;subst hx;exact hrest 6 (by decide) (by decide) _ _ (by decide) (hto _)
         · split at hx
           · simp only [List.mem_singleton] at hx;subst hx;exact hrest 9 (by decide) (by decide) _ _ (by decide) (hto _)
           · simp only [List.mem_singleton] at hx;subst hx;exact hrest 4 (by decide) (by decide) _ _ hg (by decide)
   · exact okx (by decide) (.inr ⟨i,m,rfl,hm,.inl ⟨rfl,by decide⟩⟩) (by decide) (by decide)
end Go.Proofs.YtfdecdnmooaegaaGreatDoor
namespace Go.Sw
open Go.RowKit (Below)
structure LW3 (B:Nat) (w w':World):Prop where
 os:w'.os=w.os
 tape:w'.tape=w.tape
 output:w'.output=w.output
 size:w.heap.size≤w'.heap.size
 block:∀ b,b < B→b < w.heap.size→w'.heap[b]?=w.heap[b]?
end Go.Sw
namespace Go.Sw
open Go.RowKit (Below)
def KR5 (_B:Nat) (w w':World):Prop:=w.heap.size≤w'.heap.size∧(∀ (b:Nat) (r:Loop),w.heap[b]?=some (.loop r)→∃ st p,w'.heap[b]?=some (.loop { r with state:=st,pending:=p })) ∧
 (∀ (b:Nat),w.heap[b]?=some (.deferred (some []))→w'.heap[b]?=some (.deferred (some [])))
section
variable {B:Nat} {w w1 w2:World}
theorem KR5.of2 (h:KR B w w1):KR5 B w w1:=⟨h.1,h.2.1,h.2.2.1⟩
theorem KR5.trans (h:KR5 B w w1) (k:KR5 B w1 w2):KR5 B w w2:=⟨Nat.le_trans h.1 k.1,fun b r hb=>by
 obtain ⟨st,p,h1⟩:=h.2.1 b r hb
 obtain ⟨st',p',h2⟩:=k.2.1 b _ h1
 exact ⟨st',p',h2⟩,fun b hb=>k.2.2 b (h.2.2 b hb)⟩
theorem KR5.of (e:Ext w w1):KR5 B w w1 := .of2 (.of e)
theorem KR5.setCell (h:KR5 B w w1) (b o:Nat) (v:Value):KR5 B w (w1.setCell ⟨b,o,none⟩ v):=h.trans ⟨by simp,fun b r hb=>⟨r.state,r.pending,(KeepsOthers.setCell w1 _ v).same _ _ hb rfl⟩,fun b hb=>(KeepsOthers.setCell w1 _ v).same _ _ hb rfl⟩
theorem KR5.busied {l:Nat} (h:Busied l w w1):KR5 B w w1 := .of2 (.busied h)
theorem KR5.turn {l:Nat} {r:Loop} (hl:w.heap[l]?=some (.loop r)) (st:LoopState) (p:Option Code):KR5 B w (w.putObj l (.loop { r with state:=st,pending:=p })) := .of2 (.turn hl st p)
theorem KR5.grown {row:Option Nat} (h:KR5 B w w1) (hg:w1.grownBy w2 row) (hr:∀ g,row=some g→∃ cs T f,w1.heap[g]?=some (.cells cs T f)):KR5 B w w2:=h.trans ⟨hg.size,fun b r hb=>⟨r.state,r.pending,(hg.block b (Array.getElem?_eq_some_iff.1 hb).1 (fun e=>by
 obtain ⟨cs,T,f,hc⟩:=hr b e.symm
 rw [hb] at hc;cases hc)).trans hb⟩,fun b hb=>(hg.block b (Array.getElem?_eq_some_iff.1 hb).1 (fun e=>by
 obtain ⟨cs,T,f,hc⟩:=hr b e.symm
 rw [hb] at hc;cases hc)).trans hb⟩
end
def Firm5 (B:Nat) (R:World→Prop):Prop:=∀ w w',KR5 B w w'→R w→R w'
theorem RecAt.firm5 (rec:Loop) (B b:Nat):Firm5 B (RecAt rec b):=fun w w' h ⟨h1,st,p,h2⟩=>by
 obtain ⟨st',p',h3⟩:=h.2.1 _ _ h2
 exact ⟨h.2.2 _ h1,st',p',h3⟩
theorem Firm5.and {B:Nat} {R S:World→Prop} (h:Firm5 B R) (k:Firm5 B S):Firm5 B (fun w=>R w∧S w):=fun w w' e hh=>⟨h _ _ e hh.1,k _ _ e hh.2⟩
theorem Firm5.firm {B:Nat} {R:World→Prop} (h:Firm5 B R):Firm B R:=fun w w' e hr=>h w w' (.of2 e) hr
def SeqIt5 (P:Program) (f:FuncId) (caps:Array Value) (n:Nat) (xs ys:Nat→Value) (FP:World→Prop):Prop :=
 ∀ (yv:Value) (J:Nat→World→Prop) (Jx:World→Prop) (Jp:List PanicEntry→World→Prop) (w:World),yv.oneCell'=true→(∀ k w,J k w→FP w)→(∀ k,Lasts2 w.heap.size (J k))→Lasts2 w.heap.size Jx→(∀ ch,Lasts2 w.heap.size (Jp ch)) →
  (∀ k,k < n→∀ Rk,Firm5 w.heap.size Rk→∀ w,J k w→Rk w→callV P yv #[xs k,ys k] (fun ch w'=>Rk w'∧Jp ch w') w (fun v w'=>Rk w'∧((v = .bool true∧J (k+1) w')∨(v = .bool false∧Jx w'))))→J 0 w →
  Calls P f (#[yv]++caps) w (fun e w'=>match e with
   | .returned _=>J n w'∨Jx w'
   | .panicked ch=>Jp ch w'
   | .outgrown=>False)
def rangeN5 (P:Program) (fv:Value) (ds:List Deferred) (body:Nat→Value→Value→World→(World→Prop)→(Nat→World→Prop)→(List PanicEntry→World→Prop)→Prop) (QP:List PanicEntry→List Deferred→World→Prop) (w:World)
 (k:List Deferred→World→Prop) (kx:List (List Deferred→World→Prop)):Prop :=
 ∃ (f:FuncId) (caps:Array Value) (n:Nat) (xs ys:Nat→Value) (FP:World→Prop) (I:Nat→World→Prop) (Ix:Nat→World→Prop) (Ip:List PanicEntry→World→Prop),
  fv = .func (.func f) #[] caps∧Callable P f∧SeqIt5 P f caps n xs ys FP∧I 0 w∧(∀ k w,I k w→FP w)∧(∀ k,Lasts2 w.heap.size (I k))∧(∀ c,Lasts2 w.heap.size (Ix c))∧(∀ ch,Lasts2 w.heap.size (Ip ch)) ∧
  (∀ (Rk:World→Prop),Firm5 (w.heap.size+1+1) Rk→∀ (j:Nat) (w':World),j < n→I j w'→Rk w'→w.heap.size+1 < w'.heap.size→ReadyAt (w.heap.size+1) w' →
   body (w.heap.size+1) (xs j) (ys j) w' (fun w''=>Rk w''∧I (j+1) w'') (fun c w''=>Rk w''∧Ix c w'') (fun ch w''=>Rk w''∧Ip ch w'')) ∧
  (∀ w',I n w'→MarkAt w.heap.size w'→k (mark w.heap.size::ds) w') ∧
  (∀ c w',Ix c w'→MarkAt w.heap.size w'→nthK kx c (mark w.heap.size::ds) w') ∧
  (∀ ch w',Ip ch w'→MarkAt w.heap.size w'→QP ch (mark w.heap.size::ds) w')
section
variable {P:Program} {N:Nat}
theorem sim_range5 {g:Operand} {p p2:Nat} {asg body:Code} {Q:K} {QP:KP} {ρ:Env} {ds:List Deferred} {w:World} {fv:Value} {nbody:Nat→Value→Value→World→(World→Prop)→(Nat→World→Prop)→(List PanicEntry→World→Prop)→Prop} {QPn:List PanicEntry→List Deferred→World→Prop}
 {k:List Deferred→World→Prop} {kx:List (List Deferred→World→Prop)} (js:List Code) (h:rangeN5 P fv ds nbody QPn w k kx) (hg:ev ρ g=fv)
 (hbody:∀ l x y w K X QPr,nbody l x y w K X QPr→den P N (some l) asg (thenK (fun ρ' ds' w'=>ds'=[]∧busyK l w' (fun w''=>den P N (some l) body (roundK js K X) (roundQP QPr) ρ' [] w'')) (fun _ _ _ _=>False)) (fun _ _ _ _=>False) (put N (put N ρ (some p) x) (some p2) y) [] w)
 (hk:∀ ds w,k ds w→Q .normal ρ ds w) (hx:∀ c ds w,nthK kx c ds w→∃ code,js[c]?=some code∧((code = .ret∧Q .ret ρ ds w)∨(∃ id,code = .exit id∧Q (.exit id) ρ ds w))) (hp:∀ ch ds w,QPn ch ds w→QP ch ρ ds w) :
 den P N none (.rangeFunc g #[p,p2] asg body) Q QP ρ ds w:=by
 intro a ha hds
 subst hds
 obtain ⟨f,caps,n,xs,ys,FP,I,Ix,Ip,hfv,hcal,hseq,h0,hFP,hL,hLx,hLp,hround,hend,hjump,hpan⟩:=h
 refine wpV_rangeFunc fun fn hfn=>?_
 obtain ⟨rec,hrec⟩:∃ rec:Loop,rec={ state := .ready,pending:=none,fn,tmps:=a.tmps,params := #[p,p2],assign:=asg,body,defers:=w.heap.size }:=⟨_,rfl⟩
 obtain ⟨W1,hW1⟩:∃ W1,(w.alloc (.deferred (some []))).alloc (.loop rec)=W1:=⟨_,rfl⟩
 have hE1:Ext w W1:=by rw [← hW1];exact ((Ext.refl w).alloc _).alloc _
 have hW1s:W1.heap.size=w.heap.size+1+1:=by rw [← hW1];simp
 have hL1:W1.heap[w.heap.size+1]?=some (.loop rec):=by
  rw [← hW1];have:=World.alloc_heap_new (w.alloc (.deferred (some []))) (.loop rec);rwa [World.size_alloc] at this
 have hK1:MarkAt w.heap.size W1:=by
  rw [← hW1];exact MarkAt.alloc (World.alloc_heap_new w _) _
 have hev:a.eval g=fv:=by rw [ha.eval];exact hg
 refine ⟨w.heap.size+1,[mark w.heap.size],W1,{ target := .fn (.func f) caps,args := #[.func (.yield (w.heap.size+1)) #[] #[]] },W1,f,#[.func (.yield (w.heap.size+1)) #[] #[]]++caps,W1,?_,?_,?_,?_⟩
 · rw [← hW1,hrec];exact run_enterLoop_outer _ _ _ _ _
 · simp only [resolve,hev,hfv]
   simp [go_sem]
 · simp only [invoke]
   exact callFunc_run hcal _ _
 · refine Calls.mono (hseq (.func (.yield (w.heap.size+1)) #[] #[]) (fun j w'=>I j w'∧MarkAt w.heap.size w'∧∃ p,w'.heap[w.heap.size+1]?=some (.loop { rec with state := .ready,pending:=p })∧p=none)
    (fun w'=>MarkAt w.heap.size w'∧∃ c code,Ix c w'∧js[c]?=some code∧w'.heap[w.heap.size+1]?=some (.loop { rec with state := .done,pending:=some code }))
    (fun ch w'=>MarkAt w.heap.size w'∧Ip ch w') W1 rfl (fun j w' hj=>hFP j w' hj.1) (fun j=>((hL j).mono (by omega)).and ((Lasts2.low (by omega) _).and (.ex fun q=>(Lasts2.low (by omega) _).and (.const _ _))))
    ((Lasts2.low (by omega) _).and (.ex fun c => .ex fun code=>((hLx c).mono (by omega)).and ((Lasts2.const _ _).and (Lasts2.low (by omega) _)))) (fun ch=>(Lasts2.low (by omega) _).and ((hLp ch).mono (by omega))) ?_ ⟨(hL 0).ext h0 hE1,hK1,none,by rw [hL1,hrec],rfl⟩) ?_
   · rintro j hj Rk hF w' ⟨hi,hm,q,hl,rfl⟩ hR
     have hlt:w.heap.size+1 < w'.heap.size:=(Array.getElem?_eq_some_iff.1 hl).1
     have hy:=run_yield (P:=P) (args := #[xs j,ys j]) hl (by rw [hrec];rfl)
     show onNext P _ _ _ _
     have hcs:callS (.func (.yield (w.heap.size+1)) #[] #[]) #[xs j,ys j]=Instr.yield (w.heap.size+1) #[xs j,ys j]:=by
      simp [callS,Deferred.ofValue,invoke,go_sem,bind,pure,Sem.bind]
     rw [hcs,hy]
     have key:∀ R,wpV (some (w.heap.size+1)) P asg (Exit.then (fun a₁ w₁=>∃ w₂,(Instr.beginRound (w.heap.size+1)).run P w₁ = .ok () w₂∧wpV (some (w.heap.size+1)) P body (endV P (w.heap.size+1) R) a₁ w₂) (fun _ _ _=>False)) { tmps:=((#[p,p2].zip #[xs j,ys j]).foldl (fun tmps (t,a)=>tmps.setIfInBounds t a) a.tmps),defers:=[] } w' →
      RoundV P (w.heap.size+1) rec.fn ((rec.params.zip #[xs j,ys j]).foldl (fun tmps (t,a)=>tmps.setIfInBounds t a) rec.tmps) rec.assign rec.body w' R:=by
      intro R h;rw [hrec];exact roundV_of_wpV hfn h
     refine key _ ?_
     have hb:=hbody _ _ _ _ _ _ _ (hround _ ((RecAt.firm5 rec _ w.heap.size).and (hW1s ▸ hF)) j w' hj hi ⟨⟨hm,_,_,hl⟩,hR⟩ hlt ⟨_,hl,rfl⟩)
     have hagr:Agrees N ({ tmps:=((#[p,p2].zip #[xs j,ys j]).foldl (fun tmps (t,a)=>tmps.setIfInBounds t a) a.tmps),defers:=[] }:Act) (put N (put N ρ (some p) (xs j)) (some p2) (ys j)):=by
      have:=((Agrees.defers ha []).put (some p) (xs j)).put (some p2) (ys j)
      simpa [Act.put] using this
     refine wpV_mono (den_sound asg _ _ _ _ _ hagr hb) ?_
     intro e a1 w1 hl1
     cases e with
     | panic ch=>obtain ⟨_,_,hf⟩:=hl1;exact hf.elim
     | outgrown=>exact hl1
     | exit id=>obtain ⟨_,_,_,hf⟩:=hl1;exact hf.elim
     | goto l=>obtain ⟨_,_,_,hf⟩:=hl1;exact hf.elim
     | ret=>obtain ⟨_,_,_,hf⟩:=hl1;exact hf.elim
     | normal =>
      obtain ⟨ρ1,ha1,_,hd1,hbz⟩:=hl1
      obtain ⟨⟨r,hr1,hr2⟩,hbz⟩:=hbz
      refine ⟨_,run_beginRound hr1 hr2,?_⟩
      rw [show a1={ a1 with defers:=[] } by rw [← hd1]]
      refine wpV_mono (den_sound body _ _ _ _ _ (Agrees.defers ha1 []) (hbz _ ⟨_,hr1,rfl⟩)) ?_
      have fin:∀ (jump:Option Code) (w2:World),RecAt rec w.heap.size w2→(Instr.endRound (w.heap.size+1) jump).run P w2 = .ok (.bool jump.isNone) (w2.putObj (w.heap.size+1) (.loop { rec with state:=if jump.isNone then .ready else .done,pending:=jump })) ∧
       (w2.putObj (w.heap.size+1) (.loop { rec with state:=if jump.isNone then .ready else .done,pending:=jump })).heap[w.heap.size+1]?=some (.loop { rec with state:=if jump.isNone then .ready else .done,pending:=jump }) ∧
       MarkAt w.heap.size (w2.putObj (w.heap.size+1) (.loop { rec with state:=if jump.isNone then .ready else .done,pending:=jump })):=by
       rintro jump w2 ⟨hm2,st,q,hq⟩
       refine ⟨by have:=run_endRound (P:=P) jump hq;exact this,World.putObj_heap_same (Array.getElem?_eq_some_iff.1 hq).1,?_⟩
       unfold MarkAt
       rw [World.putObj_heap_other (by omega)];exact hm2
      intro e a2 w2 hl2
      cases e with
      | normal =>
       obtain ⟨_,_,_,_,⟨hrec2,hR2⟩,hi2⟩:=hl2
       obtain ⟨f1,f2,f3⟩:=fin none w2 hrec2
       obtain ⟨_,st,q,hq⟩:=hrec2
       exact ⟨_,_,f1,hF _ _ (KR5.turn hq _ _) hR2,.inl ⟨rfl,(hL _).loop (Nat.le_succ _) hi2 hq _,f3,none,f2,rfl⟩⟩
      | ret =>
       obtain ⟨_,_,_,_,c,hc,⟨hrec2,hR2⟩,hi2⟩:=hl2
       obtain ⟨f1,f2,f3⟩:=fin (some .ret) w2 hrec2
       obtain ⟨_,st,q,hq⟩:=hrec2
       exact ⟨_,_,f1,hF _ _ (KR5.turn hq _ _) hR2,.inr ⟨rfl,f3,c,_,(hLx _).loop (Nat.le_succ _) hi2 hq _,hc,f2⟩⟩
      | exit id =>
       obtain ⟨_,_,_,_,c,hc,⟨hrec2,hR2⟩,hi2⟩:=hl2
       obtain ⟨f1,f2,f3⟩:=fin (some (.exit id)) w2 hrec2
       obtain ⟨_,st,q,hq⟩:=hrec2
       exact ⟨_,_,f1,hF _ _ (KR5.turn hq _ _) hR2,.inr ⟨rfl,f3,c,_,(hLx _).loop (Nat.le_succ _) hi2 hq _,hc,f2⟩⟩
      | panic ch =>
       obtain ⟨_,_,hd2,⟨hrec2,hR2⟩,hi2⟩:=hl2
       exact ⟨hd2,hR2,hrec2.1,hi2⟩
      | goto l=>obtain ⟨_,_,_,hf⟩:=hl2;exact hf.elim
      | outgrown=>exact hl2
   · have hagr:Agrees N ({ a with defers:=[mark w.heap.size]++a.defers }:Act) ρ:=ha
     have exh:∀ (st:LoopState) (q:Option Code) (w':World),w'.heap[w.heap.size+1]?=some (.loop { rec with state:=st,pending:=q })→st ≠ .busy→MarkAt w.heap.size w' →
      (Instr.endLoop (w.heap.size+1)).run P w' = .ok q (w'.putObj (w.heap.size+1) (.loop { rec with state := .exhausted,pending:=q }))∧MarkAt w.heap.size (w'.putObj (w.heap.size+1) (.loop { rec with state := .exhausted,pending:=q })):=by
      intro st q w' hq hne hm
      refine ⟨by have:=run_endLoop (P:=P) hq hne;exact this,?_⟩
      unfold MarkAt
      rw [World.putObj_heap_other (by omega)];exact hm
     rintro e w' he
     cases e with
     | returned v =>
      rcases he with ⟨hi,hm,q,hl,rfl⟩ | ⟨hm,c,code,hi,hc,hl⟩
      · obtain ⟨e1,e2⟩:=exh _ _ w' hl (by simp) hm
        exact ⟨none,_,e1,hagr,hk _ _ (hend _ ((hL _).loop (Nat.le_succ _) hi hl _) e2)⟩
      · obtain ⟨e1,e2⟩:=exh _ _ w' hl (by simp) hm
        refine ⟨some code,_,e1,?_⟩
        obtain ⟨code',hc',hden⟩:=hx c _ _ (hjump c _ ((hLx _).loop (Nat.le_succ _) hi hl _) e2)
        rw [hc] at hc';cases hc'
        rcases hden with ⟨rfl,hq⟩ | ⟨id,rfl,hq⟩
        · exact wpV_ret ⟨hagr,hq⟩
        · exact wpV_exit ⟨hagr,hq⟩
     | panicked ch=>exact ⟨hagr,hp _ _ _ (hpan ch _ he.2 he.1)⟩
     | outgrown=>exact he.elim
end
theorem SeqIt5.to2 {P:Program} {f:FuncId} {caps:Array Value} {n:Nat} {xs ys:Nat→Value} {FP:World→Prop} (h:SeqIt5 P f caps n xs ys FP):SeqIt2 P f caps n xs ys FP:=fun yv J Jx Jp w hy hFP hJ hJx hJp hs h0=>h yv J Jx Jp w hy hFP hJ hJx hJp (fun k hk Rk hF=>hs k hk Rk hF.firm) h0
end Go.Sw
namespace Go.Proofs.YtfdecdnmooaegaaGreatDoor
open Sw
open Go.RowKit (intOf Below)
abbrev EIns:World→List Value→InsD→Prop:=fun _ cs x=>cs=insCells x
def InsAt (e:Nat) (v:Value) (l:List InsD) (w:World):Prop:=w.heap[e]?=some (.cells #[v] 32 (0,0))∧SliceOf w 6 EIns v l
theorem keptIns:Kept EIns:=fun _ _ _ _ _ h=>h
theorem InsAt.ext {e:Nat} {v:Value} {l:List InsD} {w w':World} (h:InsAt e v l w) (x:Ext w w'):InsAt e v l w':=⟨x.obj h.1,SliceOf.ext keptIns h.2 x⟩
section
variable {w:World} {lo pb:Nat} {d:DefD}
theorem clone_ret (w0:World) (l:List InsD) (g cap n:Nat) (hn:n=l.length) (hE:∀ k x,l[k]?=some x→ElemAt w0 g (k*6) (insCells x)) (hl:l.length≤100000):Ret Pg 37 #[.slice (some ⟨g,0,none⟩) n cap] w0 fun r w'=>OwnE w' w0.heap.size TI 6 insCells r l∧Ext w0 w':=by
 subst hn
 refine n38s (R:=retR _) ?_;unfold n38
 simp (disch:=try exact DI) only [↓PR,QR,simprocAttr]
 have hO:=OwnE.new w0 TI 6 insCells [] (fun _=>rfl) (by simp)
 have eW:Ext w0 (w0.alloc (.cells ([]:List Value).toArray TI)):=ee
 simp only [List.flatMap_nil,List.length_nil] at hO
 generalize (w0.alloc (.cells ([]:List Value).toArray TI))=W at hO eW ⊢
 refine op_appendE (l':=l) (o:=0) Tryz.underlying32 ty36 rfl (by decide) (fun x=>rfl) (fun x hx u hu=>?_) hO (fun j x hx=>?_) eW.size (Nat.le_trans (Nat.mul_le_mul (show ([]:List InsD).length+l.length≤100001 by simp;omega) by36) (by decide)) (by simp;omega) ?_
 · simp only [insCells,List.mem_cons,List.not_mem_nil,or_false] at hu
   rcases hu with rfl | rfl | rfl | rfl | rfl | rfl<;>rfl
 · rw [Nat.zero_add]
   intro j' u hu
   exact eW.cell (hE j x hx j' u hu)
 · intro v' w' hO' hg
   simp (disch:=try exact DI) only [↓PR,QR,simprocAttr]
   exact ⟨hO',eW.grown hg fun b hb=>(hO.lt b hb).1⟩
theorem Each_ret (h:ProgAt w lo pb d) (hz:sizeP d≤100000):Ret Pg 16 #[.pointer (some ⟨pb,0,none⟩)] w fun r w'=>(∃ e v,r = .func (.func 38) #[] #[.pointer (some ⟨e,0,none⟩)]∧w.heap.size≤e∧w'.heap[e]?=some (.cells #[v] 32 (0,0))∧OwnE w' w.heap.size TI 6 insCells v (codeP d))∧Ext w w':=by
 refine n27s (R:=retR _) ?_;unfold n27
 simp (disch:=try exact DI) only [↓PR,QR,simprocAttr]
 generalize hV:World.alloc w _=W
 have eW:Ext w W:=by rw [← hV];exact ee
 have oW:W.heap[w.heap.size]?=some (.cells #[.slice none 0 0] 32 (0,0)):=by rw [← hV];exact heap_new _ _ _
 clear hV
 refine zcr (none_ret (h.ext eW)) fun w1 e1=>?_
 obtain ⟨mc,rm,gm,g,cap,h1,hO,hE,hcap⟩:=(h.ext (eW.trans e1)).code
 simp (disch:=try exact DI) only [↓PR,QR,simprocAttr,↓n27c2,↓n27c1,(cells_of_heap h1).1]
 refine callK_ret (clone_ret w1 (codeP d) g cap _ (codeP_len d).symm hE (by rw [codeP_len];exact hz)) ?_
 rintro v w2 ⟨hO2,e2⟩
 have E2:=eW.trans (e1.trans e2)
 have q2:=(e1.trans e2).obj oW
 have hS2:=hO2.slice (E:=EIns) (fun _=>rfl) (fun _ _=>rfl)
 have hv1:=SliceOf.oneCell hS2
 have l1:=(Array.getElem?_eq_some_iff.1 (e1.obj oW)).1
 have ho:=Only.setCell w2 w.heap.size 0 v
 generalize hp:w.heap.size=p at *
 simp (disch:=try exact DI) only [↓PR,QR,simprocAttr,(cells_of_heap q2).1,(cells_of_heap q2).2]
 refine ⟨⟨p,v,rfl,by omega,by simpa using heap_set (o:=0) q2 v,((hO2.range.only ho (.inr (.inl l1))).1).base (by have:=e1.size;have:=eW.size;omega)⟩,E2.setCell (p:=⟨p,0,none⟩) (by show w.heap.size≤p;omega) _⟩
theorem ins_at {e B:Nat} {v:Value} {l:List InsD} {w:World} (h:w.heap[e]?=some (.cells #[v] 32 (0,0))∧OwnE w B TI 6 insCells v l):InsAt e v l w:=⟨h.1,h.2.slice (fun _=>rfl) (fun _ _=>rfl)⟩
theorem EachN_ret {p:Value} (h:NoProg w p):Ret Pg 16 #[p] w fun r w'=>(∃ e,r = .func (.func 38) #[] #[.pointer (some ⟨e,0,none⟩)]∧InsAt e (.slice none 0 0) [] w')∧Ext w w':=by
 refine n27s (R:=retR _) ?_;unfold n27
 simp (disch:=try exact DI) only [↓PR,QR,simprocAttr]
 generalize hV:World.alloc w _=W
 have eW:Ext w W:=by rw [← hV];exact ee
 have oW:W.heap[w.heap.size]?=some (.cells #[.slice none 0 0] 32 (0,0)):=by rw [← hV];exact heap_new _ _ _
 clear hV
 refine zcr (isnone_ret (h.ext eW)) fun w1 e1=>?_
 simp (disch:=try exact DI) only [↓PR,QR,simprocAttr,↓n27c2]
 exact ⟨⟨_,rfl,e1.obj oW,SliceOf.nil _ _ _⟩,eW.trans e1⟩
theorem Each_seq (e:Nat) (v:Value) (l:List InsD) (hl:l.length≤100000) :
 SeqIt5 Pg 38 #[.pointer (some ⟨e,0,none⟩)] l.length (fun k => .int .i64 k) (fun k=>insVal ((l[k]?).getD zeroI)) (InsAt e v l):=by
 intro yv J Jx Jp w hy hFP hJl hJx hJp hstep h0
 obtain ⟨ho,hF⟩:=hFP 0 w h0
 obtain ⟨A,c,rfl,hlc,hcm,hlm,_⟩:=SliceOf.open hF
 refine n28s (t0:=yv) (t1 := .pointer (some ⟨e,0,none⟩)) ?_
 unfold n28
 simp (disch:=try exact DI) only [↓PR,QR,simprocAttr,(cells_of_heap ho).1]
 refine loop1_intro (fun i w'=>∃ k:Nat,i = .int .i64 k∧k≤l.length∧J k w'∧w.heap.size≤w'.heap.size) (fun i _=>l.length - (intOf i).toNat) ⟨0,rfl,by omega,h0,Nat.le_refl _⟩ ?_
 rintro _ w' ⟨k,rfl,hk,hJ,hsz⟩
 obtain ⟨ho',hF'⟩:=hFP k w' hJ
 rcases drop_cases hk with ⟨x,hx,hd,hlt,hdec⟩ | ⟨hk,hd,hdec⟩
 · obtain ⟨A',c',hv,_,_,_,hel⟩:=SliceOf.open hF'
   injection hv with hv1 _ hv2
   subst hv1 hv2
   obtain ⟨b,o,cs,rfl,hl',hA,rfl⟩:=hel k x hx
   have hwr:IntKind.i64.wrap ((k:Int)+1)=(k:Int)+1:=wrap_ok (by omega) (by omega)
   simp (disch:=try exact DI) only [↓PR,QR,simprocAttr,hdec]
   unfold n28c1
   simp (disch:=try exact DI) only [↓PR,QR,simprocAttr,hA.c6 (Ext.refl _)]
   generalize hV:World.alloc w' _=W
   have eW:Ext w' W:=by rw [← hV];exact ee
   clear hV
   have hs:=hstep k (by omega) (fun u=>w.heap.size≤u.heap.size) (fun u u' h hh=>Nat.le_trans hh h.1) W ((hJl k).ext hJ eW) (Nat.le_trans hsz eW.size)
   simp only [hx,Option.getD_some] at hs
   refine callV_mono hs (fun ch w h=>h.2) ?_
   rintro v w2 ⟨hs2,⟨rfl,h2⟩ | ⟨rfl,h2⟩⟩
   · simp (disch:=try exact DI) only [↓PR,QR,simprocAttr,hwr]
     exact ⟨⟨k+1,rfl,by omega,h2,hs2⟩,meas_lt (kd := .i64) hlt⟩
   · simp (disch:=try exact DI) only [↓PR,QR,simprocAttr]
     exact .inr h2
 · subst hk
   simp (disch:=try exact DI) only [↓PR,QR,simprocAttr,hdec]
   exact .inl hJ
end
open Go.Shelf
def sh_lays156_ren:Go.Shelf.Ren:=⟨fun | 156=>32 | 165=>66 | 166=>67 | 169=>68 | 240=>83 | 241=>84 | 276=>102 | 277=>103 | n=>n,fun | 31=>80 | 9=>9 | 3=>3 | 4=>4 | 0=>0 | 20=>20 | 72=>128 | 76=>132 | 70=>125 | 37=>126 | 75=>131 | 127=>150 | 164=>171 | 5=>5 | 80=>30 | n=>n,fun | n=>n⟩
theorem sh_lays156:Go.Proofs.Lays.n156 Pg sh_lays156_ren:={
 mixed:=by kernel_rfl
 f156:=Tryz.func32.trans (congrArg some (by kernel_rfl))
 f165:=Tryz.func66.trans (congrArg some (by kernel_rfl))
 f166:=Tryz.func67.trans (congrArg some (by kernel_rfl))
 f169:=Tryz.func68.trans (congrArg some (by kernel_rfl))
 f240:=Tryz.func83.trans (congrArg some (by kernel_rfl))
 f241:=Tryz.func84.trans (congrArg some (by kernel_rfl))
 f276:=Tryz.func102.trans (congrArg some (by kernel_rfl))
 f277:=Tryz.func103.trans (congrArg some (by kernel_rfl))
 t0:=Tryz.underlying0
 a0:=Tryz.isAgg0
 z0:=Tryz.sizeOf0
 v0:=Tryz.zeroValue0
 t3:=Tryz.underlying3
 a3:=Tryz.isAgg3
 z3:=Tryz.sizeOf3
 v3:=Tryz.zeroValue3
 t4:=Tryz.underlying4
 a4:=Tryz.isAgg4
 z4:=Tryz.sizeOf4
 v4:=Tryz.zeroValue4
 t9:=Tryz.underlying9
 a9:=Tryz.isAgg9
 z9:=Tryz.sizeOf9
 v9:=Tryz.zeroValue9
 t20:=Tryz.underlying20
 a20:=Tryz.isAgg20
 z20:=Tryz.sizeOf20
 v20:=Tryz.zeroValue20
 t31:=Tryz.underlying80
 a31:=Tryz.isAgg80
 z31:=Tryz.sizeOf80
 v31:=Tryz.zeroValue80
 t37:=Tryz.underlying126
 a37:=Tryz.isAgg126
 z37:=Tryz.sizeOf126
 v37:=Tryz.zeroValue126
 t70:=Tryz.underlying125
 a70:=Tryz.isAgg125
 z70:=Tryz.sizeOf125
 v70:=Tryz.zeroValue125
 t72:=Tryz.underlying128
 a72:=Tryz.isAgg128
 z72:=Tryz.sizeOf128
 v72:=Tryz.zeroValue128
 t75:=Tryz.underlying131
 a75:=Tryz.isAgg131
 z75:=Tryz.sizeOf131
 v75:=Tryz.zeroValue131
 t76:=Tryz.underlying132
 a76:=Tryz.isAgg132
 z76:=Tryz.sizeOf132
 v76:=Tryz.zeroValue132
 t127:=Tryz.underlying150
 a127:=Tryz.isAgg150
 z127:=Tryz.sizeOf150
 v127:=Tryz.zeroValue150
 t164:=Tryz.underlying171
 a164:=Tryz.isAgg171
 z164:=Tryz.sizeOf171
 v164:=Tryz.zeroValue171 }
theorem sh_Builder_Extra_156:Builder.Extra Pg sh_lays156_ren:={
 sizeBuilder:=by kernel_rfl
 liesBuilder:=by kernel_rfl
 t5:=Tryz.underlying5
 a5:=Tryz.isAgg5
 z5:=Tryz.sizeOf5
 v5:=Tryz.zeroValue5
 infoByte:=by kernel_rfl
 cellsByte:=by kernel_rfl
 sizeByte:=by kernel_rfl
 neB5:=by decide }
open Go.RowKit in
theorem sh_strings_Join_none (a:Option Addr) (c:Nat) (sep:ByteArray) (w:World) :
 Calls Pg 32 #[.slice a 0 c,.string sep] w fun e w'=>e = .returned (.string ⟨#[]⟩)∧w'=w:=Any.strings_Join_none sh_lays156 sh_Builder_Extra_156 a c sep w
open Go.RowKit in
theorem sh_strings_Join (bk o c:Nat) (xs:List ByteArray) (sep:ByteArray) (w:World) (hcells:∀ (j:Nat) x,xs[j]?=some x→w.cell? ⟨bk,o+j,none⟩=some (.string x)) (hbk:bk < w.heap.size) (hN:xs.length≤140737488355328) (hcap:xs.length≤c) (hlen:(Lib.join (xs.map (·.data.toList)) sep.data.toList).length≤140737488355328) :
 Calls Pg 32 #[.slice (some ⟨bk,o,none⟩) xs.length c,.string sep] w fun e w'=>e = .returned (.string ⟨(Lib.join (xs.map (·.data.toList)) sep.data.toList).toArray⟩)∧Below w.heap.size w w':=Any.strings_Join sh_lays156 sh_Builder_Extra_156 bk o c xs sep w hcells hbk hN hcap hlen
def sh_laysM171_ren:Go.Shelf.Ren:=⟨fun | 171=>65 | 243=>82 | 246=>101 | 283=>117 | 284=>118 | 285=>119 | 286=>120 | 129=>128 | 317=>127 | 318=>129 | 319=>130 | 320=>131 | 337=>136 | 338=>137 | n=>n,fun | 3=>3 | 9=>9 | 2=>2 | 4=>4 | 171=>184 | 0=>0 | 53=>185 | 37=>126 | 5=>5 | 173=>188 | 212=>196 | 51=>197 | 20=>20 | 213=>198 | 46=>200 | 232=>215 | 233=>216 | n=>n,fun | 17=>1 | 18=>2 | 19=>3 | n=>n⟩
theorem sh_laysM171:Go.Proofs.LaysM.n171 Pg sh_laysM171_ren:={
 mixed:=by kernel_rfl
 f129:=Tryz.func128.trans (congrArg some (by kernel_rfl))
 f171:=Tryz.func65.trans (congrArg some (by kernel_rfl))
 f243:=Tryz.func82.trans (congrArg some (by kernel_rfl))
 f246:=Tryz.func101.trans (congrArg some (by kernel_rfl))
 f283:=Tryz.func117.trans (congrArg some (by kernel_rfl))
 f284:=Tryz.func118.trans (congrArg some (by kernel_rfl))
 f285:=Tryz.func119.trans (congrArg some (by kernel_rfl))
 f286:=Tryz.func120.trans (congrArg some (by kernel_rfl))
 f317:=Tryz.func127.trans (congrArg some (by kernel_rfl))
 f318:=Tryz.func129.trans (congrArg some (by kernel_rfl))
 f319:=Tryz.func130.trans (congrArg some (by kernel_rfl))
 f320:=Tryz.func131.trans (congrArg some (by kernel_rfl))
 f337:=Tryz.func136.trans (congrArg some (by kernel_rfl))
 f338:=Tryz.func137.trans (congrArg some (by kernel_rfl))
 t0:=Tryz.underlying0
 a0:=Tryz.isAgg0
 z0:=Tryz.sizeOf0
 v0:=Tryz.zeroValue0
 t2:=Tryz.underlying2
 a2:=Tryz.isAgg2
 z2:=Tryz.sizeOf2
 v2:=Tryz.zeroValue2
 t3:=Tryz.underlying3
 a3:=Tryz.isAgg3
 z3:=Tryz.sizeOf3
 v3:=Tryz.zeroValue3
 t4:=Tryz.underlying4
 a4:=Tryz.isAgg4
 z4:=Tryz.sizeOf4
 v4:=Tryz.zeroValue4
 t5:=Tryz.underlying5
 a5:=Tryz.isAgg5
 z5:=Tryz.sizeOf5
 v5:=Tryz.zeroValue5
 t9:=Tryz.underlying9
 a9:=Tryz.isAgg9
 z9:=Tryz.sizeOf9
 v9:=Tryz.zeroValue9
 t20:=Tryz.underlying20
 a20:=Tryz.isAgg20
 z20:=Tryz.sizeOf20
 v20:=Tryz.zeroValue20
 t37:=Tryz.underlying126
 a37:=Tryz.isAgg126
 z37:=Tryz.sizeOf126
 v37:=Tryz.zeroValue126
 t46:=Tryz.underlying200
 a46:=Tryz.isAgg200
 z46:=Tryz.sizeOf200
 v46:=Tryz.zeroValue200
 t51:=Tryz.underlying197
 a51:=Tryz.isAgg197
 z51:=Tryz.sizeOf197
 v51:=Tryz.zeroValue197
 t53:=Tryz.underlying185
 a53:=Tryz.isAgg185
 z53:=Tryz.sizeOf185
 v53:=Tryz.zeroValue185
 t171:=Tryz.underlying184
 a171:=Tryz.isAgg184
 z171:=Tryz.sizeOf184
 v171:=Tryz.zeroValue184
 t173:=Tryz.underlying188
 a173:=Tryz.isAgg188
 z173:=Tryz.sizeOf188
 v173:=Tryz.zeroValue188
 t212:=Tryz.underlying196
 a212:=Tryz.isAgg196
 z212:=Tryz.sizeOf196
 v212:=Tryz.zeroValue196
 t213:=Tryz.underlying198
 a213:=Tryz.isAgg198
 z213:=Tryz.sizeOf198
 t232:=Tryz.underlying215
 a232:=Tryz.isAgg215
 z232:=Tryz.sizeOf215
 v232:=Tryz.zeroValue215
 t233:=Tryz.underlying216
 a233:=Tryz.isAgg216
 z233:=Tryz.sizeOf216
 v233:=Tryz.zeroValue216
 g17:=by kernel_rfl
 g18:=by kernel_rfl
 g19:=by kernel_rfl
 i0:=by kernel_rfl
 i2:=by kernel_rfl
 i3:=by kernel_rfl
 i4:=by kernel_rfl
 i5:=by kernel_rfl
 i9:=by kernel_rfl
 i20:=by kernel_rfl
 i37:=by kernel_rfl
 i46:=by kernel_rfl
 i51:=by kernel_rfl
 i53:=by kernel_rfl
 i171:=by kernel_rfl
 i173:=by kernel_rfl
 i212:=by kernel_rfl
 i232:=by kernel_rfl
 i233:=by kernel_rfl
 m17:=by kernel_rfl
 m18:=by kernel_rfl
 m19:=by kernel_rfl }
open Go.RowKit Go.Sort Go.Lib in
theorem sh_strconv_Itoa (n:Int) (h0 : -9223372036854775808≤n) (h1:n≤9223372036854775807) (w:World) (htab:Lib.TabIs Pg w "internal/strconv.uint64pow10" .u64 Lib.pow10Tab) :
 Calls Pg 65 #[.int .i64 n] w fun e w'=>e = .returned (.string ⟨(Lib.itoa n).toArray⟩)∧∃ k os,w'=grow (w.drewN k) os:=Any.strconv_Itoa sh_laysM171 n h0 h1 w htab
end Go.Proofs.YtfdecdnmooaegaaGreatDoor
