/-
  Lemmas for the claim.
-/
import Derived.Test.YtngflmjncplkaaaGreatDoorUg2
set_option linter.all false
set_option maxHeartbeats 4000000
set_option maxRecDepth 100000
namespace Go.Proofs.YtngflmjncplkaaaGreatDoor
open Sw
open Go.RowKit (intOf Below)
abbrev zeroK:Array Value := #[.string ByteArray.empty,.bool false,.nilFunc]
theorem kinds_get {L:List (Int×Value×Nat)} (h:KindsR L) (k:Int):∃ a b c:Value,(Sw.look L k).getD (.agg zeroK) = .agg #[a,b,c]∧(Sw.look L k).isSome=decide (1≤k∧k≤4)∧a.oneCell'=true∧b.oneCell'=true∧c.oneCell'=true∧(1≤k∧k≤4 → #[a,b,c]=(kindCells k).toArray):=by
 rw [h k]
 by_cases hk:1≤k∧k≤4
 · rw [if_pos hk]
   exact ⟨_,_,_,rfl,by simp [hk],rfl,rfl,kfV_one k,fun _=>rfl⟩
 · rw [if_neg hk]
   exact ⟨_,_,_,rfl,by simp [hk],rfl,rfl,rfl,fun h=>absurd h hk⟩
theorem allowed_ret (w0:World) (v:Value) (r:RolD) (n:Nat) (hr:RolVal w0 v r) (hn:n < r.steps.length) (hlim:∀ c∈r.counters,c.limit≤1000) (hsm:∀ x∈r.steps,StpSm x):Ret Pg 42 #[v,.int .i64 (n:Int)] w0 fun u w'=>u = .bool (stpB r n)∧Ext w0 w':=by
 obtain ⟨sv,cv,tv,rfl,hS,hC,hT,o1,o2,o3⟩:=hr.op
 obtain ⟨x,hx⟩:=getElem?_lt hn
 have hst:stpB r n=allowB r n x:=by unfold stpB;rw [hx]
 rw [hst]
 have hT':=hT
 obtain ⟨A,c,rfl,_,_,_,hel⟩:=SliceOf.open hT
 obtain ⟨b,o,cs,rfl,_,hA,rfl⟩:=hel n x hx
 have dk:(n:Int) < (r.steps.length:Int):=by omega
 refine n25s (R:=retR _) ?_;unfold n25
 rw [op_boxA]
 have h2:=heap_new w0 (rolCells r sv cv (.slice (some ⟨b,o,none⟩) r.steps.length c)).toArray 26
 have eW:Ext w0 (w0.alloc (.cells (rolCells r sv cv (.slice (some ⟨b,o,none⟩) r.steps.length c)).toArray 26)):=ee
 generalize (w0.alloc (.cells (rolCells r sv cv (.slice (some ⟨b,o,none⟩) r.steps.length c)).toArray 26))=W at h2 eW ⊢
 generalize hp2:w0.heap.size=p2 at h2 ⊢
 simp (disch:=try exact DI) only [↓PR,QR,simprocAttr,(cells_of_heap h2).1,hA.c9 eW]
 generalize hV:World.alloc W _=V
 have h5:V.heap[W.heap.size]?=some (.cells (stpCells x).toArray 71 (0,0)):=by rw [← hV];exact heap_new _ _ _
 have eV:Ext W V:=by rw [← hV];exact (Ext.refl W).alloc _
 clear hV
 generalize hp5:W.heap.size=p5 at h5 ⊢
 have E0:=eW.trans eV
 refine drawK_intro ?_
 have eD:Ext V (Sw.drew V):=(Ext.refl V).drew
 generalize (Sw.drew V)=D at eD ⊢
 have ED:=E0.trans eD
 have d2:=(eV.trans eD).obj h2
 have d5:=eD.obj h5
 unfold n25c23
 simp (disch:=try exact DI) only [↓PR,QR,simprocAttr,(cells_of_heap d5).1]
 have fin:∀ (w':World) (m p6 cc:Nat) (L:List (Int×Value×Nat)) (a b' c' a0 b0 c0:Value),Ext D w'→MapB w' m kEnc L cc→D.heap.size≤p6→w'.heap[p6]?=some (.cells #[a0,b0,c0] 89 (0,0))→(Sw.look L x.kind).getD (.agg zeroK) = .agg #[a,b',c']→(Sw.look L x.kind).isSome=decide (1≤x.kind∧x.kind≤4)→a.oneCell'=true→b'.oneCell'=true→c'.oneCell'=true→(1≤x.kind∧x.kind≤4 → #[a,b',c']=(kindCells x.kind).toArray) →
  opU Pg (Instr.storeAt 89 (.pointer (some ⟨p6,0,none⟩)) (.agg #[a,b',c'])) (panK (retR fun u w'=>u = .bool (allowB r n x)∧Ext w0 w')) w' fun w=>KM D m kEnc L cc w∧drawK w fun C3 w=>n25c20 (.int .i64 (n:Int)) (.pointer (some ⟨p2,0,none⟩)) (.pointer (some ⟨p5,0,none⟩)) (.pointer (some ⟨p6,0,none⟩)) (.bool (decide (1≤x.kind∧x.kind≤4))) C3 (retR fun u w'=>u = .bool (allowB r n x)∧Ext w0 w') w:=by
  intro w' m p6 cc L a b' c' a0 b0 c0 e' hM hp6 o6 hab _ h1 h2' h3 hk
  simp (disch:=try exact DI) only [↓PR,QR,simprocAttr,(cells_of_heap o6).1,(cells_of_heap o6).2]
  have e6:Ext D (((w'.setCell ⟨p6,0,none⟩ a).setCell ⟨p6,1,none⟩ b').setCell ⟨p6,2,none⟩ c'):=((e'.setCell (p:=⟨p6,0,none⟩) hp6 _).setCell (p:=⟨p6,1,none⟩) hp6 _).setCell (p:=⟨p6,2,none⟩) hp6 _
  have o6':(((w'.setCell ⟨p6,0,none⟩ a).setCell ⟨p6,1,none⟩ b').setCell ⟨p6,2,none⟩ c').heap[p6]?=some (.cells #[a,b',c'] 89 (0,0)):=by simpa using heap_set (o:=2) (heap_set (o:=1) (heap_set (o:=0) o6 a) b') c'
  refine ⟨⟨e6,((hM.setCell _ _).setCell _ _).setCell _ _⟩,?_⟩
  have g:=ED.trans e6
  exact allow_tail g n hx (e6.obj d2) (e6.obj d5) rfl (fun his=>by rw [← hk (of_decide_eq_true his)];exact o6') (hS.ext g) (hC.ext g) (hT'.ext g) hlim (hsm x (List.mem_of_getElem? hx))
 refine ⟨?_,?_⟩
 · refine callK_ret (kinds_ret _) ?_
   rintro _ w6 ⟨m,L,cc,rfl,hm,hM,hL,e6⟩
   refine narrowK_KM e6 hM ?_
   obtain ⟨a,b',c',hab,his,h1,h2',h3,hk⟩:=kinds_get hL x.kind
   have h:=fin (w6.alloc (.cells zeroK 89)) m w6.heap.size cc L a b' c' _ _ _ (e6.alloc _) (hM.ext ((Ext.refl _).alloc _)) e6.size (heap_new _ _ _) hab his h1 h2' h3 hk
   unfold n25c21
   haveI:ClassNe (KM D m kEnc L cc):=⟨⟨w6,e6,hM⟩⟩
   rw [qV_lookupKM (enc:=kEnc) Tryz.underlying90 (KeyOK.int Tryz.underlying69) ty89 ⟨w6,e6,hM⟩,hab,his]
   simp (disch:=try exact DI) only [↓PR,QR,simprocAttr]
   simp (disch:=try exact DI) only [↓PR,QR,simprocAttr] at h
   exact ⟨⟨e6.alloc _,hM.ext ((Ext.refl _).alloc _)⟩,h⟩
 · simp (disch:=try exact DI) only [↓PR,QR,simprocAttr]
   refine ⟨(Ext.refl _).alloc _,?_⟩
   refine callK_ret (kinds_ret _) ?_
   rintro _ w6 ⟨m,L,cc,rfl,hm,hM,hL,e6⟩
   have e06:=((Ext.refl D).alloc _).trans e6
   refine narrowK_KM e06 hM ?_
   obtain ⟨a,b',c',hab,his,h1,h2',h3,hk⟩:=kinds_get hL x.kind
   unfold n25c22
   haveI:ClassNe (KM D m kEnc L cc):=⟨⟨w6,e06,hM⟩⟩
   rw [qV_lookupKM (enc:=kEnc) Tryz.underlying90 (KeyOK.int Tryz.underlying69) ty89 ⟨w6,e06,hM⟩,hab,his]
   have h:=fin w6 m D.heap.size cc L a b' c' _ _ _ e06 hM (Nat.le_refl _) (e6.obj (heap_new D _ _)) hab his h1 h2' h3 hk
   simp (disch:=try exact DI) only [↓PR,QR,simprocAttr]
   simp (disch:=try exact DI) only [↓PR,QR,simprocAttr] at h
   exact h
theorem CheckS3_ret (w:World) (r:RolD) (p:Nat) (sv cv tv:Value) (hp:w.heap[p]?=some (.cells (rolCells r sv cv tv).toArray 26 (0,0))) (h1:StasOf w sv r.states) (h2:CntsOf w cv r.counters) (h3:StpsOf w tv r.steps) (i:Nat) (hi:i < r.steps.length) (hlim:∀ c∈r.counters,c.limit≤1000) (hsm:∀ x∈r.steps,StpSm x) :
 Ret Pg 41 #[.int .i64 (i:Int),.pointer (some ⟨p,0,none⟩)] w fun u w'=>u = .bool (!stpB r i)∧Ext w w':=by
 have o1:=SliceOf.oneCell h1
 have o2:=SliceOf.oneCell h2
 have o3:=SliceOf.oneCell h3
 refine n16s (R:=retR _) ?_;unfold n16
 simp (disch:=try exact DI) only [↓PR,QR,simprocAttr,(cells_of_heap hp).1]
 refine zcr (allowed_ret w _ r i ⟨sv,cv,tv,rfl,h1,h2,h3⟩ hi hlim hsm) fun w1 e1=>?_
 simp (disch:=try exact DI) only [↓PR,QR,simprocAttr]
 exact ⟨by trivial,e1⟩
theorem few_lim {r:RolD} (h:¬ 0≤fewP r.counters.length 0 4 (cntB r)):∀ c∈r.counters,c.limit≤1000:=by
 intro c hc
 obtain ⟨i,hi⟩:=List.getElem?_of_mem hc
 have hil:=(List.getElem?_eq_some_iff.1 hi).1
 unfold fewP at h
 rw [if_neg (by omega)] at h
 by_cases h4:4 < r.counters.length
 · rw [if_pos h4] at h;omega
 · rw [if_neg h4] at h
   have hb:cntB r i=true:=by
    cases hcb:cntB r i with
    | true=>rfl
    | false =>
     have:=idx_le (p:=fun i=>!cntB r i) (range_at hil) (by rw [hcb];rfl)
     omega
   unfold cntB at hb
   rw [hi] at hb
   simp only [Bool.and_eq_true,decide_eq_true_eq] at hb
   exact hb.2.2.2
theorem Check_ret (w0:World) (v:Value) (r:RolD) (hr:RolVal w0 v r) (hsm:∀ x∈r.steps,StpSm x) (hl:r.counters.length≤1000000000∧r.states.length≤1000000000∧r.steps.length≤1000000000):Ret Pg 12 #[v] w0 fun u w'=>u = .tuple #[.int .i64 (checkR r).1,.int .i64 (checkR r).2]∧Ext w0 w':=by
 obtain ⟨sv,cv,tv,rfl,hS,hC,hT,o1,o2,o3⟩:=hr.op
 obtain ⟨A1,c1,rfl,_⟩:=SliceOf.open hS
 obtain ⟨A2,c2,rfl,_⟩:=SliceOf.open hC
 obtain ⟨A3,c3,rfl,_⟩:=SliceOf.open hT
 refine n13s (R:=retR _) ?_;unfold n13
 rw [op_boxA]
 have hp:=heap_new w0 (rolCells r (.slice A1 r.states.length c1) (.slice A2 r.counters.length c2) (.slice A3 r.steps.length c3)).toArray 26
 have eW:Ext w0 (w0.alloc (.cells (rolCells r (.slice A1 r.states.length c1) (.slice A2 r.counters.length c2) (.slice A3 r.steps.length c3)).toArray 26)):=ee
 generalize (w0.alloc (.cells (rolCells r (.slice A1 r.states.length c1) (.slice A2 r.counters.length c2) (.slice A3 r.steps.length c3)).toArray 26))=W at hp eW ⊢
 generalize w0.heap.size=p at hp ⊢
 simp (disch:=try exact DI) only [↓PR,QR,simprocAttr,(cells_of_heap hp).1]
 refine zcr (Name_ret W r.name) fun w1 e1=>?_
 have E1:=eW.trans e1
 unfold checkR
 cases nameB r.name with
 | false =>
  rw [if_pos rfl]
  simp (disch:=try exact DI) only [↓PR,QR,simprocAttr]
  exact ⟨by trivial,E1⟩
 | true =>
 rw [if_neg (by simp)]
 simp (disch:=try exact DI) only [↓PR,QR,simprocAttr,↓n13c4,(cells_of_heap (e1.obj hp)).1]
 refine zcr (few_ret w1 r.counters.length 0 4 _ _ (cntB r) c37 hl.1 fun i w hi _ _ e=>CheckS1_ret ((e1.trans e).obj hp) (hS.ext (E1.trans e)) (hC.ext (E1.trans e)) (hT.ext (E1.trans e)) hi) fun w2 e2=>?_
 have e12:=e1.trans e2
 have E2:=eW.trans e12
 by_cases h1:0≤fewP r.counters.length 0 4 (cntB r)
 · have d1:decide (fewP r.counters.length 0 4 (cntB r)≥0)=true:=decide_eq_true h1
   rw [if_pos h1]
   simp (disch:=try exact DI) only [↓PR,QR,simprocAttr,d1]
   exact ⟨by trivial,E2⟩
 have d1:decide (fewP r.counters.length 0 4 (cntB r)≥0)=false:=decide_eq_false h1
 have hlim:=few_lim h1
 rw [if_neg h1]
 simp (disch:=try exact DI) only [↓PR,QR,simprocAttr,d1,↓n13c3,(cells_of_heap (e12.obj hp)).1]
 refine zcr (few_ret w2 r.states.length 1 24 _ _ (staB r) c39 hl.2.1 fun i w hi _ _ e=>CheckS2_ret ((e12.trans e).obj hp) (hS.ext (E2.trans e)) (hC.ext (E2.trans e)) (hT.ext (E2.trans e)) hi) fun w3 e3=>?_
 have e13:=e12.trans e3
 have E3:=eW.trans e13
 by_cases h2:0≤fewP r.states.length 1 24 (staB r)
 · have d2:decide (fewP r.states.length 1 24 (staB r)≥0)=true:=decide_eq_true h2
   rw [if_pos h2]
   simp (disch:=try exact DI) only [↓PR,QR,simprocAttr,d2]
   exact ⟨by trivial,E3⟩
 have d2:decide (fewP r.states.length 1 24 (staB r)≥0)=false:=decide_eq_false h2
 rw [if_neg h2]
 simp (disch:=try exact DI) only [↓PR,QR,simprocAttr,d2,↓n13c2,(cells_of_heap (e13.obj hp)).1]
 refine zcr (few_ret w3 r.steps.length 0 80 _ _ (stpB r) c41 hl.2.2 fun i w hi _ _ e=>CheckS3_ret w r p _ _ _ ((e13.trans e).obj hp) (hS.ext (E3.trans e)) (hC.ext (E3.trans e)) (hT.ext (E3.trans e)) i hi hlim hsm) fun w4 e4=>?_
 have E4:=E3.trans e4
 by_cases h3:0≤fewP r.steps.length 0 80 (stpB r)
 · have d3:decide (fewP r.steps.length 0 80 (stpB r)≥0)=true:=decide_eq_true h3
   rw [if_pos h3]
   simp (disch:=try exact DI) only [↓PR,QR,simprocAttr,d3,↓n13c1]
   exact ⟨by trivial,E4⟩
 · have d3:decide (fewP r.steps.length 0 80 (stpB r)≥0)=false:=decide_eq_false h3
   rw [if_neg h3]
   simp (disch:=try exact DI) only [↓PR,QR,simprocAttr,d3,↓n13c1]
   exact ⟨by trivial,E4⟩
def n21c1 (t2 t19:Value) (R:RT) (w:World):Prop :=
 opV Pg (Instr.build 26 #[]) (panK R) w fun t22 w =>
 opU Pg (Instr.storeAt 26 t2 t22) (panK R) w fun w =>
 qW Pg 26 t2 w fun r0 =>
 R (.returned (.tuple #[r0,(.int .i64 0),t19])) w
def n21c2 (t2:Value) (R:RT) (w:World):Prop :=
 opV Pg (Instr.loadAt 26 t2) (panK R) w fun t24 w =>
 opU Pg (Instr.storeAt 26 t2 t24) (panK R) w fun w =>
 qW Pg 26 t2 w fun r0 =>
 R (.returned (.tuple #[r0,(.int .i64 0),(.int .i64 0)])) w
def n21c3 (t2 t17:Value) (R:RT) (w:World):Prop :=
 opV Pg (Instr.extract t17 0) (panK R) w fun t18 w =>
 opV Pg (Instr.extract t17 1) (panK R) w fun t19 w =>
 opV Pg (binS .neq 29 true t19 (.int .i64 0)) (panK R) w fun t21 w =>
 condP t21 (
 n21c1 t2 t19 R w) (
 n21c2 t2 R w)
def n21c4 (t2 t10:Value) (R:RT) (w:World):Prop :=
 opV Pg (Instr.build 26 #[]) (panK R) w fun t13 w =>
 opU Pg (Instr.storeAt 26 t2 t13) (panK R) w fun w =>
 qW Pg 26 t2 w fun r0 =>
 R (.returned (.tuple #[r0,t10,(.int .i64 6)])) w
def n21c5 (t2 t10:Value) (R:RT) (w:World):Prop :=
 opV Pg (binS .gtr 3 true t10 (.int .i64 0)) (panK R) w fun t12 w =>
 condP t12 (
 n21c4 t2 t10 R w) (
 opV Pg (Instr.loadAt 26 t2) (panK R) w fun t16 w =>
 callK Pg 12 #[t16] (panK R) w fun t17 w =>
 n21c3 t2 t17 R w)
def n21 (t0:Value) (R:RT) (w:World):Prop :=
 opV Pg (Instr.alloc 26 true (.tuple #[])) (panK R) w fun t2 w =>
 opV Pg (Instr.makeFunc (.func 51) #[] #[t2]) (panK R) w fun t9 w =>
 callK Pg 50 #[t0,t9] (panK R) w fun t10 w =>
 n21c5 t2 t10 R w
theorem n21s {t0:Value} {R:RT} {w:World} (h:n21 t0 R w):Calls Pg 19 #[t0] w R:=by
 refine yD Tryz.func19 ?_
 refine zs<|zr<|yv h fun _ w h=>zm<|zm<|zn<|zk<|zs<|zs<|zr<|zm<|yF h fun _ w h=>yc h c50 fun _ w h=>zm<|zn ?_
 refine zk<|zs<|zr<|zm<|yb h fun _ w h=>zn<|zk<|yC h (fun h=>zs<|zr<|yB h fun _ w h=>zm<|yu h fun w h=>zm<|zm<|zn<|zk<|sim_ret<|sim_then_ret<|body_retCTT rfl rfl rfl rfl h) fun h=>sim_skip<|zk<|zs<|zs<|zr<|yv h fun _ w h=>?_
 refine yc h c12 fun _ w h=>zm<|yv h fun _ w h=>yv h fun _ w h=>zm<|zm<|zn<|zk<|zs<|zr<|zm<|yb h fun _ w h=>zn<|zk<|yC h (fun h=>zs<|zr<|yB h fun _ w h=>zm<|yu h fun w h=>zm<|zm<|zn<|zk<|sim_ret<|sim_then_ret<|body_retCTT rfl rfl rfl rfl h) fun h=>?_
 exact sim_skip<|zk<|zs<|zr<|yv h fun _ w h=>yu h fun w h=>zm<|zm<|zn<|zk<|sim_ret<|body_retCTT rfl rfl rfl rfl h
open Go.Shelf
def sh_lays156_ren:Go.Shelf.Ren:=⟨fun | 156=>48 | 165=>85 | 166=>86 | 169=>87 | 240=>104 | 241=>105 | 276=>123 | 277=>124 | n=>n,fun | 31=>73 | 9=>9 | 3=>3 | 4=>4 | 0=>0 | 20=>20 | 72=>127 | 76=>131 | 70=>125 | 37=>94 | 75=>130 | 127=>147 | 164=>163 | 5=>5 | 80=>111 | n=>n,fun | n=>n⟩
theorem sh_lays156:Go.Proofs.Lays.n156 Pg sh_lays156_ren:={
 mixed:=by kernel_rfl
 f156:=Tryz.func48.trans (congrArg some (by kernel_rfl))
 f165:=Tryz.func85.trans (congrArg some (by kernel_rfl))
 f166:=Tryz.func86.trans (congrArg some (by kernel_rfl))
 f169:=Tryz.func87.trans (congrArg some (by kernel_rfl))
 f240:=Tryz.func104.trans (congrArg some (by kernel_rfl))
 f241:=Tryz.func105.trans (congrArg some (by kernel_rfl))
 f276:=Tryz.func123.trans (congrArg some (by kernel_rfl))
 f277:=Tryz.func124.trans (congrArg some (by kernel_rfl))
 t0:=Tryz.underlying0
 a0:=Tryz.isAgg0
 z0:=Tryz.sizeOf0
 v0:=Tryz.zeroValue0
 t3:=Tryz.underlying3
 a3:=Tryz.isAgg3
 z3:=Tryz.sizeOf3
 v3:=Tryz.zeroValue3
 t4:=Tryz.underlying4
 a4:=Tryz.isAgg4
 z4:=Tryz.sizeOf4
 v4:=Tryz.zeroValue4
 t9:=Tryz.underlying9
 a9:=Tryz.isAgg9
 z9:=Tryz.sizeOf9
 v9:=Tryz.zeroValue9
 t20:=Tryz.underlying20
 a20:=Tryz.isAgg20
 z20:=Tryz.sizeOf20
 v20:=Tryz.zeroValue20
 t31:=Tryz.underlying73
 a31:=Tryz.isAgg73
 z31:=Tryz.sizeOf73
 v31:=Tryz.zeroValue73
 t37:=Tryz.underlying94
 a37:=Tryz.isAgg94
 z37:=Tryz.sizeOf94
 v37:=Tryz.zeroValue94
 t70:=Tryz.underlying125
 a70:=Tryz.isAgg125
 z70:=Tryz.sizeOf125
 v70:=Tryz.zeroValue125
 t72:=Tryz.underlying127
 a72:=Tryz.isAgg127
 z72:=Tryz.sizeOf127
 v72:=Tryz.zeroValue127
 t75:=Tryz.underlying130
 a75:=Tryz.isAgg130
 z75:=Tryz.sizeOf130
 v75:=Tryz.zeroValue130
 t76:=Tryz.underlying131
 a76:=Tryz.isAgg131
 z76:=Tryz.sizeOf131
 v76:=Tryz.zeroValue131
 t127:=Tryz.underlying147
 a127:=Tryz.isAgg147
 z127:=Tryz.sizeOf147
 v127:=Tryz.zeroValue147
 t164:=Tryz.underlying163
 a164:=Tryz.isAgg163
 z164:=Tryz.sizeOf163
 v164:=Tryz.zeroValue163 }
theorem sh_Builder_Extra_156:Builder.Extra Pg sh_lays156_ren:={
 sizeBuilder:=by kernel_rfl
 liesBuilder:=by kernel_rfl
 t5:=Tryz.underlying5
 a5:=Tryz.isAgg5
 z5:=Tryz.sizeOf5
 v5:=Tryz.zeroValue5
 infoByte:=by kernel_rfl
 cellsByte:=by kernel_rfl
 sizeByte:=by kernel_rfl
 neB5:=by decide }
open Go.RowKit in
theorem sh_strings_Join (bk o c:Nat) (xs:List ByteArray) (sep:ByteArray) (w:World) (hcells:∀ (j:Nat) x,xs[j]?=some x→w.cell? ⟨bk,o+j,none⟩=some (.string x)) (hbk:bk < w.heap.size) (hN:xs.length≤140737488355328) (hcap:xs.length≤c) (hlen:(Lib.join (xs.map (·.data.toList)) sep.data.toList).length≤140737488355328) :
 Calls Pg 48 #[.slice (some ⟨bk,o,none⟩) xs.length c,.string sep] w fun e w'=>e = .returned (.string ⟨(Lib.join (xs.map (·.data.toList)) sep.data.toList).toArray⟩)∧Below w.heap.size w w':=Any.strings_Join sh_lays156 sh_Builder_Extra_156 bk o c xs sep w hcells hbk hN hcap hlen
def sh_laysM171_ren:Go.Shelf.Ren:=⟨fun | 171=>82 | 243=>103 | 246=>122 | 283=>140 | 284=>141 | 285=>142 | 286=>143 | 129=>121 | 317=>152 | 318=>153 | 319=>154 | 320=>155 | 337=>163 | 338=>164 | n=>n,fun | 3=>3 | 9=>9 | 2=>2 | 4=>4 | 171=>180 | 0=>0 | 53=>161 | 37=>94 | 5=>5 | 173=>182 | 212=>197 | 51=>159 | 20=>20 | 213=>198 | 46=>146 | 232=>209 | 233=>210 | n=>n,fun | 17=>3 | 18=>6 | 19=>7 | n=>n⟩
theorem sh_laysM171:Go.Proofs.LaysM.n171 Pg sh_laysM171_ren:={
 mixed:=by kernel_rfl
 f129:=Tryz.func121.trans (congrArg some (by kernel_rfl))
 f171:=Tryz.func82.trans (congrArg some (by kernel_rfl))
 f243:=Tryz.func103.trans (congrArg some (by kernel_rfl))
 f246:=Tryz.func122.trans (congrArg some (by kernel_rfl))
 f283:=Tryz.func140.trans (congrArg some (by kernel_rfl))
 f284:=Tryz.func141.trans (congrArg some (by kernel_rfl))
 f285:=Tryz.func142.trans (congrArg some (by kernel_rfl))
 f286:=Tryz.func143.trans (congrArg some (by kernel_rfl))
 f317:=Tryz.func152.trans (congrArg some (by kernel_rfl))
 f318:=Tryz.func153.trans (congrArg some (by kernel_rfl))
 f319:=Tryz.func154.trans (congrArg some (by kernel_rfl))
 f320:=Tryz.func155.trans (congrArg some (by kernel_rfl))
 f337:=Tryz.func163.trans (congrArg some (by kernel_rfl))
 f338:=Tryz.func164.trans (congrArg some (by kernel_rfl))
 t0:=Tryz.underlying0
 a0:=Tryz.isAgg0
 z0:=Tryz.sizeOf0
 v0:=Tryz.zeroValue0
 t2:=Tryz.underlying2
 a2:=Tryz.isAgg2
 z2:=Tryz.sizeOf2
 v2:=Tryz.zeroValue2
 t3:=Tryz.underlying3
 a3:=Tryz.isAgg3
 z3:=Tryz.sizeOf3
 v3:=Tryz.zeroValue3
 t4:=Tryz.underlying4
 a4:=Tryz.isAgg4
 z4:=Tryz.sizeOf4
 v4:=Tryz.zeroValue4
 t5:=Tryz.underlying5
 a5:=Tryz.isAgg5
 z5:=Tryz.sizeOf5
 v5:=Tryz.zeroValue5
 t9:=Tryz.underlying9
 a9:=Tryz.isAgg9
 z9:=Tryz.sizeOf9
 v9:=Tryz.zeroValue9
 t20:=Tryz.underlying20
 a20:=Tryz.isAgg20
 z20:=Tryz.sizeOf20
 v20:=Tryz.zeroValue20
 t37:=Tryz.underlying94
 a37:=Tryz.isAgg94
 z37:=Tryz.sizeOf94
 v37:=Tryz.zeroValue94
 t46:=Tryz.underlying146
 a46:=Tryz.isAgg146
 z46:=Tryz.sizeOf146
 v46:=Tryz.zeroValue146
 t51:=Tryz.underlying159
 a51:=Tryz.isAgg159
 z51:=Tryz.sizeOf159
 v51:=Tryz.zeroValue159
 t53:=Tryz.underlying161
 a53:=Tryz.isAgg161
 z53:=Tryz.sizeOf161
 v53:=Tryz.zeroValue161
 t171:=Tryz.underlying180
 a171:=Tryz.isAgg180
 z171:=Tryz.sizeOf180
 v171:=Tryz.zeroValue180
 t173:=Tryz.underlying182
 a173:=Tryz.isAgg182
 z173:=Tryz.sizeOf182
 v173:=Tryz.zeroValue182
 t212:=Tryz.underlying197
 a212:=Tryz.isAgg197
 z212:=Tryz.sizeOf197
 v212:=Tryz.zeroValue197
 t213:=Tryz.underlying198
 a213:=Tryz.isAgg198
 z213:=Tryz.sizeOf198
 t232:=Tryz.underlying209
 a232:=Tryz.isAgg209
 z232:=Tryz.sizeOf209
 v232:=Tryz.zeroValue209
 t233:=Tryz.underlying210
 a233:=Tryz.isAgg210
 z233:=Tryz.sizeOf210
 v233:=Tryz.zeroValue210
 g17:=by kernel_rfl
 g18:=by kernel_rfl
 g19:=by kernel_rfl
 i0:=by kernel_rfl
 i2:=by kernel_rfl
 i3:=by kernel_rfl
 i4:=by kernel_rfl
 i5:=by kernel_rfl
 i9:=by kernel_rfl
 i20:=by kernel_rfl
 i37:=by kernel_rfl
 i46:=by kernel_rfl
 i51:=by kernel_rfl
 i53:=by kernel_rfl
 i171:=by kernel_rfl
 i173:=by kernel_rfl
 i212:=by kernel_rfl
 i232:=by kernel_rfl
 i233:=by kernel_rfl
 m17:=by kernel_rfl
 m18:=by kernel_rfl
 m19:=by kernel_rfl }
open Go.RowKit Go.Sort Go.Lib in
theorem sh_strconv_Itoa (n:Int) (h0 : -9223372036854775808≤n) (h1:n≤9223372036854775807) (w:World) (htab:Lib.TabIs Pg w "internal/strconv.uint64pow10" .u64 Lib.pow10Tab) :
 Calls Pg 82 #[.int .i64 n] w fun e w'=>e = .returned (.string ⟨(Lib.itoa n).toArray⟩)∧∃ k os,w'=grow (w.drewN k) os:=Any.strconv_Itoa sh_laysM171 n h0 h1 w htab
def sh_laysC172_ren:Go.Shelf.Ren:=⟨fun | 172=>97 | 244=>108 | 245=>109 | 247=>128 | 279=>129 | 280=>130 | 281=>131 | 282=>132 | 287=>148 | 316=>149 | 171=>82 | 205=>150 | 321=>161 | 322=>162 | 243=>103 | 246=>122 | 283=>140 | 284=>141 | 285=>142 | 286=>143 | 129=>121 | 317=>152 | 318=>153 | 319=>154 | 320=>155 | 337=>163 | 338=>164 | n=>n,fun | 9=>9 | 3=>3 | 75=>130 | 76=>131 | 4=>4 | 5=>5 | 167=>168 | 37=>94 | 0=>0 | 85=>169 | 2=>2 | 168=>171 | 53=>161 | 175=>187 | 46=>146 | 210=>191 | 127=>147 | 145=>202 | 143=>200 | 21=>21 | 171=>180 | 173=>182 | 212=>197 | 51=>159 | 20=>20 | 213=>198 | 232=>209 | 233=>210 | 80=>111 | n=>n,fun | 15=>1 | 16=>2 | 17=>3 | 18=>6 | 19=>7 | n=>n⟩
theorem sh_laysC172:Go.Proofs.LaysC.n172 Pg sh_laysC172_ren:={
 mixed:=by kernel_rfl
 f129:=Tryz.func121.trans (congrArg some (by kernel_rfl))
 f171:=Tryz.func82.trans (congrArg some (by kernel_rfl))
 f172:=Tryz.func97.trans (congrArg some (by kernel_rfl))
 f205:=Tryz.func150.trans (congrArg some (by kernel_rfl))
 f243:=Tryz.func103.trans (congrArg some (by kernel_rfl))
 f244:=Tryz.func108.trans (congrArg some (by kernel_rfl))
 f245:=Tryz.func109.trans (congrArg some (by kernel_rfl))
 f246:=Tryz.func122.trans (congrArg some (by kernel_rfl))
 f247:=Tryz.func128.trans (congrArg some (by kernel_rfl))
 f279:=Tryz.func129.trans (congrArg some (by kernel_rfl))
 f280:=Tryz.func130.trans (congrArg some (by kernel_rfl))
 f281:=Tryz.func131.trans (congrArg some (by kernel_rfl))
 f282:=Tryz.func132.trans (congrArg some (by kernel_rfl))
 f283:=Tryz.func140.trans (congrArg some (by kernel_rfl))
 f284:=Tryz.func141.trans (congrArg some (by kernel_rfl))
 f285:=Tryz.func142.trans (congrArg some (by kernel_rfl))
 f286:=Tryz.func143.trans (congrArg some (by kernel_rfl))
 f287:=Tryz.func148.trans (congrArg some (by kernel_rfl))
 f316:=Tryz.func149.trans (congrArg some (by kernel_rfl))
 f317:=Tryz.func152.trans (congrArg some (by kernel_rfl))
 f318:=Tryz.func153.trans (congrArg some (by kernel_rfl))
 f319:=Tryz.func154.trans (congrArg some (by kernel_rfl))
 f320:=Tryz.func155.trans (congrArg some (by kernel_rfl))
 f321:=Tryz.func161.trans (congrArg some (by kernel_rfl))
 f322:=Tryz.func162.trans (congrArg some (by kernel_rfl))
 f337:=Tryz.func163.trans (congrArg some (by kernel_rfl))
 f338:=Tryz.func164.trans (congrArg some (by kernel_rfl))
 t0:=Tryz.underlying0
 a0:=Tryz.isAgg0
 z0:=Tryz.sizeOf0
 v0:=Tryz.zeroValue0
 t2:=Tryz.underlying2
 a2:=Tryz.isAgg2
 z2:=Tryz.sizeOf2
 v2:=Tryz.zeroValue2
 t3:=Tryz.underlying3
 a3:=Tryz.isAgg3
 z3:=Tryz.sizeOf3
 v3:=Tryz.zeroValue3
 t4:=Tryz.underlying4
 a4:=Tryz.isAgg4
 z4:=Tryz.sizeOf4
 v4:=Tryz.zeroValue4
 t5:=Tryz.underlying5
 a5:=Tryz.isAgg5
 z5:=Tryz.sizeOf5
 v5:=Tryz.zeroValue5
 t9:=Tryz.underlying9
 a9:=Tryz.isAgg9
 z9:=Tryz.sizeOf9
 v9:=Tryz.zeroValue9
 t20:=Tryz.underlying20
 a20:=Tryz.isAgg20
 z20:=Tryz.sizeOf20
 v20:=Tryz.zeroValue20
 t21:=Tryz.underlying21
 a21:=Tryz.isAgg21
 z21:=Tryz.sizeOf21
 v21:=Tryz.zeroValue21
 t37:=Tryz.underlying94
 a37:=Tryz.isAgg94
 z37:=Tryz.sizeOf94
 v37:=Tryz.zeroValue94
 t46:=Tryz.underlying146
 a46:=Tryz.isAgg146
 z46:=Tryz.sizeOf146
 v46:=Tryz.zeroValue146
 t51:=Tryz.underlying159
 a51:=Tryz.isAgg159
 z51:=Tryz.sizeOf159
 v51:=Tryz.zeroValue159
 t53:=Tryz.underlying161
 a53:=Tryz.isAgg161
 z53:=Tryz.sizeOf161
 v53:=Tryz.zeroValue161
 t75:=Tryz.underlying130
 a75:=Tryz.isAgg130
 z75:=Tryz.sizeOf130
 v75:=Tryz.zeroValue130
 t76:=Tryz.underlying131
 a76:=Tryz.isAgg131
 z76:=Tryz.sizeOf131
 v76:=Tryz.zeroValue131
 t85:=Tryz.underlying169
 a85:=Tryz.isAgg169
 z85:=Tryz.sizeOf169
 v85:=Tryz.zeroValue169
 t127:=Tryz.underlying147
 a127:=Tryz.isAgg147
 z127:=Tryz.sizeOf147
 v127:=Tryz.zeroValue147
 t143:=Tryz.underlying200
 a143:=Tryz.isAgg200
 z143:=Tryz.sizeOf200
 v143:=Tryz.zeroValue200
 t145:=Tryz.underlying202
 a145:=Tryz.isAgg202
 z145:=Tryz.sizeOf202
 v145:=Tryz.zeroValue202
 t167:=Tryz.underlying168
 a167:=Tryz.isAgg168
 z167:=Tryz.sizeOf168
 v167:=Tryz.zeroValue168
 t168:=Tryz.underlying171
 a168:=Tryz.isAgg171
 z168:=Tryz.sizeOf171
 v168:=Tryz.zeroValue171
 t171:=Tryz.underlying180
 a171:=Tryz.isAgg180
 z171:=Tryz.sizeOf180
 v171:=Tryz.zeroValue180
 t173:=Tryz.underlying182
 a173:=Tryz.isAgg182
 z173:=Tryz.sizeOf182
 v173:=Tryz.zeroValue182
 t175:=Tryz.underlying187
 a175:=Tryz.isAgg187
 z175:=Tryz.sizeOf187
 v175:=Tryz.zeroValue187
 t210:=Tryz.underlying191
 a210:=Tryz.isAgg191
 z210:=Tryz.sizeOf191
 v210:=Tryz.zeroValue191
 t212:=Tryz.underlying197
 a212:=Tryz.isAgg197
 z212:=Tryz.sizeOf197
 v212:=Tryz.zeroValue197
 t213:=Tryz.underlying198
 a213:=Tryz.isAgg198
 z213:=Tryz.sizeOf198
 t232:=Tryz.underlying209
 a232:=Tryz.isAgg209
 z232:=Tryz.sizeOf209
 v232:=Tryz.zeroValue209
 t233:=Tryz.underlying210
 a233:=Tryz.isAgg210
 z233:=Tryz.sizeOf210
 v233:=Tryz.zeroValue210
 g15:=by kernel_rfl
 g16:=by kernel_rfl
 g17:=by kernel_rfl
 g18:=by kernel_rfl
 g19:=by kernel_rfl
 t80:=Tryz.underlying111
 a80:=Tryz.isAgg111
 z80:=Tryz.sizeOf111
 v80:=Tryz.zeroValue111
 i0:=by kernel_rfl
 i2:=by kernel_rfl
 i3:=by kernel_rfl
 i4:=by kernel_rfl
 i5:=by kernel_rfl
 i9:=by kernel_rfl
 i20:=by kernel_rfl
 i21:=by kernel_rfl
 i37:=by kernel_rfl
 i46:=by kernel_rfl
 i51:=by kernel_rfl
 i53:=by kernel_rfl
 i75:=by kernel_rfl
 i76:=by kernel_rfl
 i80:=by kernel_rfl
 i85:=by kernel_rfl
 i127:=by kernel_rfl
 i143:=by kernel_rfl
 i145:=by kernel_rfl
 i167:=by kernel_rfl
 i168:=by kernel_rfl
 i171:=by kernel_rfl
 i173:=by kernel_rfl
 i175:=by kernel_rfl
 i210:=by kernel_rfl
 i212:=by kernel_rfl
 i232:=by kernel_rfl
 i233:=by kernel_rfl
 m15:=by kernel_rfl
 m16:=by kernel_rfl
 m17:=by kernel_rfl
 m18:=by kernel_rfl
 m19:=by kernel_rfl
 c0:=by kernel_rfl
 c2:=by kernel_rfl
 c3:=by kernel_rfl
 c4:=by kernel_rfl
 c5:=by kernel_rfl
 c9:=by kernel_rfl
 c20:=by kernel_rfl
 c21:=by kernel_rfl
 c37:=by kernel_rfl
 c46:=by kernel_rfl
 c51:=by kernel_rfl
 c53:=by kernel_rfl
 c75:=by kernel_rfl
 c76:=by kernel_rfl
 c80:=by kernel_rfl
 c85:=by kernel_rfl
 c127:=by kernel_rfl
 c143:=by kernel_rfl
 c145:=by kernel_rfl
 c167:=by kernel_rfl
 c168:=by kernel_rfl
 c171:=by kernel_rfl
 c173:=by kernel_rfl
 c175:=by kernel_rfl
 c210:=by kernel_rfl
 c212:=by kernel_rfl
 c213:=by kernel_rfl
 c232:=by kernel_rfl
 c233:=by kernel_rfl }
open Go.RowKit in
theorem sh_strconv_Atoi_ok (s:ByteArray) (hmax:s.size≤9223372036854775806) (v:Int) (h:Lib.atoiAll s.data.toList = .ok v) (w:World) :
 Calls Pg 97 #[.string s] w fun e w'=>e = .returned (.tuple #[.int .i64 v,.nilIface])∧(w'=w∨∃ t,w'=Lib.bytesWorld w 5 t):=Any.strconv_Atoi_ok sh_laysC172 s hmax v h w
open Go.RowKit in
theorem sh_strconv_Atoi_syntax (s:ByteArray) (hlim:s.size≤281474976710656) (h:Lib.atoiAll s.data.toList=Go.Lib.NumEnd.syntax) (ev:Value) (w:World) (hv:w.cell? ⟨1,0,none⟩=some ev) (hev:ev = .nilIface∨∃ te pe,ev = .iface te pe) :
 Calls Pg 97 #[.string s] w fun e w'=>∃ N,e = .returned (.tuple #[.int .i64 (0),.iface 171 (.pointer (some ⟨N,0,none⟩))])∧w.heap.size≤N∧w'.heap[N]?=some (.cells #[.string ⟨#[65,116,111,105]⟩,.string s,ev] 191 (0,0))∧Below w.heap.size w w':=Any.strconv_Atoi_syntax sh_laysC172 s hlim h ev w hv hev
open Go.RowKit in
theorem sh_strconv_Atoi_range (s:ByteArray) (hlim:s.size≤281474976710656) (h:Lib.atoiAll s.data.toList = .range) (ev:Value) (w:World) (hv:w.cell? ⟨2,0,none⟩=some ev) (hev:ev = .nilIface∨∃ te pe,ev = .iface te pe) :
 Calls Pg 97 #[.string s] w fun e w'=>∃ N,e = .returned (.tuple #[.int .i64 (Lib.atoiSat s.data.toList),.iface 171 (.pointer (some ⟨N,0,none⟩))])∧w.heap.size≤N∧w'.heap[N]?=some (.cells #[.string ⟨#[65,116,111,105]⟩,.string s,ev] 191 (0,0))∧Below w.heap.size w w':=Any.strconv_Atoi_range sh_laysC172 s hlim h ev w hv hev
def sh_lays101_ren:Go.Shelf.Ren:=⟨fun | 101=>98 | 208=>110 | 206=>133 | n=>n,fun | 9=>9 | 4=>4 | 3=>3 | n=>n,fun | n=>n⟩
theorem sh_lays101:Go.Proofs.Lays.n101 Pg sh_lays101_ren:={
 mixed:=by kernel_rfl
 f101:=Tryz.func98.trans (congrArg some (by kernel_rfl))
 f206:=Tryz.func133.trans (congrArg some (by kernel_rfl))
 f208:=Tryz.func110.trans (congrArg some (by kernel_rfl))
 t3:=Tryz.underlying3
 a3:=Tryz.isAgg3
 z3:=Tryz.sizeOf3
 v3:=Tryz.zeroValue3
 t4:=Tryz.underlying4
 a4:=Tryz.isAgg4
 z4:=Tryz.sizeOf4
 v4:=Tryz.zeroValue4
 t9:=Tryz.underlying9
 a9:=Tryz.isAgg9
 z9:=Tryz.sizeOf9
 v9:=Tryz.zeroValue9 }
open Go.RowKit Go.Lib in
theorem sh_strings_TrimPrefix (s p:ByteArray) (w:World) :
 Calls Pg 98 #[.string s,.string p] w fun e w'=>e = .returned (.string ⟨(Lib.trimPrefix s.data.toList p.data.toList).toArray⟩)∧w'=w:=Any.strings_TrimPrefix sh_lays101 s p w
def sh_lays146_ren:Go.Shelf.Ren:=⟨fun | 146=>89 | 221=>106 | 268=>125 | 138=>126 | 143=>127 | 195=>144 | 197=>145 | 218=>146 | 219=>147 | 260=>156 | 217=>157 | 225=>158 | 224=>159 | 267=>160 | 266=>165 | 314=>166 | n=>n,fun | 9=>9 | 31=>73 | 3=>3 | 4=>4 | 0=>0 | 105=>184 | 21=>21 | 5=>5 | 46=>146 | 119=>203 | 139=>206 | 138=>205 | 146=>207 | 51=>159 | n=>n,fun | 1=>0 | 3=>4 | 4=>5 | n=>n⟩
theorem sh_lays146:Go.Proofs.Lays.n146 Pg sh_lays146_ren:={
 mixed:=by kernel_rfl
 f138:=Tryz.func126.trans (congrArg some (by kernel_rfl))
 f143:=Tryz.func127.trans (congrArg some (by kernel_rfl))
 f146:=Tryz.func89.trans (congrArg some (by kernel_rfl))
 f195:=Tryz.func144.trans (congrArg some (by kernel_rfl))
 f197:=Tryz.func145.trans (congrArg some (by kernel_rfl))
 f217:=Tryz.func157.trans (congrArg some (by kernel_rfl))
 f218:=Tryz.func146.trans (congrArg some (by kernel_rfl))
 f219:=Tryz.func147.trans (congrArg some (by kernel_rfl))
 f221:=Tryz.func106.trans (congrArg some (by kernel_rfl))
 f224:=Tryz.func159.trans (congrArg some (by kernel_rfl))
 f225:=Tryz.func158.trans (congrArg some (by kernel_rfl))
 f260:=Tryz.func156.trans (congrArg some (by kernel_rfl))
 f266:=Tryz.func165.trans (congrArg some (by kernel_rfl))
 f267:=Tryz.func160.trans (congrArg some (by kernel_rfl))
 f268:=Tryz.func125.trans (congrArg some (by kernel_rfl))
 f314:=Tryz.func166.trans (congrArg some (by kernel_rfl))
 t0:=Tryz.underlying0
 a0:=Tryz.isAgg0
 z0:=Tryz.sizeOf0
 v0:=Tryz.zeroValue0
 t3:=Tryz.underlying3
 a3:=Tryz.isAgg3
 z3:=Tryz.sizeOf3
 v3:=Tryz.zeroValue3
 t4:=Tryz.underlying4
 a4:=Tryz.isAgg4
 z4:=Tryz.sizeOf4
 v4:=Tryz.zeroValue4
 t5:=Tryz.underlying5
 a5:=Tryz.isAgg5
 z5:=Tryz.sizeOf5
 v5:=Tryz.zeroValue5
 t9:=Tryz.underlying9
 a9:=Tryz.isAgg9
 z9:=Tryz.sizeOf9
 v9:=Tryz.zeroValue9
 t21:=Tryz.underlying21
 a21:=Tryz.isAgg21
 z21:=Tryz.sizeOf21
 v21:=Tryz.zeroValue21
 t31:=Tryz.underlying73
 a31:=Tryz.isAgg73
 z31:=Tryz.sizeOf73
 v31:=Tryz.zeroValue73
 t46:=Tryz.underlying146
 a46:=Tryz.isAgg146
 z46:=Tryz.sizeOf146
 v46:=Tryz.zeroValue146
 t51:=Tryz.underlying159
 a51:=Tryz.isAgg159
 z51:=Tryz.sizeOf159
 v51:=Tryz.zeroValue159
 t105:=Tryz.underlying184
 a105:=Tryz.isAgg184
 z105:=Tryz.sizeOf184
 v105:=Tryz.zeroValue184
 t119:=Tryz.underlying203
 a119:=Tryz.isAgg203
 z119:=Tryz.sizeOf203
 t138:=Tryz.underlying205
 a138:=Tryz.isAgg205
 z138:=Tryz.sizeOf205
 v138:=Tryz.zeroValue205
 t139:=Tryz.underlying206
 a139:=Tryz.isAgg206
 z139:=Tryz.sizeOf206
 v139:=Tryz.zeroValue206
 t146:=Tryz.underlying207
 a146:=Tryz.isAgg207
 z146:=Tryz.sizeOf207
 v146:=Tryz.zeroValue207
 g1:=by kernel_rfl
 g3:=by kernel_rfl
 g4:=by kernel_rfl }
open Go.RowKit Go.Lib in
theorem sh_strings_Split (s sep:ByteArray) (m:Int) (w:World) (hs:s.size < 4294967281) (hm:w.cell? ⟨0,0,none⟩=some (.int .i64 m)) (h1:1≤sep.size) :
 Calls Pg 89 #[.string s,.string sep] w fun e w' =>
  e = .returned (.slice (some ⟨w.heap.size,0,none⟩) (Lib.countB s sep+1) (Lib.countB s sep+1))∧w'=w.alloc (.cells ((Lib.splitB sep 0 (Lib.countB s sep) s).map Value.string).toArray 9):=Any.strings_Split sh_lays146 (by kernel_rfl) s sep m w hs hm h1
def decB (n:Int):ByteArray:=⟨(Go.Lib.itoa n).toArray⟩
def joinW (sep:ByteArray) (xs:List ByteArray):ByteArray:=⟨(Go.Lib.join (xs.map (·.data.toList)) sep.data.toList).toArray⟩
theorem bytes_ext {a b:ByteArray} (h:a.data.toList=b.data.toList):a=b:=by
 cases a;cases b
 congr
 exact Array.toList_inj.1 h
theorem joinW_nil (sep:ByteArray):joinW sep []=ByteArray.empty:=rfl
theorem joinW_one (sep x:ByteArray):joinW sep [x]=x:=by
 refine bytes_ext ?_
 unfold joinW
 simp [Go.Lib.join_one]
theorem joinW_snoc (sep:ByteArray) {xs:List ByteArray} (h:xs≠[]) (x:ByteArray):joinW sep (xs++[x])=joinW sep xs++sep++x:=by
 cases xs with
 | nil=>exact absurd rfl h
 | cons a l =>
  refine bytes_ext ?_
  unfold joinW
  simp only [List.cons_append,List.map_cons,List.map_append,List.map_nil,Go.Lib.join_cons,Go.Lib.joinTail,List.map_append,List.flatten_append,ByteArray.data_append,Array.toList_append]
  simp
theorem lens_le {B:Nat}:∀ {xs:List (List UInt8)},(∀ x∈xs,x.length≤B)→Go.Lib.lens xs≤xs.length*B
 | [],_=>by simp [Go.Lib.lens]
 | a::l,h=>by
  have h1:=h a (List.mem_cons_self ..)
  have h2:=lens_le (xs:=l) fun x hx=>h x (List.mem_cons_of_mem _ hx)
  unfold Go.Lib.lens at *
  rw [List.map_cons,List.sum_cons,List.length_cons,Nat.add_mul]
  omega
theorem joinW_size {sep:ByteArray} {B:Nat} {xs:List ByteArray} (h:∀ x∈xs,x.size≤B):(joinW sep xs).size≤xs.length*(B+sep.size):=by
 cases xs with
 | nil=>simp [joinW_nil]
 | cons a l =>
  have h1:(joinW sep (a::l)).size=(Go.Lib.join ((a::l).map (·.data.toList)) sep.data.toList).length:=by unfold joinW ByteArray.size;simp
  have h2:=lens_le (B:=B) (xs:=(a::l).map (·.data.toList)) fun x hx=>by
   obtain ⟨y,hy,rfl⟩:=List.mem_map.1 hx
   have:=h y hy
   unfold ByteArray.size at this
   simpa using this
  rw [List.map_cons] at h1 h2
  rw [h1,Go.Lib.join_length]
  rw [List.length_cons,List.length_map] at h2
  have h3:sep.data.toList.length=sep.size:=by unfold ByteArray.size;simp
  rw [h3,List.length_map,List.length_cons,Nat.mul_add,Nat.mul_comm sep.size,Nat.add_mul l.length 1 sep.size]
  omega
theorem decB_size {n:Int} (h0 : -9223372036854775808≤n) (h1:n≤9223372036854775807):(decB n).size≤21:=by
 have:=Go.Lib.itoa_length_le n h0 h1
 unfold decB ByteArray.size
 simpa using this
abbrev strEnc (s:ByteArray):List Value:=[.string s]
theorem append_str {w:World} {QP:List PanicEntry→World→Prop} {k:Value→World→Prop} {base:Nat} {v:Value} {l:List ByteArray} (s:ByteArray) {b:Nat} (hown:OwnE w base 9 1 strEnc v l) (hc:w.cell? ⟨b,0,none⟩=some (.string s)) (hbase:base≤w.heap.size) (hl:l.length≤1048576)
 (hk:∀ v' w',OwnE w' base 9 1 strEnc v' (l++[s])→w.grownBy w' v.ownBlock→k v' w') :
 opV Pg (Builtin.append_ #[73,73] 73 #[v,.slice (some ⟨b,0,none⟩) 1 1]) QP w k:=by
 have hby:=by9
 refine op_appendE (l':=[s]) Tryz.underlying73 ty9 rfl (by decide) (fun _=>rfl) (fun x _ u hu=>by simp at hu;subst hu;rfl) hown (fun j x hx=>?_) hbase ?_ (by simp;omega) hk
 · cases j with
   | zero =>
    simp at hx;subst hx
    intro j v hv
    cases j with
    | zero=>simp at hv;subst hv;simpa using hc
    | succ j=>simp at hv
   | succ j=>simp at hx
 · simp only [List.length_cons,List.length_nil]
   exact Nat.le_trans (Nat.mul_le_mul (Nat.add_le_add_right hl 1) hby) (by decide)
abbrev OwnS (w:World) (base:Nat) (v:Value) (l:List ByteArray):Prop:=OwnE w base 9 1 strEnc v l
def TabOK (w:World):Prop:=Go.Lib.TabIs Pg w "internal/strconv.uint64pow10" .u64 Go.Lib.pow10Tab
theorem gPow:(Pg.globalNamed "internal/strconv.uint64pow10").isSome=true:=by kernel_rfl
theorem TabOK.lt {w:World} (h:TabOK w) {g:Nat} (hg:Pg.globalNamed "internal/strconv.uint64pow10" = some g):g < w.heap.size:=by
 unfold TabOK Go.Lib.TabIs World.var? at h
 rw [hg] at h
 simp only [Option.bind_some] at h
 rcases Nat.lt_or_ge g w.heap.size with h' | h'
 · exact h'
 · rw [Array.getElem?_eq_none h'] at h;cases h
theorem TabOK.same {w w':World} (h:TabOK w) (hb:∀ g,Pg.globalNamed "internal/strconv.uint64pow10" = some g→w'.heap[g]?=w.heap[g]?):TabOK w':=by
 obtain ⟨g,hg⟩:=Option.isSome_iff_exists.1 gPow
 have:=hb g hg
 unfold TabOK Go.Lib.TabIs World.var? at h ⊢
 rw [hg] at h ⊢
 simp only [Option.bind_some] at h ⊢
 rw [this]
 exact h
theorem TabOK.ext {w w':World} (h:TabOK w) (e:Ext w w'):TabOK w':=h.same fun g hg=>e.block g (h.lt hg)
theorem grow_ext (w:World) (k:Nat) (os:Array Obj):Ext w (Sort.grow (w.drewN k) os):=⟨rfl,rfl,rfl,by show w.heap.size≤(w.heap++os).size;simp,fun i hi=>by show (w.heap++os)[i]?=_;rw [Array.getElem?_append_left hi]⟩
theorem Itoa_ret {w:World} (hT:TabOK w) (n:Int) (h0 : -9223372036854775808≤n) (h1:n≤9223372036854775807):Ret Pg 82 #[.int .i64 n] w fun r w'=>r = .string (decB n)∧Ext w w':=by
 refine Calls.mono (sh_strconv_Itoa n h0 h1 w hT) ?_
 rintro e w' ⟨rfl,k,os,rfl⟩
 exact ⟨_,rfl,rfl,grow_ext w k os⟩
theorem Join_ret {w:World} {base:Nat} {v:Value} {l:List ByteArray} (h:OwnS w base v l) (sep:ByteArray) (hl:0 < l.length) (hn:l.length≤100000) (hz:(joinW sep l).size≤1000000000):Ret Pg 48 #[v,.string sep] w fun r w'=>r = .string (joinW sep l)∧Ext w w':=by
 obtain ⟨g,cap,rfl,_,hg,_,_,hE⟩:=h.row (fun _=>rfl) hl
 obtain ⟨A,c,hv,hlc,_⟩:=SliceOf.open (h.slice (E:=EStr) (fun _=>rfl) (fun _ _=>rfl))
 injection hv with _ _ hv
 subst hv
 have hzz:(Go.Lib.join (l.map (·.data.toList)) sep.data.toList).length≤140737488355328:=by
  unfold joinW ByteArray.size at hz
  simp only [List.size_toArray] at hz
  omega
 refine Calls.mono (sh_strings_Join g 0 cap l sep w (fun j x hx=>?_) hg (by omega) hlc hzz) ?_
 · have:=hE j x hx 0 _ rfl
   rw [Nat.zero_add]
   simpa using this
 · rintro e w' ⟨rfl,hb⟩
   exact ⟨_,rfl,rfl,Ext.of_below hb⟩
theorem take_snoc {α:Type} {l:List α} {k:Nat} {x:α} (h:l[k]?=some x):l.take (k+1)=l.take k++[x]:=by
 rw [List.take_add_one,h];rfl
inductive AnyD where
 | num (n:Int)
 | str (s:ByteArray)
def anyV:AnyD→Value
 | .num n => .iface 3 (.int .i64 n)
 | .str s => .iface 9 (.string s)
def wordA:AnyD→ByteArray
 | .num n=>decB n
 | .str s=>s
abbrev anyEnc (x:AnyD):List Value:=[anyV x]
def EAny (_:World) (cs:List Value) (x:AnyD):Prop:=cs=anyEnc x
def OkA:AnyD→Prop
 | .num n => -9223372036854775808≤n∧n≤9223372036854775807
 | .str s=>s.size≤100000
theorem any_one (x:AnyD):(anyV x).oneCell'=true:=by cases x<;>rfl
theorem wordA_size {x:AnyD} (h:OkA x):(wordA x).size≤100000:=by
 cases x with
 | num n=>exact Nat.le_trans (decB_size h.1 h.2) (by decide)
 | str s=>exact h
theorem op_assert_no {P:Program} {QP:List PanicEntry→World→Prop} {w:World} {k:Value→World→Prop} {xt t t':TypeId} {d:TypeDesc} {agg:Bool} {n m:Nat} {z:Value} (hu:P.underlying t=some d) (hn:(match d with | .interface _=>false | _=>true)=true) (hne:t'≠t) (hz:TyInfo P t agg n m z) (v:Value):opV P (Instr.typeAssert (.iface t' v) xt t true) QP w k=k (.tuple #[z,.bool false]) w:=by
 obtain ⟨⟨i,hi,_,_,hzz⟩,_⟩:=hz
 refine opV_ok ?_
 have hz0:(zeroValue t).run P w = .ok z w:=by simp [zeroValue,typeInfo,hi,hzz]
 unfold Instr.typeAssert
 cases d<;>first | (simp at hn;done) | simp [run_underlying hu,hne,hz0]
theorem assert_no {QP:List PanicEntry→World→Prop} {w:World} {k:Value→World→Prop} (v:Value):opV Pg (Instr.typeAssert (.iface 9 v) 20 3 true) QP w k=k (.tuple #[.int .i64 0,.bool false]) w:=op_assert_no Tryz.underlying3 rfl (by decide) ty3 v
def lineA (l:List AnyD):ByteArray:=joinW ⟨#[32]⟩ (l.map wordA)
theorem lineA_size {l:List AnyD} (h:∀ x∈l,OkA x) (hl:l.length≤20):(lineA l).size≤2000020:=by
 have h1:=joinW_size (sep:=⟨#[32]⟩) (B:=100000) (xs:=l.map wordA) fun x hx=>by
  obtain ⟨y,hy,rfl⟩:=List.mem_map.1 hx
  exact wordA_size (h y hy)
 rw [List.length_map] at h1
 have h3:(⟨#[32]⟩:ByteArray).size=1:=rfl
 rw [h3] at h1
 unfold lineA
 omega
theorem line_ret (w0:World) (v:Value) (l:List AnyD) (hs:SliceOf w0 1 EAny v l) (hT:TabOK w0) (hok:∀ x∈l,OkA x) (h0:0 < l.length) (hl:l.length≤20):Ret Pg 46 #[v] w0 fun r w'=>r = .string (lineA l)∧Ext w0 w':=by
 obtain ⟨A,c,rfl,hlc,hcm,hlm,hel⟩:=SliceOf.open hs
 refine n34s (R:=retR _) ?_;unfold n34
 simp (disch:=try exact DI) only [↓PR,QR,simprocAttr]
 refine loop2_intro (fun a b w=>∃ k:Nat,b = .int .i64 k∧k≤l.length∧Ext w0 w∧OwnS w w0.heap.size a ((l.take k).map wordA)) (fun _ b _=>l.length - (intOf b).toNat) ⟨0,rfl,by omega,Ext.refl _,OwnE.nil _ _ _ _ _⟩ ?_
 rintro a _ w ⟨k,rfl,hk,e,hO⟩
 unfold n34c4
 have hlen:((l.take k).map wordA).length=k:=by rw [List.length_map,List.length_take];omega
 by_cases hlt:k < l.length
 · obtain ⟨x,hx⟩:=getElem?_lt hlt
   obtain ⟨b,o,cs,rfl,_,hA,rfl⟩:=hel k x hx
   have dk:(k:Int) < (l.length:Int):=by omega
   have d1:decide ((k:Int) < (l.length:Int))=true:=decide_eq_true dk
   have hw:IntKind.i64.wrap ((k:Int)+1)=((k+1:Nat):Int):=by rw [wrap_ok (by omega) (by omega)];omega
   have hc:=hA.c1 e
   have hox:=hok x (List.mem_of_getElem? hx)
   have step:∀ v' w',OwnS w' w0.heap.size v' ((l.take k).map wordA++[wordA x])→Ext w0 w'→(∃ k':Nat,Value.int .i64 ((k+1:Nat):Int) = .int .i64 k'∧k'≤l.length∧Ext w0 w'∧OwnS w' w0.heap.size v' ((l.take k').map wordA)):=fun v' w' h e'=>⟨k+1,rfl,by omega,e',by rw [take_snoc hx,List.map_append];exact h⟩
   have hms:=meas_lt (kd := .i64) hlt
   cases x with
   | num n =>
    simp (disch:=try exact DI) only [↓PR,QR,simprocAttr,d1,↓n34c3,hc,anyV,↓n34c1]
    refine zcr (Itoa_ret (hT.ext e) n hox.1 hox.2) fun w1 e1=>?_
    simp (disch:=try exact DI) only [↓PR,QR,simprocAttr]
    generalize hY:World.alloc w1 _=Y
    have eY:Ext w1 Y:=by rw [← hY];exact (Ext.refl w1).alloc _
    have oY:Y.cell? ⟨w1.heap.size,0,none⟩=some (.string (decB n)):=by rw [← hY,(cells_of_heap (heap_new _ _ _)).1];rfl
    clear hY
    have e2:=e1.trans eY
    refine append_str (decB n) (hO.ext e2) oY (e.trans e2).size (by omega) ?_
    intro v' w' hO' hg
    simp (disch:=try exact DI) only [↓PR,QR,simprocAttr,hw]
    exact ⟨step v' w' hO' ((e.trans e2).grown hg fun b hb=>(World.ownsRow.lt hO b hb).1),hms⟩
   | str s =>
    simp (disch:=try exact DI) only [↓PR,QR,simprocAttr,d1,↓n34c3,hc,anyV,↓assert_no,↓n34c2]
    generalize hY:World.alloc w _=Y
    have e2:Ext w Y:=by rw [← hY];exact (Ext.refl w).alloc _
    have oY:Y.cell? ⟨w.heap.size,0,none⟩=some (.string s):=by rw [← hY,(cells_of_heap (heap_new _ _ _)).1];rfl
    clear hY
    refine append_str s (hO.ext e2) oY (e.trans e2).size (by omega) ?_
    intro v' w' hO' hg
    simp (disch:=try exact DI) only [↓PR,QR,simprocAttr,hw]
    exact ⟨step v' w' hO' ((e.trans e2).grown hg fun b hb=>(World.ownsRow.lt hO b hb).1),hms⟩
 · obtain rfl:k=l.length:=by omega
   have d1:decide ((l.length:Int) < (l.length:Int))=false:=decide_eq_false (by omega)
   rw [List.take_length] at hO
   simp (disch:=try exact DI) only [↓PR,QR,simprocAttr,d1]
   have hz:=lineA_size hok hl
   refine zcr (Join_ret hO ⟨#[32]⟩ (by rw [List.length_map];exact h0) (by rw [List.length_map];omega) (by unfold lineA at hz;omega)) fun w2 e2=>?_
   exact ⟨_,rfl,rfl,e.trans e2⟩
def cntL (x:CntD):List AnyD:=[.str ⟨#[99,111,117,110,116,101,114]⟩,.str x.name,.num x.limit]
def staL (x:StaD):List AnyD:=([.str ⟨#[115,116,97,116,101]⟩,.str x.name]++(if 0 < x.wait then [.str ⟨#[119,97,105,116]⟩,.num x.wait] else []))++(if x.final then [.str ⟨#[102,105,110,97,108]⟩] else [])
def stpL1 (x:StpD):List AnyD:=[.str ⟨#[115,116,101,112]⟩,.str x.fr,.str x.to,.str (kwB x.kind)]++(if speaksB x.kind then [.str x.message,.str x.peer] else [])
def stpC (x:StpD):List AnyD:=if x.counter≠⟨#[]⟩ then [.str ⟨#[119,104,101,110]⟩,.str x.counter,.num x.low,.num x.high,.num x.add] else []
def stpL (x:StpD):List AnyD:=stpL1 x++stpC x
def linesR (r:RolD):List ByteArray:=([lineA [.str ⟨#[114,111,108,101]⟩,.str r.name]]++r.counters.map (fun x=>lineA (cntL x)))++r.states.map (fun x=>lineA (staL x))++r.steps.map (fun x=>lineA (stpL x))
def printR (r:RolD):ByteArray:=if (checkR r).2=0 then joinW ⟨#[10]⟩ (linesR r) else ⟨#[]⟩
def RolOk (r:RolD):Prop:=r.name.size≤100000∧(∀ c∈r.counters,c.name.size≤100000 ∧ -9223372036854775808≤c.limit∧c.limit≤9223372036854775807)∧(∀ c∈r.states,c.name.size≤100000 ∧ -9223372036854775808≤c.wait∧c.wait≤9223372036854775807)∧(∀ x∈r.steps,StpSm x∧(-9223372036854775808≤x.low∧x.low≤9223372036854775807)∧(-9223372036854775808≤x.high∧x.high≤9223372036854775807) ∧ -9223372036854775808≤x.add∧x.add≤9223372036854775807)∧r.counters.length≤1000000000∧r.states.length≤1000000000∧r.steps.length≤1000000000
section
variable {w w0:World} {QP:List PanicEntry→World→Prop} {k:Value→World→Prop}
abbrev OwnA (w:World) (base:Nat) (v:Value) (l:List AnyD):Prop:=OwnE w base 20 1 anyEnc v l
theorem append_any {base b:Nat} {v:Value} {l:List AnyD} (l':List AnyD) {n:Nat} (hn:n=l'.length) (hown:OwnA w base v l) (hc:∀ j x,l'[j]?=some x→w.cell? ⟨b,j,none⟩=some (anyV x)) (hbase:base≤w.heap.size) (hl:l.length+l'.length≤1000)
 (hk:∀ v' w',OwnA w' base v' (l++l')→w.grownBy w' v.ownBlock→k v' w') :
 opV Pg (Builtin.append_ #[86,86] 86 #[v,.slice (some ⟨b,0,none⟩) n n]) QP w k:=by
 subst hn
 have hby:=by20
 refine op_appendE (l':=l') Tryz.underlying86 ty20 rfl (by decide) (fun _=>rfl) (fun x _ u hu=>by simp at hu;subst hu;exact any_one x) hown (fun j x hx=>?_) hbase ?_ (by omega) hk
 · intro i u hu
   cases i with
   | zero =>
    simp at hu;subst hu
    simpa using hc j x hx
   | succ i=>simp at hu
 · exact Nat.le_trans (Nat.mul_le_mul hl hby) (by decide)
theorem own_anyH {base b:Nat} {l:List AnyD} (h:w.heap[b]?=some (.cells (l.map anyV).toArray 20 (0,0))) (hb:base≤b) (hl:l.length≤1000):OwnA w base (.slice (some ⟨b,0,none⟩) l.length l.length) l:=by
 have hf:l.flatMap anyEnc=l.map anyV:=by
  clear hl h
  induction l with
  | nil=>rfl
  | cons x l ih=>rw [List.flatMap_cons,ih];rfl
 unfold OwnA OwnE
 rw [hf]
 exact ⟨by simp,.inr ⟨b,_,_,rfl,hb,h,Nat.le_refl _,by simp only [maxLen];omega,by simp,by rw [Nat.mul_one];exact List.take_of_length_le (by simp)⟩⟩
theorem own_anys {base:Nat} {v:Value} {l:List AnyD} (h:OwnA w base v l):SliceOf w 1 EAny v l:=h.slice (fun _=>rfl) (fun _ _=>rfl)
theorem app_line {base:Nat} {v:Value} {l:List ByteArray} (s:ByteArray) (hO:OwnS w base v l) (hb:base≤w.heap.size) (hl:l.length≤1000000) (e:Ext w0 w) (h0:w0.heap.size≤base)
 (hk:∀ v' w',OwnS w' base v' (l++[s])→Ext w0 w'→base≤w'.heap.size→k v' w') :
 opV Pg (Instr.buildSlice 73 1 #[(0,.string s)]) QP w fun t w=>opV Pg (Builtin.append_ #[73,73] 73 #[v,t]) QP w k:=by
 simp (disch:=try exact DI) only [↓PR,QR,simprocAttr]
 generalize hY:World.alloc w _=Y
 have eY:Ext w Y:=by rw [← hY];exact (Ext.refl w).alloc _
 have oY:Y.cell? ⟨w.heap.size,0,none⟩=some (.string s):=by rw [← hY,(cells_of_heap (heap_new _ _ _)).1];rfl
 clear hY
 have sY:=eY.size
 refine append_str s (hO.ext eY) oY (by omega) (by omega) ?_
 intro v' w' hO' hg
 have hlo:∀ b,v.ownBlock=some b→base≤b:=fun b hb=>(World.ownsRow.lt hO b hb).1
 exact hk v' w' hO' ((e.trans eY).grown hg fun b hb=>Nat.le_trans h0 (hlo b hb)) (by have:=hg.size;omega)
end
def n23c1 (t6 t33 t46:Value) (next1:KW) (R:RT) (w:World):Prop :=
 opV Pg (Instr.buildSlice 73 1 #[(0,t46)]) (panK R) w fun t47 w =>
 opV Pg (Builtin.append_ #[73,73] 73 #[t6,t47]) (panK R) w fun t48 w =>
 opV Pg (binS .add 3 true t33 (.int .i64 1)) (panK R) w fun t49 w =>
 next1 t48 t49 w
def n23c2 (t6 t53 t80:Value) (next2:KW) (R:RT) (w:World):Prop :=
 opV Pg (Instr.buildSlice 73 1 #[(0,t80)]) (panK R) w fun t81 w =>
 opV Pg (Builtin.append_ #[73,73] 73 #[t6,t81]) (panK R) w fun t82 w =>
 opV Pg (binS .add 3 true t53 (.int .i64 1)) (panK R) w fun t83 w =>
 next2 t82 t83 w
def n23c3 (t11:Value) (K4:KV) (R:RT) (w:World):Prop :=
 opV Pg (Instr.makeInterface 9 (.string { data := #[102,105,110,97,108] })) (panK R) w fun t75 w =>
 opV Pg (Instr.buildSlice 86 1 #[(0,t75)]) (panK R) w fun t76 w =>
 opV Pg (Builtin.append_ #[86,86] 86 #[t11,t76]) (panK R) w fun t77 w =>
 K4 t77 w
def n23c4 (t6 t10 t11 t53:Value) (next2:KW) (R:RT) (w:World):Prop :=
 opV Pg (Instr.fieldAt 50 t10 1) (panK R) w fun t72 w =>
 opV Pg (Instr.loadAt 4 t72) (panK R) w fun t73 w =>
 joinK (fun (t11:Value) (w:World) =>
 callK Pg 46 #[t11] (panK R) w fun t80 w =>
 n23c2 t6 t53 t80 next2 R w) fun K4 =>
 condP t73 (
 n23c3 t11 K4 R w) (
 K4 t11 w)
def n23c5 (t10 t61:Value) (K3:KV) (R:RT) (w:World):Prop :=
 opV Pg (Instr.makeInterface 9 (.string { data := #[119,97,105,116] })) (panK R) w fun t66 w =>
 opV Pg (Instr.fieldAt 50 t10 2) (panK R) w fun t67 w =>
 opV Pg (Instr.loadAt 3 t67) (panK R) w fun t68 w =>
 opV Pg (Instr.makeInterface 3 t68) (panK R) w fun t69 w =>
 opV Pg (Instr.buildSlice 86 2 #[(0,t66),(1,t69)]) (panK R) w fun t70 w =>
 opV Pg (Builtin.append_ #[86,86] 86 #[t61,t70]) (panK R) w fun t71 w =>
 K3 t71 w
def n23c6 (t6 t87 t140:Value) (next5:KW) (R:RT) (w:World):Prop :=
 opV Pg (Instr.buildSlice 73 1 #[(0,t140)]) (panK R) w fun t141 w =>
 opV Pg (Builtin.append_ #[73,73] 73 #[t6,t141]) (panK R) w fun t142 w =>
 opV Pg (binS .add 3 true t87 (.int .i64 1)) (panK R) w fun t143 w =>
 next5 t142 t143 w
def n23c7 (t13 t14:Value) (K11:KV) (R:RT) (w:World):Prop :=
 opV Pg (Instr.makeInterface 9 (.string { data := #[119,104,101,110] })) (panK R) w fun t123 w =>
 opV Pg (Instr.fieldAt 71 t13 5) (panK R) w fun t124 w =>
 opV Pg (Instr.loadAt 9 t124) (panK R) w fun t125 w =>
 opV Pg (Instr.makeInterface 9 t125) (panK R) w fun t126 w =>
 opV Pg (Instr.fieldAt 71 t13 6) (panK R) w fun t127 w =>
 opV Pg (Instr.loadAt 3 t127) (panK R) w fun t128 w =>
 opV Pg (Instr.makeInterface 3 t128) (panK R) w fun t129 w =>
 opV Pg (Instr.fieldAt 71 t13 7) (panK R) w fun t130 w =>
 opV Pg (Instr.loadAt 3 t130) (panK R) w fun t131 w =>
 opV Pg (Instr.makeInterface 3 t131) (panK R) w fun t132 w =>
 opV Pg (Instr.fieldAt 71 t13 8) (panK R) w fun t133 w =>
 opV Pg (Instr.loadAt 3 t133) (panK R) w fun t134 w =>
 opV Pg (Instr.makeInterface 3 t134) (panK R) w fun t135 w =>
 opV Pg (Instr.buildSlice 86 5 #[(0,t123),(1,t126),(2,t129),(3,t132),(4,t135)]) (panK R) w fun t136 w =>
 opV Pg (Builtin.append_ #[86,86] 86 #[t14,t136]) (panK R) w fun t137 w =>
 K11 t137 w
def n23c8 (t6 t13 t14 t87:Value) (next5:KW) (R:RT) (w:World):Prop :=
 opV Pg (Instr.fieldAt 71 t13 5) (panK R) w fun t119 w =>
 opV Pg (Instr.loadAt 9 t119) (panK R) w fun t120 w =>
 opV Pg (binS .neq 9 true t120 (.string { data := #[] })) (panK R) w fun t121 w =>
 joinK (fun (t14:Value) (w:World) =>
 callK Pg 46 #[t14] (panK R) w fun t140 w =>
 n23c6 t6 t87 t140 next5 R w) fun K11 =>
 condP t121 (
 n23c7 t13 t14 K11 R w) (
 K11 t14 w)
def n23c9 (t13 t104:Value) (K10:KV) (R:RT) (w:World):Prop :=
 opV Pg (Instr.fieldAt 71 t13 3) (panK R) w fun t111 w =>
 opV Pg (Instr.loadAt 9 t111) (panK R) w fun t112 w =>
 opV Pg (Instr.makeInterface 9 t112) (panK R) w fun t113 w =>
 opV Pg (Instr.fieldAt 71 t13 4) (panK R) w fun t114 w =>
 opV Pg (Instr.loadAt 9 t114) (panK R) w fun t115 w =>
 opV Pg (Instr.makeInterface 9 t115) (panK R) w fun t116 w =>
 opV Pg (Instr.buildSlice 86 2 #[(0,t113),(1,t116)]) (panK R) w fun t117 w =>
 opV Pg (Builtin.append_ #[86,86] 86 #[t104,t117]) (panK R) w fun t118 w =>
 K10 t118 w
def n23c10 (t6 t13 t87 t104 t105 t107:Value) (C9:World→Prop) (next5:KW) (R:RT) (w:World):Prop :=
 qV Pg C9 (Instr.lookup 90 t105 t107 false) fun t108 =>
 qV Pg C9 (Instr.field 89 t108 1) fun t109 =>
 joinK (fun (t14:Value) (w:World) =>
 n23c8 t6 t13 t14 t87 next5 R w) fun K10 =>
 condP t109 (
 n23c9 t13 t104 K10 R w) (
 K10 t104 w)
def n23c11 (t6 t13 t87 t104:Value) (C8:World→Prop) (next5:KW) (R:RT) (w:World):Prop :=
 qV Pg C8 (Instr.fieldAt 71 t13 2) fun t106 =>
 qV Pg C8 (Instr.loadAt 69 t106) fun t107 =>
 callK Pg 47 #[] (panK R) w fun t105 w =>
 narrowK C8 w fun C9 w =>
 n23c10 t6 t13 t87 t104 t105 t107 C9 next5 R w
def n23c12 (t6 t13 t87 t91 t94 t97 t98 t100:Value) (C7:World→Prop) (next5:KW) (R:RT) (w:World):Prop :=
 qV Pg C7 (Instr.lookup 90 t98 t100 false) fun t101 =>
 qV Pg C7 (Instr.field 89 t101 0) fun t102 =>
 qV Pg C7 (Instr.makeInterface 9 t102) fun t103 =>
 opV Pg (Instr.buildSlice 86 4 #[(0,t91),(1,t94),(2,t97),(3,t103)]) (panK R) w fun t104 w =>
 C7 w∧(
 drawK w fun C8 w =>
 n23c11 t6 t13 t87 t104 C8 next5 R w)
def n23c13 (t6 t13 t87:Value) (C6:World→Prop) (next5:KW) (R:RT) (w:World):Prop :=
 qV Pg C6 (Instr.makeInterface 9 (.string { data := #[115,116,101,112] })) fun t91 =>
 qV Pg C6 (Instr.fieldAt 71 t13 0) fun t92 =>
 qV Pg C6 (Instr.loadAt 9 t92) fun t93 =>
 qV Pg C6 (Instr.makeInterface 9 t93) fun t94 =>
 qV Pg C6 (Instr.fieldAt 71 t13 1) fun t95 =>
 qV Pg C6 (Instr.loadAt 9 t95) fun t96 =>
 qV Pg C6 (Instr.makeInterface 9 t96) fun t97 =>
 qV Pg C6 (Instr.fieldAt 71 t13 2) fun t99 =>
 qV Pg C6 (Instr.loadAt 69 t99) fun t100 =>
 callK Pg 47 #[] (panK R) w fun t98 w =>
 narrowK C6 w fun C7 w =>
 n23c12 t6 t13 t87 t91 t94 t97 t98 t100 C7 next5 R w
def n23c14 (t6 t85 t87:Value) (next5:KW) (R:RT) (w:World):Prop :=
 opV Pg (Instr.indexAt 24 t85 t87) (panK R) w fun t89 w =>
 opV Pg (Instr.loadAt 71 t89) (panK R) w fun t90 w =>
 opV Pg (Instr.alloc 71 true (.tuple #[])) (panK R) w fun t13 w =>
 opU Pg (Instr.storeAt 71 t13 t90) (panK R) w fun w =>
 drawK w fun C6 w =>
 n23c13 t6 t13 t87 C6 next5 R w
def n23c15 (t6 t85 t86 t87:Value) (next5:KW) (R:RT) (w:World):Prop :=
 opV Pg (binS .lss 3 false t87 t86) (panK R) w fun t88 w =>
 condP t88 (
 n23c14 t6 t85 t87 next5 R w) (
 callK Pg 48 #[t6,(.string { data := #[10] })] (panK R) w fun t145 w =>
 R (.returned (.tuple #[t145,(.int .i64 0)])) w)
def n23c16 (t1 t6:Value) (R:RT) (w:World):Prop :=
 opV Pg (Instr.fieldAt 26 t1 3) (panK R) w fun t84 w =>
 opV Pg (Instr.loadAt 24 t84) (panK R) w fun t85 w =>
 opV Pg (Builtin.len_ #[24] 3 #[t85]) (panK R) w fun t86 w =>
 loop2 (fun t6 t87 w next5 =>
 n23c15 t6 t85 t86 t87 next5 R w) t6 (.int .i64 0) w
def n23c17 (t6 t51 t53:Value) (next2:KW) (R:RT) (w:World):Prop :=
 opV Pg (Instr.indexAt 22 t51 t53) (panK R) w fun t55 w =>
 opV Pg (Instr.loadAt 50 t55) (panK R) w fun t56 w =>
 opV Pg (Instr.alloc 50 true (.tuple #[])) (panK R) w fun t10 w =>
 opU Pg (Instr.storeAt 50 t10 t56) (panK R) w fun w =>
 opV Pg (Instr.makeInterface 9 (.string { data := #[115,116,97,116,101] })) (panK R) w fun t57 w =>
 opV Pg (Instr.fieldAt 50 t10 0) (panK R) w fun t58 w =>
 opV Pg (Instr.loadAt 9 t58) (panK R) w fun t59 w =>
 opV Pg (Instr.makeInterface 9 t59) (panK R) w fun t60 w =>
 opV Pg (Instr.buildSlice 86 2 #[(0,t57),(1,t60)]) (panK R) w fun t61 w =>
 opV Pg (Instr.fieldAt 50 t10 2) (panK R) w fun t62 w =>
 opV Pg (Instr.loadAt 3 t62) (panK R) w fun t63 w =>
 opV Pg (binS .gtr 3 true t63 (.int .i64 0)) (panK R) w fun t64 w =>
 joinK (fun (t11:Value) (w:World) =>
 n23c4 t6 t10 t11 t53 next2 R w) fun K3 =>
 condP t64 (
 n23c5 t10 t61 K3 R w) (
 K3 t61 w)
def n23c18 (t1 t6:Value) (R:RT) (w:World):Prop :=
 opV Pg (Instr.fieldAt 26 t1 1) (panK R) w fun t50 w =>
 opV Pg (Instr.loadAt 22 t50) (panK R) w fun t51 w =>
 opV Pg (Builtin.len_ #[22] 3 #[t51]) (panK R) w fun t52 w =>
 loop2 (fun t6 t53 w next2 =>
 opV Pg (binS .lss 3 false t53 t52) (panK R) w fun t54 w =>
 condP t54 (
 n23c17 t6 t51 t53 next2 R w) (
 n23c16 t1 t6 R w)) t6 (.int .i64 0) w
def n23c19 (t6 t31 t33:Value) (next1:KW) (R:RT) (w:World):Prop :=
 opV Pg (Instr.indexAt 23 t31 t33) (panK R) w fun t35 w =>
 opV Pg (Instr.loadAt 52 t35) (panK R) w fun t36 w =>
 opV Pg (Instr.alloc 52 true (.tuple #[])) (panK R) w fun t8 w =>
 opU Pg (Instr.storeAt 52 t8 t36) (panK R) w fun w =>
 opV Pg (Instr.makeInterface 9 (.string { data := #[99,111,117,110,116,101,114] })) (panK R) w fun t38 w =>
 opV Pg (Instr.fieldAt 52 t8 0) (panK R) w fun t39 w =>
 opV Pg (Instr.loadAt 9 t39) (panK R) w fun t40 w =>
 opV Pg (Instr.makeInterface 9 t40) (panK R) w fun t41 w =>
 opV Pg (Instr.fieldAt 52 t8 1) (panK R) w fun t42 w =>
 opV Pg (Instr.loadAt 3 t42) (panK R) w fun t43 w =>
 opV Pg (Instr.makeInterface 3 t43) (panK R) w fun t44 w =>
 opV Pg (Instr.buildSlice 86 3 #[(0,t38),(1,t41),(2,t44)]) (panK R) w fun t45 w =>
 callK Pg 46 #[t45] (panK R) w fun t46 w =>
 n23c1 t6 t33 t46 next1 R w
def n23c20 (t1 t28:Value) (R:RT) (w:World):Prop :=
 opV Pg (Instr.buildSlice 73 1 #[(0,t28)]) (panK R) w fun t29 w =>
 opV Pg (Instr.fieldAt 26 t1 2) (panK R) w fun t30 w =>
 opV Pg (Instr.loadAt 23 t30) (panK R) w fun t31 w =>
 opV Pg (Builtin.len_ #[23] 3 #[t31]) (panK R) w fun t32 w =>
 loop2 (fun t6 t33 w next1 =>
 opV Pg (binS .lss 3 false t33 t32) (panK R) w fun t34 w =>
 condP t34 (
 n23c19 t6 t31 t33 next1 R w) (
 n23c18 t1 t6 R w)) t29 (.int .i64 0) w
def n23c21 (t1:Value) (R:RT) (w:World):Prop :=
 opV Pg (Instr.makeInterface 9 (.string { data := #[114,111,108,101] })) (panK R) w fun t23 w =>
 opV Pg (Instr.fieldAt 26 t1 0) (panK R) w fun t24 w =>
 opV Pg (Instr.loadAt 9 t24) (panK R) w fun t25 w =>
 opV Pg (Instr.makeInterface 9 t25) (panK R) w fun t26 w =>
 opV Pg (Instr.buildSlice 86 2 #[(0,t23),(1,t26)]) (panK R) w fun t27 w =>
 callK Pg 46 #[t27] (panK R) w fun t28 w =>
 n23c20 t1 t28 R w
def n23c22 (t1 t17:Value) (R:RT) (w:World):Prop :=
 opV Pg (Instr.extract t17 0) (panK R) w fun t18 w =>
 opV Pg (Instr.extract t17 1) (panK R) w fun t19 w =>
 opV Pg (binS .neq 29 true t19 (.int .i64 0)) (panK R) w fun t21 w =>
 condP t21 (
 R (.returned (.tuple #[(.string { data := #[] }),t19])) w) (
 n23c21 t1 R w)
def n23 (t0:Value) (R:RT) (w:World):Prop :=
 opV Pg (Instr.box 26 t0) (panK R) w fun t1 w =>
 opV Pg (Instr.loadAt 26 t1) (panK R) w fun t16 w =>
 callK Pg 12 #[t16] (panK R) w fun t17 w =>
 n23c22 t1 t17 R w
set_option maxHeartbeats 40000000 in
theorem n23s {t0:Value} {R:RT} {w:World} (h:n23 t0 R w):Calls Pg 14 #[t0] w R:=by
 refine yD Tryz.func14 ?_
 refine zs<|zr<|yv h fun _ w h=>zm<|zm<|zn<|zk<|zs<|zs<|zr<|yv h fun _ w h=>yc h c12 fun _ w h=>zm<|yv h fun _ w h=>yv h fun _ w h=>?_
 refine zm<|zm<|zn<|zk<|zs<|zr<|zm<|yb h fun _ w h=>zn<|zk<|yC h (fun h=>zs<|zr<|zm<|zm<|zm<|zn<|zk<|sim_ret<|sim_then_ret<|body_ret2 rfl rfl rfl h) fun h=>sim_skip<|zk<|zs ?_
 refine zr<|yv h fun _ w h=>yv h fun _ w h=>yv h fun _ w h=>yv h fun _ w h=>yS h fun _ w h=>yc h c46 fun _ w h=>yS h fun _ w h=>zm<|zn<|zk<|zs<|zs<|zr<|yv h fun _ w h=>?_
 refine yv h fun _ w h=>yx h fun _ w h=>zm<|zn<|zk<|sim_block<|yl2 [6,8,33,34,35,36,37,38,39,40,41,42,43,44,45,46,47,48,49] 6 33 h fun σ w next h=>zs<|zr<|yb h fun _ w h=>zn<|zk<|zs<|yC h (fun h=>?_) fun h=>?_
 · refine sim_skip<|zk<|zs<|sim_block<|zs<|zr<|yv h fun _ w h=>yv h fun _ w h=>yv h fun _ w h=>yu h fun w h=>zn<|zk<|zr<|zm<|yv h fun _ w h=>?_
   refine yv h fun _ w h=>yv h fun _ w h=>yv h fun _ w h=>yv h fun _ w h=>yv h fun _ w h=>yv h fun _ w h=>yS h fun _ w h=>yc h c46 fun _ w h=>yS h fun _ w h=>yx h fun _ w h=>zm<|zn<|sim_block_normal<|zk<|zr ?_
   exact yb h fun _ w h=>zm<|zn<|zk<|⟨rfl,h⟩
 refine sim_exit<|sim_then_exit<|sim_then_exit<|sim_block_hit<|zk<|zs<|zs<|zr<|yv h fun _ w h=>yv h fun _ w h=>yx h fun _ w h=>zm<|zn<|zk<|sim_block ?_
 refine yl2 [6,10,11,53,54,55,56,57,58,59,60,61,62,63,64,65,66,67,68,69,70,71,72,73,74,75,76,77,78,79,80,81,82,83] 6 53 h fun σ w next h=>zs<|zr<|yb h fun _ w h=>zn<|zk<|zs<|yC h (fun h=>?_) fun h=>?_
 · refine sim_skip<|zk<|zs<|sim_block<|zs<|zr<|yv h fun _ w h=>yv h fun _ w h=>yv h fun _ w h=>yu h fun w h=>zn<|zk<|zs<|zr<|yv h fun _ w h=>?_
   refine yv h fun _ w h=>yv h fun _ w h=>yv h fun _ w h=>yS h fun _ w h=>zm<|zn<|zk<|zs<|zs<|zr<|yv h fun _ w h=>yv h fun _ w h=>yb h fun _ w h=>zn<|zk ?_
   refine yJ1 [11,65,66,67,68,69,70,71] 11 h (fun _ _ hkK3 h=>?_) fun σ w h=>?_
   · refine yC h (fun h=>?_) fun h=>?_
     · refine zr<|zm<|yv h fun _ w h=>yv h fun _ w h=>yv h fun _ w h=>yv h fun _ w h=>yS h fun _ w h=>yx h fun _ w h=>zm<|zn<|zk ?_
       exact zt hkK3 h
     refine sim_skip<|zk ?_
     exact zt hkK3 h
   refine zk<|zs<|zs<|zr<|yv h fun _ w h=>yv h fun _ w h=>zn<|zk<|yJ1 [11,74,75,76,77] 11 h (fun _ _ hkK4 h=>?_) fun σ w h=>?_
   · refine yC h (fun h=>?_) fun h=>?_
     · refine zr<|zm<|yv h fun _ w h=>yS h fun _ w h=>yx h fun _ w h=>zm<|zn<|zk ?_
       exact zt hkK4 h
     refine sim_skip<|zk ?_
     exact zt hkK4 h
   refine zk<|zr<|zm<|zm<|yc h c46 fun _ w h=>yS h fun _ w h=>yx h fun _ w h=>zm<|zn<|sim_block_normal<|zk<|zr<|yb h fun _ w h=>zm<|zn ?_
   exact zk<|⟨rfl,h⟩
 refine sim_exit<|sim_then_exit<|sim_then_exit<|sim_block_hit<|zk<|zs<|zs<|zr<|yv h fun _ w h=>yv h fun _ w h=>yx h fun _ w h=>zm<|zn<|zk<|sim_block ?_
 refine yl2 [6,13,14,87,88,89,90,91,92,93,94,95,96,97,98,99,100,101,102,103,104,105,106,107,108,109,110,111,112,113,114,115,116,117,118,119,120,121,122,123,124,125,126,127,128,129,130,131,132,133,134,135,136,137,138,139,140,141,142,143] 6 87 h fun σ w next h=>zs<|zr<|yb h fun _ w h=>zn<|zk<|zs<|yC h (fun h=>?_) fun h=>?_
 · refine sim_skip<|zk<|zs<|sim_block<|zs<|zr<|yv h fun _ w h=>yv h fun _ w h=>yv h fun _ w h=>yu h fun w h=>zn<|zk<|zs<|yh [14,91,92,93,94,95,96,97,98,99,100,101,102,103,104] h fun C hC h=>ye 0 hC h fun _ h=>?_
   refine ye 1 hC h fun _ h=>?_
   refine ye 2 hC h fun _ h=>?_
   refine ye 3 hC h fun _ h=>?_
   refine ye 4 hC h fun _ h=>?_
   refine ye 5 hC h fun _ h=>?_
   refine ye 6 hC h fun _ h=>?_
   refine ye 8 hC h fun _ h=>?_
   refine ye 9 hC h fun _ h=>?_
   refine yr 7 ?_
   refine yc h c47 fun _ w h=>zn ?_
   obtain ⟨C7,hs,hC,h⟩:=h
   refine ⟨C7,hs,hC,?_⟩
   refine ye 10 hC h fun _ h=>?_
   refine ye 11 hC h fun _ h=>?_
   refine ye 12 hC h fun _ h=>?_
   refine yo 13 ?_
   refine yS h fun _ w h=>zn ?_
   obtain ⟨hC,h⟩:=h
   refine ⟨hC,?_⟩
   refine yw 14 hC ?_
   refine yz<|zk<|zs<|zs<|yh [105,106,107,108,109] h fun C hC h=>ye 1 hC h fun _ h=>?_
   refine ye 2 hC h fun _ h=>?_
   refine yr 0 ?_
   refine yc h c47 fun _ w h=>zn ?_
   obtain ⟨C9,hs,hC,h⟩:=h
   refine ⟨C9,hs,hC,?_⟩
   refine ye 3 hC h fun _ h=>?_
   refine ye 4 hC h fun _ h=>?_
   refine yz<|zk<|yJ1 [14,110,111,112,113,114,115,116,117,118] 14 h (fun _ _ hkK10 h=>?_) fun σ w h=>?_
   · refine yC h (fun h=>?_) fun h=>?_
     · refine zr<|zm<|yv h fun _ w h=>yv h fun _ w h=>yv h fun _ w h=>yv h fun _ w h=>yv h fun _ w h=>yv h fun _ w h=>yS h fun _ w h=>yx h fun _ w h=>zm<|zn<|zk ?_
       exact zt hkK10 h
     refine sim_skip<|zk ?_
     exact zt hkK10 h
   refine zk<|zs<|zs<|zr<|yv h fun _ w h=>yv h fun _ w h=>yb h fun _ w h=>zn<|zk<|yJ1 [14,122,123,124,125,126,127,128,129,130,131,132,133,134,135,136,137] 14 h (fun _ _ hkK11 h=>?_) fun σ w h=>?_
   · refine yC h (fun h=>?_) fun h=>?_
     · refine zr<|zm<|yv h fun _ w h=>yv h fun _ w h=>yv h fun _ w h=>yv h fun _ w h=>yv h fun _ w h=>yv h fun _ w h=>yv h fun _ w h=>yv h fun _ w h=>yv h fun _ w h=>yv h fun _ w h=>yv h fun _ w h=>yv h fun _ w h=>yv h fun _ w h=>?_
       refine yS h fun _ w h=>yx h fun _ w h=>zm<|zn<|zk ?_
       exact zt hkK11 h
     refine sim_skip<|zk ?_
     exact zt hkK11 h
   refine zk<|zr<|zm<|zm<|yc h c46 fun _ w h=>yS h fun _ w h=>yx h fun _ w h=>zm<|zn<|sim_block_normal<|zk<|zr<|yb h fun _ w h=>zm<|zn ?_
   exact zk<|⟨rfl,h⟩
 exact sim_exit<|sim_then_exit<|sim_then_exit<|sim_block_hit<|zk<|zs<|zr<|zm<|yc h c48 fun _ w h=>zm<|zm<|zn<|zk<|sim_ret<|body_ret2 rfl rfl rfl h
def n10 (t0:Value) (R:RT) (w:World):Prop :=
 R (.returned t0) w
theorem n10s {t0:Value} {R:RT} {w:World} (h:n10 t0 R w):Calls Pg 15 #[t0] w R:=by
 refine yD Tryz.func15 ?_
 exact zs<|zr<|zm<|zn<|zk<|zs<|zr<|zm<|zm<|zn<|zk<|sim_ret<|body_ret1 rfl rfl h
section
variable {w0 W w:World} {R:RT} {base:Nat} {v:Value} {ls:List ByteArray}
theorem print_state {next2:Value→Value→World→Prop} {A:Option Addr} {c n k:Nat} {l:List StaD} {x:StaD} (hS:StasOf W (.slice A l.length c) l) (hx:l[k]?=some x) (hk:l.length≤1000000) (hT:TabOK W) (hox:x.name.size≤100000 ∧ -9223372036854775808≤x.wait∧x.wait≤9223372036854775807) (e:Ext W w) (hO:OwnS w base v ls) (hb:base≤w.heap.size) (h0:W.heap.size≤base) (hl:ls.length≤1000000)
 (hK:∀ v' w',Ext W w'→OwnS w' base v' (ls++[lineA (staL x)])→base≤w'.heap.size→next2 v' (.int .i64 ((k+1:Nat):Int)) w') :
 n23c17 v (.slice A l.length c) (.int .i64 (k:Int)) next2 R w:=by
 obtain ⟨A',c',hv,_,_,_,hel⟩:=SliceOf.open hS
 injection hv with h1 _ h2
 subst h1 h2
 obtain ⟨b,o,cs,rfl,_,hA,rfl⟩:=hel k x hx
 have hkl:=(List.getElem?_eq_some_iff.1 hx).1
 have dk:(k:Int) < (l.length:Int):=by omega
 have hw:IntKind.i64.wrap ((k:Int)+1)=((k+1:Nat):Int):=by rw [wrap_ok (by omega) (by omega)];omega
 unfold n23c17
 simp (disch:=try exact DI) only [↓PR,QR,simprocAttr,hA.c3 e]
 simp only [World.size_setCell,World.size_alloc]
 generalize hV:World.alloc _ (Obj.cells #[Value.iface 9 (.string ⟨#[115,116,97,116,101]⟩),Value.iface 9 (.string x.name)] 20)=V
 have eV:Ext w V:=by rw [← hV];exact ee
 have o10:V.heap[w.heap.size]?=some (.cells (staCells x).toArray 50 (0,0)):=by rw [← hV];simp (disch:=try exact DI) only [↓PR,QR,simprocAttr]
 have o11:V.heap[w.heap.size+1]?=some (.cells (([.str ⟨#[115,116,97,116,101]⟩,.str x.name]:List AnyD).map anyV).toArray 20 (0,0)):=by rw [← hV];simp (disch:=try exact DI) only [↓PR,QR,simprocAttr,List.map_cons,List.map_nil,anyV]
 clear hV
 have OA:OwnA V (w.heap.size+1) (.slice (some ⟨w.heap.size+1,0,none⟩) 2 2) [.str ⟨#[115,116,97,116,101]⟩,.str x.name]:=own_anyH o11 (Nat.le_refl _) (by simp)
 have sV:=(Array.getElem?_eq_some_iff.1 o11).1
 generalize hq:w.heap.size+1=q at OA sV ⊢
 generalize hp:w.heap.size=p at *
 have okS:∀ y∈staL x,OkA y:=by
  intro y hy
  unfold staL at hy
  simp only [List.mem_append,List.mem_cons,List.not_mem_nil,or_false] at hy
  rcases hy with ((rfl | rfl) | hy) | hy
  · show (⟨#[115,116,97,116,101]⟩:ByteArray).size≤100000;decide
  · exact hox.1
  · split at hy
    · simp only [List.mem_cons,List.not_mem_nil,or_false] at hy
      rcases hy with rfl | rfl
      · show (⟨#[119,97,105,116]⟩:ByteArray).size≤100000;decide
      · exact hox.2
    · cases hy
  · split at hy
    · simp only [List.mem_cons,List.not_mem_nil,or_false] at hy
      subst hy
      show (⟨#[102,105,110,97,108]⟩:ByteArray).size≤100000;decide
    · cases hy
 have fin:∀ (u:Value) (w':World),Ext w w'→OwnA w' q u (staL x)→callK Pg 46 #[u] (panK R) w' fun t80 w=>n23c2 v (.int .i64 (k:Int)) t80 next2 R w:=by
  intro u w' e' hA'
  have E':=e.trans e'
  refine zcr (line_ret w' u (staL x) (own_anys hA') (hT.ext E') okS (by unfold staL;simp) (by unfold staL;split<;>split<;>simp)) fun w2 e2=>?_
  unfold n23c2
  have E2:=E'.trans e2
  refine app_line (w0:=W) (lineA (staL x)) (hO.ext (e'.trans e2)) (by have:=(e'.trans e2).size;omega) hl E2 h0 fun v' w3 hO' e3 hb'=>?_
  simp (disch:=try exact DI) only [↓PR,QR,simprocAttr,hw]
  exact hK v' w3 e3 hO' hb'
 have tail:∀ (u:Value) (w':World),Ext w w'→w'.heap[p]?=some (.cells (staCells x).toArray 50 (0,0))→q≤w'.heap.size→OwnA w' q u ([.str ⟨#[115,116,97,116,101]⟩,.str x.name]++(if 0 < x.wait then [.str ⟨#[119,97,105,116]⟩,.num x.wait] else []))→n23c4 v (.pointer (some ⟨p,0,none⟩)) u (.int .i64 (k:Int)) next2 R w':=by
  intro u w' e' h10 hqw hA'
  have c10:=cells_of_heap h10
  unfold n23c4
  unfold staL at fin
  cases hfn:x.final with
  | false =>
   rw [hfn] at fin
   simp (disch:=try exact DI) only [↓PR,QR,simprocAttr,c10.1,hfn]
   exact fin u w' e' (by simpa using hA')
  | true =>
   rw [hfn] at fin
   simp (disch:=try exact DI) only [↓PR,QR,simprocAttr,c10.1,hfn,↓n23c3]
   generalize hY:World.alloc w' _=Y
   have eY:Ext w' Y:=by rw [← hY];exact (Ext.refl w').alloc _
   have oY:Y.heap[w'.heap.size]?=some (.cells (([.str ⟨#[102,105,110,97,108]⟩]:List AnyD).map anyV).toArray 20 (0,0)):=by rw [← hY];exact heap_new _ _ _
   clear hY
   have sY:=eY.size
   refine append_any [.str ⟨#[102,105,110,97,108]⟩] rfl (hA'.ext eY) (fun j y hy=>by rw [(cells_of_heap oY).1,List.getElem?_toArray,List.getElem?_map,hy];rfl) (by omega) (by split<;>simp) ?_
   intro v' w2 hO' hg
   exact fin v' w2 ((e'.trans eY).grown hg fun b hb=>by have:=(World.ownsRow.lt hA' b hb).1;omega) hO'
 by_cases hwt:0 < x.wait
 · have d1:decide (0 < x.wait)=true:=decide_eq_true hwt
   rw [if_pos hwt] at tail
   simp (disch:=try exact DI) only [↓PR,QR,simprocAttr,d1,↓n23c5,(cells_of_heap o10).1]
   generalize hY:World.alloc V _=Y
   have eY:Ext V Y:=by rw [← hY];exact (Ext.refl V).alloc _
   have oY:Y.heap[V.heap.size]?=some (.cells (([.str ⟨#[119,97,105,116]⟩,.num x.wait]:List AnyD).map anyV).toArray 20 (0,0)):=by rw [← hY];exact heap_new _ _ _
   clear hY
   have sY:=eY.size
   refine append_any [.str ⟨#[119,97,105,116]⟩,.num x.wait] rfl (OA.ext eY) (fun j y hy=>by rw [(cells_of_heap oY).1,List.getElem?_toArray,List.getElem?_map,hy];rfl) (by omega) (by simp) ?_
   intro v' w2 hO' hg
   have hlo:∀ b,(Value.slice (some ⟨q,0,none⟩) 2 2).ownBlock=some b→q≤b:=fun b hb=>(World.ownsRow.lt OA b hb).1
   exact tail v' w2 ((eV.trans eY).grown hg fun b hb=>by have:=hlo b hb;omega) ((hg.block p (by omega) fun h=>by have:=hlo p h.symm;omega).trans (eY.obj o10)) (by have:=hg.size;omega) hO'
 · have d1:decide (0 < x.wait)=false:=decide_eq_false hwt
   rw [if_neg hwt] at tail
   simp (disch:=try exact DI) only [↓PR,QR,simprocAttr,d1]
   exact tail _ V eV o10 (by omega) (by simpa using OA)
end
section
variable {w0 W w:World} {R:RT} {base:Nat} {v:Value} {ls:List ByteArray}
theorem qV_kind1 {D:World} {m c:Nat} {L:List (Int×Value×Nat)} {k:Value→Prop} (hM:MapB D m kEnc L c) (s:Int):qV Pg (EC D) (Instr.lookup 90 (.map (some m)) (.int .i64 s) false) k=k ((Sw.look L s).getD (.agg zeroK)):=qV_eqC fun w' e=>run_of_op fun QP k=>op_lookup1 (enc:=kEnc) Tryz.underlying90 (KeyOK.int Tryz.underlying69) ty89 (hM.ext e) s
theorem kwB_size (k:Int):(kwB k).size≤100:=by
 unfold kwB
 repeat' split
 all_goals decide
theorem print_step {next5:Value→Value→World→Prop} {A:Option Addr} {c k:Nat} {l:List StpD} {x:StpD} (hS:StpsOf W (.slice A l.length c) l) (hx:l[k]?=some x) (hk:l.length≤1000000) (hT:TabOK W) (hox:StpSm x∧(-9223372036854775808≤x.low∧x.low≤9223372036854775807)∧(-9223372036854775808≤x.high∧x.high≤9223372036854775807) ∧ -9223372036854775808≤x.add∧x.add≤9223372036854775807) (hki:1≤x.kind∧x.kind≤4) (e:Ext W w) (hO:OwnS w base v ls) (hb:base≤w.heap.size) (h0:W.heap.size≤base) (hl:ls.length≤1000000)
 (hK:∀ v' w',Ext W w'→OwnS w' base v' (ls++[lineA (stpL x)])→base≤w'.heap.size→next5 v' (.int .i64 ((k+1:Nat):Int)) w') :
 n23c14 v (.slice A l.length c) (.int .i64 (k:Int)) next5 R w:=by
 obtain ⟨A',c',hv,_,_,_,hel⟩:=SliceOf.open hS
 injection hv with h1 _ h2
 subst h1 h2
 obtain ⟨b,o,cs,rfl,_,hA,rfl⟩:=hel k x hx
 have hkl:=(List.getElem?_eq_some_iff.1 hx).1
 have dk:(k:Int) < (l.length:Int):=by omega
 have hw:IntKind.i64.wrap ((k:Int)+1)=((k+1:Nat):Int):=by rw [wrap_ok (by omega) (by omega)];omega
 have hkw:=kwB_size x.kind
 have okS:∀ y∈stpL x,OkA y:=by
  intro y hy
  obtain ⟨⟨s1,s2,s3,s4,s5⟩,n1,n2,n3⟩:=hox
  unfold stpL stpL1 stpC at hy
  simp only [List.mem_append,List.mem_cons,List.not_mem_nil,or_false] at hy
  rcases hy with ((rfl | rfl | rfl | rfl) | hy) | hy
  · show (⟨#[115,116,101,112]⟩:ByteArray).size≤100000;decide
  · exact s1
  · exact s2
  · show (kwB x.kind).size≤100000;omega
  · split at hy
    · simp only [List.mem_cons,List.not_mem_nil,or_false] at hy
      rcases hy with rfl | rfl
      · exact s3
      · exact s4
    · cases hy
  · split at hy
    · simp only [List.mem_cons,List.not_mem_nil,or_false] at hy
      rcases hy with rfl | rfl | rfl | rfl | rfl
      · show (⟨#[119,104,101,110]⟩:ByteArray).size≤100000;decide
      · exact s5
      · exact n1
      · exact n2
      · exact n3
    · cases hy
 unfold n23c14
 simp (disch:=try exact DI) only [↓PR,QR,simprocAttr,hA.c9 e]
 generalize hV:World.alloc w _=V
 have o13:V.heap[w.heap.size]?=some (.cells (stpCells x).toArray 71 (0,0)):=by rw [← hV];exact heap_new _ _ _
 have eV:Ext w V:=by rw [← hV];exact (Ext.refl w).alloc _
 have sV:V.heap.size=w.heap.size+1:=by rw [← hV];simp only [World.size_alloc]
 clear hV
 generalize hp:w.heap.size=p at *
 have fin:∀ (q:Nat) (u:Value) (w':World),Ext w w'→OwnA w' q u (stpL x)→callK Pg 46 #[u] (panK R) w' fun t140 w=>n23c6 v (.int .i64 (k:Int)) t140 next5 R w:=by
  intro q u w' e' hA'
  have E':=e.trans e'
  refine zcr (line_ret w' u (stpL x) (own_anys hA') (hT.ext E') okS (by unfold stpL stpL1;simp) (by unfold stpL stpL1 stpC;split<;>split<;>simp)) fun w2 e2=>?_
  unfold n23c6
  have E2:=E'.trans e2
  refine app_line (w0:=W) (lineA (stpL x)) (hO.ext (e'.trans e2)) (by have:=(e'.trans e2).size;omega) hl E2 h0 fun v' w3 hO' e3 hb'=>?_
  simp (disch:=try exact DI) only [↓PR,QR,simprocAttr,hw]
  exact hK v' w3 e3 hO' hb'
 have tail:∀ (q:Nat) (u:Value) (w':World),p < q→Ext w w'→w'.heap[p]?=some (.cells (stpCells x).toArray 71 (0,0))→q≤w'.heap.size→OwnA w' q u (stpL1 x)→n23c8 v (.pointer (some ⟨p,0,none⟩)) u (.int .i64 (k:Int)) next5 R w':=by
  intro q u w' hpq e' h10 hqw hA'
  have c10:=cells_of_heap h10
  unfold n23c8
  unfold stpL at fin
  by_cases hc:x.counter=⟨#[]⟩
  · have d1:decide (x.counter=⟨#[]⟩)=true:=by simp [hc]
    have hcc:stpC x=[]:=by unfold stpC;rw [if_neg (by simp [hc])]
    rw [hcc,List.append_nil] at fin
    simp (disch:=try exact DI) only [↓PR,QR,simprocAttr,c10.1,d1]
    exact fin q u w' e' hA'
  · have d1:decide (x.counter=⟨#[]⟩)=false:=by simp [hc]
    have hcc:stpC x=[.str ⟨#[119,104,101,110]⟩,.str x.counter,.num x.low,.num x.high,.num x.add]:=by unfold stpC;rw [if_pos hc]
    rw [hcc] at fin
    simp (disch:=try exact DI) only [↓PR,QR,simprocAttr,c10.1,d1,↓n23c7]
    generalize hY:World.alloc w' _=Y
    have eY:Ext w' Y:=by rw [← hY];exact (Ext.refl w').alloc _
    have oY:Y.heap[w'.heap.size]?=some (.cells (([.str ⟨#[119,104,101,110]⟩,.str x.counter,.num x.low,.num x.high,.num x.add]:List AnyD).map anyV).toArray 20 (0,0)):=by rw [← hY];exact heap_new _ _ _
    clear hY
    have sY:=eY.size
    refine append_any [.str ⟨#[119,104,101,110]⟩,.str x.counter,.num x.low,.num x.high,.num x.add] rfl (hA'.ext eY) (fun j y hy=>by rw [(cells_of_heap oY).1,List.getElem?_toArray,List.getElem?_map,hy];rfl) (by omega) (by unfold stpL1;split<;>simp) ?_
    intro v' w2 hO' hg
    exact fin q v' w2 ((e'.trans eY).grown hg fun b hb=>by have:=(World.ownsRow.lt hA' b hb).1;omega) hO'
 refine drawK_intro ?_
 have eD:Ext V (Sw.drew V):=(Ext.refl V).drew
 generalize (Sw.drew V)=D at eD ⊢
 have d13:=eD.obj o13
 have ED:=eV.trans eD
 have c13:=cells_of_heap d13
 unfold n23c13
 simp (disch:=try exact DI) only [↓PR,QR,simprocAttr,c13.1]
 refine callK_ret (kinds_ret _) ?_
 rintro _ w1 ⟨m,L,cc,rfl,hm,hM,hL,e1⟩
 refine narrowK_EC e1 ?_
 unfold n23c12
 rw [qV_kind1 hM,hL,if_pos hki,Option.getD_some]
 simp (disch:=try exact DI) only [↓PR,QR,simprocAttr]
 generalize hY:World.alloc w1 _=Y
 have eY:Ext w1 Y:=by rw [← hY];exact (Ext.refl w1).alloc _
 have oY:Y.heap[w1.heap.size]?=some (.cells (([.str ⟨#[115,116,101,112]⟩,.str x.fr,.str x.to,.str (kwB x.kind)]:List AnyD).map anyV).toArray 20 (0,0)):=by rw [← hY];exact heap_new _ _ _
 clear hY
 have s1:=e1.size
 have sD:=eD.size
 have OA:OwnA Y w1.heap.size (.slice (some ⟨w1.heap.size,0,none⟩) 4 4) [.str ⟨#[115,116,101,112]⟩,.str x.fr,.str x.to,.str (kwB x.kind)]:=own_anyH oY (Nat.le_refl _) (by simp)
 refine ⟨eY,?_⟩
 have lq:=(Array.getElem?_eq_some_iff.1 oY).1
 have hpq:p < w1.heap.size:=by omega
 generalize w1.heap.size=q at OA lq hpq ⊢
 have E1:=ED.trans (e1.trans eY)
 have y13:=(e1.trans eY).obj d13
 refine drawK_intro ?_
 have eD2:Ext Y (Sw.drew Y):=(Ext.refl Y).drew
 generalize (Sw.drew Y)=D2 at eD2 ⊢
 unfold n23c11
 simp (disch:=try exact DI) only [↓PR,QR,simprocAttr,(cells_of_heap (eD2.obj y13)).1]
 refine callK_ret (kinds_ret _) ?_
 rintro _ w3 ⟨m2,L2,cc2,rfl,hm2,hM2,hL2,e3⟩
 refine narrowK_EC e3 ?_
 have E3:=E1.trans (eD2.trans e3)
 have y33:=(eD2.trans e3).obj y13
 have OA3:=OA.ext (eD2.trans e3)
 have sq:=(eD2.trans e3).size
 unfold n23c10
 rw [qV_kind1 hM2,hL2,if_pos hki,Option.getD_some]
 unfold stpL1 at tail
 cases hsp:speaksB x.kind with
 | false =>
  rw [hsp,if_neg (by simp)] at tail
  simp (disch:=try exact DI) only [↓PR,QR,simprocAttr,hsp]
  exact tail q _ w3 hpq E3 y33 (by omega) (by simpa using OA3)
 | true =>
  rw [hsp,if_pos rfl] at tail
  simp (disch:=try exact DI) only [↓PR,QR,simprocAttr,hsp,↓n23c9,(cells_of_heap y33).1]
  generalize hZ:World.alloc w3 _=Z
  have eZ:Ext w3 Z:=by rw [← hZ];exact (Ext.refl w3).alloc _
  have oZ:Z.heap[w3.heap.size]?=some (.cells (([.str x.message,.str x.peer]:List AnyD).map anyV).toArray 20 (0,0)):=by rw [← hZ];exact heap_new _ _ _
  clear hZ
  have sZ:=eZ.size
  refine append_any [.str x.message,.str x.peer] rfl (OA3.ext eZ) (fun j y hy=>by rw [(cells_of_heap oZ).1,List.getElem?_toArray,List.getElem?_map,hy];rfl) (by omega) (by simp) ?_
  intro v' w4 hO' hg
  have hlo:∀ b,(Value.slice (some ⟨q,0,none⟩) 4 4).ownBlock=some b→q≤b:=fun b hb=>(World.ownsRow.lt OA3 b hb).1
  exact tail q v' w4 hpq ((E3.trans eZ).grown hg fun b hb=>by have:=hlo b hb;omega) ((hg.block p (by omega) fun h=>by have:=hlo p h.symm;omega).trans (eZ.obj y33)) (by have:=hg.size;omega) hO'
end
theorem few_neg {n least most:Nat} {ok:Nat→Bool} (h:¬ 0≤fewP n least most ok):least≤n∧n≤most∧∀ i,i < n→ok i=true:=by
 unfold fewP at h
 by_cases h1:n < least
 · rw [if_pos h1] at h;omega
 rw [if_neg h1] at h
 by_cases h2:most < n
 · rw [if_pos h2] at h;omega
 rw [if_neg h2] at h
 refine ⟨by omega,by omega,fun i hi=>?_⟩
 cases hc:ok i with
 | true=>rfl
 | false =>
  have:=idx_le (p:=fun i=>!ok i) (range_at hi) (by rw [hc];rfl)
  omega
theorem check_parts {r:RolD} (h:(checkR r).2=0):nameB r.name=true∧(r.counters.length≤4∧∀ i,i < r.counters.length→cntB r i=true)∧((1≤r.states.length∧r.states.length≤24)∧∀ i,i < r.states.length→staB r i=true)∧r.steps.length≤80∧∀ i,i < r.steps.length→stpB r i=true:=by
 unfold checkR at h
 cases hn:nameB r.name with
 | false=>rw [hn,if_pos rfl] at h;simp at h
 | true =>
 rw [hn,if_neg (by simp)] at h
 by_cases h1:0≤fewP r.counters.length 0 4 (cntB r)
 · rw [if_pos h1] at h;simp at h
 rw [if_neg h1] at h
 by_cases h2:0≤fewP r.states.length 1 24 (staB r)
 · rw [if_pos h2] at h;simp at h
 rw [if_neg h2] at h
 by_cases h3:0≤fewP r.steps.length 0 80 (stpB r)
 · rw [if_pos h3] at h;simp at h
 obtain ⟨_,a1,a2⟩:=few_neg h1
 obtain ⟨b0,b1,b2⟩:=few_neg h2
 obtain ⟨_,c1,c2⟩:=few_neg h3
 exact ⟨rfl,⟨a1,a2⟩,⟨⟨b0,b1⟩,b2⟩,c1,c2⟩
theorem step_kind {r:RolD} (h:(checkR r).2=0) {k:Nat} {x:StpD} (hx:r.steps[k]?=some x):1≤x.kind∧x.kind≤4:=by
 have:=(check_parts h).2.2.2.2 k (List.getElem?_eq_some_iff.1 hx).1
 unfold stpB at this
 rw [hx] at this
 unfold allowB at this
 simp only [Bool.and_eq_true,decide_eq_true_eq] at this
 exact this.1
theorem lines_size {l:List ByteArray} (h:∀ x∈l,x.size≤2000020) (hl:l.length≤200):(joinW ⟨#[10]⟩ l).size≤1000000000:=by
 have h1:=joinW_size (sep:=⟨#[10]⟩) (B:=2000020) (xs:=l) h
 have h3:(⟨#[10]⟩:ByteArray).size=1:=rfl
 rw [h3] at h1
 have:l.length*(2000020+1)≤200*(2000020+1):=Nat.mul_le_mul_right _ hl
 omega
theorem sta_ok {x:StaD} (hox:x.name.size≤100000 ∧ -9223372036854775808≤x.wait∧x.wait≤9223372036854775807):∀ y∈staL x,OkA y:=by
 intro y hy
 unfold staL at hy
 simp only [List.mem_append,List.mem_cons,List.not_mem_nil,or_false] at hy
 rcases hy with ((rfl | rfl) | hy) | hy
 · show (⟨#[115,116,97,116,101]⟩:ByteArray).size≤100000;decide
 · exact hox.1
 · split at hy
   · simp only [List.mem_cons,List.not_mem_nil,or_false] at hy
     rcases hy with rfl | rfl
     · show (⟨#[119,97,105,116]⟩:ByteArray).size≤100000;decide
     · exact hox.2
   · cases hy
 · split at hy
   · simp only [List.mem_cons,List.not_mem_nil,or_false] at hy
     subst hy
     show (⟨#[102,105,110,97,108]⟩:ByteArray).size≤100000;decide
   · cases hy
theorem stp_ok {x:StpD} (hox:StpSm x∧(-9223372036854775808≤x.low∧x.low≤9223372036854775807)∧(-9223372036854775808≤x.high∧x.high≤9223372036854775807) ∧ -9223372036854775808≤x.add∧x.add≤9223372036854775807):∀ y∈stpL x,OkA y:=by
 have hkw:=kwB_size x.kind
 intro y hy
 obtain ⟨⟨s1,s2,s3,s4,s5⟩,n1,n2,n3⟩:=hox
 unfold stpL stpL1 stpC at hy
 simp only [List.mem_append,List.mem_cons,List.not_mem_nil,or_false] at hy
 rcases hy with ((rfl | rfl | rfl | rfl) | hy) | hy
 · show (⟨#[115,116,101,112]⟩:ByteArray).size≤100000;decide
 · exact s1
 · exact s2
 · show (kwB x.kind).size≤100000;omega
 · split at hy
   · simp only [List.mem_cons,List.not_mem_nil,or_false] at hy
     rcases hy with rfl | rfl
     · exact s3
     · exact s4
   · cases hy
 · split at hy
   · simp only [List.mem_cons,List.not_mem_nil,or_false] at hy
     rcases hy with rfl | rfl | rfl | rfl | rfl
     · show (⟨#[119,104,101,110]⟩:ByteArray).size≤100000;decide
     · exact s5
     · exact n1
     · exact n2
     · exact n3
   · cases hy
theorem sta_len (x:StaD):(staL x).length≤20:=by unfold staL;split<;>split<;>simp
theorem stp_len (x:StpD):(stpL x).length≤20:=by unfold stpL stpL1 stpC;split<;>split<;>simp
theorem Print_ret (w0:World) (v:Value) (r:RolD) (hr:RolVal w0 v r) (hok:RolOk r) (hT:TabOK w0):Ret Pg 14 #[v] w0 fun u w'=>u = .tuple #[.string (printR r),.int .i64 (checkR r).2]∧Ext w0 w':=by
 obtain ⟨sv,cv,tv,rfl,hS,hC,hT',o1,o2,o3⟩:=hr.op
 obtain ⟨k1,k2,k3,k4,k5⟩:=hok
 obtain ⟨A1,c1,rfl,_⟩:=SliceOf.open hS
 obtain ⟨A2,c2,rfl,_,_,_,helC⟩:=SliceOf.open hC
 obtain ⟨A3,c3,rfl,_⟩:=SliceOf.open hT'
 refine n23s (R:=retR _) ?_;unfold n23
 rw [op_boxA]
 have hp:=heap_new w0 (rolCells r (.slice A1 r.states.length c1) (.slice A2 r.counters.length c2) (.slice A3 r.steps.length c3)).toArray 26
 have eW:Ext w0 (w0.alloc (.cells (rolCells r (.slice A1 r.states.length c1) (.slice A2 r.counters.length c2) (.slice A3 r.steps.length c3)).toArray 26)):=ee
 generalize (w0.alloc (.cells (rolCells r (.slice A1 r.states.length c1) (.slice A2 r.counters.length c2) (.slice A3 r.steps.length c3)).toArray 26))=W0 at hp eW ⊢
 generalize w0.heap.size=p at hp ⊢
 simp (disch:=try exact DI) only [↓PR,QR,simprocAttr,(cells_of_heap hp).1]
 refine zcr (Check_ret W0 _ r ⟨_,_,_,rfl,hS.ext eW,hC.ext eW,hT'.ext eW⟩ (fun x hx=>(k4 x hx).1) k5) fun W e1=>?_
 have E1:=eW.trans e1
 have h1:=e1.obj hp
 unfold printR
 by_cases hc:(checkR r).2=0
 case neg =>
  have d1:((checkR r).2 != 0)=true:=by simp [hc]
  rw [if_neg hc]
  simp (disch:=try exact DI) only [↓PR,QR,simprocAttr,↓n23c22,d1]
  exact ⟨by trivial,E1⟩
 have hp':=check_parts hc
 obtain ⟨_,⟨lc,_⟩,⟨⟨_,lst⟩,_⟩,lsp,_⟩:=hp'
 rw [if_pos hc,hc]
 simp (disch:=try exact DI) only [↓PR,QR,simprocAttr,↓n23c22,↓n23c21,(cells_of_heap h1).1]
 have hS1:=hS.ext E1
 have hC1:=hC.ext E1
 have hT1:=hT'.ext E1
 have tb:=hT.ext E1
 have okC:∀ x∈r.counters,∀ y∈cntL x,OkA y:=by
  intro x hx y hy
  obtain ⟨s1,s2⟩:=k2 x hx
  unfold cntL at hy
  simp only [List.mem_cons,List.not_mem_nil,or_false] at hy
  rcases hy with rfl | rfl | rfl
  · show (⟨#[99,111,117,110,116,101,114]⟩:ByteArray).size≤100000;decide
  · exact s1
  · exact s2
 generalize hY:World.alloc W _=Y
 have eY:Ext W Y:=by rw [← hY];exact (Ext.refl W).alloc _
 have oY:Y.heap[W.heap.size]?=some (.cells (([.str ⟨#[114,111,108,101]⟩,.str r.name]:List AnyD).map anyV).toArray 20 (0,0)):=by rw [← hY];exact heap_new _ _ _
 clear hY
 have OA:OwnA Y W.heap.size (.slice (some ⟨W.heap.size,0,none⟩) 2 2) [.str ⟨#[114,111,108,101]⟩,.str r.name]:=own_anyH oY (Nat.le_refl _) (by simp)
 have okH:∀ y∈([.str ⟨#[114,111,108,101]⟩,.str r.name]:List AnyD),OkA y:=by
  intro y hy
  simp only [List.mem_cons,List.not_mem_nil,or_false] at hy
  rcases hy with rfl | rfl
  · show (⟨#[114,111,108,101]⟩:ByteArray).size≤100000;decide
  · exact k1
 refine zcr (line_ret Y _ _ (own_anys OA) (tb.ext eY) okH (by simp) (by simp)) fun w3 e3=>?_
 have E3:=eY.trans e3
 unfold n23c20
 simp (disch:=try exact DI) only [↓PR,QR,simprocAttr,fun o=>(cells_of_heap ((E3.trans ((Ext.refl w3).alloc o)).obj h1)).1]
 generalize hZ:World.alloc w3 _=Z
 have eZ:Ext w3 Z:=by rw [← hZ];exact (Ext.refl w3).alloc _
 have OZ:OwnS Z w3.heap.size (.slice (some ⟨w3.heap.size,0,none⟩) 1 1) [lineA [.str ⟨#[114,111,108,101]⟩,.str r.name]]:=by rw [← hZ];exact OwnE.new w3 9 1 strEnc [lineA [.str ⟨#[114,111,108,101]⟩,.str r.name]] (fun _=>rfl) (by simp)
 have sZ:w3.heap.size≤Z.heap.size:=eZ.size
 clear hZ
 have EZ:=E3.trans eZ
 have hbase:=E3.size
 have oks:∀ x∈r.states,∀ y∈staL x,True:=fun _ _ _ _=>trivial
 have hC3:=hC1.ext E3
 have tb3:=tb.ext E3
 have hS3:=hS1.ext E3
 have hT3:=hT1.ext E3
 have h3:=E3.obj h1
 have EW3:=E1.trans E3
 clear OA oY eY e3 E3 oks
 generalize hbs:w3.heap.size=base at *
 have hhdz:=lineA_size okH (by simp)
 generalize hhd:lineA [.str ⟨#[114,111,108,101]⟩,.str r.name]=hd at OZ hhdz
 have hlines:linesR r=(([hd]++r.counters.map fun x=>lineA (cntL x))++r.states.map fun x=>lineA (staL x))++r.steps.map fun x=>lineA (stpL x):=by rw [← hhd];rfl
 rw [hlines]
 clear hlines hhd
 have steps:∀ v w,Ext w3 w→OwnS w base v (([hd]++r.counters.map fun x=>lineA (cntL x))++r.states.map fun x=>lineA (staL x))→base≤w.heap.size→n23c16 (.pointer (some ⟨p,0,none⟩)) v (retR fun u w'=>u = .tuple #[.string (joinW ⟨#[10]⟩ ((([hd]++r.counters.map fun x=>lineA (cntL x))++r.states.map fun x=>lineA (staL x))++r.steps.map fun x=>lineA (stpL x))),.int .i64 0]∧Ext w0 w') w:=by
  intro v w e hO hb
  unfold n23c16
  simp (disch:=try exact DI) only [↓PR,QR,simprocAttr,(cells_of_heap (e.obj h3)).1]
  refine loop2_intro (fun a b w=>∃ k:Nat,b = .int .i64 k∧k≤r.steps.length∧Ext w3 w∧OwnS w base a ((([hd]++r.counters.map fun x=>lineA (cntL x))++r.states.map fun x=>lineA (staL x))++(r.steps.take k).map fun x=>lineA (stpL x))∧base≤w.heap.size) (fun _ b _=>r.steps.length - (intOf b).toNat) ⟨0,rfl,by omega,e,by simpa using hO,hb⟩ ?_
  rintro a _ w ⟨k,rfl,hk,e,hO,hb⟩
  unfold n23c15
  by_cases hlt:k < r.steps.length
  · obtain ⟨x,hx⟩:=getElem?_lt hlt
    have d1:decide ((k:Int) < (r.steps.length:Int))=true:=decide_eq_true (by omega)
    simp (disch:=try exact DI) only [↓PR,QR,simprocAttr,d1]
    refine print_step hT3 hx (by omega) tb3 (k4 x (List.mem_of_getElem? hx)) (step_kind hc hx) e hO hb (by omega) (by simp;omega) fun v' w' e' hO' hb'=>?_
    exact ⟨⟨k+1,rfl,by omega,e',by rw [take_snoc hx,List.map_append,← List.append_assoc];exact hO',hb'⟩,meas_lt (kd := .i64) hlt⟩
  · obtain rfl:k=r.steps.length:=by omega
    have d1:decide ((r.steps.length:Int) < (r.steps.length:Int))=false:=decide_eq_false (by omega)
    rw [List.take_length] at hO
    simp (disch:=try exact DI) only [↓PR,QR,simprocAttr,d1]
    refine callK_ret (Join_ret hO ⟨#[10]⟩ (by simp) (by simp;omega) (lines_size ?_ (by simp;omega))) ?_
    · intro y hy
      simp only [List.mem_append,List.mem_singleton,List.mem_map] at hy
      rcases hy with ((rfl | ⟨x,hx,rfl⟩) | ⟨x,hx,rfl⟩) | ⟨x,hx,rfl⟩
      · exact hhdz
      · exact lineA_size (okC x hx) (by simp [cntL])
      · exact lineA_size (sta_ok (k3 x hx)) (sta_len x)
      · exact lineA_size (stp_ok (k4 x hx)) (stp_len x)
    rintro _ w4 ⟨rfl,e4⟩
    simp (disch:=try exact DI) only [↓PR,QR,simprocAttr]
    exact ⟨by trivial,EW3.trans (e.trans e4)⟩
 have states:∀ v w,Ext w3 w→OwnS w base v ([hd]++r.counters.map fun x=>lineA (cntL x))→base≤w.heap.size→n23c18 (.pointer (some ⟨p,0,none⟩)) v (retR fun u w'=>u = .tuple #[.string (joinW ⟨#[10]⟩ ((([hd]++r.counters.map fun x=>lineA (cntL x))++r.states.map fun x=>lineA (staL x))++r.steps.map fun x=>lineA (stpL x))),.int .i64 0]∧Ext w0 w') w:=by
  intro v w e hO hb
  unfold n23c18
  simp (disch:=try exact DI) only [↓PR,QR,simprocAttr,(cells_of_heap (e.obj h3)).1]
  refine loop2_intro (fun a b w=>∃ k:Nat,b = .int .i64 k∧k≤r.states.length∧Ext w3 w∧OwnS w base a (([hd]++r.counters.map fun x=>lineA (cntL x))++(r.states.take k).map fun x=>lineA (staL x))∧base≤w.heap.size) (fun _ b _=>r.states.length - (intOf b).toNat) ⟨0,rfl,by omega,e,by simpa using hO,hb⟩ ?_
  rintro a _ w ⟨k,rfl,hk,e,hO,hb⟩
  by_cases hlt:k < r.states.length
  · obtain ⟨x,hx⟩:=getElem?_lt hlt
    have d1:decide ((k:Int) < (r.states.length:Int))=true:=decide_eq_true (by omega)
    simp (disch:=try exact DI) only [↓PR,QR,simprocAttr,d1]
    refine print_state (n:=0) hS3 hx (by omega) tb3 (k3 x (List.mem_of_getElem? hx)) e hO hb (by omega) (by simp;omega) fun v' w' e' hO' hb'=>?_
    exact ⟨⟨k+1,rfl,by omega,e',by rw [take_snoc hx,List.map_append,← List.append_assoc];exact hO',hb'⟩,meas_lt (kd := .i64) hlt⟩
  · obtain rfl:k=r.states.length:=by omega
    have d1:decide ((r.states.length:Int) < (r.states.length:Int))=false:=decide_eq_false (by omega)
    rw [List.take_length] at hO
    simp (disch:=try exact DI) only [↓PR,QR,simprocAttr,d1]
    exact steps a w e hO hb
 refine loop2_intro (fun a b w=>∃ k:Nat,b = .int .i64 k∧k≤r.counters.length∧Ext w3 w∧OwnS w base a ([hd]++(r.counters.take k).map fun x=>lineA (cntL x))∧base≤w.heap.size) (fun _ b _=>r.counters.length - (intOf b).toNat) ⟨0,rfl,by omega,eZ,by simpa using OZ,sZ⟩ ?_
 rintro a _ w ⟨k,rfl,hk,e,hO,hb⟩
 by_cases hlt:k < r.counters.length
 · obtain ⟨x,hx⟩:=getElem?_lt hlt
   obtain ⟨b,o,cs,rfl,_,hA,rfl⟩:=helC k x hx
   have dk:(k:Int) < (r.counters.length:Int):=by omega
   have d1:decide ((k:Int) < (r.counters.length:Int))=true:=decide_eq_true dk
   have hw:IntKind.i64.wrap ((k:Int)+1)=((k+1:Nat):Int):=by rw [wrap_ok (by omega) (by omega)];omega
   simp (disch:=try exact DI) only [↓PR,QR,simprocAttr,d1,↓n23c19,hA.c2 (EW3.trans e)]
   generalize hV:World.alloc (World.alloc w _) _=V
   have eV:Ext w V:=by rw [← hV];exact ((Ext.refl w).alloc _).alloc _
   have oV:V.heap[w.heap.size+1]?=some (.cells ((cntL x).map anyV).toArray 20 (0,0)):=by
    rw [← hV]
    have:=heap_new (w.alloc (.cells #[Value.string x.name,Value.int .i64 x.limit] 52)) ((cntL x).map anyV).toArray 20
    rw [World.size_alloc] at this
    exact this
   clear hV
   have OV:OwnA V (w.heap.size+1) (.slice (some ⟨w.heap.size+1,0,none⟩) 3 3) (cntL x):=own_anyH oV (Nat.le_refl _) (by simp [cntL])
   have sV:=eV.size
   refine zcr (line_ret V _ _ (own_anys OV) (tb3.ext (e.trans eV)) (okC x (List.mem_of_getElem? hx)) (by simp [cntL]) (by simp [cntL])) fun w4 e4=>?_
   have e04:=eV.trans e4
   unfold n23c1
   refine app_line (w0:=w3) (lineA (cntL x)) (hO.ext e04) (by have:=e04.size;omega) (by simp;omega) (e.trans e04) (by omega) fun v' w5 hO' e5 hb'=>?_
   simp (disch:=try exact DI) only [↓PR,QR,simprocAttr,hw]
   exact ⟨⟨k+1,rfl,by omega,e5,by rw [take_snoc hx,List.map_append,← List.append_assoc];exact hO',hb'⟩,meas_lt (kd := .i64) hlt⟩
 · obtain rfl:k=r.counters.length:=by omega
   have d1:decide ((r.counters.length:Int) < (r.counters.length:Int))=false:=decide_eq_false (by omega)
   rw [List.take_length] at hO
   simp (disch:=try exact DI) only [↓PR,QR,simprocAttr,d1]
   exact states a w e hO hb
end Go.Proofs.YtngflmjncplkaaaGreatDoor
namespace Go.Sw
class Szb (a:ByteArray) (n:outParam Nat):Prop where
 le:a.size≤n
instance szbLit (a:Array UInt8):Szb ⟨a⟩ a.size:=⟨Nat.le_refl _⟩
instance szbApp (a b:ByteArray) (n m:Nat) [Szb a n] [Szb b m]:Szb (a++b) (n+m):=⟨by rw [ByteArray.size_append];exact Nat.add_le_add Szb.le Szb.le⟩
end Go.Sw
namespace Go.Proofs.YtngflmjncplkaaaGreatDoor
open Sw
open Go.RowKit (intOf Below)
theorem dec_one {n:Nat} (h:n < 10):decB n=⟨#[UInt8.ofNat (48+n)]⟩:=by
 unfold decB
 rw [Go.Lib.itoa_nonneg,Go.Lib.decDigits_one h]
def cntT (s:ByteArray) (x:CntD):ByteArray:=s++⟨#[10,99,111,117,110,116,101,114,32]⟩++x.name++⟨#[32]⟩++decB x.limit
def staT1 (s:ByteArray) (x:StaD):ByteArray:=s++⟨#[10,115,116,97,116,101,32]⟩++x.name
def staT2 (s:ByteArray) (x:StaD):ByteArray:=if 0 < x.wait then staT1 s x++⟨#[32,119,97,105,116,32]⟩++decB x.wait else staT1 s x
def staT (s:ByteArray) (x:StaD):ByteArray:=if x.final then staT2 s x++⟨#[32,102,105,110,97,108]⟩ else staT2 s x
def stpT1 (s:ByteArray) (x:StpD):ByteArray:=s++⟨#[10,115,116,101,112,32]⟩++x.fr++⟨#[32]⟩++x.to++⟨#[32]⟩++kwB x.kind
def stpT2 (s:ByteArray) (x:StpD):ByteArray:=if speaksB x.kind then stpT1 s x++⟨#[32]⟩++x.message++⟨#[32]⟩++x.peer else stpT1 s x
def stpT (s:ByteArray) (x:StpD):ByteArray:=if x.counter≠⟨#[]⟩ then stpT2 s x++⟨#[32,119,104,101,110,32]⟩++x.counter++⟨#[32]⟩++decB x.low++⟨#[32]⟩++decB x.high++⟨#[32]⟩++decB x.add else stpT2 s x
def textP (r:RolD):ByteArray:=r.steps.foldl stpT (r.states.foldl staT (r.counters.foldl cntT (⟨#[114,111,108,101,32]⟩++r.name)))
theorem app_assoc (a b c:ByteArray):a++b++c=a++(b++c):=ByteArray.append_assoc
theorem lit_app (a b:Array UInt8):(⟨a⟩++⟨b⟩:ByteArray)=⟨a++b⟩:=bytes_ext (by rw [ByteArray.data_append])
theorem joinW_two (sep x y:ByteArray) (l:List ByteArray):joinW sep (x::y::l)=x++sep++joinW sep (y::l):=by
 refine bytes_ext ?_
 unfold joinW
 simp only [List.map_cons,Go.Lib.join_cons,ByteArray.data_append,Array.toList_append]
 unfold Go.Lib.joinTail
 simp
theorem cntT_line (s:ByteArray) (x:CntD):cntT s x=s++⟨#[10]⟩++lineA (cntL x):=by
 unfold cntT lineA cntL
 simp only [List.map_cons,List.map_nil,wordA,joinW_two,joinW_one]
 rw [show (⟨#[10,99,111,117,110,116,101,114,32]⟩:ByteArray)=⟨#[10]⟩++(⟨#[99,111,117,110,116,101,114]⟩++⟨#[32]⟩) from by rw [lit_app,lit_app];rfl]
 simp only [app_assoc]
theorem staT_line (s:ByteArray) (x:StaD):staT s x=s++⟨#[10]⟩++lineA (staL x):=by
 have h1:staT1 s x=s++⟨#[10]⟩++joinW ⟨#[32]⟩ [⟨#[115,116,97,116,101]⟩,x.name]:=by
  unfold staT1
  rw [joinW_two,joinW_one,show (⟨#[10,115,116,97,116,101,32]⟩:ByteArray)=⟨#[10]⟩++(⟨#[115,116,97,116,101]⟩++⟨#[32]⟩) from by rw [lit_app,lit_app];rfl]
  simp only [app_assoc]
 have w6:(⟨#[32,119,97,105,116,32]⟩:ByteArray)=⟨#[32]⟩++(⟨#[119,97,105,116]⟩++⟨#[32]⟩):=by rw [lit_app,lit_app];rfl
 have f6:(⟨#[32,102,105,110,97,108]⟩:ByteArray)=⟨#[32]⟩++⟨#[102,105,110,97,108]⟩:=by rw [lit_app];rfl
 unfold staT staT2 lineA staL
 rw [h1,w6,f6]
 cases x.final with
 | true =>
  by_cases hw:0 < x.wait
  · simp only [hw,if_true,List.map_append,List.map_cons,List.map_nil,wordA,List.cons_append,List.nil_append,joinW_two,joinW_one,app_assoc]
  · simp only [hw,if_true,if_false,List.map_append,List.map_cons,List.map_nil,wordA,List.cons_append,List.nil_append,List.append_nil,joinW_two,joinW_one,app_assoc]
 | false =>
  by_cases hw:0 < x.wait
  · simp only [hw,if_true,List.map_append,List.map_cons,List.map_nil,wordA,List.cons_append,List.nil_append,List.append_nil,joinW_two,joinW_one,app_assoc,Bool.false_eq_true,if_false]
  · simp only [hw,if_false,List.map_append,List.map_cons,List.map_nil,wordA,List.cons_append,List.nil_append,List.append_nil,joinW_two,joinW_one,app_assoc,Bool.false_eq_true]
theorem stpT_line (s:ByteArray) (x:StpD):stpT s x=s++⟨#[10]⟩++lineA (stpL x):=by
 have h1:stpT1 s x=s++⟨#[10]⟩++joinW ⟨#[32]⟩ [⟨#[115,116,101,112]⟩,x.fr,x.to,kwB x.kind]:=by
  unfold stpT1
  rw [joinW_two,joinW_two,joinW_two,joinW_one,show (⟨#[10,115,116,101,112,32]⟩:ByteArray)=⟨#[10]⟩++(⟨#[115,116,101,112]⟩++⟨#[32]⟩) from by rw [lit_app,lit_app];rfl]
  simp only [app_assoc]
 have w6:(⟨#[32,119,104,101,110,32]⟩:ByteArray)=⟨#[32]⟩++(⟨#[119,104,101,110]⟩++⟨#[32]⟩):=by rw [lit_app,lit_app];rfl
 unfold stpT stpT2 lineA stpL stpL1 stpC
 rw [h1,w6]
 cases speaksB x.kind with
 | true =>
  by_cases hc:x.counter=⟨#[]⟩
  · simp only [hc,ne_eq,not_true_eq_false,if_true,if_false,List.map_append,List.map_cons,List.map_nil,wordA,List.cons_append,List.nil_append,List.append_nil,joinW_two,joinW_one,app_assoc]
  · simp only [hc,ne_eq,not_false_eq_true,if_true,List.map_append,List.map_cons,List.map_nil,wordA,List.cons_append,List.nil_append,List.append_nil,joinW_two,joinW_one,app_assoc]
 | false =>
  by_cases hc:x.counter=⟨#[]⟩
  · simp only [hc,ne_eq,not_true_eq_false,if_false,List.map_append,List.map_cons,List.map_nil,wordA,List.cons_append,List.nil_append,List.append_nil,joinW_two,joinW_one,app_assoc,Bool.false_eq_true]
  · simp only [hc,ne_eq,not_false_eq_true,if_true,List.map_append,List.map_cons,List.map_nil,wordA,List.cons_append,List.nil_append,List.append_nil,joinW_two,joinW_one,app_assoc,Bool.false_eq_true,if_false]
theorem fold_lines {α:Type} {f:ByteArray→α→ByteArray} {g:α→ByteArray} (hf:∀ s x,f s x=s++⟨#[10]⟩++g x):∀ (l:List α) (ls:List ByteArray),ls≠[]→l.foldl f (joinW ⟨#[10]⟩ ls)=joinW ⟨#[10]⟩ (ls++l.map g)
 | [],ls,_=>by simp
 | x::l,ls,h=>by
  rw [List.foldl_cons,hf,← joinW_snoc _ h,fold_lines hf l _ (by simp),List.map_cons,List.append_assoc]
  rfl
theorem textP_eq (r:RolD):textP r=joinW ⟨#[10]⟩ (linesR r):=by
 unfold textP linesR
 have h0:(⟨#[114,111,108,101,32]⟩:ByteArray)++r.name=joinW ⟨#[10]⟩ [lineA [.str ⟨#[114,111,108,101]⟩,.str r.name]]:=by
  unfold lineA
  simp only [List.map_cons,List.map_nil,wordA,joinW_two,joinW_one]
  rw [show (⟨#[114,111,108,101,32]⟩:ByteArray)=⟨#[114,111,108,101]⟩++⟨#[32]⟩ from by rw [lit_app];rfl]
 rw [h0,fold_lines cntT_line _ _ (by simp),fold_lines staT_line _ _ (by simp),fold_lines stpT_line _ _ (by simp)]
structure Save (lo hi:Nat) (w w':World):Prop where
 os:w'.os=w.os
 tape:w'.tape=w.tape
 output:w'.output=w.output
 size:w.heap.size≤w'.heap.size
 block:∀ k,k < w.heap.size→(k < lo∨hi≤k)→w'.heap[k]?=w.heap[k]?
section
variable {lo hi:Nat} {w w' w1 w2:World}
theorem Save.refl (lo hi:Nat) (w:World):Save lo hi w w:=⟨rfl,rfl,rfl,Nat.le_refl _,fun _ _ _=>rfl⟩
theorem Save.ext (h:Save lo hi w w1) (e:Ext w1 w2):Save lo hi w w2:=⟨e.os.trans h.os,e.tape.trans h.tape,e.output.trans h.output,Nat.le_trans h.size e.size,fun k hk hb=>(e.block k (Nat.lt_of_lt_of_le hk h.size)).trans (h.block k hk hb)⟩
theorem Save.of_ext (e:Ext w w'):Save lo hi w w':=(Save.refl lo hi w).ext e
theorem Save.trans (h:Save lo hi w w1) (k:Save lo hi w1 w2):Save lo hi w w2:=⟨k.os.trans h.os,k.tape.trans h.tape,k.output.trans h.output,Nat.le_trans h.size k.size,fun i hi' hb=>(k.block i (Nat.lt_of_lt_of_le hi' h.size) hb).trans (h.block i hi' hb)⟩
theorem Save.setCell (h:Save lo hi w w1) {b o:Nat} (h1:lo≤b) (h2:b < hi) (v:Value):Save lo hi w (w1.setCell ⟨b,o,none⟩ v) :=
 ⟨h.os,h.tape,h.output,by rw [World.size_setCell];exact h.size,fun k hk hb=>(Only.setCell w1 b o v k (by omega)).trans (h.block k hk hb)⟩
theorem Save.to_ext {a:World} (h:Save lo hi w w') (e:Ext a w) (hl:a.heap.size≤lo):Ext a w':=⟨h.os.trans e.os,h.tape.trans e.tape,h.output.trans e.output,Nat.le_trans e.size h.size,fun k hk=>(h.block k (Nat.lt_of_lt_of_le hk e.size) (.inl (by omega))).trans (e.block k hk)⟩
theorem Save.obj (h:Save lo hi w w') {b:Nat} {o:Obj} (hb:w.heap[b]?=some o) (hr:b < lo∨hi≤b):w'.heap[b]?=some o:=(h.block b (Array.getElem?_eq_some_iff.1 hb).1 hr).trans hb
end
abbrev TR:TypeId:=109
abbrev rdCells (lv wv:Value) (at_:Nat):List Value:=[lv,.int .i64 (at_:Int),wv]
structure RdAt (w:World) (p:Nat) (lines:List ByteArray) (at_:Nat) (ws:List ByteArray) (lv:Value) (B:Nat) (wv:Value):Prop where
 obj:w.heap[p]?=some (.cells (rdCells lv wv at_).toArray TR (0,0))
 ls:SliceOf w 1 EStr lv lines
 wd:SliceOf w 1 EStr wv ws
 lp:∀ A n c,lv = .slice (some A) n c→A.block≠p
 wb:∀ A n c,wv = .slice (some A) n c→A.block=B
 bp:B≠p
def Rd (w:World) (p:Nat) (lines:List ByteArray) (at_:Nat) (ws:List ByteArray) (lv:Value) (B:Nat):Prop:=∃ wv,RdAt w p lines at_ ws lv B wv
section
variable {w w':World} {p at_ B:Nat} {lines ws:List ByteArray} {lv wv:Value}
theorem RdAt.wp (h:RdAt w p lines at_ ws lv B wv):∀ A n c,wv = .slice (some A) n c→A.block≠p:=fun A n c e=>by rw [h.wb A n c e];exact h.bp
theorem RdAt.ext (h:RdAt w p lines at_ ws lv B wv) (e:Ext w w'):RdAt w' p lines at_ ws lv B wv:=⟨e.obj h.obj,SliceOf.ext keptStr h.ls e,SliceOf.ext keptStr h.wd e,h.lp,h.wb,h.bp⟩
theorem Rd.ext (h:Rd w p lines at_ ws lv B) (e:Ext w w'):Rd w' p lines at_ ws lv B:=let ⟨wv,h⟩:=h; ⟨wv,h.ext e⟩
theorem RdAt.setW (h:RdAt w p lines at_ ws lv B wv) {u:Value} {us:List ByteArray} {B':Nat} (hu:SliceOf w 1 EStr u us) (hb:∀ A n c,u = .slice (some A) n c→A.block=B') (hB:B'≠p):RdAt (w.setCell ⟨p,2,none⟩ u) p lines at_ us lv B' u :=
 ⟨by simpa using heap_set (o:=2) h.obj u,h.ls.setOther u h.lp (fun _ _ h=>h),hu.setOther u (fun A n c e=>by rw [hb A n c e];exact hB) (fun _ _ h=>h),h.lp,hb,hB⟩
theorem RdAt.setAt (h:RdAt w p lines at_ ws lv B wv) (n:Nat):RdAt (w.setCell ⟨p,1,none⟩ (.int .i64 (n:Int))) p lines n ws lv B wv :=
 ⟨by simpa using heap_set (o:=1) h.obj (.int .i64 (n:Int)),h.ls.setOther _ h.lp (fun _ _ h=>h),h.wd.setOther _ h.wp (fun _ _ h=>h),h.lp,h.wb,h.bp⟩
theorem Rd.other (h:Rd w p lines at_ ws lv B) {q o:Nat} (v:Value) (hp:q≠p) (hB:q≠B) (hl:∀ A n c,lv = .slice (some A) n c→A.block≠q):Rd (w.setCell ⟨q,o,none⟩ v) p lines at_ ws lv B:=by
 obtain ⟨wv,h⟩:=h
 exact ⟨wv,by rw [Only.setCell w q o v p (Ne.symm hp)];exact h.obj,h.ls.setOther v hl (fun _ _ h=>h),h.wd.setOther v (fun A n c e=>by rw [h.wb A n c e];exact Ne.symm hB) (fun _ _ h=>h),h.lp,h.wb,h.bp⟩
theorem saveW (w:World) (p o:Nat) (v:Value):Save p (p+1) w (w.setCell ⟨p,o,none⟩ v):=(Save.refl p (p+1) w).setCell (Nat.le_refl _) (Nat.lt_succ_self _) v
end
abbrev wrongE (n:Int):List PanicEntry:=[{ v := .iface 133 (.int .i64 n),recovered:=false }]
def WrR (w0:World) (p:Nat) (lines:List ByteArray) (at_:Nat) (lv:Value) (B:Nat) (o:Option (Value×List ByteArray)):Ending→World→Prop:=fun e w'=>Save p (p+1) w0 w'∧((∃ v ws,o=some (v,ws)∧e = .returned v∧Rd w' p lines at_ ws lv B)∨(o=none∧e = .panicked (wrongE at_)))
section
variable {w w0 w':World} {p at_ B:Nat} {lines ws:List ByteArray} {lv wv:Value} {o:Option (Value×List ByteArray)}
theorem callK_wr {f:FuncId} {args:Array Value} {QP:List PanicEntry→World→Prop} {k:Value→World→Prop} (h:Calls Pg f args w (WrR w p lines at_ lv B o)) (hk:∀ v ws w',o=some (v,ws)→Rd w' p lines at_ ws lv B→Save p (p+1) w w'→k v w') (hp:∀ w',o=none→Save p (p+1) w w'→QP (wrongE at_) w'):callK Pg f args QP w k :=
 callK_calls h (fun v w' ⟨hs,h⟩=>by
  rcases h with ⟨v',ws,ho,he,hr⟩ | ⟨_,he⟩
  · injection he with he;subst he;exact hk _ _ _ ho hr hs
  · cases he) (fun ch w' ⟨hs,h⟩=>by
  rcases h with ⟨v',ws,ho,he,hr⟩ | ⟨ho,he⟩
  · cases he
  · injection he with he;subst he;exact hp _ ho hs) (fun w' ⟨_,h⟩=>by
  rcases h with ⟨_,_,_,he,_⟩ | ⟨_,he⟩<;>cases he)
theorem wr_ret {v:Value} (hs:Save p (p+1) w0 w) (ho:o=some (v,ws)) (h:Rd w p lines at_ ws lv B):WrR w0 p lines at_ lv B o (.returned v) w:=⟨hs,.inl ⟨v,ws,ho,rfl,h⟩⟩
theorem wr_pan (hs:Save p (p+1) w0 w) (ho:o=none):panK (WrR w0 p lines at_ lv B o) (wrongE at_) w:=⟨hs,.inr ⟨ho,rfl⟩⟩
theorem must_wr (h:Rd w p lines at_ ws lv B) (b:Bool):Calls Pg 66 #[.pointer (some ⟨p,0,none⟩),.bool b] w (WrR w p lines at_ lv B (if b then some (.tuple #[],ws) else none)):=by
 obtain ⟨wv,h⟩:=h
 refine n38s ?_;unfold n38
 cases b with
 | true =>
  simp (disch:=try exact DI) only [↓PR,QR,simprocAttr]
  exact wr_ret (Save.refl _ _ _) rfl ⟨wv,h⟩
 | false =>
  simp (disch:=try exact DI) only [↓PR,QR,simprocAttr,↓n38c1,(cells_of_heap h.obj).1]
  rw [op_panic]
  exact wr_pan (Save.refl _ _ _) rfl
def tailV (b o len cap:Nat):Value := .slice (some ⟨b,if cap=1 then o else o+1,none⟩) (len - 1) (cap - 1)
theorem op_tailV {QP:List PanicEntry→World→Prop} {k:Value→World→Prop} (b o len cap:Nat) (hl:0 < len) (hc:len≤cap):opV Pg (Instr.sliceAt 73 (.slice (some ⟨b,o,none⟩) len cap) (some (.int .i64 1)) none none) QP w k=k (tailV b o len cap) w:=by
 have h1:(1:Int)≤(len:Int):=by omega
 have h2:(len:Int)≤(cap:Int):=by omega
 refine opV_ok ?_
 unfold tailV
 by_cases hc1:cap=1
 · simp [Instr.sliceAt,run_underlying Tryz.underlying73,Instr.slice,Instr.sliceBounds,run_sliceBound,h1,h2,hc1,Sw.run_sizeOf ty9,Addr.add_lit]
 · simp [Instr.sliceAt,run_underlying Tryz.underlying73,Instr.slice,Instr.sliceBounds,run_sliceBound,h1,h2,hc1,Sw.run_sizeOf ty9,Addr.add_lit]
theorem tail_of {b o cap:Nat} {x:ByteArray} {l:List ByteArray} {len:Nat} (hn:len=l.length+1) (h:SliceOf w 1 EStr (.slice (some ⟨b,o,none⟩) len cap) (x::l)):SliceOf w 1 EStr (tailV b o len cap) l∧w.cell? ⟨b,o,none⟩=some (.string x):=by
 subst hn
 obtain ⟨A,c,hv,h1,h2,h3⟩:=h
 injection hv with hv1 _ hv2
 subst hv1 hv2
 obtain ⟨b',o',hA,hel⟩:=h3 (by simp)
 injection hA with hA
 injection hA with hb ho
 subst hb ho
 rw [List.length_cons] at h1
 refine ⟨⟨_,_,rfl,by omega,by omega,fun hne=>?_⟩,?_⟩
 · have hl:0 < l.length:=List.length_pos_iff.2 hne
   refine ⟨b,o+1,by rw [if_neg (by omega)],fun k y hy=>?_⟩
   obtain ⟨cs,a1,a2,a3⟩:=hel (k+1) y (by simpa using hy)
   exact ⟨cs,a1,by rw [show o+1+k*1=o+(k+1)*1 by omega];exact a2,a3⟩
 · obtain ⟨cs,a1,a2,rfl⟩:=hel 0 x rfl
   simpa using a2 0 _ rfl
def popW:List ByteArray→Option (Value×List ByteArray)
 | x::l=>some (.string x,l)
 | []=>none
theorem word_wr (h:Rd w p lines at_ ws lv B):Calls Pg 69 #[.pointer (some ⟨p,0,none⟩)] w (WrR w p lines at_ lv B (popW ws)):=by
 obtain ⟨wv,h⟩:=h
 have ho:=SliceOf.oneCell h.wd
 have ho2:=SliceOf.oneCell h.ls
 obtain ⟨A,c,hwv,hlc,hcm,_⟩:=SliceOf.open h.wd
 subst hwv
 refine n46s ?_;unfold n46
 cases ws with
 | nil =>
  have d1:decide (((([]:List ByteArray).length:Nat):Int) > 0)=false:=by simp
  simp (disch:=try exact DI) only [↓PR,QR,simprocAttr,(cells_of_heap h.obj).1,d1]
  refine callK_wr (must_wr ⟨_,h⟩ false) (fun v ws w' ho=>by simp at ho) fun w' _ hs=>wr_pan hs rfl
 | cons x l =>
  have d1:decide ((((x::l).length:Nat):Int) > 0)=true:=decide_eq_true (by rw [List.length_cons];omega)
  simp (disch:=try exact DI) only [↓PR,QR,simprocAttr,(cells_of_heap h.obj).1,d1]
  refine callK_wr (must_wr ⟨_,h⟩ true) (fun v ws w' ho hr hs=>?_) fun w' ho=>by simp at ho
  simp only [if_true,Option.some.injEq,Prod.mk.injEq] at ho
  obtain ⟨rfl,rfl⟩:=ho
  obtain ⟨wv,h⟩:=hr
  refine drawK_intro ?_
  have eD:Ext w' (Sw.drew w'):=(Ext.refl w').drew
  have hs:=hs.ext eD
  have h:=h.ext eD
  generalize (Sw.drew w')=D at hs h ⊢
  clear eD
  obtain ⟨A,c,hwv,hlc,hcm,_,hel⟩:=SliceOf.open h.wd
  subst hwv
  obtain ⟨b,o,cs,rfl,_⟩:=hel 0 x rfl
  obtain ⟨hT,hx⟩:=tail_of List.length_cons h.wd
  have hpb:b=B:=h.wb _ _ _ rfl
  have hTb:∀ A n c',tailV b o (x::l).length c = .slice (some A) n c'→A.block=B:=fun A n c' hv=>by
   unfold tailV at hv
   injection hv with hv _ _
   injection hv with hv
   subst hv;exact hpb
  have ho3:=SliceOf.oneCell h.ls
  have hq:∀ K:Value→Prop,qV Pg (EC D) (Instr.sliceAt 73 (.slice (some ⟨b,o,none⟩) (x::l).length c) (some (.int .i64 1)) none none) K=K (tailV b o (x::l).length c):=fun K=>qV_of fun QP w k=>op_tailV b o _ c (by simp) hlc
  have d0:(0:Int) < ((x::l).length:Int):=by rw [List.length_cons];omega
  have hx0:∀ K:Value→Prop,qV Pg (EC D) (Instr.indexAt 73 (.slice (some ⟨b,o,none⟩) (x::l).length c) (.int .i64 0)) K=K (.pointer (some ⟨b,o,none⟩)):=fun K=>qV_eqC fun w' _=>run_of_op fun QP kk=>(op_indexN Tryz.underlying73 ty9 b o _ c .i64 0 (by simp)).trans (by rw [Nat.zero_mul,Nat.add_zero])
  have hto:(tailV b o (x::l).length c).oneCell'=true:=rfl
  unfold n46c1
  simp (disch:=try exact DI) only [↓PR,QR,simprocAttr,(cells_of_heap h.obj).1,hq,hx0,hx,(cells_of_heap h.obj).2]
  refine turnK_intro ?_
  exact wr_ret (hs.trans (saveW _ _ _ _)) rfl ⟨_,h.setW hT hTb h.bp⟩
def popN:List ByteArray→Option (Value×List ByteArray)
 | x::l=>if nameB x then some (.string x,l) else none
 | []=>none
theorem name_wr (h:Rd w p lines at_ ws lv B):Calls Pg 67 #[.pointer (some ⟨p,0,none⟩)] w (WrR w p lines at_ lv B (popN ws)):=by
 refine n39s ?_;unfold n39
 refine callK_wr (word_wr h) (fun v us w1 ho hr hs=>?_) fun w1 ho hs=>?_
 · cases ws with
   | nil=>cases ho
   | cons x l =>
    injection ho with ho
    injection ho with h1 h2
    subst h1 h2
    refine zcr (Name_ret w1 x) fun w2 e2=>?_
    refine callK_wr (must_wr (hr.ext e2) (nameB x)) (fun v us w3 ho hr2 hs3=>?_) fun w3 ho hs3=>?_
    · cases hn:nameB x with
      | false=>rw [hn] at ho;cases ho
      | true =>
       rw [hn] at ho
       injection ho with ho
       injection ho with _ h2
       subst h2
       exact wr_ret ((hs.ext e2).trans hs3) (by show (if nameB x=true then some (Value.string x,l) else none)=_;rw [hn];rfl) hr2
    · cases hn:nameB x with
      | true=>rw [hn] at ho;cases ho
      | false=>exact wr_pan ((hs.ext e2).trans hs3) (by show (if nameB x=true then some (Value.string x,l) else none)=_;rw [hn];rfl)
 · cases ws with
   | nil=>exact wr_pan hs rfl
   | cons x l=>cases ho
theorem end_wr (h:Rd w p lines at_ ws lv B):Calls Pg 71 #[.pointer (some ⟨p,0,none⟩)] w (WrR w p lines at_ lv B (if ws=[] then some (.tuple #[],[]) else none)):=by
 obtain ⟨wv,h⟩:=h
 have ho:=SliceOf.oneCell h.wd
 have ho2:=SliceOf.oneCell h.ls
 obtain ⟨A,c,hwv,hlc,hcm,_⟩:=SliceOf.open h.wd
 subst hwv
 refine n37s ?_;unfold n37
 have d1:(((ws.length:Nat):Int) == 0)=decide (ws=[]):=by
  cases ws with
  | nil=>rfl
  | cons x l=>simp;omega
 simp (disch:=try exact DI) only [↓PR,QR,simprocAttr,(cells_of_heap h.obj).1,d1]
 refine callK_wr (must_wr ⟨_,h⟩ (decide (ws=[]))) (fun v us w3 ho hr2 hs3=>?_) fun w3 ho hs3=>?_
 · by_cases hw:ws=[]
   · rw [decide_eq_true hw] at ho
     injection ho with ho
     injection ho with _ h2
     subst h2
     subst hw
     exact wr_ret hs3 rfl hr2
   · rw [decide_eq_false hw] at ho;cases ho
 · by_cases hw:ws=[]
   · rw [decide_eq_true hw] at ho;cases ho
   · exact wr_pan hs3 (if_neg hw)
def skipB (s:ByteArray):List ByteArray→Bool
 | x::_=>decide (x=s)
 | []=>false
theorem skip_ret (h:Rd w p lines at_ ws lv B) (s:ByteArray):Ret Pg 107 #[.pointer (some ⟨p,0,none⟩),.string s] w fun r w'=>r = .bool (skipB s ws)∧Rd w' p lines at_ (if skipB s ws then ws.tail else ws) lv B∧Save p (p+1) w w':=by
 obtain ⟨wv,h⟩:=h
 have ho:=SliceOf.oneCell h.wd
 have ho2:=SliceOf.oneCell h.ls
 have h0:=h
 obtain ⟨A,c,hwv,hlc,hcm,_,hel⟩:=SliceOf.open h.wd
 subst hwv
 refine n43s (R:=retR _) ?_;unfold n43
 cases ws with
 | nil =>
  have d1:(((([]:List ByteArray).length:Nat):Int) == 0)=true:=rfl
  simp (disch:=try exact DI) only [↓PR,QR,simprocAttr,(cells_of_heap h.obj).1,d1]
  exact ⟨by trivial,⟨_,h0⟩,Save.refl _ _ _⟩
 | cons x l =>
  have d1:((((x::l).length:Nat):Int) == 0)=false:=by simp;omega
  obtain ⟨b,o,cs,rfl,_⟩:=hel 0 x rfl
  obtain ⟨hT,hx⟩:=tail_of List.length_cons h.wd
  have hpb:b=B:=h.wb _ _ _ rfl
  have hTb:∀ A n c',tailV b o (x::l).length c = .slice (some A) n c'→A.block=B:=fun A n c' hv=>by
   unfold tailV at hv
   injection hv with hv _ _
   injection hv with hv
   subst hv;exact hpb
  have hto:(tailV b o (x::l).length c).oneCell'=true:=rfl
  have hx0:∀ (QP:List PanicEntry→World→Prop) (K:Value→World→Prop),opV Pg (Instr.indexAt 73 (.slice (some ⟨b,o,none⟩) (x::l).length c) (.int .i64 0)) QP w K=K (.pointer (some ⟨b,o,none⟩)) w:=fun QP K=>(op_indexN Tryz.underlying73 ty9 b o _ c .i64 0 (by simp)).trans (by rw [Nat.zero_mul,Nat.add_zero])
  have hq:∀ (QP:List PanicEntry→World→Prop) (K:Value→World→Prop),opV Pg (Instr.sliceAt 73 (.slice (some ⟨b,o,none⟩) (x::l).length c) (some (.int .i64 1)) none none) QP w K=K (tailV b o (x::l).length c) w:=fun QP K=>op_tailV b o _ c (by simp) hlc
  by_cases hxs:x=s
  · have d2:decide (x=s)=true:=decide_eq_true hxs
    simp (disch:=try exact DI) only [↓PR,QR,simprocAttr,(cells_of_heap h.obj).1,d1,hx0,hx,d2,↓n43c1,hq,(cells_of_heap h.obj).2]
    have hsk:skipB s (x::l)=true:=d2
    rw [hsk,if_pos rfl]
    refine ⟨rfl,?_,saveW _ _ _ _⟩
    exact ⟨_,h.setW hT hTb h.bp⟩
  · have d2:decide (x=s)=false:=decide_eq_false hxs
    simp (disch:=try exact DI) only [↓PR,QR,simprocAttr,(cells_of_heap h.obj).1,d1,hx0,hx,d2]
    have hsk:skipB s (x::l)=false:=d2
    rw [hsk]
    refine ⟨rfl,?_,Save.refl _ _ _⟩
    exact ⟨_,h0⟩
end
structure EnvOK (w:World):Prop where
 tab:TabOK w
 len:∃ m,w.cell? ⟨0,0,none⟩=some (.int .i64 m)
 syn:∃ ev,w.cell? ⟨1,0,none⟩=some ev∧(ev = .nilIface∨∃ te pe,ev = .iface te pe)
 rng:∃ ev,w.cell? ⟨2,0,none⟩=some ev∧(ev = .nilIface∨∃ te pe,ev = .iface te pe)
theorem EnvOK.ext {w w':World} (h:EnvOK w) (e:Ext w w'):EnvOK w':=⟨h.tab.ext e,h.len.imp fun _ h=>e.cell h,h.syn.imp fun _ h=>⟨e.cell h.1,h.2⟩,h.rng.imp fun _ h=>⟨e.cell h.1,h.2⟩⟩
theorem Save.setNew {lo hi:Nat} {w w1:World} (h:Save lo hi w w1) {b o:Nat} (h1:w.heap.size≤b) (v:Value):Save lo hi w (w1.setCell ⟨b,o,none⟩ v) :=
 ⟨h.os,h.tape,h.output,by rw [World.size_setCell];exact h.size,fun k hk hb=>(Only.setCell w1 b o v k (by omega)).trans (h.block k hk hb)⟩
theorem Atoi_ret {w:World} (hE:EnvOK w) (s:ByteArray) (hs:s.size≤100000):Ret Pg 97 #[.string s] w fun r w'=>Ext w w'∧∃ n e,r = .tuple #[.int .i64 n,e]∧((Go.Lib.atoiAll s.data.toList = .ok n∧e = .nilIface)∨((∀ v,Go.Lib.atoiAll s.data.toList ≠ .ok v)∧∃ t x,e = .iface t x)):=by
 match h:Go.Lib.atoiAll s.data.toList with
 | .ok v =>
  refine Calls.mono (sh_strconv_Atoi_ok s (by omega) v h w) ?_
  rintro e w' ⟨rfl,rfl | ⟨t,rfl⟩⟩
  · exact ⟨_,rfl,Ext.refl _,_,_,rfl,.inl ⟨rfl,rfl⟩⟩
  · exact ⟨_,rfl,Ext.of_below (Go.Lib.bytesWorld_below w 5 t),_,_,rfl,.inl ⟨rfl,rfl⟩⟩
 | Go.Lib.NumEnd.syntax =>
  obtain ⟨ev,h1,h2⟩:=hE.syn
  refine Calls.mono (sh_strconv_Atoi_syntax s (by omega) h ev w h1 h2) ?_
  rintro e w' ⟨N,rfl,_,_,hb⟩
  exact ⟨_,rfl,Ext.of_below hb,_,_,rfl,.inr ⟨fun v hv=>(by cases hv),_,_,rfl⟩⟩
 | Go.Lib.NumEnd.range =>
  obtain ⟨ev,h1,h2⟩:=hE.rng
  refine Calls.mono (sh_strconv_Atoi_range s (by omega) h ev w h1 h2) ?_
  rintro e w' ⟨N,rfl,_,_,hb⟩
  exact ⟨_,rfl,Ext.of_below hb,_,_,rfl,.inr ⟨fun v hv=>(by cases hv),_,_,rfl⟩⟩
def numB (s:ByteArray):Option Int :=
 match Go.Lib.atoiAll s.data.toList with
 | .ok n=>if decB n=s∧(Go.Lib.trimPrefix s.data.toList [45]).length≤10 then some n else none
 | _=>none
theorem numB_ok {s:ByteArray} {n:Int} (h:Go.Lib.atoiAll s.data.toList = .ok n):numB s=if decB n=s∧(Go.Lib.trimPrefix s.data.toList [45]).length≤10 then some n else none:=by
 unfold numB
 rw [h]
theorem numB_no {s:ByteArray} (h:∀ v,Go.Lib.atoiAll s.data.toList ≠ .ok v):numB s=none:=by
 unfold numB
 match hs:Go.Lib.atoiAll s.data.toList with
 | .ok v=>exact absurd hs (h v)
 | Go.Lib.NumEnd.syntax=>rfl
 | Go.Lib.NumEnd.range=>rfl
def numP:List ByteArray→Option (Int×List ByteArray)
 | x::l=>(numB x).map fun n=>(n,l)
 | []=>none
theorem numP_cons (x:ByteArray) (l:List ByteArray):numP (x::l)=(numB x).map fun n=>(n,l):=rfl
abbrev numV (q:Int×List ByteArray):Value×List ByteArray:=(.int .i64 q.1,q.2)
section
variable {WB w w0 w':World} {p at_ B:Nat} {lines ws:List ByteArray} {lv wv:Value}
theorem pop_some {v:Value} {us:List ByteArray} (ho:popW ws=some (v,us)):∃ x,v = .string x∧ws=x::us:=by
 cases ws with
 | nil=>cases ho
 | cons x l =>
  injection ho with ho
  injection ho with h1 h2
  subst h1 h2
  exact ⟨_,rfl,rfl⟩
theorem pop_none (ho:popW ws=none):ws=[]:=by
 cases ws with
 | nil=>rfl
 | cons x l=>cases ho
theorem callK_must {w0:World} {b:Bool} {us:List ByteArray} {o:Option (Value×List ByteArray)} {k:Value→World→Prop} (hr:Rd w p lines at_ us lv B) (hs:Save p (p+1) w0 w) (hn:b=false→o=none)
 (hk:∀ w',b=true→Rd w' p lines at_ us lv B→Save p (p+1) w0 w'→k (.tuple #[]) w'):callK Pg 66 #[.pointer (some ⟨p,0,none⟩),.bool b] (panK (WrR w0 p lines at_ lv B o)) w k:=by
 refine callK_wr (must_wr hr b) (fun v us' w4 ho hr4 hs4=>?_) fun w4 ho hs4=>?_
 · cases b with
   | false=>cases ho
   | true =>
    injection ho with ho
    injection ho with h1 h2
    subst h1 h2
    exact hk w4 rfl hr4 (hs.trans hs4)
 · cases b with
   | true=>cases ho
   | false=>exact wr_pan (hs.trans hs4) (hn rfl)
theorem number_wr (hE:EnvOK WB) (eB:Ext WB w) (hp:WB.heap.size≤p) (hz:∀ x∈ws,x.size≤100000) (h:Rd w p lines at_ ws lv B):Calls Pg 70 #[.pointer (some ⟨p,0,none⟩)] w (WrR w p lines at_ lv B ((numP ws).map numV)):=by
 refine n41s ?_;unfold n41
 refine callK_wr (word_wr h) (fun v us w1 ho hr hs=>?_) fun w1 ho hs=>wr_pan hs (by rw [pop_none ho];rfl)
 obtain ⟨x,rfl,rfl⟩:=pop_some ho
 clear ho
 have e1:Ext WB w1:=hs.to_ext eB hp
 refine callK_ret (Atoi_ret (hE.ext e1) x (hz x (List.mem_cons_self ..))) ?_
 rintro _ w2 ⟨e2,n,e,rfl,hc⟩
 have hs2:=hs.ext e2
 have hr2:=hr.ext e2
 have e12:=e1.trans e2
 have fin:∀ (w3:World) (b:Bool),Rd w3 p lines at_ us lv B→Save p (p+1) w w3→numP (x::us)=(if b then some (n,us) else none)→callK Pg 66 #[.pointer (some ⟨p,0,none⟩),.bool b] (panK (WrR w p lines at_ lv B ((numP (x::us)).map numV))) w3 fun _ w'=>WrR w p lines at_ lv B ((numP (x::us)).map numV) (.returned (.int .i64 n)) w':=by
  intro w3 b hr3 hs3 hn
  refine callK_must hr3 hs3 (fun hb=>by rw [hn,hb];rfl) fun w4 hb hr4 hs4=>?_
  exact wr_ret hs4 (by rw [hn,hb];rfl) hr4
 rcases hc with ⟨ha,rfl⟩ | ⟨ha,t,xv,rfl⟩
 · have hb:=Go.Lib.atoiAll_bounds ha
   simp (disch:=try exact DI) only [↓PR,QR,simprocAttr,↓n41c2]
   refine zcr (Itoa_ret (hE.ext e12).tab n hb.1 hb.2) fun w3 e3=>?_
   have hs3:=hs2.ext e3
   have hr3:=hr2.ext e3
   by_cases hd:decB n=x
   · have d1:decide (decB n=x)=true:=decide_eq_true hd
     simp (disch:=try exact DI) only [↓PR,QR,simprocAttr,d1,↓n41c1]
     refine callK_ret (Φ:=fun r w'=>r = .string ⟨(Go.Lib.trimPrefix x.data.toList [45]).toArray⟩∧w'=w3) (Calls.mono (sh_strings_TrimPrefix x ⟨#[45]⟩ w3) ?_) ?_
     · rintro e w' ⟨rfl,rfl⟩;exact ⟨_,rfl,rfl,rfl⟩
     rintro _ w4 ⟨rfl,rfl⟩
     have hl:(ByteArray.mk (Go.Lib.trimPrefix x.data.toList [45]).toArray).size=(Go.Lib.trimPrefix x.data.toList [45]).length:=by simp [ByteArray.size]
     simp (disch:=try exact DI) only [↓PR,QR,simprocAttr,hl,d1]
     refine fin _ _ hr3 hs3 ?_
     rw [numP_cons,numB_ok ha]
     by_cases h10:(Go.Lib.trimPrefix x.data.toList [45]).length≤10
     · rw [decide_eq_true (by omega)]
       simp [hd,h10]
     · rw [decide_eq_false (by omega)]
       simp [hd,h10]
   · have d1:decide (decB n=x)=false:=decide_eq_false hd
     simp (disch:=try exact DI) only [↓PR,QR,simprocAttr,d1,↓n41c1]
     refine fin _ _ hr3 hs3 ?_
     rw [numP_cons,numB_ok ha]
     simp [hd]
 · simp (disch:=try exact DI) only [↓PR,QR,simprocAttr,↓n41c2,↓n41c1]
   refine fin _ _ hr2 hs2 ?_
   rw [numP_cons,numB_no ha]
   rfl
def spW (s:ByteArray):List ByteArray:=Go.Lib.splitB ⟨#[32]⟩ 0 (Go.Lib.countB s ⟨#[32]⟩) s
theorem split_sub {sep:ByteArray} {sv:Nat}:∀ {k:Nat} {s y:ByteArray},y∈Go.Lib.splitB sep sv k s→y.size≤s.size
 | 0,s,y,h=>by simp [Go.Lib.splitB] at h;subst h;exact Nat.le_refl _
 | k+1,s,y,h=>by
  unfold Go.Lib.splitB at h
  split at h
  · simp at h;subst h;exact Nat.le_refl _
  · rcases List.mem_cons.1 h with h | h
    · subst h;rw [ByteArray.size_extract];omega
    · refine Nat.le_trans (split_sub h) ?_
      rw [ByteArray.size_extract];omega
theorem spW_len (s:ByteArray):(spW s).length=Go.Lib.countB s ⟨#[32]⟩+1:=Go.Lib.splitB_all ⟨#[32]⟩ (by decide) 0 _ s rfl
theorem strs_of {w:World} {b n c:Nat} {l:List ByteArray} (hn:n=l.length) (h1:l.length≤c) (h2:c≤9223372036854775807) (hc:∀ k x,l[k]?=some x→w.cell? ⟨b,k,none⟩=some (.string x)):SliceOf w 1 EStr (.slice (some ⟨b,0,none⟩) n c) l:=by
 subst hn
 refine ⟨_,_,rfl,h1,h2,fun _=>⟨_,_,rfl,fun k x hx=>⟨[.string x],rfl,fun j v hv=>?_,rfl⟩⟩⟩
 cases j with
 | zero=>injection hv with hv;subst hv;simpa using hc k x hx
 | succ j=>cases hv
theorem Split_ret {w:World} (hE:EnvOK w) (s:ByteArray) (c:UInt8) (hs:s.size≤100000):Ret Pg 89 #[.string s,.string ⟨#[c]⟩] w fun r w'=>Ext w w'∧∃ n,r = .slice (some ⟨w.heap.size,0,none⟩) n n∧SliceOf w' 1 EStr r (Go.Lib.splitB ⟨#[c]⟩ 0 (Go.Lib.countB s ⟨#[c]⟩) s):=by
 obtain ⟨m,hm⟩:=hE.len
 have hl:=Go.Lib.splitB_all ⟨#[c]⟩ (Nat.le_refl _) 0 _ s rfl
 have hle:=Go.Lib.countB_le ⟨#[c]⟩ (Nat.le_refl _) s.size s (Nat.le_refl _)
 refine Calls.mono (sh_strings_Split s ⟨#[c]⟩ m w (by omega) hm (Nat.le_refl _)) ?_
 rintro e w' ⟨rfl,rfl⟩
 refine ⟨_,rfl,(Ext.refl w).alloc _,_,rfl,?_⟩
 refine strs_of hl.symm (by omega) (by omega) fun k x hx=>?_
 generalize Go.Lib.splitB ⟨#[c]⟩ 0 (Go.Lib.countB s ⟨#[c]⟩) s=L at hx ⊢
 rw [cell_new,List.getElem?_toArray,List.getElem?_map,hx]
 rfl
theorem next_ret (hE:EnvOK WB) (eB:Ext WB w) (hp:WB.heap.size≤p) (hz:∀ x∈lines,x.size≤100000) (ha:at_≤lines.length) (hn:lines.length≤100000) (h:Rd w p lines at_ ws lv B) (s:ByteArray) :
 Ret Pg 65 #[.pointer (some ⟨p,0,none⟩),.string s] w fun r w'=>Save p (p+1) w w'∧((∃ x l B',lines[at_]?=some x∧spW x=s::l∧r = .bool true∧(w.heap.size≤B'∧B' < w'.heap.size)∧Rd w' p lines (at_+1) l lv B')∨((∀ x l,lines[at_]?=some x→spW x≠s::l)∧r = .bool false∧Rd w' p lines at_ ws lv B)):=by
 obtain ⟨wv,h⟩:=h
 have ho:=SliceOf.oneCell h.wd
 have ho2:=SliceOf.oneCell h.ls
 refine n40s (R:=retR _) ?_;unfold n40
 refine drawK_intro ?_
 have hp1:p < w.heap.size:=(Array.getElem?_eq_some_iff.1 h.obj).1
 have e0:Ext w (Sw.drew w):=(Ext.refl w).drew
 have h:=h.ext e0
 generalize Sw.drew w=w1 at e0 h ⊢
 obtain ⟨A,c,rfl,hlc,hcm,_,hel⟩:=SliceOf.open h.ls
 unfold n40c6
 by_cases hlt:at_ < lines.length
 · have d1:(((at_:Nat):Int) == ((lines.length:Nat):Int))=false:=by simp;omega
   obtain ⟨x,hx⟩:∃ x,lines[at_]?=some x:=⟨_,List.getElem?_eq_getElem hlt⟩
   have hxm:x∈lines:=List.mem_of_getElem? hx
   obtain ⟨b,o,_,rfl,_⟩:=hel at_ x hx
   generalize hlv:Value.slice (some ⟨b,o,none⟩) lines.length c=lv at h ho2
   simp (disch:=try exact DI) only [↓PR,QR,simprocAttr,(cells_of_heap h.obj).1,(cells_of_heap h.obj).2,d1,← hlv]
   try rw [hlv]
   refine drawK_intro ?_
   have e1:Ext w1 (Sw.drew w1):=(Ext.refl w1).drew
   have h:=h.ext e1
   have e01:=e0.trans e1
   generalize Sw.drew w1=w2 at e01 h ⊢
   clear e1
   obtain ⟨A,c',hlv',_,_,_,hel⟩:=SliceOf.open h.ls
   rw [← hlv] at hlv'
   injection hlv' with hlv1 _ hlv2
   subst hlv1 hlv2
   obtain ⟨b',o',cs,hA,hb,hC,rfl⟩:=hel at_ x hx
   injection hA with hA
   injection hA with hA1 hA2
   subst hA1 hA2
   have hxc:w2.cell? ⟨b,o+at_*1,none⟩=some (.string x):=hC 0 _ rfl
   unfold n40c5
   simp (disch:=try exact DI) only [↓PR,QR,simprocAttr,(cells_of_heap h.obj).1,(cells_of_heap h.obj).2,hxc,← hlv]
   refine callK_ret (Split_ret (hE.ext (eB.trans e01)) x 32 (hz x hxm)) ?_
   rintro _ w3 ⟨e3,n,rfl,hsl⟩
   refine ⟨e3,?_⟩
   have h:=h.ext e3
   have e03:=e01.trans e3
   obtain ⟨y,l,hyl⟩:∃ y l,spW x=y::l:=by
    cases hq:spW x with
    | nil=>have:=spW_len x;rw [hq] at this;simp at this
    | cons y l=>exact ⟨_,_,rfl⟩
   have hsl:SliceOf w3 1 EStr (.slice (some ⟨w2.heap.size,0,none⟩) n n) (y::l):=by rw [← hyl];exact hsl
   have hnl:n=l.length+1:=by
    obtain ⟨A,c',hv,_⟩:=SliceOf.open hsl
    injection hv
   obtain ⟨hT,hy⟩:=tail_of hnl hsl
   generalize hN:w2.heap.size=N at hsl hT hy
   have hNp:N≠p:=by have:=e01.size;omega
   have hN3:N < w3.heap.size:=World.block_lt_of_cell? w3 _ hy
   unfold n40c4
   have hx0:∀ (QP:List PanicEntry→World→Prop) (K:Value→World→Prop),opV Pg (Instr.indexAt 73 (.slice (some ⟨N,0,none⟩) n n) (.int .i64 0)) QP w3 K=K (.pointer (some ⟨N,0,none⟩)) w3:=fun QP K=>(op_indexN Tryz.underlying73 ty9 N 0 n n .i64 0 (by omega)).trans (by rw [Nat.zero_mul,Nat.add_zero])
   by_cases hys:y=s
   · have d2:decide (y=s)=true:=decide_eq_true hys
     simp (disch:=try exact DI) only [↓PR,QR,simprocAttr,hx0,hy,d2]
     refine drawK_introB p p (w1:=w3) (fun _ _ _ _=>rfl) ?_
     have e4:Ext w3 (Sw.drew w3):=(Ext.refl w3).drew
     have h:=h.ext e4
     have hT:=SliceOf.ext keptStr hT e4
     have e04:=e03.trans e4
     have hK:KB w3 p p (Sw.drew w3):=fun _ _ _ _=>rfl
     have hN4:=Nat.lt_of_lt_of_le hN3 e4.size
     generalize Sw.drew w3=w4 at e04 h hT hK hN4 ⊢
     clear e4
     unfold n40c3
     have hq:∀ K:Value→Prop,qV Pg (KB w3 p p) (Instr.sliceAt 73 (.slice (some ⟨N,0,none⟩) n n) (some (.int .i64 1)) none none) K=K (tailV N 0 n n):=fun K=>qV_of fun QP w k=>op_tailV N 0 n n (by omega) (Nat.le_refl _)
     have hw:IntKind.i64.wrap ((at_:Int)+1)=((at_+1:Nat):Int):=by rw [wrap_ok (by omega) (by omega)];omega
     have hto:(tailV N 0 n n).oneCell'=true:=rfl
     simp (disch:=try exact DI) only [↓PR,QR,simprocAttr,hq,(cells_of_heap h.obj).1,(cells_of_heap h.obj).2,↓n40c2,hw]
     have h:=h.setAt (at_+1)
     have hK2:KB w3 p p (w4.setCell ⟨p,1,none⟩ (.int .i64 ((at_+1:Nat):Int))):=fun b hb h1 h2=>(Only.setCell w4 p 1 _ b h1).trans (hK b hb h1 h2)
     have hs5:Save p (p+1) w (w4.setCell ⟨p,1,none⟩ (.int .i64 ((at_+1:Nat):Int))):=(Save.of_ext e04).setCell (Nat.le_refl _) (Nat.lt_succ_self _) _
     have hT:SliceOf (w4.setCell ⟨p,1,none⟩ (.int .i64 ((at_+1:Nat):Int))) 1 EStr (tailV N 0 n n) l:=hT.setOther _ (fun A n' c' e=>by
      unfold tailV at e
      injection e with e _ _
      injection e with e
      subst e;exact hNp) (fun _ _ h=>h)
     refine ⟨hK,hK2,?_⟩
     have hN5:N < (w4.setCell ⟨p,1,none⟩ (.int .i64 ((at_+1:Nat):Int))).heap.size:=by rw [World.size_setCell];exact hN4
     generalize w4.setCell ⟨p,1,none⟩ (.int .i64 ((at_+1:Nat):Int))=w5 at h hK2 hs5 hT hN5 ⊢
     have ho:=SliceOf.oneCell h.wd
     unfold n40c1
     simp (disch:=try exact DI) only [↓PR,QR,simprocAttr,(cells_of_heap h.obj).1,(cells_of_heap h.obj).2]
     refine turnK_intro ?_
     refine ⟨_,rfl,hs5.setCell (Nat.le_refl _) (Nat.lt_succ_self _) _,.inl ⟨x,l,N,hx,by rw [hyl,hys],by trivial,⟨?_,by rw [World.size_setCell];exact hN5⟩,_,h.setW hT (fun A n' c' e=>?_) hNp⟩⟩
     · have:=e01.size;omega
     · unfold tailV at e
       injection e with e _ _
       injection e with e
       subst e;rfl
   · have d2:decide (y=s)=false:=decide_eq_false hys
     simp (disch:=try exact DI) only [↓PR,QR,simprocAttr,hx0,hy,d2]
     refine ⟨Save.of_ext e03,.inr ⟨fun x' l' hx' hl'=>?_,by trivial,wv,h⟩⟩
     rw [hx] at hx'
     injection hx' with hx'
     subst hx'
     rw [hyl] at hl'
     injection hl' with h1 _
     exact hys h1
 · have d1:(((at_:Nat):Int) == ((lines.length:Nat):Int))=true:=by simp;omega
   generalize hlv:Value.slice A lines.length c=lv at h ho2
   simp (disch:=try exact DI) only [↓PR,QR,simprocAttr,(cells_of_heap h.obj).1,(cells_of_heap h.obj).2,d1,← hlv]
   try rw [hlv]
   exact ⟨Save.of_ext e0,.inr ⟨fun x l hx=>absurd (List.getElem?_eq_some_iff.1 hx).1 hlt,by trivial,wv,h⟩⟩
end
def digN (c:UInt8):Bool:=decide (48≤c.toNat)&&decide (c.toNat≤57)
def stepN (n:Nat) (c:UInt8):Nat:=n*10+(c.toNat - 48)
def valL (l:List UInt8):Nat:=l.foldl stepN 0
theorem valL_snoc (l:List UInt8) (c:UInt8):valL (l++[c])=valL l*10+(c.toNat - 48):=by simp [valL,stepN]
theorem digN_iff {c:UInt8}:digN c=true↔48≤c.toNat∧c.toNat≤57:=by simp [digN]
theorem all_snoc {l:List UInt8} {c:UInt8}:(l++[c]).all digN=true↔l.all digN=true∧digN c=true:=by simp
theorem valL_lt (l:List UInt8):l.all digN=true→valL l < 10 ^ l.length:=by
 induction l using snoc_induct with
 | h0=>intro _;decide
 | h1 l c ih =>
  intro h
  obtain ⟨h1,h2⟩:=all_snoc.1 h
  have h2:=digN_iff.1 h2
  have:=ih h1
  rw [valL_snoc,List.length_append,List.length_singleton,Nat.pow_succ]
  omega
theorem head_snoc {l:List UInt8} (h:l≠[]) (c:UInt8):(l++[c]).head?=l.head?:=by
 cases l with
 | nil=>exact absurd rfl h
 | cons a l=>rfl
theorem valL_pos (l:List UInt8):l≠[]→l.all digN=true→l.head?≠some 48→0 < valL l:=by
 induction l using snoc_induct with
 | h0=>intro h;exact absurd rfl h
 | h1 l c ih =>
  intro _ h hh
  obtain ⟨h1,h2⟩:=all_snoc.1 h
  have h2:=digN_iff.1 h2
  rw [valL_snoc]
  by_cases hl:l=[]
  · subst hl
    have:c.toNat≠48:=fun e=>hh (by
     have:c=48:=UInt8.toNat_inj.1 e
     rw [this];rfl)
    omega
  · rw [head_snoc hl] at hh
    have:=ih hl h1 hh
    omega
theorem digit_of {c:UInt8} (h:48≤c.toNat∧c.toNat≤57):UInt8.ofNat (48+(c.toNat - 48))=c:=by
 rw [show 48+(c.toNat - 48)=c.toNat by omega]
 exact UInt8.ofNat_toNat
theorem dec_val (l:List UInt8):l≠[]→l.all digN=true→(l.head?=some 48→l.length=1)→Go.Lib.decDigits (valL l)=l:=by
 induction l using snoc_induct with
 | h0=>intro h;exact absurd rfl h
 | h1 l c ih =>
  intro _ h hh
  obtain ⟨h1,h2⟩:=all_snoc.1 h
  have h2:=digN_iff.1 h2
  rw [valL_snoc]
  by_cases hl:l=[]
  · subst hl
    rw [show valL []*10+(c.toNat - 48)=c.toNat - 48 by simp [valL],Go.Lib.decDigits_one (by omega),digit_of h2]
    rfl
  · rw [head_snoc hl] at hh
    have hne:l.head?≠some 48:=fun e=>by
     have:=hh e
     rw [List.length_append,List.length_singleton] at this
     exact hl (List.length_eq_zero_iff.1 (by omega))
    have hp:=valL_pos l hl h1 hne
    rw [Go.Lib.decDigits,dif_neg (by omega),show (valL l*10+(c.toNat - 48)) / 10=valL l by omega,show (valL l*10+(c.toNat - 48)) % 10=c.toNat - 48 by omega,digit_of h2,ih hl h1 fun e=>absurd e hne]
theorem dig_toNat {u:Nat} (h:u < 10):(UInt8.ofNat (48+u)).toNat=48+u:=by
 rw [UInt8.toNat_ofNat']
 exact Nat.mod_eq_of_lt (by omega)
theorem dec_ok (u:Nat):Go.Lib.decDigits u≠[]∧(Go.Lib.decDigits u).all digN=true∧valL (Go.Lib.decDigits u)=u∧((Go.Lib.decDigits u).head?=some 48→u=0):=by
 induction u using Nat.strongRecOn with
 | ind u ih =>
  by_cases h:u < 10
  · rw [Go.Lib.decDigits_one h]
    refine ⟨by simp,?_,?_,fun e=>?_⟩
    · rw [List.all_cons,List.all_nil,Bool.and_true,digN_iff,dig_toNat h];omega
    · show 0*10+((UInt8.ofNat (48+u)).toNat - 48)=u
      rw [dig_toNat h];omega
    · injection e with e
      have:=dig_toNat h
      rw [e] at this
      have h48:(48:UInt8).toNat=48:=rfl
      omega
  · obtain ⟨a1,a2,a3,a4⟩:=ih (u / 10) (by omega)
    rw [Go.Lib.decDigits,dif_neg h]
    have hm:u % 10 < 10:=Nat.mod_lt _ (by omega)
    refine ⟨by simp,all_snoc.2 ⟨a2,?_⟩,?_,fun e=>?_⟩
    · rw [digN_iff,dig_toNat hm];omega
    · rw [valL_snoc,a3,dig_toNat hm];omega
    · rw [head_snoc a1] at e
      have:=a4 e
      omega
theorem parse_val:∀ (l:List UInt8) (acc k:Nat),l.all digN=true→acc < 10 ^ k→k+l.length≤18→Go.Lib.parseUint10 acc l = .ok (l.foldl stepN acc)
 | [],acc,k,_,_,_=>rfl
 | c::r,acc,k,h,ha,hk=>by
  rw [List.all_cons,Bool.and_eq_true] at h
  have h2:=digN_iff.1 h.1
  rw [List.length_cons] at hk
  have h18:10 ^ (k+1)≤10 ^ 18:=Nat.pow_le_pow_right (by omega) (by omega)
  have h18':(10:Nat) ^ 18=1000000000000000000:=by decide
  have hs:10 ^ (k+1)=10 ^ k*10:=Nat.pow_succ ..
  simp only [Go.Lib.parseUint10]
  rw [if_pos h2,if_neg (by omega),if_neg (by omega),parse_val r (acc*10+(c.toNat - 48)) (k+1) h.2 (by omega) (by omega)]
  rfl
theorem mag_val {l:List UInt8} (h:l≠[]) (hd:l.all digN=true) (hl:l.length≤18):Go.Lib.parseMag l = .ok (valL l):=by
 unfold Go.Lib.parseMag
 rw [if_neg h,parse_val l 0 0 hd (by decide) (by omega)]
 rfl
def digsN (neg:Bool) (d:List UInt8):Option Int:=if d.length < 1∨10 < d.length∨(d.head?=some 48∧(1 < d.length∨neg=true)) then none else if d.all digN then some (if neg then -(valL d:Int) else (valL d:Int)) else none
def refN:List UInt8→Option Int
 | 45::d=>digsN true d
 | d=>digsN false d
theorem refN_other {d:List UInt8} (h:d.head?≠some 45):refN d=digsN false d:=by
 unfold refN
 split
 · exact absurd rfl h
 · rfl
theorem digsN_some {neg:Bool} {d:List UInt8} {n:Int} (h:digsN neg d=some n):d≠[]∧d.length≤10∧d.all digN=true∧(d.head?=some 48→d.length=1∧neg=false)∧n=if neg then -(valL d:Int) else (valL d:Int):=by
 unfold digsN at h
 split at h
 · cases h
 · rename_i hc
   split at h
   · rename_i hd
     injection h with h
     refine ⟨fun e=>hc (.inl (by rw [e];decide)),?_,hd,fun e=>?_,h.symm⟩
     · rcases Nat.lt_or_ge 10 d.length with h' | h'
       · exact absurd (.inr (.inl h')) hc
       · exact h'
     · constructor
       · rcases Nat.lt_or_ge 1 d.length with h' | h'
         · exact absurd (.inr (.inr ⟨e,.inl h'⟩)) hc
         · have:d.length≠0:=fun e=>hc (.inl (by omega))
           omega
       · cases neg with
         | false=>rfl
         | true=>exact absurd (.inr (.inr ⟨e,.inr rfl⟩)) hc
   · cases h
theorem digsN_of {neg:Bool} {d:List UInt8} (h1:d≠[]) (h2:d.length≤10) (h3:d.all digN=true) (h4:d.head?=some 48→d.length=1∧neg=false):digsN neg d=some (if neg then -(valL d:Int) else (valL d:Int)):=by
 unfold digsN
 have:d.length≠0:=fun e=>h1 (List.length_eq_zero_iff.1 e)
 rw [if_neg,if_pos h3]
 rintro (h | h | ⟨h,h'⟩)
 · omega
 · omega
 · obtain ⟨a,b⟩:=h4 h
   rcases h' with h' | h'
   · omega
   · rw [b] at h';cases h'
theorem val10 {d:List UInt8} (h2:d.length≤10) (h3:d.all digN=true):valL d < 10000000000:=by
 have h1:=valL_lt d h3
 have:10 ^ d.length≤10 ^ 10:=Nat.pow_le_pow_right (by omega) h2
 have:(10:Nat) ^ 10=10000000000:=by decide
 omega
theorem itoa_neg {n:Int} (h:n < 0):Go.Lib.itoa n=45::Go.Lib.decDigits n.natAbs:=by unfold Go.Lib.itoa;rw [if_pos h]
theorem itoa_pos {n:Int} (h:¬ n < 0):Go.Lib.itoa n=Go.Lib.decDigits n.toNat:=by unfold Go.Lib.itoa;rw [if_neg h]
theorem dig_ne {d:List UInt8} (h3:d.all digN=true) {c:UInt8} (hc:c.toNat < 48):d.head?≠some c:=by
 cases d with
 | nil=>simp
 | cons a l =>
  rw [List.all_cons,Bool.and_eq_true] at h3
  have:=digN_iff.1 h3.1
  intro e
  injection e with e
  subst e
  omega
theorem trim_minus (d:List UInt8):Go.Lib.trimPrefix (45::d) [45]=d:=by
 unfold Go.Lib.trimPrefix Go.Lib.hasPrefix
 simp [List.isPrefixOf]
theorem trim_dig {d:List UInt8} (h:d.head?≠some 45):Go.Lib.trimPrefix d [45]=d:=by
 unfold Go.Lib.trimPrefix Go.Lib.hasPrefix
 cases d with
 | nil=>simp
 | cons a l =>
  have:¬ (45:UInt8)=a:=fun e=>h (by rw [← e];rfl)
  simp [List.isPrefixOf,this]
theorem refN_some {s:List UInt8} {n:Int} (h:refN s=some n):Go.Lib.atoiAll s = .ok n∧Go.Lib.itoa n=s∧(Go.Lib.trimPrefix s [45]).length≤10:=by
 by_cases h45:s.head?=some 45
 · obtain ⟨d,rfl⟩:∃ d,s=45::d:=by
    cases s with
    | nil=>cases h45
    | cons a d=>injection h45 with h45;subst h45;exact ⟨d,rfl⟩
   obtain ⟨h1,h2,h3,h4,rfl⟩:=digsN_some (show digsN true d=some n from h)
   have hv:=val10 h2 h3
   have hz:d.head?≠some 48:=fun e=>by have:=(h4 e).2;cases this
   have hp:=valL_pos d h1 h3 hz
   rw [if_pos rfl]
   refine ⟨?_,?_,by rw [trim_minus];exact h2⟩
   · rw [Go.Lib.atoiAll_minus,mag_val h1 h3 (by omega)]
     unfold Go.Lib.signed
     simp only
     rw [if_neg (by omega)]
   · rw [itoa_neg (by omega),Int.natAbs_neg,Int.natAbs_natCast,dec_val d h1 h3 fun e=>absurd e hz]
 · rw [refN_other h45] at h
   obtain ⟨h1,h2,h3,h4,rfl⟩:=digsN_some h
   have hv:=val10 h2 h3
   refine ⟨?_,?_,by rw [trim_dig h45];exact h2⟩
   · obtain ⟨a,r,rfl⟩:∃ a r,s=a::r:=by
      cases s with
      | nil=>exact absurd rfl h1
      | cons a r=>exact ⟨a,r,rfl⟩
     have ha:48≤a.toNat∧a.toNat≤57:=by
      rw [List.all_cons,Bool.and_eq_true] at h3
      exact digN_iff.1 h3.1
     rw [Go.Lib.atoiAll_plain a r (by omega) (by omega),mag_val h1 h3 (by omega)]
     unfold Go.Lib.signless
     simp only
     rw [if_neg (by omega)]
     rfl
   · rw [show (if false=true then -(valL s:Int) else (valL s:Int))=(valL s:Int) from rfl,itoa_pos (by omega),Int.toNat_natCast,dec_val s h1 h3 fun e=>(h4 e).1]
theorem refN_itoa {n:Int} (h:(Go.Lib.trimPrefix (Go.Lib.itoa n) [45]).length≤10):refN (Go.Lib.itoa n)=some n:=by
 by_cases hn:n < 0
 · rw [itoa_neg hn] at h ⊢
   rw [trim_minus] at h
   obtain ⟨a1,a2,a3,a4⟩:=dec_ok n.natAbs
   show digsN true _=_
   rw [digsN_of a1 h a2 (fun e=>by have:=a4 e;omega),a3,if_pos rfl]
   congr 1
   omega
 · rw [itoa_pos hn] at h ⊢
   obtain ⟨a1,a2,a3,a4⟩:=dec_ok n.toNat
   have h45:=dig_ne a2 (c:=45) (by decide)
   rw [trim_dig h45] at h
   rw [refN_other h45,digsN_of a1 h a2 (fun e=>⟨?_,rfl⟩),a3]
   · show some ((n.toNat:Nat):Int)=some n
     congr 1
     omega
   · rw [a4 e,Go.Lib.decDigits_one (by omega)];rfl
theorem numB_ref (s:ByteArray):numB s=refN s.data.toList:=by
 cases hr:refN s.data.toList with
 | some n =>
  obtain ⟨h1,h2,h3⟩:=refN_some hr
  rw [numB_ok h1,if_pos ⟨by unfold decB;rw [h2],h3⟩]
 | none =>
  cases hn:numB s with
  | none=>rfl
  | some n =>
   exfalso
   unfold numB at hn
   split at hn
   · split at hn
     · rename_i m hm hc
       injection hn with hn
       subst hn
       have hs:s.data.toList=Go.Lib.itoa m:=by rw [← hc.1];rfl
       rw [hs,refN_itoa (by rw [← hs];exact hc.2)] at hr
       cases hr
     · cases hn
   · cases hn
def cutL (c:UInt8):List UInt8→List (List UInt8)
 | []=>[[]]
 | b::l=>if b=c then []::cutL c l else match cutL c l with
  | []=>[[b]]
  | x::r=>(b::x)::r
theorem cutL_ne (c:UInt8):∀ l,cutL c l≠[]
 | []=>by simp [cutL]
 | b::l=>by
  unfold cutL
  split
  · simp
  · cases cutL c l<;>simp
theorem cutL_same (c:UInt8) (l:List UInt8):cutL c (c::l)=[]::cutL c l:=by rw [cutL,if_pos rfl]
theorem cutL_other {c b:UInt8} (h:b≠c) {l x:List UInt8} {r:List (List UInt8)} (hl:cutL c l=x::r):cutL c (b::l)=(b::x)::r:=by rw [cutL,if_neg h,hl]
theorem index_ne {b c:UInt8} (l:List UInt8) (h:b≠c):Go.Lib.index (b::l) [c]=if Go.Lib.index l [c] == -1 then -1 else Go.Lib.index l [c]+1:=by
 have hp:([c]:List UInt8).isPrefixOf (b::l)=false:=by simp [List.isPrefixOf,Ne.symm h]
 rw [Go.Lib.index,hp];simp
theorem index_eq (c:UInt8) (l:List UInt8):Go.Lib.index (c::l) [c]=0:=by
 rw [Go.Lib.index];simp [List.isPrefixOf]
theorem splitK_cut (c:UInt8):∀ s:List UInt8,Go.Lib.splitK [c] 0 (Go.Lib.count s [c]) s=cutL c s
 | []=>by rw [Go.Lib.count_one];rfl
 | b::l=>by
  have ih:=splitK_cut c l
  by_cases h:b=c
  · subst h
    rw [Go.Lib.count_cons_eq,Nat.add_comm,Go.Lib.splitK,index_eq,if_neg (by decide),cutL_same,← ih]
    rfl
  · rw [Go.Lib.count_cons_ne b c l h]
    cases hk:Go.Lib.count l [c] with
    | zero =>
     rw [hk] at ih
     exact (cutL_other h ih.symm).symm
    | succ k =>
     rw [hk] at ih
     have hge:=Go.Lib.index_ge l [c]
     have hm:Go.Lib.index l [c] ≠ -1:=fun e=>by rw [Go.Lib.count_miss e] at hk;cases hk
     obtain ⟨i,hi⟩:∃ i:Nat,Go.Lib.index l [c]=i:=⟨(Go.Lib.index l [c]).toNat,by omega⟩
     have n1:¬ (((i:Int) == -1)=true):=fun e=>by have:=beq_iff_eq.1 e;omega
     have n2:¬ ((((i:Int)+1) == -1)=true):=fun e=>by have:=beq_iff_eq.1 e;omega
     have t2:((i:Int)+1).toNat=i+1:=by omega
     rw [Go.Lib.splitK,hi,if_neg n1] at ih
     rw [Go.Lib.splitK,index_ne l h,hi,if_neg n1,if_neg n2,t2]
     refine Eq.trans ?_ (cutL_other h ih.symm).symm
     simp only [Int.toNat_natCast,List.length_singleton,Nat.add_zero,List.take_succ_cons]
     rfl
def mkB (l:List UInt8):ByteArray:=⟨l.toArray⟩
def cutW (c:UInt8) (s:ByteArray):List ByteArray:=(cutL c s.data.toList).map mkB
theorem split_cut (c:UInt8) (s:ByteArray):Go.Lib.splitB ⟨#[c]⟩ 0 (Go.Lib.countB s ⟨#[c]⟩) s=cutW c s:=by
 have h:=Go.Lib.splitB_data ⟨#[c]⟩ 0 (Go.Lib.countB s ⟨#[c]⟩) s
 have hs:Go.Lib.splitK [c] 0 (Go.Lib.countB s ⟨#[c]⟩) s.data.toList=cutL c s.data.toList:=splitK_cut c s.data.toList
 have h:(Go.Lib.splitB ⟨#[c]⟩ 0 (Go.Lib.countB s ⟨#[c]⟩) s).map (·.data.toList)=cutL c s.data.toList:=h.trans hs
 unfold cutW
 rw [← h,List.map_map]
 have:(mkB ∘ fun x:ByteArray=>x.data.toList)=id:=by funext x;rfl
 rw [this,List.map_id]
theorem cutW_ne (c:UInt8) (s:ByteArray):cutW c s≠[]:=by
 unfold cutW
 intro h
 exact cutL_ne c _ (List.map_eq_nil_iff.1 h)
abbrev kRole:ByteArray:=⟨#[114,111,108,101]⟩
abbrev kCounter:ByteArray:=⟨#[99,111,117,110,116,101,114]⟩
abbrev kState:ByteArray:=⟨#[115,116,97,116,101]⟩
abbrev kStep:ByteArray:=⟨#[115,116,101,112]⟩
abbrev kWait:ByteArray:=⟨#[119,97,105,116]⟩
abbrev kFinal:ByteArray:=⟨#[102,105,110,97,108]⟩
abbrev kWhen:ByteArray:=⟨#[119,104,101,110]⟩
def nameP:List ByteArray→Option (ByteArray×List ByteArray)
 | x::l=>if nameB x then some (x,l) else none
 | []=>none
theorem nameP_eq (x:ByteArray) (l:List ByteArray):nameP (x::l)=if nameB x then some (x,l) else none:=rfl
def endP {α:Type} (a:α) (ws:List ByteArray):Option α:=if ws=[] then some a else none
def waitP (ws:List ByteArray):Option (Int×List ByteArray):=if skipB kWait ws then (numP ws.tail).bind fun q=>if q.1=0 then none else some q else some (0,ws)
def tailIf (b:Bool) (ws:List ByteArray):List ByteArray:=if b then ws.tail else ws
def staP (ws:List ByteArray):Option StaD:=(nameP ws).bind fun a=>(waitP a.2).bind fun b=>endP (⟨a.1,skipB kFinal b.2,b.1⟩:StaD) (tailIf (skipB kFinal b.2) b.2)
def cntP (ws:List ByteArray):Option CntD:=(nameP ws).bind fun a=>(numP a.2).bind fun b=>endP (⟨a.1,b.1⟩:CntD) b.2
def rnameP (ws:List ByteArray):Option ByteArray:=(nameP ws).bind fun a=>endP a.1 a.2
def kindP (s:ByteArray):Int:=if s=kwB 1 then 1 else if s=kwB 2 then 2 else if s=kwB 3 then 3 else if s=kwB 4 then 4 else 0
def wordP:List ByteArray→Option (ByteArray×List ByteArray)
 | x::l=>some (x,l)
 | []=>none
def msgP (k:Int) (ws:List ByteArray):Option ((ByteArray×ByteArray)×List ByteArray):=if speaksB k then (nameP ws).bind fun a=>(nameP a.2).bind fun b=>some ((a.1,b.1),b.2) else some ((ByteArray.empty,ByteArray.empty),ws)
structure WhenD where
 counter:ByteArray
 low:Int
 high:Int
 add:Int
def whenP (ws:List ByteArray):Option (WhenD×List ByteArray):=if skipB kWhen ws then (nameP ws.tail).bind fun a=>(numP a.2).bind fun b=>(numP b.2).bind fun c=>(numP c.2).bind fun d=>some (⟨a.1,b.1,c.1,d.1⟩,d.2) else some (⟨ByteArray.empty,0,0,0⟩,ws)
def stpP (ws:List ByteArray):Option StpD:=(nameP ws).bind fun a=>(nameP a.2).bind fun b=>(wordP b.2).bind fun c=>if kindP c.1=0 then none else (msgP (kindP c.1) c.2).bind fun m=>(whenP m.2).bind fun h=>endP (⟨a.1,b.1,kindP c.1,m.1.1,m.1.2,h.1.counter,h.1.low,h.1.high,h.1.add⟩:StpD) h.2
def manyP {α:Type} (kw:ByteArray) (p:List ByteArray→Option α):List (List ByteArray)→Option (List α)×Nat
 | []=>(some [],0)
 | []::_=>(some [],0)
 | (k::ws)::L=>if k=kw then match p ws with
  | none=>(none,1)
  | some a=>((manyP kw p L).1.map (a::·),(manyP kw p L).2+1) else (some [],0)
def stepsP (nm:ByteArray) (cs:List CntD) (ss:List StaD) (L:List (List ByteArray)) (n:Nat):Option RolD×Nat:=((manyP kStep stpP L).1.map fun l=>⟨nm,ss,cs,l⟩,n+(manyP kStep stpP L).2)
def statesP (nm:ByteArray) (cs:List CntD) (L:List (List ByteArray)) (n:Nat):Option RolD×Nat:=match manyP kState staP L with
 | (none,k)=>(none,n+k)
 | (some l,k)=>stepsP nm cs l (L.drop k) (n+k)
def countersP (nm:ByteArray) (L:List (List ByteArray)) (n:Nat):Option RolD×Nat:=match manyP kCounter cntP L with
 | (none,k)=>(none,n+k)
 | (some l,k)=>statesP nm l (L.drop k) (n+k)
def roleP:List (List ByteArray)→Option RolD×Nat
 | (k::ws)::L=>if k=kRole then match rnameP ws with
  | none=>(none,1)
  | some nm=>countersP nm L 1 else (none,1)
 | _=>(none,1)
theorem many_le {α:Type} {kw:ByteArray} {p:List ByteArray→Option α}:∀ L,(manyP kw p L).2≤L.length
 | []=>Nat.le_refl _
 | []::_=>Nat.zero_le _
 | (k::ws)::L=>by
  unfold manyP
  split
  · split
    · simp
    · have:=many_le (kw:=kw) (p:=p) L
      simp only [List.length_cons];omega
  · exact Nat.zero_le _
theorem nameP_inv {ws l:List ByteArray} {x:ByteArray} (h:nameP ws=some (x,l)):ws=x::l∧nameB x=true:=by
 cases ws with
 | nil=>cases h
 | cons a r =>
  rw [nameP_eq] at h
  split at h
  · rename_i hn
    injection h with h
    injection h with h1 h2
    subst h1 h2
    exact ⟨rfl,hn⟩
  · cases h
theorem endP_inv {α:Type} {a b:α} {ws:List ByteArray} (h:endP a ws=some b):ws=[]∧a=b:=by
 unfold endP at h
 split at h
 · rename_i hw
   injection h with h
   exact ⟨hw,h⟩
 · cases h
theorem bind_inv {α β:Type} {o:Option α} {f:α→Option β} {b:β} (h:o.bind f=some b):∃ a,o=some a∧f a=some b:=by
 cases o with
 | none=>cases h
 | some a=>exact ⟨a,rfl,h⟩
def Num10 (n:Int):Prop := -9999999999≤n∧n≤9999999999
theorem kindP_inv {s:ByteArray} (h:kindP s≠0):s=kwB (kindP s)∧1≤kindP s∧kindP s≤4:=by
 unfold kindP at h ⊢
 by_cases h1:s=kwB 1
 · rw [if_pos h1];exact ⟨h1,by decide,by decide⟩
 rw [if_neg h1] at h ⊢
 by_cases h2:s=kwB 2
 · rw [if_pos h2];exact ⟨h2,by decide,by decide⟩
 rw [if_neg h2] at h ⊢
 by_cases h3:s=kwB 3
 · rw [if_pos h3];exact ⟨h3,by decide,by decide⟩
 rw [if_neg h3] at h ⊢
 by_cases h4:s=kwB 4
 · rw [if_pos h4];exact ⟨h4,by decide,by decide⟩
 rw [if_neg h4] at h
 exact absurd rfl h
theorem kindP_kw {k:Int} (h:1≤k∧k≤4):kindP (kwB k)=k:=by
 have:k=1∨k=2∨k=3∨k=4:=by omega
 rcases this with rfl | rfl | rfl | rfl<;>decide
inductive Pairs {α β:Type} (R:α→β→Prop):List α→List β→Prop
 | nil:Pairs R [] []
 | cons {a:α} {b:β} {l:List α} {m:List β}:R a b→Pairs R l m→Pairs R (a::l) (b::m)
theorem many_inv {α:Type} {kw:ByteArray} {p:List ByteArray→Option α}:∀ {L:List (List ByteArray)} {l:List α} {n:Nat},manyP kw p L=(some l,n)→∃ R,L=R++L.drop n∧n=R.length∧Pairs (fun w a=>∃ ws,w=kw::ws∧p ws=some a) R l
 | [],l,n,h=>by
  injection h with h1 h2
  injection h1 with h1
  subst h1 h2
  exact ⟨[],rfl,rfl,.nil⟩
 | []::L,l,n,h=>by
  injection h with h1 h2
  injection h1 with h1
  subst h1 h2
  exact ⟨[],rfl,rfl,.nil⟩
 | (k::ws)::L,l,n,h=>by
  unfold manyP at h
  split at h
  · rename_i hk
    subst hk
    cases hp:p ws with
    | none=>rw [hp] at h;cases h
    | some a =>
     rw [hp] at h
     simp only at h
     injection h with h1 h2
     cases hm:manyP k p L with
     | mk o m =>
      rw [hm] at h1 h2
      cases o with
      | none=>cases h1
      | some l' =>
       injection h1 with h1
       subst h1
       obtain ⟨R,e1,e2,e3⟩:=many_inv hm
       simp only at h2
       subst h2 e2
       refine ⟨(k::ws)::R,?_,rfl,.cons ⟨ws,rfl,hp⟩ e3⟩
       rw [List.cons_append,List.drop_succ_cons,← e1]
  · injection h with h1 h2
    injection h1 with h1
    subst h1 h2
    exact ⟨[],rfl,rfl,.nil⟩
theorem roleP_eq (k:ByteArray) (ws:List ByteArray) (L:List (List ByteArray)):roleP ((k::ws)::L)=if k=kRole then (match rnameP ws with
 | none=>(none,1)
 | some nm=>countersP nm L 1) else (none,1):=rfl
theorem many_stop {α:Type} {kw:ByteArray} {p:List ByteArray→Option α} {R:List (List ByteArray)} (h:∀ w∈R.head?,∀ k∈w.head?,k≠kw):manyP kw p R=(some [],0):=by
 cases R with
 | nil=>rfl
 | cons w R =>
  cases w with
  | nil=>rfl
  | cons k ws =>
   unfold manyP
   rw [if_neg (h _ rfl k rfl)]
def linesT (s:ByteArray):List (List ByteArray):=(cutW 10 s).map spW
end Go.Proofs.YtngflmjncplkaaaGreatDoor
namespace Go.Sw
variable {α:Type}
def esOf (enc:α→Value) (L:List (α×Value×Nat)):Array MapEntry:=(L.map (mkE enc)).toArray
def IterAt (w:World) (p m c:Nat) (seen:Array Nat):Prop:=w.heap[p]?=some (.mapIter (some m) c seen c)
def iterLeft (enc:α→Value) (L:List (α×Value×Nat)) (p:Nat) (w:World):Nat:=(leftOf (esOf enc L) (w.iterSeen p)).size
section
variable {P:Program} {w w':World} {m c p:Nat} {enc:α→Value} {L:List (α×Value×Nat)} {seen:Array Nat} {QP:List PanicEntry→World→Prop} {k:Value→World→Prop}
theorem IterAt.ext (h:IterAt w p m c seen) (e:Ext w w'):IterAt w' p m c seen:=e.obj h
theorem IterAt.seenEq (h:IterAt w p m c seen):w.iterSeen p=seen:=by
 unfold IterAt at h
 unfold World.iterSeen
 rw [h]
theorem op_rangeMap {t kt et:TypeId} (ht:P.underlying t=some (.map kt et)) (h:MapB w m enc L c):opV P (Instr.range t (.map (some m))) QP w k=k (.pointer (some ⟨w.heap.size,0,none⟩)) (w.alloc (.mapIter (some m) c #[] c)):=opV_ok (run_range_map w t kt et m _ c ht h.obj)
theorem iter_new (w:World) (m c:Nat):IterAt (w.alloc (.mapIter (some m) c #[] c)) w.heap.size m c #[]:=heap_alloc_new w _
theorem mem_leftL (h:MapB w m enc L c) {e:MapEntry} (he:e∈(leftOf (esOf enc L) seen).toList):∃ x∈L,e=mkE enc x∧seen.contains x.2.2=false:=by
 obtain ⟨h1,h2⟩:=mem_left he
 unfold esOf at h1
 simp only [List.mem_map] at h1
 obtain ⟨x,hx,rfl⟩:=h1
 exact ⟨x,hx,rfl,h2⟩
theorem iterLeft_zero (h:MapB w m enc L c) (hi:iterLeft enc L p w=0) {x:α×Value×Nat} (hx:x∈L):(w.iterSeen p).contains x.2.2=true:=by
 cases hc:(w.iterSeen p).contains x.2.2 with
 | true=>rfl
 | false =>
  exfalso
  have hm:mkE enc x∈leftOf (esOf enc L) (w.iterSeen p):=by
   unfold leftOf
   rw [Array.mem_filter]
   refine ⟨?_,?_⟩
   · unfold esOf;simp;exact ⟨x.1,x.2.1,x.2.2,hx,rfl⟩
   · show (!(w.iterSeen p).contains x.2.2)=true
     rw [hc];rfl
  unfold iterLeft at hi
  have:=Array.size_pos_of_mem hm
  omega
theorem op_nextMap {ty:TypeId} (h:MapB w m enc L c) (hi:IterAt w p m c seen)
 (h0:iterLeft enc L p w=0→k (.tuple #[.bool false]) w)
 (h1:∀ x w',x∈L→seen.contains x.2.2=false→(∀ a,Ext a w→a.heap.size≤p→Ext a w')→MapB w' m enc L c→IterAt w' p m c (seen.push x.2.2)→(∀ b,b≠p→w'.heap[b]?=w.heap[b]?)→w'.heap.size=w.heap.size→iterLeft enc L p w' < iterLeft enc L p w→k (.tuple #[.bool true,enc x.1,x.2.1]) w') :
 opV P (Instr.next (.pointer (some ⟨p,0,none⟩)) false ty) QP w k:=by
 have hp:p < w.heap.size:=(Array.getElem?_eq_some_iff.1 hi).1
 have hne:m≠p:=fun e=>by
  have:=h.obj
  rw [e,hi] at this
  cases this
 have hes:∀ x∈(esOf enc L).toList,x.born < c:=fun x hx=>by
  unfold esOf at hx
  simp only [List.mem_map] at hx
  obtain ⟨y,hy,rfl⟩:=hx
  exact h.lt y hy
 have hb:=h.obj
 have hs:=IterAt.seenEq hi
 rw [show (L.map (mkE enc)).toArray=esOf enc L from rfl] at hb
 have hrun:(Instr.next (.pointer (some ⟨p,0,none⟩)) false ty).run P w=(if (leftOf (esOf enc L) seen).size=0 then .ok (.tuple #[.bool false]) w else (Instr.next (.pointer (some ⟨p,0,none⟩)) false ty).run P w):=by
  split
  · rename_i hz
    have hL:(leftOf (esOf enc L) seen) = #[]:=Array.eq_empty_of_size_eq_zero hz
    have hip:w.heap[p]?=some (.mapIter (some m) c seen c):=hi
    simp only [Instr.next,getObj,Sem.run_bind,Sem.run,hip,hb,Result.andThen,next_test_false seen (esOf enc L) c c hes (Nat.le_refl _),Bool.false_eq_true,if_false]
    unfold leftOf at hL
    simp only [hL]
    simp [choose,Sem.run,Question.forced]
  · rfl
 by_cases hz:(leftOf (esOf enc L) seen).size=0
 · rw [if_pos hz] at hrun
   rw [opV_ok hrun]
   exact h0 (by unfold iterLeft;rw [hs];exact hz)
 · clear hrun h0
   have hmem:∀ x∈(leftOf (esOf enc L) seen).toList,x.born < c:=fun x hx=>hes x (mem_left hx).1
   have hml:∀ e∈(leftOf (esOf enc L) seen).toList,∃ x∈L,e=mkE enc x∧seen.contains x.2.2=false:=fun e he=>mem_leftL h he
   have hsh:∀ e∈(leftOf (esOf enc L) seen).toList,(leftOf (esOf enc L) (seen.push e.born)).size < (leftOf (esOf enc L) seen).size:=fun e he=>left_shrinks _ _ _ he
   have hit:iterLeft enc L p w=(leftOf (esOf enc L) seen).size:=by unfold iterLeft;rw [hs]
   generalize hLf:leftOf (esOf enc L) seen=Lf at hmem hml hz hsh hit
   have e1:Lf.filter (fun x=>decide (x.born < c))=Lf:=Array.filter_eq_self.2 (fun x hx=>by simpa using hmem x (by simpa using hx))
   have e2:Lf.filter (fun x=>decide (x.born≥c)) = #[]:=by
    rw [Array.filter_eq_empty_iff]
    intro x hx
    have:=hmem x (by simpa using hx)
    simp
    omega
   have hne0:Lf.isEmpty=false:=by simp [Array.isEmpty,hz]
   have hch:∃ (j:Nat) (w1:World),j < Lf.size∧w1.heap=w.heap∧w1.os=w.os∧w1.tape=w.tape∧w1.output=w.output∧(choose (Question.mapNext Lf.size)).run P w = .ok j w1:=by
    by_cases hf:Lf.size≤1
    · exact ⟨0,w,by omega,rfl,rfl,rfl,rfl,by simp [choose,Sem.run,Question.forced,hf]⟩
    · exact ⟨_,w.drew,Nat.mod_lt _ (by omega),rfl,rfl,rfl,rfl,by
       simp only [choose,Sem.run,Question.forced,decide_eq_true_eq,hf,if_false,Question.cut]
       rfl⟩
   obtain ⟨j,w1,hj,a1,a2,a3,a4,hrun⟩:=hch
   obtain ⟨x,hx,hxe,hxs⟩:=hml Lf[j] (by simp)
   have hset:∀ o',(Go.setObj p o').run P w1 = .ok () (w1.putObj p o'):=fun o'=>by
    have:w1.heap[p]?=some (.mapIter (some m) c seen c):=by rw [a1];exact hi
    simp [Go.setObj,Sem.run,this,World.putObj]
   have hfin:(Instr.next (.pointer (some ⟨p,0,none⟩)) false ty).run P w = .ok (.tuple #[.bool true,enc x.1,x.2.1]) (w1.putObj p (.mapIter (some m) c (seen.push x.2.2) c)):=by
    have hip:w.heap[p]?=some (.mapIter (some m) c seen c):=hi
    simp only [Instr.next,getObj,Sem.run_bind,Sem.run,hip,hb,Result.andThen,next_test_false seen (esOf enc L) c c hes (Nat.le_refl _),Bool.false_eq_true,if_false]
    unfold leftOf at hLf
    simp only [hLf,e1,e2,Array.append_empty,hne0,Bool.false_eq_true,if_false,Array.empty_append,Array.size_map,hrun,Array.getElem?_map,Array.getElem?_eq_getElem hj,Option.map_some,Sem.run_bind,Result.andThen,hset]
    rw [hxe]
    rfl
   rw [opV_ok hfin]
   have hsz:(w1.putObj p (.mapIter (some m) c (seen.push x.2.2) c)).heap.size=w.heap.size:=by rw [World.putObj_size,a1]
   have hoth:∀ b,b≠p→(w1.putObj p (.mapIter (some m) c (seen.push x.2.2) c)).heap[b]?=w.heap[b]?:=fun b hb=>by rw [World.putObj_heap_other hb,a1]
   have hnew:IterAt (w1.putObj p (.mapIter (some m) c (seen.push x.2.2) c)) p m c (seen.push x.2.2):=by
    unfold IterAt
    show (w1.heap.setIfInBounds p _)[p]?=_
    rw [Array.getElem?_setIfInBounds_self_of_lt (by rw [a1];exact hp)]
   refine h1 x _ hx hxs (fun a e hap=>⟨by show w1.os=_;rw [a2];exact e.os,by show w1.tape=_;rw [a3];exact e.tape,by show w1.output=_;rw [a4];exact e.output,by rw [hsz];exact e.size,fun b hb=>by rw [hoth b (by omega)];exact e.block b hb⟩) (h.of_obj (hoth m hne)) hnew hoth hsz ?_
   rw [hit]
   unfold iterLeft
   rw [IterAt.seenEq hnew]
   have:=hsh Lf[j] (by simp)
   rw [hxe] at this
   exact this
theorem op_entryMap (h:MapB w m enc L c) {x:α×Value×Nat} (hx:x∈L) (hi:IterAt w p m c (seen.push x.2.2)):opV P (Instr.entry (.pointer (some ⟨p,0,none⟩))) QP w k=k (.tuple #[enc x.1,x.2.1]) w:=by
 refine opV_ok ?_
 have hn:((esOf enc L).toList.map (·.born)).Nodup:=by
  unfold esOf
  simp only [List.map_map]
  rw [List.nodup_iff_pairwise_ne,List.pairwise_map]
  exact h.births
 have hf:(esOf enc L).find? (·.born == x.2.2)=some (mkE enc x):=by
  rw [← Array.find?_toList]
  exact find_born (mkE enc x) _ hn (by unfold esOf;exact List.mem_map.2 ⟨x,hx,rfl⟩)
 have hip:w.heap[p]?=some (.mapIter (some m) c (seen.push x.2.2) c):=hi
 have hb:w.heap[m]?=some (.map (esOf enc L) c):=h.obj
 simp only [Instr.entry,getObj,Sem.run_bind,Sem.run,hip,hb,Result.andThen,Array.back?_push,bne_self_eq_false,Bool.false_eq_true,if_false,hf]
 rfl
theorem look_mem [DecidableEq α] (h:MapB w m enc L c) {x:α×Value×Nat} (hx:x∈L):look L x.1=some x.2.1:=by
 have hk:=h.keys
 clear h
 induction L with
 | nil=>cases hx
 | cons y l ih =>
  rw [look_cons]
  rw [List.pairwise_cons] at hk
  rcases List.mem_cons.1 hx with rfl | hx
  · rw [if_pos rfl]
  · rw [if_neg (hk.1 x hx),ih hx hk.2]
theorem look_has [DecidableEq α] {k:α} {v:Value} (h:look L k=some v):∃ x∈L,x.1=k∧x.2.1=v:=by
 unfold look at h
 cases hf:L.find? (fun x=>decide (x.1=k)) with
 | none=>rw [hf] at h;cases h
 | some x =>
  rw [hf] at h
  injection h with h
  exact ⟨x,List.mem_of_find?_eq_some hf,by simpa using List.find?_some hf,h⟩
end
def setA (cs:Array Value) (o:Nat):List Value→Array Value
 | []=>cs
 | v::vs=>setA (cs.setIfInBounds o v) (o+1) vs
theorem setA_get:∀ (vs:List Value) (cs:Array Value) (o j:Nat),o+vs.length≤cs.size→(setA cs o vs)[j]?=if o≤j∧j < o+vs.length then vs[j - o]? else cs[j]?
 | [],cs,o,j,_=>by rw [if_neg (by simp only [List.length_nil];omega)];rfl
 | v::vs,cs,o,j,h=>by
  rw [List.length_cons] at h
  rw [setA,setA_get vs _ (o+1) j (by rw [Array.size_setIfInBounds];omega),List.length_cons]
  by_cases h1:j=o
  · subst h1
    rw [if_neg (by omega),if_pos (by omega),Nat.sub_self,Array.getElem?_setIfInBounds_self_of_lt (by omega)]
    rfl
  · by_cases h2:o+1≤j∧j < o+1+vs.length
    · rw [if_pos h2,if_pos (by omega),show j - o=(j - (o+1))+1 by omega,List.getElem?_cons_succ]
    · rw [if_neg h2,if_neg (by omega),Array.getElem?_setIfInBounds_ne (by omega)]
theorem setA_all {vs:List Value} {cs:Array Value} (h:vs.length=cs.size):setA cs 0 vs=vs.toArray:=by
 apply Array.ext_getElem?
 intro j
 rw [setA_get vs cs 0 j (by omega)]
 by_cases hj:j < vs.length
 · rw [if_pos (by omega),Nat.sub_zero,List.getElem?_toArray]
 · have hs:vs.toArray.size=vs.length:=List.size_toArray ..
   rw [if_neg (by omega),Array.getElem?_eq_none (by omega),Array.getElem?_eq_none (by omega)]
theorem setCells_only {b:Nat}:∀ (vs:List Value) (w:World) (o:Nat) (g:Nat),g≠b→(setCells w b o vs).heap[g]?=w.heap[g]?
 | [],_,_,_,_=>rfl
 | v::vs,w,o,g,h=>(setCells_only vs _ (o+1) g h).trans (Only.setCell w b o v g h)
theorem setCells_ext {b:Nat}:∀ (vs:List Value) (w:World) (o:Nat) (a:World),Ext a w→a.heap.size≤b→Ext a (setCells w b o vs)
 | [],_,_,_,e,_=>e
 | v::vs,w,o,a,e,hb=>setCells_ext vs _ (o+1) a (e.setCell (p:=⟨b,o,none⟩) hb v) hb
theorem op_storeO {P:Program} {w:World} {QP:List PanicEntry→World→Prop} {ku:World→Prop} {T T':TypeId} {n m b:Nat} {z:Value} {cs:Array Value} (h:TyInfo P T true n m z) (ho:w.heap[b]?=some (.cells cs T' (0,0))) {vs:List Value} (hn:vs.length=n) (hc:n≤cs.size) (hv:∀ v∈vs,v.oneCell'=true) :
 opU P (Instr.storeAt T (.pointer (some ⟨b,0,none⟩)) (.agg vs.toArray)) QP w ku=ku (setCells w b 0 vs):=by
 refine opU_ok (u:=()) ?_
 have hq:=cells_of_heap ho
 have hcc:∀ j,j < vs.length→∃ u,w.cell? ⟨b,0+(0+j),none⟩=some u:=fun j hj=>by
  rw [hq.1]
  exact ⟨cs[j]'(by omega),by rw [Nat.zero_add,Nat.zero_add];exact Array.getElem?_eq_getElem (by omega)⟩
 have hff:∀ j,j < vs.length→w.frozen? ⟨b,0+(0+j),none⟩=false:=fun j _=>hq.2 _
 have:=run_storeCellsA (P:=P) b 0 vs 0 w hcc hff hv
 simp [Instr.storeAt,Instr.sureAddr,storeVar,run_sizeOf h,cells_agg,hn,this]
end Go.Sw
namespace Go.Proofs.YtngflmjncplkaaaGreatDoor
open Sw
open Go.RowKit (intOf Below)
structure RS (w0:World) (p:Nat) (lines:List ByteArray) (at_:Nat) (lv:Value) (B q:Nat) (T:TypeId) (w:World) (us:List ByteArray) (cs:Array Value):Prop where
 rd:Rd w p lines at_ us lv B
 sv:Save p (p+1) w0 w
 ob:w.heap[q]?=some (.cells cs T (0,0))
 qp:q≠p
 qB:q≠B
 ql:∀ A n c,lv = .slice (some A) n c→A.block≠q
 ge:w0.heap.size≤q
section
variable {w w0 w':World} {p at_ B q:Nat} {lines us us':List ByteArray} {lv:Value} {T:TypeId} {cs:Array Value} {o:Option (Value×List ByteArray)} {k:Value→World→Prop}
theorem RS.next (h:RS w0 p lines at_ lv B q T w us cs) (hs:Save p (p+1) w w') (hr:Rd w' p lines at_ us' lv B):RS w0 p lines at_ lv B q T w' us' cs :=
 ⟨hr,h.sv.trans hs,hs.obj h.ob (by have:=h.qp;omega),h.qp,h.qB,h.ql,h.ge⟩
theorem RS.ext (h:RS w0 p lines at_ lv B q T w us cs) (e:Ext w w'):RS w0 p lines at_ lv B q T w' us cs:=h.next (Save.of_ext e) (h.rd.ext e)
theorem RS.set (h:RS w0 p lines at_ lv B q T w us cs) (i:Nat) (v:Value):RS w0 p lines at_ lv B q T (w.setCell ⟨q,i,none⟩ v) us (cs.setIfInBounds i v) :=
 ⟨h.rd.other v h.qp h.qB h.ql,h.sv.setNew h.ge v,heap_set h.ob v,h.qp,h.qB,h.ql,h.ge⟩
theorem RS.setAll (h:RS w0 p lines at_ lv B q T w us cs) (vs:List Value) (hl:vs.length=cs.size):RS w0 p lines at_ lv B q T (setCells w q 0 vs) us vs.toArray:=by
 have hb:=setCells_only vs w 0 (b:=q)
 have key:∀ (l:List Value) (w:World) (o:Nat) (c:Array Value),RS w0 p lines at_ lv B q T w us c→RS w0 p lines at_ lv B q T (setCells w q o l) us (setA c o l):=by
  intro l
  induction l with
  | nil=>intro w o c h;exact h
  | cons v l ih=>intro w o c h;exact ih _ _ _ (h.set o v)
 have:=key vs w 0 cs h
 rwa [setA_all hl] at this
theorem RS.new (h:Rd w p lines at_ us lv B) (hB:B < w.heap.size) (hl:∀ A n c,lv = .slice (some A) n c→A.block < w.heap.size):RS w p lines at_ lv B w.heap.size T (w.alloc (.cells cs T)) us cs:=by
 have hp:p < w.heap.size:=by
  obtain ⟨wv,h⟩:=h
  exact (Array.getElem?_eq_some_iff.1 h.obj).1
 have e:Ext w (w.alloc (.cells cs T)):=(Ext.refl w).alloc _
 exact ⟨h.ext e,Save.of_ext e,heap_new _ _ _,by omega,by omega,fun A n c hv=>by have:=hl A n c hv;omega,Nat.le_refl _⟩
theorem RS.name (h:RS w0 p lines at_ lv B q T w us cs) (hk:∀ x l w',nameP us=some (x,l)→RS w0 p lines at_ lv B q T w' l cs→k (.string x) w') (hn:nameP us=none→o=none):callK Pg 67 #[.pointer (some ⟨p,0,none⟩)] (panK (WrR w0 p lines at_ lv B o)) w k:=by
 have hp:popN us=(nameP us).map fun z=>(.string z.1,z.2):=by
  cases us with
  | nil=>rfl
  | cons x l =>
   show (if nameB x=true then some (Value.string x,l) else none)=_
   rw [nameP_eq]
   split<;>rfl
 refine callK_wr (name_wr h.rd) (fun v l w1 ho hr hs=>?_) fun w1 ho hs=>?_
 · rw [hp] at ho
   cases hc:nameP us with
   | none=>rw [hc] at ho;cases ho
   | some z =>
    rw [hc] at ho
    injection ho with ho
    injection ho with e1 e2
    subst e1 e2
    exact hk _ _ _ hc (h.next hs hr)
 · rw [hp] at ho
   cases hc:nameP us with
   | none=>exact wr_pan (h.sv.trans hs) (hn hc)
   | some z=>rw [hc] at ho;cases ho
theorem RS.word (h:RS w0 p lines at_ lv B q T w us cs) (hk:∀ x l w',wordP us=some (x,l)→RS w0 p lines at_ lv B q T w' l cs→k (.string x) w') (hn:wordP us=none→o=none):callK Pg 69 #[.pointer (some ⟨p,0,none⟩)] (panK (WrR w0 p lines at_ lv B o)) w k:=by
 have hp:popW us=(wordP us).map fun z=>(.string z.1,z.2):=by
  cases us with
  | nil=>rfl
  | cons x l=>rfl
 refine callK_wr (word_wr h.rd) (fun v l w1 ho hr hs=>?_) fun w1 ho hs=>?_
 · rw [hp] at ho
   cases hc:wordP us with
   | none=>rw [hc] at ho;cases ho
   | some z =>
    rw [hc] at ho
    injection ho with ho
    injection ho with e1 e2
    subst e1 e2
    exact hk _ _ _ hc (h.next hs hr)
 · rw [hp] at ho
   cases hc:wordP us with
   | none=>exact wr_pan (h.sv.trans hs) (hn hc)
   | some z=>rw [hc] at ho;cases ho
theorem RS.num {WB:World} (hE:EnvOK WB) (eB:Ext WB w0) (hb:WB.heap.size≤p) (hz:∀ x∈us,x.size≤100000) (h:RS w0 p lines at_ lv B q T w us cs) (hk:∀ n l w',numP us=some (n,l)→RS w0 p lines at_ lv B q T w' l cs→k (.int .i64 n) w') (hn:numP us=none→o=none):callK Pg 70 #[.pointer (some ⟨p,0,none⟩)] (panK (WrR w0 p lines at_ lv B o)) w k:=by
 refine callK_wr (number_wr hE (h.sv.to_ext eB hb) hb hz h.rd) (fun v l w1 ho hr hs=>?_) fun w1 ho hs=>?_
 · cases hc:numP us with
   | none=>rw [hc] at ho;cases ho
   | some z =>
    rw [hc] at ho
    injection ho with ho
    injection ho with e1 e2
    subst e1 e2
    exact hk _ _ _ hc (h.next hs hr)
 · cases hc:numP us with
   | none=>exact wr_pan (h.sv.trans hs) (hn hc)
   | some z=>rw [hc] at ho;cases ho
theorem RS.skip (h:RS w0 p lines at_ lv B q T w us cs) (s:ByteArray) {QP:List PanicEntry→World→Prop} (hk:∀ w',RS w0 p lines at_ lv B q T w' (tailIf (skipB s us) us) cs→k (.bool (skipB s us)) w'):callK Pg 107 #[.pointer (some ⟨p,0,none⟩),.string s] QP w k:=by
 refine callK_ret (skip_ret h.rd s) ?_
 rintro _ w' ⟨rfl,hr,hs⟩
 exact hk w' (h.next hs hr)
theorem RS.must (h:RS w0 p lines at_ lv B q T w us cs) {b:Bool} (hn:b=false→o=none) (hk:∀ w',b=true→RS w0 p lines at_ lv B q T w' us cs→k (.tuple #[]) w'):callK Pg 66 #[.pointer (some ⟨p,0,none⟩),.bool b] (panK (WrR w0 p lines at_ lv B o)) w k:=by
 refine callK_wr (must_wr h.rd b) (fun v l w1 ho hr hs=>?_) fun w1 ho hs=>?_
 · cases b with
   | false=>cases ho
   | true =>
    injection ho with ho
    injection ho with e1 e2
    subst e1 e2
    exact hk w1 rfl (h.next hs hr)
 · cases b with
   | true=>cases ho
   | false=>exact wr_pan (h.sv.trans hs) (hn rfl)
theorem RS.fin (h:RS w0 p lines at_ lv B q T w us cs) (hn:us≠[]→o=none) (hk:∀ w',us=[]→RS w0 p lines at_ lv B q T w' [] cs→k (.tuple #[]) w'):callK Pg 71 #[.pointer (some ⟨p,0,none⟩)] (panK (WrR w0 p lines at_ lv B o)) w k:=by
 refine callK_wr (end_wr h.rd) (fun v l w1 ho hr hs=>?_) fun w1 ho hs=>?_
 · split at ho
   · rename_i hu
     injection ho with ho
     injection ho with e1 e2
     subst e1 e2
     exact hk w1 hu (h.next hs hr)
   · cases ho
 · split at ho
   · cases ho
   · rename_i hu
     exact wr_pan (h.sv.trans hs) (hn hu)
theorem SliceOf_same {α:Type} {n:Nat} {E:World→List Value→α→Prop} {v:Value} {l:List α} (h:SliceOf w n E v l) (hb:∀ A m c,v = .slice (some A) m c→w'.heap[A.block]?=w.heap[A.block]?) (hE:∀ cs x,E w cs x→E w' cs x):SliceOf w' n E v l:=by
 obtain ⟨A,c,hv,h1,h2,h3⟩:=h
 refine ⟨A,c,hv,h1,h2,fun hne=>?_⟩
 obtain ⟨b,o,hA,hel⟩:=h3 hne
 refine ⟨b,o,hA,fun k x hx=>?_⟩
 obtain ⟨cs,a1,a2,a3⟩:=hel k x hx
 have hsame:=hb ⟨b,o,none⟩ _ _ (by rw [hv,hA])
 exact ⟨cs,a1,fun j u hu=>(World.cell?_of_block (a:=⟨b,o+k*n+j,none⟩) hsame).trans (a2 j u hu),hE _ _ a3⟩
structure Far (w0:World) (p B q:Nat) (lv:Value) (N:Nat):Prop where
 w0:w0.heap.size≤N
 p:p < N
 B:B < N
 q:q < N
 l:∀ A n c,lv = .slice (some A) n c→A.block < N
theorem RS.far {N i:Nat} (h:RS w0 p lines at_ lv B q T w us cs) (hf:Far w0 p B q lv N) (hi:N≤i) (hx:∀ a,Ext a w→a.heap.size≤i→Ext a w') (hs:∀ b,b≠i→w'.heap[b]?=w.heap[b]?) (hz:w.heap.size≤w'.heap.size):RS w0 p lines at_ lv B q T w' us cs:=by
 have e0:Ext { w with heap := #[] } w:=⟨rfl,rfl,rfl,Nat.zero_le _,fun k hk=>absurd hk (Nat.not_lt_zero _)⟩
 have e1:=hx _ e0 (Nat.zero_le _)
 have hS:Save p (p+1) w w'→Save p (p+1) w0 w':=fun h'=>h.sv.trans h'
 obtain ⟨wv,hr⟩:=h.rd
 have:=hf.w0
 have:=hf.p
 have:=hf.B
 have:=hf.q
 refine ⟨⟨wv,?_,SliceOf_same hr.ls (fun A m c e=>hs _ (by have:=hf.l A m c e;omega)) (fun _ _ h=>h),SliceOf_same hr.wd (fun A m c e=>hs _ (by rw [hr.wb A m c e];omega)) (fun _ _ h=>h),hr.lp,hr.wb,hr.bp⟩,?_,?_,h.qp,h.qB,h.ql,h.ge⟩
 · rw [hs _ (by omega)];exact hr.obj
 · exact ⟨e1.os.trans h.sv.os,e1.tape.trans h.sv.tape,e1.output.trans h.sv.output,Nat.le_trans h.sv.size hz,fun k hk hb=>(hs k (by omega)).trans (h.sv.block k hk hb)⟩
 · rw [hs _ (by omega)];exact h.ob
theorem RS.ret {v:Value} (h:RS w0 p lines at_ lv B q T w us cs) (ho:o=some (v,us)):WrR w0 p lines at_ lv B o (.returned v) w:=wr_ret h.sv ho h.rd
end
section
variable {WB w:World} {p at_ B:Nat} {lines ws:List ByteArray} {lv:Value}
theorem tail_sub {x:ByteArray} {ws:List ByteArray} {b:Bool} (h:x∈tailIf b ws):x∈ws:=by
 unfold tailIf at h
 split at h
 · exact List.mem_of_mem_tail h
 · exact h
theorem nameP_sub {ws l:List ByteArray} {x:ByteArray} (h:nameP ws=some (x,l)):∀ y∈l,y∈ws:=by
 cases ws with
 | nil=>cases h
 | cons a r =>
  rw [nameP_eq] at h
  split at h
  · injection h with h
    injection h with h1 h2
    subst h2
    exact fun y hy=>List.mem_cons_of_mem _ hy
  · cases h
theorem numP_sub {ws l:List ByteArray} {n:Int} (h:numP ws=some (n,l)):∀ y∈l,y∈ws:=by
 cases ws with
 | nil=>cases h
 | cons a r =>
  rw [numP_cons] at h
  cases hb:numB a with
  | none=>rw [hb] at h;cases h
  | some m =>
   rw [hb] at h
   injection h with h
   injection h with h1 h2
   subst h2
   exact fun y hy=>List.mem_cons_of_mem _ hy
theorem state_wr (hE:EnvOK WB) (eB:Ext WB w) (hp:WB.heap.size≤p) (hz:∀ x∈ws,x.size≤100000) (h:Rd w p lines at_ ws lv B) (hB:B < w.heap.size) (hl:∀ A n c,lv = .slice (some A) n c→A.block < w.heap.size) :
 Calls Pg 90 #[.pointer (some ⟨p,0,none⟩)] w (WrR w p lines at_ lv B ((staP ws).map fun s=>(staVal s,[]))):=by
 refine n44s ?_;unfold n44
 simp (disch:=try exact DI) only [↓PR,QR,simprocAttr]
 have h:=RS.new (T:=50) (cs := #[.string ByteArray.empty,.bool false,.int .i64 0]) h hB hl
 generalize World.alloc w _=V at h ⊢
 generalize w.heap.size=q at h ⊢
 clear hB hl
 refine h.name (fun x us w1 hx h=>?_) fun hn=>by unfold staP;rw [hn];rfl
 have hsub:=nameP_sub hx
 unfold n44c4
 simp (disch:=try exact DI) only [↓PR,QR,simprocAttr,(cells_of_heap h.ob).1,(cells_of_heap h.ob).2]
 have h:=h.set 0 (.string x)
 generalize World.setCell w1 _ _=w2 at h ⊢
 refine h.skip kWait fun w3 h=>?_
 unfold n44c3
 have fin:∀ (n:Int) (vs:List ByteArray) (w':World),waitP us=some (n,vs)→RS w p lines at_ lv B q 50 w' vs #[.string x,.bool false,.int .i64 n]→callK Pg 107 #[.pointer (some ⟨p,0,none⟩),.string kFinal] (panK (WrR w p lines at_ lv B ((staP ws).map fun s=>(staVal s,[])))) w' fun t17 w'=>n44c1 (.pointer (some ⟨p,0,none⟩)) (.pointer (some ⟨q,0,none⟩)) t17 (WrR w p lines at_ lv B ((staP ws).map fun s=>(staVal s,[]))) w':=by
  intro n vs w' hv h
  have hst:staP ws=endP (⟨x,skipB kFinal vs,n⟩:StaD) (tailIf (skipB kFinal vs) vs):=by
   unfold staP
   rw [hx]
   simp only [Option.bind_some]
   rw [hv]
   rfl
  refine h.skip kFinal fun w4 h=>?_
  unfold n44c1
  simp (disch:=try exact DI) only [↓PR,QR,simprocAttr,(cells_of_heap h.ob).1,(cells_of_heap h.ob).2]
  have h:=h.set 1 (.bool (skipB kFinal vs))
  generalize World.setCell w4 _ _=w5 at h ⊢
  refine h.fin (fun hn=>by rw [hst];unfold endP;rw [if_neg hn];rfl) fun w6 hv6 h=>?_
  have h:RS w p lines at_ lv B q 50 w6 [] #[.string x,.bool (skipB kFinal vs),.int .i64 n]:=h
  simp (disch:=try exact DI) only [↓PR,QR,simprocAttr,(cells_of_heap h.ob).1,(cells_of_heap h.ob).2]
  have h:=((h.set 0 (.string x)).set 1 (.bool (skipB kFinal vs))).set 2 (.int .i64 n)
  exact h.ret (by rw [hst,hv6];rfl)
 cases hs:skipB kWait us with
 | true =>
  rw [hs] at h
  simp (disch:=try exact DI) only [↓PR,QR,simprocAttr]
  refine RS.num hE eB hp (fun y hy=>hz y (hsub y (tail_sub hy))) h (fun n vs w4 hn h=>?_) fun hn=>?_
  · unfold n44c2
    simp (disch:=try exact DI) only [↓PR,QR,simprocAttr,(cells_of_heap h.ob).1,(cells_of_heap h.ob).2]
    have h:=h.set 2 (.int .i64 n)
    generalize World.setCell w4 _ _=w5 at h ⊢
    have hw:waitP us=if n=0 then none else some (n,vs):=by
     unfold waitP
     rw [if_pos hs]
     have hn:numP us.tail=some (n,vs):=hn
     rw [hn]
     rfl
    have d1:(n != 0)=!decide (n=0):=by rw [Bool.eq_iff_iff];simp
    rw [d1]
    refine h.must (fun hb=>?_) fun w6 hb h=>?_
    · have:n=0:=by simpa using hb
      unfold staP
      rw [hx]
      simp only [Option.bind_some]
      rw [hw,if_pos this]
      rfl
    · have:¬ n=0:=by simpa using hb
      exact fin n vs w6 (by rw [hw,if_neg this]) h
  · unfold staP
    rw [hx]
    simp only [Option.bind_some]
    unfold waitP
    rw [if_pos hs]
    have hn:numP us.tail=none:=hn
    rw [hn]
    rfl
 | false =>
  rw [hs] at h
  simp (disch:=try exact DI) only [↓PR,QR,simprocAttr]
  exact fin 0 us w3 (by unfold waitP;rw [if_neg (by rw [hs];simp)]) h
abbrev stpZ (fr to:ByteArray) (kd:Int) (m pr c:ByteArray) (lo hi ad:Int):Array Value := #[.string fr,.string to,.int .i64 kd,.string m,.string pr,.string c,.int .i64 lo,.int .i64 hi,.int .i64 ad]
theorem step_end {O:Option (Value×List ByteArray)} {q:Nat} {us:List ByteArray} {x:StpD} {w0:World} (h:RS w0 p lines at_ lv B q 71 w us (stpCells x).toArray) (hO:O=(endP x us).map fun s=>(stpVal s,[])) :
 n45c1 (.pointer (some ⟨p,0,none⟩)) (.pointer (some ⟨q,0,none⟩)) (WrR w0 p lines at_ lv B O) w:=by
 unfold n45c1
 refine h.fin (fun hn=>by rw [hO];unfold endP;rw [if_neg hn];rfl) fun w6 hv6 h=>?_
 simp (disch:=try exact DI) only [↓PR,QR,simprocAttr,(cells_of_heap h.ob).1]
 rw [op_storeO ty71 h.ob (vs:=stpCells x) rfl (Nat.le_refl _) (by intro v hv;simp only [List.mem_cons,List.not_mem_nil,or_false] at hv;rcases hv with rfl | rfl | rfl | rfl | rfl | rfl | rfl | rfl | rfl<;>rfl)]
 have h:=h.setAll (stpCells x) rfl
 simp (disch:=try exact DI) only [↓PR,QR,simprocAttr,(cells_of_heap h.ob).1]
 refine h.ret ?_
 rw [hO,hv6]
 rfl
theorem step_when (hE:EnvOK WB) {O:Option (Value×List ByteArray)} {q:Nat} {us:List ByteArray} {fr to m pr:ByteArray} {kd:Int} {w0:World} (eB:Ext WB w0) (hp:WB.heap.size≤p) (hz:∀ x∈us,x.size≤100000) (h:RS w0 p lines at_ lv B q 71 w us (stpZ fr to kd m pr ByteArray.empty 0 0 0))
 (hO:O=((whenP us).bind fun h=>endP (⟨fr,to,kd,m,pr,h.1.counter,h.1.low,h.1.high,h.1.add⟩:StpD) h.2).map fun s=>(stpVal s,[])) :
 n45c4 (.pointer (some ⟨p,0,none⟩)) (.pointer (some ⟨q,0,none⟩)) (WrR w0 p lines at_ lv B O) w:=by
 unfold n45c4
 refine h.skip kWhen fun w1 h=>?_
 unfold whenP at hO
 cases hs:skipB kWhen us with
 | false =>
  rw [hs] at h hO
  rw [if_neg (by simp)] at hO
  simp (disch:=try exact DI) only [↓PR,QR,simprocAttr]
  exact step_end (x:=⟨fr,to,kd,m,pr,ByteArray.empty,0,0,0⟩) h hO
 | true =>
  rw [hs] at h hO
  rw [if_pos rfl] at hO
  simp (disch:=try exact DI) only [↓PR,QR,simprocAttr]
  have hz1:∀ x∈us.tail,x.size≤100000:=fun x hx=>hz x (List.mem_of_mem_tail hx)
  refine h.name (fun c l1 w2 h1 h=>?_) fun hn=>by have hn:nameP us.tail=none:=hn;rw [hO,hn];rfl
  have h1:nameP us.tail=some (c,l1):=h1
  rw [h1] at hO
  simp only [Option.bind_some] at hO
  have hz2:∀ x∈l1,x.size≤100000:=fun x hx=>hz1 x (nameP_sub h1 x hx)
  unfold n45c3
  simp (disch:=try exact DI) only [↓PR,QR,simprocAttr,(cells_of_heap h.ob).1,(cells_of_heap h.ob).2]
  have h:=h.set 5 (.string c)
  generalize World.setCell w2 _ _=w3 at h ⊢
  refine RS.num hE eB hp hz2 h (fun lo l2 w4 h2 h=>?_) fun hn=>by rw [hO,hn];rfl
  rw [h2] at hO
  simp only [Option.bind_some] at hO
  have hz3:∀ x∈l2,x.size≤100000:=fun x hx=>hz2 x (numP_sub h2 x hx)
  refine RS.num hE eB hp hz3 h (fun hi l3 w5 h3 h=>?_) fun hn=>by rw [hO,hn];rfl
  rw [h3] at hO
  simp only [Option.bind_some] at hO
  have hz4:∀ x∈l3,x.size≤100000:=fun x hx=>hz3 x (numP_sub h3 x hx)
  refine RS.num hE eB hp hz4 h (fun ad l4 w6 h4 h=>?_) fun hn=>by rw [hO,hn];rfl
  rw [h4] at hO
  simp only [Option.bind_some] at hO
  unfold n45c2
  simp (disch:=try exact DI) only [↓PR,QR,simprocAttr,(cells_of_heap h.ob).1,(cells_of_heap h.ob).2]
  have h:=((h.set 6 (.int .i64 lo)).set 7 (.int .i64 hi)).set 8 (.int .i64 ad)
  exact step_end (x:=⟨fr,to,kd,m,pr,c,lo,hi,ad⟩) h hO
end
section
variable {WB w w0:World} {p at_ B q:Nat} {lines us ws:List ByteArray} {lv:Value}
theorem step_rest (hE:EnvOK WB) {O:Option (Value×List ByteArray)} {fr to:ByteArray} {kd:Int} (eB:Ext WB w0) (hp:WB.heap.size≤p) (hz:∀ x∈us,x.size≤100000) (h:RS w0 p lines at_ lv B q 71 w us (stpZ fr to kd ByteArray.empty ByteArray.empty ByteArray.empty 0 0 0)) (hk:kd=0∨1≤kd∧kd≤4)
 (hO:O=(if kd=0 then none else (msgP kd us).bind fun m=>(whenP m.2).bind fun h=>endP (⟨fr,to,kd,m.1.1,m.1.2,h.1.counter,h.1.low,h.1.high,h.1.add⟩:StpD) h.2).map fun s=>(stpVal s,[])) :
 n45c8 (.pointer (some ⟨p,0,none⟩)) (.pointer (some ⟨q,0,none⟩)) (WrR w0 p lines at_ lv B O) w:=by
 unfold n45c8
 have d0:(kd != 0)=!decide (kd=0):=by rw [Bool.eq_iff_iff];simp
 simp (disch:=try exact DI) only [↓PR,QR,simprocAttr,(cells_of_heap h.ob).1,d0]
 refine h.must (fun hb=>?_) fun w1 hb h=>?_
 · have:kd=0:=by simpa using hb
   rw [hO,if_pos this];rfl
 have hk0:¬ kd=0:=by simpa using hb
 have hki:1≤kd∧kd≤4:=by omega
 rw [if_neg hk0] at hO
 refine drawK_intro ?_
 have eD:Ext w1 (Sw.drew w1):=(Ext.refl w1).drew
 have h:=h.ext eD
 generalize (Sw.drew w1)=D at h ⊢
 clear eD
 unfold n45c7
 simp (disch:=try exact DI) only [↓PR,QR,simprocAttr,(cells_of_heap h.ob).1]
 refine callK_ret (kinds_ret _) ?_
 rintro _ w2 ⟨mm,L,cc,rfl,hm,hM,hL,e2⟩
 refine narrowK_EC e2 ?_
 have h:=h.ext e2
 unfold n45c6
 rw [qV_kind1 hM,hL,if_pos hki,Option.getD_some]
 unfold msgP at hO
 cases hs:speaksB kd with
 | false =>
  rw [hs,if_neg (by simp)] at hO
  simp (disch:=try exact DI) only [↓PR,QR,simprocAttr,hs]
  exact step_when hE eB hp hz h hO
 | true =>
  rw [hs,if_pos rfl] at hO
  simp (disch:=try exact DI) only [↓PR,QR,simprocAttr,hs]
  refine h.name (fun m l1 w3 h1 h=>?_) fun hn=>by rw [hO,hn];rfl
  rw [h1] at hO
  simp only [Option.bind_some] at hO
  have hz1:∀ x∈l1,x.size≤100000:=fun x hx=>hz x (nameP_sub h1 x hx)
  refine h.name (fun pr l2 w4 h2 h=>?_) fun hn=>by rw [hO,hn];rfl
  rw [h2] at hO
  simp only [Option.bind_some] at hO
  have hz2:∀ x∈l2,x.size≤100000:=fun x hx=>hz1 x (nameP_sub h2 x hx)
  unfold n45c5
  simp (disch:=try exact DI) only [↓PR,QR,simprocAttr,(cells_of_heap h.ob).1,(cells_of_heap h.ob).2]
  have h:=(h.set 3 (.string m)).set 4 (.string pr)
  exact step_when hE eB hp hz2 h hO
theorem kindP_range (s:ByteArray):kindP s=0∨1≤kindP s∧kindP s≤4:=by
 by_cases h:kindP s=0
 · exact .inl h
 · exact .inr (kindP_inv h).2
theorem step_wr (hE:EnvOK WB) (eB:Ext WB w) (hp:WB.heap.size≤p) (hz:∀ x∈ws,x.size≤100000) (h:Rd w p lines at_ ws lv B) (hB:B < w.heap.size) (hl:∀ A n c,lv = .slice (some A) n c→A.block < w.heap.size) :
 Calls Pg 91 #[.pointer (some ⟨p,0,none⟩)] w (WrR w p lines at_ lv B ((stpP ws).map fun s=>(stpVal s,[]))):=by
 have hpw:p < w.heap.size:=by
  obtain ⟨wv,h⟩:=h
  exact (Array.getElem?_eq_some_iff.1 h.obj).1
 refine n45s ?_;unfold n45
 simp (disch:=try exact DI) only [↓PR,QR,simprocAttr]
 have h:=RS.new (T:=71) (cs:=stpZ ByteArray.empty ByteArray.empty 0 ByteArray.empty ByteArray.empty ByteArray.empty 0 0 0) h hB hl
 have hqV:w.heap.size < (World.alloc w (.cells (stpZ ByteArray.empty ByteArray.empty 0 ByteArray.empty ByteArray.empty ByteArray.empty 0 0 0) 71)).heap.size:=by rw [World.size_alloc];omega
 generalize hO:(stpP ws).map (fun s=>(stpVal s,([]:List ByteArray)))=O at h ⊢
 have hO:=hO.symm
 unfold stpP at hO
 generalize World.alloc w _=V at h hqV ⊢
 generalize hq:w.heap.size=q at h hqV ⊢
 refine h.name (fun fr us1 w1 h1 h=>?_) fun hn=>by rw [hO,hn];rfl
 rw [h1] at hO
 simp only [Option.bind_some] at hO
 refine h.name (fun to us2 w2 h2 h=>?_) fun hn=>by rw [hO,hn];rfl
 rw [h2] at hO
 simp only [Option.bind_some] at hO
 unfold n45c11
 simp (disch:=try exact DI) only [↓PR,QR,simprocAttr,(cells_of_heap h.ob).1,(cells_of_heap h.ob).2]
 have h:RS w p lines at_ lv B q 71 _ us2 (stpZ fr to 0 ByteArray.empty ByteArray.empty ByteArray.empty 0 0 0):=(h.set 0 (.string fr)).set 1 (.string to)
 generalize World.setCell _ _ _=w3 at h ⊢
 refine h.word (fun wd us3 w4 h3 h=>?_) fun hn=>by rw [hO,hn];rfl
 rw [h3] at hO
 simp only [Option.bind_some] at hO
 have hz3:∀ x∈us3,x.size≤100000:=fun x hx=>hz x (nameP_sub h1 x (nameP_sub h2 x (by
  cases us2 with
  | nil=>cases h3
  | cons a r=>injection h3 with h3;injection h3 with e1 e2;subst e2;exact List.mem_cons_of_mem _ hx)))
 refine callK_ret (kinds_ret _) ?_
 rintro _ w5 ⟨mm,L,cc,rfl,hm,hM,hL,e5⟩
 have h:=h.ext e5
 have hqs:q < w5.heap.size:=(Array.getElem?_eq_some_iff.1 h.ob).1
 have hws:w.heap.size≤w5.heap.size:=h.sv.size
 rw [op_rangeMap (enc:=kEnc) Tryz.underlying90 hM]
 have hI:=iter_new w5 mm cc
 have eI:Ext w5 (w5.alloc (.mapIter (some mm) cc #[] cc)):=(Ext.refl w5).alloc _
 have hfar:Far w p B q lv w5.heap.size:=⟨hws,by omega,by omega,hqs,fun A n c e=>Nat.lt_of_lt_of_le (hl A n c e) hws⟩
 have h:=h.ext eI
 have hM:=hM.ext eI
 have hml:mm < w5.heap.size:=by
  have:=hM.obj
  have h1:=(Array.getElem?_eq_some_iff.1 this).1
  rw [World.size_alloc] at h1
  rcases Nat.lt_or_ge mm w5.heap.size with h' | h'
  · exact h'
  · have:mm=w5.heap.size:=by omega
    subst this
    have:=hM.obj
    rw [hI] at this
    cases this
 generalize hi:w5.heap.size=i at hI eI hfar hml ⊢
 clear hq hqV hqs hws hi e5 hm
 generalize World.alloc w5 _=w6 at h hI hM eI ⊢
 refine loop0_intro (fun w'=>∃ (seen:Array Nat) (kd:Int),RS w p lines at_ lv B q 71 w' us3 (stpZ fr to kd ByteArray.empty ByteArray.empty ByteArray.empty 0 0 0)∧MapB w' mm kEnc L cc∧IterAt w' i mm cc seen∧(kd=0∨kd=kindP wd)∧∀ x∈L,seen.contains x.2.2=true→kwB x.1=wd→kd=kindP wd) (iterLeft kEnc L i) ⟨#[],0,h,hM,hI,.inl rfl,fun x _ hx=>by simp at hx⟩ ?_
 rintro w7 ⟨seen,kd,h,hM,hI,hkd,hsn⟩
 unfold n45c10
 have hiw:i < w7.heap.size:=(Array.getElem?_eq_some_iff.1 hI).1
 have hkk:∀ x∈L,1≤x.1∧x.1≤4∧x.2.1 = .agg (kindCells x.1).toArray:=fun x hx=>by
  have h1:=look_mem hM hx
  rw [hL x.1] at h1
  split at h1
  · rename_i hc
    injection h1 with h1
    exact ⟨hc.1,hc.2,h1.symm⟩
  · cases h1
 refine op_nextMap (enc:=kEnc) hM hI (fun hz0=>?_) (fun x w8 hxL hxs hx8 hM8 hI8 hs8 hz8 hlt8=>?_)
 · simp (disch:=try exact DI) only [↓PR,QR,simprocAttr]
   have hk:kd=kindP wd:=by
    rcases hkd with h0 | h0
    · by_cases hw:kindP wd=0
      · rw [h0,hw]
      · obtain ⟨a,b⟩:=kindP_inv hw
        have hlk:=hL (kindP wd)
        rw [if_pos b] at hlk
        obtain ⟨x,hx,hx1,_⟩:=look_has hlk
        exact hsn x hx (by have:=iterLeft_zero hM hz0 hx;rwa [IterAt.seenEq hI] at this) (by rw [hx1];exact a.symm)
    · exact h0
   subst hk
   exact step_rest hE eB hp hz3 h (kindP_range wd) hO
 · obtain ⟨hx1,hx4,hxv⟩:=hkk x hxL
   have h:=h.far hfar (Nat.le_refl _) hx8 hs8 (by omega)
   simp (disch:=try exact DI) only [↓PR,QR,simprocAttr,↓n45c9]
   rw [op_entryMap (enc:=kEnc) hM8 hxL hI8,hxv]
   simp (disch:=try exact DI) only [↓PR,QR,simprocAttr]
   generalize hV:World.alloc w8 _=V
   have eV:Ext w8 V:=by rw [← hV];exact (Ext.refl w8).alloc _
   have oV:V.heap[w8.heap.size]?=some (.cells zeroK 89 (0,0)):=by rw [← hV];exact heap_new _ _ _
   clear hV
   have h:=h.ext eV
   have hM9:=hM8.ext eV
   have hI9:=hI8.ext eV
   have hlt9:iterLeft kEnc L i V < iterLeft kEnc L i w7:=by
    have:iterLeft kEnc L i V=iterLeft kEnc L i w8:=by unfold iterLeft;rw [IterAt.seenEq hI8,IterAt.seenEq hI9]
    omega
   have hko:=kfV_one x.1
   have hj:i < w8.heap.size:=by omega
   generalize w8.heap.size=j at oV hj ⊢
   simp (disch:=try exact DI) only [↓PR,QR,simprocAttr,(cells_of_heap oV).1,(cells_of_heap oV).2]
   generalize hw9:World.setCell _ _ _=w9
   have hs9:∀ b,b≠j→w9.heap[b]?=V.heap[b]?:=fun b hb=>by
    rw [← hw9]
    simp only [Only.setCell _ j _ _ b hb]
   have hz9:w9.heap.size=V.heap.size:=by rw [← hw9];simp only [World.size_setCell]
   have hx9:∀ a,Ext a V→a.heap.size≤j→Ext a w9:=fun a e hj=>by
    rw [← hw9]
    exact ((e.setCell (p:=⟨j,0,none⟩) hj _).setCell (p:=⟨j,1,none⟩) hj _).setCell (p:=⟨j,2,none⟩) hj _
   clear hw9
   have h:=h.far hfar (Nat.le_of_lt hj) hx9 hs9 (by omega)
   have hM9:=hM9.of_obj (hs9 mm (by omega))
   have hI9:IterAt w9 i mm cc (seen.push x.2.2):=(hs9 i (by omega)).trans hI9
   have hlt9:iterLeft kEnc L i w9 < iterLeft kEnc L i w7:=by
    have:iterLeft kEnc L i w9=iterLeft kEnc L i V:=by unfold iterLeft World.iterSeen;rw [hs9 i (by omega)]
    omega
   have hpush:∀ kd':Int,(kwB x.1=wd→kd'=kindP wd)→(kd=kindP wd→kd'=kindP wd)→∀ y∈L,(seen.push x.2.2).contains y.2.2=true→kwB y.1=wd→kd'=kindP wd:=by
    intro kd' g1 g2 y hy hc hw
    rw [contains_push,Bool.or_eq_true,beq_iff_eq] at hc
    rcases hc with hc | hc
    · exact g2 (hsn y hy hc hw)
    · have:y=x:=by
       by_cases hne:y=x
       · exact hne
       · exfalso
         obtain ⟨a,ha⟩:=List.getElem?_of_mem hy
         obtain ⟨b,hb⟩:=List.getElem?_of_mem hxL
         have hp:=List.pairwise_iff_getElem.1 hM.births
         obtain ⟨a1,a2⟩:=List.getElem?_eq_some_iff.1 ha
         obtain ⟨b1,b2⟩:=List.getElem?_eq_some_iff.1 hb
         rcases Nat.lt_trichotomy a b with hab | hab | hab
         · exact hp a b a1 b1 hab (by rw [a2,b2];exact hc)
         · subst hab;exact hne (a2.symm.trans b2)
         · exact hp b a b1 a1 hab (by rw [a2,b2];exact hc.symm)
      subst this
      exact g1 hw
   by_cases hw:kwB x.1=wd
   · have d1:decide (kwB x.1=wd)=true:=decide_eq_true hw
     simp (disch:=try exact DI) only [↓PR,QR,simprocAttr,d1,(cells_of_heap h.ob).1,(cells_of_heap h.ob).2]
     have hkx:x.1=kindP wd:=by rw [← hw,kindP_kw ⟨hx1,hx4⟩]
     have h:=h.set 2 (.int .i64 x.1)
     refine ⟨⟨_,x.1,h,hM9.setCell _ _,?_,.inr hkx,hpush _ (fun _=>hkx) fun _=>hkx⟩,?_⟩
     · exact (Only.setCell w9 q 2 _ i (by have:=hfar.q;omega)).trans hI9
     · have:iterLeft kEnc L i (w9.setCell ⟨q,2,none⟩ (.int .i64 x.1))=iterLeft kEnc L i w9:=by
        unfold iterLeft World.iterSeen
        rw [Only.setCell w9 q 2 _ i (by have:=hfar.q;omega)]
       show iterLeft kEnc L i (w9.setCell ⟨q,2,none⟩ (.int .i64 x.1)) < _
       omega
   · have d1:decide (kwB x.1=wd)=false:=decide_eq_false hw
     simp (disch:=try exact DI) only [↓PR,QR,simprocAttr,d1]
     exact ⟨⟨_,kd,h,hM9,hI9,hkd,hpush _ (fun e=>absurd e hw) fun e=>e⟩,hlt9⟩
end
abbrev TRol:TypeId:=26
theorem OwnE.keep {α:Type} {w w':World} {base n:Nat} {T:TypeId} {enc:α→List Value} {v:Value} {l:List α} (h:OwnE w base T n enc v l) (hk:∀ b,v.ownBlock=some b→w'.heap[b]?=w.heap[b]?):OwnE w' base T n enc v l:=by
 obtain ⟨h1,h2⟩:=h
 refine ⟨h1,?_⟩
 rcases h2 with h2 | ⟨g,cap,cur,hv,a1,a2,a3⟩
 · exact .inl h2
 · exact .inr ⟨g,cap,cur,hv,a1,by rw [hk g (by rw [hv];rfl)];exact a2,a3⟩
def RolOwn (w:World) (base:Nat) (v:Value) (r:RolD):Prop:=∃ sv cv tv,v = .agg (rolCells r sv cv tv).toArray∧OwnE w base 50 3 staCells sv r.states∧OwnE w base 52 2 cntCells cv r.counters∧OwnE w base 71 9 stpCells tv r.steps
theorem RolOwn.val {w:World} {base:Nat} {v:Value} {r:RolD} (h:RolOwn w base v r):RolVal w v r:=by
 obtain ⟨sv,cv,tv,hv,h1,h2,h3⟩:=h
 exact ⟨sv,cv,tv,hv,h1.slice (fun _=>rfl) (fun _ _=>rfl),h2.slice (fun _=>rfl) (fun _ _=>rfl),h3.slice (fun _=>rfl) (fun _ _=>rfl)⟩
def RoR (w0:World) (p:Nat) (lines:List ByteArray) (lv:Value) (at0:Nat) (res:Option RolD×Nat):Ending→World→Prop:=fun e w'=>Save p (p+1) w0 w'∧match res.1 with
 | some r=>∃ v,e = .returned v∧RolOwn w' w0.heap.size v r∧∃ ws B,Rd w' p lines (at0+res.2) ws lv B∧B < w'.heap.size∧w0.heap.size≤B
 | none=>e = .panicked (wrongE ((at0+res.2:Nat):Int))
def accP {α:Type} (kw:ByteArray) (p:List ByteArray→Option α) (F:List α→List (List ByteArray)→Nat→Option RolD×Nat) (acc:List α) (L:List (List ByteArray)) (n:Nat):Option RolD×Nat:=match manyP kw p L with
 | (none,k)=>(none,n+k)
 | (some l,k)=>F (acc++l) (L.drop k) (n+k)
theorem accP_step {α:Type} {kw:ByteArray} {p:List ByteArray→Option α} {F:List α→List (List ByteArray)→Nat→Option RolD×Nat} {acc:List α} {L:List (List ByteArray)} {n:Nat} {ws:List ByteArray} {a:α} (h:p ws=some a):accP kw p F acc ((kw::ws)::L) n=accP kw p F (acc++[a]) L (n+1):=by
 unfold accP
 rw [manyP,if_pos rfl,h]
 simp only
 cases manyP kw p L with
 | mk o k =>
  cases o with
  | none=>simp only [Option.map_none];congr 1;omega
  | some l =>
   simp only [Option.map_some,List.drop_succ_cons,List.append_assoc,List.cons_append,List.nil_append]
   congr 1;omega
theorem accP_fail {α:Type} {kw:ByteArray} {p:List ByteArray→Option α} {F:List α→List (List ByteArray)→Nat→Option RolD×Nat} {acc:List α} {L:List (List ByteArray)} {n:Nat} {ws:List ByteArray} (h:p ws=none):accP kw p F acc ((kw::ws)::L) n=(none,n+1):=by
 unfold accP
 rw [manyP,if_pos rfl,h]
theorem accP_stop {α:Type} {kw:ByteArray} {p:List ByteArray→Option α} {F:List α→List (List ByteArray)→Nat→Option RolD×Nat} {acc:List α} {L:List (List ByteArray)} {n:Nat} (h:∀ w∈L.head?,∀ k∈w.head?,k≠kw):accP kw p F acc L n=F acc L n:=by
 unfold accP
 rw [many_stop h]
 simp
theorem drop_words {lines:List ByteArray} {n:Nat} {x:ByteArray} {ws:List ByteArray} (h:lines[n]?=some x) (hs:spW x=ws):(lines.map spW).drop n=ws::(lines.map spW).drop (n+1):=by
 obtain ⟨h1,h2⟩:=List.getElem?_eq_some_iff.1 h
 rw [List.drop_eq_getElem_cons (by rw [List.length_map];exact h1),List.getElem_map,h2,hs]
theorem no_words {lines:List ByteArray} {n:Nat} {kw:ByteArray} (h:∀ x l,lines[n]?=some x→spW x≠kw::l):∀ w∈((lines.map spW).drop n).head?,∀ k∈w.head?,k≠kw:=by
 intro w hw k hk e
 subst e
 rw [List.head?_drop,List.getElem?_map] at hw
 cases hx:lines[n]? with
 | none=>rw [hx] at hw;cases hw
 | some x =>
  rw [hx] at hw
  injection hw with hw
  subst hw
  cases hs:spW x with
  | nil=>rw [hs] at hk;cases hk
  | cons a l =>
   rw [hs] at hk
   injection hk with hk
   subst hk
   exact h x l hx hs
theorem spW_sub {x y:ByteArray} (h:y∈spW x):y.size≤x.size:=split_sub h
def atOf (p:Nat) (w:World):Nat:=match w.cell? ⟨p,1,none⟩ with
 | some (.int _ n)=>n.toNat
 | _=>0
theorem Rd.at {w:World} {p at_ B:Nat} {lines ws:List ByteArray} {lv:Value} (h:Rd w p lines at_ ws lv B):atOf p w=at_:=by
 obtain ⟨wv,h⟩:=h
 unfold atOf
 rw [(cells_of_heap h.obj).1]
 rfl
theorem set_same {cs:Array Value} {i:Nat} {v:Value} (h:cs[i]?=some v):cs.setIfInBounds i v=cs:=by
 apply Array.ext_getElem?
 intro j
 rw [Array.getElem?_setIfInBounds]
 by_cases hij:i=j
 · subst hij
   have:=(Array.getElem?_eq_some_iff.1 h).1
   rw [if_pos rfl,if_pos this,h]
 · rw [if_neg hij]
structure RC (w0 W:World) (p q:Nat) (lv:Value):Prop where
 zw:w0.heap.size≤W.heap.size
 zp:p < W.heap.size
 zq:q < W.heap.size
 qp:q≠p
 z0:w0.heap.size≤q
 zl:∀ A n c,lv = .slice (some A) n c→A.block < W.heap.size∧A.block≠q
structure RL {α:Type} (w0 W:World) (p:Nat) (lines:List ByteArray) (lv:Value) (q:Nat) (T:TypeId) (n:Nat) (enc:α→List Value) (w:World) (at_:Nat) (vv:Value) (l:List α) (ws:List ByteArray) (B:Nat):Prop where
 rd:Rd w p lines at_ ws lv B
 Bq:B≠q
 Bw:B < w.heap.size
 Bl:w0.heap.size≤B
 Bv:∀ b,vv.ownBlock=some b→b≠B
 own:OwnE w W.heap.size T n enc vv l
 sv:Save p (p+1) w0 w
 kp:∀ b,b < W.heap.size→b≠p→b≠q→w.heap[b]?=W.heap[b]?
 sz:W.heap.size≤w.heap.size
section
variable {α:Type} {w0 W w w1 w4:World} {p q n at_ at1 B B' i:Nat} {lines ws us:List ByteArray} {lv vv:Value} {T:TypeId} {enc:α→List Value} {l l':List α} {cs:Array Value}
theorem RL.row (h:RL w0 W p lines lv q T n enc w at_ vv l ws B):∀ b,vv.ownBlock=some b→W.heap.size≤b∧b < w.heap.size:=World.ownsRow.lt h.own
theorem RL.obS (h:RL w0 W p lines lv q T n enc w at_ vv l ws B) (hc:RC w0 W p q lv) (ho:w.heap[q]?=some (.cells cs TRol (0,0))) (hs:Save p (p+1) w w1):w1.heap[q]?=some (.cells cs TRol (0,0)):=hs.obj ho (by have:=hc.qp;omega)
theorem RL.move (h:RL w0 W p lines lv q T n enc w at_ vv l ws B) (hc:RC w0 W p q lv) (hs:Save p (p+1) w w1) (hr:Rd w1 p lines at1 us lv B') (h1:B'≠q) (h2:B' < w1.heap.size) (h4:w0.heap.size≤B') (h3:∀ b,vv.ownBlock=some b→b≠B'):RL w0 W p lines lv q T n enc w1 at1 vv l us B':=by
 have:=hc.zp
 refine ⟨hr,h1,h2,h4,h3,OwnE.keep h.own fun b hb=>?_,h.sv.trans hs,fun b hb h1 h2=>?_,Nat.le_trans h.sz hs.size⟩
 · obtain ⟨a1,a2⟩:=h.row b hb
   exact hs.block b a2 (by omega)
 · have:=h.sz
   exact (hs.block b (by omega) (by omega)).trans (h.kp b hb h1 h2)
theorem RL.save (h:RL w0 W p lines lv q T n enc w at_ vv l ws B) (hc:RC w0 W p q lv) (hs:Save p (p+1) w w1) (hr:Rd w1 p lines at_ us lv B):RL w0 W p lines lv q T n enc w1 at_ vv l us B:=h.move hc hs hr h.Bq (Nat.lt_of_lt_of_le h.Bw hs.size) h.Bl h.Bv
theorem RL.next (h:RL w0 W p lines lv q T n enc w at_ vv l ws B) (hc:RC w0 W p q lv) (hs:Save p (p+1) w w1) (hr:Rd w1 p lines at1 us lv B') (h1:w.heap.size≤B') (h2:B' < w1.heap.size):RL w0 W p lines lv q T n enc w1 at1 vv l us B':=by
 have:=hc.zq
 have:=h.sz
 have:=hc.zw
 exact h.move hc hs hr (by omega) h2 (by omega) fun b hb=>by have:=(h.row b hb).2;omega
theorem RL.ext (h:RL w0 W p lines lv q T n enc w at_ vv l ws B) (hc:RC w0 W p q lv) (e:Ext w w1):RL w0 W p lines lv q T n enc w1 at_ vv l ws B:=h.save hc (Save.of_ext e) (h.rd.ext e)
theorem Rd.same (h:Rd w p lines at_ ws lv B) (hp:w1.heap[p]?=w.heap[p]?) (hB:w1.heap[B]?=w.heap[B]?) (hl:∀ A n c,lv = .slice (some A) n c→w1.heap[A.block]?=w.heap[A.block]?):Rd w1 p lines at_ ws lv B:=by
 obtain ⟨wv,h⟩:=h
 exact ⟨wv,by rw [hp];exact h.obj,SliceOf_same h.ls hl (fun _ _ h=>h),SliceOf_same h.wd (fun A m c e=>by rw [h.wb A m c e];exact hB) (fun _ _ h=>h),h.lp,h.wb,h.bp⟩
theorem RL.put (h:RL w0 W p lines lv q T n enc w at_ vv l ws B) (hc:RC w0 W p q lv) (ho:w.heap[q]?=some (.cells cs TRol (0,0))) (hg:w.grownBy w4 vv.ownBlock) {g len cap:Nat} (hO:OwnE w4 W.heap.size T n enc (.slice (some ⟨g,0,none⟩) len cap) l') (hgg:vv.ownBlock=some g∨g=w.heap.size) (i:Nat) :
 RL w0 W p lines lv q T n enc (w4.setCell ⟨q,i,none⟩ (.slice (some ⟨g,0,none⟩) len cap)) at_ (.slice (some ⟨g,0,none⟩) len cap) l' ws B∧(w4.setCell ⟨q,i,none⟩ (.slice (some ⟨g,0,none⟩) len cap)).heap[q]?=some (.cells (cs.setIfInBounds i (.slice (some ⟨g,0,none⟩) len cap)) TRol (0,0)):=by
 have c1:=hc.zp
 have c2:=hc.zq
 have c3:=hc.zw
 have c4:=hc.z0
 have c5:=hc.qp
 have z1:=h.sz
 have z2:=hg.size
 have z3:=h.Bw
 have hrow:∀ b,vv.ownBlock=some b→W.heap.size≤b:=fun b hb=>(h.row b hb).1
 have sm:∀ b,b < W.heap.size→w4.heap[b]?=w.heap[b]?:=fun b hb=>hg.block b (by omega) fun e=>by have:=hrow b e.symm;omega
 have hgW:W.heap.size≤g:=by
  rcases hgg with e | e
  · exact hrow g e
  · omega
 have hgB:g≠B:=by
  rcases hgg with e | e
  · exact h.Bv g e
  · omega
 have hq4:w4.heap[q]?=some (.cells cs TRol (0,0)):=(sm q c2).trans ho
 refine ⟨⟨?_,h.Bq,?_,h.Bl,fun b hb=>?_,OwnE.keep hO fun b hb=>?_,?_,fun b hb h1 h2=>?_,?_⟩,heap_set hq4 _⟩
 · refine (h.rd.same (sm p c1) (hg.block B z3 fun e=>h.Bv B e.symm rfl) fun A m c e=>sm _ (hc.zl A m c e).1).other _ c5 (Ne.symm h.Bq) fun A m c e=>(hc.zl A m c e).2
 · rw [World.size_setCell];omega
 · injection hb with hb
   subst hb
   exact hgB
 · injection hb with hb
   have hb:g=b:=hb
   exact Only.setCell w4 q i _ b (by omega)
 · refine Save.setNew ⟨hg.os.trans h.sv.os,hg.tape.trans h.sv.tape,hg.output.trans h.sv.output,Nat.le_trans h.sv.size z2,fun b hb hr=>(sm b (by omega)).trans (h.sv.block b hb hr)⟩ c4 _
 · exact (Only.setCell w4 q i _ b h2).trans ((sm b hb).trans (h.kp b hb h1 h2))
 · rw [World.size_setCell];omega
theorem RL.start (hc:RC w0 W p q lv) (hr:Rd W p lines at_ ws lv B) (h1:B≠q) (h2:B < W.heap.size) (h4:w0.heap.size≤B) (hs:Save p (p+1) w0 W):RL w0 W p lines lv q T n enc W at_ (.slice none 0 0) [] ws B:=⟨hr,h1,h2,h4,(fun b hb=>by cases hb),OwnE.nil _ _ _ _ _,hs,fun _ _ _ _=>rfl,Nat.le_refl _⟩
end
def rowB (v:Value) (p:Nat):Nat:=v.ownBlock.getD p
theorem roR_ret {w0 w:World} {p at0 at_ B:Nat} {lines ws:List ByteArray} {lv v:Value} {res:Option RolD×Nat} {r:RolD} (hs:Save p (p+1) w0 w) (hres:res=(some r,at_ - at0)) (ha:at0≤at_) (hv:RolOwn w w0.heap.size v r) (hr:Rd w p lines at_ ws lv B) (hB:B < w.heap.size) (hBl:w0.heap.size≤B):RoR w0 p lines lv at0 res (.returned v) w:=by
 subst hres
 refine ⟨hs,v,rfl,hv,ws,B,?_,hB,hBl⟩
 rw [show at0+(at_ - at0)=at_ by omega]
 exact hr
theorem roR_pan {w0 w:World} {p at0 k:Nat} {lines:List ByteArray} {lv:Value} {res:Option RolD×Nat} (hs:Save p (p+1) w0 w) (hres:res=(none,k - at0)) (ha:at0≤k):panK (RoR w0 p lines lv at0 res) (wrongE (k:Int)) w:=by
 subst hres
 refine ⟨hs,?_⟩
 show Ending.panicked _=Ending.panicked _
 rw [show at0+(k - at0)=k by omega]
end Go.Proofs.YtngflmjncplkaaaGreatDoor
namespace Go.Sw
open Go.RowKit (Below)
section
variable {P:Program} {QP:List PanicEntry→World→Prop} {w:World}
theorem op_appendL {α:Type} {t ty T n m:Nat} {z:Value} {agg:Bool} {enc:α→List Value} {v:Value} {l l':List α} {base:Nat} {k:Value→World→Prop}
 (ht:P.underlying t=some (.slice T)) (hT:TyInfo P T agg n m z) (hz:z.cells.size=n) (h0:0 < n) (hn:∀ x,(enc x).length=n) (h1:∀ x,x∈l'→∀ u∈enc x,u.oneCell'=true)
 (hown:OwnE w base T n enc v l) {b o c:Nat} (hc:∀ j x,l'[j]?=some x→ElemAt w b (o+j*n) (enc x)) (hbase:base≤w.heap.size) (hl':0 < l'.length) (hm:(l.length+l'.length)*m≤140737488355328) (hb:l.length+l'.length≤140737488355328)
 (hk:∀ g cap w',OwnE w' base T n enc (.slice (some ⟨g,0,none⟩) (l.length+l'.length) cap) (l++l')→w.grownBy w' v.ownBlock→(v.ownBlock=some g∨g=w.heap.size)→g < w'.heap.size→k (.slice (some ⟨g,0,none⟩) (l.length+l'.length) cap) w') :
 opV P (Builtin.append_ #[t,t] ty #[v,.slice (some ⟨b,o,none⟩) l'.length c]) QP w k:=by
 obtain ⟨⟨i,hi,hs,hby,hzz⟩,_⟩:=hT
 have hfl:(l'.flatMap enc).length=l'.length*n:=by
  clear hm hb hc h1 hk hl'
  induction l' with
  | nil=>simp
  | cons a l ih=>rw [List.flatMap_cons,List.length_append,hn,ih,List.length_cons,Nat.add_mul];omega
 have hcells:∀ j u,(l'.flatMap enc)[j]?=some u→w.cell? ((⟨b,o,none⟩:Addr).add j)=some u:=by
  intro j u hu
  have hj:j < l'.length*n:=by have:=(List.getElem?_eq_some_iff.1 hu).1;rwa [hfl] at this
  have hq:j / n < l'.length:=Nat.div_lt_of_lt_mul (by rw [Nat.mul_comm];exact hj)
  obtain ⟨x,hx⟩:=getElem?_lt hq
  have hjn:j % n < (enc x).length:=by rw [hn];exact Nat.mod_lt _ h0
  have hdm:j / n*n+j % n=j:=by rw [Nat.mul_comm];exact Nat.div_add_mod j n
  have hg:=flatMap_get hn l' (j / n) x (j % n) _ hx (List.getElem?_eq_getElem hjn)
  rw [hdm,hu] at hg
  injection hg with hg
  rw [Addr.add_lit]
  have:=hc _ _ hx (j % n) _ (List.getElem?_eq_getElem hjn)
  rw [hg,← this]
  congr 2;omega
 obtain ⟨g,cap,w',hr,ho,hg,hgl,hlt⟩:=run_append_lies (P:=P) (w:=w) t ty base T i z n m ht hi hzz hs hby hz h0 v l.length (l.flatMap enc) hown ⟨b,o,none⟩ l'.length c (l'.flatMap enc) hfl hcells
  (by intro u hu;obtain ⟨x,hx,hux⟩:=List.mem_flatMap.1 hu;exact h1 x hx u hux) hl' (by simp only [maxLen];omega) hm hbase _ rfl
 rw [opV_ok hr]
 refine hk g cap w' ?_ hg hgl hlt
 unfold OwnE
 rw [List.flatMap_append,List.length_append];exact ho
end
end Go.Sw
namespace Go.Proofs.YtngflmjncplkaaaGreatDoor
open Sw
def n42c1 (t0 t2 t30:Value) (C3:World→Prop) (next2:World→Prop) (R:RT) (w:World):Prop :=
 qV Pg C3 (Instr.fieldAt 26 t2 2) fun t31 =>
 opU Pg (Instr.storeAt 23 t31 t30) (panK R) w fun w =>
 turnK w fun C4 w =>
 callK Pg 71 #[t0] (panK R) w fun t33 w =>
 next2 w
def n42c2 (t0 t2 t23 t25 t27:Value) (C3:World→Prop) (next2:World→Prop) (R:RT) (w:World):Prop :=
 qV Pg C3 (Instr.build 52 #[(0,t25),(1,t27)]) fun t28 =>
 opV Pg (Instr.buildSlice 23 1 #[(0,t28)]) (panK R) w fun t29 w =>
 C3 w∧(
 opV Pg (Builtin.append_ #[23,23] 23 #[t23,t29]) (panK R) w fun t30 w =>
 C3 w∧(
 n42c1 t0 t2 t30 C3 next2 R w))
def n42c3 (t0 t2:Value) (C3:World→Prop) (next2:World→Prop) (R:RT) (w:World):Prop :=
 qV Pg C3 (Instr.fieldAt 26 t2 2) fun t22 =>
 qV Pg C3 (Instr.loadAt 23 t22) fun t23 =>
 callK Pg 67 #[t0] (panK R) w fun t25 w =>
 C3 w∧(
 callK Pg 70 #[t0] (panK R) w fun t27 w =>
 C3 w∧(
 n42c2 t0 t2 t23 t25 t27 C3 next2 R w))
def n42c4 (t2 t37 t40:Value) (C6:World→Prop) (next5:World→Prop) (R:RT) (w:World):Prop :=
 opV Pg (Builtin.append_ #[22,22] 22 #[t37,t40]) (panK R) w fun t41 w =>
 C6 w∧(
 qV Pg C6 (Instr.fieldAt 26 t2 1) fun t42 =>
 opU Pg (Instr.storeAt 22 t42 t41) (panK R) w fun w =>
 turnK w fun C7 w =>
 next5 w)
def n42c5 (t0 t2:Value) (C6:World→Prop) (next5:World→Prop) (R:RT) (w:World):Prop :=
 qV Pg C6 (Instr.fieldAt 26 t2 1) fun t36 =>
 qV Pg C6 (Instr.loadAt 22 t36) fun t37 =>
 callK Pg 90 #[t0] (panK R) w fun t39 w =>
 C6 w∧(
 opV Pg (Instr.buildSlice 22 1 #[(0,t39)]) (panK R) w fun t40 w =>
 C6 w∧(
 n42c4 t2 t37 t40 C6 next5 R w))
def n42c6 (t2 t46 t49:Value) (C9:World→Prop) (next8:World→Prop) (R:RT) (w:World):Prop :=
 opV Pg (Builtin.append_ #[24,24] 24 #[t46,t49]) (panK R) w fun t50 w =>
 C9 w∧(
 qV Pg C9 (Instr.fieldAt 26 t2 3) fun t51 =>
 opU Pg (Instr.storeAt 24 t51 t50) (panK R) w fun w =>
 turnK w fun C10 w =>
 next8 w)
def n42c7 (t0 t2:Value) (C9:World→Prop) (next8:World→Prop) (R:RT) (w:World):Prop :=
 qV Pg C9 (Instr.fieldAt 26 t2 3) fun t45 =>
 qV Pg C9 (Instr.loadAt 24 t45) fun t46 =>
 callK Pg 91 #[t0] (panK R) w fun t48 w =>
 C9 w∧(
 opV Pg (Instr.buildSlice 24 1 #[(0,t48)]) (panK R) w fun t49 w =>
 C9 w∧(
 n42c6 t2 t46 t49 C9 next8 R w))
def n42c8 (t0 t2 t44:Value) (next8:World→Prop) (R:RT) (w:World):Prop :=
 condP t44 (
 drawK w fun C9 w =>
 n42c7 t0 t2 C9 next8 R w) (
 opV Pg (Instr.loadAt 26 t2) (panK R) w fun t52 w =>
 opU Pg (Instr.storeAt 26 t2 t52) (panK R) w fun w =>
 qW Pg 26 t2 w fun r0 =>
 R (.returned r0) w)
def n42c9 (t0 t2 t35:Value) (next5:World→Prop) (R:RT) (w:World):Prop :=
 condP t35 (
 drawK w fun C6 w =>
 n42c5 t0 t2 C6 next5 R w) (
 loop0 (fun w next8 =>
 callK Pg 65 #[t0,(.string { data := #[115,116,101,112] })] (panK R) w fun t44 w =>
 n42c8 t0 t2 t44 next8 R w) w)
def n42c10 (t0 t2 t21:Value) (next2:World→Prop) (R:RT) (w:World):Prop :=
 condP t21 (
 drawK w fun C3 w =>
 n42c3 t0 t2 C3 next2 R w) (
 loop0 (fun w next5 =>
 callK Pg 65 #[t0,(.string { data := #[115,116,97,116,101] })] (panK R) w fun t35 w =>
 n42c9 t0 t2 t35 next5 R w) w)
def n42c11 (t0 t2 t16:Value) (R:RT) (w:World):Prop :=
 opV Pg (Instr.fieldAt 26 t2 0) (panK R) w fun t17 w =>
 opU Pg (Instr.storeAt 9 t17 t16) (panK R) w fun w =>
 callK Pg 71 #[t0] (panK R) w fun t19 w =>
 loop0 (fun w next2 =>
 callK Pg 65 #[t0,(.string { data := #[99,111,117,110,116,101,114] })] (panK R) w fun t21 w =>
 n42c10 t0 t2 t21 next2 R w) w
def n42c12 (t0:Value) (K1:World→Prop) (R:RT) (w:World):Prop :=
 opN Pg (nilN t0) (panK R) w fun t7 w =>
 opV Pg (Instr.fieldAt 109 t7 1) (panK R) w fun t8 w =>
 opV Pg (Instr.loadAt 3 t8) (panK R) w fun t9 w =>
 opV Pg (binS .add 3 true t9 (.int .i64 1)) (panK R) w fun t10 w =>
 opN Pg (nilN t0) (panK R) w fun t11 w =>
 opV Pg (Instr.fieldAt 109 t11 1) (panK R) w fun t12 w =>
 opU Pg (Instr.storeAt 3 t12 t10) (panK R) w fun w =>
 callK Pg 66 #[t0,(.bool false)] (panK R) w fun t14 w =>
 K1 w
def n42c13 (t0 t2 t4:Value) (R:RT) (w:World):Prop :=
 opV Pg (Op.unary .not t4) (panK R) w fun t5 w =>
 joinK (fun (w:World) =>
 callK Pg 67 #[t0] (panK R) w fun t16 w =>
 n42c11 t0 t2 t16 R w) fun K1 =>
 condP t5 (
 n42c12 t0 K1 R w) (
 K1 w)
def n42 (t0:Value) (R:RT) (w:World):Prop :=
 opV Pg (Instr.alloc 26 true (.tuple #[])) (panK R) w fun t2 w =>
 callK Pg 65 #[t0,(.string { data := #[114,111,108,101] })] (panK R) w fun t4 w =>
 n42c13 t0 t2 t4 R w
set_option maxHeartbeats 40000000 in
theorem n42s {t0:Value} {R:RT} {w:World} (h:n42 t0 R w):Calls Pg 52 #[t0] w R:=by
 refine yD Tryz.func52 ?_
 refine zs<|zr<|yv h fun _ w h=>zn<|zk<|zs<|zs<|zr<|zm<|yc h c65 fun _ w h=>yv h fun _ w h=>zn<|zk<|yJ0 [6,7,8,9,10,11,12,13,14] h (fun _ _ hkK1 h=>?_) fun σ w h=>?_
 · refine yC h (fun h=>?_) fun h=>?_
   · refine zs<|zr<|zm<|yN h fun _ w h=>yv h fun _ w h=>yv h fun _ w h=>yb h fun _ w h=>yN h fun _ w h=>yv h fun _ w h=>yu h fun w h=>zn<|zk<|zr<|zm<|yc h c66 fun _ w h=>?_
     refine zn<|zk ?_
     exact zt hkK1 h
   refine sim_skip<|zk ?_
   exact zt hkK1 h
 refine zk<|zs<|zr<|zm<|yc h c67 fun _ w h=>yv h fun _ w h=>yu h fun w h=>zn<|zk<|zs<|zr<|zm<|yc h c71 fun _ w h=>zn<|zk ?_
 refine zs<|sim_block<|yl0 [20,21,22,23,24,25,26,27,28,29,30,31,32,33] h fun σ w next h=>zs<|zs<|zr<|zm<|yc h c65 fun _ w h=>zn<|zk<|yC h (fun h=>?_) fun h=>?_
 · refine sim_skip<|zk<|sim_block<|zs<|yh [22,23,24,25,26,27,28,29,30,31] h fun C hC h=>ye 0 hC h fun _ h=>?_
   refine ye 1 hC h fun _ h=>?_
   refine yw 2 hC ?_
   refine yw 4 hC ?_
   refine yo 3 ?_
   refine yc h c67 fun _ w h=>zn ?_
   obtain ⟨hC,h⟩:=h
   refine ⟨hC,?_⟩
   refine yo 5 ?_
   refine yc h c70 fun _ w h=>zn ?_
   obtain ⟨hC,h⟩:=h
   refine ⟨hC,?_⟩
   refine ye 6 hC h fun _ h=>?_
   refine yo 7 ?_
   refine yS h fun _ w h=>zn ?_
   obtain ⟨hC,h⟩:=h
   refine ⟨hC,?_⟩
   refine yo 8 ?_
   refine yx h fun _ w h=>zn ?_
   obtain ⟨hC,h⟩:=h
   refine ⟨hC,?_⟩
   refine ye 9 hC h fun _ h=>?_
   refine yq 10 1 ?_
   refine yu h fun w h=>zn ?_
   obtain ⟨C4,hC,h⟩:=h
   refine ⟨C4,hC,?_⟩
   exact yz<|zk<|zr<|zm<|yc h c71 fun _ w h=>zn<|sim_block_normal<|zk<|⟨rfl,h⟩
 refine sim_exit<|sim_then_exit<|sim_then_exit<|sim_block_hit<|zk<|zs<|sim_block<|yl0 [34,35,36,37,38,39,40,41,42] h fun σ w next h=>zs<|zs<|zr<|zm<|yc h c65 fun _ w h=>zn<|zk ?_
 refine yC h (fun h=>?_) fun h=>?_
 · refine sim_skip<|zk<|sim_block<|yh [36,37,38,39,40,41,42] h fun C hC h=>ye 0 hC h fun _ h=>?_
   refine ye 1 hC h fun _ h=>?_
   refine yw 2 hC ?_
   refine yo 3 ?_
   refine yc h c90 fun _ w h=>zn ?_
   obtain ⟨hC,h⟩:=h
   refine ⟨hC,?_⟩
   refine yo 4 ?_
   refine yS h fun _ w h=>zn ?_
   obtain ⟨hC,h⟩:=h
   refine ⟨hC,?_⟩
   refine yo 5 ?_
   refine yx h fun _ w h=>zn ?_
   obtain ⟨hC,h⟩:=h
   refine ⟨hC,?_⟩
   refine ye 6 hC h fun _ h=>?_
   refine yq 7 1 ?_
   refine yu h fun w h=>zn ?_
   obtain ⟨C7,hC,h⟩:=h
   refine ⟨C7,hC,?_⟩
   exact yz<|sim_block_normal<|zk<|⟨rfl,h⟩
 refine sim_exit<|sim_then_exit<|sim_then_exit<|sim_block_hit<|zk<|zs<|sim_block<|yl0 [43,44,45,46,47,48,49,50,51] h fun σ w next h=>zs<|zs<|zr<|zm<|yc h c65 fun _ w h=>zn<|zk ?_
 refine yC h (fun h=>?_) fun h=>?_
 · refine sim_skip<|zk<|sim_block<|yh [45,46,47,48,49,50,51] h fun C hC h=>ye 0 hC h fun _ h=>?_
   refine ye 1 hC h fun _ h=>?_
   refine yw 2 hC ?_
   refine yo 3 ?_
   refine yc h c91 fun _ w h=>zn ?_
   obtain ⟨hC,h⟩:=h
   refine ⟨hC,?_⟩
   refine yo 4 ?_
   refine yS h fun _ w h=>zn ?_
   obtain ⟨hC,h⟩:=h
   refine ⟨hC,?_⟩
   refine yo 5 ?_
   refine yx h fun _ w h=>zn ?_
   obtain ⟨hC,h⟩:=h
   refine ⟨hC,?_⟩
   refine ye 6 hC h fun _ h=>?_
   refine yq 7 1 ?_
   refine yu h fun w h=>zn ?_
   obtain ⟨C10,hC,h⟩:=h
   refine ⟨C10,hC,?_⟩
   exact yz<|sim_block_normal<|zk<|⟨rfl,h⟩
 exact sim_exit<|sim_then_exit<|sim_then_exit<|sim_block_hit<|zk<|zs<|zr<|yv h fun _ w h=>yu h fun w h=>zn<|zk<|sim_ret<|body_retC rfl rfl h
open Go.RowKit (intOf Below)
section
variable {WB w0 W:World} {p q at0 at1:Nat} {lines:List ByteArray} {lv:Value} {F:List StaD→List (List ByteArray)→Nat→Option RolD×Nat} {res:Option RolD×Nat} {cs:Array Value} {ws1:List ByteArray} {B1:Nat}
theorem role_states (hE:EnvOK WB) (eB:Ext WB w0) (hb:WB.heap.size≤p) (hlz:∀ x∈lines,x.size≤100000) (hn:lines.length≤100000) (hc:RC w0 W p q lv)
 (hW:RL w0 W p lines lv q 50 3 staCells W at1 (.slice none 0 0) [] ws1 B1) (hob:W.heap[q]?=some (.cells cs TRol (0,0))) (hcs:cs[1]?=some (.slice none 0 0)) (hat:at0≤at1) (hal:at1≤lines.length)
 (hres:res=accP kState staP F [] ((lines.map spW).drop at1) (at1 - at0))
 (hex:∀ w at_ vv l ws B,RL w0 W p lines lv q 50 3 staCells w at_ vv l ws B→w.heap[q]?=some (.cells (cs.setIfInBounds 1 vv) TRol (0,0))→at0≤at_→at_≤lines.length→res=F l ((lines.map spW).drop at_) (at_ - at0)→loop0 (fun w next=>callK Pg 65 #[.pointer (some ⟨p,0,none⟩),.string kStep] (panK (RoR w0 p lines lv at0 res)) w fun t w=>n42c8 (.pointer (some ⟨p,0,none⟩)) (.pointer (some ⟨q,0,none⟩)) t next (RoR w0 p lines lv at0 res) w) w) :
 loop0 (fun w next=>callK Pg 65 #[.pointer (some ⟨p,0,none⟩),.string kState] (panK (RoR w0 p lines lv at0 res)) w fun t w=>n42c9 (.pointer (some ⟨p,0,none⟩)) (.pointer (some ⟨q,0,none⟩)) t next (RoR w0 p lines lv at0 res) w) W:=by
 have hset0:cs.setIfInBounds 1 (.slice none 0 0)=cs:=set_same hcs
 have hi:1 < cs.size:=(Array.getElem?_eq_some_iff.1 hcs).1
 have c1:=hc.zp
 have c2:=hc.zq
 have c5:=hc.qp
 refine loop0_intro (fun w=>∃ at_ vv l ws B,RL w0 W p lines lv q 50 3 staCells w at_ vv l ws B∧w.heap[q]?=some (.cells (cs.setIfInBounds 1 vv) TRol (0,0))∧l.length+at1≤at_∧at_≤lines.length∧res=accP kState staP F l ((lines.map spW).drop at_) (at_ - at0)) (fun w=>lines.length - atOf p w) ⟨at1,_,[],ws1,B1,hW,by rw [hset0];exact hob,by simp,hal,hres⟩ ?_
 rintro w ⟨at_,vv,l,ws,B,h,ho,ha0,hal,hres⟩
 have hm:=h.rd.at
 refine callK_ret (next_ret hE (h.sv.to_ext eB hb) hb hlz hal hn h.rd kState) ?_
 rintro _ w1 ⟨hs1,⟨x,us,B',hx,hsp,rfl,⟨hB1,hB2⟩,hr1⟩ | ⟨hno,rfl,hr1⟩⟩
 · have ho:=h.obS hc ho hs1
   have h:=h.next hc hs1 hr1 hB1 hB2
   have hlt:=(List.getElem?_eq_some_iff.1 hx).1
   have hus:∀ y∈us,y.size≤100000:=fun y hy=>Nat.le_trans (spW_sub (x:=x) (by rw [hsp];exact List.mem_cons_of_mem _ hy)) (hlz x (List.mem_of_getElem? hx))
   have hdr:(lines.map spW).drop at_=(kState::us)::(lines.map spW).drop (at_+1):=drop_words hx hsp
   rw [hdr] at hres
   simp (disch:=try exact DI) only [↓PR,QR,simprocAttr,↓n42c9]
   have hq1:=h.row
   refine drawK_introB p (rowB vv p) (w1:=w1) (fun _ _ _ _=>rfl) ?_
   have eD:Ext w1 (Sw.drew w1):=(Ext.refl w1).drew
   have hKD:KB w1 p (rowB vv p) (Sw.drew w1):=fun _ _ _ _=>rfl
   have h:=h.ext hc eD
   have ho1:=ho
   have ho:=eD.obj ho
   have szD:=eD.size
   generalize Sw.drew w1=D at hKD h ho szD ⊢
   clear eD
   have hqb:q≠rowB vv p:=by
    unfold rowB
    cases hv:vv.ownBlock with
    | none=>exact c5
    | some b=>have:=(h.row b hv).1;show q≠b;omega
   have hqc:w1.cell? ⟨q,1,none⟩=some vv:=by rw [(cells_of_heap ho1).1,Array.getElem?_setIfInBounds_self_of_lt hi]
   have hov:vv.oneCell'=true:=SliceOf.oneCell (h.own.slice (E:=fun _ _ _=>True) (fun _=>rfl) (fun _ _=>trivial))
   unfold n42c5
   simp (disch:=try exact DI) only [↓PR,QR,simprocAttr,hqc]
   have hBD:=h.Bw
   refine callK_wr (state_wr hE (h.sv.to_ext eB hb) hb hus h.rd h.Bw fun A m c e=>by have:=(hc.zl A m c e).1;have:=h.sz;omega) (fun v us' w2 hov2 hr2 hs2=>?_) fun w2 hov2 hs2=>?_
   · cases hst:staP us with
     | none=>rw [hst] at hov2;cases hov2
     | some s =>
     rw [hst] at hov2
     injection hov2 with hov2
     injection hov2 with e1 e2
     subst e1 e2
     rw [accP_step hst] at hres
     have ho:=h.obS hc ho hs2
     have h:=h.save hc hs2 hr2
     have hK2:KB w1 p (rowB vv p) w2:=fun b hb h1 h2=>(hs2.block b (by omega) (by omega)).trans (hKD b hb h1 h2)
     refine ⟨hK2,?_⟩
     unfold staVal
     simp (disch:=try exact DI) only [↓PR,QR,simprocAttr]
     generalize hY:World.alloc w2 _=Y
     have eY:Ext w2 Y:=by rw [← hY];exact (Ext.refl w2).alloc _
     have oY:ElemAt Y w2.heap.size 0 (staCells s):=by rw [← hY];exact ElemAt.new _ _
     clear hY
     have hKY:KB w1 p (rowB vv p) Y:=fun b hb h1 h2=>(eY.block b (by have:=hs2.size;omega)).trans (hK2 b hb h1 h2)
     have ho:=eY.obj ho
     have h:=h.ext hc eY
     refine ⟨hKY,?_⟩
     unfold n42c4
     have hby:=by50
     refine op_appendL (enc:=staCells) (l':=[s]) Tryz.underlying22 ty50 rfl (by decide) (fun _=>rfl) (fun x hx u hu=>?_) h.own (o:=0) (fun j x hx=>?_) h.sz (by simp) ?_ (by simp;omega) ?_
     · simp only [List.mem_singleton] at hx
       subst hx
       simp only [List.mem_cons,List.not_mem_nil,or_false] at hu
       rcases hu with rfl | rfl | rfl<;>rfl
     · cases j with
       | zero =>
        simp only [List.getElem?_cons_zero,Option.some.injEq] at hx
        subst hx
        simpa using oY
       | succ j=>simp at hx
     · simp only [List.length_cons,List.length_nil]
       have:l.length+1≤200000:=by omega
       exact Nat.le_trans (Nat.mul_le_mul this hby) (by decide)
     · intro g cap w4 hO hg hgg hgl
       have hK4:KB w1 p (rowB vv p) w4:=fun b hb h1 h2=>(hg.block b (by have:=eY.size;have:=hs2.size;omega) (fun e=>by unfold rowB at h2;rw [← e] at h2;exact h2 rfl)).trans (hKY b hb h1 h2)
       refine ⟨hK4,?_⟩
       have hq4:w4.heap[q]?=some (.cells (cs.setIfInBounds 1 vv) TRol (0,0)):=(hg.block q (by have:=h.sz;omega) fun e=>by have:=(h.row q e.symm).1;omega).trans ho
       obtain ⟨h5,ho5⟩:=h.put hc ho hg hO hgg 1
       have hc4:w4.cell? ⟨q,1,none⟩=some vv:=by rw [(cells_of_heap hq4).1,Array.getElem?_setIfInBounds_self_of_lt hi]
       have hf4:w4.frozen? ⟨q,1,none⟩=false:=(cells_of_heap hq4).2 _
       simp (disch:=try exact DI) only [↓PR,QR,simprocAttr,hc4,hf4]
       refine turnK_intro ?_
       refine ⟨⟨at_+1,_,l++[s],[],B',h5,?_,by simp;omega,by omega,?_⟩,?_⟩
       · rw [ho5];simp
       · rw [hres];congr 1;omega
       · rw [h5.rd.at,hm];omega
   · cases hst:staP us with
     | some s=>rw [hst] at hov2;cases hov2
     | none =>
      rw [accP_fail hst] at hres
      exact roR_pan (h.sv.trans hs2) (by rw [hres];congr 1;omega) (by omega)
 · unfold n42c9
   exact hex w1 at_ vv l ws B (h.save hc hs1 hr1) (h.obS hc ho hs1) (by omega) hal (by rw [hres];exact accP_stop (no_words hno))
end
section
variable {WB w0 W:World} {p q at0 at1:Nat} {lines:List ByteArray} {lv:Value} {F:List StpD→List (List ByteArray)→Nat→Option RolD×Nat} {res:Option RolD×Nat} {cs:Array Value} {ws1:List ByteArray} {B1:Nat}
theorem role_steps (hE:EnvOK WB) (eB:Ext WB w0) (hb:WB.heap.size≤p) (hlz:∀ x∈lines,x.size≤100000) (hn:lines.length≤100000) (hc:RC w0 W p q lv)
 (hW:RL w0 W p lines lv q 71 9 stpCells W at1 (.slice none 0 0) [] ws1 B1) (hob:W.heap[q]?=some (.cells cs TRol (0,0))) (hcs:cs[3]?=some (.slice none 0 0)) (hat:at0≤at1) (hal:at1≤lines.length)
 (hres:res=accP kStep stpP F [] ((lines.map spW).drop at1) (at1 - at0))
 (hex:∀ w at_ vv l ws B,RL w0 W p lines lv q 71 9 stpCells w at_ vv l ws B→w.heap[q]?=some (.cells (cs.setIfInBounds 3 vv) TRol (0,0))→at0≤at_→at_≤lines.length→res=F l ((lines.map spW).drop at_) (at_ - at0)→opV Pg (Instr.loadAt 26 (.pointer (some ⟨q,0,none⟩))) (panK (RoR w0 p lines lv at0 res)) w fun t52 w=>opU Pg (Instr.storeAt 26 (.pointer (some ⟨q,0,none⟩)) t52) (panK (RoR w0 p lines lv at0 res)) w fun w=>qW Pg 26 (.pointer (some ⟨q,0,none⟩)) w fun r0=>RoR w0 p lines lv at0 res (.returned r0) w) :
 loop0 (fun w next=>callK Pg 65 #[.pointer (some ⟨p,0,none⟩),.string kStep] (panK (RoR w0 p lines lv at0 res)) w fun t w=>n42c8 (.pointer (some ⟨p,0,none⟩)) (.pointer (some ⟨q,0,none⟩)) t next (RoR w0 p lines lv at0 res) w) W:=by
 have hset0:cs.setIfInBounds 3 (.slice none 0 0)=cs:=set_same hcs
 have hi:3 < cs.size:=(Array.getElem?_eq_some_iff.1 hcs).1
 have c1:=hc.zp
 have c2:=hc.zq
 have c5:=hc.qp
 refine loop0_intro (fun w=>∃ at_ vv l ws B,RL w0 W p lines lv q 71 9 stpCells w at_ vv l ws B∧w.heap[q]?=some (.cells (cs.setIfInBounds 3 vv) TRol (0,0))∧l.length+at1≤at_∧at_≤lines.length∧res=accP kStep stpP F l ((lines.map spW).drop at_) (at_ - at0)) (fun w=>lines.length - atOf p w) ⟨at1,_,[],ws1,B1,hW,by rw [hset0];exact hob,by simp,hal,hres⟩ ?_
 rintro w ⟨at_,vv,l,ws,B,h,ho,ha0,hal,hres⟩
 have hm:=h.rd.at
 refine callK_ret (next_ret hE (h.sv.to_ext eB hb) hb hlz hal hn h.rd kStep) ?_
 rintro _ w1 ⟨hs1,⟨x,us,B',hx,hsp,rfl,⟨hB1,hB2⟩,hr1⟩ | ⟨hno,rfl,hr1⟩⟩
 · have ho:=h.obS hc ho hs1
   have h:=h.next hc hs1 hr1 hB1 hB2
   have hlt:=(List.getElem?_eq_some_iff.1 hx).1
   have hus:∀ y∈us,y.size≤100000:=fun y hy=>Nat.le_trans (spW_sub (x:=x) (by rw [hsp];exact List.mem_cons_of_mem _ hy)) (hlz x (List.mem_of_getElem? hx))
   have hdr:(lines.map spW).drop at_=(kStep::us)::(lines.map spW).drop (at_+1):=drop_words hx hsp
   rw [hdr] at hres
   simp (disch:=try exact DI) only [↓PR,QR,simprocAttr,↓n42c8]
   have hq1:=h.row
   refine drawK_introB p (rowB vv p) (w1:=w1) (fun _ _ _ _=>rfl) ?_
   have eD:Ext w1 (Sw.drew w1):=(Ext.refl w1).drew
   have hKD:KB w1 p (rowB vv p) (Sw.drew w1):=fun _ _ _ _=>rfl
   have h:=h.ext hc eD
   have ho1:=ho
   have ho:=eD.obj ho
   have szD:=eD.size
   generalize Sw.drew w1=D at hKD h ho szD ⊢
   clear eD
   have hqb:q≠rowB vv p:=by
    unfold rowB
    cases hv:vv.ownBlock with
    | none=>exact c5
    | some b=>have:=(h.row b hv).1;show q≠b;omega
   have hqc:w1.cell? ⟨q,3,none⟩=some vv:=by rw [(cells_of_heap ho1).1,Array.getElem?_setIfInBounds_self_of_lt hi]
   have hov:vv.oneCell'=true:=SliceOf.oneCell (h.own.slice (E:=fun _ _ _=>True) (fun _=>rfl) (fun _ _=>trivial))
   unfold n42c7
   simp (disch:=try exact DI) only [↓PR,QR,simprocAttr,hqc]
   have hBD:=h.Bw
   refine callK_wr (step_wr hE (h.sv.to_ext eB hb) hb hus h.rd h.Bw fun A m c e=>by have:=(hc.zl A m c e).1;have:=h.sz;omega) (fun v us' w2 hov2 hr2 hs2=>?_) fun w2 hov2 hs2=>?_
   · cases hst:stpP us with
     | none=>rw [hst] at hov2;cases hov2
     | some s =>
     rw [hst] at hov2
     injection hov2 with hov2
     injection hov2 with e1 e2
     subst e1 e2
     rw [accP_step hst] at hres
     have ho:=h.obS hc ho hs2
     have h:=h.save hc hs2 hr2
     have hK2:KB w1 p (rowB vv p) w2:=fun b hb h1 h2=>(hs2.block b (by omega) (by omega)).trans (hKD b hb h1 h2)
     refine ⟨hK2,?_⟩
     unfold stpVal
     simp (disch:=try exact DI) only [↓PR,QR,simprocAttr]
     generalize hY:World.alloc w2 _=Y
     have eY:Ext w2 Y:=by rw [← hY];exact (Ext.refl w2).alloc _
     have oY:ElemAt Y w2.heap.size 0 (stpCells s):=by rw [← hY];exact ElemAt.new _ _
     clear hY
     have hKY:KB w1 p (rowB vv p) Y:=fun b hb h1 h2=>(eY.block b (by have:=hs2.size;omega)).trans (hK2 b hb h1 h2)
     have ho:=eY.obj ho
     have h:=h.ext hc eY
     refine ⟨hKY,?_⟩
     unfold n42c6
     have hby:=by71
     refine op_appendL (enc:=stpCells) (l':=[s]) Tryz.underlying24 ty71 rfl (by decide) (fun _=>rfl) (fun x hx u hu=>?_) h.own (o:=0) (fun j x hx=>?_) h.sz (by simp) ?_ (by simp;omega) ?_
     · simp only [List.mem_singleton] at hx
       subst hx
       simp only [List.mem_cons,List.not_mem_nil,or_false] at hu
       rcases hu with rfl | rfl | rfl | rfl | rfl | rfl | rfl | rfl | rfl<;>rfl
     · cases j with
       | zero =>
        simp only [List.getElem?_cons_zero,Option.some.injEq] at hx
        subst hx
        simpa using oY
       | succ j=>simp at hx
     · simp only [List.length_cons,List.length_nil]
       have:l.length+1≤200000:=by omega
       exact Nat.le_trans (Nat.mul_le_mul this hby) (by decide)
     · intro g cap w4 hO hg hgg hgl
       have hK4:KB w1 p (rowB vv p) w4:=fun b hb h1 h2=>(hg.block b (by have:=eY.size;have:=hs2.size;omega) (fun e=>by unfold rowB at h2;rw [← e] at h2;exact h2 rfl)).trans (hKY b hb h1 h2)
       refine ⟨hK4,?_⟩
       have hq4:w4.heap[q]?=some (.cells (cs.setIfInBounds 3 vv) TRol (0,0)):=(hg.block q (by have:=h.sz;omega) fun e=>by have:=(h.row q e.symm).1;omega).trans ho
       obtain ⟨h5,ho5⟩:=h.put hc ho hg hO hgg 3
       have hc4:w4.cell? ⟨q,3,none⟩=some vv:=by rw [(cells_of_heap hq4).1,Array.getElem?_setIfInBounds_self_of_lt hi]
       have hf4:w4.frozen? ⟨q,3,none⟩=false:=(cells_of_heap hq4).2 _
       simp (disch:=try exact DI) only [↓PR,QR,simprocAttr,hc4,hf4]
       refine turnK_intro ?_
       refine ⟨⟨at_+1,_,l++[s],[],B',h5,?_,by simp;omega,by omega,?_⟩,?_⟩
       · rw [ho5];simp
       · rw [hres];congr 1;omega
       · rw [h5.rd.at,hm];omega
   · cases hst:stpP us with
     | some s=>rw [hst] at hov2;cases hov2
     | none =>
      rw [accP_fail hst] at hres
      exact roR_pan (h.sv.trans hs2) (by rw [hres];congr 1;omega) (by omega)
 · unfold n42c8
   exact hex w1 at_ vv l ws B (h.save hc hs1 hr1) (h.obS hc ho hs1) (by omega) hal (by rw [hres];exact accP_stop (no_words hno))
end
section
variable {w w0:World} {p at_ B:Nat} {lines us:List ByteArray} {lv:Value} {k:Value→World→Prop} {QP:List PanicEntry→World→Prop}
theorem name_call (h:Rd w p lines at_ us lv B) (hk:∀ x l w',nameP us=some (x,l)→Rd w' p lines at_ l lv B→Save p (p+1) w w'→k (.string x) w') (hn:∀ w',nameP us=none→Save p (p+1) w w'→QP (wrongE at_) w'):callK Pg 67 #[.pointer (some ⟨p,0,none⟩)] QP w k:=by
 have hp:popN us=(nameP us).map fun z=>(.string z.1,z.2):=by
  cases us with
  | nil=>rfl
  | cons x l =>
   show (if nameB x=true then some (Value.string x,l) else none)=_
   rw [nameP_eq]
   split<;>rfl
 refine callK_wr (name_wr h) (fun v l w1 ho hr hs=>?_) fun w1 ho hs=>?_
 · rw [hp] at ho
   cases hc:nameP us with
   | none=>rw [hc] at ho;cases ho
   | some z =>
    rw [hc] at ho
    injection ho with ho
    injection ho with e1 e2
    subst e1 e2
    exact hk _ _ _ hc hr hs
 · rw [hp] at ho
   cases hc:nameP us with
   | none=>exact hn _ hc hs
   | some z=>rw [hc] at ho;cases ho
theorem num_call {WB:World} (hE:EnvOK WB) (eB:Ext WB w) (hb:WB.heap.size≤p) (hz:∀ x∈us,x.size≤100000) (h:Rd w p lines at_ us lv B) (hk:∀ n l w',numP us=some (n,l)→Rd w' p lines at_ l lv B→Save p (p+1) w w'→k (.int .i64 n) w') (hn:∀ w',numP us=none→Save p (p+1) w w'→QP (wrongE at_) w'):callK Pg 70 #[.pointer (some ⟨p,0,none⟩)] QP w k:=by
 refine callK_wr (number_wr hE eB hb hz h) (fun v l w1 ho hr hs=>?_) fun w1 ho hs=>?_
 · cases hc:numP us with
   | none=>rw [hc] at ho;cases ho
   | some z =>
    rw [hc] at ho
    injection ho with ho
    injection ho with e1 e2
    subst e1 e2
    exact hk _ _ _ hc hr hs
 · cases hc:numP us with
   | none=>exact hn _ hc hs
   | some z=>rw [hc] at ho;cases ho
theorem end_call (h:Rd w p lines at_ us lv B) (hk:∀ w',us=[]→Rd w' p lines at_ [] lv B→Save p (p+1) w w'→k (.tuple #[]) w') (hn:∀ w',us≠[]→Save p (p+1) w w'→QP (wrongE at_) w'):callK Pg 71 #[.pointer (some ⟨p,0,none⟩)] QP w k:=by
 refine callK_wr (end_wr h) (fun v l w1 ho hr hs=>?_) fun w1 ho hs=>?_
 · split at ho
   · rename_i hu
     injection ho with ho
     injection ho with e1 e2
     subst e1 e2
     exact hk w1 hu hr hs
   · cases ho
 · split at ho
   · cases ho
   · rename_i hu
     exact hn _ hu hs
end
section
variable {WB w0 W:World} {p q at0 at1:Nat} {lines:List ByteArray} {lv:Value} {F:List CntD→List (List ByteArray)→Nat→Option RolD×Nat} {res:Option RolD×Nat} {cs:Array Value} {ws1:List ByteArray} {B1:Nat}
theorem role_counters (hE:EnvOK WB) (eB:Ext WB w0) (hb:WB.heap.size≤p) (hlz:∀ x∈lines,x.size≤100000) (hn:lines.length≤100000) (hc:RC w0 W p q lv)
 (hW:RL w0 W p lines lv q 52 2 cntCells W at1 (.slice none 0 0) [] ws1 B1) (hob:W.heap[q]?=some (.cells cs TRol (0,0))) (hcs:cs[2]?=some (.slice none 0 0)) (hat:at0≤at1) (hal:at1≤lines.length)
 (hres:res=accP kCounter cntP F [] ((lines.map spW).drop at1) (at1 - at0))
 (hex:∀ w at_ vv l ws B,RL w0 W p lines lv q 52 2 cntCells w at_ vv l ws B→w.heap[q]?=some (.cells (cs.setIfInBounds 2 vv) TRol (0,0))→at0≤at_→at_≤lines.length→res=F l ((lines.map spW).drop at_) (at_ - at0)→loop0 (fun w next=>callK Pg 65 #[.pointer (some ⟨p,0,none⟩),.string kState] (panK (RoR w0 p lines lv at0 res)) w fun t w=>n42c9 (.pointer (some ⟨p,0,none⟩)) (.pointer (some ⟨q,0,none⟩)) t next (RoR w0 p lines lv at0 res) w) w) :
 loop0 (fun w next=>callK Pg 65 #[.pointer (some ⟨p,0,none⟩),.string kCounter] (panK (RoR w0 p lines lv at0 res)) w fun t w=>n42c10 (.pointer (some ⟨p,0,none⟩)) (.pointer (some ⟨q,0,none⟩)) t next (RoR w0 p lines lv at0 res) w) W:=by
 have hset0:cs.setIfInBounds 2 (.slice none 0 0)=cs:=set_same hcs
 have hi:2 < cs.size:=(Array.getElem?_eq_some_iff.1 hcs).1
 have c1:=hc.zp
 have c2:=hc.zq
 have c5:=hc.qp
 refine loop0_intro (fun w=>∃ at_ vv l ws B,RL w0 W p lines lv q 52 2 cntCells w at_ vv l ws B∧w.heap[q]?=some (.cells (cs.setIfInBounds 2 vv) TRol (0,0))∧l.length+at1≤at_∧at_≤lines.length∧res=accP kCounter cntP F l ((lines.map spW).drop at_) (at_ - at0)) (fun w=>lines.length - atOf p w) ⟨at1,_,[],ws1,B1,hW,by rw [hset0];exact hob,by simp,hal,hres⟩ ?_
 rintro w ⟨at_,vv,l,ws,B,h,ho,ha0,hal,hres⟩
 have hm:=h.rd.at
 refine callK_ret (next_ret hE (h.sv.to_ext eB hb) hb hlz hal hn h.rd kCounter) ?_
 rintro _ w1 ⟨hs1,⟨x,us,B',hx,hsp,rfl,⟨hB1,hB2⟩,hr1⟩ | ⟨hno,rfl,hr1⟩⟩
 · have ho:=h.obS hc ho hs1
   have h:=h.next hc hs1 hr1 hB1 hB2
   have hlt:=(List.getElem?_eq_some_iff.1 hx).1
   have hus:∀ y∈us,y.size≤100000:=fun y hy=>Nat.le_trans (spW_sub (x:=x) (by rw [hsp];exact List.mem_cons_of_mem _ hy)) (hlz x (List.mem_of_getElem? hx))
   have hdr:(lines.map spW).drop at_=(kCounter::us)::(lines.map spW).drop (at_+1):=drop_words hx hsp
   rw [hdr] at hres
   have pan:∀ w',Save p (p+1) w0 w'→cntP us=none→panK (RoR w0 p lines lv at0 res) (wrongE ((at_+1:Nat):Int)) w':=fun w' hs hst=>by
    rw [accP_fail hst] at hres
    exact roR_pan hs (by rw [hres];congr 1;omega) (by omega)
   simp (disch:=try exact DI) only [↓PR,QR,simprocAttr,↓n42c10]
   have hq1:=h.row
   refine drawK_introB p (rowB vv p) (w1:=w1) (fun _ _ _ _=>rfl) ?_
   have eD:Ext w1 (Sw.drew w1):=(Ext.refl w1).drew
   have hKD:KB w1 p (rowB vv p) (Sw.drew w1):=fun _ _ _ _=>rfl
   have h:=h.ext hc eD
   have ho1:=ho
   have ho:=eD.obj ho
   have szD:=eD.size
   generalize Sw.drew w1=D at hKD h ho szD ⊢
   clear eD
   have hqb:q≠rowB vv p:=by
    unfold rowB
    cases hv:vv.ownBlock with
    | none=>exact c5
    | some b=>have:=(h.row b hv).1;show q≠b;omega
   have hqc:w1.cell? ⟨q,2,none⟩=some vv:=by rw [(cells_of_heap ho1).1,Array.getElem?_setIfInBounds_self_of_lt hi]
   have hov:vv.oneCell'=true:=SliceOf.oneCell (h.own.slice (E:=fun _ _ _=>True) (fun _=>rfl) (fun _ _=>trivial))
   unfold n42c3
   simp (disch:=try exact DI) only [↓PR,QR,simprocAttr,hqc]
   refine name_call h.rd (fun nm l1 w2 hnm hr2 hs2=>?_) fun w2 hnm hs2=>pan w2 (h.sv.trans hs2) (by unfold cntP;rw [hnm];rfl)
   have ho:=h.obS hc ho hs2
   have h:=h.save hc hs2 hr2
   have hK2:KB w1 p (rowB vv p) w2:=fun b hb h1 h2=>(hs2.block b (by omega) (by omega)).trans (hKD b hb h1 h2)
   have sz2:=hs2.size
   refine ⟨hK2,?_⟩
   refine num_call hE (h.sv.to_ext eB hb) hb (fun y hy=>hus y (nameP_sub hnm y hy)) h.rd (fun n l2 w3 hnn hr3 hs3=>?_) fun w3 hnn hs3=>pan w3 (h.sv.trans hs3) (by unfold cntP;rw [hnm];simp only [Option.bind_some];rw [hnn];rfl)
   have ho:=h.obS hc ho hs3
   have h:=h.save hc hs3 hr3
   have hK3:KB w1 p (rowB vv p) w3:=fun b hb h1 h2=>(hs3.block b (by omega) (by omega)).trans (hK2 b hb h1 h2)
   have sz3:=hs3.size
   refine ⟨hK3,?_⟩
   have hcp:cntP us=endP (⟨nm,n⟩:CntD) l2:=by
    unfold cntP
    rw [hnm]
    simp only [Option.bind_some]
    rw [hnn]
    rfl
   unfold n42c2
   simp (disch:=try exact DI) only [↓PR,QR,simprocAttr]
   generalize hY:World.alloc w3 _=Y
   have eY:Ext w3 Y:=by rw [← hY];exact (Ext.refl w3).alloc _
   have oY:ElemAt Y w3.heap.size 0 (cntCells ⟨nm,n⟩):=by rw [← hY];exact ElemAt.new _ _
   clear hY
   have hKY:KB w1 p (rowB vv p) Y:=fun b hb h1 h2=>(eY.block b (by omega)).trans (hK3 b hb h1 h2)
   have ho:=eY.obj ho
   have h:=h.ext hc eY
   refine ⟨hKY,?_⟩
   have hby:=by52
   refine op_appendL (enc:=cntCells) (l':=[(⟨nm,n⟩:CntD)]) Tryz.underlying23 ty52 rfl (by decide) (fun _=>rfl) (fun x hx u hu=>?_) h.own (o:=0) (fun j x hx=>?_) h.sz (by simp) ?_ (by simp;omega) ?_
   · simp only [List.mem_singleton] at hx
     subst hx
     simp only [List.mem_cons,List.not_mem_nil,or_false] at hu
     rcases hu with rfl | rfl<;>rfl
   · cases j with
     | zero =>
      simp only [List.getElem?_cons_zero,Option.some.injEq] at hx
      subst hx
      simpa using oY
     | succ j=>simp at hx
   · simp only [List.length_cons,List.length_nil]
     have:l.length+1≤200000:=by omega
     exact Nat.le_trans (Nat.mul_le_mul this hby) (by decide)
   · intro g cap w4 hO hg hgg hgl
     have hK4:KB w1 p (rowB vv p) w4:=fun b hb h1 h2=>(hg.block b (by have:=eY.size;omega) (fun e=>by unfold rowB at h2;rw [← e] at h2;exact h2 rfl)).trans (hKY b hb h1 h2)
     refine ⟨hK4,?_⟩
     have hq4:w4.heap[q]?=some (.cells (cs.setIfInBounds 2 vv) TRol (0,0)):=(hg.block q (by have:=h.sz;omega) fun e=>by have:=(h.row q e.symm).1;omega).trans ho
     obtain ⟨h5,ho5⟩:=h.put hc ho hg hO hgg 2
     have hc4:w4.cell? ⟨q,2,none⟩=some vv:=by rw [(cells_of_heap hq4).1,Array.getElem?_setIfInBounds_self_of_lt hi]
     have hf4:w4.frozen? ⟨q,2,none⟩=false:=(cells_of_heap hq4).2 _
     unfold n42c1
     simp (disch:=try exact DI) only [↓PR,QR,simprocAttr,hc4,hf4]
     refine turnK_intro ?_
     refine end_call h5.rd (fun w6 hl2 hr6 hs6=>?_) fun w6 hl2 hs6=>pan w6 (h5.sv.trans hs6) (by rw [hcp];unfold endP;rw [if_neg hl2])
     have ho6:=h5.obS hc ho5 hs6
     have h6:=h5.save hc hs6 hr6
     have hst:cntP us=some ⟨nm,n⟩:=by rw [hcp,hl2];rfl
     rw [accP_step hst] at hres
     refine ⟨⟨at_+1,_,l++[⟨nm,n⟩],[],B',h6,?_,by simp;omega,by omega,?_⟩,?_⟩
     · rw [ho6];simp
     · rw [hres];congr 1;omega
     · rw [h6.rd.at,hm];omega
 · unfold n42c10
   exact hex w1 at_ vv l ws B (h.save hc hs1 hr1) (h.obS hc ho hs1) (by omega) hal (by rw [hres];exact accP_stop (no_words hno))
end
theorem roleP_stop {L:List (List ByteArray)} (h:∀ w∈L.head?,∀ k∈w.head?,k≠kRole):roleP L=(none,1):=by
 cases L with
 | nil=>rfl
 | cons w L =>
  cases w with
  | nil=>rfl
  | cons k ws=>rw [roleP_eq,if_neg (h _ rfl k rfl)]
theorem countersP_acc (nm:ByteArray) (L:List (List ByteArray)) (n:Nat):countersP nm L n=accP kCounter cntP (fun cs L n=>accP kState staP (fun ss L n=>accP kStep stpP (fun ts _ n=>(some ⟨nm,ss,cs,ts⟩,n)) [] L n) [] L n) [] L n:=by
 unfold countersP
 show _=accP kCounter cntP _ [] L n
 conv=>rhs;unfold accP
 cases manyP kCounter cntP L with
 | mk o k =>
  cases o with
  | none=>rfl
  | some cs =>
   simp only [List.nil_append]
   unfold statesP
   conv=>rhs;unfold accP
   cases manyP kState staP (L.drop k) with
   | mk o k2 =>
    cases o with
    | none=>rfl
    | some ss =>
     simp only [List.nil_append]
     unfold stepsP
     conv=>rhs;unfold accP
     cases manyP kStep stpP ((L.drop k).drop k2) with
     | mk o k3=>cases o<;>rfl
section
variable {WB w:World} {p at0 B:Nat} {lines ws:List ByteArray} {lv:Value}
theorem role_ror (hE:EnvOK WB) (eB:Ext WB w) (hb:WB.heap.size≤p) (hlz:∀ x∈lines,x.size≤100000) (hn:lines.length≤100000) (hal:at0≤lines.length) (h:Rd w p lines at0 ws lv B) (hB:B < w.heap.size) (hl:∀ A n c,lv = .slice (some A) n c→A.block < w.heap.size) :
 Calls Pg 52 #[.pointer (some ⟨p,0,none⟩)] w (RoR w p lines lv at0 (roleP ((lines.map spW).drop at0))):=by
 have hpw:p < w.heap.size:=by
  obtain ⟨wv,h⟩:=h
  exact (Array.getElem?_eq_some_iff.1 h.obj).1
 generalize hres:roleP ((lines.map spW).drop at0)=res
 have hres:=hres.symm
 refine n42s ?_;unfold n42
 simp (disch:=try exact DI) only [↓PR,QR,simprocAttr]
 have eV:Ext w (World.alloc w (.cells #[.string ByteArray.empty,.slice none 0 0,.slice none 0 0,.slice none 0 0] 26)):=(Ext.refl w).alloc _
 have hob:=heap_new w #[.string ByteArray.empty,.slice none 0 0,.slice none 0 0,.slice none 0 0] 26
 have szV:(World.alloc w (.cells #[.string ByteArray.empty,.slice none 0 0,.slice none 0 0,.slice none 0 0] 26)).heap.size=w.heap.size+1:=World.size_alloc ..
 generalize World.alloc w _=V at eV hob szV ⊢
 have h:=h.ext eV
 generalize hq:w.heap.size=q at hob szV hpw hB hl ⊢
 refine callK_ret (next_ret hE (eB.trans eV) hb hlz hal hn h kRole) ?_
 rintro _ w1 ⟨hs1,⟨x,us,B',hx,hsp,rfl,⟨hB1,hB2⟩,hr1⟩ | ⟨hno,rfl,hr1⟩⟩
 · have hlt:=(List.getElem?_eq_some_iff.1 hx).1
   have hdr:(lines.map spW).drop at0=(kRole::us)::(lines.map spW).drop (at0+1):=drop_words hx hsp
   rw [hdr,roleP_eq,if_pos rfl] at hres
   unfold n42c13
   simp (disch:=try exact DI) only [↓PR,QR,simprocAttr]
   have hob1:=hs1.obj hob (by omega)
   have hS1:Save p (p+1) w w1:=(Save.of_ext eV).trans hs1
   have sz1:=hs1.size
   refine name_call hr1 (fun nm l1 w2 hnm hr2 hs2=>?_) fun w2 hnm hs2=>?_
   · have hob2:=hs2.obj hob1 (by omega)
     have hS2:=hS1.trans hs2
     have sz2:=hs2.size
     unfold n42c11
     simp (disch:=try exact DI) only [↓PR,QR,simprocAttr,(cells_of_heap hob2).1,(cells_of_heap hob2).2]
     have hob3:(w2.setCell ⟨q,0,none⟩ (.string nm)).heap[q]?=some (.cells #[.string nm,.slice none 0 0,.slice none 0 0,.slice none 0 0] 26 (0,0)):=heap_set hob2 (.string nm)
     have hS3:Save p (p+1) w (w2.setCell ⟨q,0,none⟩ (.string nm)):=hS2.setNew (by omega) _
     have hr3:Rd (w2.setCell ⟨q,0,none⟩ (.string nm)) p lines (at0+1) l1 lv B':=hr2.other _ (by omega) (by omega) fun A n c e=>by have:=hl A n c e;omega
     have sz3:(w2.setCell ⟨q,0,none⟩ (.string nm)).heap.size=w2.heap.size:=World.size_setCell ..
     generalize w2.setCell ⟨q,0,none⟩ (.string nm)=w3 at hob3 hS3 hr3 sz3 ⊢
     refine end_call hr3 (fun w4 hl1 hr4 hs4=>?_) fun w4 hl1 hs4=>?_
     · have hob4:=hs4.obj hob3 (by omega)
       have hS4:=hS3.trans hs4
       have sz4:=hs4.size
       have hrn:rnameP us=some nm:=by unfold rnameP;rw [hnm,hl1];rfl
       rw [hrn] at hres
       simp only at hres
       rw [countersP_acc] at hres
       have hc4:RC w w4 p q lv:=⟨by omega,by omega,by omega,by omega,by omega,fun A n c e=>by have:=hl A n c e;omega⟩
       refine role_counters hE eB hb hlz hn hc4 (RL.start hc4 hr4 (by omega) (by omega) (by omega) hS4) hob4 rfl (by omega) (by omega) (by rw [hres];congr 1;omega) ?_
       intro w5 at5 cv cl ws5 B5 h5 ho5 ha5 hl5 hres5
       have hc5:RC w w5 p q lv:=⟨h5.sv.size,by have:=h5.sz;omega,by have:=h5.sz;omega,by omega,by omega,fun A n c e=>by have:=hl A n c e;have:=h5.sz;omega⟩
       refine role_states hE eB hb hlz hn hc5 (RL.start hc5 h5.rd h5.Bq h5.Bw h5.Bl h5.sv) ho5 rfl ha5 hl5 hres5 ?_
       intro w6 at6 sv sl ws6 B6 h6 ho6 ha6 hl6 hres6
       have hc6:RC w w6 p q lv:=⟨h6.sv.size,by have:=h6.sz;have:=h5.sz;omega,by have:=h6.sz;have:=h5.sz;omega,by omega,by omega,fun A n c e=>by have:=hl A n c e;have:=h6.sz;have:=h5.sz;omega⟩
       refine role_steps hE eB hb hlz hn hc6 (RL.start hc6 h6.rd h6.Bq h6.Bw h6.Bl h6.sv) ho6 rfl ha6 hl6 hres6 ?_
       intro w7 at7 tv tl ws7 B7 h7 ho7 ha7 hl7 hres7
       have ho7:w7.heap[q]?=some (.cells (rolCells ⟨nm,sl,cl,tl⟩ sv cv tv).toArray TRol (0,0)):=ho7
       have own1:OwnE w7 w.heap.size 71 9 stpCells tv tl:=h7.own.base hc6.zw
       have own2:OwnE w7 w.heap.size 50 3 staCells sv sl:=(OwnE.keep h6.own fun b hb=>by
        have:=h6.row b hb
        exact h7.kp b this.2 (by have:=hc5.zp;omega) (by have:=hc5.zq;omega)).base hc5.zw
       have own3:OwnE w7 w.heap.size 52 2 cntCells cv cl:=(OwnE.keep h5.own fun b hb=>by
        have:=h5.row b hb
        exact (h7.kp b (by have:=h6.sz;omega) (by have:=hc4.zp;omega) (by have:=hc4.zq;omega)).trans (h6.kp b this.2 (by have:=hc4.zp;omega) (by have:=hc4.zq;omega))).base hc4.zw
       have f1:sv.oneCell'=true:=SliceOf.oneCell (own2.slice (E:=fun _ _ _=>True) (fun _=>rfl) (fun _ _=>trivial))
       have f2:cv.oneCell'=true:=SliceOf.oneCell (own3.slice (E:=fun _ _ _=>True) (fun _=>rfl) (fun _ _=>trivial))
       have f3:tv.oneCell'=true:=SliceOf.oneCell (own1.slice (E:=fun _ _ _=>True) (fun _=>rfl) (fun _ _=>trivial))
       simp (disch:=try exact DI) only [↓PR,QR,simprocAttr,(cells_of_heap ho7).1,(cells_of_heap ho7).2]
       have hs8:∀ b,b≠q→((((w7.setCell ⟨q,0,none⟩ (.string nm)).setCell ⟨q,1,none⟩ sv).setCell ⟨q,2,none⟩ cv).setCell ⟨q,3,none⟩ tv).heap[b]?=w7.heap[b]?:=fun b hb=>by simp only [Only.setCell _ q _ _ b hb]
       have hr8:Rd ((((w7.setCell ⟨q,0,none⟩ (.string nm)).setCell ⟨q,1,none⟩ sv).setCell ⟨q,2,none⟩ cv).setCell ⟨q,3,none⟩ tv) p lines at7 ws7 lv B7:=h7.rd.same (hs8 p (by omega)) (hs8 B7 h7.Bq) fun A n c e=>hs8 _ (by have:=hl A n c e;omega)
       have hS8:Save p (p+1) w ((((w7.setCell ⟨q,0,none⟩ (.string nm)).setCell ⟨q,1,none⟩ sv).setCell ⟨q,2,none⟩ cv).setCell ⟨q,3,none⟩ tv):=(((h7.sv.setNew (by omega) _).setNew (by omega) _).setNew (by omega) _).setNew (by omega) _
       have z4:=hc4.zq
       have z5:=hc5.zq
       have z6:=hc6.zq
       refine roR_ret (at_:=at7) (r:=⟨nm,sl,cl,tl⟩) hS8 hres7 ha7 ⟨sv,cv,tv,rfl,OwnE.keep own2 fun b hb=>hs8 b ?_,OwnE.keep own3 fun b hb=>hs8 b ?_,OwnE.keep own1 fun b hb=>hs8 b ?_⟩ hr8 (by simp only [World.size_setCell];exact h7.Bw) h7.Bl
       · have:=(h6.row b hb).1;omega
       · have:=(h5.row b hb).1;omega
       · have:=(h7.row b hb).1;omega
     · exact roR_pan (k:=at0+1) (hS3.trans hs4) (by rw [hres,show rnameP us=none by unfold rnameP;rw [hnm];simp only [Option.bind_some];unfold endP;rw [if_neg hl1]];show (none,1)=_;congr 1;omega) (by omega)
   · exact roR_pan (k:=at0+1) (hS1.trans hs2) (by rw [hres,show rnameP us=none by unfold rnameP;rw [hnm];rfl];show (none,1)=_;congr 1;omega) (by omega)
 · unfold n42c13
   obtain ⟨wv,hr1⟩:=hr1
   have hw:IntKind.i64.wrap ((at0:Int)+1)=((at0+1:Nat):Int):=by rw [wrap_ok (by omega) (by omega)];omega
   simp (disch:=try exact DI) only [↓PR,QR,simprocAttr,↓n42c12,(cells_of_heap hr1.obj).1,(cells_of_heap hr1.obj).2,hw]
   have hr2:Rd (w1.setCell ⟨p,1,none⟩ (.int .i64 ((at0+1:Nat):Int))) p lines (at0+1) ws lv B:=⟨wv,hr1.setAt (at0+1)⟩
   have hS2:Save p (p+1) w (w1.setCell ⟨p,1,none⟩ (.int .i64 ((at0+1:Nat):Int))):=((Save.of_ext eV).trans hs1).setCell (Nat.le_refl _) (Nat.lt_succ_self _) _
   refine callK_wr (must_wr hr2 false) (fun v us w3 ho _ _=>by cases ho) fun w3 _ hs3=>?_
   exact roR_pan (k:=at0+1) (hS2.trans hs3) (by rw [hres,roleP_stop (no_words hno)];congr 1;omega) (by omega)
end
end Go.Proofs.YtngflmjncplkaaaGreatDoor
