/-
  phrasebooklaw13.ValueGets returns true for every value, path and name, and leaves its arguments as they were; no condition is asked but that the tables of the library lie as the program lays them (the card ties them).
-/
import Derived.Test.YtcffhmapmaahnaaGreatDoorVd5
set_option linter.all false
set_option maxHeartbeats 4000000
set_option maxRecDepth 100000
namespace Go.Proofs.YtcffhmapmaahnaaGreatDoor
open Sw
open Go.RowKit (intOf Below)
def RGetK (w0:World) (s:List UInt8) (t:Tr) (r:Value) (w':World):Prop:=Ext w0 w'∧if validT t=true then match stepsP s with
 | none=>r = .tuple #[zeroV,.int .i64 6]
 | some l=>match atT l t with
  | none=>r = .tuple #[zeroV,.int .i64 9]
  | some t'=>∃ v,r = .tuple #[v,.int .i64 0]∧ValAt w0 v t'
 else r = .tuple #[zeroV,.int .i64 2]
theorem rGet_ret {w0:World} (v:Value) (t:Tr) (s:List UInt8) (hs:s.length≤100000000) (hv:ValAt w0 v t) (hb:nodesT t≤1000000000):Ret Pg 29 #[v,.string (mkB s)] w0 fun r w'=>RGetK w0 s t r w':=by
 obtain ⟨bv,hv',pv,rfl,hB,hH,hT,o1,o2,o3⟩:=hv.op
 refine n22s (R:=retR _) ?_;unfold n22
 simp (disch:=try exact DI) only [↓PR,QR,simprocAttr]
 rw [show (Value.agg (trCells t.nd bv hv' pv).toArray).cells=(trCells t.nd bv hv' pv).toArray from rfl]
 have c1:=heap_new w0 #[.string t.nd.name,.int .i64 t.nd.int,bv,hv',pv] 26
 change (w0.alloc (.cells (trCells t.nd bv hv' pv).toArray 26)).heap[w0.heap.size]?=_ at c1
 have e1:Ext w0 (w0.alloc (.cells (trCells t.nd bv hv' pv).toArray 26)):=(Ext.refl w0).alloc _
 have z1:(w0.alloc (.cells (trCells t.nd bv hv' pv).toArray 26)).heap.size=w0.heap.size+1:=by simp
 generalize (w0.alloc (.cells (trCells t.nd bv hv' pv).toArray 26))=w1 at *
 have c2:=heap_new w1 #[.string ByteArray.empty,.int .i64 0,.slice none 0 0,.slice none 0 0,.slice none 0 0] 26
 have e2:Ext w1 (w1.alloc (.cells #[.string ByteArray.empty,.int .i64 0,.slice none 0 0,.slice none 0 0,.slice none 0 0] 26)):=ee
 generalize (w1.alloc (.cells #[.string ByteArray.empty,.int .i64 0,.slice none 0 0,.slice none 0 0,.slice none 0 0] 26))=w2 at *
 rw [z1] at c2 ⊢
 have e:=e1.trans e2
 have c1:=e2.obj c1
 have hV:ValAt w2 (.agg (trCells t.nd bv hv' pv).toArray) t:=ValAt.ext ⟨_,_,_,rfl,hB,hH,hT⟩ e
 refine zcr (rValid_ret w2 _ t hV hb) fun w3 e3=>?_
 have c1:=e3.obj c1
 have c2:=e3.obj c2
 have e:=e.trans e3
 unfold n22c9
 cases hva:validT t with
 | false =>
  simp (disch:=try exact DI) only [↓PR,QR,simprocAttr]
  unfold n22c8
  refine zero_out (A:=w0) (by omega) e c2 fun w' e' _=>⟨e',?_⟩
  rw [hva]
  rfl
 | true =>
  simp (disch:=try exact DI) only [↓PR,QR,simprocAttr]
  refine callK_ret (rSteps_ret w3 s hs) ?_
  rintro r w4 ⟨e4,hr⟩
  have c2:=e4.obj c2
  have c1:=e4.obj c1
  have e:=e.trans e4
  unfold n22c7
  cases hP:stepsP s with
  | none =>
   rw [hP] at hr
   obtain ⟨v,rfl⟩:=hr
   simp (disch:=try exact DI) only [↓PR,QR,simprocAttr]
   unfold n22c6
   refine zero_out (A:=w0) (by omega) e c2 fun w' e' _=>⟨e',?_⟩
   rw [hva,hP]
   rfl
  | some l =>
   rw [hP] at hr
   obtain ⟨v,rows,rfl,hSl,rfl,hb9,hown⟩:=hr
   obtain ⟨B,c,rfl,hlc,hcm,hlm,hel⟩:=SliceOf.open hSl
   have hz3:=(Array.getElem?_eq_some_iff.1 (show w3.heap[w0.heap.size+1]?=_ by assumption)).1
   have hET:ETr w0 (trCells t.nd bv hv' pv) t:=ETr_of.2 ⟨_,_,_,rfl,hB,hH,hT⟩
   simp (disch:=try exact DI) only [↓PR,QR,simprocAttr]
   refine loop1_intro (fun i w=>∃ (k:Nat) (t1:Tr) (cs1:List Value),i = .int .i64 k∧k≤rows.length∧Ext w0 w∧(∀ b,b≠w0.heap.size→b < w4.heap.size→w.heap[b]?=w4.heap[b]?)∧w4.heap.size≤w.heap.size∧w.heap[w0.heap.size]?=some (.cells cs1.toArray 26 (0,0))∧ETr w0 cs1 t1∧nodesT t1≤65536∧atT (rows.map capS) t=atT ((rows.map capS).drop k) t1) (fun i _=>rows.length - (intOf i).toNat) ⟨0,t,_,rfl,by omega,e,fun b _ _=>rfl,Nat.le_refl _,c1,hET,valid_nodes hva,rfl⟩ ?_
   rintro _ w ⟨k,t1,cs1,rfl,hk,ew,hsame,hsz,d1,hT1,hn1,hat⟩
   obtain ⟨b1,h1,p1,rfl,y1,y2,y3,y4,y5,y6⟩:=hT1.op
   have d1:w.heap[w0.heap.size]?=some (.cells #[.string t1.nd.name,.int .i64 t1.nd.int,b1,h1,p1] 26 (0,0)):=d1
   have d2:=(hsame (w0.heap.size+1) (by omega) (by have:=e4.size;omega)).trans c2
   unfold n22c5
   by_cases hlt:k < rows.length
   · obtain ⟨x,hx⟩:=getElem?_lt hlt
     obtain ⟨bb,oo,cs2,rfl,hl2,hA2,rfl⟩:=hel k x hx
     have hbb:w3.heap.size≤bb:=hown bb rfl
     have hdk:(k:Int) < (rows.length:Int):=by omega
     have hA3:ElemAt w bb (oo+k*2) [.string (mkB x.1),.int .i64 (x.2:Int)]:=fun j u hu=>by
      have h9:=hA2 j u hu
      rw [← h9]
      have hlb:=World.block_lt_of_cell? w4 _ h9
      exact World.cell?_of_block (hsame bb (by omega) hlb)
     simp (disch:=try exact DI) only [↓PR,QR,simprocAttr,hdk]
     refine drawK_intro ?_
     have eD:Ext w (drew w):=(Ext.refl w).drew
     have d1:=eD.obj d1
     have d2:=eD.obj d2
     have hA4:=hA3.ext eD
     have zD:=eD.size
     have ewD:=ew.trans eD
     have hsameD:∀ b,b≠w0.heap.size→b < w4.heap.size→(drew w).heap[b]?=w4.heap[b]?:=fun b g1 g2=>(eD.block b (by omega)).trans (hsame b g1 g2)
     generalize drew w=D at *
     unfold n22c3
     obtain ⟨r1,r2⟩:=hA4.c2 (Ext.refl _)
     simp (disch:=try exact DI) only [↓PR,QR,simprocAttr,(cells_of_heap d1).1,hdk,r1,r2]
     have hVx:ValAt w0 (.agg #[.string t1.nd.name,.int .i64 t1.nd.int,b1,h1,p1]) t1:=⟨_,_,_,rfl,y1,y2,y3⟩
     refine zcr (rFind_ret D _ t1 (mkB x.1) x.2 (hb9 x (List.mem_of_getElem? hx)) (hVx.ext ewD)) fun w6 e6=>?_
     refine ⟨e6,?_⟩
     have d1:=e6.obj d1
     have d2:=e6.obj d2
     have e06:=ewD.trans e6
     have hdrop:(rows.map capS).drop k=capS x::(rows.map capS).drop (k+1):=by
      have hlt':k < (rows.map capS).length:=by simpa using hlt
      rw [List.drop_eq_getElem_cons hlt']
      congr 1
      have h1:=List.getElem?_eq_getElem hlt'
      rw [List.getElem?_map,hx] at h1
      injection h1 with h1
      exact h1.symm
     rw [hdrop,atT,← find_cap hn1 x] at hat
     cases hf:findT (mkB x.1) x.2 t1.ps with
     | none =>
      rw [hf] at hat
      have hd2:findI none < 0:=by decide
      simp (disch:=try exact DI) only [↓PR,QR,simprocAttr,hd2]
      unfold n22c1
      refine zero_out (A:=w0) (by omega) e06 d2 fun w' e' _=>⟨e',?_⟩
      rw [hva,hP]
      simp only [if_true]
      have hn:atT (rows.map capS) t=none:=hat
      rw [hn]
      trivial
     | some i =>
      rw [hf] at hat
      have hil:=findT_lt _ _ _ _ hf
      obtain ⟨y,hy⟩:=getElem?_lt hil
      simp only [hy] at hat
      obtain ⟨A3,c3,rfl,hlc3,hcm3,hlm3,hel3⟩:=SliceOf.open y3
      obtain ⟨b3,o3,cs3,rfl,hl3,hA5,hE5⟩:=hel3 i y hy
      obtain ⟨bv3,hv3,pv3,rfl,_,_,_,f1,f2,f3⟩:=hE5.op
      have hd2:¬ ((i:Int) < 0):=by omega
      have hd3:(i:Int) < (t1.ps.length:Int):=by omega
      have hwk:IntKind.i64.wrap ((k:Int)+1)=((k+1:Nat):Int):=by rw [wrap_ok (by omega) (by omega)];omega
      obtain ⟨m1,m2,m3,m4,m5⟩:=hA5.c5 e06
      rw [show findI (some i)=(i:Int) from rfl]
      have hyn:=(nodesT_ps t1).2 y (List.mem_of_getElem? hy)
      have z6:=e6.size
      have gE:Ext w0 (setCells w6 w0.heap.size 0 (trCells y.nd bv3 hv3 pv3)):=setCells_ext (trCells y.nd bv3 hv3 pv3) w6 0 w0 e06 (Nat.le_refl _)
      have gO:Only w0.heap.size w6 (setCells w6 w0.heap.size 0 (trCells y.nd bv3 hv3 pv3)):=setCells_only (trCells y.nd bv3 hv3 pv3) w6 0
      have gZ:=setCells_size (trCells y.nd bv3 hv3 pv3) (b:=w0.heap.size) w6 0
      have gH:=setCells_heap [.string y.nd.name,.int .i64 y.nd.int,bv3,hv3,pv3] 0 d1
      rw [setA_all (vs:=[.string y.nd.name,.int .i64 y.nd.int,bv3,hv3,pv3]) (cs := #[.string t1.nd.name,.int .i64 t1.nd.int,b1,h1,.slice (some ⟨b3,o3,none⟩) t1.ps.length c3]) rfl] at gH
      simp (disch:=try exact DI) only [↓PR,QR,simprocAttr,hd2]
      unfold n22c2
      simp (disch:=try exact DI) only [↓PR,QR,simprocAttr,(cells_of_heap d1).1,(cells_of_heap d1).2,hd3,m1,m2,m3,m4,m5,hwk]
      refine ⟨⟨k+1,y,trCells y.nd bv3 hv3 pv3,rfl,by omega,gE,fun b g1 g2=>(gO b g1).trans ((e6.block b (by omega)).trans (hsameD b g1 g2)),by omega,gH,hE5,by omega,hat⟩,meas_lt (kd := .i64) hlt⟩
   · obtain rfl:k=rows.length:=by omega
     have hdk:¬ (rows.length:Int) < (rows.length:Int):=by omega
     rw [List.drop_of_length_le (by simp)] at hat
     simp (disch:=try exact DI) only [↓PR,QR,simprocAttr,hdk]
     unfold n22c4
     simp (disch:=try exact DI) only [↓PR,QR,simprocAttr,(cells_of_heap d1).1,(cells_of_heap d2).1,(cells_of_heap d2).2]
     refine val_fin (A:=w0) (Q:=RGetK w0 s t) (by omega) ew fun w' e' k' z'=>⟨e',?_⟩
     rw [hva,hP]
     simp only [if_true]
     rw [hat]
     exact ⟨_,rfl,_,_,_,rfl,y1,y2,y3⟩
theorem small_of {t:Tr} (h2:allT smallN t=true) (h1:nodesT t≤200):shortT t=true∧fitT t=true∧hnT 1048576 t=true∧hdrsT t≤22000:=by
 have h3:=hdrs_small t h2
 refine ⟨allT_imp (fun n hn=>?_) t h2,?_,allT_imp (fun n hn=>?_) t h2,by omega⟩
 · unfold smallN at hn
   unfold shortN
   simp only [Bool.and_eq_true,decide_eq_true_eq,List.all_eq_true] at hn ⊢
   refine ⟨⟨by omega,by omega⟩,fun x hx=>?_⟩
   have:=hn.2.2.2 x hx
   unfold smallH at this
   simp only [Bool.and_eq_true,decide_eq_true_eq] at this
   omega
 · unfold fitT
   rw [Bool.and_eq_true,decide_eq_true_eq]
   refine ⟨allT_imp (fun n hn=>?_) t h2,by omega⟩
   unfold smallN at hn
   unfold fitN
   simp only [Bool.and_eq_true,decide_eq_true_eq] at hn ⊢
   omega
 · unfold smallN at hn
   simp only [Bool.and_eq_true,decide_eq_true_eq,List.all_eq_true] at hn ⊢
   intro x hx
   have:=hn.2.2.2 x hx
   unfold smallH at this
   simp only [Bool.and_eq_true,decide_eq_true_eq] at this
   omega
theorem part_small {t p:Tr} (h:allT smallN t=true) (hp:p∈t.ps):allT smallN p=true:=by
 cases t with
 | mk n ps =>
  rw [allT_mk,Bool.and_eq_true,List.all_eq_true] at h
  exact h.2 p hp
theorem at_small:∀ (l:List Stp) (t t':Tr),atT l t=some t'→allT smallN t=true→allT smallN t'=true∧nodesT t'≤nodesT t
 | [],t,t',h,hs=>by
  injection h with h
  rw [← h]
  exact ⟨hs,Nat.le_refl _⟩
 | x::l,t,t',h,hs=>by
  rw [atT] at h
  cases hf:findT (mkB x.1) x.2 t.ps with
  | none=>rw [hf] at h;cases h
  | some i =>
   rw [hf] at h
   simp only at h
   cases hi:t.ps[i]? with
   | none=>rw [hi] at h;cases h
   | some p =>
    rw [hi] at h
    have hm:=List.mem_of_getElem? hi
    obtain ⟨h1,h2⟩:=at_small l p t' h (part_small hs hm)
    have:=(nodesT_ps t).2 p hm
    exact ⟨h1,by omega⟩
theorem zero_small:allT smallN tr0=true∧nodesT tr0≤200:=by
 unfold tr0
 rw [allT_mk,nodesT_mk]
 exact ⟨by decide,by decide⟩
noncomputable def getE (t:Tr) (s:List UInt8):Int×Tr:=if validT t=true then match stepsP s with
 | none=>(6,tr0)
 | some l=>match atT l t with
  | none=>(9,tr0)
  | some t'=>(0,t')
 else (2,tr0)
theorem getE_small {t:Tr} {s:List UInt8} (h:allT smallN t=true) (hn:nodesT t≤200):allT smallN (getE t s).2=true∧nodesT (getE t s).2≤200:=by
 unfold getE
 split
 · cases stepsP s with
   | none=>exact zero_small
   | some l =>
    simp only
    cases ha:atT l t with
    | none=>exact zero_small
    | some t' =>
     obtain ⟨h1,h2⟩:=at_small l t t' ha h
     exact ⟨h1,by show nodesT t'≤200;omega⟩
 · exact zero_small
theorem InT_zero (w:World) (lo hi B:Nat):InT w lo hi B tr0 [.string ByteArray.empty,.int .i64 0,.slice none 0 0,.slice none 0 0,.slice none 0 0]:=by
 unfold tr0 nd0
 exact InT_mk (css:=[]) (bv := .slice none 0 0) (hv := .slice none 0 0) (pv := .slice none 0 0) ⟨OwnE.nil _ _ _ _ _,fun b h=>by cases h⟩ ⟨OwnE.nil _ _ _ _ _,fun b h=>by cases h⟩ ⟨OwnE.nil _ _ _ _ _,fun b h=>by cases h⟩ (fun h hh=>by cases hh) rfl fun k c x hc=>by cases hc
theorem get_shape {w0 w':World} {s:List UInt8} {t:Tr} {r:Value} (h:GetK w0 s t r w') (hs:allT smallN t=true) (hn:nodesT t≤200):Ext w0 w'∧∃ cs lo hi,r = .tuple #[.agg cs.toArray,.int .i64 (getE t s).1]∧InT w' lo hi 1048576 (getE t s).2 cs∧w0.heap.size≤lo∧hi≤w'.heap.size:=by
 obtain ⟨e,h⟩:=h
 refine ⟨e,?_⟩
 have hz:=e.size
 unfold getE
 by_cases hv:validT t=true
 · rw [if_pos hv] at h ⊢
   cases hP:stepsP s with
   | none =>
    rw [hP] at h
    exact ⟨_,w0.heap.size,w0.heap.size,h,InT_zero _ _ _ _,Nat.le_refl _,hz⟩
   | some l =>
    rw [hP] at h
    simp only at h ⊢
    cases ha:atT l t with
    | none =>
     rw [ha] at h
     exact ⟨_,w0.heap.size,w0.heap.size,h,InT_zero _ _ _ _,Nat.le_refl _,hz⟩
    | some t' =>
     rw [ha] at h
     obtain ⟨cs,lo,hi,rfl,hO,h1,h2⟩:=h
     obtain ⟨g1,g2⟩:=at_small l t t' ha hs
     exact ⟨cs,lo,hi,rfl,InT.of _ hO (small_of g1 (by omega)).2.2.1,h1,h2⟩
 · rw [if_neg hv] at h ⊢
   exact ⟨_,w0.heap.size,w0.heap.size,h,InT_zero _ _ _ _,Nat.le_refl _,hz⟩
theorem rget_shape {w0 w':World} {s:List UInt8} {t:Tr} {r:Value} (h:RGetK w0 s t r w'):Ext w0 w'∧∃ v,r = .tuple #[v,.int .i64 (getE t s).1]∧ValAt w' v (getE t s).2:=by
 obtain ⟨e,h⟩:=h
 refine ⟨e,?_⟩
 unfold getE
 by_cases hv:validT t=true
 · rw [if_pos hv] at h ⊢
   cases hP:stepsP s with
   | none=>rw [hP] at h;exact ⟨_,h,ValAt.zero _⟩
   | some l =>
    rw [hP] at h
    simp only at h ⊢
    cases ha:atT l t with
    | none=>rw [ha] at h;exact ⟨_,h,ValAt.zero _⟩
    | some t' =>
     rw [ha] at h
     obtain ⟨v,rfl,h1⟩:=h
     exact ⟨v,rfl,h1.ext e⟩
 · rw [if_neg hv] at h ⊢
   exact ⟨_,h,ValAt.zero _⟩
theorem part_shape {w0 w':World} {nm:ByteArray} {t:Tr} {r:Value} (h:PartK w0 nm t r w') (hs:allT smallN t=true) (hn:nodesT t≤200):Ext w0 w'∧∃ tp cs lo hi,r = .tuple #[.agg cs.toArray,.bool (findT nm 0 t.ps).isSome]∧InT w' lo hi 1048576 tp cs∧w0.heap.size≤lo∧hi≤w'.heap.size∧allT smallN tp=true∧nodesT tp≤200∧(match findT nm 0 t.ps with | none=>tp=tr0 | some i=>t.ps[i]?=some tp):=by
 obtain ⟨e,h⟩:=h
 refine ⟨e,?_⟩
 have hz:=e.size
 cases hf:findT nm 0 t.ps with
 | none =>
  rw [hf] at h
  exact ⟨tr0,_,w0.heap.size,w0.heap.size,h,InT_zero _ _ _ _,Nat.le_refl _,hz,zero_small.1,zero_small.2,rfl⟩
 | some i =>
  rw [hf] at h
  obtain ⟨t',cs,lo,hi,hi',rfl,hO,h1,h2⟩:=h
  have hm:=List.mem_of_getElem? hi'
  have g1:=part_small hs hm
  have g2:=(nodesT_ps t).2 t' hm
  exact ⟨t',cs,lo,hi,rfl,InT.of _ hO (small_of g1 (by omega)).2.2.1,h1,h2,g1,by omega,hi'⟩
theorem ValueGets_ret (W:World) (u:Value) (t:Tr) (path nm:List UInt8) (hu:ValAt W u t) (hE:EnvOK W):Ret Pg 9 #[u,.string (mkB path),.string (mkB nm)] W fun r w'=>r = .bool true∧Ext W w':=by
 obtain ⟨ub,uh,up,rfl,a1,a2,a3,a4,a5,a6⟩:=hu.op
 have hU:ValAt W (.agg #[.string t.nd.name,.int .i64 t.nd.int,ub,uh,up]) t:=⟨_,_,_,rfl,a1,a2,a3⟩
 have hkn:∀ w,Ext W w→callK Pg 11 #[] (panK (retR fun r w'=>r=Value.bool true∧Ext W w')) w fun t w=>retR (fun r w'=>r=Value.bool true∧Ext W w') (.returned t) w:=fun w ew=>callK_ret (known_ret (hE.ext ew)) (by
  rintro _ w' ⟨rfl,e'⟩
  simp (disch:=try exact DI) only [↓PR,QR,simprocAttr]
  exact ⟨trivial,ew.trans e'⟩)
 refine n7s (R:=retR _) ?_;unfold n7
 simp (disch:=try exact DI) only [↓PR,QR,simprocAttr]
 have c1:=heap_new W #[.string t.nd.name,.int .i64 t.nd.int,ub,uh,up] 26
 change (W.alloc (.cells (trCells t.nd ub uh up).toArray 26)).heap[W.heap.size]?=_ at c1
 have e:Ext W (W.alloc (.cells (trCells t.nd ub uh up).toArray 26)):=(Ext.refl W).alloc _
 generalize (W.alloc (.cells (trCells t.nd ub uh up).toArray 26))=w1 at *
 refine zcr (vsmall_ret w1 _ t (hU.ext e)) fun w2 e2=>?_
 have c1:=e2.obj c1
 have e:=e.trans e2
 have hz1:((mkB path).size:Int)=(path.length:Int):=by rw [mkB_size]
 have hz2:((mkB nm).size:Int)=(nm.length:Int):=by rw [mkB_size]
 unfold n7c17 joinK
 cases hst:smallT t with
 | false =>
  simp (disch:=try exact DI) only [↓PR,QR,simprocAttr]
  unfold n7c16 joinK
  simp (disch:=try exact DI) only [↓PR,QR,simprocAttr]
  unfold n7c15
  simp (disch:=try exact DI) only [↓PR,QR,simprocAttr]
  exact hkn _ e
 | true =>
  by_cases hp:(200:Int) < (path.length:Int)
  · simp (disch:=try exact DI) only [↓PR,QR,simprocAttr,hz1,hp]
    unfold n7c16 joinK
    simp (disch:=try exact DI) only [↓PR,QR,simprocAttr]
    unfold n7c15
    simp (disch:=try exact DI) only [↓PR,QR,simprocAttr]
    exact hkn _ e
  by_cases hq:(200:Int) < (nm.length:Int)
  · simp (disch:=try exact DI) only [↓PR,QR,simprocAttr,hz1,hp]
    unfold n7c16 joinK
    simp (disch:=try exact DI) only [↓PR,QR,simprocAttr,hz2,hq]
    unfold n7c15
    simp (disch:=try exact DI) only [↓PR,QR,simprocAttr]
    exact hkn _ e
  obtain ⟨hn200,hsm⟩:=small_facts hst
  obtain ⟨t1,t2,t3,t4⟩:=small_of hsm hn200
  simp (disch:=try exact DI) only [↓PR,QR,simprocAttr,hz1,hp]
  unfold n7c16 joinK
  simp (disch:=try exact DI) only [↓PR,QR,simprocAttr,hz2,hq]
  unfold n7c15
  simp (disch:=try exact DI) only [↓PR,QR,simprocAttr,(cells_of_heap c1).1]
  refine callK_ret (Copy_ret t w2 _ (hU.ext e) t2) ?_
  rintro _ w3 ⟨⟨cs3,rfl,hO3⟩,e3⟩
  obtain ⟨xb,xh,xp,rfl,_,_,_,x1,x2,x3⟩:=hO3.read.op
  have c1:=e3.obj c1
  have e:=e.trans e3
  unfold n7c14
  simp (disch:=try exact DI) only [↓PR,QR,simprocAttr,fun o=>(cells_of_heap (((Ext.refl w3).alloc o).obj c1)).1]
  have k7:=heap_new w3 #[.string t.nd.name,.int .i64 t.nd.int,xb,xh,xp] 26
  have e4:Ext w3 (w3.alloc (.cells #[.string t.nd.name,.int .i64 t.nd.int,xb,xh,xp] 26)):=ee
  generalize (w3.alloc (.cells #[.string t.nd.name,.int .i64 t.nd.int,xb,xh,xp] 26))=w4 at *
  have hO4:=hO3.ext e4
  have c1:=e4.obj c1
  have e:=e.trans e4
  refine callK_ret (Get_ret (hE.ext e) _ t path (by omega) (hU.ext e) (by omega)) ?_
  intro r5 w5 hG
  obtain ⟨e5,cs5,lo5,hi5,rfl,hI5,hl5,hh5⟩:=get_shape hG hsm hn200
  obtain ⟨s1,s2⟩:=getE_small (s:=path) hsm hn200
  obtain ⟨s3,s4,s5,s6⟩:=small_of s1 s2
  obtain ⟨yb,yh,yp,rfl,_,_,_,y1,y2,y3⟩:=hI5.1.all.op
  have c1:=e5.obj c1
  have k7:=e5.obj k7
  have e:=e.trans e5
  unfold n7c13
  simp (disch:=try exact DI) only [↓PR,QR,simprocAttr,fun o=>(cells_of_heap (((Ext.refl w5).alloc o).obj c1)).1]
  have k8:=heap_new w5 #[.string (getE t path).2.nd.name,.int .i64 (getE t path).2.nd.int,yb,yh,yp] 26
  have e6:Ext w5 (w5.alloc (.cells #[.string (getE t path).2.nd.name,.int .i64 (getE t path).2.nd.int,yb,yh,yp] 26)):=ee
  generalize (w5.alloc (.cells #[.string (getE t path).2.nd.name,.int .i64 (getE t path).2.nd.int,yb,yh,yp] 26))=w6 at *
  have c1:=e6.obj c1
  have k7:=e6.obj k7
  have e:=e.trans e6
  have hX:∀ w,Ext w6 w→ValAt w (.agg #[.string (getE t path).2.nd.name,.int .i64 (getE t path).2.nd.int,yb,yh,yp]) (getE t path).2:=fun w ew=>(val_of_cells hI5.1.all).ext (e6.trans ew)
  refine callK_ret (rGet_ret _ t path (by omega) (hU.ext e) (by omega)) ?_
  intro r7 w7 hG7
  obtain ⟨e7,v7,rfl,hV7⟩:=rget_shape hG7
  obtain ⟨zb,zh,zp,rfl,z1,z2,z3,z4,z5,z6⟩:=hV7.op
  have c1:=e7.obj c1
  have k7:=e7.obj k7
  have k8:=e7.obj k8
  have e:=e.trans e7
  unfold n7c12 joinK
  have hee:((getE t path).1 != (getE t path).1)=false:=by simp
  simp (disch:=try exact DI) only [↓PR,QR,simprocAttr,hee,fun o=>(cells_of_heap (((Ext.refl w7).alloc o).obj k8)).1]
  have e8:Ext w7 (w7.alloc (.cells #[.string (getE t path).2.nd.name,.int .i64 (getE t path).2.nd.int,zb,zh,zp] 26)):=ee
  generalize (w7.alloc (.cells #[.string (getE t path).2.nd.name,.int .i64 (getE t path).2.nd.int,zb,zh,zp] 26))=w8 at *
  have c1:=e8.obj c1
  have k7:=e8.obj k7
  have k8:=e8.obj k8
  have e:=e.trans e8
  refine zcr (rEqual_ret w8 _ _ _ _ (hX _ (e7.trans e8)) (ValAt.ext ⟨_,_,_,rfl,z1,z2,z3⟩ e8) s3 s3) fun w9 e9=>?_
  have c1:=e9.obj c1
  have k7:=e9.obj k7
  have k8:=e9.obj k8
  have e:=e.trans e9
  rw [cmp_refl]
  unfold n7c11
  simp (disch:=try exact DI) only [↓PR,QR,simprocAttr,hee,(cells_of_heap c1).1]
  have hfp:∀ p∈t.ps,fitT p=true:=fun p hp=>(small_of (part_small hsm hp) (by have:=(nodesT_ps t).2 p hp;omega)).2.1
  refine callK_ret (Part_ret _ t (mkB nm) (hU.ext e) hfp) ?_
  intro r10 w10 hP
  obtain ⟨e10,tp,csp,lop,hip,rfl,hIp,hlp,hhp,hps,hpn,hfind⟩:=part_shape hP hsm hn200
  obtain ⟨p3,p4,p5,p6⟩:=small_of hps hpn
  obtain ⟨qb,qh,qp,rfl,_,_,_,q1,q2,q3⟩:=hIp.1.all.op
  have c1:=e10.obj c1
  have k7:=e10.obj k7
  have k8:=e10.obj k8
  have e:=e.trans e10
  unfold n7c10
  simp (disch:=try exact DI) only [↓PR,QR,simprocAttr,fun o=>(cells_of_heap (((Ext.refl w10).alloc o).obj c1)).1]
  have k12:=heap_new w10 #[.string tp.nd.name,.int .i64 tp.nd.int,qb,qh,qp] 26
  have e11:Ext w10 (w10.alloc (.cells #[.string tp.nd.name,.int .i64 tp.nd.int,qb,qh,qp] 26)):=ee
  generalize (w10.alloc (.cells #[.string tp.nd.name,.int .i64 tp.nd.int,qb,qh,qp] 26))=w11 at *
  have c1:=e11.obj c1
  have k7:=e11.obj k7
  have k8:=e11.obj k8
  have e:=e.trans e11
  have hPv:∀ w,Ext w11 w→ValAt w (.agg #[.string tp.nd.name,.int .i64 tp.nd.int,qb,qh,qp]) tp:=fun w ew=>(val_of_cells hIp.1.all).ext (e11.trans ew)
  refine zcr (rFind_ret w11 _ t (mkB nm) 0 (by omega) (hU.ext e)) fun w12 e12=>?_
  refine drawK_intro ?_
  have eD:Ext w12 (drew w12):=(Ext.refl w12).drew
  have e12:=e12.trans eD
  generalize drew w12=D at *
  have c1:=e12.obj c1
  have k7:=e12.obj k7
  have k8:=e12.obj k8
  have k12:=e12.obj k12
  have e:=e.trans e12
  have hgo:∀ w',Ext D w'→n7c3 (.pointer (some ⟨W.heap.size,0,none⟩)) (.pointer (some ⟨w3.heap.size,0,none⟩)) (.pointer (some ⟨w5.heap.size,0,none⟩)) (.pointer (some ⟨w10.heap.size,0,none⟩)) (retR fun r w'=>r=Value.bool true∧Ext W w') w':=by
   intro w13 e13
   have x6:=e6.size
   have x7:=e7.size
   have x8:=e8.size
   have x9:=e9.size
   have x10:=e10.size
   have x11:=e11.size
   have x12:=e12.size
   have x13:=e13.size
   have x5:=e5.size
   have x4:=e4.size
   have l3:w3.heap.size < w4.heap.size:=(Array.getElem?_eq_some_iff.1 (show w4.heap[w3.heap.size]?=_ by assumption)).1
   have lW:W.heap.size < w3.heap.size:=(Array.getElem?_eq_some_iff.1 (show w3.heap[W.heap.size]?=_ by assumption)).1
   have hle5:=hI5
   have c1:=e13.obj c1
   have k7:=e13.obj k7
   have k8:=e13.obj k8
   have k12:=e13.obj k12
   have k12lt:w10.heap.size < D.heap.size:=by
    have:=(Array.getElem?_eq_some_iff.1 (show w11.heap[w10.heap.size]?=_ by assumption)).1
    omega
   have eF:=e.trans e13
   have e5F:=e6.trans (e7.trans (e8.trans (e9.trans (e10.trans (e11.trans (e12.trans e13))))))
   have e10F:=e11.trans (e12.trans e13)
   have hI5':=hI5.same (w':=w13) fun b _ _ hb=>e5F.block b hb
   have hIp':=hIp.same (w':=w13) fun b _ _ hb=>e10F.block b hb
   unfold n7c3
   simp (disch:=try exact DI) only [↓PR,QR,simprocAttr,(cells_of_heap k8).1]
   refine callK_ret (spoil_ret (getE t path).2 w13 (trCells (getE t path).2.nd yb yh yp) lo5 hi5 1048576 hI5'.2 (by omega) (by omega) s4) ?_
   intro r14 w14 hS1
   have o12:=(hS1.out _ (by omega) (.inr (by omega))).trans k12
   have o1:=(hS1.out _ (by omega) (.inl (by omega))).trans c1
   have o7:=(hS1.out _ (by omega) (.inl (by omega))).trans k7
   have z14:=hS1.size
   have hIp2:=hIp'.same (w':=w14) fun b g1 g2 g3=>hS1.out b g3 (.inr (by omega))
   simp (disch:=try exact DI) only [↓PR,QR,simprocAttr,(cells_of_heap o12).1]
   refine callK_ret (spoil_ret tp w14 (trCells tp.nd qb qh qp) lop hip 1048576 hIp2.2 (by omega) (by omega) p4) ?_
   intro r15 w15 hS2
   have o1:=(hS2.out _ (by omega) (.inl (by omega))).trans o1
   have o7:=(hS2.out _ (by omega) (.inl (by omega))).trans o7
   have eZ:Ext W w15:=hS2.ext (hS1.ext eF (by omega)) (by omega)
   have hB:ValAt w15 (.agg #[.string t.nd.name,.int .i64 t.nd.int,xb,xh,xp]) t:=val_of_cells ((InT.of _ hO4 t3).1.keep (w':=w15) (Nat.le_refl _) (Nat.le_refl _) fun k g1 g2 g3=>(hS2.out k (by omega) (.inl (by omega))).trans ((hS1.out k (by omega) (.inl (by omega))).trans ((e5.trans e5F).block k g3))).all
   unfold n7c2
   simp (disch:=try exact DI) only [↓PR,QR,simprocAttr,(cells_of_heap o1).1,(cells_of_heap o7).1]
   refine zcr (rEqual_ret w15 _ _ t t (hU.ext eZ) hB t1 t1) fun w16 e16=>?_
   rw [cmp_refl]
   unfold n7c1 joinK
   simp (disch:=try exact DI) only [↓PR,QR,simprocAttr]
   exact hkn _ (eZ.trans e16)
  unfold n7c9 joinK
  cases hf:findT (mkB nm) 0 t.ps with
  | none =>
   rw [hf] at hfind
   simp only at hfind
   subst hfind
   have hg:¬ (0:Int)≤findI none:=by decide
   simp (disch:=try exact DI) only [↓PR,QR,simprocAttr,hg]
   unfold n7c8 joinK
   simp (disch:=try exact DI) only [↓PR,QR,simprocAttr]
   unfold n7c7 joinK
   simp (disch:=try exact DI) only [↓PR,QR,simprocAttr]
   unfold n7c6 joinK
   simp (disch:=try exact DI) only [↓PR,QR,simprocAttr]
   unfold n7c5 joinK
   simp (disch:=try exact DI) only [↓PR,QR,simprocAttr,(cells_of_heap k12).1]
   refine zcr (rEqual_ret D _ _ tr0 tr0 (hPv _ e12) (ValAt.zero _) short_zero short_zero) fun w13 e13=>?_
   refine ⟨e13,?_⟩
   rw [cmp_refl]
   simp (disch:=try exact DI) only [↓PR,QR,simprocAttr]
   unfold n7c4 joinK
   simp (disch:=try exact DI) only [↓PR,QR,simprocAttr]
   exact hgo _ e13
  | some i =>
   rw [hf] at hfind
   simp only at hfind
   have hg:(0:Int)≤findI (some i):=by show (0:Int)≤(i:Int);omega
   have hil:=findT_lt _ _ _ _ hf
   obtain ⟨A3,c3,rfl,hlc3,hcm3,hlm3,hel3⟩:=SliceOf.open a3
   obtain ⟨b3,o3,cs3,rfl,hl3,hA5,hE5⟩:=hel3 i tp hfind
   obtain ⟨bv3,hv3,pv3,rfl,j1,j2,j3,f1,f2,f3⟩:=hE5.op
   have hd3:(i:Int) < (t.ps.length:Int):=by omega
   obtain ⟨m1,m2,m3,m4,m5⟩:=hA5.c5 e
   rw [show findI (some i)=(i:Int) from rfl] at hg ⊢
   simp (disch:=try exact DI) only [↓PR,QR,simprocAttr,hg]
   unfold n7c8 joinK
   simp (disch:=try exact DI) only [↓PR,QR,simprocAttr,(cells_of_heap k12).1,(cells_of_heap c1).1,hd3,m1,m2,m3,m4,m5]
   refine zcr (rEqual_ret D _ _ tp tp (hPv _ e12) (ValAt.ext ⟨_,_,_,rfl,j1,j2,j3⟩ e) p3 p3) fun w13 e13=>?_
   refine ⟨e13,?_⟩
   rw [cmp_refl]
   simp (disch:=try exact DI) only [↓PR,QR,simprocAttr]
   unfold n7c7 joinK
   simp (disch:=try exact DI) only [↓PR,QR,simprocAttr]
   unfold n7c6 joinK
   simp (disch:=try exact DI) only [↓PR,QR,simprocAttr]
   unfold n7c5 joinK
   simp (disch:=try exact DI) only [↓PR,QR,simprocAttr]
   unfold n7c4 joinK
   simp (disch:=try exact DI) only [↓PR,QR,simprocAttr]
   exact hgo _ e13
theorem mkB_self (s:ByteArray):mkB s.data.toList=s:=bytes_ext (mkB_data _)
theorem ValueGets_at (W:World) (u:Value) (t:Tr) (s0 s1:ByteArray) (hu:ValAt W u t) (_:True) (hE:EnvOK W):Ret Pg 9 #[u,.string s0,.string s1] W fun r w'=>r = .bool true∧Ext W w':=by
 have:=ValueGets_ret W u t s0.data.toList s1.data.toList hu hE
 rwa [mkB_self,mkB_self] at this
end Go.Proofs.YtcffhmapmaahnaaGreatDoor
namespace Go.Proofs.YtcffhmapmaahnaaGreatDoor
open Sw
open Go.ChangeShapes Go.WideShapes Go.RowKit Go.ChangeAt Go.Deep
theorem vgets_lifted (os:Os) (started:os.Started) (H:Type) (enc:TypeId×Value→H) :
 ReturnsInHanded {} Tryz.checked os 9 .any (fun w args=>(Rows.valueGetsSpec.pre enc Pg Tryz.f9 Rows.valueGetsRow.domain false w args∧laidMetH Pg role_laid w)∧sizedMet enc Pg Tryz.f9 (OpenSpec.ofChange Rows.valueGetsSpec) false w args) (Rows.valueGetsSpec.post enc Pg Tryz.f9 false true false false):=by
 refine handed_and (C:=Tryz.checked) (X:=fun w _=>laidMetH Pg role_laid w) (fun _ _ _ hh h=>h.of_heap hh) role_own started (by kernel_rfl) Tryz.func9
  (ChangeSpec.witness_shaped (enc:=enc) (C:=Tryz.checked) (os:=os) (X:=fun w _=>laidMetH Pg role_laid w) false (World.laidAll Pg os role_laid) #[.agg #[.string ByteArray.empty,.int .i64 0,.slice none 0 0,.slice none 0 0,.slice none 0 0],.string ByteArray.empty,.string ByteArray.empty] 8 (World.laidAll_os _ _ _) (World.shaped_of_ZipB (by kernel_rfl) (by kernel_rfl)) (by kernel_rfl) (by kernel_rfl) (by kernel_rfl) (role_met os _)) ?_
 intro W base args ds gs before hval hW _ hsz hL hsh _
 have hW':=hW
 obtain ⟨p,q,hA0,hV,rfl,_,_⟩:=hW
 have hA:DataW.TrodAll enc Pg W 0 (fun _=>true) true Tryz.f9.params.toList args.toList ds p:=hA0
 rw [Tryz.params9] at hA hval hsz
 obtain ⟨v0,vs0,d0,ds0,p0,q0,ha0,rfl,rfl,h0,r0⟩:=trodAll_cons hA
 obtain ⟨v1,vs1,d1,ds1,p1,q1,ha1,rfl,rfl,h1,r1⟩:=trodAll_cons r0
 obtain ⟨v2,vs2,d2,ds2,p2,q2,ha2,rfl,rfl,h2,r2⟩:=trodAll_cons r1
 obtain ⟨rfl,rfl,rfl⟩:=trodAll_nil r2
 subst ha2 ha1
 obtain rfl:args = #[v0,v1,v2]:=by cases args;simp_all
 obtain ⟨f0,hf0,hs0⟩:=val_val (hval 0 _ v0 rfl rfl) h0 (reached_of (j:=0) hsz rfl rfl)
 obtain ⟨s1,rfl,_⟩:=open_str Tryz.underlying9 (hval 1 _ v1 rfl rfl) h1
 obtain ⟨s2,rfl,_⟩:=open_str Tryz.underlying9 (hval 2 _ v2 rfl rfl) h2
 refine Calls.mono (ValueGets_at W v0 f0 s1 s2 hf0 hs0 (role_env hsh hL)) fun e W' ⟨v,he,hv,hx⟩=>?_
 subst he hv
 exact ⟨_,rfl,law_post role_laidOut (by decide +kernel) rfl hW' hx rfl Tryz.underlying4 rfl rfl rfl⟩
theorem vgets_holds:Rows.ValueGetsSaid :=
 OpenClaim.holds_of_wide 9 Tryz.f9 rfl rfl rfl rfl rfl rfl rfl ⟨rfl,rfl,rfl,rfl,rfl⟩ rfl rfl rfl rfl rfl (by kernel_rfl) Tryz.func9 (by kernel_rfl)
  (of_decide_eq_true (by kernel_rfl)) (by unfold Func.isWrapper;first | (rw [if_pos (by decide +kernel)];kernel_rfl) | (rw [if_neg (by decide +kernel)];exact ⟨rfl,rfl⟩))
  (fun os started H enc _=>vgets_lifted os started H enc)
theorem vgets_card:Rows.ValueGetsCardSaid :=
 Claim7.holds_tied_plain_at .later [] [.data,.data,.data,.data,.sentinel,.sentinel,.pinned] true (true, "890728a3a62857bfa7207560ed87612b9253540bda02dd327723c287671f9d21") true
  vgets_holds (fun _ h=>by cases h) (by kernel_rfl) (fun _ h=>by cases h) valueGets_row_tie rfl ⟨rfl,rfl⟩ (by kernel_rfl) rfl
  (fun f fn hf hfn=>by
   obtain rfl:f=9:=Option.some.inj ((show Pg.funcNamed "phrasebook/phrasebooklaw13.ValueGets" = some 9 by kernel_rfl).symm.trans hf) |>.symm
   obtain rfl:fn=Tryz.f9:=(Option.some.inj (Tryz.func9.symm.trans hfn)).symm
   exact ⟨by kernel_rfl,fun j t ht=>by
    rw [Tryz.params9] at ht
    have hm:t∈[26,9,9]:=by simpa using Array.mem_of_getElem? ht
    have hall:([26,9,9].all fun u=>!Pg.wantsStandIn u)=true:=by kernel_rfl
    exact (show Pg.wantsStandIn t=false by simpa using List.all_eq_true.1 hall t hm)⟩)
  (by kernel_rfl)
end Go.Proofs.YtcffhmapmaahnaaGreatDoor
