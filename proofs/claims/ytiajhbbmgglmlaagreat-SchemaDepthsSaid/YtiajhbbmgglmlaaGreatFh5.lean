/-
  Lemmas for the claim.
-/
import Derived.Test.YtiajhbbmgglmlaaGreatFh4
set_option linter.all false
set_option maxHeartbeats 4000000
set_option maxRecDepth 100000
namespace Go.Proofs.YtiajhbbmgglmlaaGreat
open Sw
open Go.RowKit (intOf Below)
def stepD (deps:List (ByteArray×Int)) (m:MsgD):List (ByteArray×Int):=deps++[(m.name,depthM deps m+1)]
def stepS (strs:List (ByteArray×Bool)) (m:MsgD):List (ByteArray×Bool):=strs++[(m.name,strictM strs m)]
def depsOf (l:List MsgD):List (ByteArray×Int):=l.foldl stepD []
def strsOf (l:List MsgD):List (ByteArray×Bool):=l.foldl stepS []
def msgsP (deps:List (ByteArray×Int)) (strs:List (ByteArray×Bool)) (at_:Nat):List MsgD→Int×Int×Int
 | []=>(0,0,0)
 | m::l=>if (nextP deps strs m).2=0 then msgsP (stepD deps m) (stepS strs m) (at_+1) l else (at_,nextP deps strs m)
def endP (d:DefD) (r:Int×Int×Int):Int×Int×Int:=if r.2.2=0 then (if (lastP (depsOf d.msgs) d.start).isSome then (0,0,0) else (-1,-1,11)) else r
def checkP (d:DefD):Int×Int×Int :=
 if nameB d.name then (if 1≤d.msgs.length∧d.msgs.length≤60 then endP d (msgsP [] [] 0 d.msgs) else (-1,-1,3)) else (-1,-1,1)
theorem tailP_low {deps:List (ByteArray×Int)} {m:MsgD} {r:Int×Int} (h:(tailP deps m r).2=0):depthM deps m < 16:=by
 unfold tailP at h
 split at h
 · split at h
   · assumption
   · exact absurd h (by decide)
 · contradiction
theorem nextP_low {deps:List (ByteArray×Int)} {strs:List (ByteArray×Bool)} {m:MsgD} (h:(nextP deps strs m).2=0):depthM deps m < 16:=by
 unfold nextP at h
 split at h
 · split at h
   · exact absurd h (by decide)
   · split at h
     · exact tailP_low h
     · exact absurd h (by decide)
 · exact absurd h (by decide)
theorem Low.step {deps:List (ByteArray×Int)} {strs:List (ByteArray×Bool)} {m:MsgD} (hl:Low deps) (h:(nextP deps strs m).2=0):Low (stepD deps m):=by
 intro p hp
 rcases List.mem_append.1 hp with hp | hp
 · exact hl p hp
 · simp only [List.mem_singleton] at hp
   subst hp
   have h1:=nextP_low h
   have h2:=(foldl_maxI (fun s=>(lastP deps s).getD 0) (refsM m) 0 (by decide) (fun s _=>hl.get s) (by decide)).1
   exact ⟨by show 0≤depthM deps m+1;unfold depthM;omega,by show depthM deps m+1≤16;omega⟩
def calm (d:DefD):Prop:=∀ m∈d.msgs,(allRefs m.fields).length≤1048576∧∀ f∈m.fields,f.terms.length≤1048576
abbrev catchD (p3 p4:Nat):Deferred:={ target := .fn (.func 36) #[.pointer (some ⟨p3,0,none⟩),.pointer (some ⟨p4,0,none⟩)],args := #[] }
theorem catch_ret {p3 p4:Nat} {w:World} {k:FrameMode→World→Prop} (h:k .returning w):outM Pg [catchD p3 p4] .returning w k:=by
 refine ⟨by simp,.inr ⟨.func 36,_,36,#[.pointer (some ⟨p3,0,none⟩),.pointer (some ⟨p4,0,none⟩)],rfl,?_,?_⟩⟩
 · exact callFunc_run c36 _ w
 · refine n60s ?_
   unfold n60
   show opV _ (binS .neq _ true .nilIface .nilIface) _ _ _
   rw [op_neqNil_none Tryz.underlying20]
   simp (disch:=try exact DI) only [↓PR,QR,Int.reduceBEq,Int.reduceBNe,Int.reduceLT,Int.reduceLE,Int.reduceGT,Int.reduceGE,Int.reduceNeg]
   exact h
theorem catch_pan {p3 p4:Nat} {w:World} {k:FrameMode→World→Prop} {a f c:Int} {x0 x1 x2 y:Value} (o3:w.heap[p3]?=some (.cells #[x0,x1,x2] 39 (0,0))) (o4:w.heap[p4]?=some (.cells #[y] 4 (0,0)))
 (h:k .returning ((((w.setCell ⟨p3,0,none⟩ (.int .i64 a)).setCell ⟨p3,1,none⟩ (.int .i64 f)).setCell ⟨p3,2,none⟩ (.int .i64 c)).setCell ⟨p4,0,none⟩ (.bool true))):outM Pg [catchD p3 p4] (.panicking [flawEntry a f c]) w k:=by
 have hne:p3≠p4:=by rintro rfl;rw [o3] at o4;cases o4
 refine ⟨by simp,.inr ⟨.func 36,_,36,#[.pointer (some ⟨p3,0,none⟩),.pointer (some ⟨p4,0,none⟩)],rfl,?_,?_⟩⟩
 · exact callFunc_run c36 _ w
 · refine n60s ?_
   rw [show recM (.panicking [flawEntry a f c])=(.iface 39 (flawVal a f c),.panicking [{ v := .iface 39 (flawVal a f c),recovered:=true }]) from rfl]
   unfold n60
   rw [op_neqNil_some Tryz.underlying20]
   simp (disch:=try exact DI) only [↓PR,QR,Int.reduceBEq,Int.reduceBNe,Int.reduceLT,Int.reduceLE,Int.reduceGT,Int.reduceGE,Int.reduceNeg]
   unfold n60c1
   rw [op_assert_ok Tryz.underlying39 rfl]
   simp (disch:=try exact DI) only [↓PR,QR,Int.reduceBEq,Int.reduceBNe,Int.reduceLT,Int.reduceLE,Int.reduceGT,Int.reduceGE,Int.reduceNeg,(cells_of_heap o3).1,(cells_of_heap o3).2,(cells_of_heap o4).1,(cells_of_heap o4).2]
   exact h
section
variable {w0:World}
def CkE (w:World) (cb:Nat) (deps:List (ByteArray×Int)) (strs:List (ByteArray×Bool)):Prop:=∃ md ms dn mv ds at_ fld mn fv,w.heap[cb]?=some (.cells #[.string dn,mv,.string ds,.map (some md),.map (some ms),.int .i64 at_,.int .i64 fld,.string mn,fv] 65 (0,0))∧MapOf w md (vI deps)∧MapOf w ms (vB strs)
theorem CkE.other {w:World} {cb b o:Nat} {deps:List (ByteArray×Int)} {strs:List (ByteArray×Bool)} (h:CkE w cb deps strs) (hn:b≠cb) (v:Value):CkE (w.setCell ⟨b,o,none⟩ v) cb deps strs:=by
 obtain ⟨md,ms,dn,mv,ds,at_,fld,mn,fv,h1,h2,h3⟩:=h
 exact ⟨md,ms,dn,mv,ds,at_,fld,mn,fv,(Only.setCell w b o v cb (fun e=>hn e.symm)).trans h1,h2.setCell _ _,h3.setCell _ _⟩
theorem CkE.go {w w':World} {cb:Nat} {deps:List (ByteArray×Int)} {strs:List (ByteArray×Bool)} (h:CkE w cb deps strs) (e:Ext w w'):CkE w' cb deps strs:=by
 obtain ⟨md,ms,dn,mv,ds,at_,fld,mn,fv,h1,h2,h3⟩:=h
 exact ⟨md,ms,dn,mv,ds,at_,fld,mn,fv,e.obj h1,h2.ext e,h3.ext e⟩
theorem CkO.left {a0 w:World} {cb md ms:Nat} {deps:List (ByteArray×Int)} {strs:List (ByteArray×Bool)} {at_ fld:Int} {fs:List FieldD} (h:CkO a0 w cb md ms deps strs at_ fld fs):CkE w cb deps strs:=by
 obtain ⟨dn,mv,ds,mn,fv,h1,_⟩:=h.obj
 exact ⟨md,ms,dn,mv,ds,at_,fld,mn,fv,h1,h.mdeps,h.mstrs⟩
def examK (w0:World) (d:DefD) (r:Value) (w':World):Prop:=Ext w0 w'∧∃ cb,r = .tuple #[.pointer (some ⟨cb,0,none⟩),flawVal (checkP d).1 (checkP d).2.1 (checkP d).2.2,.bool (decide ((checkP d).2.2≠0))] ∧
 ((checkP d).2.2=0→CkE w' cb (depsOf d.msgs) (strsOf d.msgs))
abbrev resL (cb p3 p4:Nat):List (Option TypeId×Value):=[(none,.pointer (some ⟨cb,0,none⟩)),(some 39,.pointer (some ⟨p3,0,none⟩)),(some 4,.pointer (some ⟨p4,0,none⟩))]
theorem exm_pan {w:World} {d:DefD} {cb p3 p4:Nat} {a f c:Int} {x0 x1 x2 y:Value} (e:Ext w0 w) (h3:w0.heap.size≤p3) (h4:w0.heap.size≤p4) (o3:w.heap[p3]?=some (.cells #[x0,x1,x2] 39 (0,0))) (o4:w.heap[p4]?=some (.cells #[y] 4 (0,0)))
 (h:checkP d=(a,f,c)) (hc:c≠0):outQ Pg [catchD p3 p4] (resL cb p3 p4) (retR (examK w0 d)) [flawEntry a f c] w:=by
 have hne:p3≠p4:=by rintro rfl;rw [o3] at o4;cases o4
 unfold outQ
 refine catch_pan o3 o4 ?_
 have q3:=heap_set (o:=2) (heap_set (o:=1) (heap_set (o:=0) o3 (.int .i64 a)) (.int .i64 f)) (.int .i64 c)
 have e1:Ext w0 ((((w.setCell ⟨p3,0,none⟩ (.int .i64 a)).setCell ⟨p3,1,none⟩ (.int .i64 f)).setCell ⟨p3,2,none⟩ (.int .i64 c)).setCell ⟨p4,0,none⟩ (.bool true)):=(((e.setCell h3 _).setCell h3 _).setCell h3 _).setCell h4 _
 have q4:=heap_set (o:=0) ((Only.setCell ((w.setCell ⟨p3,0,none⟩ (.int .i64 a)).setCell ⟨p3,1,none⟩ (.int .i64 f)) p3 2 (.int .i64 c) p4 (by omega)).trans ((Only.setCell (w.setCell ⟨p3,0,none⟩ (.int .i64 a)) p3 1 (.int .i64 f) p4 (by omega)).trans ((Only.setCell w p3 0 (.int .i64 a) p4 (by omega)).trans o4))) (.bool true)
 have q3':=(Only.setCell _ p4 0 (.bool true) p3 hne).trans q3
 simp only [List.setIfInBounds_toArray,List.set_cons_zero,List.set_cons_succ] at q3' q4
 generalize ((((w.setCell ⟨p3,0,none⟩ (.int .i64 a)).setCell ⟨p3,1,none⟩ (.int .i64 f)).setCell ⟨p3,2,none⟩ (.int .i64 c)).setCell ⟨p4,0,none⟩ (.bool true))=W at e1 q3' q4 ⊢
 unfold endM retV resOne resL
 simp only
 simp (disch:=try exact DI) only [↓PR,QR,Int.reduceBEq,Int.reduceBNe,Int.reduceLT,Int.reduceLE,Int.reduceGT,Int.reduceGE,Int.reduceNeg,(cells_of_heap q3').1,(cells_of_heap q4).1]
 refine ⟨e1,cb,?_,fun h0=>?_⟩
 · rw [h];simp [hc]
 · rw [h] at h0;exact absurd h0 hc
theorem exm_fine {w:World} {d:DefD} {cb p3 p4:Nat} (e:Ext w0 w) (hC:CkE w cb (depsOf d.msgs) (strsOf d.msgs)) (o3:w.heap[p3]?=some (.cells #[.int .i64 0,.int .i64 0,.int .i64 0] 39 (0,0))) (o4:w.heap[p4]?=some (.cells #[.bool false] 4 (0,0)))
 (h:checkP d=(0,0,0)):outX Pg [catchD p3 p4] (resL cb p3 p4) (retR (examK w0 d)) w:=by
 unfold outX
 refine catch_ret ?_
 unfold endM retV resOne resL
 simp only
 simp (disch:=try exact DI) only [↓PR,QR,Int.reduceBEq,Int.reduceBNe,Int.reduceLT,Int.reduceLE,Int.reduceGT,Int.reduceGE,Int.reduceNeg,(cells_of_heap o3).1,(cells_of_heap o4).1]
 refine ⟨e,cb,?_,fun h0=>hC⟩
 rw [h];simp
theorem callK_nxt {f:FuncId} {args:Array Value} {QP:List PanicEntry→World→Prop} {a0 w:World} {k:Value→World→Prop} {at_:Int} {r:Int×Int} {K:World→Prop} (h:Calls Pg f args w (nxtR a0 at_ r K)) (hk:∀ w',r.2=0→K w'→k (.tuple #[]) w') (hp:∀ w',Ext a0 w'→r.2≠0→QP [flawEntry at_ r.1 r.2] w'):callK Pg f args QP w k :=
 callK_calls h (fun v w' h=>by rcases h with ⟨e,⟨h1,h2,h3⟩ | ⟨_,h2⟩⟩<;>cases h2;exact hk w' h1 h3) (fun ch w' h=>by rcases h with ⟨e,⟨_,h2,_⟩ | ⟨h1,h2⟩⟩<;>cases h2;exact hp w' e h1) (fun w' h=>by rcases h with ⟨_,⟨_,h2,_⟩ | ⟨_,h2⟩⟩<;>cases h2)
theorem foldl_take {α β:Type} (g:β→α→β) {l:List α} {k:Nat} {x:α} (b:β) (hx:l[k]?=some x):(l.take (k+1)).foldl g b=g ((l.take k).foldl g b) x:=by rw [take_snoc hx,List.foldl_append];rfl
theorem exm_loop {A0 w:World} {d:DefD} {cb p1 p3 p4 md ms:Nat} {fs:List FieldD} {mv:Value} (ea:Ext w0 A0) (hM:MsgsOf A0 mv d.msgs) (ht:calm d) (hC:CkO A0 w cb md ms [] [] (-1) (-1) fs) (o1:A0.heap[p1]?=some (.cells (defCells d mv).toArray 24 (0,0)))
 (o3:A0.heap[p3]?=some (.cells #[.int .i64 0,.int .i64 0,.int .i64 0] 39 (0,0))) (o4:A0.heap[p4]?=some (.cells #[.bool false] 4 (0,0))) (h3:w0.heap.size≤p3) (h4:w0.heap.size≤p4) (hr:checkP d=endP d (msgsP [] [] 0 d.msgs)) :
 n59c6 (.pointer (some ⟨p1,0,none⟩)) (.pointer (some ⟨p3,0,none⟩)) (.pointer (some ⟨p4,0,none⟩)) (.pointer (some ⟨cb,0,none⟩)) [catchD p3 p4] (retR (examK w0 d)) w:=by
 have pan:∀ w' a f c,Ext A0 w'→checkP d=(a,f,c)→c≠0→outQ Pg [catchD p3 p4] (resL cb p3 p4) (retR (examK w0 d)) [flawEntry a f c] w':=fun w' a f c e h h0=>exm_pan (ea.trans e) h3 h4 (e.obj o3) (e.obj o4) h h0
 obtain ⟨A,c,rfl,hlc,hcm,hlm,hel⟩:=SliceOf.open hM
 unfold n59c6
 simp (disch:=try exact DI) only [↓PR,QR,Int.reduceBEq,Int.reduceBNe,Int.reduceLT,Int.reduceLE,Int.reduceGT,Int.reduceGE,Int.reduceNeg,(cells_of_heap (hC.ext.obj o1)).1]
 refine loop1_intro (fun i w'=>∃ (k:Nat) (at':Int) (fs':List FieldD),i = .int .i64 k∧k≤d.msgs.length∧CkO A0 w' cb md ms (depsOf (d.msgs.take k)) (strsOf (d.msgs.take k)) at' (-1) fs'∧Low (depsOf (d.msgs.take k))∧checkP d=endP d (msgsP (depsOf (d.msgs.take k)) (strsOf (d.msgs.take k)) k (d.msgs.drop k))) (fun i _=>d.msgs.length - (intOf i).toNat) ⟨0,-1,fs,rfl,by omega,hC,(fun _ h=>by cases h),hr⟩ ?_
 rintro i w' ⟨k,at',fs',rfl,hk,hC',hlow,hrk⟩
 have lw':=hC'.ext.size
 obtain ⟨dn,mv,ds,mn,fv',x1,x2⟩:=hC'.obj
 obtain ⟨n1,n2,l1,l2,l3⟩:=hC'.nd
 rcases drop_cases hk with ⟨x,hx,hd,hlt,hdec⟩ | ⟨hk,hd,hdec⟩
 · obtain ⟨b,o,cs,rfl,hl,hA,fv,rfl,hF⟩:=hel k x hx
   have hf1:=SliceOf.oneCell hF
   rw [hd] at hrk
   simp only [msgsP] at hrk
   unfold n59c5
   simp (disch:=try exact DI) only [↓PR,QR,Int.reduceBEq,Int.reduceBNe,Int.reduceLT,Int.reduceLE,Int.reduceGT,Int.reduceGE,Int.reduceNeg,hdec]
   unfold n59c4
   simp (disch:=try exact DI) only [↓PR,QR,Int.reduceBEq,Int.reduceBNe,Int.reduceLT,Int.reduceLE,Int.reduceGT,Int.reduceGE,Int.reduceNeg,(hA.c2 hC'.ext).1,(hA.c2 hC'.ext).2,(cells_of_heap x1).1,(cells_of_heap x1).2]
   have hCw:=(hC'.setAt (k:Int)).go ((Ext.refl _).alloc (Obj.cells (msgCells x fv).toArray 45))
   refine callK_nxt (next_flw (m:=x) hlow hCw _ ⟨fv,rfl,hF⟩ (ht x (List.mem_of_getElem? hx)).1 (ht x (List.mem_of_getElem? hx)).2 (fun w'=>CkO A0 w' cb md ms (stepD (depsOf (d.msgs.take k)) x) (stepS (strsOf (d.msgs.take k)) x) k (-1) x.fields) (fun w' h=>h)) (fun w5 h0 hC5=>?_) (fun w5 e5 h0=>?_)
   · rw [if_pos h0] at hrk
     have hd1:depsOf (d.msgs.take (k+1))=stepD (depsOf (d.msgs.take k)) x:=foldl_take stepD [] hx
     have hs1:strsOf (d.msgs.take (k+1))=stepS (strsOf (d.msgs.take k)) x:=foldl_take stepS [] hx
     rw [← hd1,← hs1] at hrk hC5
     have hlow':Low (depsOf (d.msgs.take (k+1))):=by rw [hd1];exact hlow.step h0
     simp (disch:=try exact DI) only [↓PR,QR,Int.reduceBEq,Int.reduceBNe,Int.reduceLT,Int.reduceLE,Int.reduceGT,Int.reduceGE,Int.reduceNeg]
     exact ⟨⟨k+1,k,x.fields,rfl,by omega,hC5,hlow',hrk⟩,meas_lt hlt⟩
   · rw [if_neg h0] at hrk
     refine pan _ _ _ _ e5 ?_ h0
     rw [hrk]
     unfold endP
     rw [if_neg h0]
 · subst hk
   rw [hd] at hrk
   rw [List.take_length] at hC' hrk
   unfold n59c5
   simp (disch:=try exact DI) only [↓PR,QR,Int.reduceBEq,Int.reduceBNe,Int.reduceLT,Int.reduceLE,Int.reduceGT,Int.reduceGE,Int.reduceNeg,hdec]
   unfold n59c3
   simp (disch:=try exact DI) only [↓PR,QR,Int.reduceBEq,Int.reduceBNe,Int.reduceLT,Int.reduceLE,Int.reduceGT,Int.reduceGE,Int.reduceNeg,(cells_of_heap x1).1,(cells_of_heap x1).2]
   have hC2:=hC'.setAt (-1)
   generalize (w'.setCell ⟨cb,5,none⟩ (.int .i64 (-1)))=W at hC2 ⊢
   clear x1 x2 hC'
   obtain ⟨dn,mv,ds,mn,fv',x1,x2⟩:=hC2.obj
   refine drawK_intro ?_
   have eD:Ext W W.drew:=(Ext.refl W).wdrew
   unfold n59c2
   simp (disch:=try exact DI) only [↓PR,QR,Int.reduceBEq,Int.reduceBNe,Int.reduceLT,Int.reduceLE,Int.reduceGT,Int.reduceGE,Int.reduceNeg,(cells_of_heap x1).1,(cells_of_heap (hC2.ext.obj o1)).1]
   rw [qV_lookupE Tryz.underlying62 Tryz.underlying9 ty3 (hC2.mdeps.ext eD) d.start]
   have hsome:(lastOf (vI (depsOf d.msgs)) d.start).isSome=(lastP (depsOf d.msgs) d.start).isSome:=by rw [lastOf_vI,Option.isSome_map]
   rw [hsome]
   simp only [msgsP,endP,if_true] at hrk
   simp (disch:=try exact DI) only [↓PR,QR,Int.reduceBEq,Int.reduceBNe,Int.reduceLT,Int.reduceLE,Int.reduceGT,Int.reduceGE,Int.reduceNeg]
   refine callK_flw (need_flw (hC2.go eD).chk _ 11 (by decide)) (fun w5 e5 h0=>?_) (fun w5 e5 h0=>?_)
   · have hs:=needC_zero (by decide) h0
     rw [hs,if_pos rfl] at hrk
     have hC5:=hC2.go (eD.trans e5)
     have y3:=hC5.ext.obj o3
     have y4:=hC5.ext.obj o4
     have ne34:p3≠p4:=by rintro rfl;rw [o3] at o4;cases o4
     unfold n59c1
     simp (disch:=try exact DI) only [↓PR,QR,Int.reduceBEq,Int.reduceBNe,Int.reduceLT,Int.reduceLE,Int.reduceGT,Int.reduceGE,Int.reduceNeg,(cells_of_heap y3).1,(cells_of_heap y3).2,(cells_of_heap y4).1,(cells_of_heap y4).2]
     have c3:p3≠cb:=by have:=hC5.lcb;have:=(Array.getElem?_eq_some_iff.1 o3).1;omega
     have c4:p4≠cb:=by have:=hC5.lcb;have:=(Array.getElem?_eq_some_iff.1 o4).1;omega
     have q3:=heap_set (o:=2) (heap_set (o:=1) (heap_set (o:=0) y3 (.int .i64 0)) (.int .i64 0)) (.int .i64 0)
     have q4:=heap_set (o:=0) ((Only.setCell ((w5.setCell ⟨p3,0,none⟩ (.int .i64 0)).setCell ⟨p3,1,none⟩ (.int .i64 0)) p3 2 (.int .i64 0) p4 (by omega)).trans ((Only.setCell (w5.setCell ⟨p3,0,none⟩ (.int .i64 0)) p3 1 (.int .i64 0) p4 (by omega)).trans ((Only.setCell w5 p3 0 (.int .i64 0) p4 (by omega)).trans y4))) (.bool false)
     have q3':=(Only.setCell _ p4 0 (.bool false) p3 ne34).trans q3
     exact exm_fine (((((ea.trans hC5.ext).setCell h3 _).setCell h3 _).setCell h3 _).setCell h4 _) ((((hC5.left.other c3 _).other c3 _).other c3 _).other c4 _) (by simpa using q3') (by simpa using q4) hrk
   · have hs:(lastP (depsOf d.msgs) d.start).isSome=false:=by
      cases hq:(lastP (depsOf d.msgs) d.start).isSome with
      | false=>rfl
      | true=>rw [hq] at h0;exact absurd rfl h0
     rw [hs,if_neg (by simp)] at hrk
     rw [hs]
     exact pan _ _ _ _ (hC2.ext.trans (eD.trans e5)) hrk (by decide)
theorem examined_ret (v:Value) (d:DefD) (hd:DefVal w0 v d) (ht:calm d):Ret Pg 31 #[v] w0 (examK w0 d):=by
 obtain ⟨mv,rfl,hM⟩:=hd
 have hm1:=SliceOf.oneCell hM
 refine n59s (R:=retR _) ?_;unfold n59
 simp (disch:=try exact DI) only [↓PR,QR,Int.reduceBEq,Int.reduceBNe,Int.reduceLT,Int.reduceLE,Int.reduceGT,Int.reduceGE,Int.reduceNeg]
 refine ⟨catchD (w0.heap.size+1) (w0.heap.size+1+1),_,rfl,?_⟩
 simp only [World.size_alloc]
 generalize hA0:((w0.alloc (Obj.cells (defCells d mv).toArray 24)).alloc (Obj.cells #[.int .i64 0,.int .i64 0,.int .i64 0] 39)).alloc (Obj.cells #[.bool false] 4)=A0
 have ea:Ext w0 A0:=by rw [← hA0];exact ee
 have o1:A0.heap[w0.heap.size]?=some (.cells (defCells d mv).toArray 24 (0,0)):=by rw [← hA0];simp (disch:=try exact DI) only [↓PR,QR,Int.reduceBEq,Int.reduceBNe,Int.reduceLT,Int.reduceLE,Int.reduceGT,Int.reduceGE,Int.reduceNeg]
 have o3:A0.heap[w0.heap.size+1]?=some (.cells #[.int .i64 0,.int .i64 0,.int .i64 0] 39 (0,0)):=by rw [← hA0];simp (disch:=try exact DI) only [↓PR,QR,Int.reduceBEq,Int.reduceBNe,Int.reduceLT,Int.reduceLE,Int.reduceGT,Int.reduceGE,Int.reduceNeg]
 have o4:A0.heap[w0.heap.size+1+1]?=some (.cells #[.bool false] 4 (0,0)):=by rw [← hA0];simp (disch:=try exact DI) only [↓PR,QR,Int.reduceBEq,Int.reduceBNe,Int.reduceLT,Int.reduceLE,Int.reduceGT,Int.reduceGE,Int.reduceNeg]
 have hsz:A0.heap.size=w0.heap.size+1+1+1:=by rw [← hA0];simp only [World.size_alloc]
 clear hA0
 have hC:CkO A0 (((A0.alloc (Obj.map #[] 0)).alloc (Obj.map #[] 0)).alloc (Obj.cells #[.string d.name,mv,.string d.start,.map (some (w0.heap.size+1+1+1)),.map (some (w0.heap.size+1+1+1+1)),.int .i64 (-1),.int .i64 (-1),.string ByteArray.empty,.slice none 0 0] 65)) (w0.heap.size+1+1+1+1+1) (w0.heap.size+1+1+1) (w0.heap.size+1+1+1+1) [] [] (-1) (-1) []:=by
  refine ⟨ee,⟨d.name,mv,d.start,ByteArray.empty,.slice none 0 0,?_,SliceOf.nil _ _ _⟩,?_,?_,by omega,by omega,by omega,by omega⟩
  · have:=heap_new ((A0.alloc (Obj.map #[] 0)).alloc (Obj.map #[] 0)) #[.string d.name,mv,.string d.start,.map (some (w0.heap.size+1+1+1)),.map (some (w0.heap.size+1+1+1+1)),.int .i64 (-1),.int .i64 (-1),.string ByteArray.empty,.slice none 0 0] 65
    simp only [World.size_alloc,hsz] at this
    exact this
  · have:=(MapOf.new A0).ext (((Ext.refl _).alloc (Obj.map #[] 0)).alloc (Obj.cells #[.string d.name,mv,.string d.start,.map (some (w0.heap.size+1+1+1)),.map (some (w0.heap.size+1+1+1+1)),.int .i64 (-1),.int .i64 (-1),.string ByteArray.empty,.slice none 0 0] 65))
    simp only [World.size_alloc,hsz] at this
    exact this
  · have:=(MapOf.new (A0.alloc (Obj.map #[] 0))).ext ((Ext.refl _).alloc (Obj.cells #[.string d.name,mv,.string d.start,.map (some (w0.heap.size+1+1+1)),.map (some (w0.heap.size+1+1+1+1)),.int .i64 (-1),.int .i64 (-1),.string ByteArray.empty,.slice none 0 0] 65))
    simp only [World.size_alloc,hsz] at this
    exact this
 generalize (((A0.alloc (Obj.map #[] 0)).alloc (Obj.map #[] 0)).alloc (Obj.cells #[.string d.name,mv,.string d.start,.map (some (w0.heap.size+1+1+1)),.map (some (w0.heap.size+1+1+1+1)),.int .i64 (-1),.int .i64 (-1),.string ByteArray.empty,.slice none 0 0] 65))=W at hC ⊢
 generalize hcb:w0.heap.size+1+1+1+1+1=cb at hC ⊢
 generalize hmd:w0.heap.size+1+1+1=md at hC hsz
 generalize hms:w0.heap.size+1+1+1+1=ms at hC
 generalize hp3:w0.heap.size+1+1=p4 at o4 ⊢
 generalize hp4:w0.heap.size+1=p3 at o3 ⊢
 have l3:w0.heap.size≤p3:=by omega
 have l4:w0.heap.size≤p4:=by omega
 simp (disch:=try exact DI) only [↓PR,QR,Int.reduceBEq,Int.reduceBNe,Int.reduceLT,Int.reduceLE,Int.reduceGT,Int.reduceGE,Int.reduceNeg,(cells_of_heap (hC.ext.obj o1)).1]
 refine zcr (Name_ret _ d.name) fun w1 e1=>?_
 have hC1:=hC.go e1
 have pan:∀ w' a f c,Ext A0 w'→checkP d=(a,f,c)→c≠0→outQ Pg [catchD p3 p4] (resL cb p3 p4) (retR (examK w0 d)) [flawEntry a f c] w':=fun w' a f c e h h0=>exm_pan (ea.trans e) l3 l4 (e.obj o3) (e.obj o4) h h0
 generalize hr:checkP d=r
 have hr':=hr
 unfold checkP at hr
 refine callK_flw (need_flw hC1.chk _ 1 (by decide)) (fun w2 e2 h0=>?_) (fun w2 e2 h0=>?_)
 · have hn:nameB d.name=true:=needC_zero (by decide) h0
   rw [if_pos hn] at hr
   have hC2:=hC1.go e2
   have fin:∀ b,b=decide (1≤d.msgs.length∧d.msgs.length≤60)→callK Pg 37 #[.pointer (some ⟨cb,0,none⟩),.bool b,.int .i64 3] (outQ Pg [catchD p3 p4] (resL cb p3 p4) (retR (examK w0 d))) w2 (fun _ w=>n59c6 (.pointer (some ⟨w0.heap.size,0,none⟩)) (.pointer (some ⟨p3,0,none⟩)) (.pointer (some ⟨p4,0,none⟩)) (.pointer (some ⟨cb,0,none⟩)) [catchD p3 p4] (retR (examK w0 d)) w):=by
    rintro b rfl
    refine callK_flw (need_flw hC2.chk _ 3 (by decide)) (fun w3 e3 h0=>?_) (fun w3 e3 h0=>?_)
    · have hl:=needC_zero (by decide) h0
      simp only [decide_eq_true_eq] at hl
      rw [if_pos hl] at hr
      exact exm_loop ea (hM.ext ea) ht (hC2.go e3) o1 o3 o4 l3 l4 (hr'.trans hr.symm)
    · by_cases hl:1≤d.msgs.length∧d.msgs.length≤60
      · rw [decide_eq_true hl] at h0;exact absurd rfl h0
      · rw [if_neg hl] at hr
        rw [decide_eq_false hl]
        exact pan _ _ _ _ (hC2.ext.trans e3) (hr'.trans hr.symm) (by decide)
   obtain ⟨A,c,rfl,hlc,hcm,hlm,hel⟩:=SliceOf.open hM
   have x1:=hC2.ext.obj o1
   unfold n59c9
   by_cases h1l:1≤d.msgs.length
   · have d1:decide ((d.msgs.length:Int)≥1)=true:=by simp;omega
     by_cases h2l:d.msgs.length≤60
     · have d2:decide ((d.msgs.length:Int)≤60)=true:=by simp;omega
       simp (disch:=try exact DI) only [↓PR,QR,Int.reduceBEq,Int.reduceBNe,Int.reduceLT,Int.reduceLE,Int.reduceGT,Int.reduceGE,Int.reduceNeg,(cells_of_heap x1).1,d1,d2,↓n59c1,↓n59c2,↓n59c3,↓n59c4,↓n59c5,↓n59c6,↓n59c7,↓n59c8,↓n59c9]
       exact fin _ (by simp [h1l,h2l])
     · have d2:decide ((d.msgs.length:Int)≤60)=false:=by simp;omega
       simp (disch:=try exact DI) only [↓PR,QR,Int.reduceBEq,Int.reduceBNe,Int.reduceLT,Int.reduceLE,Int.reduceGT,Int.reduceGE,Int.reduceNeg,(cells_of_heap x1).1,d1,d2,↓n59c1,↓n59c2,↓n59c3,↓n59c4,↓n59c5,↓n59c6,↓n59c7,↓n59c8,↓n59c9]
       exact fin _ (by simp [h2l])
   · have d1:decide ((d.msgs.length:Int)≥1)=false:=by simp;omega
     simp (disch:=try exact DI) only [↓PR,QR,Int.reduceBEq,Int.reduceBNe,Int.reduceLT,Int.reduceLE,Int.reduceGT,Int.reduceGE,Int.reduceNeg,(cells_of_heap x1).1,d1,↓n59c1,↓n59c2,↓n59c3,↓n59c4,↓n59c5,↓n59c6,↓n59c7,↓n59c8,↓n59c9]
     exact fin _ (by simp [h1l])
 · have hn:nameB d.name=false:=by
    cases hq:nameB d.name with
    | false=>rfl
    | true=>rw [hq] at h0;exact absurd rfl h0
   rw [hn,if_neg (by simp)] at hr
   rw [hn]
   exact pan _ _ _ _ (hC1.ext.trans e2) (hr'.trans hr.symm) (by decide)
end
end Go.Proofs.YtiajhbbmgglmlaaGreat
namespace Go.Proofs.YtiajhbbmgglmlaaGreat
open Sw
def n7c1 (t122 t127:Value) (R:RT) (w:World):Prop :=
 pickK t122 t127 (.bool false) fun t128 =>
 joinK (fun (t132:Value) (w:World) =>
 pickK t128 t132 (.bool false) fun t133 =>
 R (.returned t133) w) fun K13 =>
 guardP t128 true (
 opV Pg (Instr.build 52 #[(1,(.int .i64 10))]) (panK R) w fun t130 w =>
 C0 20 #[t130] R w fun t131 w =>
 opV Pg (Op.unary .not t131) (panK R) w fun t132 w =>
 K13 t132 w) (
 K13 undef w)
def n7c2 (t107 t117 t121:Value) (R:RT) (w:World):Prop :=
 pickK t117 t121 (.bool false) fun t122 =>
 joinK (fun (t127:Value) (w:World) =>
 n7c1 t122 t127 R w) fun K12 =>
 guardP t122 true (
 opV Pg (Instr.lookup 55 t107 (.string { data := #[110] }) false) (panK R) w fun t125 w =>
 opV Pg (Instr.build 58 #[(1,(.int .i64 255))]) (panK R) w fun t126 w =>
 B0 .eql 58 false t125 t126 R w fun t127 w =>
 K12 t127 w) (
 K12 undef w)
def n7c3 (t107 t113 t116:Value) (R:RT) (w:World):Prop :=
 pickK t113 t116 (.bool false) fun t117 =>
 joinK (fun (t121:Value) (w:World) =>
 n7c2 t107 t117 t121 R w) fun K11 =>
 guardP t117 true (
 opV Pg (Builtin.len_ #[55] 3 #[t107]) (panK R) w fun t120 w =>
 B0 .eql 3 true t120 (.int .i64 1) R w fun t121 w =>
 K11 t121 w) (
 K11 undef w)
def n7c4 (t102 t107 t109 t112:Value) (R:RT) (w:World):Prop :=
 pickK t109 t112 (.bool false) fun t113 =>
 joinK (fun (t116:Value) (w:World) =>
 n7c3 t107 t113 t116 R w) fun K10 =>
 guardP t113 true (
 B0 .eql 27 true t102 (.int .i64 3) R w fun t116 w =>
 K10 t116 w) (
 K10 undef w)
def n7c5 (t96 t97 t102 t107:Value) (R:RT) (w:World):Prop :=
 B0 .eql 3 true t96 (.int .i64 1) R w fun t109 w =>
 joinK (fun (t112:Value) (w:World) =>
 n7c4 t102 t107 t109 t112 R w) fun K9 =>
 guardP t109 true (
 B0 .eql 27 true t97 (.int .i64 0) R w fun t112 w =>
 K9 t112 w) (
 K9 undef w)
def n7c6 (t96 t97 t102 t103:Value) (R:RT) (w:World):Prop :=
 opV Pg (Instr.field 24 t103 1) (panK R) w fun t104 w =>
 opV Pg (Instr.indexAt 22 t104 (.int .i64 0)) (panK R) w fun t105 w =>
 L0 45 t105 R w fun t106 w =>
 C0 19 #[t106] R w fun t107 w =>
 n7c5 t96 t97 t102 t107 R w
def n7c7 (t96 t97 t100:Value) (R:RT) (w:World):Prop :=
 opV Pg (Instr.extract t100 0) (panK R) w fun t101 w =>
 opV Pg (Instr.extract t100 1) (panK R) w fun t102 w =>
 C0 17 #[] R w fun t103 w =>
 n7c6 t96 t97 t102 t103 R w
def n7c8 (t95:Value) (R:RT) (w:World):Prop :=
 opV Pg (Instr.extract t95 0) (panK R) w fun t96 w =>
 opV Pg (Instr.extract t95 1) (panK R) w fun t97 w =>
 C0 17 #[] R w fun t99 w =>
 C0 7 #[t99,(.int .i64 1)] R w fun t100 w =>
 n7c7 t96 t97 t100 R w
def n7c9 (t87 t91:Value) (R:RT) (w:World):Prop :=
 pickK t87 (.bool true) t91 fun t92 =>
 condP t92 (
 R (.returned (.bool false)) w) (
 C0 17 #[] R w fun t94 w =>
 C0 7 #[t94,(.int .i64 0)] R w fun t95 w =>
 n7c8 t95 R w)
def n7c10 (t6 t82 t86:Value) (R:RT) (w:World):Prop :=
 pickK t82 (.bool true) t86 fun t87 =>
 joinK (fun (t91:Value) (w:World) =>
 n7c9 t87 t91 R w) fun K8 =>
 guardP t87 false (
 L0 24 t6 R w fun t89 w =>
 C0 18 #[t89,(.int .i64 0),(.int .i64 2),(.int .i64 8)] R w fun t90 w =>
 opV Pg (Op.unary .not t90) (panK R) w fun t91 w =>
 K8 t91 w) (
 K8 undef w)
def n7c11 (t5 t6 t77 t81:Value) (R:RT) (w:World):Prop :=
 pickK t77 (.bool true) t81 fun t82 =>
 joinK (fun (t86:Value) (w:World) =>
 n7c10 t6 t82 t86 R w) fun K7 =>
 guardP t82 false (
 L0 24 t5 R w fun t84 w =>
 C0 18 #[t84,(.int .i64 0),(.int .i64 1),(.int .i64 5)] R w fun t85 w =>
 opV Pg (Op.unary .not t85) (panK R) w fun t86 w =>
 K7 t86 w) (
 K7 undef w)
def n7c12 (t4 t5 t6 t72 t76:Value) (R:RT) (w:World):Prop :=
 pickK t72 (.bool true) t76 fun t77 =>
 joinK (fun (t81:Value) (w:World) =>
 n7c11 t5 t6 t77 t81 R w) fun K6 =>
 guardP t77 false (
 L0 24 t4 R w fun t79 w =>
 C0 18 #[t79,(.int .i64 0),(.int .i64 1),(.int .i64 2)] R w fun t80 w =>
 opV Pg (Op.unary .not t80) (panK R) w fun t81 w =>
 K6 t81 w) (
 K6 undef w)
def n7c13 (t3 t4 t5 t6 t67 t71:Value) (R:RT) (w:World):Prop :=
 pickK t67 (.bool true) t71 fun t72 =>
 joinK (fun (t76:Value) (w:World) =>
 n7c12 t4 t5 t6 t72 t76 R w) fun K5 =>
 guardP t72 false (
 L0 24 t3 R w fun t74 w =>
 C0 18 #[t74,(.int .i64 0),(.int .i64 1),(.int .i64 9)] R w fun t75 w =>
 opV Pg (Op.unary .not t75) (panK R) w fun t76 w =>
 K5 t76 w) (
 K5 undef w)
def n7c14 (t2 t3 t4 t5 t6 t62 t66:Value) (R:RT) (w:World):Prop :=
 pickK t62 (.bool true) t66 fun t67 =>
 joinK (fun (t71:Value) (w:World) =>
 n7c13 t3 t4 t5 t6 t67 t71 R w) fun K4 =>
 guardP t67 false (
 L0 24 t2 R w fun t69 w =>
 C0 18 #[t69,(.int .i64 0),(.int .i64 0),(.int .i64 7)] R w fun t70 w =>
 opV Pg (Op.unary .not t70) (panK R) w fun t71 w =>
 K4 t71 w) (
 K4 undef w)
def n7c15 (t1 t2 t3 t4 t5 t6 t61:Value) (R:RT) (w:World):Prop :=
 opV Pg (Op.unary .not t61) (panK R) w fun t62 w =>
 joinK (fun (t66:Value) (w:World) =>
 n7c14 t2 t3 t4 t5 t6 t62 t66 R w) fun K3 =>
 guardP t62 false (
 L0 24 t1 R w fun t64 w =>
 C0 18 #[t64,(.int .i64 (-1)),(.int .i64 (-1)),(.int .i64 11)] R w fun t65 w =>
 opV Pg (Op.unary .not t65) (panK R) w fun t66 w =>
 K3 t66 w) (
 K3 undef w)
def n7c16 (t1 t2 t3 t4 t5 t6 t49 t57:Value) (C1:World→Prop) (R:RT) (w:World):Prop :=
 qV Pg C1 (Instr.indexAt 22 t49 (.int .i64 0)) fun t58 =>
 qV Pg C1 (Instr.fieldAt 45 t58 1) fun t59 =>
 opU Pg (Instr.storeAt 43 t59 t57) (panK R) w fun w =>
 turnK w fun C2 w =>
 C0 17 #[] R w fun t60 w =>
 C0 15 #[t60] R w fun t61 w =>
 n7c15 t1 t2 t3 t4 t5 t6 t61 R w
def n7c17 (t1 t2 t3 t4 t5 t6:Value) (C1:World→Prop) (R:RT) (w:World):Prop :=
 qV Pg C1 (Instr.fieldAt 24 t6 1) fun t48 =>
 qV Pg C1 (Instr.loadAt 22 t48) fun t49 =>
 qV Pg C1 (Instr.fieldAt 24 t6 1) fun t50 =>
 qV Pg C1 (Instr.loadAt 22 t50) fun t51 =>
 qV Pg C1 (Instr.indexAt 22 t51 (.int .i64 0)) fun t52 =>
 qV Pg C1 (Instr.fieldAt 45 t52 1) fun t53 =>
 qV Pg C1 (Instr.loadAt 43 t53) fun t54 =>
 qV Pg C1 (Instr.build 52 #[(0,(.string { data := #[108] })),(1,(.int .i64 7)),(8,(.string { data := #[109] }))]) fun t55 =>
 opV Pg (Instr.buildSlice 43 1 #[(0,t55)]) (panK R) w fun t56 w =>
 C1 w∧(
 opV Pg (Builtin.append_ #[43,43] 43 #[t54,t56]) (panK R) w fun t57 w =>
 C1 w∧(
 n7c16 t1 t2 t3 t4 t5 t6 t49 t57 C1 R w))
def n7c18 (t12 t13 t14 t15 t16 t17:Value) (R:RT) (w:World):Prop :=
 opV Pg (Instr.alloc 24 true (.tuple #[])) (panK R) w fun t1 w =>
 opV Pg (Instr.alloc 24 true (.tuple #[])) (panK R) w fun t2 w =>
 opV Pg (Instr.alloc 24 true (.tuple #[])) (panK R) w fun t3 w =>
 opV Pg (Instr.alloc 24 true (.tuple #[])) (panK R) w fun t4 w =>
 opV Pg (Instr.alloc 24 true (.tuple #[])) (panK R) w fun t5 w =>
 opV Pg (Instr.alloc 24 true (.tuple #[])) (panK R) w fun t6 w =>
 opU Pg (Instr.storeAt 24 t1 t12) (panK R) w fun w =>
 opU Pg (Instr.storeAt 24 t2 t13) (panK R) w fun w =>
 opU Pg (Instr.storeAt 24 t3 t14) (panK R) w fun w =>
 opU Pg (Instr.storeAt 24 t4 t15) (panK R) w fun w =>
 opU Pg (Instr.storeAt 24 t5 t16) (panK R) w fun w =>
 opU Pg (Instr.storeAt 24 t6 t17) (panK R) w fun w =>
 F0 24 t1 2 R w fun t18 w =>
 opU Pg (Instr.storeAt 9 t18 (.string { data := #[120] })) (panK R) w fun w =>
 F0 24 t2 1 R w fun t19 w =>
 L0 22 t19 R w fun t20 w =>
 opV Pg (Instr.indexAt 22 t20 (.int .i64 0)) (panK R) w fun t21 w =>
 F0 45 t21 1 R w fun t22 w =>
 L0 43 t22 R w fun t23 w =>
 opV Pg (Instr.indexAt 43 t23 (.int .i64 0)) (panK R) w fun t24 w =>
 F0 52 t24 6 R w fun t25 w =>
 opU Pg (Instr.storeAt 3 t25 (.int .i64 256)) (panK R) w fun w =>
 F0 24 t3 1 R w fun t26 w =>
 L0 22 t26 R w fun t27 w =>
 opV Pg (Instr.indexAt 22 t27 (.int .i64 0)) (panK R) w fun t28 w =>
 F0 45 t28 1 R w fun t29 w =>
 L0 43 t29 R w fun t30 w =>
 opV Pg (Instr.indexAt 43 t30 (.int .i64 1)) (panK R) w fun t31 w =>
 F0 52 t31 7 R w fun t32 w =>
 F0 49 t32 0 R w fun t33 w =>
 opU Pg (Instr.storeAt 3 t33 (.int .i64 (-1))) (panK R) w fun w =>
 F0 24 t4 1 R w fun t34 w =>
 L0 22 t34 R w fun t35 w =>
 opV Pg (Instr.indexAt 22 t35 (.int .i64 0)) (panK R) w fun t36 w =>
 F0 45 t36 1 R w fun t37 w =>
 L0 43 t37 R w fun t38 w =>
 opV Pg (Instr.indexAt 43 t38 (.int .i64 1)) (panK R) w fun t39 w =>
 F0 52 t39 0 R w fun t40 w =>
 opU Pg (Instr.storeAt 9 t40 (.string { data := #[110] })) (panK R) w fun w =>
 F0 24 t5 1 R w fun t41 w =>
 L0 22 t41 R w fun t42 w =>
 opV Pg (Instr.indexAt 22 t42 (.int .i64 0)) (panK R) w fun t43 w =>
 F0 45 t43 1 R w fun t44 w =>
 L0 43 t44 R w fun t45 w =>
 opV Pg (Instr.indexAt 43 t45 (.int .i64 1)) (panK R) w fun t46 w =>
 F0 52 t46 2 R w fun t47 w =>
 opU Pg (Instr.storeAt 3 t47 (.int .i64 8)) (panK R) w fun w =>
 drawK w fun C1 w =>
 n7c17 t1 t2 t3 t4 t5 t6 C1 R w
def n7c19 (t12 t13 t14:Value) (R:RT) (w:World):Prop :=
 C0 17 #[] R w fun t15 w =>
 C0 17 #[] R w fun t16 w =>
 C0 17 #[] R w fun t17 w =>
 n7c18 t12 t13 t14 t15 t16 t17 R w
def n7 (R:RT) (w:World):Prop :=
 C0 17 #[] R w fun t12 w =>
 C0 17 #[] R w fun t13 w =>
 C0 17 #[] R w fun t14 w =>
 n7c19 t12 t13 t14 R w
theorem n7s {R:RT} {w:World} (h:n7 R w):Calls Pg 6 #[] w R:=by
 refine calls_of_den (args:=[]) Tryz.func6 rfl (Nat.le_of_ble_eq_true rfl) ?_
 unfold n7 at h
 refine zs<|zr<|zm<|zn<|zk<|zs<|zr ?_
 refine zc h c17 fun t12 w h=>?_
 refine zc h c17 fun t13 w h=>?_
 refine zc h c17 fun t14 w h=>?_
 refine zc h c17 fun t15 w h=>?_
 refine zc h c17 fun t16 w h=>?_
 refine zc h c17 fun t17 w h=>?_
 refine zv h fun t1 w h=>?_
 refine zv h fun t2 w h=>?_
 refine zv h fun t3 w h=>?_
 refine zv h fun t4 w h=>?_
 refine zv h fun t5 w h=>?_
 refine zv h fun t6 w h=>?_
 refine zu h fun w h=>?_
 refine zu h fun w h=>?_
 refine zu h fun w h=>?_
 refine zu h fun w h=>?_
 refine zu h fun w h=>?_
 refine zu h fun w h=>?_
 refine zn<|zk<|zs<|zr ?_
 refine zv h fun t18 w h=>?_
 refine zu h fun w h=>?_
 refine zn<|zk<|zs<|zr ?_
 refine zv h fun t19 w h=>?_
 refine zv h fun t20 w h=>?_
 refine zv h fun t21 w h=>?_
 refine zv h fun t22 w h=>?_
 refine zv h fun t23 w h=>?_
 refine zv h fun t24 w h=>?_
 refine zv h fun t25 w h=>?_
 refine zu h fun w h=>?_
 refine zn<|zk<|zs<|zr ?_
 refine zv h fun t26 w h=>?_
 refine zv h fun t27 w h=>?_
 refine zv h fun t28 w h=>?_
 refine zv h fun t29 w h=>?_
 refine zv h fun t30 w h=>?_
 refine zv h fun t31 w h=>?_
 refine zv h fun t32 w h=>?_
 refine zv h fun t33 w h=>?_
 refine zu h fun w h=>?_
 refine zn<|zk<|zs<|zr ?_
 refine zv h fun t34 w h=>?_
 refine zv h fun t35 w h=>?_
 refine zv h fun t36 w h=>?_
 refine zv h fun t37 w h=>?_
 refine zv h fun t38 w h=>?_
 refine zv h fun t39 w h=>?_
 refine zv h fun t40 w h=>?_
 refine zu h fun w h=>?_
 refine zn<|zk<|zs<|zr ?_
 refine zv h fun t41 w h=>?_
 refine zv h fun t42 w h=>?_
 refine zv h fun t43 w h=>?_
 refine zv h fun t44 w h=>?_
 refine zv h fun t45 w h=>?_
 refine zv h fun t46 w h=>?_
 refine zv h fun t47 w h=>?_
 refine zu h fun w h=>?_
 refine zn<|zk<|zs ?_
 obtain ⟨C1,hC,h⟩:=h
 refine sim_draw [48,49,50,51,52,53,54,55,56,57,58,59] (by kernel_rfl) (by kernel_rfl) C1 ?_
 refine ze 0 hC h fun t48 h=>?_
 refine ze 1 hC h fun t49 h=>?_
 refine ze 2 hC h fun t50 h=>?_
 refine ze 3 hC h fun t51 h=>?_
 refine ze 4 hC h fun t52 h=>?_
 refine ze 5 hC h fun t53 h=>?_
 refine ze 6 hC h fun t54 h=>?_
 obtain ⟨t55,hv,h⟩:=h
 refine sim_dsilent 7 hC rfl (by kernel_rfl) (by kernel_rfl) (fun _ _=>rfl) rfl (Sw.qV_build rfl hv) ?_
 refine sim_dloud 8 rfl (by kernel_rfl) (fun _ _=>rfl) ?_
 refine sim_buildSlice h rfl (fun _ _ h _ _=>⟨rfl,h⟩) ?_;intro t56 w h
 refine zn ?_
 obtain ⟨hC,h⟩:=h
 refine ⟨hC,?_⟩
 refine sim_dloud 9 rfl (by kernel_rfl) (fun _ _=>rfl) ?_
 refine sim_builtin h rfl (fun _ _ h _ _=>⟨rfl,h⟩) ?_;intro t57 w h
 refine zn ?_
 obtain ⟨hC,h⟩:=h
 refine ⟨hC,?_⟩
 refine ze 10 hC h fun t58 h=>?_
 refine ze 11 hC h fun t59 h=>?_
 refine sim_dturn 12 2 rfl (by kernel_rfl) (by kernel_rfl) (fun _ _=>rfl) ?_
 refine sim_unit h rfl rfl (fun _ _ h _ _=>⟨rfl,h⟩) ?_;intro w h
 refine zn ?_
 obtain ⟨C2,hC,h⟩:=h
 refine ⟨C2,hC,?_⟩
 refine sim_dend (by kernel_rfl) ?_
 refine zk<|zs<|zs<|sim_regionG ?_
 refine sim_seg 4 rfl ?_
 refine zc h c17 fun t60 w h=>?_
 refine zc h c15 fun t61 w h=>?_
 refine zv h fun t62 w h=>?_
 refine zm<|zn ?_
 refine joinK_elim h (fun K3 hK h=>?_)
 refine sim_groupJ 3 3 false [64,65,66] (fun ρ w=>K3 (ρ 66) w) rfl rfl (fun T hT=>guardP_mono h (fun h=>?_) (fun h=>?_)) (fun σ w h=>?_)
 · refine zv h fun t64 w h=>?_
   refine zc h c18 fun t65 w h=>?_
   refine zv h fun t66 w h=>?_
   refine zn ?_
   exact zt hT h
 · exact zt hT h
 subst hK
 refine sim_seg 2 rfl ?_
 refine sim_pick h rfl rfl rfl ?_;intro t67 h
 refine zm<|zn ?_
 refine joinK_elim h (fun K4 hK h=>?_)
 refine sim_groupJ 3 8 false [69,70,71] (fun ρ w=>K4 (ρ 71) w) rfl rfl (fun T hT=>guardP_mono h (fun h=>?_) (fun h=>?_)) (fun σ w h=>?_)
 · refine zv h fun t69 w h=>?_
   refine zc h c18 fun t70 w h=>?_
   refine zv h fun t71 w h=>?_
   refine zn ?_
   exact zt hT h
 · exact zt hT h
 subst hK
 refine sim_seg 2 rfl ?_
 refine sim_pick h rfl rfl rfl ?_;intro t72 h
 refine zm<|zn ?_
 refine joinK_elim h (fun K5 hK h=>?_)
 refine sim_groupJ 3 13 false [74,75,76] (fun ρ w=>K5 (ρ 76) w) rfl rfl (fun T hT=>guardP_mono h (fun h=>?_) (fun h=>?_)) (fun σ w h=>?_)
 · refine zv h fun t74 w h=>?_
   refine zc h c18 fun t75 w h=>?_
   refine zv h fun t76 w h=>?_
   refine zn ?_
   exact zt hT h
 · exact zt hT h
 subst hK
 refine sim_seg 2 rfl ?_
 refine sim_pick h rfl rfl rfl ?_;intro t77 h
 refine zm<|zn ?_
 refine joinK_elim h (fun K6 hK h=>?_)
 refine sim_groupJ 3 18 false [79,80,81] (fun ρ w=>K6 (ρ 81) w) rfl rfl (fun T hT=>guardP_mono h (fun h=>?_) (fun h=>?_)) (fun σ w h=>?_)
 · refine zv h fun t79 w h=>?_
   refine zc h c18 fun t80 w h=>?_
   refine zv h fun t81 w h=>?_
   refine zn ?_
   exact zt hT h
 · exact zt hT h
 subst hK
 refine sim_seg 2 rfl ?_
 refine sim_pick h rfl rfl rfl ?_;intro t82 h
 refine zm<|zn ?_
 refine joinK_elim h (fun K7 hK h=>?_)
 refine sim_groupJ 3 23 false [84,85,86] (fun ρ w=>K7 (ρ 86) w) rfl rfl (fun T hT=>guardP_mono h (fun h=>?_) (fun h=>?_)) (fun σ w h=>?_)
 · refine zv h fun t84 w h=>?_
   refine zc h c18 fun t85 w h=>?_
   refine zv h fun t86 w h=>?_
   refine zn ?_
   exact zt hT h
 · exact zt hT h
 subst hK
 refine sim_seg 2 rfl ?_
 refine sim_pick h rfl rfl rfl ?_;intro t87 h
 refine zm<|zn ?_
 refine joinK_elim h (fun K8 hK h=>?_)
 refine sim_groupJ 3 28 false [89,90,91] (fun ρ w=>K8 (ρ 91) w) rfl rfl (fun T hT=>guardP_mono h (fun h=>?_) (fun h=>?_)) (fun σ w h=>?_)
 · refine zv h fun t89 w h=>?_
   refine zc h c18 fun t90 w h=>?_
   refine zv h fun t91 w h=>?_
   refine zn ?_
   exact zt hT h
 · exact zt hT h
 subst hK
 refine sim_seg 1 rfl ?_
 refine sim_pick h rfl rfl rfl ?_;intro t92 h
 refine zn<|sim_end<|zk ?_
 refine sim_cond h rfl (fun h=>?_) (fun h=>?_)
 · refine zs<|zr<|zm<|zn<|zk<|sim_ret<|sim_then_ret ?_
   exact body_ret1 rfl rfl h
 · refine sim_skip<|zk<|zs<|zr ?_
   refine zc h c17 fun t94 w h=>?_
   refine zc h c7 fun t95 w h=>?_
   refine zm ?_
   refine zv h fun t96 w h=>?_
   refine zv h fun t97 w h=>?_
   refine zm<|zm<|zn<|zk<|zs<|zr ?_
   refine zc h c17 fun t99 w h=>?_
   refine zc h c7 fun t100 w h=>?_
   refine zm ?_
   refine zv h fun t101 w h=>?_
   refine zv h fun t102 w h=>?_
   refine zm<|zm<|zn<|zk<|zs<|zr ?_
   refine zc h c17 fun t103 w h=>?_
   refine zv h fun t104 w h=>?_
   refine zv h fun t105 w h=>?_
   refine zv h fun t106 w h=>?_
   refine zc h c19 fun t107 w h=>?_
   refine zm<|zn<|zk<|zs<|sim_regionG ?_
   refine sim_seg 3 rfl ?_
   refine zm ?_
   refine zb h fun t109 w h=>?_
   refine zm<|zn ?_
   refine joinK_elim h (fun K9 hK h=>?_)
   refine sim_groupJ 2 2 true [111,112] (fun ρ w=>K9 (ρ 112) w) rfl rfl (fun T hT=>guardP_mono h (fun h=>?_) (fun h=>?_)) (fun σ w h=>?_)
   · refine zm ?_
     refine zb h fun t112 w h=>?_
     refine zn ?_
     exact zt hT h
   · exact zt hT h
   subst hK
   refine sim_seg 2 rfl ?_
   refine sim_pick h rfl rfl rfl ?_;intro t113 h
   refine zm<|zn ?_
   refine joinK_elim h (fun K10 hK h=>?_)
   refine sim_groupJ 2 6 true [115,116] (fun ρ w=>K10 (ρ 116) w) rfl rfl (fun T hT=>guardP_mono h (fun h=>?_) (fun h=>?_)) (fun σ w h=>?_)
   · refine zm ?_
     refine zb h fun t116 w h=>?_
     refine zn ?_
     exact zt hT h
   · exact zt hT h
   subst hK
   refine sim_seg 2 rfl ?_
   refine sim_pick h rfl rfl rfl ?_;intro t117 h
   refine zm<|zn ?_
   refine joinK_elim h (fun K11 hK h=>?_)
   refine sim_groupJ 3 10 true [119,120,121] (fun ρ w=>K11 (ρ 121) w) rfl rfl (fun T hT=>guardP_mono h (fun h=>?_) (fun h=>?_)) (fun σ w h=>?_)
   · refine zm ?_
     refine zx h fun t120 w h=>?_
     refine zb h fun t121 w h=>?_
     refine zn ?_
     exact zt hT h
   · exact zt hT h
   subst hK
   refine sim_seg 2 rfl ?_
   refine sim_pick h rfl rfl rfl ?_;intro t122 h
   refine zm<|zn ?_
   refine joinK_elim h (fun K12 hK h=>?_)
   refine sim_groupJ 4 15 true [124,125,126,127] (fun ρ w=>K12 (ρ 127) w) rfl rfl (fun T hT=>guardP_mono h (fun h=>?_) (fun h=>?_)) (fun σ w h=>?_)
   · refine zm ?_
     refine zv h fun t125 w h=>?_
     refine sim_build h rfl (fun _ _ h=>⟨rfl,h⟩) ?_;intro t126 w h
     refine zb h fun t127 w h=>?_
     refine zn ?_
     exact zt hT h
   · exact zt hT h
   subst hK
   refine sim_seg 2 rfl ?_
   refine sim_pick h rfl rfl rfl ?_;intro t128 h
   refine zm<|zn ?_
   refine joinK_elim h (fun K13 hK h=>?_)
   refine sim_groupJ 3 21 true [130,131,132] (fun ρ w=>K13 (ρ 132) w) rfl rfl (fun T hT=>guardP_mono h (fun h=>?_) (fun h=>?_)) (fun σ w h=>?_)
   · refine sim_build h rfl (fun _ _ h=>⟨rfl,h⟩) ?_;intro t130 w h
     refine zc h c20 fun t131 w h=>?_
     refine zv h fun t132 w h=>?_
     refine zn ?_
     exact zt hT h
   · exact zt hT h
   subst hK
   refine sim_seg 2 rfl ?_
   refine sim_pick h rfl rfl rfl ?_;intro t133 h
   refine zm<|zn<|sim_end<|zk<|sim_ret ?_
   exact body_ret1 rfl rfl h
def n36 (t0 t1:Value) (R:RT) (w:World):Prop :=
 opV Pg (Instr.box 24 t0) (panK R) w fun t2 w =>
 L0 24 t2 R w fun t6 w =>
 callK Pg 21 #[t6,t1,(.func (.func 22) #[] #[])] (panK R) w fun t8 w =>
 opV Pg (Instr.extract t8 0) (panK R) w fun t9 w =>
 opV Pg (Instr.extract t8 1) (panK R) w fun t10 w =>
 R (.returned (.tuple #[t9,t10])) w
theorem n36s {t0 t1:Value} {R:RT} {w:World} (h:n36 t0 t1 R w):Calls Pg 7 #[t0,t1] w R:=by
 refine calls_of_den (args:=[t0,t1]) Tryz.func7 rfl (Nat.le_of_ble_eq_true rfl) ?_
 unfold n36 at h
 refine zs<|zr ?_
 refine zv h fun t2 w h=>?_
 refine zm<|zm<|zn<|zk<|zs<|zr ?_
 refine zv h fun t6 w h=>?_
 refine zm ?_
 refine zc h c21 fun t8 w h=>?_
 refine zv h fun t9 w h=>?_
 refine zv h fun t10 w h=>?_
 refine zm<|zm<|zn<|zk<|sim_ret ?_
 exact body_ret2 rfl rfl rfl h
def n46 (t0 t1:Value) (R:RT) (w:World):Prop :=
 opV Pg (Instr.box 24 t0) (panK R) w fun t2 w =>
 L0 24 t2 R w fun t6 w =>
 callK Pg 23 #[t6,t1,(.func (.func 24) #[] #[])] (panK R) w fun t8 w =>
 opV Pg (Instr.extract t8 0) (panK R) w fun t9 w =>
 opV Pg (Instr.extract t8 1) (panK R) w fun t10 w =>
 R (.returned (.tuple #[t9,t10])) w
theorem n46s {t0 t1:Value} {R:RT} {w:World} (h:n46 t0 t1 R w):Calls Pg 8 #[t0,t1] w R:=by
 refine calls_of_den (args:=[t0,t1]) Tryz.func8 rfl (Nat.le_of_ble_eq_true rfl) ?_
 unfold n46 at h
 refine zs<|zr ?_
 refine zv h fun t2 w h=>?_
 refine zm<|zm<|zn<|zk<|zs<|zr ?_
 refine zv h fun t6 w h=>?_
 refine zm ?_
 refine zc h c23 fun t8 w h=>?_
 refine zv h fun t9 w h=>?_
 refine zv h fun t10 w h=>?_
 refine zm<|zm<|zn<|zk<|sim_ret ?_
 exact body_ret2 rfl rfl rfl h
def n24c1 (t7:Value) (R:RT) (w:World):Prop :=
 opV Pg (Instr.extract t7 0) (panK R) w fun t8 w =>
 opV Pg (Instr.extract t7 1) (panK R) w fun t9 w =>
 opV Pg (Instr.alloc 39 true (.tuple #[])) (panK R) w fun t3 w =>
 opU Pg (Instr.storeAt 39 t3 t8) (panK R) w fun w =>
 opV Pg (Op.unary .not t9) (panK R) w fun t11 w =>
 R (.returned t11) w
def n24 (t0:Value) (R:RT) (w:World):Prop :=
 opV Pg (Instr.box 24 t0) (panK R) w fun t1 w =>
 L0 24 t1 R w fun t6 w =>
 C0 14 #[t6] R w fun t7 w =>
 n24c1 t7 R w
theorem n24s {t0:Value} {R:RT} {w:World} (h:n24 t0 R w):Calls Pg 9 #[t0] w R:=by
 refine calls_of_den (args:=[t0]) Tryz.func9 rfl (Nat.le_of_ble_eq_true rfl) ?_
 unfold n24 at h
 refine zs<|zr ?_
 refine zv h fun t1 w h=>?_
 refine zm<|zn<|zk<|zs<|zr ?_
 refine zv h fun t6 w h=>?_
 refine zc h c14 fun t7 w h=>?_
 refine zm ?_
 refine zv h fun t8 w h=>?_
 refine zv h fun t9 w h=>?_
 refine zv h fun t3 w h=>?_
 refine zu h fun w h=>?_
 refine zm<|zn<|zk<|zs<|zr<|zm ?_
 refine zv h fun t11 w h=>?_
 refine zm<|zn<|zk<|sim_ret ?_
 exact body_ret1 rfl rfl h
def n17c1 (t5 t7 t21 t28:Value) (C2:World→Prop) (next1:KW) (R:RT) (w:World):Prop :=
 C0 10 #[t21,t28] R w fun t29 w =>
 C2 w∧(
 qV Pg C2 (Builtin.max_ #[3,3] 3 #[t5,t29]) fun t30 =>
 B0 .add 3 true t7 (.int .i64 1) R w fun t19 w =>
 next1 t30 t19 w)
def n17c2 (t1 t2 t5 t7 t13:Value) (C2:World→Prop) (next1:KW) (R:RT) (w:World):Prop :=
 qV Pg C2 (Instr.loadAt 24 t2) fun t21 =>
 qV Pg C2 (Instr.loadAt 24 t2) fun t22 =>
 qV Pg C2 (Instr.indexAt 69 t13 t7) fun t25 =>
 qV Pg C2 (Instr.loadAt 9 t25) fun t26 =>
 C0 26 #[t22,t26,t1] R w fun t28 w =>
 C2 w∧(
 n17c1 t5 t7 t21 t28 C2 next1 R w)
def n17c3 (t1 t2 t5 t7 t13:Value) (next1:KW) (R:RT) (w:World):Prop :=
 opV Pg (Builtin.len_ #[69] 3 #[t13]) (panK R) w fun t16 w =>
 B0 .lss 3 false t7 t16 R w fun t17 w =>
 condP t17 (
 drawK w fun C2 w =>
 n17c2 t1 t2 t5 t7 t13 C2 next1 R w) (
 B0 .add 3 true t5 (.int .i64 1) R w fun t32 w =>
 R (.returned t32) w)
def n17 (t0 t1:Value) (R:RT) (w:World):Prop :=
 opV Pg (Instr.box 24 t0) (panK R) w fun t2 w =>
 F0 24 t2 1 R w fun t8 w =>
 L0 22 t8 R w fun t9 w =>
 X0 22 t9 t1 R w fun t11 w =>
 L0 45 t11 R w fun t12 w =>
 C0 25 #[t12] R w fun t13 w =>
 loop2 (fun t5 t7 w next1 =>
 n17c3 t1 t2 t5 t7 t13 next1 R w) (.int .i64 0) (.int .i64 0) w
theorem n17s {t0 t1:Value} {R:RT} {w:World} (h:n17 t0 t1 R w):Calls Pg 10 #[t0,t1] w R:=by
 refine calls_of_den (args:=[t0,t1]) Tryz.func10 rfl (Nat.le_of_ble_eq_true rfl) ?_
 unfold n17 at h
 refine zs<|zr ?_
 refine zv h fun t2 w h=>?_
 refine zm<|zn<|zk<|zs<|zr<|zm<|zn<|zk<|zs<|zr ?_
 refine zv h fun t8 w h=>?_
 refine zv h fun t9 w h=>?_
 refine zm ?_
 refine zv h fun t11 w h=>?_
 refine zv h fun t12 w h=>?_
 refine zc h c25 fun t13 w h=>?_
 refine zm<|zn<|zk<|zs<|zs<|zr<|zm<|zn<|zk<|sim_block ?_
 obtain ⟨I,μ,h0,hr⟩:=h
 refine sim_loop [5,7,14,15,16,17,18,19,20,21,22,23,24,25,26,27,28,29,30] (by kernel_rfl) (fun ρ w=>I (ρ 5) (ρ 7) w) (fun ρ w=>μ (ρ 5) (ρ 7) w) h0 (fun σ w hI=>?_)
 have h:=hr _ _ _ hI
 clear hr h0 hI
 refine zs<|zs<|zr<|zm<|zm ?_
 refine zx h fun t16 w h=>?_
 refine zb h fun t17 w h=>?_
 refine zn<|zk ?_
 refine sim_cond h rfl (fun h=>?_) (fun h=>?_)
 · refine sim_skip<|zk<|zs<|sim_block ?_
   obtain ⟨C2,hC,h⟩:=h
   refine sim_draw [5,20,21,22,23,24,25,26,27,28,29,30] (by kernel_rfl) (by kernel_rfl) C2 ?_
   refine zw 0 hC ?_
   refine ze 1 hC h fun t21 h=>?_
   refine ze 2 hC h fun t22 h=>?_
   refine zw 3 hC ?_
   refine zw 4 hC ?_
   refine ze 5 hC h fun t25 h=>?_
   refine ze 6 hC h fun t26 h=>?_
   refine zw 7 hC ?_
   refine sim_dloud 8 rfl (by kernel_rfl) (fun _ _=>rfl) ?_
   refine sim_call h c26 rfl (fun _ _ h _ _=>⟨rfl,h⟩) ?_;intro t28 w h
   refine zn ?_
   obtain ⟨hC,h⟩:=h
   refine ⟨hC,?_⟩
   refine sim_dloud 9 rfl (by kernel_rfl) (fun _ _=>rfl) ?_
   refine sim_call h c10 rfl (fun _ _ h _ _=>⟨rfl,h⟩) ?_;intro t29 w h
   refine zn ?_
   obtain ⟨hC,h⟩:=h
   refine ⟨hC,?_⟩
   obtain ⟨t30,hv,h⟩:=h
   refine sim_dsilent 10 hC rfl (by kernel_rfl) (by kernel_rfl) (fun _ _=>rfl) rfl (Sw.qV_builtin rfl hv) ?_
   refine zw 11 hC ?_
   refine sim_dend (by kernel_rfl) ?_
   refine sim_block_normal<|zk<|zr<|zm ?_
   refine zb h fun t19 w h=>?_
   refine zm<|zn<|zk ?_
   exact ⟨rfl,h⟩
 · refine sim_exit<|sim_then_exit<|sim_then_exit<|sim_block_hit<|zk<|zs<|zr<|zm ?_
   refine zb h fun t32 w h=>?_
   refine zm<|zn<|zk<|sim_ret ?_
   exact body_ret1 rfl rfl h
end Go.Proofs.YtiajhbbmgglmlaaGreat
namespace Go.Proofs.YtiajhbbmgglmlaaGreat
open Sw
def n16c1 (t2 t5 t7 t79:Value) (R:RT) (w:World):Prop :=
 opV Pg (Instr.build 39 #[(0,t5),(1,t7),(2,t79)]) (panK R) w fun t85 w =>
 opU Pg (Instr.storeAt 39 t2 t85) (panK R) w fun w =>
 qW Pg 39 t2 w fun r0 =>
 R (.returned (.tuple #[r0,(.bool true)])) w
def n16c2 (t2 t5 t7 t79:Value) (next4:KV) (R:RT) (w:World):Prop :=
 B0 .neq 3 true t79 (.int .i64 0) R w fun t81 w =>
 condP t81 (
 n16c1 t2 t5 t7 t79 R w) (
 B0 .add 3 true t7 (.int .i64 1) R w fun t75 w =>
 next4 t75 w)
def n16c3 (t5 t10 t30 t99 t107:Value) (C7:World→Prop) (next5:KV) (R:RT) (w:World):Prop :=
 qV Pg C7 (Instr.indexAt 85 t30 t107) fun t108 =>
 qV Pg C7 (Instr.loadAt 3 t108) fun t109 =>
 qV Pg C7 (Builtin.max_ #[3,3] 3 #[t99,t109]) fun t110 =>
 qV Pg C7 (Instr.indexAt 85 t30 t5) fun t111 =>
 opU Pg (Instr.storeAt 3 t111 t110) (panK R) w fun w =>
 turnK w fun C8 w =>
 B0 .add 3 true t10 (.int .i64 1) R w fun t93 w =>
 next5 t93 w
def n16c4 (t1 t5 t10 t30 t87:Value) (C6:World→Prop) (next5:KV) (R:RT) (w:World):Prop :=
 qV Pg C6 (Instr.indexAt 85 t30 t5) fun t98 =>
 qV Pg C6 (Instr.loadAt 3 t98) fun t99 =>
 qV Pg C6 (Instr.loadAt 24 t1) fun t101 =>
 qV Pg C6 (Instr.indexAt 69 t87 t10) fun t104 =>
 qV Pg C6 (Instr.loadAt 9 t104) fun t105 =>
 C0 26 #[t101,t105,t5] R w fun t107 w =>
 narrowK C6 w fun C7 w =>
 n16c3 t5 t10 t30 t99 t107 C7 next5 R w
def n16c5 (t2 t5:Value) (R:RT) (w:World):Prop :=
 opV Pg (Instr.build 39 #[(0,t5),(1,(.int .i64 (-1))),(2,(.int .i64 10))]) (panK R) w fun t124 w =>
 opU Pg (Instr.storeAt 39 t2 t124) (panK R) w fun w =>
 qW Pg 39 t2 w fun r0 =>
 R (.returned (.tuple #[r0,(.bool true)])) w
def n16c6 (t2 t5 t30:Value) (next2:KV) (R:RT) (w:World):Prop :=
 X0 85 t30 t5 R w fun t114 w =>
 L0 3 t114 R w fun t115 w =>
 B0 .add 3 true t115 (.int .i64 1) R w fun t116 w =>
 X0 85 t30 t5 R w fun t117 w =>
 opU Pg (Instr.storeAt 3 t117 t116) (panK R) w fun w =>
 X0 85 t30 t5 R w fun t120 w =>
 L0 3 t120 R w fun t121 w =>
 B0 .gtr 3 true t121 (.int .i64 16) R w fun t122 w =>
 condP t122 (
 n16c5 t2 t5 R w) (
 B0 .add 3 true t5 (.int .i64 1) R w fun t37 w =>
 next2 t37 w)
def n16c7 (t1 t2 t5 t10 t30 t87:Value) (next2:KV) (next5:KV) (R:RT) (w:World):Prop :=
 opV Pg (Builtin.len_ #[69] 3 #[t87]) (panK R) w fun t90 w =>
 B0 .lss 3 false t10 t90 R w fun t91 w =>
 condP t91 (
 drawK w fun C6 w =>
 n16c4 t1 t5 t10 t30 t87 C6 next5 R w) (
 n16c6 t2 t5 t30 next2 R w)
def n16c8 (t1 t2 t5 t6 t30:Value) (next2:KV) (R:RT) (w:World):Prop :=
 L0 45 t6 R w fun t86 w =>
 C0 25 #[t86] R w fun t87 w =>
 loop1 (fun t10 w next5 =>
 n16c7 t1 t2 t5 t10 t30 t87 next2 next5 R w) (.int .i64 0) w
def n16c9 (t1 t2 t5 t6 t7 t30:Value) (next2:KV) (next4:KV) (R:RT) (w:World):Prop :=
 F0 45 t6 1 R w fun t70 w =>
 L0 43 t70 R w fun t71 w =>
 opV Pg (Builtin.len_ #[43] 3 #[t71]) (panK R) w fun t72 w =>
 B0 .lss 3 false t7 t72 R w fun t73 w =>
 condP t73 (
 L0 24 t1 R w fun t76 w =>
 C0 33 #[t76,t5,t7] R w fun t79 w =>
 n16c2 t2 t5 t7 t79 next4 R w) (
 n16c8 t1 t2 t5 t6 t30 next2 R w)
def n16c10 (t2 t5:Value) (R:RT) (w:World):Prop :=
 opV Pg (Instr.build 39 #[(0,t5),(1,(.int .i64 (-1))),(2,(.int .i64 3))]) (panK R) w fun t68 w =>
 opU Pg (Instr.storeAt 39 t2 t68) (panK R) w fun w =>
 qW Pg 39 t2 w fun r0 =>
 R (.returned (.tuple #[r0,(.bool true)])) w
def n16c11 (t1 t2 t5 t6 t30 t60 t65:Value) (next2:KV) (R:RT) (w:World):Prop :=
 pickK t60 (.bool true) t65 fun t66 =>
 condP t66 (
 n16c10 t2 t5 R w) (
 loop1 (fun t7 w next4 =>
 n16c9 t1 t2 t5 t6 t7 t30 next2 next4 R w) (.int .i64 0) w)
def n16c12 (t2 t5:Value) (R:RT) (w:World):Prop :=
 opV Pg (Instr.build 39 #[(0,t5),(1,(.int .i64 (-1))),(2,(.int .i64 2))]) (panK R) w fun t56 w =>
 opU Pg (Instr.storeAt 39 t2 t56) (panK R) w fun w =>
 qW Pg 39 t2 w fun r0 =>
 R (.returned (.tuple #[r0,(.bool true)])) w
def n16c13 (t1 t2 t5 t6 t30:Value) (next2:KV) (R:RT) (w:World):Prop :=
 F0 45 t6 1 R w fun t57 w =>
 L0 43 t57 R w fun t58 w =>
 opV Pg (Builtin.len_ #[43] 3 #[t58]) (panK R) w fun t59 w =>
 B0 .lss 3 true t59 (.int .i64 1) R w fun t60 w =>
 joinK (fun (t65:Value) (w:World) =>
 n16c11 t1 t2 t5 t6 t30 t60 t65 next2 R w) fun K3 =>
 guardP t60 false (
 F0 45 t6 1 R w fun t62 w =>
 L0 43 t62 R w fun t63 w =>
 opV Pg (Builtin.len_ #[43] 3 #[t63]) (panK R) w fun t64 w =>
 B0 .gtr 3 true t64 (.int .i64 40) R w fun t65 w =>
 K3 t65 w) (
 K3 undef w)
def n16c14 (t2 t5:Value) (R:RT) (w:World):Prop :=
 opV Pg (Instr.build 39 #[(0,t5),(1,(.int .i64 (-1))),(2,(.int .i64 1))]) (panK R) w fun t48 w =>
 opU Pg (Instr.storeAt 39 t2 t48) (panK R) w fun w =>
 qW Pg 39 t2 w fun r0 =>
 R (.returned (.tuple #[r0,(.bool true)])) w
def n16c15 (t1 t2 t5 t6 t30:Value) (next2:KV) (R:RT) (w:World):Prop :=
 L0 24 t1 R w fun t49 w =>
 F0 45 t6 0 R w fun t50 w =>
 L0 9 t50 R w fun t51 w =>
 C0 26 #[t49,t51,t5] R w fun t53 w =>
 B0 .geq 3 true t53 (.int .i64 0) R w fun t54 w =>
 condP t54 (
 n16c12 t2 t5 R w) (
 n16c13 t1 t2 t5 t6 t30 next2 R w)
def n16c16 (t2:Value) (R:RT) (w:World):Prop :=
 opV Pg (Instr.build 39 #[(0,(.int .i64 (-1))),(1,(.int .i64 (-1))),(2,(.int .i64 11))]) (panK R) w fun t133 w =>
 opU Pg (Instr.storeAt 39 t2 t133) (panK R) w fun w =>
 qW Pg 39 t2 w fun r0 =>
 R (.returned (.tuple #[r0,(.bool true)])) w
def n16c17 (t2:Value) (R:RT) (w:World):Prop :=
 opV Pg (Instr.build 39 #[]) (panK R) w fun t134 w =>
 opU Pg (Instr.storeAt 39 t2 t134) (panK R) w fun w =>
 qW Pg 39 t2 w fun r0 =>
 R (.returned (.tuple #[r0,(.bool false)])) w
def n16c18 (t1 t2:Value) (R:RT) (w:World):Prop :=
 L0 24 t1 R w fun t125 w =>
 F0 24 t1 2 R w fun t126 w =>
 L0 9 t126 R w fun t127 w =>
 F0 24 t1 1 R w fun t128 w =>
 L0 22 t128 R w fun t129 w =>
 opV Pg (Builtin.len_ #[22] 3 #[t129]) (panK R) w fun t130 w =>
 C0 26 #[t125,t127,t130] R w fun t131 w =>
 B0 .lss 3 true t131 (.int .i64 0) R w fun t132 w =>
 condP t132 (
 n16c16 t2 R w) (
 n16c17 t2 R w)
def n16c19 (t1 t2 t5 t30:Value) (next2:KV) (R:RT) (w:World):Prop :=
 F0 24 t1 1 R w fun t38 w =>
 L0 22 t38 R w fun t39 w =>
 X0 22 t39 t5 R w fun t41 w =>
 L0 45 t41 R w fun t42 w =>
 opV Pg (Instr.alloc 45 true (.tuple #[])) (panK R) w fun t6 w =>
 opU Pg (Instr.storeAt 45 t6 t42) (panK R) w fun w =>
 F0 45 t6 0 R w fun t43 w =>
 L0 9 t43 R w fun t44 w =>
 C0 32 #[t44] R w fun t45 w =>
 opV Pg (Op.unary .not t45) (panK R) w fun t46 w =>
 condP t46 (
 n16c14 t2 t5 R w) (
 n16c15 t1 t2 t5 t6 t30 next2 R w)
def n16c20 (t1 t2 t5 t30:Value) (next2:KV) (R:RT) (w:World):Prop :=
 F0 24 t1 1 R w fun t32 w =>
 L0 22 t32 R w fun t33 w =>
 opV Pg (Builtin.len_ #[22] 3 #[t33]) (panK R) w fun t34 w =>
 B0 .lss 3 false t5 t34 R w fun t35 w =>
 condP t35 (
 n16c19 t1 t2 t5 t30 next2 R w) (
 n16c18 t1 t2 R w)
def n16c21 (t2:Value) (R:RT) (w:World):Prop :=
 opV Pg (Instr.build 39 #[(0,(.int .i64 (-1))),(1,(.int .i64 (-1))),(2,(.int .i64 3))]) (panK R) w fun t26 w =>
 opU Pg (Instr.storeAt 39 t2 t26) (panK R) w fun w =>
 qW Pg 39 t2 w fun r0 =>
 R (.returned (.tuple #[r0,(.bool true)])) w
def n16c22 (t1 t2:Value) (R:RT) (w:World):Prop :=
 F0 24 t1 1 R w fun t27 w =>
 L0 22 t27 R w fun t28 w =>
 opV Pg (Builtin.len_ #[22] 3 #[t28]) (panK R) w fun t29 w =>
 opV Pg (Instr.makeSlice 85 t29 t29) (panK R) w fun t30 w =>
 loop1 (fun t5 w next2 =>
 n16c20 t1 t2 t5 t30 next2 R w) (.int .i64 0) w
def n16c23 (t2:Value) (R:RT) (w:World):Prop :=
 opV Pg (Instr.build 39 #[(0,(.int .i64 (-1))),(1,(.int .i64 (-1))),(2,(.int .i64 1))]) (panK R) w fun t15 w =>
 opU Pg (Instr.storeAt 39 t2 t15) (panK R) w fun w =>
 qW Pg 39 t2 w fun r0 =>
 R (.returned (.tuple #[r0,(.bool true)])) w
def n16c24 (t1 t2:Value) (R:RT) (w:World):Prop :=
 F0 24 t1 1 R w fun t16 w =>
 L0 22 t16 R w fun t17 w =>
 opV Pg (Builtin.len_ #[22] 3 #[t17]) (panK R) w fun t18 w =>
 B0 .lss 3 true t18 (.int .i64 1) R w fun t19 w =>
 joinK (fun (t24:Value) (w:World) =>
 pickK t19 (.bool true) t24 fun t25 =>
 condP t25 (
 n16c21 t2 R w) (
 n16c22 t1 t2 R w)) fun K1 =>
 guardP t19 false (
 F0 24 t1 1 R w fun t21 w =>
 L0 22 t21 R w fun t22 w =>
 opV Pg (Builtin.len_ #[22] 3 #[t22]) (panK R) w fun t23 w =>
 B0 .gtr 3 true t23 (.int .i64 60) R w fun t24 w =>
 K1 t24 w) (
 K1 undef w)
def n16 (t0:Value) (R:RT) (w:World):Prop :=
 opV Pg (Instr.box 24 t0) (panK R) w fun t1 w =>
 opV Pg (Instr.alloc 39 true (.tuple #[])) (panK R) w fun t2 w =>
 F0 24 t1 0 R w fun t11 w =>
 L0 9 t11 R w fun t12 w =>
 C0 32 #[t12] R w fun t13 w =>
 opV Pg (Op.unary .not t13) (panK R) w fun t14 w =>
 condP t14 (
 n16c23 t2 R w) (
 n16c24 t1 t2 R w)
theorem n16s {t0:Value} {R:RT} {w:World} (h:n16 t0 R w):Calls Pg 14 #[t0] w R:=by
 refine calls_of_den (args:=[t0]) Tryz.func14 rfl (Nat.le_of_ble_eq_true rfl) ?_
 unfold n16 at h
 refine zs<|zr ?_
 refine zv h fun t1 w h=>?_
 refine zv h fun t2 w h=>?_
 refine zm<|zn<|zk<|zs<|zs<|zr ?_
 refine zv h fun t11 w h=>?_
 refine zv h fun t12 w h=>?_
 refine zc h c32 fun t13 w h=>?_
 refine zv h fun t14 w h=>?_
 refine zn<|zk ?_
 refine sim_cond h rfl (fun h=>?_) (fun h=>?_)
 · refine zs<|zr ?_
   refine sim_build h rfl (fun _ _ h=>⟨rfl,h⟩) ?_;intro t15 w h
   refine zu h fun w h=>?_
   refine zm<|zn<|zk<|sim_ret<|sim_then_ret ?_
   exact body_retCT rfl rfl rfl h
 · refine sim_skip<|zk<|zs<|zs<|sim_regionG ?_
   refine sim_seg 5 rfl ?_
   refine zv h fun t16 w h=>?_
   refine zv h fun t17 w h=>?_
   refine zx h fun t18 w h=>?_
   refine zb h fun t19 w h=>?_
   refine zm<|zn ?_
   refine joinK_elim h (fun K1 hK h=>?_)
   refine sim_groupJ 4 4 false [21,22,23,24] (fun ρ w=>K1 (ρ 24) w) rfl rfl (fun T hT=>guardP_mono h (fun h=>?_) (fun h=>?_)) (fun σ w h=>?_)
   · refine zv h fun t21 w h=>?_
     refine zv h fun t22 w h=>?_
     refine zx h fun t23 w h=>?_
     refine zb h fun t24 w h=>?_
     refine zn ?_
     exact zt hT h
   · exact zt hT h
   subst hK
   refine sim_seg 1 rfl ?_
   refine sim_pick h rfl rfl rfl ?_;intro t25 h
   refine zn<|sim_end<|zk ?_
   refine sim_cond h rfl (fun h=>?_) (fun h=>?_)
   · refine zs<|zr ?_
     refine sim_build h rfl (fun _ _ h=>⟨rfl,h⟩) ?_;intro t26 w h
     refine zu h fun w h=>?_
     refine zm<|zn<|zk<|sim_ret<|sim_then_ret ?_
     exact body_retCT rfl rfl rfl h
   · refine sim_skip<|zk<|zs<|zr ?_
     refine zv h fun t27 w h=>?_
     refine zv h fun t28 w h=>?_
     refine zx h fun t29 w h=>?_
     refine zv h fun t30 w h=>?_
     refine zm<|zn<|zk<|zs<|zs<|zr<|zm<|zn<|zk<|sim_block ?_
     obtain ⟨I,μ,h0,hr⟩:=h
     refine sim_loop [3,5,6,7,8,9,10,31,32,33,34,35,36,37,38,39,40,41,42,43,44,45,46,47,48,49,50,51,52,53,54,55,56,57,58,59,60,61,62,63,64,65,66,67,68,69,70,71,72,73,74,75,76,77,78,79,80,81,82,83,84,85,86,87,88,89,90,91,92,93,94,95,96,97,98,99,100,101,102,103,104,105,106,107,108,109,110,111,112,113,114,115,116,117,118,119,120,121,122,123,124] (by kernel_rfl) (fun ρ w=>I (ρ 5) w) (fun ρ w=>μ (ρ 5) w) h0 (fun σ w hI=>?_)
     have h:=hr _ _ hI
     clear hr h0 hI
     refine zs<|zs<|zr<|zm ?_
     refine zv h fun t32 w h=>?_
     refine zv h fun t33 w h=>?_
     refine zx h fun t34 w h=>?_
     refine zb h fun t35 w h=>?_
     refine zn<|zk ?_
     refine sim_cond h rfl (fun h=>?_) (fun h=>?_)
     · refine sim_skip<|zk<|zs<|sim_block<|zs<|zr ?_
       refine zv h fun t38 w h=>?_
       refine zv h fun t39 w h=>?_
       refine zm ?_
       refine zv h fun t41 w h=>?_
       refine zv h fun t42 w h=>?_
       refine zv h fun t6 w h=>?_
       refine zu h fun w h=>?_
       refine zn<|zk<|zs<|zs<|zr ?_
       refine zv h fun t43 w h=>?_
       refine zv h fun t44 w h=>?_
       refine zc h c32 fun t45 w h=>?_
       refine zv h fun t46 w h=>?_
       refine zn<|zk ?_
       refine sim_cond h rfl (fun h=>?_) (fun h=>?_)
       · refine zs<|zr<|zm ?_
         refine sim_build h rfl (fun _ _ h=>⟨rfl,h⟩) ?_;intro t48 w h
         refine zu h fun w h=>?_
         refine zm<|zn<|zk<|sim_ret<|sim_then_ret<|sim_block_ret<|sim_then_ret<|sim_then_ret<|sim_block_ret<|sim_then_ret ?_
         exact body_retCT rfl rfl rfl h
       · refine sim_skip<|zk<|zs<|zs<|zr ?_
         refine zv h fun t49 w h=>?_
         refine zv h fun t50 w h=>?_
         refine zv h fun t51 w h=>?_
         refine zm ?_
         refine zc h c26 fun t53 w h=>?_
         refine zb h fun t54 w h=>?_
         refine zn<|zk ?_
         refine sim_cond h rfl (fun h=>?_) (fun h=>?_)
         · refine zs<|zr<|zm ?_
           refine sim_build h rfl (fun _ _ h=>⟨rfl,h⟩) ?_;intro t56 w h
           refine zu h fun w h=>?_
           refine zm<|zn<|zk<|sim_ret<|sim_then_ret<|sim_block_ret<|sim_then_ret<|sim_then_ret<|sim_block_ret<|sim_then_ret ?_
           exact body_retCT rfl rfl rfl h
         · refine sim_skip<|zk<|zs<|zs<|sim_regionG ?_
           refine sim_seg 5 rfl ?_
           refine zv h fun t57 w h=>?_
           refine zv h fun t58 w h=>?_
           refine zx h fun t59 w h=>?_
           refine zb h fun t60 w h=>?_
           refine zm<|zn ?_
           refine joinK_elim h (fun K3 hK h=>?_)
           refine sim_groupJ 4 4 false [62,63,64,65] (fun ρ w=>K3 (ρ 65) w) rfl rfl (fun T hT=>guardP_mono h (fun h=>?_) (fun h=>?_)) (fun σ w h=>?_)
           · refine zv h fun t62 w h=>?_
             refine zv h fun t63 w h=>?_
             refine zx h fun t64 w h=>?_
             refine zb h fun t65 w h=>?_
             refine zn ?_
             exact zt hT h
           · exact zt hT h
           subst hK
           refine sim_seg 1 rfl ?_
           refine sim_pick h rfl rfl rfl ?_;intro t66 h
           refine zn<|sim_end<|zk ?_
           refine sim_cond h rfl (fun h=>?_) (fun h=>?_)
           · refine zs<|zr<|zm ?_
             refine sim_build h rfl (fun _ _ h=>⟨rfl,h⟩) ?_;intro t68 w h
             refine zu h fun w h=>?_
             refine zm<|zn<|zk<|sim_ret<|sim_then_ret<|sim_block_ret<|sim_then_ret<|sim_then_ret<|sim_block_ret<|sim_then_ret ?_
             exact body_retCT rfl rfl rfl h
           · refine sim_skip<|zk<|zs<|zs<|zr<|zm<|zn<|zk<|sim_block ?_
             obtain ⟨I,μ,h0,hr⟩:=h
             refine sim_loop [3,7,8,69,70,71,72,73,74,75,76,77,78,79,80,81,82,83,84,85] (by kernel_rfl) (fun ρ w=>I (ρ 7) w) (fun ρ w=>μ (ρ 7) w) h0 (fun σ w hI=>?_)
             have h:=hr _ _ hI
             clear hr h0 hI
             refine zs<|zs<|zr<|zm ?_
             refine zv h fun t70 w h=>?_
             refine zv h fun t71 w h=>?_
             refine zx h fun t72 w h=>?_
             refine zb h fun t73 w h=>?_
             refine zn<|zk ?_
             refine sim_cond h rfl (fun h=>?_) (fun h=>?_)
             · refine sim_skip<|zk<|zs<|sim_block<|zs<|zr ?_
               refine zv h fun t76 w h=>?_
               refine zm<|zm ?_
               refine zc h c33 fun t79 w h=>?_
               refine zm<|zn<|zk<|zs<|zr<|zm ?_
               refine zb h fun t81 w h=>?_
               refine zn<|zk ?_
               refine sim_cond h rfl (fun h=>?_) (fun h=>?_)
               · refine zs<|zr<|zm<|zm<|zm ?_
                 refine sim_build h rfl (fun _ _ h=>⟨rfl,h⟩) ?_;intro t85 w h
                 refine zu h fun w h=>?_
                 refine zm<|zn<|zk<|sim_ret<|sim_block_ret<|sim_then_ret<|sim_then_ret<|sim_block_ret<|sim_then_ret<|sim_block_ret<|sim_then_ret<|sim_then_ret<|sim_block_ret<|sim_then_ret ?_
                 exact body_retCT rfl rfl rfl h
               · refine sim_skip<|sim_block_normal<|zk<|zr<|zm ?_
                 refine zb h fun t75 w h=>?_
                 refine zm<|zn<|zk ?_
                 exact ⟨rfl,h⟩
             · refine sim_exit<|sim_then_exit<|sim_then_exit<|sim_block_hit<|zk<|zs<|zr ?_
               refine zv h fun t86 w h=>?_
               refine zc h c25 fun t87 w h=>?_
               refine zm<|zn<|zk<|zs<|zs<|zr<|zm<|zn<|zk<|sim_block ?_
               obtain ⟨I,μ,h0,hr⟩:=h
               refine sim_loop [10,88,89,90,91,92,93,94,95,96,97,98,99,100,101,102,103,104,105,106,107,108,109,110,111] (by kernel_rfl) (fun ρ w=>I (ρ 10) w) (fun ρ w=>μ (ρ 10) w) h0 (fun σ w hI=>?_)
               have h:=hr _ _ hI
               clear hr h0 hI
               refine zs<|zs<|zr<|zm<|zm ?_
               refine zx h fun t90 w h=>?_
               refine zb h fun t91 w h=>?_
               refine zn<|zk ?_
               refine sim_cond h rfl (fun h=>?_) (fun h=>?_)
               · refine sim_skip<|zk<|zs<|sim_block ?_
                 obtain ⟨C6,hC,h⟩:=h
                 refine sim_draw [94,95,96,97,98,99,100,101,102,103,104,105,106,107,108,109,110,111] (by kernel_rfl) (by kernel_rfl) C6 ?_
                 refine zw 0 hC ?_
                 refine zw 1 hC ?_
                 refine zw 2 hC ?_
                 refine zw 3 hC ?_
                 refine ze 4 hC h fun t98 h=>?_
                 refine ze 5 hC h fun t99 h=>?_
                 refine zw 6 hC ?_
                 refine ze 7 hC h fun t101 h=>?_
                 refine zw 8 hC ?_
                 refine zw 9 hC ?_
                 refine ze 10 hC h fun t104 h=>?_
                 refine ze 11 hC h fun t105 h=>?_
                 refine zw 12 hC ?_
                 refine sim_dnarrow 13 rfl (by kernel_rfl) (fun _ _=>rfl) ?_
                 refine sim_call h c26 rfl (fun _ _ h _ _=>⟨rfl,h⟩) ?_;intro t107 w h
                 refine zn ?_
                 obtain ⟨C7,hs,hC,h⟩:=h
                 refine ⟨C7,hs,hC,?_⟩
                 refine ze 14 hC h fun t108 h=>?_
                 refine ze 15 hC h fun t109 h=>?_
                 obtain ⟨t110,hv,h⟩:=h
                 refine sim_dsilent 16 hC rfl (by kernel_rfl) (by kernel_rfl) (fun _ _=>rfl) rfl (Sw.qV_builtin rfl hv) ?_
                 refine ze 17 hC h fun t111 h=>?_
                 refine sim_dturn 18 1 rfl (by kernel_rfl) (by kernel_rfl) (fun _ _=>rfl) ?_
                 refine sim_unit h rfl rfl (fun _ _ h _ _=>⟨rfl,h⟩) ?_;intro w h
                 refine zn ?_
                 obtain ⟨C8,hC,h⟩:=h
                 refine ⟨C8,hC,?_⟩
                 refine sim_dend (by kernel_rfl) ?_
                 refine sim_block_normal<|zk<|zr<|zm ?_
                 refine zb h fun t93 w h=>?_
                 refine zm<|zn<|zk ?_
                 exact ⟨rfl,h⟩
               · refine sim_exit<|sim_then_exit<|sim_then_exit<|sim_block_hit<|zk<|zs<|zr<|zm<|zm ?_
                 refine zv h fun t114 w h=>?_
                 refine zv h fun t115 w h=>?_
                 refine zb h fun t116 w h=>?_
                 refine zv h fun t117 w h=>?_
                 refine zu h fun w h=>?_
                 refine zn<|zk<|zs<|zr<|zm<|zm ?_
                 refine zv h fun t120 w h=>?_
                 refine zv h fun t121 w h=>?_
                 refine zb h fun t122 w h=>?_
                 refine zn<|zk ?_
                 refine sim_cond h rfl (fun h=>?_) (fun h=>?_)
                 · refine zs<|zr<|zm ?_
                   refine sim_build h rfl (fun _ _ h=>⟨rfl,h⟩) ?_;intro t124 w h
                   refine zu h fun w h=>?_
                   refine zm<|zn<|zk<|sim_ret<|sim_block_ret<|sim_then_ret<|sim_then_ret<|sim_block_ret<|sim_then_ret ?_
                   exact body_retCT rfl rfl rfl h
                 · refine sim_skip<|sim_block_normal<|zk<|zr<|zm ?_
                   refine zb h fun t37 w h=>?_
                   refine zm<|zn<|zk ?_
                   exact ⟨rfl,h⟩
     · refine sim_exit<|sim_then_exit<|sim_then_exit<|sim_block_hit<|zk<|zs<|zs<|zr ?_
       refine zv h fun t125 w h=>?_
       refine zv h fun t126 w h=>?_
       refine zv h fun t127 w h=>?_
       refine zv h fun t128 w h=>?_
       refine zv h fun t129 w h=>?_
       refine zx h fun t130 w h=>?_
       refine zc h c26 fun t131 w h=>?_
       refine zb h fun t132 w h=>?_
       refine zn<|zk ?_
       refine sim_cond h rfl (fun h=>?_) (fun h=>?_)
       · refine zs<|zr ?_
         refine sim_build h rfl (fun _ _ h=>⟨rfl,h⟩) ?_;intro t133 w h
         refine zu h fun w h=>?_
         refine zm<|zn<|zk<|sim_ret<|sim_then_ret ?_
         exact body_retCT rfl rfl rfl h
       · refine sim_skip<|zk<|zs<|zr ?_
         refine sim_build h rfl (fun _ _ h=>⟨rfl,h⟩) ?_;intro t134 w h
         refine zu h fun w h=>?_
         refine zm<|zn<|zk<|sim_ret ?_
         exact body_retCT rfl rfl rfl h
def n48c1 (t7:Value) (R:RT) (w:World):Prop :=
 opV Pg (Instr.extract t7 0) (panK R) w fun t8 w =>
 opV Pg (Instr.extract t7 1) (panK R) w fun t9 w =>
 opV Pg (Instr.alloc 39 true (.tuple #[])) (panK R) w fun t3 w =>
 opU Pg (Instr.storeAt 39 t3 t8) (panK R) w fun w =>
 opV Pg (Op.unary .not t9) (panK R) w fun t11 w =>
 R (.returned t11) w
def n48 (t0:Value) (R:RT) (w:World):Prop :=
 opV Pg (Instr.box 24 t0) (panK R) w fun t1 w =>
 L0 24 t1 R w fun t6 w =>
 C0 13 #[t6] R w fun t7 w =>
 n48c1 t7 R w
theorem n48s {t0:Value} {R:RT} {w:World} (h:n48 t0 R w):Calls Pg 15 #[t0] w R:=by
 refine calls_of_den (args:=[t0]) Tryz.func15 rfl (Nat.le_of_ble_eq_true rfl) ?_
 unfold n48 at h
 refine zs<|zr ?_
 refine zv h fun t1 w h=>?_
 refine zm<|zn<|zk<|zs<|zr ?_
 refine zv h fun t6 w h=>?_
 refine zc h c13 fun t7 w h=>?_
 refine zm ?_
 refine zv h fun t8 w h=>?_
 refine zv h fun t9 w h=>?_
 refine zv h fun t3 w h=>?_
 refine zu h fun w h=>?_
 refine zm<|zn<|zk<|zs<|zr<|zm ?_
 refine zv h fun t11 w h=>?_
 refine zm<|zn<|zk<|sim_ret ?_
 exact body_ret1 rfl rfl h
end Go.Proofs.YtiajhbbmgglmlaaGreat
namespace Go.Proofs.YtiajhbbmgglmlaaGreat
open Sw
open Go.RowKit (intOf Below)
section
variable {w0:World}
abbrev flawOf (r:Int×Int×Int):Value:=flawVal r.1 r.2.1 r.2.2
abbrev flawedB (d:DefD):Bool:=decide ((checkP d).2.2≠0)
theorem Check_ret (v:Value) (d:DefD) (hd:DefVal w0 v d) (ht:calm d):Ret Pg 13 #[v] w0 fun r w'=>r = .tuple #[flawOf (checkP d),.bool (flawedB d)]∧Ext w0 w':=by
 obtain ⟨mv,rfl,hM⟩:=hd
 have hm1:=SliceOf.oneCell hM
 refine n35s (R:=retR _) ?_;unfold n35
 simp (disch:=try exact DI) only [↓PR,QR,Int.reduceBEq,Int.reduceBNe,Int.reduceLT,Int.reduceLE,Int.reduceGT,Int.reduceGE,Int.reduceNeg]
 refine callK_ret (examined_ret _ d ⟨mv,rfl,MsgsOf.ext hM ee⟩ ht) ?_
 rintro _ w1 ⟨e1,cb,rfl,_⟩
 have s1:=e1.size
 simp only [World.size_alloc] at s1
 have o2:=e1.obj (heap_new (w0.alloc (Obj.cells (defCells d mv).toArray 24)) #[.int .i64 0,.int .i64 0,.int .i64 0] 39)
 rw [World.size_alloc] at o2
 simp (disch:=try exact DI) only [↓PR,QR,Int.reduceBEq,Int.reduceBNe,Int.reduceLT,Int.reduceLE,Int.reduceGT,Int.reduceGE,Int.reduceNeg,↓n35c1,(cells_of_heap o2).1,(cells_of_heap o2).2]
 exact ⟨by first | trivial | rfl,ee⟩
theorem Valid_ret' (v:Value) (d:DefD) (hd:DefVal w0 v d) (ht:calm d):Ret Pg 15 #[v] w0 fun r w'=>r = .bool (!flawedB d)∧Ext w0 w':=by
 obtain ⟨mv,rfl,hM⟩:=hd
 have hm1:=SliceOf.oneCell hM
 refine n48s (R:=retR _) ?_;unfold n48
 simp (disch:=try exact DI) only [↓PR,QR,Int.reduceBEq,Int.reduceBNe,Int.reduceLT,Int.reduceLE,Int.reduceGT,Int.reduceGE,Int.reduceNeg]
 refine zcr (Check_ret _ d ⟨mv,rfl,MsgsOf.ext hM ee⟩ ht) fun w1 e1=>?_
 simp (disch:=try exact DI) only [↓PR,QR,Int.reduceBEq,Int.reduceBNe,Int.reduceLT,Int.reduceLE,Int.reduceGT,Int.reduceGE,Int.reduceNeg,↓n48c1]
 exact ⟨by first | trivial | rfl,ee⟩
theorem Depth1_ret {cb:Nat} {deps:List (ByteArray×Int)} {strs:List (ByteArray×Bool)} (h:CkE w0 cb deps strs):Ret Pg 22 #[.pointer (some ⟨cb,0,none⟩)] w0 fun r w'=>∃ md,r = .map (some md)∧MapOf w' md (vI deps)∧Ext w0 w':=by
 obtain ⟨md,ms,dn,mv,ds,at_,fld,mn,fv,h1,h2,h3⟩:=h
 refine n37s (R:=retR _) ?_;unfold n37
 simp (disch:=try exact DI) only [↓PR,QR,Int.reduceBEq,Int.reduceBNe,Int.reduceLT,Int.reduceLE,Int.reduceGT,Int.reduceGE,Int.reduceNeg,(cells_of_heap h1).1]
 exact ⟨md,rfl,h2,Ext.refl _⟩
def nameAt (d:DefD) (i:Int):ByteArray:=match d.msgs[i.toNat]? with
 | some m=>m.name
 | none=>ByteArray.empty
def depthP (d:DefD) (i:Int):Int×Int:=if (checkP d).2.2≠0 then (0,2) else if i < 0∨d.msgs.length≤i then (0,3) else ((lastP (depsOf d.msgs) (nameAt d i)).getD 0,0)
theorem of_int_ret (v:Value) (d:DefD) (i:Int) (hd:DefVal w0 v d) (ht:calm d):Ret Pg 21 #[v,.int .i64 i,.func (.func 22) #[] #[]] w0 fun r w'=>r = .tuple #[.int .i64 (depthP d i).1,.int .i64 (depthP d i).2]∧Ext w0 w':=by
 obtain ⟨mv,rfl,hM⟩:=hd
 have hm1:=SliceOf.oneCell hM
 refine n86s (R:=retR _) ?_;unfold n86
 simp (disch:=try exact DI) only [↓PR,QR,Int.reduceBEq,Int.reduceBNe,Int.reduceLT,Int.reduceLE,Int.reduceGT,Int.reduceGE,Int.reduceNeg]
 refine callK_ret (examined_ret _ d ⟨mv,rfl,MsgsOf.ext hM ee⟩ ht) ?_
 rintro _ w1 ⟨e1,cb,rfl,hck⟩
 have s1:=e1.size
 simp only [World.size_alloc] at s1
 have o1:=e1.obj (heap_new w0 (defCells d mv).toArray 24)
 unfold n86c3 depthP
 by_cases hf:(checkP d).2.2≠0
 · rw [if_pos hf,decide_eq_true hf]
   simp (disch:=try exact DI) only [↓PR,QR,Int.reduceBEq,Int.reduceBNe,Int.reduceLT,Int.reduceLE,Int.reduceGT,Int.reduceGE,Int.reduceNeg]
   exact ⟨by first | trivial | rfl,ee⟩
 · have h0:(checkP d).2.2=0:=Decidable.not_not.1 hf
   rw [if_neg hf,decide_eq_false hf]
   replace hck:=hck h0
   obtain ⟨A,c,rfl,hlc,hcm,hlm,hel⟩:=SliceOf.open hM
   have eA:Ext w0 w1:=ee
   have eB:Ext w1 (w1.alloc (Obj.cells #[.int .i64 (checkP d).1,.int .i64 (checkP d).2.1,.int .i64 (checkP d).2.2] 39)):=ee
   simp (disch:=try exact DI) only [↓PR,QR,Int.reduceBEq,Int.reduceBNe,Int.reduceLT,Int.reduceLE,Int.reduceGT,Int.reduceGE,Int.reduceNeg]
   have o1':=eB.obj o1
   have hck':=hck.go eB
   have eC:=eA.trans eB
   generalize (w1.alloc (Obj.cells #[.int .i64 (checkP d).1,.int .i64 (checkP d).2.1,.int .i64 (checkP d).2.2] 39))=w2 at o1' hck' eC ⊢
   unfold n86c2
   by_cases hi:i < 0
   · rw [if_pos (.inl hi)]
     have d1:decide (i < 0)=true:=decide_eq_true hi
     simp (disch:=try exact DI) only [↓PR,QR,Int.reduceBEq,Int.reduceBNe,Int.reduceLT,Int.reduceLE,Int.reduceGT,Int.reduceGE,Int.reduceNeg,d1]
     exact ⟨by first | trivial | rfl,ee⟩
   · have d1:decide (i < 0)=false:=decide_eq_false hi
     by_cases hj:(d.msgs.length:Int)≤i
     · rw [if_pos (.inr hj)]
       have d2:decide (i≥(d.msgs.length:Int))=true:=decide_eq_true hj
       simp (disch:=try exact DI) only [↓PR,QR,Int.reduceBEq,Int.reduceBNe,Int.reduceLT,Int.reduceLE,Int.reduceGT,Int.reduceGE,Int.reduceNeg,d1,d2,(cells_of_heap o1').1]
       exact ⟨by first | trivial | rfl,ee⟩
     · rw [if_neg (by omega)]
       have d2:decide (i≥(d.msgs.length:Int))=false:=decide_eq_false hj
       simp (disch:=try exact DI) only [↓PR,QR,Int.reduceBEq,Int.reduceBNe,Int.reduceLT,Int.reduceLE,Int.reduceGT,Int.reduceGE,Int.reduceNeg,d1,d2,(cells_of_heap o1').1]
       obtain ⟨k,rfl⟩:∃ k:Nat,i=k:=⟨i.toNat,by omega⟩
       have hk:k < d.msgs.length:=by omega
       obtain ⟨m,hm⟩:=getElem?_lt hk
       obtain ⟨b,o,cs,rfl,hl,hA,fv,rfl,hF⟩:=hel k m hm
       have hnm:nameAt d k=m.name:=by unfold nameAt;rw [Int.toNat_natCast,hm]
       rw [hnm]
       refine drawK_intro ?_
       have eD:Ext w2 w2.drew:=(Ext.refl w2).wdrew
       unfold n86c1
       simp (disch:=try exact DI) only [↓PR,QR,Int.reduceBEq,Int.reduceBNe,Int.reduceLT,Int.reduceLE,Int.reduceGT,Int.reduceGE,Int.reduceNeg,(cells_of_heap o1').1,(hA.c2 eC).1]
       rw [callV_func c22]
       simp only [Array.empty_append,Array.append_empty]
       refine callK_ret (Depth1_ret (hck'.go eD)) ?_
       rintro _ w4 ⟨md,rfl,hmd,e4⟩
       refine narrowK_EC e4 ?_
       rw [qV_lookup1E Tryz.underlying62 Tryz.underlying9 ty3 hmd m.name]
       have hg:(lastOf (vI (depsOf d.msgs)) m.name).getD (.int .i64 0) = .int .i64 ((lastP (depsOf d.msgs) m.name).getD 0):=by rw [lastOf_vI];cases lastP (depsOf d.msgs) m.name<;>rfl
       rw [hg]
       simp (disch:=try exact DI) only [↓PR,QR,Int.reduceBEq,Int.reduceBNe,Int.reduceLT,Int.reduceLE,Int.reduceGT,Int.reduceGE,Int.reduceNeg]
       exact ⟨by first | trivial | rfl,ee⟩
theorem Depth_ret (v:Value) (d:DefD) (i:Int) (hd:DefVal w0 v d) (ht:calm d):Ret Pg 7 #[v,.int .i64 i] w0 fun r w'=>r = .tuple #[.int .i64 (depthP d i).1,.int .i64 (depthP d i).2]∧Ext w0 w':=by
 obtain ⟨mv,rfl,hM⟩:=hd
 have hm1:=SliceOf.oneCell hM
 refine n36s (R:=retR _) ?_;unfold n36
 simp (disch:=try exact DI) only [↓PR,QR,Int.reduceBEq,Int.reduceBNe,Int.reduceLT,Int.reduceLE,Int.reduceGT,Int.reduceGE,Int.reduceNeg]
 refine zcr (of_int_ret _ d i ⟨mv,rfl,MsgsOf.ext hM ee⟩ ht) fun w1 e1=>?_
 simp (disch:=try exact DI) only [↓PR,QR,Int.reduceBEq,Int.reduceBNe,Int.reduceLT,Int.reduceLE,Int.reduceGT,Int.reduceGE,Int.reduceNeg]
 exact ⟨by first | trivial | rfl,ee⟩
end
end Go.Proofs.YtiajhbbmgglmlaaGreat
namespace Go.Proofs.YtiajhbbmgglmlaaGreat
open Sw
open Go.RowKit (intOf Below)
def twoF0:FieldD:={ name:=⟨#[110]⟩,kind:=1,bits:=8,little:=false,loose:=false,low:=0,high:=255,base:=0,terms:=[],of:=ByteArray.empty,tag:=ByteArray.empty,fr:=ByteArray.empty,cases:=[],check:=0,key:=0 }
def twoF1:FieldD:={ name:=⟨#[98]⟩,kind:=4,bits:=0,little:=false,loose:=false,low:=0,high:=0,base:=0,terms:=[⟨⟨#[110]⟩,1⟩],of:=ByteArray.empty,tag:=ByteArray.empty,fr:=ByteArray.empty,cases:=[],check:=0,key:=0 }
def twoF2:FieldD:={ name:=⟨#[108]⟩,kind:=7,bits:=0,little:=false,loose:=false,low:=0,high:=0,base:=0,terms:=[],of:=⟨#[109]⟩,tag:=ByteArray.empty,fr:=ByteArray.empty,cases:=[],check:=0,key:=0 }
def twoD (start:ByteArray) (l:List FieldD):DefD:=⟨⟨#[100]⟩,[⟨⟨#[109]⟩,l⟩],start⟩
theorem chk_a:checkP (twoD ⟨#[120]⟩ [twoF0,twoF1])=(-1,-1,11):=by decide
theorem chk_b:checkP (twoD ⟨#[109]⟩ [{ twoF0 with high:=256 },twoF1])=(0,0,7):=by decide
theorem chk_c:checkP (twoD ⟨#[109]⟩ [twoF0,{ twoF1 with base := -1 }])=(0,1,9):=by decide
theorem chk_e:checkP (twoD ⟨#[109]⟩ [twoF0,{ twoF1 with name:=⟨#[110]⟩ }])=(0,1,2):=by decide
theorem chk_f:checkP (twoD ⟨#[109]⟩ [twoF0,{ twoF1 with bits:=8 }])=(0,1,5):=by decide
theorem chk_g:checkP (twoD ⟨#[109]⟩ [twoF0,twoF1,twoF2])=(0,2,8):=by decide
def TwoAt (w:World) (bt bf bm:Nat) (f0 f1:FieldD):Prop :=
 w.heap[bm]?=some (.cells #[.string ⟨#[109]⟩,.slice (some ⟨bf,0,none⟩) 2 2] 45 (0,0)) ∧
 w.heap[bf]?=some (.cells (fieldCells f0 (.slice none 0 0) (.slice none 0 0)++fieldCells f1 (.slice (some ⟨bt,0,none⟩) 1 1) (.slice none 0 0)).toArray 52 (0,0)) ∧
 w.heap[bt]?=some (.cells #[.string ⟨#[110]⟩,.int .i64 1] 78 (0,0))
abbrev twoVal (start:ByteArray) (bm:Nat):Value := .agg #[.string ⟨#[100]⟩,.slice (some ⟨bm,0,none⟩) 1 1,.string start]
theorem TwoAt.go {w w':World} {bt bf bm:Nat} {f0 f1:FieldD} (h:TwoAt w bt bf bm f0 f1) (e:Ext w w'):TwoAt w' bt bf bm f0 f1:=⟨e.obj h.1,e.obj h.2.1,e.obj h.2.2⟩
theorem TwoAt.same {w w':World} {bt bf bm:Nat} {f0 f1:FieldD} (h:TwoAt w bt bf bm f0 f1) (e:∀ b,b=bt∨b=bf∨b=bm→w'.heap[b]?=w.heap[b]?):TwoAt w' bt bf bm f0 f1:=⟨(e bm (by simp)).trans h.1,(e bf (by simp)).trans h.2.1,(e bt (by simp)).trans h.2.2⟩
theorem TwoAt.other {w:World} {bt bf bm b o:Nat} {f0 f1:FieldD} (h:TwoAt w bt bf bm f0 f1) (h1:b≠bt) (h2:b≠bf) (h3:b≠bm) (v:Value):TwoAt (w.setCell ⟨b,o,none⟩ v) bt bf bm f0 f1 :=
 h.same fun b' hb'=>Only.setCell w b o v b' (by rcases hb' with rfl | rfl | rfl<;>exact fun e=>by omega)
theorem TwoAt.turn {w:World} {bt bf bm o:Nat} {f0 f1 g0 g1:FieldD} (h:TwoAt w bt bf bm f0 f1) (h1:bf≠bt) (h2:bf≠bm) (v:Value)
 (hv:(fieldCells f0 (.slice none 0 0) (.slice none 0 0)++fieldCells f1 (.slice (some ⟨bt,0,none⟩) 1 1) (.slice none 0 0)).set o v=fieldCells g0 (.slice none 0 0) (.slice none 0 0)++fieldCells g1 (.slice (some ⟨bt,0,none⟩) 1 1) (.slice none 0 0)):TwoAt (w.setCell ⟨bf,o,none⟩ v) bt bf bm g0 g1:=by
 refine ⟨(Only.setCell w bf o v bm (fun e=>h2 e.symm)).trans h.1,?_,(Only.setCell w bf o v bt (fun e=>h1 e.symm)).trans h.2.2⟩
 rw [heap_set h.2.1,List.setIfInBounds_toArray,hv]
theorem TwoAt.msgs {w:World} {bt bf bm:Nat} {f0 f1:FieldD} (h:TwoAt w bt bf bm f0 f1) (h0:f0.terms=[]∧f0.cases=[]) (h1:f1.terms=[⟨⟨#[110]⟩,1⟩]∧f1.cases=[]):MsgsOf w (.slice (some ⟨bm,0,none⟩) 1 1) [⟨⟨#[109]⟩,[f0,f1]⟩]:=by
 obtain ⟨a1,a2,a3⟩:=h
 refine ⟨_,1,rfl,by simp,by simp,fun _=>⟨bm,0,rfl,fun k x hx=>?_⟩⟩
 cases k with
 | succ k=>simp at hx
 | zero =>
  simp at hx;subst hx
  refine ⟨[.string ⟨#[109]⟩,.slice (some ⟨bf,0,none⟩) 2 2],rfl,fun j v hv=>?_,_,rfl,?_⟩
  · rw [(cells_of_heap a1).1];simpa using hv
  · refine ⟨_,2,rfl,by simp,by simp,fun _=>⟨bf,0,rfl,fun k x hx=>?_⟩⟩
    cases k with
    | zero =>
     simp at hx;subst hx
     refine ⟨fieldCells f0 (.slice none 0 0) (.slice none 0 0),rfl,fun j v hv=>?_,_,_,rfl,?_,?_⟩
     · rw [(cells_of_heap a2).1]
       have:j < 15:=(List.getElem?_eq_some_iff.1 hv).1
       rw [List.getElem?_toArray,show 0+0*15+j=j by omega,List.getElem?_append_left (by simpa using this)];exact hv
     · rw [h0.1];exact SliceOf.nil _ _ _
     · rw [h0.2];exact SliceOf.nil _ _ _
    | succ k =>
     cases k with
     | succ k=>simp at hx
     | zero =>
      simp at hx;subst hx
      refine ⟨fieldCells f1 (.slice (some ⟨bt,0,none⟩) 1 1) (.slice none 0 0),rfl,fun j v hv=>?_,_,_,rfl,?_,?_⟩
      · rw [(cells_of_heap a2).1]
        rw [List.getElem?_toArray,show 0+(0+1)*15+j=15+j by omega,List.getElem?_append_right (by simp),List.length_cons];simpa using hv
      · rw [h1.1]
        refine ⟨_,1,rfl,by decide,by decide,fun _=>⟨bt,0,rfl,fun k x hx=>?_⟩⟩
        cases k with
        | succ k=>simp at hx
        | zero =>
         simp at hx;subst hx
         exact ⟨[.string ⟨#[110]⟩,.int .i64 1],rfl,fun j v hv=>by rw [(cells_of_heap a3).1];simpa using hv,rfl⟩
      · rw [h1.2];exact SliceOf.nil _ _ _
theorem TwoAt.val {w:World} {bt bf bm:Nat} {f0 f1:FieldD} (h:TwoAt w bt bf bm f0 f1) (h0:f0.terms=[]∧f0.cases=[]) (h1:f1.terms=[⟨⟨#[110]⟩,1⟩]∧f1.cases=[]) (start:ByteArray):DefVal w (twoVal start bm) (twoD start [f0,f1]):=⟨_,rfl,h.msgs h0 h1⟩
theorem two_ret (w0:World):Ret Pg 17 #[] w0 fun r w'=>∃ bt bf bm,r=twoVal ⟨#[109]⟩ bm∧w0.heap.size≤bt∧bt < bf∧bf < bm∧bm < w'.heap.size∧TwoAt w' bt bf bm twoF0 twoF1∧Ext w0 w':=by
 refine n8s (R:=retR _) ?_;unfold n8
 simp (disch:=try exact DI) only [↓PR,QR,Int.reduceBEq,Int.reduceBNe,Int.reduceLT,Int.reduceLE,Int.reduceGT,Int.reduceGE,Int.reduceNeg]
 refine ⟨w0.heap.size+1,w0.heap.size+1+1,w0.heap.size+1+1+1,rfl,by omega,by omega,by omega,by omega,⟨?_,?_,?_⟩,ee⟩
 · simp (disch:=try exact DI) only [↓PR,QR,Int.reduceBEq,Int.reduceBNe,Int.reduceLT,Int.reduceLE,Int.reduceGT,Int.reduceGE,Int.reduceNeg]
 · simp (disch:=try exact DI) only [↓PR,QR,Int.reduceBEq,Int.reduceBNe,Int.reduceLT,Int.reduceLE,Int.reduceGT,Int.reduceGE,Int.reduceNeg]
   rfl
 · simp (disch:=try exact DI) only [↓PR,QR,Int.reduceBEq,Int.reduceBNe,Int.reduceLT,Int.reduceLE,Int.reduceGT,Int.reduceGE,Int.reduceNeg]
theorem flawed_ret {w0:World} (v:Value) (d:DefD) (a f c:Int) (hd:DefVal w0 v d) (ht:calm d):Ret Pg 18 #[v,.int .i64 a,.int .i64 f,.int .i64 c] w0 fun r w'=>r = .bool (flawedB d&&(decide ((checkP d).1=a)&&(decide ((checkP d).2.1=f)&&decide ((checkP d).2.2=c))))∧Ext w0 w':=by
 obtain ⟨mv,rfl,hM⟩:=hd
 have hm1:=SliceOf.oneCell hM
 refine n6s (R:=retR _) ?_;unfold n6
 simp (disch:=try exact DI) only [↓PR,QR,Int.reduceBEq,Int.reduceBNe,Int.reduceLT,Int.reduceLE,Int.reduceGT,Int.reduceGE,Int.reduceNeg]
 refine zcr (Check_ret _ d ⟨mv,rfl,MsgsOf.ext hM ee⟩ ht) fun w1 e1=>?_
 generalize flawedB d=b
 unfold n6c1
 cases b with
 | false =>
  simp (disch:=try exact DI) only [↓PR,QR,Int.reduceBEq,Int.reduceBNe,Int.reduceLT,Int.reduceLE,Int.reduceGT,Int.reduceGE,Int.reduceNeg]
  exact ⟨by first | trivial | rfl,ee⟩
 | true =>
  simp (disch:=try exact DI) only [↓PR,QR,Int.reduceBEq,Int.reduceBNe,Int.reduceLT,Int.reduceLE,Int.reduceGT,Int.reduceGE,Int.reduceNeg]
  exact ⟨by first | trivial | rfl,ee⟩
end Go.Proofs.YtiajhbbmgglmlaaGreat
namespace Go.Proofs.YtiajhbbmgglmlaaGreat
open Sw
open Go.RowKit (intOf Below)
theorem known_head (w0:World) (R:RT) (h:∀ (w:World) (bt1 bf1 bm1 bt2 bf2 bm2 bt3 bf3 bm3 bt4 bf4 bm4 bt5 bf5 bm5 bt6 bf6 bm6:Nat),
 w0.heap.size≤bt1→bt1 < bf1→bf1 < bm1→bm1 < bt2→bt2 < bf2→bf2 < bm2→bm2 < bt3→bt3 < bf3→bf3 < bm3→bm3 < bt4→bt4 < bf4→bf4 < bm4→bm4 < bt5→bt5 < bf5→bf5 < bm5→bm5 < bt6→bt6 < bf6→bf6 < bm6→bm6 < w.heap.size→Ext w0 w →
 TwoAt w bt1 bf1 bm1 twoF0 twoF1→TwoAt w bt2 bf2 bm2 twoF0 twoF1→TwoAt w bt3 bf3 bm3 twoF0 twoF1→TwoAt w bt4 bf4 bm4 twoF0 twoF1→TwoAt w bt5 bf5 bm5 twoF0 twoF1→TwoAt w bt6 bf6 bm6 twoF0 twoF1 →
 n7c18 (twoVal ⟨#[109]⟩ bm1) (twoVal ⟨#[109]⟩ bm2) (twoVal ⟨#[109]⟩ bm3) (twoVal ⟨#[109]⟩ bm4) (twoVal ⟨#[109]⟩ bm5) (twoVal ⟨#[109]⟩ bm6) R w):n7 R w0:=by
 unfold n7
 refine callK_ret (two_ret _) ?_
 rintro _ w1 ⟨bt1,bf1,bm1,rfl,a1,b1,c1,d1,h1,e1⟩
 refine callK_ret (two_ret _) ?_
 rintro _ w2 ⟨bt2,bf2,bm2,rfl,a2,b2,c2,d2,h2,e2⟩
 refine callK_ret (two_ret _) ?_
 rintro _ w3 ⟨bt3,bf3,bm3,rfl,a3,b3,c3,d3,h3,e3⟩
 unfold n7c19
 refine callK_ret (two_ret _) ?_
 rintro _ w4 ⟨bt4,bf4,bm4,rfl,a4,b4,c4,d4,h4,e4⟩
 refine callK_ret (two_ret _) ?_
 rintro _ w5 ⟨bt5,bf5,bm5,rfl,a5,b5,c5,d5,h5,e5⟩
 refine callK_ret (two_ret _) ?_
 rintro _ w6 ⟨bt6,bf6,bm6,rfl,a6,b6,c6,d6,h6,e6⟩
 have e56:=e6
 have e46:=e5.trans e56
 have e36:=e4.trans e46
 have e26:=e3.trans e36
 have e16:=e2.trans e26
 exact h w6 bt1 bf1 bm1 bt2 bf2 bm2 bt3 bf3 bm3 bt4 bf4 bm4 bt5 bf5 bm5 bt6 bf6 bm6 a1 b1 c1 (by omega) b2 c2 (by omega) b3 c3 (by omega) b4 c4 (by omega) b5 c5 (by omega) b6 c6 d6 (e1.trans e16) (h1.go e16) (h2.go e26) (h3.go e36) (h4.go e46) (h5.go e56) h6
theorem idxM {w:World} {QP:List PanicEntry→World→Prop} {k:Value→World→Prop} (b:Nat):opV Pg (Instr.indexAt 22 (.slice (some ⟨b,0,none⟩) 1 1) (.int .i64 0)) QP w k=k (.pointer (some ⟨b,0,none⟩)) w:=op_indexN Tryz.underlying22 ty45 b 0 1 1 .i64 0 (by decide)
theorem idxF0 {w:World} {QP:List PanicEntry→World→Prop} {k:Value→World→Prop} (b:Nat):opV Pg (Instr.indexAt 43 (.slice (some ⟨b,0,none⟩) 2 2) (.int .i64 0)) QP w k=k (.pointer (some ⟨b,0,none⟩)) w:=op_indexN Tryz.underlying43 ty52 b 0 2 2 .i64 0 (by decide)
theorem idxF1 {w:World} {QP:List PanicEntry→World→Prop} {k:Value→World→Prop} (b:Nat):opV Pg (Instr.indexAt 43 (.slice (some ⟨b,0,none⟩) 2 2) (.int .i64 1)) QP w k=k (.pointer (some ⟨b,15,none⟩)) w:=by
 rw [op_indexAt Tryz.underlying43 ty52 b 0 2 2 .i64 1 (by decide) (by decide)]
 rfl
theorem qidxM {C:World→Prop} [ClassNe C] {k:Value→Prop} (b:Nat):qV Pg C (Instr.indexAt 22 (.slice (some ⟨b,0,none⟩) 1 1) (.int .i64 0)) k=k (.pointer (some ⟨b,0,none⟩)):=qV_of fun _ _ _=>idxM b
def twoB:FieldD:={ twoF0 with high:=256 }
def twoC:FieldD:={ twoF1 with base := -1 }
def twoE:FieldD:={ twoF1 with name:=⟨#[110]⟩ }
def twoG:FieldD:={ twoF1 with bits:=8 }
def DefAt (w:World) (p:Nat) (start:ByteArray) (bm:Nat):Prop:=w.heap[p]?=some (.cells #[.string ⟨#[100]⟩,.slice (some ⟨bm,0,none⟩) 1 1,.string start] 24 (0,0))
theorem flawed_true {w0:World} {v:Value} {d:DefD} {a f c:Int} (hd:DefVal w0 v d) (ht:calm d) (h:checkP d=(a,f,c)) (h0:c≠0):Ret Pg 18 #[v,.int .i64 a,.int .i64 f,.int .i64 c] w0 fun r w'=>r = .bool true∧Ext w0 w':=by
 have:=flawed_ret v d a f c hd ht
 rw [show (flawedB d&&(decide ((checkP d).1=a)&&(decide ((checkP d).2.1=f)&&decide ((checkP d).2.2=c))))=true by unfold flawedB;rw [h];simp [h0]] at this
 exact this
def padF:FieldD:={ name:=ByteArray.empty,kind:=10,bits:=0,little:=false,loose:=false,low:=0,high:=0,base:=0,terms:=[],of:=ByteArray.empty,tag:=ByteArray.empty,fr:=ByteArray.empty,cases:=[],check:=0,key:=0 }
theorem calm_two (s:ByteArray) (l:List FieldD) (hl:(allRefs l).length≤1048576∧∀ f∈l,f.terms.length≤1048576):calm (twoD s l):=by
 intro m hm
 simp only [twoD,List.mem_singleton] at hm
 subst hm
 exact hl
theorem known_end {w0 X:World} {bm1 bm2 bm3 bm4 bm5 bm6 p1 p2 p3 p4 p5 p6:Nat} (e:Ext w0 X) (v1:DefVal X (twoVal ⟨#[120]⟩ bm1) (twoD ⟨#[120]⟩ [twoF0,twoF1])) (v2:DefVal X (twoVal ⟨#[109]⟩ bm2) (twoD ⟨#[109]⟩ [twoB,twoF1])) (v3:DefVal X (twoVal ⟨#[109]⟩ bm3) (twoD ⟨#[109]⟩ [twoF0,twoC])) (v4:DefVal X (twoVal ⟨#[109]⟩ bm4) (twoD ⟨#[109]⟩ [twoF0,twoE])) (v5:DefVal X (twoVal ⟨#[109]⟩ bm5) (twoD ⟨#[109]⟩ [twoF0,twoG])) (v6:DefVal X (twoVal ⟨#[109]⟩ bm6) (twoD ⟨#[109]⟩ [twoF0,twoF1,twoF2]))
 (q1:DefAt X p1 ⟨#[120]⟩ bm1) (q2:DefAt X p2 ⟨#[109]⟩ bm2) (q3:DefAt X p3 ⟨#[109]⟩ bm3) (q4:DefAt X p4 ⟨#[109]⟩ bm4) (q5:DefAt X p5 ⟨#[109]⟩ bm5) (q6:DefAt X p6 ⟨#[109]⟩ bm6) :
 callK Pg 17 #[] (panK (retR fun r w'=>r = .bool true∧Ext w0 w')) X (fun t60 w=>callK Pg 15 #[t60] (panK (retR fun r w'=>r = .bool true∧Ext w0 w')) w (fun t61 w=>n7c15 (.pointer (some ⟨p1,0,none⟩)) (.pointer (some ⟨p2,0,none⟩)) (.pointer (some ⟨p3,0,none⟩)) (.pointer (some ⟨p4,0,none⟩)) (.pointer (some ⟨p5,0,none⟩)) (.pointer (some ⟨p6,0,none⟩)) t61 (retR fun r w'=>r = .bool true∧Ext w0 w') w)):=by
 refine callK_ret (two_ret _) ?_
 rintro _ w1 ⟨bt,bf,bm,rfl,_,_,_,_,h,e1⟩
 refine zcr (Valid_ret' _ _ (h.val ⟨rfl,rfl⟩ ⟨rfl,rfl⟩ _) (calm_two _ _ (by decide))) fun w2 e2=>?_
 have E2:=e1.trans e2
 rw [show (!flawedB (twoD ⟨#[109]⟩ [twoF0,twoF1]))=true by decide]
 unfold n7c15
 simp (disch:=try exact DI) only [↓PR,QR,Int.reduceBEq,Int.reduceBNe,Int.reduceLT,Int.reduceLE,Int.reduceGT,Int.reduceGE,Int.reduceNeg,(cells_of_heap (E2.obj q1)).1]
 refine zcr (flawed_true (v1.ext E2) (calm_two _ _ (by decide)) chk_a (by decide)) fun w3 e3=>?_
 have E3:=E2.trans e3
 simp (disch:=try exact DI) only [↓PR,QR,Int.reduceBEq,Int.reduceBNe,Int.reduceLT,Int.reduceLE,Int.reduceGT,Int.reduceGE,Int.reduceNeg]
 unfold n7c14
 simp (disch:=try exact DI) only [↓PR,QR,Int.reduceBEq,Int.reduceBNe,Int.reduceLT,Int.reduceLE,Int.reduceGT,Int.reduceGE,Int.reduceNeg,(cells_of_heap (E3.obj q2)).1]
 refine zcr (flawed_true (v2.ext E3) (calm_two _ _ (by decide)) chk_b (by decide)) fun w4 e4=>?_
 have E4:=E3.trans e4
 simp (disch:=try exact DI) only [↓PR,QR,Int.reduceBEq,Int.reduceBNe,Int.reduceLT,Int.reduceLE,Int.reduceGT,Int.reduceGE,Int.reduceNeg]
 unfold n7c13
 simp (disch:=try exact DI) only [↓PR,QR,Int.reduceBEq,Int.reduceBNe,Int.reduceLT,Int.reduceLE,Int.reduceGT,Int.reduceGE,Int.reduceNeg,(cells_of_heap (E4.obj q3)).1]
 refine zcr (flawed_true (v3.ext E4) (calm_two _ _ (by decide)) chk_c (by decide)) fun w5 e5=>?_
 have E5:=E4.trans e5
 simp (disch:=try exact DI) only [↓PR,QR,Int.reduceBEq,Int.reduceBNe,Int.reduceLT,Int.reduceLE,Int.reduceGT,Int.reduceGE,Int.reduceNeg]
 unfold n7c12
 simp (disch:=try exact DI) only [↓PR,QR,Int.reduceBEq,Int.reduceBNe,Int.reduceLT,Int.reduceLE,Int.reduceGT,Int.reduceGE,Int.reduceNeg,(cells_of_heap (E5.obj q4)).1]
 refine zcr (flawed_true (v4.ext E5) (calm_two _ _ (by decide)) chk_e (by decide)) fun w6 e6=>?_
 have E6:=E5.trans e6
 simp (disch:=try exact DI) only [↓PR,QR,Int.reduceBEq,Int.reduceBNe,Int.reduceLT,Int.reduceLE,Int.reduceGT,Int.reduceGE,Int.reduceNeg]
 unfold n7c11
 simp (disch:=try exact DI) only [↓PR,QR,Int.reduceBEq,Int.reduceBNe,Int.reduceLT,Int.reduceLE,Int.reduceGT,Int.reduceGE,Int.reduceNeg,(cells_of_heap (E6.obj q5)).1]
 refine zcr (flawed_true (v5.ext E6) (calm_two _ _ (by decide)) chk_f (by decide)) fun w7 e7=>?_
 have E7:=E6.trans e7
 simp (disch:=try exact DI) only [↓PR,QR,Int.reduceBEq,Int.reduceBNe,Int.reduceLT,Int.reduceLE,Int.reduceGT,Int.reduceGE,Int.reduceNeg]
 unfold n7c10
 simp (disch:=try exact DI) only [↓PR,QR,Int.reduceBEq,Int.reduceBNe,Int.reduceLT,Int.reduceLE,Int.reduceGT,Int.reduceGE,Int.reduceNeg,(cells_of_heap (E7.obj q6)).1]
 refine zcr (flawed_true (v6.ext E7) (calm_two _ _ (by decide)) chk_g (by decide)) fun w8 e8=>?_
 have E8:=E7.trans e8
 simp (disch:=try exact DI) only [↓PR,QR,Int.reduceBEq,Int.reduceBNe,Int.reduceLT,Int.reduceLE,Int.reduceGT,Int.reduceGE,Int.reduceNeg]
 unfold n7c9
 simp (disch:=try exact DI) only [↓PR,QR,Int.reduceBEq,Int.reduceBNe,Int.reduceLT,Int.reduceLE,Int.reduceGT,Int.reduceGE,Int.reduceNeg]
 refine callK_ret (two_ret _) ?_
 rintro _ w9 ⟨bt,bf,bm,rfl,_,_,_,_,h,e9⟩
 refine zcr (Depth_ret _ _ 0 (h.val ⟨rfl,rfl⟩ ⟨rfl,rfl⟩ _) (calm_two _ _ (by decide))) fun w10 e10=>?_
 rw [show depthP (twoD ⟨#[109]⟩ [twoF0,twoF1]) 0=(1,0) by decide]
 unfold n7c8
 simp (disch:=try exact DI) only [↓PR,QR,Int.reduceBEq,Int.reduceBNe,Int.reduceLT,Int.reduceLE,Int.reduceGT,Int.reduceGE,Int.reduceNeg]
 refine callK_ret (two_ret _) ?_
 rintro _ w11 ⟨bt,bf,bm,rfl,_,_,_,_,h,e11⟩
 refine zcr (Depth_ret _ _ 1 (h.val ⟨rfl,rfl⟩ ⟨rfl,rfl⟩ _) (calm_two _ _ (by decide))) fun w12 e12=>?_
 rw [show depthP (twoD ⟨#[109]⟩ [twoF0,twoF1]) 1=(0,3) by decide]
 unfold n7c7
 simp (disch:=try exact DI) only [↓PR,QR,Int.reduceBEq,Int.reduceBNe,Int.reduceLT,Int.reduceLE,Int.reduceGT,Int.reduceGE,Int.reduceNeg]
 refine callK_ret (two_ret _) ?_
 rintro _ w13 ⟨bt,bf,bm,rfl,_,_,_,_,h,e13⟩
 unfold n7c6
 simp (disch:=try exact DI) only [↓PR,QR,Int.reduceBEq,Int.reduceBNe,Int.reduceLT,Int.reduceLE,Int.reduceGT,Int.reduceGE,Int.reduceNeg,↓idxM,(cells_of_heap h.1).1]
 obtain ⟨mv,hmv,hM⟩:=h.val ⟨rfl,rfl⟩ ⟨rfl,rfl⟩ ⟨#[109]⟩
 have hm1:MsgVal w13 (.agg #[.string ⟨#[109]⟩,.slice (some ⟨bf,0,none⟩) 2 2]) ⟨⟨#[109]⟩,[twoF0,twoF1]⟩:=by
  obtain ⟨A,c,hA,_,_,_,hel⟩:=SliceOf.open (h.msgs ⟨rfl,rfl⟩ ⟨rfl,rfl⟩)
  injection hA with hA
  obtain ⟨b,o,cs,h1,h2,h3,fv,rfl,h5⟩:=hel 0 _ rfl
  rw [← hA] at h1
  injection h1 with h1
  injection h1 with h6 h7
  subst h6 h7
  have h8:=h3 1 _ rfl
  rw [(cells_of_heap h.1).1] at h8
  simp at h8
  subst h8
  exact ⟨_,rfl,h5⟩
 refine callK_ret (Ranges_ret _ _ _ hm1) ?_
 rintro _ w14 ⟨md,rfl,_,hmd,e14⟩
 have hnp:numPairs [twoF0,twoF1]=[(⟨#[110]⟩,rangeVal 0 255)]:=by rw [numPairs_RP];rfl
 rw [show (⟨⟨#[109]⟩,[twoF0,twoF1]⟩:MsgD).fields=[twoF0,twoF1] from rfl,hnp] at hmd
 have hE14:Ext w0 w14:=ee
 unfold n7c5
 simp (disch:=try exact DI) only [↓PR,QR,Int.reduceBEq,Int.reduceBNe,Int.reduceLT,Int.reduceLE,Int.reduceGT,Int.reduceGE,Int.reduceNeg,↓n7c1,↓n7c2,↓n7c3,↓n7c4,↓n7c5,↓n7c6,↓n7c7,↓n7c8,↓n7c9,↓n7c10,↓n7c11,↓n7c12,↓n7c13,↓n7c14,↓n7c15,↓n7c16,↓n7c17,↓n7c18,↓n7c19]
 rw [op_lenO Tryz.underlying55 hmd]
 rw [show (bld [((⟨#[110]⟩:ByteArray),rangeVal 0 255)]).1.length=1 by decide]
 simp (disch:=try exact DI) only [↓PR,QR,Int.reduceBEq,Int.reduceBNe,Int.reduceLT,Int.reduceLE,Int.reduceGT,Int.reduceGE,Int.reduceNeg,↓n7c1,↓n7c2,↓n7c3,↓n7c4,↓n7c5,↓n7c6,↓n7c7,↓n7c8,↓n7c9,↓n7c10,↓n7c11,↓n7c12,↓n7c13,↓n7c14,↓n7c15,↓n7c16,↓n7c17,↓n7c18,↓n7c19]
 rw [op_lookup1O Tryz.underlying55 Tryz.underlying9 ty58 hmd ⟨#[110]⟩]
 rw [show (lastOf [((⟨#[110]⟩:ByteArray),rangeVal 0 255)] ⟨#[110]⟩)=some (rangeVal 0 255) by rw [show [((⟨#[110]⟩:ByteArray),rangeVal 0 255)]=RP [(⟨#[110]⟩,0,255)] from rfl,lastOf_RP];rfl]
 simp (disch:=try exact DI) only [↓PR,QR,Int.reduceBEq,Int.reduceBNe,Int.reduceLT,Int.reduceLE,Int.reduceGT,Int.reduceGE,Int.reduceNeg,↓n7c1,↓n7c2,↓n7c3,↓n7c4,↓n7c5,↓n7c6,↓n7c7,↓n7c8,↓n7c9,↓n7c10,↓n7c11,↓n7c12,↓n7c13,↓n7c14,↓n7c15,↓n7c16,↓n7c17,↓n7c18,↓n7c19]
 rw [show ((((1:Nat):Int)) == 1)=true from rfl]
 simp (disch:=try exact DI) only [↓PR,QR,Int.reduceBEq,Int.reduceBNe,Int.reduceLT,Int.reduceLE,Int.reduceGT,Int.reduceGE,Int.reduceNeg]
 refine zcr (HasValue_ret _ _ padF ⟨_,_,rfl,SliceOf.nil _ _ _,SliceOf.nil _ _ _⟩) fun w15 e15=>?_
 rw [show hasValueB padF=false from rfl]
 simp (disch:=try exact DI) only [↓PR,QR,Int.reduceBEq,Int.reduceBNe,Int.reduceLT,Int.reduceLE,Int.reduceGT,Int.reduceGE,Int.reduceNeg]
 exact ⟨trivial,hE14.trans e15⟩
theorem known_mid {w0 W:World} {bt1 bf1 bm1 bt2 bf2 bm2 bt3 bf3 bm3 bt4 bf4 bm4 bt5 bf5 bm5 bt6 bf6 bm6 p1 p2 p3 p4 p5 p6:Nat} (e:Ext w0 W) (h1:TwoAt W bt1 bf1 bm1 twoF0 twoF1) (h2:TwoAt W bt2 bf2 bm2 twoB twoF1) (h3:TwoAt W bt3 bf3 bm3 twoF0 twoC) (h4:TwoAt W bt4 bf4 bm4 twoF0 twoE) (h5:TwoAt W bt5 bf5 bm5 twoF0 twoG) (h6:TwoAt W bt6 bf6 bm6 twoF0 twoF1)
 (q1:DefAt W p1 ⟨#[120]⟩ bm1) (q2:DefAt W p2 ⟨#[109]⟩ bm2) (q3:DefAt W p3 ⟨#[109]⟩ bm3) (q4:DefAt W p4 ⟨#[109]⟩ bm4) (q5:DefAt W p5 ⟨#[109]⟩ bm5) (q6:DefAt W p6 ⟨#[109]⟩ bm6)
 (l1:w0.heap.size≤bt1) (l2:bt1 < bf1) (l3:bf1 < bm1) (l4:bm1 < bt2) (l5:bt2 < bf2) (l6:bf2 < bm2) (l7:bm2 < bt3) (l8:bt3 < bf3) (l9:bf3 < bm3) (l10:bm3 < bt4) (l11:bt4 < bf4) (l12:bf4 < bm4) (l13:bm4 < bt5) (l14:bt5 < bf5) (l15:bf5 < bm5) (l16:bm5 < bt6) (l17:bt6 < bf6) (l18:bf6 < bm6) (l19:bm6 < p1) (l20:p1 < p2) (l21:p2 < p3) (l22:p3 < p4) (l23:p4 < p5) (l24:p5 < p6) (l25:p6 < W.heap.size) :
 drawK W fun C1 w=>n7c17 (.pointer (some ⟨p1,0,none⟩)) (.pointer (some ⟨p2,0,none⟩)) (.pointer (some ⟨p3,0,none⟩)) (.pointer (some ⟨p4,0,none⟩)) (.pointer (some ⟨p5,0,none⟩)) (.pointer (some ⟨p6,0,none⟩)) C1 (retR fun r w'=>r = .bool true∧Ext w0 w') w:=by
 refine drawK_introB (w1:=W) bf6 bf6 (fun _ _ _ _=>rfl) ?_
 have eD:Ext W W.drew:=(Ext.refl W).wdrew
 unfold n7c17
 simp (disch:=try exact DI) only [↓PR,QR,Int.reduceBEq,Int.reduceBNe,Int.reduceLT,Int.reduceLE,Int.reduceGT,Int.reduceGE,Int.reduceNeg,(cells_of_heap q6).1,(cells_of_heap h6.1).1,↓qidxM]
 have eB:Ext W (W.drew.alloc (Obj.cells (fieldCells twoF2 (.slice none 0 0) (.slice none 0 0)).toArray 52)):=eD.alloc _
 have o8:=heap_new W.drew (fieldCells twoF2 (.slice none 0 0) (.slice none 0 0)).toArray 52
 refine ⟨fun b hb hn _=>eB.block b hb,?_⟩
 show opV _ (Builtin.append_ #[43,43] 43 #[.slice (some ⟨bf6,0,none⟩) 2 2,.slice (some ⟨W.drew.heap.size,0,none⟩) 1 1]) _ (W.drew.alloc (Obj.cells (fieldCells twoF2 (.slice none 0 0) (.slice none 0 0)).toArray 52)) _
 have k6:=h6.go eB
 have hsW:(W.drew.alloc (Obj.cells (fieldCells twoF2 (.slice none 0 0) (.slice none 0 0)).toArray 52)).heap.size=W.heap.size+1:=by simp only [World.size_alloc,World.size_drew]
 generalize (W.drew.alloc (Obj.cells (fieldCells twoF2 (.slice none 0 0) (.slice none 0 0)).toArray 52))=W2 at eB o8 k6 hsW ⊢
 rw [World.size_drew] at o8 ⊢
 let c0:Cs 15:=⟨fieldCells twoF0 (.slice none 0 0) (.slice none 0 0),rfl⟩
 let c1:Cs 15:=⟨fieldCells twoF1 (.slice (some ⟨bt6,0,none⟩) 1 1) (.slice none 0 0),rfl⟩
 let c2:Cs 15:=⟨fieldCells twoF2 (.slice none 0 0) (.slice none 0 0),rfl⟩
 have hown:OwnE W2 bf6 52 15 Subtype.val (.slice (some ⟨bf6,0,none⟩) 2 2) [c0,c1]:=⟨rfl,.inr ⟨bf6,2,_,rfl,Nat.le_refl _,k6.2.1,Nat.le_refl _,by decide,rfl,rfl⟩⟩
 refine op_appendE (l':=[c2]) Tryz.underlying43 ty52 rfl (by decide) (fun x=>x.2) ?_ hown ?_ (by omega) (Nat.le_trans (Nat.mul_le_mul (Nat.le_refl 3) by52) (by decide)) (show 2+1≤140737488355328 by decide) ?_
 · intro x hx u hu
   simp only [List.mem_singleton] at hx
   subst hx
   simp only [c2,fieldCells,List.mem_cons,List.not_mem_nil,or_false] at hu
   rcases hu with rfl | rfl | rfl | rfl | rfl | rfl | rfl | rfl | rfl | rfl | rfl | rfl | rfl | rfl | rfl<;>rfl
 · intro j x hx
   cases j with
   | succ j=>simp at hx
   | zero =>
    simp at hx;subst hx
    intro j v hv
    rw [(cells_of_heap o8).1]
    simpa using hv
 intro v' w' hO hg
 refine ⟨fun b hb hn _=>?_,?_⟩
 · rw [hg.block b (by omega) (by intro e;injection e with e;exact hn e)];exact eB.block b hb
 have keep:∀ b,b < W.heap.size→b≠bf6→w'.heap[b]?=W.heap[b]?:=fun b hb hn=>by rw [hg.block b (by omega) (by intro e;injection e with e;exact hn e)];exact eB.block b hb
 have eC:Ext w0 w':=(e.trans eB).grown hg (fun k hk=>by simp only [Value.ownBlock,Option.some.injEq] at hk;omega)
 have g1:=h1.same (w':=w') fun b hb=>keep b (by omega) (by omega)
 have g2:=h2.same (w':=w') fun b hb=>keep b (by omega) (by omega)
 have g3:=h3.same (w':=w') fun b hb=>keep b (by omega) (by omega)
 have g4:=h4.same (w':=w') fun b hb=>keep b (by omega) (by omega)
 have g5:=h5.same (w':=w') fun b hb=>keep b (by omega) (by omega)
 have gm6:=(keep bm6 (by omega) (by omega)).trans h6.1
 have gt6:=(keep bt6 (by omega) (by omega)).trans h6.2.2
 have r1:DefAt w' p1 _ _:=(keep p1 (by omega) (by omega)).trans q1
 have r2:DefAt w' p2 _ _:=(keep p2 (by omega) (by omega)).trans q2
 have r3:DefAt w' p3 _ _:=(keep p3 (by omega) (by omega)).trans q3
 have r4:DefAt w' p4 _ _:=(keep p4 (by omega) (by omega)).trans q4
 have r5:DefAt w' p5 _ _:=(keep p5 (by omega) (by omega)).trans q5
 have r6:DefAt w' p6 _ _:=(keep p6 (by omega) (by omega)).trans q6
 clear keep h1 h2 h3 h4 h5 h6 q1 q2 q3 q4 q5 q6 hown k6 hg o8 eB eD hsW
 have hv1:=(hO.slice (E:=fun _ cs (x:Cs 15)=>cs=x.1) (fun x=>x.2) (fun _ _=>rfl)).oneCell
 unfold n7c16
 simp (disch:=try exact DI) only [↓PR,QR,Int.reduceBEq,Int.reduceBNe,Int.reduceLT,Int.reduceLE,Int.reduceGT,Int.reduceGE,Int.reduceNeg,↓qidxM,(cells_of_heap gm6).1,(cells_of_heap gm6).2]
 have m6:=heap_set (o:=1) gm6 v'
 have t6:=(Only.setCell w' bm6 1 v' bt6 (by omega)).trans gt6
 have hO2:=hO.range.only (Only.setCell w' bm6 1 v') (.inr (.inr ⟨_,⟨_,_,gm6⟩,(by decide:(45:TypeId)≠52)⟩))
 have d1:=g1.other (o:=1) (show bm6≠bt1 by omega) (by omega) (by omega) v'
 have d2:=g2.other (o:=1) (show bm6≠bt2 by omega) (by omega) (by omega) v'
 have d3:=g3.other (o:=1) (show bm6≠bt3 by omega) (by omega) (by omega) v'
 have d4:=g4.other (o:=1) (show bm6≠bt4 by omega) (by omega) (by omega) v'
 have d5:=g5.other (o:=1) (show bm6≠bt5 by omega) (by omega) (by omega) v'
 have s1:DefAt (w'.setCell ⟨bm6,1,none⟩ v') p1 _ _:=(Only.setCell w' bm6 1 v' p1 (by omega)).trans r1
 have s2:DefAt (w'.setCell ⟨bm6,1,none⟩ v') p2 _ _:=(Only.setCell w' bm6 1 v' p2 (by omega)).trans r2
 have s3:DefAt (w'.setCell ⟨bm6,1,none⟩ v') p3 _ _:=(Only.setCell w' bm6 1 v' p3 (by omega)).trans r3
 have s4:DefAt (w'.setCell ⟨bm6,1,none⟩ v') p4 _ _:=(Only.setCell w' bm6 1 v' p4 (by omega)).trans r4
 have s5:DefAt (w'.setCell ⟨bm6,1,none⟩ v') p5 _ _:=(Only.setCell w' bm6 1 v' p5 (by omega)).trans r5
 have s6:DefAt (w'.setCell ⟨bm6,1,none⟩ v') p6 _ _:=(Only.setCell w' bm6 1 v' p6 (by omega)).trans r6
 have e3:Ext w0 (w'.setCell ⟨bm6,1,none⟩ v'):=eC.setCell (show w0.heap.size≤bm6 by omega) _
 simp only [List.setIfInBounds_toArray,List.set_cons_zero,List.set_cons_succ] at m6
 generalize (w'.setCell ⟨bm6,1,none⟩ v')=X at m6 t6 hO2 d1 d2 d3 d4 d5 s1 s2 s3 s4 s5 s6 e3 ⊢
 refine turnK_intro ?_
 have hF6:FieldsOf X v' [twoF0,twoF1,twoF2]:=hO2.1.reads ⟨rfl,fun k x cs hx hcs=>by
  rcases k with _ | _ | _ | k
  · simp at hx hcs;subst hx hcs;exact ⟨_,_,rfl,SliceOf.nil _ _ _,SliceOf.nil _ _ _⟩
  · simp at hx hcs;subst hx hcs
    refine ⟨_,_,rfl,⟨_,1,rfl,by decide,by decide,fun _=>⟨bt6,0,rfl,fun k x hx=>?_⟩⟩,SliceOf.nil _ _ _⟩
    cases k with
    | succ k=>simp [twoF1] at hx
    | zero =>
     simp [twoF1] at hx;subst hx
     exact ⟨[.string ⟨#[110]⟩,.int .i64 1],rfl,fun j v hv=>by rw [(cells_of_heap t6).1];simpa using hv,rfl⟩
  · simp at hx hcs;subst hx hcs;exact ⟨_,_,rfl,SliceOf.nil _ _ _,SliceOf.nil _ _ _⟩
  · simp at hx⟩
 have V6:DefVal X (twoVal ⟨#[109]⟩ bm6) (twoD ⟨#[109]⟩ [twoF0,twoF1,twoF2]):=⟨_,rfl,_,1,rfl,by decide,by decide,fun _=>⟨bm6,0,rfl,fun k x hx=>by
  cases k with
  | succ k=>simp [twoD] at hx
  | zero =>
   simp [twoD] at hx;subst hx
   exact ⟨[.string ⟨#[109]⟩,v'],rfl,fun j v hv=>by rw [(cells_of_heap m6).1];simpa using hv,_,rfl,hF6⟩⟩⟩
 exact known_end e3 (d1.val ⟨rfl,rfl⟩ ⟨rfl,rfl⟩ _) (d2.val ⟨rfl,rfl⟩ ⟨rfl,rfl⟩ _) (d3.val ⟨rfl,rfl⟩ ⟨rfl,rfl⟩ _) (d4.val ⟨rfl,rfl⟩ ⟨rfl,rfl⟩ _) (d5.val ⟨rfl,rfl⟩ ⟨rfl,rfl⟩ _) V6 s1 s2 s3 s4 s5 s6
theorem known_ret (w0:World):Ret Pg 6 #[] w0 fun r w'=>r = .bool true∧Ext w0 w':=by
 refine n7s (R:=retR _) ?_
 refine known_head w0 _ ?_
 intro w bt1 bf1 bm1 bt2 bf2 bm2 bt3 bf3 bm3 bt4 bf4 bm4 bt5 bf5 bm5 bt6 bf6 bm6 l1 l2 l3 l4 l5 l6 l7 l8 l9 l10 l11 l12 l13 l14 l15 l16 l17 l18 l19 e0 h1 h2 h3 h4 h5 h6
 have y2:w.cell? ⟨bf2,6,none⟩=some (.int .i64 255):=by rw [(cells_of_heap h2.2.1).1];rfl
 have y3:w.cell? ⟨bf3,22,none⟩=some (.int .i64 0):=by rw [(cells_of_heap h3.2.1).1];rfl
 have y4:w.cell? ⟨bf4,15,none⟩=some (.string ⟨#[98]⟩):=by rw [(cells_of_heap h4.2.1).1];rfl
 have y5:w.cell? ⟨bf5,17,none⟩=some (.int .i64 0):=by rw [(cells_of_heap h5.2.1).1];rfl
 unfold n7c18
 simp (disch:=try exact DI) only [↓PR,QR,Int.reduceBEq,Int.reduceBNe,Int.reduceLT,Int.reduceLE,Int.reduceGT,Int.reduceGE,Int.reduceNeg,↓idxM,↓idxF0,↓idxF1,(cells_of_heap h2.1).1,y2,(cells_of_heap h2.2.1).2,(cells_of_heap h3.1).1,y3,(cells_of_heap h3.2.1).2,(cells_of_heap h4.1).1,y4,(cells_of_heap h4.2.1).2,(cells_of_heap h5.1).1,y5,(cells_of_heap h5.2.1).2]
 simp only [World.size_alloc]
 have eS:Ext w0 ((((w.setCell ⟨bf2,6,none⟩ (.int .i64 256)).setCell ⟨bf3,15+7,none⟩ (.int .i64 (-1))).setCell ⟨bf4,15,none⟩ (.string ⟨#[110]⟩)).setCell ⟨bf5,15+2,none⟩ (.int .i64 8)) :=
  (((e0.setCell (show w0.heap.size≤bf2 by omega) _).setCell (show w0.heap.size≤bf3 by omega) _).setCell (show w0.heap.size≤bf4 by omega) _).setCell (show w0.heap.size≤bf5 by omega) _
 have k1:=(((h1.other (o:=6) (show bf2≠bt1 by omega) (by omega) (by omega) (.int .i64 256)).other (o:=15+7) (show bf3≠bt1 by omega) (by omega) (by omega) (.int .i64 (-1))).other (o:=15) (show bf4≠bt1 by omega) (by omega) (by omega) (.string ⟨#[110]⟩)).other (o:=15+2) (show bf5≠bt1 by omega) (by omega) (by omega) (.int .i64 8)
 have k6:=(((h6.other (o:=6) (show bf2≠bt6 by omega) (by omega) (by omega) (.int .i64 256)).other (o:=15+7) (show bf3≠bt6 by omega) (by omega) (by omega) (.int .i64 (-1))).other (o:=15) (show bf4≠bt6 by omega) (by omega) (by omega) (.string ⟨#[110]⟩)).other (o:=15+2) (show bf5≠bt6 by omega) (by omega) (by omega) (.int .i64 8)
 have k2:=(((h2.turn (g0:=twoB) (g1:=twoF1) (o:=6) (by omega) (by omega) (.int .i64 256) rfl).other (o:=15+7) (show bf3≠bt2 by omega) (by omega) (by omega) (.int .i64 (-1))).other (o:=15) (show bf4≠bt2 by omega) (by omega) (by omega) (.string ⟨#[110]⟩)).other (o:=15+2) (show bf5≠bt2 by omega) (by omega) (by omega) (.int .i64 8)
 have k3:=(((h3.other (o:=6) (show bf2≠bt3 by omega) (by omega) (by omega) (.int .i64 256)).turn (g0:=twoF0) (g1:=twoC) (o:=15+7) (by omega) (by omega) (.int .i64 (-1)) rfl).other (o:=15) (show bf4≠bt3 by omega) (by omega) (by omega) (.string ⟨#[110]⟩)).other (o:=15+2) (show bf5≠bt3 by omega) (by omega) (by omega) (.int .i64 8)
 have k4:=(((h4.other (o:=6) (show bf2≠bt4 by omega) (by omega) (by omega) (.int .i64 256)).other (o:=15+7) (show bf3≠bt4 by omega) (by omega) (by omega) (.int .i64 (-1))).turn (g0:=twoF0) (g1:=twoE) (o:=15) (by omega) (by omega) (.string ⟨#[110]⟩) rfl).other (o:=15+2) (show bf5≠bt4 by omega) (by omega) (by omega) (.int .i64 8)
 have k5:=(((h5.other (o:=6) (show bf2≠bt5 by omega) (by omega) (by omega) (.int .i64 256)).other (o:=15+7) (show bf3≠bt5 by omega) (by omega) (by omega) (.int .i64 (-1))).other (o:=15) (show bf4≠bt5 by omega) (by omega) (by omega) (.string ⟨#[110]⟩)).turn (g0:=twoF0) (g1:=twoG) (o:=15+2) (by omega) (by omega) (.int .i64 8) rfl
 have hsz:((((w.setCell ⟨bf2,6,none⟩ (.int .i64 256)).setCell ⟨bf3,15+7,none⟩ (.int .i64 (-1))).setCell ⟨bf4,15,none⟩ (.string ⟨#[110]⟩)).setCell ⟨bf5,15+2,none⟩ (.int .i64 8)).heap.size=w.heap.size:=by simp only [World.size_setCell]
 generalize ((((w.setCell ⟨bf2,6,none⟩ (.int .i64 256)).setCell ⟨bf3,15+7,none⟩ (.int .i64 (-1))).setCell ⟨bf4,15,none⟩ (.string ⟨#[110]⟩)).setCell ⟨bf5,15+2,none⟩ (.int .i64 8))=w1 at eS k1 k2 k3 k4 k5 k6 hsz ⊢
 clear h1 h2 h3 h4 h5 h6 y2 y3 y4 y5 e0
 rw [← hsz] at l19 ⊢
 have eA:Ext w1 ((((((w1.alloc (Obj.cells #[.string ⟨#[100]⟩,.slice (some ⟨bm1,0,none⟩) 1 1,.string ⟨#[120]⟩] 24)).alloc (Obj.cells #[.string ⟨#[100]⟩,.slice (some ⟨bm2,0,none⟩) 1 1,.string ⟨#[109]⟩] 24)).alloc (Obj.cells #[.string ⟨#[100]⟩,.slice (some ⟨bm3,0,none⟩) 1 1,.string ⟨#[109]⟩] 24)).alloc (Obj.cells #[.string ⟨#[100]⟩,.slice (some ⟨bm4,0,none⟩) 1 1,.string ⟨#[109]⟩] 24)).alloc (Obj.cells #[.string ⟨#[100]⟩,.slice (some ⟨bm5,0,none⟩) 1 1,.string ⟨#[109]⟩] 24)).alloc (Obj.cells #[.string ⟨#[100]⟩,.slice (some ⟨bm6,0,none⟩) 1 1,.string ⟨#[109]⟩] 24)):=ee
 generalize hW:((((((w1.alloc (Obj.cells #[.string ⟨#[100]⟩,.slice (some ⟨bm1,0,none⟩) 1 1,.string ⟨#[120]⟩] 24)).alloc (Obj.cells #[.string ⟨#[100]⟩,.slice (some ⟨bm2,0,none⟩) 1 1,.string ⟨#[109]⟩] 24)).alloc (Obj.cells #[.string ⟨#[100]⟩,.slice (some ⟨bm3,0,none⟩) 1 1,.string ⟨#[109]⟩] 24)).alloc (Obj.cells #[.string ⟨#[100]⟩,.slice (some ⟨bm4,0,none⟩) 1 1,.string ⟨#[109]⟩] 24)).alloc (Obj.cells #[.string ⟨#[100]⟩,.slice (some ⟨bm5,0,none⟩) 1 1,.string ⟨#[109]⟩] 24)).alloc (Obj.cells #[.string ⟨#[100]⟩,.slice (some ⟨bm6,0,none⟩) 1 1,.string ⟨#[109]⟩] 24))=W at eA ⊢
 have p1:DefAt W w1.heap.size ⟨#[120]⟩ bm1:=by unfold DefAt;rw [← hW];simp (disch:=try exact DI) only [↓PR,QR,Int.reduceBEq,Int.reduceBNe,Int.reduceLT,Int.reduceLE,Int.reduceGT,Int.reduceGE,Int.reduceNeg]
 have p2:DefAt W (w1.heap.size+1) ⟨#[109]⟩ bm2:=by unfold DefAt;rw [← hW];simp (disch:=try exact DI) only [↓PR,QR,Int.reduceBEq,Int.reduceBNe,Int.reduceLT,Int.reduceLE,Int.reduceGT,Int.reduceGE,Int.reduceNeg]
 have p3:DefAt W (w1.heap.size+1+1) ⟨#[109]⟩ bm3:=by unfold DefAt;rw [← hW];simp (disch:=try exact DI) only [↓PR,QR,Int.reduceBEq,Int.reduceBNe,Int.reduceLT,Int.reduceLE,Int.reduceGT,Int.reduceGE,Int.reduceNeg]
 have p4:DefAt W (w1.heap.size+1+1+1) ⟨#[109]⟩ bm4:=by unfold DefAt;rw [← hW];simp (disch:=try exact DI) only [↓PR,QR,Int.reduceBEq,Int.reduceBNe,Int.reduceLT,Int.reduceLE,Int.reduceGT,Int.reduceGE,Int.reduceNeg]
 have p5:DefAt W (w1.heap.size+1+1+1+1) ⟨#[109]⟩ bm5:=by unfold DefAt;rw [← hW];simp (disch:=try exact DI) only [↓PR,QR,Int.reduceBEq,Int.reduceBNe,Int.reduceLT,Int.reduceLE,Int.reduceGT,Int.reduceGE,Int.reduceNeg]
 have p6:DefAt W (w1.heap.size+1+1+1+1+1) ⟨#[109]⟩ bm6:=by unfold DefAt;rw [← hW];simp (disch:=try exact DI) only [↓PR,QR,Int.reduceBEq,Int.reduceBNe,Int.reduceLT,Int.reduceLE,Int.reduceGT,Int.reduceGE,Int.reduceNeg]
 have hWs:W.heap.size=w1.heap.size+1+1+1+1+1+1:=by rw [← hW];simp only [World.size_alloc]
 clear hW
 exact known_mid (eS.trans eA) (k1.go eA) (k2.go eA) (k3.go eA) (k4.go eA) (k5.go eA) (k6.go eA) p1 p2 p3 p4 p5 p6 l1 l2 l3 l4 l5 l6 l7 l8 l9 l10 l11 l12 l13 l14 l15 l16 l17 l18 (by omega) (by omega) (by omega) (by omega) (by omega) (by omega) (by omega)
end Go.Proofs.YtiajhbbmgglmlaaGreat
namespace Go.Proofs.YtiajhbbmgglmlaaGreat
open Sw
open Go.RowKit (intOf Below)
section
variable {w0:World}
theorem Strict1_ret {cb:Nat} {deps:List (ByteArray×Int)} {strs:List (ByteArray×Bool)} (h:CkE w0 cb deps strs):Ret Pg 24 #[.pointer (some ⟨cb,0,none⟩)] w0 fun r w'=>∃ md,r = .map (some md)∧MapOf w' md (vB strs)∧Ext w0 w':=by
 obtain ⟨md,ms,dn,mv,ds,at_,fld,mn,fv,h1,h2,h3⟩:=h
 refine n47s (R:=retR _) ?_;unfold n47
 simp (disch:=try exact DI) only [↓PR,QR,Int.reduceBEq,Int.reduceBNe,Int.reduceLT,Int.reduceLE,Int.reduceGT,Int.reduceGE,Int.reduceNeg,(cells_of_heap h1).1]
 exact ⟨ms,rfl,h3,Ext.refl _⟩
def strictP (d:DefD) (i:Int):Bool×Int:=if (checkP d).2.2≠0 then (false,2) else if i < 0∨d.msgs.length≤i then (false,3) else ((lastP (strsOf d.msgs) (nameAt d i)).getD false,0)
theorem of_bool_ret (v:Value) (d:DefD) (i:Int) (hd:DefVal w0 v d) (ht:calm d):Ret Pg 23 #[v,.int .i64 i,.func (.func 24) #[] #[]] w0 fun r w'=>r = .tuple #[.bool (strictP d i).1,.int .i64 (strictP d i).2]∧Ext w0 w':=by
 obtain ⟨mv,rfl,hM⟩:=hd
 have hm1:=SliceOf.oneCell hM
 refine n85s (R:=retR _) ?_;unfold n85
 simp (disch:=try exact DI) only [↓PR,QR,Int.reduceBEq,Int.reduceBNe,Int.reduceLT,Int.reduceLE,Int.reduceGT,Int.reduceGE,Int.reduceNeg]
 refine callK_ret (examined_ret _ d ⟨mv,rfl,MsgsOf.ext hM ee⟩ ht) ?_
 rintro _ w1 ⟨e1,cb,rfl,hck⟩
 have s1:=e1.size
 simp only [World.size_alloc] at s1
 have o1:=e1.obj (heap_new w0 (defCells d mv).toArray 24)
 unfold n85c3 strictP
 by_cases hf:(checkP d).2.2≠0
 · rw [if_pos hf,decide_eq_true hf]
   simp (disch:=try exact DI) only [↓PR,QR,Int.reduceBEq,Int.reduceBNe,Int.reduceLT,Int.reduceLE,Int.reduceGT,Int.reduceGE,Int.reduceNeg]
   exact ⟨by first | trivial | rfl,ee⟩
 · have h0:(checkP d).2.2=0:=Decidable.not_not.1 hf
   rw [if_neg hf,decide_eq_false hf]
   replace hck:=hck h0
   obtain ⟨A,c,rfl,hlc,hcm,hlm,hel⟩:=SliceOf.open hM
   have eA:Ext w0 w1:=ee
   have eB:Ext w1 (w1.alloc (Obj.cells #[.int .i64 (checkP d).1,.int .i64 (checkP d).2.1,.int .i64 (checkP d).2.2] 39)):=ee
   simp (disch:=try exact DI) only [↓PR,QR,Int.reduceBEq,Int.reduceBNe,Int.reduceLT,Int.reduceLE,Int.reduceGT,Int.reduceGE,Int.reduceNeg]
   have o1':=eB.obj o1
   have hck':=hck.go eB
   have eC:=eA.trans eB
   generalize (w1.alloc (Obj.cells #[.int .i64 (checkP d).1,.int .i64 (checkP d).2.1,.int .i64 (checkP d).2.2] 39))=w2 at o1' hck' eC ⊢
   unfold n85c2
   by_cases hi:i < 0
   · rw [if_pos (.inl hi)]
     have d1:decide (i < 0)=true:=decide_eq_true hi
     simp (disch:=try exact DI) only [↓PR,QR,Int.reduceBEq,Int.reduceBNe,Int.reduceLT,Int.reduceLE,Int.reduceGT,Int.reduceGE,Int.reduceNeg,d1]
     exact ⟨by first | trivial | rfl,ee⟩
   · have d1:decide (i < 0)=false:=decide_eq_false hi
     by_cases hj:(d.msgs.length:Int)≤i
     · rw [if_pos (.inr hj)]
       have d2:decide (i≥(d.msgs.length:Int))=true:=decide_eq_true hj
       simp (disch:=try exact DI) only [↓PR,QR,Int.reduceBEq,Int.reduceBNe,Int.reduceLT,Int.reduceLE,Int.reduceGT,Int.reduceGE,Int.reduceNeg,d1,d2,(cells_of_heap o1').1]
       exact ⟨by first | trivial | rfl,ee⟩
     · rw [if_neg (by omega)]
       have d2:decide (i≥(d.msgs.length:Int))=false:=decide_eq_false hj
       simp (disch:=try exact DI) only [↓PR,QR,Int.reduceBEq,Int.reduceBNe,Int.reduceLT,Int.reduceLE,Int.reduceGT,Int.reduceGE,Int.reduceNeg,d1,d2,(cells_of_heap o1').1]
       obtain ⟨k,rfl⟩:∃ k:Nat,i=k:=⟨i.toNat,by omega⟩
       have hk:k < d.msgs.length:=by omega
       obtain ⟨m,hm⟩:=getElem?_lt hk
       obtain ⟨b,o,cs,rfl,hl,hA,fv,rfl,hF⟩:=hel k m hm
       have hnm:nameAt d k=m.name:=by unfold nameAt;rw [Int.toNat_natCast,hm]
       rw [hnm]
       refine drawK_intro ?_
       have eD:Ext w2 w2.drew:=(Ext.refl w2).wdrew
       unfold n85c1
       simp (disch:=try exact DI) only [↓PR,QR,Int.reduceBEq,Int.reduceBNe,Int.reduceLT,Int.reduceLE,Int.reduceGT,Int.reduceGE,Int.reduceNeg,(cells_of_heap o1').1,(hA.c2 eC).1]
       rw [callV_func c24]
       simp only [Array.empty_append,Array.append_empty]
       refine callK_ret (Strict1_ret (hck'.go eD)) ?_
       rintro _ w4 ⟨md,rfl,hmd,e4⟩
       refine narrowK_EC e4 ?_
       rw [qV_lookup1E Tryz.underlying63 Tryz.underlying9 ty4 hmd m.name]
       have hg:(lastOf (vB (strsOf d.msgs)) m.name).getD (.bool false) = .bool ((lastP (strsOf d.msgs) m.name).getD false):=by rw [lastOf_vB];cases lastP (strsOf d.msgs) m.name<;>rfl
       rw [hg]
       simp (disch:=try exact DI) only [↓PR,QR,Int.reduceBEq,Int.reduceBNe,Int.reduceLT,Int.reduceLE,Int.reduceGT,Int.reduceGE,Int.reduceNeg]
       exact ⟨by first | trivial | rfl,ee⟩
theorem Strict_ret (v:Value) (d:DefD) (i:Int) (hd:DefVal w0 v d) (ht:calm d):Ret Pg 8 #[v,.int .i64 i] w0 fun r w'=>r = .tuple #[.bool (strictP d i).1,.int .i64 (strictP d i).2]∧Ext w0 w':=by
 obtain ⟨mv,rfl,hM⟩:=hd
 have hm1:=SliceOf.oneCell hM
 refine n46s (R:=retR _) ?_;unfold n46
 simp (disch:=try exact DI) only [↓PR,QR,Int.reduceBEq,Int.reduceBNe,Int.reduceLT,Int.reduceLE,Int.reduceGT,Int.reduceGE,Int.reduceNeg]
 refine zcr (of_bool_ret _ d i ⟨mv,rfl,MsgsOf.ext hM ee⟩ ht) fun w1 e1=>?_
 simp (disch:=try exact DI) only [↓PR,QR,Int.reduceBEq,Int.reduceBNe,Int.reduceLT,Int.reduceLE,Int.reduceGT,Int.reduceGE,Int.reduceNeg]
 exact ⟨by first | trivial | rfl,ee⟩
end
end Go.Proofs.YtiajhbbmgglmlaaGreat
namespace Go.Sw
open Go.ChangeShapes Go.WideShapes Go.RowKit Go.ChangeAt Go.Deep
theorem list_of {α:Type} {p:Nat→α→Prop}:∀ (n:Nat),(∀ i,i < n→∃ x,p i x)→∃ l:List α,l.length=n∧∀ k x,l[k]?=some x→p k x
 | 0,_=>⟨[],rfl,fun k x h=>by simp at h⟩
 | n+1,h=>by
  obtain ⟨l,hl,hp⟩:=list_of n (fun i hi=>h i (by omega))
  obtain ⟨x,hx⟩:=h n (by omega)
  refine ⟨l++[x],by simp [hl],fun k y hy=>?_⟩
  rw [List.getElem?_append] at hy
  split at hy
  · exact hp k y hy
  · have hk:k=n:=by
     have:=(List.getElem?_eq_some_iff.1 hy).1
     simp at this
     omega
    subst hk
    simp [hl] at hy
    subst hy
    exact hx
section
variable {H:Type} {enc:TypeId×Value→H} {P:Program} {w:World} {base:Nat} {spare:Nat→Bool} {held:Bool}
theorem weightsAll_mem {e:TypeId} {m:Nat} {d:DataW H}:∀ {l:List (DataW H)},d∈l→m∈d.weights P e→m∈DataW.weightsAll P e l
 | [],h,_=>by cases h
 | a::l,h,hm=>by
  rw [DataW.weightsAll,List.mem_append]
  rcases List.mem_cons.1 h with rfl | h
  · exact .inl hm
  · exact .inr (weightsAll_mem h hm)
def Reached (P:Program) (t:TypeId) (d:DataW H):Prop:=∀ m∈d.weights P t,m≤reachBytes
theorem reached_of {ts:List TypeId} {ds:List (DataW H)} (h:(DataW.weightsEach P ts ds).all (· ≤ reachBytes)=true) {j:Nat} {t:TypeId} {d:DataW H} (ht:ts[j]?=some t) (hd:ds[j]?=some d):Reached P t d:=fun m hm=>by
 have:=List.all_eq_true.1 h _ (DataW.weights_mem_each ht hd m hm)
 simpa using this
theorem slice_of_trod {α:Type} {E:World→List Value→α→Prop} {Q:α→Prop} {t e:TypeId} {n fuel:Nat} {cs:List Value} {x:DataW H×List MemPlace} (ht:P.underlying t=some (.slice e)) (hn:P.cellsOf e=n) (hb1:1≤P.bytesOf e) (h0:0 < n)
 (hE:∀ m cs' y,DataW.trod enc P w base spare held m e cs'=some y→Reached P e y.1→∃ x,E w cs' x∧Q x) (h:DataW.trod enc P w base spare held fuel t cs=some x) (hr:Reached P t x.1):∃ v l,cs=[v]∧SliceOf w n E v l∧(∀ x∈l,Q x)∧l.length≤140737488355328:=by
 rcases open_slice ht h with ⟨rfl,_⟩ | ⟨a,len,cap,m,k,D,Pl,rfl,hb,hl,hm,hmm,hx,hel⟩
 · exact ⟨_,[],rfl,SliceOf.nil _ _ _,fun x hx=>by (cases hx),Nat.zero_le _⟩
 · have hlm:len≤m:=by rw [hmm];split<;>omega
   subst hx
   have hw0:=hr ((len+(m - len))*P.bytesOf e) (by simp only [DataW.weights,ht];simp)
   have hlen:len≤140737488355328:=by
    have:len*1≤(len+(m - len))*P.bytesOf e:=Nat.mul_le_mul (by omega) hb1
    simp only [reachBytes] at hw0
    omega
   have hD:∀ i,i < len→Reached P e (D i):=fun i hi q hq=>hr q (by
    simp only [DataW.weights,ht,List.mem_cons,List.mem_append]
    exact .inr (.inl (weightsAll_mem (List.mem_map.2 ⟨i,List.mem_range.2 hi,rfl⟩) hq)))
   obtain ⟨l,hll,hp⟩:=list_of (p:=fun i (x:α)=>∃ cs',w.cells? base (a.add (i*n)) n=some cs'∧E w cs' x∧Q x) len (fun i hi=>by
    obtain ⟨cs',h1,h2⟩:=hel i (by omega)
    rw [hn] at h1
    obtain ⟨x,hx⟩:=hE _ _ _ h2 (hD i hi)
    exact ⟨x,cs',h1,hx⟩)
   refine ⟨_,l,rfl,⟨some a,cap,by rw [hll],by rw [hll];exact hl,by simp only [maxLen] at hm;omega,fun hne=>?_⟩,fun x hx=>?_,by omega⟩
   · obtain ⟨b,o,spot⟩:=a
     have hspot:spot=none:=by
      have:0 < l.length:=List.length_pos_iff.2 hne
      obtain ⟨y,hy⟩:=getElem?_lt this
      obtain ⟨cs',h1,_⟩:=hp 0 y hy
      obtain ⟨_,h2,h3⟩:=World.cells?_some h1
      have h4:=h3 0 h0
      rw [List.getElem?_eq_getElem (by omega)] at h4
      simpa [Addr.add] using World.cell?_spot h4
     subst hspot
     refine ⟨b,o,rfl,fun k x hx=>?_⟩
     obtain ⟨cs',h1,h2,_⟩:=hp k x hx
     obtain ⟨_,h3,h4⟩:=World.cells?_some h1
     refine ⟨cs',h3,fun j v hv=>?_,h2⟩
     have h5:=h4 j (by have:=(List.getElem?_eq_some_iff.1 hv).1;omega)
     rw [hv] at h5
     simpa [Addr.add_lit] using h5
   · obtain ⟨k,hk⟩:=List.getElem?_of_mem hx
     obtain ⟨_,_,_,hq⟩:=hp k x hk
     exact hq
theorem struct_of_trod {fs:Array Field} {t:TypeId} {n fuel:Nat} {cs:List Value} {x:DataW H×List MemPlace} (ht:P.underlying t=some (.struct fs)) (hn:P.cellsOf t=n) (h:DataW.trod enc P w base spare held fuel t cs=some x) (hr:Reached P t x.1) :
 cs.length=n∧∃ m,∀ (i:Nat) (ty off k:Nat),(fs[i]?).map (fun f=>(f.type,f.offset))=some (ty,off)→P.cellsOf ty=k→∃ y,DataW.trod enc P w base spare held m ty ((cs.drop off).take k)=some y∧Reached P ty y.1:=by
 obtain ⟨xs,m,_,rfl,hl,hlen,hf⟩:=DataW.trod_struct ht h
 refine ⟨hl.trans hn,m,fun i ty off k hi hk=>?_⟩
 obtain ⟨f,hfi,he⟩:=Option.map_eq_some_iff.1 hi
 injection he with h1 h2
 subst h1 h2 hk
 have hil:i < xs.length:=by rw [hlen];exact (Array.getElem?_eq_some_iff.1 hfi).1
 refine ⟨xs[i],(hf i f hfi).trans (List.getElem?_eq_getElem hil),fun q hq=>hr q ?_⟩
 simp only [DataW.weights,ht]
 refine DataW.weights_mem_each (j:=i) (t:=f.type) (d:=xs[i].1) ?_ ?_ q hq
 · rw [List.getElem?_map,Array.getElem?_toList,hfi];rfl
 · rw [List.getElem?_map,List.getElem?_eq_getElem hil];rfl
theorem trodAll_stays (hl:laidOutB P=true) {W W':World} (he:Ext W W'):∀ {ts:List TypeId} {vs:List Value} {ds:List (DataW H)} {ps:List MemPlace},(∀ t∈ts,P.readableRec t=true∧t < P.types.size)→(∀ x∈ps,x.block < W.heap.size) →
 DataW.TrodAll enc P W 0 (fun _=>true) true ts vs ds ps→DataW.TrodAll enc P W' 0 (fun b=>decide (b < W.heap.size)) true ts vs ds ps
 | [],_,_,_,_,_,h=>by obtain ⟨rfl,rfl,rfl⟩:=trodAll_nil h;exact trodAll_mk0
 | t::ts,_,_,_,hr,hlt,h=>by
  obtain ⟨v,vs1,d,ds1,a,b,rfl,rfl,rfl,h1,h2⟩:=trodAll_cons h
  refine ⟨a,b,?_,trodAll_stays hl he (fun t ht=>hr t (List.mem_cons_of_mem _ ht)) (fun x hx=>hlt x (List.mem_append_right _ hx)) h2,rfl⟩
  exact Below.trod hl (hr t (List.mem_cons_self ..)).1 (hr t (List.mem_cons_self ..)).2 h1 ⟨he.os,he.tape,he.output,he.size,he.block⟩ (fun x hx=>hlt x (List.mem_append_left _ hx))
theorem law_post {f:Func} {s:ChangeSpec} {W W':World} {args:Array Value} {ds gs:List (DataW H)} {before:List MemPlace} {tb:TypeId} (hl:laidOutB P=true) (hr:∀ t∈f.params.toList,P.readableRec t=true∧t < P.types.size) (hs:s.vars=[])
 (hW:DataW.Whole enc P f.params.toList s.vars false W args.toList ds gs before) (he:Ext W W') (hres:f.resultTypes = #[tb]) (htb:P.underlying tb=some .bool) (hfn:(s.fn H ds).results=[.lit (.bool true)]) (hargs:(s.fn H ds).args=ds) (hvars:(s.fn H ds).vars=[]) :
 s.post enc P f false true false false W args (.bool true) W':=by
 have hW':=hW
 obtain ⟨p,q,hA,hV,rfl,_,_⟩:=hW
 rw [hs] at hV
 obtain ⟨rfl,rfl⟩:=trodVars_none hV
 have hlt:∀ x∈p,x.block < W.heap.size:=fun x hx=>hW'.lt x (by simpa using hx)
 rw [List.append_nil] at hW'
 refine ⟨ds,[],p,[],p,[],hW',?_,?_,?_,Below.frame ⟨he.os,he.tape,he.output,he.size,he.block⟩ _,fun h=>by cases h⟩
 · rw [List.append_nil,hfn,hres]
   exact trodAll_mk1 (shut_bool htb _)
 · rw [List.append_nil,hargs]
   exact trodAll_stays hl he hr hlt hA
 · rw [List.append_nil,hvars,hs]
   exact rfl
end
end Go.Sw
namespace Go.Proofs.YtiajhbbmgglmlaaGreat
open Sw
open Go.ChangeShapes Go.WideShapes Go.RowKit Go.ChangeAt Go.Deep
theorem cellsTerm:Pg.cellsOf 78=2:=by kernel_rfl
theorem cellsCase:Pg.cellsOf 81=3:=by kernel_rfl
theorem cellsSize:Pg.cellsOf 49=2:=by kernel_rfl
theorem cellsField:Pg.cellsOf 52=15:=by kernel_rfl
theorem cellsMessage:Pg.cellsOf 45=2:=by kernel_rfl
theorem cellsDefinition:Pg.cellsOf 24=3:=by kernel_rfl
theorem cellsString:Pg.cellsOf 9=1:=by kernel_rfl
theorem cellsInt:Pg.cellsOf 3=1:=by kernel_rfl
theorem cellsBool:Pg.cellsOf 4=1:=by kernel_rfl
theorem cellsKind:Pg.cellsOf 46=1:=by kernel_rfl
theorem cellsTerms:Pg.cellsOf 47=1:=by kernel_rfl
theorem cellsCases:Pg.cellsOf 50=1:=by kernel_rfl
theorem cellsFields:Pg.cellsOf 43=1:=by kernel_rfl
theorem bytesTerm:1≤Pg.bytesOf 78:=Nat.le_of_ble_eq_true (by kernel_rfl)
theorem bytesCase:1≤Pg.bytesOf 81:=Nat.le_of_ble_eq_true (by kernel_rfl)
theorem bytesField:1≤Pg.bytesOf 52:=Nat.le_of_ble_eq_true (by kernel_rfl)
theorem bytesMessage:1≤Pg.bytesOf 45:=Nat.le_of_ble_eq_true (by kernel_rfl)
def FieldSm (f:FieldD):Prop:=f.terms.length≤140737488355328∧f.cases.length≤140737488355328∧∀ c∈f.cases,c.of.size≤140737488355328
def MsgSm (m:MsgD):Prop:=m.fields.length≤140737488355328∧∀ f∈m.fields,FieldSm f
def DefSm (d:DefD):Prop:=d.msgs.length≤140737488355328∧∀ m∈d.msgs,MsgSm m
theorem cellsMessages:Pg.cellsOf 22=1:=by kernel_rfl
section
variable {H:Type} {enc:TypeId×Value→H} {w:World} {base:Nat} {spare:Nat→Bool} {held:Bool}
theorem term_of {m:Nat} {cs:List Value} {y:DataW H×List MemPlace} (h:DataW.trod enc Pg w base spare held m 78 cs=some y) (hr:Reached Pg 78 y.1):∃ x,ETerm w cs x:=by
 obtain ⟨hl,n,hf⟩:=struct_of_trod Tryz.underlying78 cellsTerm h hr
 obtain ⟨y0,h0,r0⟩:=hf 0 9 0 1 rfl cellsString
 obtain ⟨y1,h1,r1⟩:=hf 1 3 1 1 rfl cellsInt
 match cs,hl with
 | [c0,c1],_ =>
  obtain ⟨s,e0,_⟩:=DataW.trod_string Tryz.underlying9 h0
  obtain ⟨k,e1,_⟩:=DataW.trod_int Tryz.underlying3 h1
  simp at e0 e1
  subst e0 e1
  exact ⟨⟨s,k⟩,rfl⟩
theorem case_of {m:Nat} {cs:List Value} {y:DataW H×List MemPlace} (h:DataW.trod enc Pg w base spare held m 81 cs=some y) (hr:Reached Pg 81 y.1):∃ x,ECase w cs x∧x.of.size≤140737488355328:=by
 obtain ⟨hl,n,hf⟩:=struct_of_trod Tryz.underlying81 cellsCase h hr
 obtain ⟨y0,h0,r0⟩:=hf 0 3 0 1 rfl cellsInt
 obtain ⟨y1,h1,r1⟩:=hf 1 3 1 1 rfl cellsInt
 obtain ⟨y2,h2,r2⟩:=hf 2 9 2 1 rfl cellsString
 match cs,hl with
 | [c0,c1,c2],_ =>
  obtain ⟨a,e0,_⟩:=DataW.trod_int Tryz.underlying3 h0
  obtain ⟨b,e1,_⟩:=DataW.trod_int Tryz.underlying3 h1
  obtain ⟨s,e2,e3,_⟩:=DataW.trod_string Tryz.underlying9 h2
  simp at e0 e1 e2
  subst e0 e1 e2
  refine ⟨⟨a,b,s⟩,rfl,?_⟩
  have:=r2 s.data.toList.length (by rw [e3];exact List.mem_singleton.2 rfl)
  simp only [reachBytes] at this
  have h4:s.size=s.data.toList.length:=Array.length_toList.symm
  show s.size≤_
  omega
theorem size_of {m:Nat} {cs:List Value} {y:DataW H×List MemPlace} (h:DataW.trod enc Pg w base spare held m 49 cs=some y) (hr:Reached Pg 49 y.1):∃ b tv ts,cs=[.int .i64 b,tv]∧TermsOf w tv ts∧ts.length≤140737488355328:=by
 obtain ⟨hl,n,hf⟩:=struct_of_trod Tryz.underlying49 cellsSize h hr
 obtain ⟨y0,h0,r0⟩:=hf 0 3 0 1 rfl cellsInt
 obtain ⟨y1,h1,r1⟩:=hf 1 47 1 1 rfl cellsTerms
 match cs,hl with
 | [c0,c1],_ =>
  obtain ⟨a,e0,_⟩:=DataW.trod_int Tryz.underlying3 h0
  obtain ⟨v,l,e1,hS,_,hL⟩:=slice_of_trod (E:=ETerm) (Q:=fun _=>True) Tryz.underlying47 cellsTerm bytesTerm (by decide) (fun _ _ _ h hr=>let ⟨x,hx⟩:=term_of h hr; ⟨x,hx,trivial⟩) h1 r1
  simp at e0 e1
  subst e0 e1
  exact ⟨a,_,l,rfl,hS,hL⟩
theorem field_of {m:Nat} {cs:List Value} {y:DataW H×List MemPlace} (h:DataW.trod enc Pg w base spare held m 52 cs=some y) (hr:Reached Pg 52 y.1):∃ x,EField w cs x∧FieldSm x:=by
 obtain ⟨hl,n,hf⟩:=struct_of_trod Tryz.underlying52 cellsField h hr
 obtain ⟨y0,h0,r0⟩:=hf 0 9 0 1 rfl cellsString
 obtain ⟨y1,h1,r1⟩:=hf 1 46 1 1 rfl cellsKind
 obtain ⟨y2,h2,r2⟩:=hf 2 3 2 1 rfl cellsInt
 obtain ⟨y3,h3,r3⟩:=hf 3 4 3 1 rfl cellsBool
 obtain ⟨y4,h4,r4⟩:=hf 4 4 4 1 rfl cellsBool
 obtain ⟨y5,h5,r5⟩:=hf 5 3 5 1 rfl cellsInt
 obtain ⟨y6,h6,r6⟩:=hf 6 3 6 1 rfl cellsInt
 obtain ⟨y7,h7,r7⟩:=hf 7 49 7 2 rfl cellsSize
 obtain ⟨y8,h8,r8⟩:=hf 8 9 9 1 rfl cellsString
 obtain ⟨y9,h9,r9⟩:=hf 9 9 10 1 rfl cellsString
 obtain ⟨y10,h10,r10⟩:=hf 10 9 11 1 rfl cellsString
 obtain ⟨y11,h11,r11⟩:=hf 11 50 12 1 rfl cellsCases
 obtain ⟨y12,h12,r12⟩:=hf 12 3 13 1 rfl cellsInt
 obtain ⟨y13,h13,r13⟩:=hf 13 3 14 1 rfl cellsInt
 match cs,hl with
 | [c0,c1,c2,c3,c4,c5,c6,c7,c8,c9,c10,c11,c12,c13,c14],_ =>
  obtain ⟨x0,e0,_⟩:=DataW.trod_string Tryz.underlying9 h0
  obtain ⟨x1,e1,_⟩:=DataW.trod_int Tryz.underlying46 h1
  obtain ⟨x2,e2,_⟩:=DataW.trod_int Tryz.underlying3 h2
  obtain ⟨x3,e3,_⟩:=DataW.trod_bool Tryz.underlying4 h3
  obtain ⟨x4,e4,_⟩:=DataW.trod_bool Tryz.underlying4 h4
  obtain ⟨x5,e5,_⟩:=DataW.trod_int Tryz.underlying3 h5
  obtain ⟨x6,e6,_⟩:=DataW.trod_int Tryz.underlying3 h6
  obtain ⟨x7,tv,ts,e7,hT,hTl⟩:=size_of h7 r7
  obtain ⟨x9,e9,_⟩:=DataW.trod_string Tryz.underlying9 h8
  obtain ⟨x10,e10,_⟩:=DataW.trod_string Tryz.underlying9 h9
  obtain ⟨x11,e11,_⟩:=DataW.trod_string Tryz.underlying9 h10
  obtain ⟨cv,l,e12,hC,hCq,hCl⟩:=slice_of_trod (E:=ECase) (Q:=fun c=>c.of.size≤140737488355328) Tryz.underlying50 cellsCase bytesCase (by decide) (fun _ _ _ h hr=>case_of h hr) h11 r11
  obtain ⟨x13,e13,_⟩:=DataW.trod_int Tryz.underlying3 h12
  obtain ⟨x14,e14,_⟩:=DataW.trod_int Tryz.underlying3 h13
  simp at e0 e1 e2 e3 e4 e5 e6 e7 e9 e10 e11 e12 e13 e14
  obtain ⟨e7,e8⟩:=e7
  subst e0 e1 e2 e3 e4 e5 e6 e7 e8 e9 e10 e11 e12 e13 e14
  exact ⟨⟨x0,x1,x2,x3,x4,x5,x6,x7,ts,x9,x10,x11,l,x13,x14⟩,⟨_,_,rfl,hT,hC⟩,hTl,hCl,hCq⟩
theorem msg_of {m:Nat} {cs:List Value} {y:DataW H×List MemPlace} (h:DataW.trod enc Pg w base spare held m 45 cs=some y) (hr:Reached Pg 45 y.1):∃ x,EMsg w cs x∧MsgSm x:=by
 obtain ⟨hl,n,hf⟩:=struct_of_trod Tryz.underlying45 cellsMessage h hr
 obtain ⟨y0,h0,r0⟩:=hf 0 9 0 1 rfl cellsString
 obtain ⟨y1,h1,r1⟩:=hf 1 43 1 1 rfl cellsFields
 match cs,hl with
 | [c0,c1],_ =>
  obtain ⟨a,e0,_⟩:=DataW.trod_string Tryz.underlying9 h0
  obtain ⟨v,l,e1,hS,hQ,hL⟩:=slice_of_trod (E:=EField) (Q:=FieldSm) Tryz.underlying43 cellsField bytesField (by decide) (fun _ _ _ h hr=>field_of h hr) h1 r1
  simp at e0 e1
  subst e0 e1
  exact ⟨⟨a,l⟩,⟨_,rfl,hS⟩,hL,hQ⟩
theorem def_of {m:Nat} {cs:List Value} {y:DataW H×List MemPlace} (h:DataW.trod enc Pg w base spare held m 24 cs=some y) (hr:Reached Pg 24 y.1):∃ d mv,cs=defCells d mv∧MsgsOf w mv d.msgs∧DefSm d:=by
 obtain ⟨hl,n,hf⟩:=struct_of_trod Tryz.underlying24 cellsDefinition h hr
 obtain ⟨y0,h0,r0⟩:=hf 0 9 0 1 rfl cellsString
 obtain ⟨y1,h1,r1⟩:=hf 1 22 1 1 rfl cellsMessages
 obtain ⟨y2,h2,r2⟩:=hf 2 9 2 1 rfl cellsString
 match cs,hl with
 | [c0,c1,c2],_ =>
  obtain ⟨a,e0,_⟩:=DataW.trod_string Tryz.underlying9 h0
  obtain ⟨v,l,e1,hS,hQ,hL⟩:=slice_of_trod (E:=EMsg) (Q:=MsgSm) Tryz.underlying22 cellsMessage bytesMessage (by decide) (fun _ _ _ h hr=>msg_of h hr) h1 r1
  obtain ⟨b,e2,_⟩:=DataW.trod_string Tryz.underlying9 h2
  simp at e0 e1 e2
  subst e0 e1 e2
  exact ⟨⟨a,l,b⟩,_,rfl,hS,hL,hQ⟩
theorem def_val {r:Reach} {b0:Nat} {v:Value} {d:DataW H} {ps:List MemPlace} (hval:Value.okWide Pg w r b0 24 v) (h:DataW.Trod enc Pg w base spare held 24 v d ps) (hr:Reached Pg 24 d):∃ f,DefVal w v f∧DefSm f:=by
 obtain ⟨cs,rfl,_⟩:=okWide_struct Tryz.underlying24 hval
 obtain ⟨fuel,hf⟩:=h
 obtain ⟨f,tv,h1,h2,hs⟩:=def_of hf hr
 exact ⟨f,⟨tv,congrArg Value.agg (by rw [← h1,cells_agg]),h2⟩,hs⟩
end
end Go.Proofs.YtiajhbbmgglmlaaGreat
namespace Go.Proofs.YtiajhbbmgglmlaaGreat
open Sw
def n4c1 (t43 t46:Value) (R:RT) (w:World):Prop :=
 pickK t43 t46 (.bool false) fun t47 =>
 joinK (fun (t49:Value) (w:World) =>
 pickK t47 t49 (.bool false) fun t50 =>
 R (.returned t50) w) fun K5 =>
 guardP t47 true (
 C0 6 #[] R w fun t49 w =>
 K5 t49 w) (
 K5 undef w)
def n4c2 (t30 t39 t42:Value) (R:RT) (w:World):Prop :=
 pickK t39 t42 (.bool false) fun t43 =>
 joinK (fun (t46:Value) (w:World) =>
 n4c1 t43 t46 R w) fun K4 =>
 guardP t43 true (
 B0 .eql 27 true t30 (.int .i64 2) R w fun t46 w =>
 K4 t46 w) (
 K4 undef w)
def n4c3 (t24 t30 t35 t38:Value) (R:RT) (w:World):Prop :=
 pickK t35 t38 (.bool false) fun t39 =>
 joinK (fun (t42:Value) (w:World) =>
 n4c2 t30 t39 t42 R w) fun K3 =>
 guardP t39 true (
 B0 .eql 27 true t24 (.int .i64 2) R w fun t42 w =>
 K3 t42 w) (
 K3 undef w)
def n4c4 (t69 t72:Value) (R:RT) (w:World):Prop :=
 pickK t69 t72 (.bool false) fun t73 =>
 joinK (fun (t75:Value) (w:World) =>
 pickK t73 t75 (.bool false) fun t76 =>
 R (.returned t76) w) fun K10 =>
 guardP t73 true (
 C0 6 #[] R w fun t75 w =>
 K10 t75 w) (
 K10 undef w)
def n4c5 (t30 t65 t68:Value) (R:RT) (w:World):Prop :=
 pickK t65 t68 (.bool false) fun t69 =>
 joinK (fun (t72:Value) (w:World) =>
 n4c4 t69 t72 R w) fun K9 =>
 guardP t69 true (
 B0 .eql 27 true t30 (.int .i64 3) R w fun t72 w =>
 K9 t72 w) (
 K9 undef w)
def n4c6 (t24 t30 t61 t64:Value) (R:RT) (w:World):Prop :=
 pickK t61 t64 (.bool false) fun t65 =>
 joinK (fun (t68:Value) (w:World) =>
 n4c5 t30 t65 t68 R w) fun K8 =>
 guardP t65 true (
 B0 .eql 27 true t24 (.int .i64 3) R w fun t68 w =>
 K8 t68 w) (
 K8 undef w)
def n4c7 (t97 t100:Value) (R:RT) (w:World):Prop :=
 pickK t97 t100 (.bool false) fun t101 =>
 joinK (fun (t103:Value) (w:World) =>
 pickK t101 t103 (.bool false) fun t104 =>
 R (.returned t104) w) fun K14 =>
 guardP t101 true (
 C0 6 #[] R w fun t103 w =>
 K14 t103 w) (
 K14 undef w)
def n4c8 (t30 t93 t96:Value) (R:RT) (w:World):Prop :=
 pickK t93 t96 (.bool false) fun t97 =>
 joinK (fun (t100:Value) (w:World) =>
 n4c7 t97 t100 R w) fun K13 =>
 guardP t97 true (
 B0 .eql 27 true t30 (.int .i64 0) R w fun t100 w =>
 K13 t100 w) (
 K13 undef w)
def n4c9 (t24 t30 t81 t92:Value) (R:RT) (w:World):Prop :=
 pickK t81 t92 (.bool false) fun t93 =>
 joinK (fun (t96:Value) (w:World) =>
 n4c8 t30 t93 t96 R w) fun K12 =>
 guardP t93 true (
 B0 .eql 27 true t24 (.int .i64 0) R w fun t96 w =>
 K12 t96 w) (
 K12 undef w)
def n4c10 (t1 t29 t88:Value) (K11:KV) (R:RT) (w:World):Prop :=
 X0 33 t88 t1 R w fun t90 w =>
 L0 4 t90 R w fun t91 w =>
 B0 .eql 4 false t29 t91 R w fun t92 w =>
 K11 t92 w
def n4c11 (t1 t2 t23 t24 t29 t30 t80:Value) (R:RT) (w:World):Prop :=
 B0 .eql 3 false t23 t80 R w fun t81 w =>
 joinK (fun (t92:Value) (w:World) =>
 n4c9 t24 t30 t81 t92 R w) fun K11 =>
 guardP t81 true (
 L0 24 t2 R w fun t84 w =>
 F0 24 t2 1 R w fun t85 w =>
 L0 22 t85 R w fun t86 w =>
 opV Pg (Builtin.len_ #[22] 3 #[t86]) (panK R) w fun t87 w =>
 C0 11 #[t84,t87] R w fun t88 w =>
 n4c10 t1 t29 t88 K11 R w) (
 K11 undef w)
def n4c12 (t23 t24 t29 t30:Value) (R:RT) (w:World):Prop :=
 B0 .eql 3 true t23 (.int .i64 0) R w fun t61 w =>
 joinK (fun (t64:Value) (w:World) =>
 n4c6 t24 t30 t61 t64 R w) fun K7 =>
 guardP t61 true (
 opV Pg (Op.unary .not t29) (panK R) w fun t64 w =>
 K7 t64 w) (
 K7 undef w)
def n4c13 (t1 t2 t23 t24 t29 t30 t52 t58:Value) (R:RT) (w:World):Prop :=
 pickK t52 (.bool true) t58 fun t59 =>
 condP t59 (
 n4c12 t23 t24 t29 t30 R w) (
 L0 24 t2 R w fun t78 w =>
 C0 10 #[t78,t1] R w fun t80 w =>
 n4c11 t1 t2 t23 t24 t29 t30 t80 R w)
def n4c14 (t23 t24 t29 t30:Value) (R:RT) (w:World):Prop :=
 B0 .eql 3 true t23 (.int .i64 0) R w fun t35 w =>
 joinK (fun (t38:Value) (w:World) =>
 n4c3 t24 t30 t35 t38 R w) fun K2 =>
 guardP t35 true (
 opV Pg (Op.unary .not t29) (panK R) w fun t38 w =>
 K2 t38 w) (
 K2 undef w)
def n4c15 (t1 t2 t23 t24 t29 t30:Value) (R:RT) (w:World):Prop :=
 B0 .lss 3 true t1 (.int .i64 0) R w fun t52 w =>
 joinK (fun (t58:Value) (w:World) =>
 n4c13 t1 t2 t23 t24 t29 t30 t52 t58 R w) fun K6 =>
 guardP t52 false (
 F0 24 t2 1 R w fun t55 w =>
 L0 22 t55 R w fun t56 w =>
 opV Pg (Builtin.len_ #[22] 3 #[t56]) (panK R) w fun t57 w =>
 B0 .geq 3 false t1 t57 R w fun t58 w =>
 K6 t58 w) (
 K6 undef w)
def n4c16 (t1 t2 t23 t24 t28:Value) (R:RT) (w:World):Prop :=
 opV Pg (Instr.extract t28 0) (panK R) w fun t29 w =>
 opV Pg (Instr.extract t28 1) (panK R) w fun t30 w =>
 L0 24 t2 R w fun t31 w =>
 C0 9 #[t31] R w fun t32 w =>
 opV Pg (Op.unary .not t32) (panK R) w fun t33 w =>
 condP t33 (
 n4c14 t23 t24 t29 t30 R w) (
 n4c15 t1 t2 t23 t24 t29 t30 R w)
def n4c17 (t1 t2 t22:Value) (R:RT) (w:World):Prop :=
 opV Pg (Instr.extract t22 0) (panK R) w fun t23 w =>
 opV Pg (Instr.extract t22 1) (panK R) w fun t24 w =>
 L0 24 t2 R w fun t26 w =>
 C0 8 #[t26,t1] R w fun t28 w =>
 n4c16 t1 t2 t23 t24 t28 R w
def n4c18 (t1 t2 t11 t16:Value) (R:RT) (w:World):Prop :=
 pickK t11 (.bool true) t16 fun t17 =>
 condP t17 (
 C0 6 #[] R w fun t18 w =>
 R (.returned t18) w) (
 L0 24 t2 R w fun t20 w =>
 C0 7 #[t20,t1] R w fun t22 w =>
 n4c17 t1 t2 t22 R w)
def n4c19 (t1 t2 t10:Value) (R:RT) (w:World):Prop :=
 opV Pg (Op.unary .not t10) (panK R) w fun t11 w =>
 joinK (fun (t16:Value) (w:World) =>
 n4c18 t1 t2 t11 t16 R w) fun K1 =>
 guardP t11 false (
 F0 24 t2 1 R w fun t13 w =>
 L0 22 t13 R w fun t14 w =>
 opV Pg (Builtin.len_ #[22] 3 #[t14]) (panK R) w fun t15 w =>
 B0 .gtr 3 true t15 (.int .i64 12) R w fun t16 w =>
 K1 t16 w) (
 K1 undef w)
def n4 (t0 t1:Value) (R:RT) (w:World):Prop :=
 opV Pg (Instr.box 24 t0) (panK R) w fun t2 w =>
 L0 24 t2 R w fun t9 w =>
 C0 5 #[t9] R w fun t10 w =>
 n4c19 t1 t2 t10 R w
theorem n4s {t0 t1:Value} {R:RT} {w:World} (h:n4 t0 t1 R w):Calls Pg 3 #[t0,t1] w R:=by
 refine calls_of_den (args:=[t0,t1]) Tryz.func3 rfl (Nat.le_of_ble_eq_true rfl) ?_
 unfold n4 at h
 refine zs<|zr ?_
 refine zv h fun t2 w h=>?_
 refine zm<|zn<|zk<|zs<|zs<|sim_regionG ?_
 refine sim_seg 4 rfl ?_
 refine zv h fun t9 w h=>?_
 refine zc h c5 fun t10 w h=>?_
 refine zv h fun t11 w h=>?_
 refine zm<|zn ?_
 refine joinK_elim h (fun K1 hK h=>?_)
 refine sim_groupJ 4 3 false [13,14,15,16] (fun ρ w=>K1 (ρ 16) w) rfl rfl (fun T hT=>guardP_mono h (fun h=>?_) (fun h=>?_)) (fun σ w h=>?_)
 · refine zv h fun t13 w h=>?_
   refine zv h fun t14 w h=>?_
   refine zx h fun t15 w h=>?_
   refine zb h fun t16 w h=>?_
   refine zn ?_
   exact zt hT h
 · exact zt hT h
 subst hK
 refine sim_seg 1 rfl ?_
 refine sim_pick h rfl rfl rfl ?_;intro t17 h
 refine zn<|sim_end<|zk ?_
 refine sim_cond h rfl (fun h=>?_) (fun h=>?_)
 · refine zs<|zr ?_
   refine zc h c6 fun t18 w h=>?_
   refine zm<|zn<|zk<|sim_ret<|sim_then_ret ?_
   exact body_ret1 rfl rfl h
 · refine sim_skip<|zk<|zs<|zr ?_
   refine zv h fun t20 w h=>?_
   refine zm ?_
   refine zc h c7 fun t22 w h=>?_
   refine zm ?_
   refine zv h fun t23 w h=>?_
   refine zv h fun t24 w h=>?_
   refine zm<|zm<|zn<|zk<|zs<|zr ?_
   refine zv h fun t26 w h=>?_
   refine zm ?_
   refine zc h c8 fun t28 w h=>?_
   refine zm ?_
   refine zv h fun t29 w h=>?_
   refine zv h fun t30 w h=>?_
   refine zm<|zm<|zn<|zk<|zs<|zs<|zr ?_
   refine zv h fun t31 w h=>?_
   refine zc h c9 fun t32 w h=>?_
   refine zv h fun t33 w h=>?_
   refine zn<|zk ?_
   refine sim_cond h rfl (fun h=>?_) (fun h=>?_)
   · refine zs<|sim_regionG ?_
     refine sim_seg 3 rfl ?_
     refine zm ?_
     refine zb h fun t35 w h=>?_
     refine zm<|zn ?_
     refine joinK_elim h (fun K2 hK h=>?_)
     refine sim_groupJ 2 2 true [37,38] (fun ρ w=>K2 (ρ 38) w) rfl rfl (fun T hT=>guardP_mono h (fun h=>?_) (fun h=>?_)) (fun σ w h=>?_)
     · refine zm ?_
       refine zv h fun t38 w h=>?_
       refine zn ?_
       exact zt hT h
     · exact zt hT h
     subst hK
     refine sim_seg 2 rfl ?_
     refine sim_pick h rfl rfl rfl ?_;intro t39 h
     refine zm<|zn ?_
     refine joinK_elim h (fun K3 hK h=>?_)
     refine sim_groupJ 2 6 true [41,42] (fun ρ w=>K3 (ρ 42) w) rfl rfl (fun T hT=>guardP_mono h (fun h=>?_) (fun h=>?_)) (fun σ w h=>?_)
     · refine zm ?_
       refine zb h fun t42 w h=>?_
       refine zn ?_
       exact zt hT h
     · exact zt hT h
     subst hK
     refine sim_seg 2 rfl ?_
     refine sim_pick h rfl rfl rfl ?_;intro t43 h
     refine zm<|zn ?_
     refine joinK_elim h (fun K4 hK h=>?_)
     refine sim_groupJ 2 10 true [45,46] (fun ρ w=>K4 (ρ 46) w) rfl rfl (fun T hT=>guardP_mono h (fun h=>?_) (fun h=>?_)) (fun σ w h=>?_)
     · refine zm ?_
       refine zb h fun t46 w h=>?_
       refine zn ?_
       exact zt hT h
     · exact zt hT h
     subst hK
     refine sim_seg 2 rfl ?_
     refine sim_pick h rfl rfl rfl ?_;intro t47 h
     refine zm<|zn ?_
     refine joinK_elim h (fun K5 hK h=>?_)
     refine sim_groupJ 1 14 true [49] (fun ρ w=>K5 (ρ 49) w) rfl rfl (fun T hT=>guardP_mono h (fun h=>?_) (fun h=>?_)) (fun σ w h=>?_)
     · refine zc h c6 fun t49 w h=>?_
       refine zn ?_
       exact zt hT h
     · exact zt hT h
     subst hK
     refine sim_seg 2 rfl ?_
     refine sim_pick h rfl rfl rfl ?_;intro t50 h
     refine zm<|zn<|sim_end<|zk<|sim_ret<|sim_then_ret ?_
     exact body_ret1 rfl rfl h
   · refine sim_skip<|zk<|zs<|zs<|sim_regionG ?_
     refine sim_seg 3 rfl ?_
     refine zm ?_
     refine zb h fun t52 w h=>?_
     refine zm<|zn ?_
     refine joinK_elim h (fun K6 hK h=>?_)
     refine sim_groupJ 5 2 false [54,55,56,57,58] (fun ρ w=>K6 (ρ 58) w) rfl rfl (fun T hT=>guardP_mono h (fun h=>?_) (fun h=>?_)) (fun σ w h=>?_)
     · refine zm ?_
       refine zv h fun t55 w h=>?_
       refine zv h fun t56 w h=>?_
       refine zx h fun t57 w h=>?_
       refine zb h fun t58 w h=>?_
       refine zn ?_
       exact zt hT h
     · exact zt hT h
     subst hK
     refine sim_seg 1 rfl ?_
     refine sim_pick h rfl rfl rfl ?_;intro t59 h
     refine zn<|sim_end<|zk ?_
     refine sim_cond h rfl (fun h=>?_) (fun h=>?_)
     · refine zs<|sim_regionG ?_
       refine sim_seg 3 rfl ?_
       refine zm ?_
       refine zb h fun t61 w h=>?_
       refine zm<|zn ?_
       refine joinK_elim h (fun K7 hK h=>?_)
       refine sim_groupJ 2 2 true [63,64] (fun ρ w=>K7 (ρ 64) w) rfl rfl (fun T hT=>guardP_mono h (fun h=>?_) (fun h=>?_)) (fun σ w h=>?_)
       · refine zm ?_
         refine zv h fun t64 w h=>?_
         refine zn ?_
         exact zt hT h
       · exact zt hT h
       subst hK
       refine sim_seg 2 rfl ?_
       refine sim_pick h rfl rfl rfl ?_;intro t65 h
       refine zm<|zn ?_
       refine joinK_elim h (fun K8 hK h=>?_)
       refine sim_groupJ 2 6 true [67,68] (fun ρ w=>K8 (ρ 68) w) rfl rfl (fun T hT=>guardP_mono h (fun h=>?_) (fun h=>?_)) (fun σ w h=>?_)
       · refine zm ?_
         refine zb h fun t68 w h=>?_
         refine zn ?_
         exact zt hT h
       · exact zt hT h
       subst hK
       refine sim_seg 2 rfl ?_
       refine sim_pick h rfl rfl rfl ?_;intro t69 h
       refine zm<|zn ?_
       refine joinK_elim h (fun K9 hK h=>?_)
       refine sim_groupJ 2 10 true [71,72] (fun ρ w=>K9 (ρ 72) w) rfl rfl (fun T hT=>guardP_mono h (fun h=>?_) (fun h=>?_)) (fun σ w h=>?_)
       · refine zm ?_
         refine zb h fun t72 w h=>?_
         refine zn ?_
         exact zt hT h
       · exact zt hT h
       subst hK
       refine sim_seg 2 rfl ?_
       refine sim_pick h rfl rfl rfl ?_;intro t73 h
       refine zm<|zn ?_
       refine joinK_elim h (fun K10 hK h=>?_)
       refine sim_groupJ 1 14 true [75] (fun ρ w=>K10 (ρ 75) w) rfl rfl (fun T hT=>guardP_mono h (fun h=>?_) (fun h=>?_)) (fun σ w h=>?_)
       · refine zc h c6 fun t75 w h=>?_
         refine zn ?_
         exact zt hT h
       · exact zt hT h
       subst hK
       refine sim_seg 2 rfl ?_
       refine sim_pick h rfl rfl rfl ?_;intro t76 h
       refine zm<|zn<|sim_end<|zk<|sim_ret<|sim_then_ret ?_
       exact body_ret1 rfl rfl h
     · refine sim_skip<|zk<|zs<|sim_regionG ?_
       refine sim_seg 6 rfl ?_
       refine zm ?_
       refine zv h fun t78 w h=>?_
       refine zm ?_
       refine zc h c10 fun t80 w h=>?_
       refine zb h fun t81 w h=>?_
       refine zm<|zn ?_
       refine joinK_elim h (fun K11 hK h=>?_)
       refine sim_groupJ 10 5 true [83,84,85,86,87,88,89,90,91,92] (fun ρ w=>K11 (ρ 92) w) rfl rfl (fun T hT=>guardP_mono h (fun h=>?_) (fun h=>?_)) (fun σ w h=>?_)
       · refine zm ?_
         refine zv h fun t84 w h=>?_
         refine zv h fun t85 w h=>?_
         refine zv h fun t86 w h=>?_
         refine zx h fun t87 w h=>?_
         refine zc h c11 fun t88 w h=>?_
         refine zm ?_
         refine zv h fun t90 w h=>?_
         refine zv h fun t91 w h=>?_
         refine zb h fun t92 w h=>?_
         refine zn ?_
         exact zt hT h
       · exact zt hT h
       subst hK
       refine sim_seg 2 rfl ?_
       refine sim_pick h rfl rfl rfl ?_;intro t93 h
       refine zm<|zn ?_
       refine joinK_elim h (fun K12 hK h=>?_)
       refine sim_groupJ 2 17 true [95,96] (fun ρ w=>K12 (ρ 96) w) rfl rfl (fun T hT=>guardP_mono h (fun h=>?_) (fun h=>?_)) (fun σ w h=>?_)
       · refine zm ?_
         refine zb h fun t96 w h=>?_
         refine zn ?_
         exact zt hT h
       · exact zt hT h
       subst hK
       refine sim_seg 2 rfl ?_
       refine sim_pick h rfl rfl rfl ?_;intro t97 h
       refine zm<|zn ?_
       refine joinK_elim h (fun K13 hK h=>?_)
       refine sim_groupJ 2 21 true [99,100] (fun ρ w=>K13 (ρ 100) w) rfl rfl (fun T hT=>guardP_mono h (fun h=>?_) (fun h=>?_)) (fun σ w h=>?_)
       · refine zm ?_
         refine zb h fun t100 w h=>?_
         refine zn ?_
         exact zt hT h
       · exact zt hT h
       subst hK
       refine sim_seg 2 rfl ?_
       refine sim_pick h rfl rfl rfl ?_;intro t101 h
       refine zm<|zn ?_
       refine joinK_elim h (fun K14 hK h=>?_)
       refine sim_groupJ 1 25 true [103] (fun ρ w=>K14 (ρ 103) w) rfl rfl (fun T hT=>guardP_mono h (fun h=>?_) (fun h=>?_)) (fun σ w h=>?_)
       · refine zc h c6 fun t103 w h=>?_
         refine zn ?_
         exact zt hT h
       · exact zt hT h
       subst hK
       refine sim_seg 2 rfl ?_
       refine sim_pick h rfl rfl rfl ?_;intro t104 h
       refine zm<|zn<|sim_end<|zk<|sim_ret ?_
       exact body_ret1 rfl rfl h
def n5c1 (t6 t23:Value) (next3:KV) (R:RT) (w:World):Prop :=
 X0 43 t23 t6 R w fun t38 w =>
 F0 52 t38 11 R w fun t39 w =>
 L0 50 t39 R w fun t40 w =>
 opV Pg (Builtin.len_ #[50] 3 #[t40]) (panK R) w fun t41 w =>
 B0 .gtr 3 true t41 (.int .i64 50) R w fun t42 w =>
 joinK (fun (t51:Value) (w:World) =>
 pickK t42 (.bool true) t51 fun t52 =>
 condP t52 (
 R (.returned (.bool false)) w) (
 B0 .add 3 true t6 (.int .i64 1) R w fun t35 w =>
 next3 t35 w)) fun K4 =>
 guardP t42 false (
 X0 43 t23 t6 R w fun t46 w =>
 F0 52 t46 7 R w fun t47 w =>
 F0 49 t47 1 R w fun t48 w =>
 L0 47 t48 R w fun t49 w =>
 opV Pg (Builtin.len_ #[47] 3 #[t49]) (panK R) w fun t50 w =>
 B0 .gtr 3 true t50 (.int .i64 10) R w fun t51 w =>
 K4 t51 w) (
 K4 undef w)
def n5c2 (t4 t6 t23 t27:Value) (next1:KW) (next3:KV) (R:RT) (w:World):Prop :=
 opV Pg (Builtin.len_ #[43] 3 #[t23]) (panK R) w fun t32 w =>
 B0 .lss 3 false t6 t32 R w fun t33 w =>
 condP t33 (
 n5c1 t6 t23 next3 R w) (
 B0 .add 3 true t4 (.int .i64 1) R w fun t17 w =>
 next1 t27 t17 w)
def n5c3 (t1:Value) (R:RT) (w:World):Prop :=
 F0 24 t1 1 R w fun t53 w =>
 L0 22 t53 R w fun t54 w =>
 opV Pg (Builtin.len_ #[22] 3 #[t54]) (panK R) w fun t55 w =>
 B0 .leq 3 true t55 (.int .i64 70) R w fun t56 w =>
 R (.returned t56) w
def n5c4 (t1 t3 t4:Value) (next1:KW) (R:RT) (w:World):Prop :=
 F0 24 t1 1 R w fun t18 w =>
 L0 22 t18 R w fun t19 w =>
 X0 22 t19 t4 R w fun t21 w =>
 F0 45 t21 1 R w fun t22 w =>
 L0 43 t22 R w fun t23 w =>
 opV Pg (Builtin.len_ #[43] 3 #[t23]) (panK R) w fun t26 w =>
 B0 .add 3 false t3 t26 R w fun t27 w =>
 B0 .gtr 3 true t27 (.int .i64 400) R w fun t29 w =>
 condP t29 (
 R (.returned (.bool false)) w) (
 loop1 (fun t6 w next3 =>
 n5c2 t4 t6 t23 t27 next1 next3 R w) (.int .i64 0) w)
def n5c5 (t1 t3 t4:Value) (next1:KW) (R:RT) (w:World):Prop :=
 F0 24 t1 1 R w fun t8 w =>
 L0 22 t8 R w fun t9 w =>
 opV Pg (Builtin.len_ #[22] 3 #[t9]) (panK R) w fun t10 w =>
 B0 .lss 3 false t4 t10 R w fun t11 w =>
 joinK (fun (t14:Value) (w:World) =>
 pickK t11 t14 (.bool false) fun t15 =>
 condP t15 (
 n5c4 t1 t3 t4 next1 R w) (
 n5c3 t1 R w)) fun K2 =>
 guardP t11 true (
 B0 .leq 3 true t4 (.int .i64 70) R w fun t14 w =>
 K2 t14 w) (
 K2 undef w)
def n5 (t0:Value) (R:RT) (w:World):Prop :=
 opV Pg (Instr.box 24 t0) (panK R) w fun t1 w =>
 loop2 (fun t3 t4 w next1 =>
 n5c5 t1 t3 t4 next1 R w) (.int .i64 0) (.int .i64 0) w
theorem n5s {t0:Value} {R:RT} {w:World} (h:n5 t0 R w):Calls Pg 5 #[t0] w R:=by
 refine calls_of_den (args:=[t0]) Tryz.func5 rfl (Nat.le_of_ble_eq_true rfl) ?_
 unfold n5 at h
 refine zs<|zr ?_
 refine zv h fun t1 w h=>?_
 refine zm<|zn<|zk<|zs<|zr<|zm<|zn<|zk<|zs<|zs<|zr<|zm<|zn<|zk<|sim_block ?_
 obtain ⟨I,μ,h0,hr⟩:=h
 refine sim_loop [2,3,4,5,6,7,8,9,10,11,12,13,14,15,16,17,18,19,20,21,22,23,24,25,26,27,28,29,30,31,32,33,34,35,36,37,38,39,40,41,42,43,44,45,46,47,48,49,50,51,52] (by kernel_rfl) (fun ρ w=>I (ρ 3) (ρ 4) w) (fun ρ w=>μ (ρ 3) (ρ 4) w) h0 (fun σ w hI=>?_)
 have h:=hr _ _ _ hI
 clear hr h0 hI
 refine zs<|zs<|sim_regionG ?_
 refine sim_seg 6 rfl ?_
 refine zm ?_
 refine zv h fun t8 w h=>?_
 refine zv h fun t9 w h=>?_
 refine zx h fun t10 w h=>?_
 refine zb h fun t11 w h=>?_
 refine zm<|zn ?_
 refine joinK_elim h (fun K2 hK h=>?_)
 refine sim_groupJ 2 5 true [13,14] (fun ρ w=>K2 (ρ 14) w) rfl rfl (fun T hT=>guardP_mono h (fun h=>?_) (fun h=>?_)) (fun σ w h=>?_)
 · refine zm ?_
   refine zb h fun t14 w h=>?_
   refine zn ?_
   exact zt hT h
 · exact zt hT h
 subst hK
 refine sim_seg 1 rfl ?_
 refine sim_pick h rfl rfl rfl ?_;intro t15 h
 refine zn<|sim_end<|zk ?_
 refine sim_cond h rfl (fun h=>?_) (fun h=>?_)
 · refine sim_skip<|zk<|zs<|sim_block<|zs<|zr ?_
   refine zv h fun t18 w h=>?_
   refine zv h fun t19 w h=>?_
   refine zm ?_
   refine zv h fun t21 w h=>?_
   refine zv h fun t22 w h=>?_
   refine zv h fun t23 w h=>?_
   refine zm<|zn<|zk<|zs<|zr<|zm<|zm ?_
   refine zx h fun t26 w h=>?_
   refine zb h fun t27 w h=>?_
   refine zm<|zn<|zk<|zs<|zs<|zr<|zm ?_
   refine zb h fun t29 w h=>?_
   refine zn<|zk ?_
   refine sim_cond h rfl (fun h=>?_) (fun h=>?_)
   · refine zs<|zr<|zm<|zn<|zk<|sim_ret<|sim_then_ret<|sim_block_ret<|sim_then_ret<|sim_then_ret<|sim_block_ret<|sim_then_ret ?_
     exact body_ret1 rfl rfl h
   · refine sim_skip<|zk<|zs<|zr<|zm<|zn<|zk<|sim_block ?_
     obtain ⟨I,μ,h0,hr⟩:=h
     refine sim_loop [2,6,30,31,32,33,34,35,36,37,38,39,40,41,42,43,44,45,46,47,48,49,50,51,52] (by kernel_rfl) (fun ρ w=>I (ρ 6) w) (fun ρ w=>μ (ρ 6) w) h0 (fun σ w hI=>?_)
     have h:=hr _ _ hI
     clear hr h0 hI
     refine zs<|zs<|zr<|zm<|zm ?_
     refine zx h fun t32 w h=>?_
     refine zb h fun t33 w h=>?_
     refine zn<|zk ?_
     refine sim_cond h rfl (fun h=>?_) (fun h=>?_)
     · refine sim_skip<|zk<|zs<|sim_block<|zs<|sim_regionG ?_
       refine sim_seg 8 rfl ?_
       refine zm<|zm ?_
       refine zv h fun t38 w h=>?_
       refine zv h fun t39 w h=>?_
       refine zv h fun t40 w h=>?_
       refine zx h fun t41 w h=>?_
       refine zb h fun t42 w h=>?_
       refine zm<|zn ?_
       refine joinK_elim h (fun K4 hK h=>?_)
       refine sim_groupJ 8 7 false [44,45,46,47,48,49,50,51] (fun ρ w=>K4 (ρ 51) w) rfl rfl (fun T hT=>guardP_mono h (fun h=>?_) (fun h=>?_)) (fun σ w h=>?_)
       · refine zm<|zm ?_
         refine zv h fun t46 w h=>?_
         refine zv h fun t47 w h=>?_
         refine zv h fun t48 w h=>?_
         refine zv h fun t49 w h=>?_
         refine zx h fun t50 w h=>?_
         refine zb h fun t51 w h=>?_
         refine zn ?_
         exact zt hT h
       · exact zt hT h
       subst hK
       refine sim_seg 1 rfl ?_
       refine sim_pick h rfl rfl rfl ?_;intro t52 h
       refine zn<|sim_end<|zk ?_
       refine sim_cond h rfl (fun h=>?_) (fun h=>?_)
       · refine zs<|zr<|zm<|zn<|zk<|sim_ret<|sim_block_ret<|sim_then_ret<|sim_then_ret<|sim_block_ret<|sim_block_ret<|sim_then_ret<|sim_then_ret<|sim_block_ret<|sim_then_ret ?_
         exact body_ret1 rfl rfl h
       · refine sim_skip<|sim_block_normal<|zk<|zr<|zm ?_
         refine zb h fun t35 w h=>?_
         refine zm<|zn<|zk ?_
         exact ⟨rfl,h⟩
     · refine sim_exit<|sim_then_exit<|sim_then_exit<|sim_block_hit<|sim_block_normal<|zk<|zr<|zm ?_
       refine zb h fun t17 w h=>?_
       refine zm<|zn<|zk ?_
       exact ⟨rfl,h⟩
 · refine sim_exit<|sim_then_exit<|sim_then_exit<|sim_block_hit<|zk<|zs<|zr ?_
   refine zv h fun t53 w h=>?_
   refine zv h fun t54 w h=>?_
   refine zx h fun t55 w h=>?_
   refine zb h fun t56 w h=>?_
   refine zm<|zn<|zk<|sim_ret ?_
   exact body_ret1 rfl rfl h
end Go.Proofs.YtiajhbbmgglmlaaGreat
namespace Go.Proofs.YtiajhbbmgglmlaaGreat
open Sw
open Go.RowKit (intOf Below)
def sumF (l:List MsgD):Nat:=(l.map fun m=>m.fields.length).sum
def okF (f:FieldD):Prop:=f.cases.length≤50∧f.terms.length≤10
def fitsP (d:DefD):Prop:=d.msgs.length≤70∧sumF d.msgs≤400∧∀ m∈d.msgs,∀ f∈m.fields,okF f
theorem sumF_take {l:List MsgD} {k:Nat} {x:MsgD} (hx:l[k]?=some x):sumF (l.take (k+1))=sumF (l.take k)+x.fields.length:=by
 rw [take_snoc hx];simp [sumF]
theorem le_sumF {l:List MsgD} {m:MsgD} (h:m∈l):m.fields.length≤sumF l:=by
 unfold sumF
 induction l with
 | nil=>cases h
 | cons a l ih =>
  rcases List.mem_cons.1 h with rfl | h
  · simp
  · have:=ih h;simp at this ⊢;omega
theorem forall_take {α:Type} {p:α→Prop} {l:List α} {k:Nat} {x:α} (h:∀ y∈l.take k,p y) (hx:l[k]?=some x) (hp:p x):∀ y∈l.take (k+1),p y:=by
 rw [take_snoc hx]
 intro y hy
 rcases List.mem_append.1 hy with hy | hy
 · exact h y hy
 · simp only [List.mem_singleton] at hy;subst hy;exact hp
theorem fits_ret (w0:World) (v:Value) (d:DefD) (hd:DefVal w0 v d) (hs:DefSm d):Ret Pg 5 #[v] w0 fun r w'=>∃ b,r = .bool b∧(b=true→fitsP d)∧Ext w0 w':=by
 obtain ⟨mv,rfl,hM⟩:=hd
 obtain ⟨A,c,rfl,hlc,hcm,hlm,hel⟩:=SliceOf.open hM
 refine n5s (R:=retR _) ?_;unfold n5
 simp (disch:=try exact DI) only [↓PR,QR,Int.reduceBEq,Int.reduceBNe,Int.reduceLT,Int.reduceLE,Int.reduceGT,Int.reduceGE,Int.reduceNeg]
 have hBW:=ElemAt.new (w:=w0) (defCells d (.slice A d.msgs.length c)) (24)
 have eW:Ext w0 (w0.alloc (Obj.cells (List.toArray (defCells d (.slice A d.msgs.length c))) (24))):=(Ext.refl _).alloc _
 generalize (w0.alloc (Obj.cells (List.toArray (defCells d (.slice A d.msgs.length c))) (24)))=W at hBW eW ⊢
 refine loop2_intro (fun a0 a1 w=>∃ (k:Nat) , a0 = .int .i64 (sumF (d.msgs.take k):Nat)∧a1 = .int .i64 (k:Int)∧k≤d.msgs.length∧Ext W w∧sumF (d.msgs.take k)≤400∧∀ m∈d.msgs.take k,∀ f∈m.fields,okF f) (fun a0 a1 _=>d.msgs.length - (intOf a1).toNat) ⟨0,rfl,rfl,Nat.zero_le _,ee,⟨by simp [sumF],by simp⟩⟩ ?_
 rintro _ _ w ⟨k,rfl,rfl,hk,e,hI⟩
 have se:=e.size
 rcases drop_cases hk with ⟨x,hx,hd,hlt,hdec⟩ | ⟨hk,hd,hdec⟩
 · obtain ⟨h400,hok⟩:=hI
   obtain ⟨b,o,cs,rfl,hl,hA,fv,rfl,hF⟩:=hel k x hx
   obtain ⟨A2,c2,rfl,hlc2,hcm2,hlm2,hel2⟩:=SliceOf.open hF
   have hxm:=List.mem_of_getElem? hx
   have hsx:=hs.2 x hxm
   have hx1:=hsx.1
   have e':=eW.trans e
   unfold n5c5
   by_cases hk70:k≤70
   · have d1:decide ((k:Int)≤70)=true:=by simp;omega
     simp (disch:=try exact DI) only [↓PR,QR,Int.reduceBEq,Int.reduceBNe,Int.reduceLT,Int.reduceLE,Int.reduceGT,Int.reduceGE,Int.reduceNeg,hBW.c3,hdec,d1]
     unfold n5c4
     have hwr:IntKind.i64.wrap ((sumF (d.msgs.take k):Int)+(x.fields.length:Int))=((sumF (d.msgs.take (k+1)):Nat):Int):=by
      rw [sumF_take hx,wrap_ok (by omega) (by omega)];omega
     by_cases hn:sumF (d.msgs.take (k+1))≤400
     · have d2:decide (((sumF (d.msgs.take (k+1)):Nat):Int) > 400)=false:=by simp;omega
       simp (disch:=try exact DI) only [↓PR,QR,Int.reduceBEq,Int.reduceBNe,Int.reduceLT,Int.reduceLE,Int.reduceGT,Int.reduceGE,Int.reduceNeg,hBW.c3,(hA.c2 e').1,(hA.c2 e').2,hwr,d2]
       rw [hwr]
       refine loop1_intro (fun a0 wb=>∃ (kb:Nat) , a0 = .int .i64 (kb:Int)∧kb≤x.fields.length∧Ext w wb∧∀ f∈x.fields.take kb,okF f) (fun a0 _=>x.fields.length - (intOf a0).toNat) ⟨0,rfl,Nat.zero_le _,ee,by simp⟩ ?_
       rintro _ wb ⟨kb,rfl,hkb,eb,hIb⟩
       have seb:=eb.size
       rcases drop_cases hkb with ⟨xb,hxb,hdb,hltb,hdecb⟩ | ⟨hkb,hdb,hdecb⟩
       · obtain ⟨b2,o2,cs2,rfl,hl2,hA2,hE2⟩:=hel2 kb xb hxb
         obtain ⟨tv,cv,rfl,hT,hC,ht1,hc1⟩:=hE2.op
         obtain ⟨A3,c3,rfl,hlc3,hcm3,hlm3,hel3⟩:=SliceOf.open hC
         obtain ⟨A4,c4,rfl,hlc4,hcm4,hlm4,hel4⟩:=SliceOf.open hT
         have eb':=e'.trans eb
         unfold n5c2
         simp (disch:=try exact DI) only [↓PR,QR,Int.reduceBEq,Int.reduceBNe,Int.reduceLT,Int.reduceLE,Int.reduceGT,Int.reduceGE,Int.reduceNeg,hdecb]
         unfold n5c1
         have hcell:=hA2.c15 eb'
         by_cases hc50:xb.cases.length≤50
         · have d3:decide ((xb.cases.length:Int) > 50)=false:=by simp;omega
           by_cases ht10:xb.terms.length≤10
           · have d4:decide ((xb.terms.length:Int) > 10)=false:=by simp;omega
             simp (disch:=try exact DI) only [↓PR,QR,Int.reduceBEq,Int.reduceBNe,Int.reduceLT,Int.reduceLE,Int.reduceGT,Int.reduceGE,Int.reduceNeg,hcell,d3,d4]
             exact ⟨⟨kb+1,rfl,by omega,ee,forall_take hIb hxb ⟨hc50,ht10⟩⟩,meas_lt hltb⟩
           · have d4:decide ((xb.terms.length:Int) > 10)=true:=by simp;omega
             simp (disch:=try exact DI) only [↓PR,QR,Int.reduceBEq,Int.reduceBNe,Int.reduceLT,Int.reduceLE,Int.reduceGT,Int.reduceGE,Int.reduceNeg,hcell,d3,d4]
             exact ⟨false,rfl,by simp,ee⟩
         · have d3:decide ((xb.cases.length:Int) > 50)=true:=by simp;omega
           simp (disch:=try exact DI) only [↓PR,QR,Int.reduceBEq,Int.reduceBNe,Int.reduceLT,Int.reduceLE,Int.reduceGT,Int.reduceGE,Int.reduceNeg,hcell,d3]
           exact ⟨false,rfl,by simp,ee⟩
       · subst hkb
         rw [List.take_length] at hIb
         unfold n5c2
         simp (disch:=try exact DI) only [↓PR,QR,Int.reduceBEq,Int.reduceBNe,Int.reduceLT,Int.reduceLE,Int.reduceGT,Int.reduceGE,Int.reduceNeg,hdecb]
         exact ⟨⟨k+1,rfl,rfl,by omega,ee,⟨hn,forall_take hok hx hIb⟩⟩,meas_lt hlt⟩
     · have d2:decide (((sumF (d.msgs.take (k+1)):Nat):Int) > 400)=true:=by simp;omega
       simp (disch:=try exact DI) only [↓PR,QR,Int.reduceBEq,Int.reduceBNe,Int.reduceLT,Int.reduceLE,Int.reduceGT,Int.reduceGE,Int.reduceNeg,hBW.c3,(hA.c2 e').1,(hA.c2 e').2,hwr,d2]
       exact ⟨false,rfl,by simp,ee⟩
   · have d1:decide ((k:Int)≤70)=false:=by simp;omega
     have d2:decide ((d.msgs.length:Int)≤70)=false:=by simp;omega
     simp (disch:=try exact DI) only [↓PR,QR,Int.reduceBEq,Int.reduceBNe,Int.reduceLT,Int.reduceLE,Int.reduceGT,Int.reduceGE,Int.reduceNeg,hBW.c3,hdec,d1,n5c3,d2]
     exact ⟨false,rfl,by simp,ee⟩
 · subst hk
   obtain ⟨h400,hok⟩:=hI
   rw [List.take_length] at h400 hok
   unfold n5c5
   simp (disch:=try exact DI) only [↓PR,QR,Int.reduceBEq,Int.reduceBNe,Int.reduceLT,Int.reduceLE,Int.reduceGT,Int.reduceGE,Int.reduceNeg,hBW.c3,hdec,n5c3]
   exact ⟨_,rfl,fun hb=>⟨by have:=of_decide_eq_true hb;omega,h400,hok⟩,ee⟩
theorem refsF_len {f:FieldD} (h:okF f):(refsF f).length≤50:=by
 unfold refsF
 split
 · simp
 · split
   · simpa using h.1
   · simp
theorem allRefs_len:∀ {l:List FieldD},(∀ f∈l,okF f)→(allRefs l).length≤l.length*50
 | [],_=>by simp [allRefs]
 | f::l,h=>by
  have h1:=refsF_len (h f (List.mem_cons_self ..))
  have h2:=allRefs_len (l:=l) (fun g hg=>h g (List.mem_cons_of_mem _ hg))
  unfold allRefs at *
  rw [List.flatMap_cons,List.length_append,List.length_cons]
  omega
theorem fits_calm {d:DefD} (h:fitsP d):calm d:=fun m hm=>by
 have h1:=le_sumF hm
 have h2:=h.2.1
 have h3:=allRefs_len (h.2.2 m hm)
 exact ⟨by omega,fun f hf=>by have:=(h.2.2 m hm f hf).2;omega⟩
end Go.Proofs.YtiajhbbmgglmlaaGreat
namespace Go.Proofs.YtiajhbbmgglmlaaGreat
open Sw
open Go.RowKit (intOf Below)
theorem rName_ret (w0:World) (s:ByteArray):Ret Pg 32 #[.string s] w0 fun r w'=>r = .bool (nameB s)∧Ext w0 w':=by
 have hsz:s.data.toList.length=s.size:=by rw [Array.length_toList];rfl
 refine n11s (R:=retR _) ?_;unfold n11
 by_cases h1:1≤s.size
 · have d1:decide ((s.size:Int) < 1)=false:=by simp;omega
   by_cases h2:s.size≤32
   · have d2:decide ((s.size:Int) > 32)=false:=by simp;omega
     simp (disch:=try exact DI) only [↓PR,QR,Int.reduceBEq,Int.reduceBNe,Int.reduceLT,Int.reduceLE,Int.reduceGT,Int.reduceGE,Int.reduceNeg,d1,d2]
     unfold n11c4
     have hd:nameB s=((match s.data.toList with | []=>false | c::_=>letterB c)&&s.data.toList.all wordB):=by
      unfold nameB
      rw [show decide (1≤(s.size:Int))=true by simp;omega,show decide ((s.size:Int)≤32)=true by simp;omega]
      rfl
     rw [hd]
     clear hd
     obtain ⟨c,cs,hcs⟩:∃ c cs,s.data.toList=c::cs:=by
      cases hd:s.data.toList with
      | nil=>rw [hd] at hsz;simp at hsz;omega
      | cons c cs=>exact ⟨c,cs,rfl⟩
     simp (disch:=try exact DI) only [↓PR,QR,Int.reduceBEq,Int.reduceBNe,Int.reduceLT,Int.reduceLE,Int.reduceGT,Int.reduceGE,Int.reduceNeg]
     rw [op_indexS0 Tryz.underlying9 s .i64 (b:=c) (by rw [hcs];rfl)]
     refine callK_ret (rletter_ret _ c) ?_
     rintro r w1 ⟨rfl,e⟩
     rw [show (match s.data.toList with | []=>false | c::_=>letterB c)=letterB c by rw [hcs]]
     cases hl:letterB c with
     | false =>
      simp (disch:=try exact DI) only [↓PR,QR,Int.reduceBEq,Int.reduceBNe,Int.reduceLT,Int.reduceLE,Int.reduceGT,Int.reduceGE,Int.reduceNeg]
      exact ⟨by trivial,e⟩
     | true =>
      simp (disch:=try exact DI) only [↓PR,QR,Int.reduceBEq,Int.reduceBNe,Int.reduceLT,Int.reduceLE,Int.reduceGT,Int.reduceGE,Int.reduceNeg]
      clear hl hcs
      refine loop1_intro (fun i w'=>∃ k:Nat,i = .int .i64 k∧k≤s.data.toList.length∧Ext w0 w'∧(s.data.toList.drop k).all wordB=s.data.toList.all wordB) (fun i _=>s.data.toList.length - (intOf i).toNat) ⟨0,rfl,by omega,e,rfl⟩ ?_
      rintro _ w2 ⟨k,rfl,hk,e2,hI⟩
      rcases drop_cases hk with ⟨x,hx,hd,hlt,hdec⟩ | ⟨hk,hd,hdec⟩
      · rw [hsz] at hdec
        have hidx:∀ (R:List PanicEntry→World→Prop) (w:World) (K:Value→World→Prop),opV Pg (Instr.index 9 (.string s) (.int .i64 (k:Int))) R w K=K (.int .u8 (x.toNat:Int)) w:=fun R w K=>op_indexS Tryz.underlying9 s .i64 k hx
        have hnext:wordB x=true→∀ w',Ext w0 w'→(∃ k':Nat,Value.int .i64 ((k+1:Nat):Int) = .int .i64 k'∧k'≤s.data.toList.length∧Ext w0 w'∧(s.data.toList.drop k').all wordB=s.data.toList.all wordB)∧s.data.toList.length - (intOf (Value.int .i64 ((k+1:Nat):Int))).toNat < s.data.toList.length - (intOf (Value.int .i64 (k:Int))).toNat:=by
         intro hx1 w' e'
         refine ⟨⟨k+1,rfl,hlt,e',?_⟩,?_⟩
         · rw [← hI,hd];simp [hx1]
         · show s.data.toList.length - (((k+1:Nat):Int)).toNat < s.data.toList.length - ((k:Int)).toNat
           omega
        have hstop:wordB x=false→s.data.toList.all wordB=false:=by
         intro hx1
         rw [← hI,hd];simp [hx1]
        unfold n11c3
        simp (disch:=try exact DI) only [↓PR,QR,Int.reduceBEq,Int.reduceBNe,Int.reduceLT,Int.reduceLE,Int.reduceGT,Int.reduceGE,Int.reduceNeg,hdec]
        rw [hidx]
        refine callK_ret (rletter_ret _ x) ?_
        rintro r w3 ⟨rfl,e3⟩
        have e4:=e2.trans e3
        unfold n11c2
        cases hl:letterB x with
        | true =>
         simp (disch:=try exact DI) only [↓PR,QR,Int.reduceBEq,Int.reduceBNe,Int.reduceLT,Int.reduceLE,Int.reduceGT,Int.reduceGE,Int.reduceNeg,n11c1]
         exact hnext (by unfold wordB;rw [hl];rfl) _ e4
        | false =>
         simp (disch:=try exact DI) only [↓PR,QR,Int.reduceBEq,Int.reduceBNe,Int.reduceLT,Int.reduceLE,Int.reduceGT,Int.reduceGE,Int.reduceNeg]
         rw [hidx]
         refine callK_ret (rdigit_ret _ x) ?_
         rintro r w5 ⟨rfl,e5⟩
         have e6:=e4.trans e5
         unfold n11c1
         cases hg:digitB x with
         | true =>
          simp (disch:=try exact DI) only [↓PR,QR,Int.reduceBEq,Int.reduceBNe,Int.reduceLT,Int.reduceLE,Int.reduceGT,Int.reduceGE,Int.reduceNeg]
          exact hnext (by unfold wordB;rw [hl,hg];rfl) _ e6
         | false =>
          simp (disch:=try exact DI) only [↓PR,QR,Int.reduceBEq,Int.reduceBNe,Int.reduceLT,Int.reduceLE,Int.reduceGT,Int.reduceGE,Int.reduceNeg]
          rw [hidx]
          cases hu:((x.toNat:Int) == 95) with
          | true =>
           have hu':((x.toNat:Int) != 95)=false:=by rw [bne,hu];rfl
           simp (disch:=try exact DI) only [↓PR,QR,Int.reduceBEq,Int.reduceBNe,Int.reduceLT,Int.reduceLE,Int.reduceGT,Int.reduceGE,Int.reduceNeg,hu']
           exact hnext (by unfold wordB;rw [hl,hg,hu];rfl) _ e6
          | false =>
           have hu':((x.toNat:Int) != 95)=true:=by rw [bne,hu];rfl
           simp (disch:=try exact DI) only [↓PR,QR,Int.reduceBEq,Int.reduceBNe,Int.reduceLT,Int.reduceLE,Int.reduceGT,Int.reduceGE,Int.reduceNeg,hu']
           exact ⟨by rw [hstop (by unfold wordB;rw [hl,hg,hu];rfl)],e6⟩
      · rw [hsz] at hdec hk
        unfold n11c3
        simp (disch:=try exact DI) only [↓PR,QR,Int.reduceBEq,Int.reduceBNe,Int.reduceLT,Int.reduceLE,Int.reduceGT,Int.reduceGE,Int.reduceNeg,hdec]
        refine ⟨?_,e2⟩
        rw [← hI,hd]
        rfl
   · have d2:decide ((s.size:Int) > 32)=true:=by simp;omega
     simp (disch:=try exact DI) only [↓PR,QR,Int.reduceBEq,Int.reduceBNe,Int.reduceLT,Int.reduceLE,Int.reduceGT,Int.reduceGE,Int.reduceNeg,d1,d2]
     unfold n11c4
     simp (disch:=try exact DI) only [↓PR,QR,Int.reduceBEq,Int.reduceBNe,Int.reduceLT,Int.reduceLE,Int.reduceGT,Int.reduceGE,Int.reduceNeg]
     refine ⟨?_,Ext.refl _⟩
     unfold nameB
     rw [show decide ((s.size:Int)≤32)=false by simp;omega]
     simp
 · have d1:decide ((s.size:Int) < 1)=true:=by simp;omega
   simp (disch:=try exact DI) only [↓PR,QR,Int.reduceBEq,Int.reduceBNe,Int.reduceLT,Int.reduceLE,Int.reduceGT,Int.reduceGE,Int.reduceNeg,d1]
   unfold n11c4
   simp (disch:=try exact DI) only [↓PR,QR,Int.reduceBEq,Int.reduceBNe,Int.reduceLT,Int.reduceLE,Int.reduceGT,Int.reduceGE,Int.reduceNeg]
   refine ⟨?_,Ext.refl _⟩
   unfold nameB
   rw [show decide (1≤(s.size:Int))=false by simp;omega]
   simp
end Go.Proofs.YtiajhbbmgglmlaaGreat
namespace Go.Proofs.YtiajhbbmgglmlaaGreat
open Sw
open Go.RowKit (intOf Below)
theorem rsmall_ret (w0:World) (v:Int):Ret Pg 109 #[.int .i64 v] w0 fun r w'=>r = .bool (smallB v)∧Ext w0 w':=by
 refine n15s (R:=retR _) ?_;unfold n15
 unfold smallB
 by_cases h : -1048576≤v
 · have d1:decide (v ≥ -1048576)=true:=by simpa using h
   simp (disch:=try exact DI) only [↓PR,QR,Int.reduceBEq,Int.reduceBNe,Int.reduceLT,Int.reduceLE,Int.reduceGT,Int.reduceGE,Int.reduceNeg,d1]
   exact ⟨by simp [h],Ext.refl _⟩
 · have d1:decide (v ≥ -1048576)=false:=by simpa using h
   simp (disch:=try exact DI) only [↓PR,QR,Int.reduceBEq,Int.reduceBNe,Int.reduceLT,Int.reduceLE,Int.reduceGT,Int.reduceGE,Int.reduceNeg,d1]
   exact ⟨by simp [h],Ext.refl _⟩
theorem rSizeValid_ret (w0:World) (v:Value) (base:Int) (ts:List TermD) (hs:SizeVal w0 v base ts):Ret Pg 73 #[v] w0 fun r w'=>r = .bool (sizeB base ts)∧Ext w0 w':=by
 obtain ⟨tv,rfl,hT⟩:=hs
 obtain ⟨A,c,rfl,hlc,hcm,hlm,hel⟩:=SliceOf.open hT
 refine n12s (R:=retR _) ?_;unfold n12
 simp (disch:=try exact DI) only [↓PR,QR,Int.reduceBEq,Int.reduceBNe,Int.reduceLT,Int.reduceLE,Int.reduceGT,Int.reduceGE,Int.reduceNeg]
 have hBW:=ElemAt.new (w:=w0) ([.int .i64 base,.slice A ts.length c]) (49)
 have eW:Ext w0 (w0.alloc (Obj.cells (List.toArray ([.int .i64 base,.slice A ts.length c])) (49))):=(Ext.refl _).alloc _
 generalize (w0.alloc (Obj.cells (List.toArray ([.int .i64 base,.slice A ts.length c])) (49)))=W at hBW eW ⊢
 refine zcr (rsmall_ret _ base) fun w1 e1=>?_
 have E1:=eW.trans e1
 unfold n12c7
 cases hb:smallB base with
 | false =>
  simp (disch:=try exact DI) only [↓PR,QR,Int.reduceBEq,Int.reduceBNe,Int.reduceLT,Int.reduceLE,Int.reduceGT,Int.reduceGE,Int.reduceNeg]
  exact ⟨by unfold sizeB;rw [hb];rfl,E1⟩
 | true =>
 by_cases h4:ts.length≤4
 · have d4:decide ((ts.length:Int) > 4)=false:=by simp;omega
   simp (disch:=try exact DI) only [↓PR,QR,Int.reduceBEq,Int.reduceBNe,Int.reduceLT,Int.reduceLE,Int.reduceGT,Int.reduceGE,Int.reduceNeg,hBW.c2,d4]
   have hsz:sizeB base ts=termsB [] ts:=by unfold sizeB;rw [hb];simp [h4]
   rw [hsz]
   have hbad:∀ {k x},ts[k]?=some x→(memB ((ts.take k).map (·.field)) x.field||!termB x)=true→termsB [] ts=false:=by
    intro k x hx hm
    cases ht:termsB [] ts with
    | false=>rfl
    | true=>have:=(termsB_iff ts []).1 ht k x hx;rw [List.nil_append,hm] at this;cases this
   refine loop1_intro (fun a0 w=>∃ (k:Nat) , a0 = .int .i64 (k:Int)∧k≤ts.length∧Ext w1 w∧∀ j x,j < k→ts[j]?=some x→(memB ((ts.take j).map (·.field)) x.field||!termB x)=false) (fun a0 _=>ts.length - (intOf a0).toNat) ⟨0,rfl,Nat.zero_le _,ee,by intro j x h;omega⟩ ?_
   rintro _ w ⟨k,rfl,hk,e,hI⟩
   have se:=e.size
   rcases drop_cases hk with ⟨x,hx,hd,hlt,hdec⟩ | ⟨hk,hd,hdec⟩
   · obtain ⟨b,o,cs,rfl,hl,hA,rfl⟩:=hel k x hx
     have E:=E1.trans e
     have f:=e1.trans e
     unfold n12c6
     simp (disch:=try exact DI) only [↓PR,QR,Int.reduceBEq,Int.reduceBNe,Int.reduceLT,Int.reduceLE,Int.reduceGT,Int.reduceGE,Int.reduceNeg,hBW.c2,hdec]
     unfold n12c5
     simp (disch:=try exact DI) only [↓PR,QR,Int.reduceBEq,Int.reduceBNe,Int.reduceLT,Int.reduceLE,Int.reduceGT,Int.reduceGE,Int.reduceNeg,hBW.c2,(hA.c2 E).1]
     refine zcr (rName_ret _ x.field) fun w2 e2=>?_
     have E2:=E.trans e2
     have f2:=f.trans e2
     unfold n12c4
     cases hn:nameB x.field with
     | false =>
      simp (disch:=try exact DI) only [↓PR,QR,Int.reduceBEq,Int.reduceBNe,Int.reduceLT,Int.reduceLE,Int.reduceGT,Int.reduceGE,Int.reduceNeg]
      unfold n12c3
      simp (disch:=try exact DI) only [↓PR,QR,Int.reduceBEq,Int.reduceBNe,Int.reduceLT,Int.reduceLE,Int.reduceGT,Int.reduceGE,Int.reduceNeg]
      exact ⟨by rw [hbad hx (by unfold termB;rw [hn];simp)],E2⟩
     | true =>
     by_cases hf:x.factor=0
     · have d1:(x.factor == 0)=true:=by simpa using hf
       simp (disch:=try exact DI) only [↓PR,QR,Int.reduceBEq,Int.reduceBNe,Int.reduceLT,Int.reduceLE,Int.reduceGT,Int.reduceGE,Int.reduceNeg,hBW.c2,(hA.c2 E2).2,d1]
       unfold n12c3
       simp (disch:=try exact DI) only [↓PR,QR,Int.reduceBEq,Int.reduceBNe,Int.reduceLT,Int.reduceLE,Int.reduceGT,Int.reduceGE,Int.reduceNeg]
       exact ⟨by rw [hbad hx (by unfold termB;rw [hf];simp)],E2⟩
     have d1:(x.factor == 0)=false:=by simpa using hf
     simp (disch:=try exact DI) only [↓PR,QR,Int.reduceBEq,Int.reduceBNe,Int.reduceLT,Int.reduceLE,Int.reduceGT,Int.reduceGE,Int.reduceNeg,hBW.c2,(hA.c2 E2).2,d1]
     unfold n12c3
     simp (disch:=try exact DI) only [↓PR,QR,Int.reduceBEq,Int.reduceBNe,Int.reduceLT,Int.reduceLE,Int.reduceGT,Int.reduceGE,Int.reduceNeg,hBW.c2,(hA.c2 E2).2]
     refine zcr (rsmall_ret _ x.factor) fun w3 e3=>?_
     have E3:=E2.trans e3
     have f3:=f2.trans e3
     cases hsm:smallB x.factor with
     | false =>
      simp (disch:=try exact DI) only [↓PR,QR,Int.reduceBEq,Int.reduceBNe,Int.reduceLT,Int.reduceLE,Int.reduceGT,Int.reduceGE,Int.reduceNeg]
      exact ⟨by rw [hbad hx (by unfold termB;rw [hsm];simp)],E3⟩
     | true =>
     have hterm:termB x=true:=by unfold termB;rw [hn,hsm,bne,d1];rfl
     simp (disch:=try exact DI) only [↓PR,QR,Int.reduceBEq,Int.reduceBNe,Int.reduceLT,Int.reduceLE,Int.reduceGT,Int.reduceGE,Int.reduceNeg]
     refine loop1_intro (fun i w'=>∃ j:Nat,i = .int .i64 j∧j≤k∧Ext w3 w'∧∀ i y,i < j→ts[i]?=some y→y.field≠x.field) (fun i _=>k - (intOf i).toNat) ⟨0,rfl,by omega,Ext.refl _,by intro i y h;omega⟩ ?_
     rintro _ w4 ⟨j,rfl,hj,e4,hI4⟩
     have E4:=E3.trans e4
     have f4:=f3.trans e4
     unfold n12c2
     by_cases hjk:j < k
     · have d2:decide ((j:Int) < (k:Int))=true:=by simp;omega
       obtain ⟨y,hy⟩:=getElem?_lt (l:=ts) (k:=j) (by omega)
       obtain ⟨b',o',cs',hA',_,hB,rfl⟩:=hel j y hy
       injection hA' with hA'
       injection hA' with hb1 ho1 _
       subst hb1 ho1
       have hjl:(j:Int) < (ts.length:Int):=by omega
       have hkl:(k:Int) < (ts.length:Int):=by omega
       simp (disch:=try exact DI) only [↓PR,QR,Int.reduceBEq,Int.reduceBNe,Int.reduceLT,Int.reduceLE,Int.reduceGT,Int.reduceGE,Int.reduceNeg,d2]
       refine drawK_intro ?_
       unfold n12c1
       simp (disch:=try exact DI) only [↓PR,QR,Int.reduceBEq,Int.reduceBNe,Int.reduceLT,Int.reduceLE,Int.reduceGT,Int.reduceGE,Int.reduceNeg,hBW.c2,(hA.c2 E4).1,(hB.c2 E4).1]
       by_cases hxy:y.field=x.field
       · rw [show decide (y.field=x.field)=true by simp [hxy]]
         simp (disch:=try exact DI) only [↓PR,QR,Int.reduceBEq,Int.reduceBNe,Int.reduceLT,Int.reduceLE,Int.reduceGT,Int.reduceGE,Int.reduceNeg]
         refine ⟨?_,ee⟩
         rw [hbad hx]
         rw [show memB ((ts.take k).map (·.field)) x.field=true from ?_]
         · rfl
         unfold memB
         rw [List.any_eq_true]
         exact ⟨y.field,List.mem_map.2 ⟨y,List.mem_of_getElem? (i:=j) (by rw [List.getElem?_take,if_pos hjk];exact hy),rfl⟩,by simp [hxy]⟩
       · rw [show decide (y.field=x.field)=false by simp [hxy]]
         simp (disch:=try exact DI) only [↓PR,QR,Int.reduceBEq,Int.reduceBNe,Int.reduceLT,Int.reduceLE,Int.reduceGT,Int.reduceGE,Int.reduceNeg]
         refine ⟨⟨j+1,rfl,by omega,ee,fun i z hi hz=>?_⟩,meas_lt hjk⟩
         by_cases hij:i=j
         · subst hij;rw [hy] at hz;injection hz with hz;subst hz;exact hxy
         · exact hI4 i z (by omega) hz
     · have d2:decide ((j:Int) < (k:Int))=false:=by simp;omega
       have hjk':j=k:=by omega
       subst hjk'
       simp (disch:=try exact DI) only [↓PR,QR,Int.reduceBEq,Int.reduceBNe,Int.reduceLT,Int.reduceLE,Int.reduceGT,Int.reduceGE,Int.reduceNeg,d2]
       have hmem:memB ((ts.take j).map (·.field)) x.field=false:=by
        unfold memB
        rw [List.any_eq_false]
        intro s hs
        obtain ⟨y,hy,rfl⟩:=List.mem_map.1 hs
        obtain ⟨i,hi⟩:=List.getElem?_of_mem hy
        rw [List.getElem?_take] at hi
        split at hi
        · simpa using hI4 i y (by assumption) hi
        · cases hi
       refine ⟨⟨j+1,rfl,by omega,e.trans (e2.trans (e3.trans e4)),fun i z hi hz=>?_⟩,meas_lt hlt⟩
       by_cases hij:i=j
       · subst hij;rw [hx] at hz;injection hz with hz;subst hz;rw [hmem,hterm];rfl
       · exact hI i z (by omega) hz
   · subst hk
     have f:=e1.trans e
     unfold n12c6
     simp (disch:=try exact DI) only [↓PR,QR,Int.reduceBEq,Int.reduceBNe,Int.reduceLT,Int.reduceLE,Int.reduceGT,Int.reduceGE,Int.reduceNeg,hBW.c2,hdec]
     refine ⟨?_,E1.trans e⟩
     rw [(termsB_iff ts []).2 (fun j x hx=>by rw [List.nil_append];exact hI j x (List.getElem?_eq_some_iff.1 hx).1 hx)]
 · have d4:decide ((ts.length:Int) > 4)=true:=by simp;omega
   simp (disch:=try exact DI) only [↓PR,QR,Int.reduceBEq,Int.reduceBNe,Int.reduceLT,Int.reduceLE,Int.reduceGT,Int.reduceGE,Int.reduceNeg,hBW.c2,d4]
   refine ⟨?_,E1⟩
   unfold sizeB
   simp [h4]
end Go.Proofs.YtiajhbbmgglmlaaGreat
namespace Go.Proofs.YtiajhbbmgglmlaaGreat
open Sw
open Go.RowKit (intOf Below)
def sumT (f:TermD→Int):List TermD→Int
 | []=>0
 | t::ts=>t.factor*f t+sumT f ts
def rngT (rp:List (ByteArray×Int×Int)) (t:TermD):Int×Int:=(lastR rp t.field).getD (0,0)
def mixT (rp:List (ByteArray×Int×Int)) (mix i:Nat) (t:TermD):Int:=if mix / 2 ^ i % 2=1 then (rngT rp t).2 else (rngT rp t).1
def mixS (rp:List (ByteArray×Int×Int)) (mix:Nat):Nat→List TermD→Int
 | _,[]=>0
 | i,t::ts=>t.factor*mixT rp mix i t+mixS rp mix (i+1) ts
section
variable {rp:List (ByteArray×Int×Int)}
theorem mixS_choice (b:TermD→Bool):∀ ts:List TermD,∃ mix:Nat,mix < 2 ^ ts.length∧∀ i r:Nat,r < 2 ^ i→mixS rp (mix*2 ^ i+r) i ts=sumT (fun t=>if b t then (rngT rp t).2 else (rngT rp t).1) ts
 | []=>⟨0,by simp,fun i r _=>rfl⟩
 | t::ts=>by
  obtain ⟨mix,h1,h2⟩:=mixS_choice b ts
  refine ⟨mix*2+(if b t then 1 else 0),?_,fun i r hr=>?_⟩
  · rw [List.length_cons,Nat.pow_succ]
    split<;>omega
  · have hd:((mix*2+(if b t then 1 else 0))*2 ^ i+r) / 2 ^ i=mix*2+(if b t then 1 else 0):=by
     rw [Nat.mul_comm _ (2 ^ i),Nat.mul_add_div (Nat.two_pow_pos i),Nat.div_eq_of_lt hr,Nat.add_zero]
    have hm:(mix*2+(if b t then 1 else 0)) % 2=if b t then 1 else 0:=by split<;>omega
    have he:(mix*2+(if b t then 1 else 0))*2 ^ i+r=mix*2 ^ (i+1)+((if b t then 1 else 0)*2 ^ i+r):=by
     rw [Nat.add_mul,Nat.pow_succ,Nat.mul_assoc,Nat.mul_comm 2 (2 ^ i)];omega
    have hr':(if b t then 1 else 0)*2 ^ i+r < 2 ^ (i+1):=by
     rw [Nat.pow_succ];split<;>omega
    simp only [mixS,sumT]
    have h3:=h2 (i+1) _ hr'
    rw [← he] at h3
    rw [h3]
    unfold mixT
    rw [hd,hm]
    cases b t<;>rfl
theorem mixS_le {ts:List TermD} {f g:TermD→Int} (hf:∀ t∈ts,t.factor*f t≤t.factor*(rngT rp t).1∧t.factor*f t≤t.factor*(rngT rp t).2) (hg:∀ t∈ts,t.factor*(rngT rp t).1≤t.factor*g t∧t.factor*(rngT rp t).2≤t.factor*g t) (mix:Nat):∀ i,sumT f ts≤mixS rp mix i ts∧mixS rp mix i ts≤sumT g ts:=by
 induction ts with
 | nil=>intro i;exact ⟨Int.le_refl _,Int.le_refl _⟩
 | cons t ts ih =>
  intro i
  have h1:=hf t List.mem_cons_self
  have h2:=hg t List.mem_cons_self
  have h3:=ih (fun t ht=>hf t (List.mem_cons_of_mem _ ht)) (fun t ht=>hg t (List.mem_cons_of_mem _ ht)) (i+1)
  simp only [sumT,mixS]
  unfold mixT
  split<;>omega
theorem sumT_congr {ts:List TermD} {f g:TermD→Int} (h:∀ t∈ts,f t=g t):sumT f ts=sumT g ts:=by
 induction ts with
 | nil=>rfl
 | cons t ts ih =>
  simp only [sumT]
  rw [h t List.mem_cons_self,ih (fun t ht=>h t (List.mem_cons_of_mem _ ht))]
theorem mul_bound {a b:Int} (h1 : -1048576≤a) (h2:a≤1048576) (h3:0≤b) (h4:b≤34359738368) : -36028797018963968≤a*b∧a*b≤36028797018963968:=by
 have a1:a*b≤1048576*b:=Int.mul_le_mul_of_nonneg_right h2 h3
 have a2 : -1048576*b≤a*b:=Int.mul_le_mul_of_nonneg_right h1 h3
 omega
def Small4 (rp:List (ByteArray×Int×Int)) (t:TermD):Prop := -1048576≤t.factor∧t.factor≤1048576∧0≤(rngT rp t).1∧(rngT rp t).1≤(rngT rp t).2∧(rngT rp t).2≤34359738368
theorem numW_sum {f:TermD→Int}:∀ (ts:List TermD) (n:Int),(∀ t∈ts,-36028797018963968≤t.factor*f t∧t.factor*f t≤36028797018963968) → -4611686018427387904≤n - ts.length*36028797018963968→n+ts.length*36028797018963968≤4611686018427387904→numW n f ts=n+sumT f ts
 | [],n,_,_,_=>by simp [numW,sumT]
 | t::ts,n,h,h1,h2=>by
  have h3:=h t List.mem_cons_self
  simp only [List.length_cons] at h1 h2
  have e1:IntKind.i64.wrap (t.factor*f t)=t.factor*f t:=wrap_ok (by omega) (by omega)
  have e2:IntKind.i64.wrap (n+t.factor*f t)=n+t.factor*f t:=wrap_ok (by omega) (by omega)
  have ih:=numW_sum (f:=f) ts (n+t.factor*f t) (fun t ht=>h t (List.mem_cons_of_mem _ ht)) (by omega) (by omega)
  simp only [numW,List.foldl_cons,sumT] at ih ⊢
  rw [e1,e2,ih]
  omega
theorem endF_rng {t:TermD} (h:(lastR rp t.field).isSome=true) (least:Bool):endF rp least t=if least == decide (t.factor > 0) then (rngT rp t).1 else (rngT rp t).2:=by
 unfold endF rngT
 obtain ⟨q,hq⟩:=Option.isSome_iff_exists.1 h
 rw [hq]
 rfl
theorem end_le {t:TermD} (h:(lastR rp t.field).isSome=true) (hs:Small4 rp t):t.factor*endF rp true t≤t.factor*(rngT rp t).1∧t.factor*endF rp true t≤t.factor*(rngT rp t).2:=by
 rw [endF_rng h]
 by_cases hp:t.factor > 0
 · have:t.factor*(rngT rp t).1≤t.factor*(rngT rp t).2:=Int.mul_le_mul_of_nonneg_left hs.2.2.2.1 (by omega)
   simp only [hp,decide_true,BEq.rfl,if_true]
   omega
 · have:t.factor*(rngT rp t).2≤t.factor*(rngT rp t).1:=Int.mul_le_mul_of_nonpos_left (by omega) hs.2.2.2.1
   rw [show (true == decide (t.factor > 0))=false by simp [hp],if_neg (by decide)]
   omega
theorem end_ge {t:TermD} (h:(lastR rp t.field).isSome=true) (hs:Small4 rp t):t.factor*(rngT rp t).1≤t.factor*endF rp false t∧t.factor*(rngT rp t).2≤t.factor*endF rp false t:=by
 rw [endF_rng h]
 by_cases hp:t.factor > 0
 · have:t.factor*(rngT rp t).1≤t.factor*(rngT rp t).2:=Int.mul_le_mul_of_nonneg_left hs.2.2.2.1 (by omega)
   rw [show (false == decide (t.factor > 0))=false by simp [hp],if_neg (by decide)]
   omega
 · have:t.factor*(rngT rp t).2≤t.factor*(rngT rp t).1:=Int.mul_le_mul_of_nonpos_left (by omega) hs.2.2.2.1
   rw [show (false == decide (t.factor > 0))=true by simp [hp],if_pos rfl]
   omega
theorem end_in {t:TermD} (h:(lastR rp t.field).isSome=true) (hs:Small4 rp t) (least:Bool) : -36028797018963968≤t.factor*endF rp least t∧t.factor*endF rp least t≤36028797018963968:=by
 obtain ⟨h1,h2,h3,h4,h5⟩:=hs
 rw [endF_rng h]
 split
 · exact mul_bound h1 h2 h3 (by omega)
 · exact mul_bound h1 h2 (by omega) h5
theorem mix_least {ts:List TermD} (h:∀ t∈ts,(lastR rp t.field).isSome=true∧Small4 rp t):(∀ mix,sumT (endF rp true) ts≤mixS rp mix 0 ts∧mixS rp mix 0 ts≤sumT (endF rp false) ts)∧(∃ mix,mix < 2 ^ ts.length∧mixS rp mix 0 ts=sumT (endF rp true) ts)∧(∃ mix,mix < 2 ^ ts.length∧mixS rp mix 0 ts=sumT (endF rp false) ts):=by
 refine ⟨fun mix=>mixS_le (fun t ht=>end_le (h t ht).1 (h t ht).2) (fun t ht=>end_ge (h t ht).1 (h t ht).2) mix 0,?_,?_⟩
 · obtain ⟨mix,h1,h2⟩:=mixS_choice (rp:=rp) (fun t=>!(true == decide (t.factor > 0))) ts
   refine ⟨mix,h1,?_⟩
   have:=h2 0 0 (by decide)
   rw [Nat.pow_zero,Nat.mul_one,Nat.add_zero] at this
   rw [this]
   refine sumT_congr fun t ht=>?_
   rw [endF_rng (h t ht).1]
   cases (true == decide (t.factor > 0))<;>rfl
 · obtain ⟨mix,h1,h2⟩:=mixS_choice (rp:=rp) (fun t=>!(false == decide (t.factor > 0))) ts
   refine ⟨mix,h1,?_⟩
   have:=h2 0 0 (by decide)
   rw [Nat.pow_zero,Nat.mul_one,Nat.add_zero] at this
   rw [this]
   refine sumT_congr fun t ht=>?_
   rw [endF_rng (h t ht).1]
   cases (false == decide (t.factor > 0))<;>rfl
end
theorem op_shr {P:Program} {QP:List PanicEntry→World→Prop} {w:World} {k:Value→World→Prop} (t:TypeId) (c:Bool) (x:Nat) (yk:IntKind) (y:Nat) (h1:y≤64):opV P (binS .shr t c (.int .i64 (x:Int)) (.int yk (y:Int))) QP w k=k (.int .i64 ((x / 2 ^ y:Nat):Int)) w:=opV_ok (by
 have h0:(0:Int)≤(y:Int):=by omega
 have h2:(y:Int)≤64:=by omega
 have h3:(x:Int).fdiv (2 ^ y)=((x / 2 ^ y:Nat):Int):=by
  rw [Int.fdiv_eq_ediv_of_nonneg _ (by exact Int.le_of_lt (Int.pow_pos (by decide)))]
  simp
 simp [binS,go_sem,h0,h2,h3])
abbrev ranCells (p:ByteArray×Int×Int):List Value:=[.string p.1,.int .i64 p.2.1,.int .i64 p.2.2]
def ERan (_:World) (cs:List Value) (p:ByteArray×Int×Int):Prop:=cs=ranCells p
theorem keptRan:Kept ERan:=fun _ _ _ _ _ h=>h
def RansOf (w:World) (v:Value) (l:List (ByteArray×Int×Int)):Prop:=SliceOf w 3 ERan v l
theorem RansOf.ext {w w':World} {v:Value} {l:List (ByteArray×Int×Int)} (h:RansOf w v l) (e:Ext w w'):RansOf w' v l:=SliceOf.ext keptRan h e
def LastAt (rp:List (ByteArray×Int×Int)) (s:ByteArray) (a:Int):Prop:=(a = -1∧lastR rp s=none)∨∃ (j:Nat) (q:Int×Int),a=j∧rp[j]?=some (s,q)∧lastR rp s=some q
theorem lastR_snoc (ps:List (ByteArray×Int×Int)) (p:ByteArray×Int×Int) (s:ByteArray):lastR (ps++[p]) s=if p.1=s then some p.2 else lastR ps s:=lastP_snoc ps p s
theorem LastAt.step {rp:List (ByteArray×Int×Int)} {s:ByteArray} {a:Int} {k:Nat} {p:ByteArray×Int×Int} (h:LastAt (rp.take k) s a) (hk:rp[k]?=some p):LastAt (rp.take (k+1)) s (if p.1=s then (k:Int) else a):=by
 have hlt:=(List.getElem?_eq_some_iff.1 hk).1
 by_cases he:p.1=s
 · rw [if_pos he]
   refine .inr ⟨k,p.2,rfl,?_,?_⟩
   · rw [List.getElem?_take,if_pos (by omega),hk,← he]
   · rw [take_snoc hk,lastR_snoc,if_pos he]
 · rw [if_neg he]
   rcases h with ⟨h1,h2⟩ | ⟨j,q,h1,h2,h3⟩
   · exact .inl ⟨h1,by rw [take_snoc hk,lastR_snoc,if_neg he];exact h2⟩
   · refine .inr ⟨j,q,h1,?_,by rw [take_snoc hk,lastR_snoc,if_neg he];exact h3⟩
     rw [List.getElem?_take] at h2 ⊢
     split at h2
     · rw [if_pos (by omega)];exact h2
     · cases h2
theorem rFindRange_ret (w0:World) (v:Value) (rp:List (ByteArray×Int×Int)) (s:ByteArray) (hs:RansOf w0 v rp):Ret Pg 110 #[v,.string s] w0 fun r w'=>(∃ a,r = .int .i64 a∧LastAt rp s a)∧Ext w0 w':=by
 obtain ⟨A,c,rfl,hlc,hcm,hlm,hel⟩:=SliceOf.open hs
 refine n9s (R:=retR _) ?_;unfold n9
 refine loop2_intro (fun a0 a1 w=>∃ (k:Nat) (a:Int),a0 = .int .i64 a∧a1 = .int .i64 (k:Int)∧k≤rp.length∧Ext w0 w∧LastAt (rp.take k) s a) (fun a0 a1 _=>rp.length - (intOf a1).toNat) ⟨0,-1,rfl,rfl,Nat.zero_le _,ee,.inl ⟨rfl,rfl⟩⟩ ?_
 rintro _ _ w ⟨k,a,rfl,rfl,hk,e,hI⟩
 have se:=e.size
 rcases drop_cases hk with ⟨x,hx,hd,hlt,hdec⟩ | ⟨hk,hd,hdec⟩
 · obtain ⟨b,o,cs,rfl,hl,hA,rfl⟩:=hel k x hx
   have hst:=hI.step hx
   unfold n9c2
   simp (disch:=try exact DI) only [↓PR,QR,Int.reduceBEq,Int.reduceBNe,Int.reduceLT,Int.reduceLE,Int.reduceGT,Int.reduceGE,Int.reduceNeg,hdec]
   unfold n9c1
   by_cases he:x.1=s
   · rw [if_pos he] at hst
     simp (disch:=try exact DI) only [↓PR,QR,Int.reduceBEq,Int.reduceBNe,Int.reduceLT,Int.reduceLE,Int.reduceGT,Int.reduceGE,Int.reduceNeg,(hA.c3 e).1,show decide (x.1=s)=true by simp [he]]
     exact ⟨⟨k+1,(k:Int),rfl,rfl,by omega,ee,hst⟩,meas_lt hlt⟩
   · rw [if_neg he] at hst
     simp (disch:=try exact DI) only [↓PR,QR,Int.reduceBEq,Int.reduceBNe,Int.reduceLT,Int.reduceLE,Int.reduceGT,Int.reduceGE,Int.reduceNeg,(hA.c3 e).1,show decide (x.1=s)=false by simp [he]]
     exact ⟨⟨k+1,a,rfl,rfl,by omega,ee,hst⟩,meas_lt hlt⟩
 · subst hk
   rw [List.take_length] at hI
   unfold n9c2
   simp (disch:=try exact DI) only [↓PR,QR,Int.reduceBEq,Int.reduceBNe,Int.reduceLT,Int.reduceLE,Int.reduceGT,Int.reduceGE,Int.reduceNeg,hdec]
   exact ⟨⟨_,rfl,hI⟩,e⟩
theorem name_ne {s:ByteArray} (h:nameB s=true):s≠ByteArray.empty:=by
 rintro rfl
 exact absurd h (by decide)
theorem checked_all {rp:List (ByteArray×Int×Int)}:∀ (ts:List TermD) (no:Bool),(∀ t∈ts,t.field≠ByteArray.empty∧(lastR rp t.field).isSome=true)→checkedF ByteArray.empty (RP rp) wideV ts no=if ts.all (fun t=>wideB (rngT rp t).1 (rngT rp t).2) then (if no then 9 else 0) else 2
 | [],no,_=>rfl
 | t::ts,no,h=>by
  obtain ⟨h1,h2⟩:=h t List.mem_cons_self
  have ih:=checked_all (rp:=rp) ts no (fun t ht=>h t (List.mem_cons_of_mem _ ht))
  obtain ⟨q,hq⟩:=Option.isSome_iff_exists.1 h2
  have hr:rngT rp t=q:=by unfold rngT;rw [hq];rfl
  simp only [checkedF,if_neg h1,lastOf_RP,hq,Option.map_some,List.all_cons,hr]
  have hw:wideV (rangeVal q.1 q.2)=wideB q.1 q.2:=rfl
  rw [hw]
  cases wideB q.1 q.2 with
  | false=>rfl
  | true=>simpa using ih
theorem terms_names {base:Int} {ts:List TermD} (h:sizeB base ts=true):smallB base=true∧ts.length≤4∧∀ t∈ts,termB t=true:=by
 unfold sizeB at h
 simp only [Bool.and_eq_true,decide_eq_true_eq] at h
 refine ⟨h.1.1,h.1.2,fun t ht=>?_⟩
 obtain ⟨k,hk⟩:=List.getElem?_of_mem ht
 have:=(termsB_iff ts []).1 h.2 k t hk
 simp only [Bool.or_eq_false_iff,Bool.not_eq_false'] at this
 exact this.2
def ivOf (base:Int) (ts:List TermD) (rp:List (ByteArray×Int×Int)):Value := .tuple #[.int .i64 (intervalL base ts rp),.int .i64 (intervalH base ts rp),.int .i64 (intervalE base ts rp)]
theorem iv_bad {base:Int} {ts:List TermD} {rp:List (ByteArray×Int×Int)} (h:intervalE base ts rp=2):ivOf base ts rp = .tuple #[.int .i64 0,.int .i64 0,.int .i64 2]:=by
 unfold ivOf intervalL intervalH
 rw [h]
 rfl
theorem iv_fine {base:Int} {ts:List TermD} {rp:List (ByteArray×Int×Int)} (hs:sizeB base ts=true) (hin:∀ t∈ts,(lastR rp t.field).isSome=true) (hw:∀ t∈ts,wideB (rngT rp t).1 (rngT rp t).2=true):(∀ t∈ts,Small4 rp t)∧ivOf base ts rp = .tuple #[.int .i64 (base+sumT (endF rp true) ts),.int .i64 (base+sumT (endF rp false) ts),.int .i64 0]:=by
 obtain ⟨h1,h2,h3⟩:=terms_names hs
 have h4:∀ t∈ts,Small4 rp t:=fun t ht=>by
  have a:=h3 t ht
  have b:=hw t ht
  unfold termB smallB at a
  unfold wideB at b
  simp only [Bool.and_eq_true,decide_eq_true_eq] at a b
  exact ⟨a.2.1,a.2.2,b.1.1,b.1.2,by omega⟩
 have hb : -1048576≤base∧base≤1048576:=by unfold smallB at h1;simpa using h1
 have hE:intervalE base ts rp=0:=by
  unfold intervalE
  rw [if_pos hs,checked_all ts false (fun t ht=>⟨name_ne (by have:=h3 t ht;unfold termB at this;simp only [Bool.and_eq_true] at this;exact this.1.1),hin t ht⟩),if_pos (by rw [List.all_eq_true];exact hw)]
  rfl
 refine ⟨h4,?_⟩
 unfold ivOf intervalL intervalH
 rw [hE,if_pos rfl,if_pos rfl,numW_sum ts base (fun t ht=>end_in (hin t ht) (h4 t ht) true) (by omega) (by omega),numW_sum ts base (fun t ht=>end_in (hin t ht) (h4 t ht) false) (by omega) (by omega)]
theorem iv_wide {base:Int} {ts:List TermD} {rp:List (ByteArray×Int×Int)} (hs:sizeB base ts=true) (hin:∀ t∈ts,(lastR rp t.field).isSome=true) {t:TermD} (ht:t∈ts) (hw:wideB (rngT rp t).1 (rngT rp t).2=false):ivOf base ts rp = .tuple #[.int .i64 0,.int .i64 0,.int .i64 2]:=by
 obtain ⟨h1,h2,h3⟩:=terms_names hs
 refine iv_bad ?_
 unfold intervalE
 rw [if_pos hs,checked_all ts false (fun t ht=>⟨name_ne (by have:=h3 t ht;unfold termB at this;simp only [Bool.and_eq_true] at this;exact this.1.1),hin t ht⟩),if_neg (by rw [List.all_eq_true];intro h;rw [h t ht] at hw;cases hw)]
end Go.Proofs.YtiajhbbmgglmlaaGreat
namespace Go.Proofs.YtiajhbbmgglmlaaGreat
open Sw
open Go.RowKit (intOf Below)
theorem rng_some {rp:List (ByteArray×Int×Int)} {t:TermD} {q:Int×Int} (h:lastR rp t.field=some q):rngT rp t=q:=by unfold rngT;rw [h];rfl
theorem rInterval_ret (w0:World) (v rv:Value) (base:Int) (ts:List TermD) (rp:List (ByteArray×Int×Int)) (hs:SizeVal w0 v base ts) (hR:RansOf w0 rv rp) (hin:∀ t∈ts,(lastR rp t.field).isSome=true):Ret Pg 74 #[v,rv] w0 fun r w'=>r=ivOf base ts rp∧Ext w0 w':=by
 obtain ⟨tv,rfl,hT⟩:=hs
 have hS1:=hT
 obtain ⟨A,c,rfl,hlc,hcm,hlm,hel⟩:=SliceOf.open hT
 obtain ⟨A2,c2,rfl,hlc2,hcm2,hlm2,hel2⟩:=SliceOf.open hR
 refine n10s (R:=retR _) ?_;unfold n10
 simp (disch:=try exact DI) only [↓PR,QR,Int.reduceBEq,Int.reduceBNe,Int.reduceLT,Int.reduceLE,Int.reduceGT,Int.reduceGE,Int.reduceNeg]
 have hBW:=ElemAt.new (w:=w0) ([.int .i64 base,.slice A ts.length c]) (49)
 have eW:Ext w0 (w0.alloc (Obj.cells (List.toArray ([.int .i64 base,.slice A ts.length c])) (49))):=(Ext.refl _).alloc _
 generalize (w0.alloc (Obj.cells (List.toArray ([.int .i64 base,.slice A ts.length c])) (49)))=W at hBW eW ⊢
 refine zcr (rSizeValid_ret _ _ base ts ⟨_,rfl,hS1.ext eW⟩) fun w1 e1=>?_
 have E1:=eW.trans e1
 unfold n10c15
 cases hsz:sizeB base ts with
 | false =>
  simp (disch:=try exact DI) only [↓PR,QR,Int.reduceBEq,Int.reduceBNe,Int.reduceLT,Int.reduceLE,Int.reduceGT,Int.reduceGE,Int.reduceNeg]
  refine ⟨?_,E1⟩
  rw [iv_bad (by unfold intervalE;rw [hsz];rfl)]
 | true =>
 obtain ⟨hb,h4,hterm⟩:=terms_names hsz
 simp (disch:=try exact DI) only [↓PR,QR,Int.reduceBEq,Int.reduceBNe,Int.reduceLT,Int.reduceLE,Int.reduceGT,Int.reduceGE,Int.reduceNeg]
 refine loop2_intro (fun a0 a1 w=>∃ (k:Nat) , a0 = .bool false∧a1 = .int .i64 (k:Int)∧k≤ts.length∧Ext w1 w∧∀ j t,j < k→ts[j]?=some t→wideB (rngT rp t).1 (rngT rp t).2=true) (fun a0 a1 _=>ts.length - (intOf a1).toNat) ⟨0,rfl,rfl,Nat.zero_le _,ee,by intro j x h;omega⟩ ?_
 rintro _ _ w ⟨k,rfl,rfl,hk,e,hI⟩
 have se:=e.size
 rcases drop_cases hk with ⟨x,hx,hd,hlt,hdec⟩ | ⟨hk,hd,hdec⟩
 · obtain ⟨b,o,cs,rfl,hl,hA,rfl⟩:=hel k x hx
   have E:=E1.trans e
   have f:=e1.trans e
   unfold n10c14
   simp (disch:=try exact DI) only [↓PR,QR,Int.reduceBEq,Int.reduceBNe,Int.reduceLT,Int.reduceLE,Int.reduceGT,Int.reduceGE,Int.reduceNeg,hBW.c2,hdec]
   unfold n10c13
   simp (disch:=try exact DI) only [↓PR,QR,Int.reduceBEq,Int.reduceBNe,Int.reduceLT,Int.reduceLE,Int.reduceGT,Int.reduceGE,Int.reduceNeg,hBW.c2,(hA.c2 E).1]
   refine callK_ret (rFindRange_ret _ _ rp x.field (hR.ext E)) ?_
   rintro _ w2 ⟨⟨a,rfl,ha⟩,e2⟩
   have hxm:=List.mem_of_getElem? hx
   rcases ha with ⟨rfl,hno⟩ | ⟨j,q,rfl,hj,hq⟩
   · have:=hin x hxm
     rw [hno] at this;cases this
   obtain ⟨b',o',cs',rfl,_,hB,rfl⟩:=hel2 j _ hj
   have hjl:(j:Int) < (rp.length:Int):=by have:=(List.getElem?_eq_some_iff.1 hj).1;omega
   have E2:=E.trans e2
   have hq':=rng_some hq
   have d0:decide ((j:Int) < 0)=false:=by simp
   have stop:wideB q.1 q.2=false→(Value.tuple #[.int .i64 0,.int .i64 0,.int .i64 2])=ivOf base ts rp:=fun h=>(iv_wide hsz hin hxm (by rw [hq'];exact h)).symm
   simp (disch:=try exact DI) only [↓PR,QR,Int.reduceBEq,Int.reduceBNe,Int.reduceLT,Int.reduceLE,Int.reduceGT,Int.reduceGE,Int.reduceNeg,d0]
   refine drawK_intro ?_
   unfold n10c2
   by_cases h1:q.1 < 0
   · have d1:decide (q.1 < 0)=true:=by simpa using h1
     simp (disch:=try exact DI) only [↓PR,QR,Int.reduceBEq,Int.reduceBNe,Int.reduceLT,Int.reduceLE,Int.reduceGT,Int.reduceGE,Int.reduceNeg,(hB.c3 E2).1,(hB.c3 E2).2,d1]
     unfold n10c1
     simp (disch:=try exact DI) only [↓PR,QR,Int.reduceBEq,Int.reduceBNe,Int.reduceLT,Int.reduceLE,Int.reduceGT,Int.reduceGE,Int.reduceNeg]
     exact ⟨stop (by unfold wideB;simp;omega),ee⟩
   have d1:decide (q.1 < 0)=false:=by simpa using h1
   by_cases h2:q.1 > q.2
   · have d2:decide (q.1 > q.2)=true:=by simpa using h2
     simp (disch:=try exact DI) only [↓PR,QR,Int.reduceBEq,Int.reduceBNe,Int.reduceLT,Int.reduceLE,Int.reduceGT,Int.reduceGE,Int.reduceNeg,(hB.c3 E2).1,(hB.c3 E2).2,d1,d2]
     unfold n10c1
     simp (disch:=try exact DI) only [↓PR,QR,Int.reduceBEq,Int.reduceBNe,Int.reduceLT,Int.reduceLE,Int.reduceGT,Int.reduceGE,Int.reduceNeg]
     exact ⟨stop (by unfold wideB;simp;omega),ee⟩
   have d2:decide (q.1 > q.2)=false:=by simpa using h2
   by_cases h3:q.2≥34359738368
   · have d3:decide (q.2≥34359738368)=true:=by simpa using h3
     simp (disch:=try exact DI) only [↓PR,QR,Int.reduceBEq,Int.reduceBNe,Int.reduceLT,Int.reduceLE,Int.reduceGT,Int.reduceGE,Int.reduceNeg,(hB.c3 E2).1,(hB.c3 E2).2,d1,d2,d3]
     unfold n10c1
     simp (disch:=try exact DI) only [↓PR,QR,Int.reduceBEq,Int.reduceBNe,Int.reduceLT,Int.reduceLE,Int.reduceGT,Int.reduceGE,Int.reduceNeg,(hB.c3 E2).1,(hB.c3 E2).2,d3]
     exact ⟨stop (by unfold wideB;simp;omega),ee⟩
   have d3:decide (q.2≥34359738368)=false:=by simpa using h3
   simp (disch:=try exact DI) only [↓PR,QR,Int.reduceBEq,Int.reduceBNe,Int.reduceLT,Int.reduceLE,Int.reduceGT,Int.reduceGE,Int.reduceNeg,(hB.c3 E2).1,(hB.c3 E2).2,d1,d2,d3]
   unfold n10c1
   simp (disch:=try exact DI) only [↓PR,QR,Int.reduceBEq,Int.reduceBNe,Int.reduceLT,Int.reduceLE,Int.reduceGT,Int.reduceGE,Int.reduceNeg,(hB.c3 E2).1,(hB.c3 E2).2,d3]
   refine ⟨⟨k+1,by first | trivial | rfl,by first | trivial | rfl,by omega,e.trans e2.wdrew,fun i z hi hz=>?_⟩,meas_lt hlt⟩
   by_cases hij:i=k
   · subst hij;rw [hx] at hz;injection hz with hz;subst hz;rw [hq'];unfold wideB;simp;omega
   · exact hI i z (by omega) hz
 · subst hk
   have E:=E1.trans e
   have f:=e1.trans e
   obtain ⟨hsm,hiv⟩:=iv_fine hsz hin (fun t ht=>by obtain ⟨j,hj⟩:=List.getElem?_of_mem ht;exact hI j t (List.getElem?_eq_some_iff.1 hj).1 hj)
   rw [hiv]
   clear hiv hI
   unfold n10c14
   simp (disch:=try exact DI) only [↓PR,QR,Int.reduceBEq,Int.reduceBNe,Int.reduceLT,Int.reduceLE,Int.reduceGT,Int.reduceGE,Int.reduceNeg,hBW.c2,hdec]
   unfold n10c12
   simp (disch:=try exact DI) only [↓PR,QR,Int.reduceBEq,Int.reduceBNe,Int.reduceLT,Int.reduceLE,Int.reduceGT,Int.reduceGE,Int.reduceNeg]
   obtain ⟨hall,⟨mL,hmL,hvL⟩,⟨mH,hmH,hvH⟩⟩:=mix_least (rp:=rp) (ts:=ts) (fun t ht=>⟨hin t ht,hsm t ht⟩)
   have hp16:2 ^ ts.length≤16:=by
    have:(2:Nat) ^ ts.length≤2 ^ 4:=Nat.pow_le_pow_right (by decide) h4
    exact this
   have hpow:IntKind.i64.wrap (1*2 ^ ((ts.length:Int)).toNat)=((2 ^ ts.length:Nat):Int):=by
    rw [Int.toNat_natCast,Int.one_mul]
    rw [show ((2:Int) ^ ts.length)=((2 ^ ts.length:Nat):Int) by simp]
    exact wrap_ok (by omega) (by omega)
   have hbase : -1048576≤base∧base≤1048576:=by unfold smallB at hb;simpa using hb
   refine loop3_intro (fun x y i w'=>∃ (lo hi:Int) (mix:Nat),x = .int .i64 lo∧y = .int .i64 hi∧i = .int .i64 mix∧mix≤2 ^ ts.length∧Ext w0 w'∧Ext W w'∧(mix≠0→base+sumT (endF rp true) ts≤lo∧hi≤base+sumT (endF rp false) ts)∧∀ j,j < mix→lo≤base+mixS rp j 0 ts∧base+mixS rp j 0 ts≤hi) (fun _ _ i _=>2 ^ ts.length - (intOf i).toNat) ⟨0,0,0,rfl,rfl,rfl,Nat.zero_le _,E,f,by simp,by intro j h;omega⟩ ?_
   rintro _ _ _ w3 ⟨lo,hi,mix,rfl,rfl,rfl,hmix,E3,f3,hLH,hall3⟩
   unfold n10c11
   by_cases hm:mix < 2 ^ ts.length
   · have d1:decide ((mix:Int) < ((2 ^ ts.length:Nat):Int))=true:=by simp only [decide_eq_true_eq];exact Int.ofNat_lt.2 hm
     simp (disch:=try exact DI) only [↓PR,QR,Int.reduceBEq,Int.reduceBNe,Int.reduceLT,Int.reduceLE,Int.reduceGT,Int.reduceGE,Int.reduceNeg,hBW.c2,hpow,d1]
     unfold n10c10
     simp (disch:=try exact DI) only [↓PR,QR,Int.reduceBEq,Int.reduceBNe,Int.reduceLT,Int.reduceLE,Int.reduceGT,Int.reduceGE,Int.reduceNeg,hBW.c2]
     have hnext:∀ (n:Int) (w':World),n=base+mixS rp mix 0 ts→Ext w3 w'→n10c7 (.int .i64 lo) (.int .i64 hi) (.int .i64 (mix:Int)) (.int .i64 n) (fun t10 t11 t12 w'=>(∃ (lo hi:Int) (mix:Nat),t10 = .int .i64 lo∧t11 = .int .i64 hi∧t12 = .int .i64 mix∧mix≤2 ^ ts.length∧Ext w0 w'∧Ext W w'∧(mix≠0→base+sumT (endF rp true) ts≤lo∧hi≤base+sumT (endF rp false) ts)∧∀ j,j < mix→lo≤base+mixS rp j 0 ts∧base+mixS rp j 0 ts≤hi)∧2 ^ ts.length - (intOf t12).toNat < 2 ^ ts.length - (intOf (.int .i64 (mix:Int))).toNat) (retR fun r w'=>r=Value.tuple #[.int .i64 (base+sumT (endF rp true) ts),.int .i64 (base+sumT (endF rp false) ts),.int .i64 0]∧Ext w0 w') w':=by
      intro n w' hn e'
      have hv:=hall mix
      have hw:IntKind.i64.wrap ((mix:Int)+1)=((mix+1:Nat):Int):=by rw [wrap_ok (by omega) (by omega)];omega
      have hgo:∀ lo' hi':Int,(base+sumT (endF rp true) ts≤lo'∧hi'≤base+sumT (endF rp false) ts)→(lo'≤n∧n≤hi')→(∀ j,j < mix→lo'≤base+mixS rp j 0 ts∧base+mixS rp j 0 ts≤hi')→(∃ (lo hi:Int) (mix_1:Nat),Value.int .i64 lo' = .int .i64 lo∧Value.int .i64 hi' = .int .i64 hi∧Value.int .i64 ((mix+1:Nat):Int) = .int .i64 mix_1∧mix_1≤2 ^ ts.length∧Ext w0 w'∧Ext W w'∧(mix_1≠0→base+sumT (endF rp true) ts≤lo∧hi≤base+sumT (endF rp false) ts)∧∀ j,j < mix_1→lo≤base+mixS rp j 0 ts∧base+mixS rp j 0 ts≤hi)∧2 ^ ts.length - (intOf (Value.int .i64 ((mix+1:Nat):Int))).toNat < 2 ^ ts.length - (intOf (.int .i64 (mix:Int))).toNat:=by
       intro lo' hi' h1 h2 h3
       refine ⟨⟨lo',hi',mix+1,rfl,rfl,rfl,hm,E3.trans e',f3.trans e',fun _=>h1,fun j hj=>?_⟩,meas_lt hm⟩
       by_cases hjm:j=mix
       · subst hjm;rw [← hn];exact h2
       · exact h3 j (by omega)
      unfold n10c7
      by_cases hz:mix=0
      · subst hz
        simp (disch:=try exact DI) only [↓PR,QR,Int.reduceBEq,Int.reduceBNe,Int.reduceLT,Int.reduceLE,Int.reduceGT,Int.reduceGE,Int.reduceNeg]
        unfold n10c6
        simp (disch:=try exact DI) only [↓PR,QR,Int.reduceBEq,Int.reduceBNe,Int.reduceLT,Int.reduceLE,Int.reduceGT,Int.reduceGE,Int.reduceNeg]
        unfold n10c5
        simp (disch:=try exact DI) only [↓PR,QR,Int.reduceBEq,Int.reduceBNe,Int.reduceLT,Int.reduceLE,Int.reduceGT,Int.reduceGE,Int.reduceNeg]
        exact hgo n n (by omega) (by omega) (by intro j hj;omega)
      · have d2:((mix:Int) == 0)=false:=by simp;omega
        have hl:=hLH hz
        by_cases hlo:n < lo
        · have d3:decide (n < lo)=true:=by simpa using hlo
          simp (disch:=try exact DI) only [↓PR,QR,Int.reduceBEq,Int.reduceBNe,Int.reduceLT,Int.reduceLE,Int.reduceGT,Int.reduceGE,Int.reduceNeg,d2,d3]
          unfold n10c6
          by_cases hhi:n > hi
          · have d4:decide (n > hi)=true:=by simpa using hhi
            simp (disch:=try exact DI) only [↓PR,QR,Int.reduceBEq,Int.reduceBNe,Int.reduceLT,Int.reduceLE,Int.reduceGT,Int.reduceGE,Int.reduceNeg,d2,d4]
            unfold n10c5
            simp (disch:=try exact DI) only [↓PR,QR,Int.reduceBEq,Int.reduceBNe,Int.reduceLT,Int.reduceLE,Int.reduceGT,Int.reduceGE,Int.reduceNeg]
            exact hgo n n (by omega) (by omega) (fun j hj=>by have:=hall3 j hj;omega)
          · have d4:decide (n > hi)=false:=by simpa using hhi
            simp (disch:=try exact DI) only [↓PR,QR,Int.reduceBEq,Int.reduceBNe,Int.reduceLT,Int.reduceLE,Int.reduceGT,Int.reduceGE,Int.reduceNeg,d2,d4]
            unfold n10c5
            simp (disch:=try exact DI) only [↓PR,QR,Int.reduceBEq,Int.reduceBNe,Int.reduceLT,Int.reduceLE,Int.reduceGT,Int.reduceGE,Int.reduceNeg]
            exact hgo n hi (by omega) (by omega) (fun j hj=>by have:=hall3 j hj;omega)
        · have d3:decide (n < lo)=false:=by simpa using hlo
          simp (disch:=try exact DI) only [↓PR,QR,Int.reduceBEq,Int.reduceBNe,Int.reduceLT,Int.reduceLE,Int.reduceGT,Int.reduceGE,Int.reduceNeg,d2,d3]
          unfold n10c6
          by_cases hhi:n > hi
          · have d4:decide (n > hi)=true:=by simpa using hhi
            simp (disch:=try exact DI) only [↓PR,QR,Int.reduceBEq,Int.reduceBNe,Int.reduceLT,Int.reduceLE,Int.reduceGT,Int.reduceGE,Int.reduceNeg,d2,d4]
            unfold n10c5
            simp (disch:=try exact DI) only [↓PR,QR,Int.reduceBEq,Int.reduceBNe,Int.reduceLT,Int.reduceLE,Int.reduceGT,Int.reduceGE,Int.reduceNeg]
            exact hgo lo n (by omega) (by omega) (fun j hj=>by have:=hall3 j hj;omega)
          · have d4:decide (n > hi)=false:=by simpa using hhi
            simp (disch:=try exact DI) only [↓PR,QR,Int.reduceBEq,Int.reduceBNe,Int.reduceLT,Int.reduceLE,Int.reduceGT,Int.reduceGE,Int.reduceNeg,d2,d4]
            unfold n10c5
            simp (disch:=try exact DI) only [↓PR,QR,Int.reduceBEq,Int.reduceBNe,Int.reduceLT,Int.reduceLE,Int.reduceGT,Int.reduceGE,Int.reduceNeg]
            exact hgo lo hi (by omega) (by omega) (fun j hj=>by have:=hall3 j hj;omega)
     refine loop2_intro (fun a0 a1 wb=>∃ (kb:Nat) (n:Int),a0 = .int .i64 n∧a1 = .int .i64 (kb:Int)∧kb≤ts.length∧Ext w3 wb∧n+mixS rp mix kb (ts.drop kb)=base+mixS rp mix 0 ts ∧ -1048576 - kb*36028797018963968≤n∧n≤1048576+kb*36028797018963968) (fun a0 a1 _=>ts.length - (intOf a1).toNat) ⟨0,base,rfl,rfl,Nat.zero_le _,ee,⟨rfl,by omega,by omega⟩⟩ ?_
     rintro _ _ wb ⟨kb,n,rfl,rfl,hkb,eb,hIb⟩
     have seb:=eb.size
     rcases drop_cases hkb with ⟨xb,hxb,hdb,hltb,hdecb⟩ | ⟨hkb,hdb,hdecb⟩
     · obtain ⟨hsum,hn1,hn2⟩:=hIb
       obtain ⟨b,o,cs,rfl,hl,hA,rfl⟩:=hel kb xb hxb
       have Eb:=E3.trans eb
       have fb:=f3.trans eb
       unfold n10c9
       simp (disch:=try exact DI) only [↓PR,QR,Int.reduceBEq,Int.reduceBNe,Int.reduceLT,Int.reduceLE,Int.reduceGT,Int.reduceGE,Int.reduceNeg,hBW.c2,hdecb]
       unfold n10c8
       simp (disch:=try exact DI) only [↓PR,QR,Int.reduceBEq,Int.reduceBNe,Int.reduceLT,Int.reduceLE,Int.reduceGT,Int.reduceGE,Int.reduceNeg,hBW.c2,(hA.c2 Eb).1]
       refine callK_ret (rFindRange_ret _ _ rp xb.field (hR.ext Eb)) ?_
       rintro _ w5 ⟨⟨a,rfl,ha⟩,e5⟩
       have hxm:=List.mem_of_getElem? hxb
       rcases ha with ⟨rfl,hno⟩ | ⟨j,q,rfl,hj,hq⟩
       · have:=hin xb hxm
         rw [hno] at this;cases this
       obtain ⟨b',o',cs',rfl,_,hB,rfl⟩:=hel2 j _ hj
       have hjl:(j:Int) < (rp.length:Int):=by have:=(List.getElem?_eq_some_iff.1 hj).1;omega
       have E5:=Eb.trans e5
       have f5:=fb.trans e5
       have hq':=rng_some hq
       obtain ⟨s1,s2,s3,s4,s5⟩:=hsm xb hxm
       rw [hq'] at s3 s4 s5
       unfold n10c4
       have hmod:(((mix / 2 ^ kb:Nat):Int)).tmod 2=((mix / 2 ^ kb % 2:Nat):Int):=(Int.ofNat_tmod _ 2).symm
       have hstep:∀ u:Int,u=mixT rp mix kb xb→(∃ (kb_1:Nat) (n3:Int),Value.int .i64 (n+xb.factor*u) = .int .i64 n3∧Value.int .i64 ((kb+1:Nat):Int) = .int .i64 kb_1∧kb_1≤ts.length∧n3+mixS rp mix kb_1 (ts.drop kb_1)=base+mixS rp mix 0 ts ∧ -1048576 - kb_1*36028797018963968≤n3∧n3≤1048576+kb_1*36028797018963968):=by
        intro u hu
        have hmb : -36028797018963968≤xb.factor*u∧xb.factor*u≤36028797018963968:=by
         rw [hu]
         unfold mixT
         rw [hq']
         split
         · exact mul_bound s1 s2 (by omega) s5
         · exact mul_bound s1 s2 s3 (by omega)
        refine ⟨kb+1,_,rfl,rfl,hltb,?_,by omega,by omega⟩
        rw [hdb] at hsum
        simp only [mixS] at hsum
        rw [hu]
        omega
       simp (disch:=try exact DI) only [↓PR,QR,Int.reduceBEq,Int.reduceBNe,Int.reduceLT,Int.reduceLE,Int.reduceGT,Int.reduceGE,Int.reduceNeg,hB.c3 E5]
       rw [op_shr _ _ mix .i64 kb (by omega)]
       have hmul:∀ u:Int,u=mixT rp mix kb xb→IntKind.i64.wrap (xb.factor*u)=xb.factor*u∧IntKind.i64.wrap (n+xb.factor*u)=n+xb.factor*u:=by
        intro u hu
        have hmb : -36028797018963968≤xb.factor*u∧xb.factor*u≤36028797018963968:=by
         rw [hu]
         unfold mixT
         rw [hq']
         split
         · exact mul_bound s1 s2 (by omega) s5
         · exact mul_bound s1 s2 s3 (by omega)
        exact ⟨wrap_ok (by omega) (by omega),wrap_ok (by omega) (by omega)⟩
       by_cases hbit:mix / 2 ^ kb % 2=1
       · have f6:Ext W (w5.alloc (Obj.cells #[.string xb.field,.int .i64 q.1,.int .i64 q.2] 129)):=f5.alloc _
         have E6:Ext w0 (w5.alloc (Obj.cells #[.string xb.field,.int .i64 q.1,.int .i64 q.2] 129)):=E5.alloc _
         have hu:q.2=mixT rp mix kb xb:=by unfold mixT;rw [if_pos hbit,hq']
         have d5:((((mix / 2 ^ kb % 2:Nat)):Int) == 1)=true:=by rw [hbit];rfl
         simp (disch:=try exact DI) only [↓PR,QR,Int.reduceBEq,Int.reduceBNe,Int.reduceLT,Int.reduceLE,Int.reduceGT,Int.reduceGE,Int.reduceNeg,hmod,d5]
         unfold n10c3
         simp (disch:=try exact DI) only [↓PR,QR,Int.reduceBEq,Int.reduceBNe,Int.reduceLT,Int.reduceLE,Int.reduceGT,Int.reduceGE,Int.reduceNeg,hBW.c2,(hA.c2 E6).2,(hmul _ hu).1,(hmul _ hu).2]
         obtain ⟨kk,nn,h1,h2,h3,h4,h5,h6⟩:=hstep _ hu
         exact ⟨⟨kk,nn,h1,h2,h3,eb.trans (e5.alloc _),h4,h5,h6⟩,meas_lt hltb⟩
       · have f6:Ext W (w5.alloc (Obj.cells #[.string xb.field,.int .i64 q.1,.int .i64 q.2] 129)):=f5.alloc _
         have E6:Ext w0 (w5.alloc (Obj.cells #[.string xb.field,.int .i64 q.1,.int .i64 q.2] 129)):=E5.alloc _
         have hu:q.1=mixT rp mix kb xb:=by unfold mixT;rw [if_neg hbit,hq']
         have d5:((((mix / 2 ^ kb % 2:Nat)):Int) == 1)=false:=by simp only [beq_eq_false_iff_ne,ne_eq];omega
         simp (disch:=try exact DI) only [↓PR,QR,Int.reduceBEq,Int.reduceBNe,Int.reduceLT,Int.reduceLE,Int.reduceGT,Int.reduceGE,Int.reduceNeg,hmod,d5]
         unfold n10c3
         simp (disch:=try exact DI) only [↓PR,QR,Int.reduceBEq,Int.reduceBNe,Int.reduceLT,Int.reduceLE,Int.reduceGT,Int.reduceGE,Int.reduceNeg,hBW.c2,(hA.c2 E6).2,(hmul _ hu).1,(hmul _ hu).2]
         obtain ⟨kk,nn,h1,h2,h3,h4,h5,h6⟩:=hstep _ hu
         exact ⟨⟨kk,nn,h1,h2,h3,eb.trans (e5.alloc _),h4,h5,h6⟩,meas_lt hltb⟩
     · subst hkb
       obtain ⟨hsum,_⟩:=hIb
       have fb:=f3.trans eb
       rw [hdb] at hsum
       simp only [mixS] at hsum
       unfold n10c9
       simp (disch:=try exact DI) only [↓PR,QR,Int.reduceBEq,Int.reduceBNe,Int.reduceLT,Int.reduceLE,Int.reduceGT,Int.reduceGE,Int.reduceNeg,hBW.c2,hdecb]
       exact hnext n wb (by omega) eb
   · have hme:mix=2 ^ ts.length:=by omega
     have d1:decide ((mix:Int) < ((2 ^ ts.length:Nat):Int))=false:=by simp only [decide_eq_false_iff_not];exact fun h=>hm (Int.ofNat_lt.1 h)
     simp (disch:=try exact DI) only [↓PR,QR,Int.reduceBEq,Int.reduceBNe,Int.reduceLT,Int.reduceLE,Int.reduceGT,Int.reduceGE,Int.reduceNeg,hBW.c2,hpow,d1]
     have hpos:0 < 2 ^ ts.length:=Nat.two_pow_pos _
     have h1:=hLH (by omega)
     have h2:=hall3 mL (by omega)
     have h3:=hall3 mH (by omega)
     rw [hvL] at h2
     rw [hvH] at h3
     have e1:lo=base+sumT (endF rp true) ts:=by omega
     have e2:hi=base+sumT (endF rp false) ts:=by omega
     subst e1 e2
     exact ⟨rfl,E3⟩
end Go.Proofs.YtiajhbbmgglmlaaGreat
namespace Go.Proofs.YtiajhbbmgglmlaaGreat
open Sw
open Go.RowKit (intOf Below)
theorem take_get {α:Type} {l:List α} {n k:Nat} {x:α} (h:(l.take n)[k]?=some x):l[k]?=some x:=by
 rw [List.getElem?_take] at h
 split at h
 · exact h
 · cases h
theorem rFind_ret (w0:World) (v:Value) (d:DefD) (s:ByteArray) (n:Nat) (hd:DefVal w0 v d) (hn:n≤d.msgs.length) :
 Ret Pg 26 #[v,.string s,.int .i64 (n:Int)] w0 fun r w'=>r = .int .i64 (idx (fun m=>decide (m.name=s)) (d.msgs.take n))∧Ext w0 w':=by
 obtain ⟨mv,rfl,hM⟩:=hd
 obtain ⟨A,c,rfl,hlc,hcm,hlm,hel⟩:=SliceOf.open hM
 have hlen:(d.msgs.take n).length=n:=by rw [List.length_take];omega
 refine n19s (R:=retR _) ?_;unfold n19
 simp (disch:=try exact DI) only [↓PR,QR,Int.reduceBEq,Int.reduceBNe,Int.reduceLT,Int.reduceLE,Int.reduceGT,Int.reduceGE,Int.reduceNeg]
 generalize hW:World.alloc w0 _=W
 have e0:Ext w0 W:=by rw [← hW];exact ee
 have o3:W.heap[w0.heap.size]?=some (.cells #[.string d.name,.slice A d.msgs.length c,.string d.start] 24 (0,0)):=by rw [← hW];simp (disch:=try exact DI) only [↓PR,QR,Int.reduceBEq,Int.reduceBNe,Int.reduceLT,Int.reduceLE,Int.reduceGT,Int.reduceGE,Int.reduceNeg]
 clear hW
 refine loop1_intro (fun a0 w=>∃ (k:Nat) , a0 = .int .i64 (k:Int)∧k≤(d.msgs.take n).length∧Ext W w∧∀ (j:Nat) y,j < k→(d.msgs.take n)[j]?=some y→decide (y.name=s)=false) (fun a0 _=>(d.msgs.take n).length - (intOf a0).toNat) ⟨0,rfl,Nat.zero_le _,ee,fun j y h=>by omega⟩ ?_
 rintro _ w ⟨k,rfl,hk,e,hI⟩
 have se:=e.size
 rcases drop_cases hk with ⟨x,hx,hd,hlt,hdec⟩ | ⟨hk,hd,hdec⟩
 · obtain ⟨b,o,cs,rfl,_,hA,hE⟩:=hel k x (take_get hx)
   obtain ⟨fv,rfl,hF⟩:=hE
   rw [hlen] at hdec hlt
   have hlt':k < d.msgs.length:=by omega
   have e0':=e0.trans e
   simp (disch:=try exact DI) only [↓PR,QR,Int.reduceBEq,Int.reduceBNe,Int.reduceLT,Int.reduceLE,Int.reduceGT,Int.reduceGE,Int.reduceNeg,↓n19c1,hdec,(cells_of_heap (e.obj o3)).1,hA.c2]
   cases hp:decide (x.name=s) with
   | true =>
    simp (disch:=try exact DI) only [↓PR,QR,Int.reduceBEq,Int.reduceBNe,Int.reduceLT,Int.reduceLE,Int.reduceGT,Int.reduceGE,Int.reduceNeg]
    exact ⟨by rw [idx_here hx hp hI],e0'⟩
   | false =>
    simp (disch:=try exact DI) only [↓PR,QR,Int.reduceBEq,Int.reduceBNe,Int.reduceLT,Int.reduceLE,Int.reduceGT,Int.reduceGE,Int.reduceNeg]
    have hlt:k < (d.msgs.take n).length:=by omega
    exact ⟨⟨k+1,rfl,by omega,ee,before_succ hI hx hp⟩,meas_lt hlt⟩
 · rw [hlen] at hk hdec
   subst hk
   simp (disch:=try exact DI) only [↓PR,QR,Int.reduceBEq,Int.reduceBNe,Int.reduceLT,Int.reduceLE,Int.reduceGT,Int.reduceGE,Int.reduceNeg,↓n19c1,hdec]
   exact ⟨by rw [idx_none fun j y hy=>hI j y (by have:=(List.getElem?_eq_some_iff.1 hy).1;omega) hy],e0.trans e⟩
theorem rField_ret (w0:World) (v:Value) (d:MsgD) (s:ByteArray) (n:Nat) (hd:MsgVal w0 v d) (hn:n≤d.fields.length) :
 Ret Pg 42 #[v,.string s,.int .i64 (n:Int)] w0 fun r w'=>r = .int .i64 (idx (fun m=>decide (m.name=s)) (d.fields.take n))∧Ext w0 w':=by
 obtain ⟨mv,rfl,hM⟩:=hd
 obtain ⟨A,c,rfl,hlc,hcm,hlm,hel⟩:=SliceOf.open hM
 have hlen:(d.fields.take n).length=n:=by rw [List.length_take];omega
 refine n18s (R:=retR _) ?_;unfold n18
 simp (disch:=try exact DI) only [↓PR,QR,Int.reduceBEq,Int.reduceBNe,Int.reduceLT,Int.reduceLE,Int.reduceGT,Int.reduceGE,Int.reduceNeg]
 generalize hW:World.alloc w0 _=W
 have e0:Ext w0 W:=by rw [← hW];exact ee
 have o3:W.heap[w0.heap.size]?=some (.cells #[.string d.name,.slice A d.fields.length c] 45 (0,0)):=by rw [← hW];simp (disch:=try exact DI) only [↓PR,QR,Int.reduceBEq,Int.reduceBNe,Int.reduceLT,Int.reduceLE,Int.reduceGT,Int.reduceGE,Int.reduceNeg]
 clear hW
 refine loop1_intro (fun a0 w=>∃ (k:Nat) , a0 = .int .i64 (k:Int)∧k≤(d.fields.take n).length∧Ext W w∧∀ (j:Nat) y,j < k→(d.fields.take n)[j]?=some y→decide (y.name=s)=false) (fun a0 _=>(d.fields.take n).length - (intOf a0).toNat) ⟨0,rfl,Nat.zero_le _,ee,fun j y h=>by omega⟩ ?_
 rintro _ w ⟨k,rfl,hk,e,hI⟩
 have se:=e.size
 rcases drop_cases hk with ⟨x,hx,hd,hlt,hdec⟩ | ⟨hk,hd,hdec⟩
 · obtain ⟨b,o,cs,rfl,_,hA,hE⟩:=hel k x (take_get hx)
   obtain ⟨tv,cv,rfl,hT,hC,ht1,hc1⟩:=hE.op
   rw [hlen] at hdec hlt
   have hlt':k < d.fields.length:=by omega
   have e0':=e0.trans e
   simp (disch:=try exact DI) only [↓PR,QR,Int.reduceBEq,Int.reduceBNe,Int.reduceLT,Int.reduceLE,Int.reduceGT,Int.reduceGE,Int.reduceNeg,↓n18c1,hdec,(cells_of_heap (e.obj o3)).1,hA.c15]
   cases hp:decide (x.name=s) with
   | true =>
    simp (disch:=try exact DI) only [↓PR,QR,Int.reduceBEq,Int.reduceBNe,Int.reduceLT,Int.reduceLE,Int.reduceGT,Int.reduceGE,Int.reduceNeg]
    exact ⟨by rw [idx_here hx hp hI],e0'⟩
   | false =>
    simp (disch:=try exact DI) only [↓PR,QR,Int.reduceBEq,Int.reduceBNe,Int.reduceLT,Int.reduceLE,Int.reduceGT,Int.reduceGE,Int.reduceNeg]
    have hlt:k < (d.fields.take n).length:=by omega
    exact ⟨⟨k+1,rfl,by omega,ee,before_succ hI hx hp⟩,meas_lt hlt⟩
 · rw [hlen] at hk hdec
   subst hk
   simp (disch:=try exact DI) only [↓PR,QR,Int.reduceBEq,Int.reduceBNe,Int.reduceLT,Int.reduceLE,Int.reduceGT,Int.reduceGE,Int.reduceNeg,↓n18c1,hdec]
   exact ⟨by rw [idx_none fun j y hy=>hI j y (by have:=(List.getElem?_eq_some_iff.1 hy).1;omega) hy],e0.trans e⟩
end Go.Proofs.YtiajhbbmgglmlaaGreat
namespace Go.Proofs.YtiajhbbmgglmlaaGreat
open Sw
open Go.RowKit (intOf Below)
def hasB (s:ByteArray) (c:Int):Bool:=s.data.toList.any (fun x=>(x.toNat:Int) == c)
theorem rhas_ret (w0:World) (s:ByteArray) (c:Int) (hl:s.size≤9223372036854775806):Ret Pg 56 #[.string s,.int .u8 c] w0 fun r w'=>r = .bool (hasB s c)∧w'=w0:=by
 have hsz:s.data.toList.length=s.size:=by rw [Array.length_toList];rfl
 refine n27s (R:=retR _) ?_;unfold n27
 refine loop1_intro (fun i w'=>∃ k:Nat,i = .int .i64 k∧k≤s.data.toList.length∧w'=w0∧(s.data.toList.drop k).any (fun x=>(x.toNat:Int) == c)=hasB s c) (fun i _=>s.data.toList.length - (intOf i).toNat) ⟨0,rfl,by omega,rfl,rfl⟩ ?_
 rintro _ w2 ⟨k,rfl,hk,rfl,hI⟩
 unfold n27c2
 rcases drop_cases hk with ⟨x,hx,hd,hlt,hdec⟩ | ⟨hk,hd,hdec⟩
 · rw [hsz] at hdec
   rw [hd,List.any_cons] at hI
   simp (disch:=try exact DI) only [↓PR,QR,Int.reduceBEq,Int.reduceBNe,Int.reduceLT,Int.reduceLE,Int.reduceGT,Int.reduceGE,Int.reduceNeg,hdec]
   unfold n27c1
   rw [op_indexS Tryz.underlying9 s .i64 k hx]
   cases hb:((x.toNat:Int) == c) with
   | true =>
    rw [hb] at hI
    simp (disch:=try exact DI) only [↓PR,QR,Int.reduceBEq,Int.reduceBNe,Int.reduceLT,Int.reduceLE,Int.reduceGT,Int.reduceGE,Int.reduceNeg,hb]
    exact ⟨by rw [← hI];rfl,by trivial⟩
   | false =>
    rw [hb] at hI
    simp (disch:=try exact DI) only [↓PR,QR,Int.reduceBEq,Int.reduceBNe,Int.reduceLT,Int.reduceLE,Int.reduceGT,Int.reduceGE,Int.reduceNeg,hb]
    exact ⟨⟨k+1,rfl,hlt,by trivial,by simpa using hI⟩,meas_lt hlt⟩
 · rw [hsz] at hdec
   rw [hd] at hI
   simp (disch:=try exact DI) only [↓PR,QR,Int.reduceBEq,Int.reduceBNe,Int.reduceLT,Int.reduceLE,Int.reduceGT,Int.reduceGE,Int.reduceNeg,hdec]
   exact ⟨by rw [← hI];rfl,by trivial⟩
theorem rwide_ret (w0:World) (lo hi:Int):Ret Pg 58 #[.int .i64 lo,.int .i64 hi] w0 fun r w'=>r = .bool (wideB lo hi)∧Ext w0 w':=by
 refine n33s (R:=retR _) ?_;unfold n33
 unfold wideB
 by_cases h1:0≤lo
 · have d1:decide (lo≥0)=true:=by simpa using h1
   by_cases h2:lo≤hi
   · have d2:decide (lo≤hi)=true:=by simpa using h2
     simp (disch:=try exact DI) only [↓PR,QR,Int.reduceBEq,Int.reduceBNe,Int.reduceLT,Int.reduceLE,Int.reduceGT,Int.reduceGE,Int.reduceNeg,d1,d2]
     unfold n33c1
     simp (disch:=try exact DI) only [↓PR,QR,Int.reduceBEq,Int.reduceBNe,Int.reduceLT,Int.reduceLE,Int.reduceGT,Int.reduceGE,Int.reduceNeg]
     exact ⟨by simp [h1,h2],Ext.refl _⟩
   · have d2:decide (lo≤hi)=false:=by simpa using h2
     simp (disch:=try exact DI) only [↓PR,QR,Int.reduceBEq,Int.reduceBNe,Int.reduceLT,Int.reduceLE,Int.reduceGT,Int.reduceGE,Int.reduceNeg,d1,d2]
     unfold n33c1
     simp (disch:=try exact DI) only [↓PR,QR,Int.reduceBEq,Int.reduceBNe,Int.reduceLT,Int.reduceLE,Int.reduceGT,Int.reduceGE,Int.reduceNeg]
     exact ⟨by simp [h2],Ext.refl _⟩
 · have d1:decide (lo≥0)=false:=by simpa using h1
   simp (disch:=try exact DI) only [↓PR,QR,Int.reduceBEq,Int.reduceBNe,Int.reduceLT,Int.reduceLE,Int.reduceGT,Int.reduceGE,Int.reduceNeg,d1]
   unfold n33c1
   simp (disch:=try exact DI) only [↓PR,QR,Int.reduceBEq,Int.reduceBNe,Int.reduceLT,Int.reduceLE,Int.reduceGT,Int.reduceGE,Int.reduceNeg]
   exact ⟨by simp [h1],Ext.refl _⟩
def usedS (k:Int):ByteArray:=if k=1 then ⟨#[98,108,120,104]⟩ else if k=2 then ⟨#[98,108,120]⟩ else if k=3 then ⟨#[111,120,104]⟩ else if k=4 then ⟨#[115]⟩ else if k=5 then ⟨#[120,104]⟩ else if k=6 then ⟨#[111,104]⟩ else if k=7 then ⟨#[102,115]⟩ else if k=8 then ⟨#[102]⟩ else if k=9 then ⟨#[116,99]⟩ else if k=10 then ⟨#[98]⟩ else if k=11 then ⟨#[114,107]⟩ else if k=12 then ⟨#[102,115,121]⟩ else ByteArray.empty
theorem rused_ret (w0:World) (k:Int) (h1:1≤k) (h2:k≤12):Ret Pg 55 #[.int .i64 k] w0 fun r w'=>r = .string (usedS k)∧Ext w0 w':=by
 refine n32s (R:=retR _) ?_;unfold n32
 obtain ⟨n,rfl⟩:∃ n:Nat,k=n:=⟨k.toNat,by omega⟩
 have:n=1∨n=2∨n=3∨n=4∨n=5∨n=6∨n=7∨n=8∨n=9∨n=10∨n=11∨n=12:=by omega
 have hn:(n:Int) < ((13:Nat):Int):=by omega
 have hget:[Value.string ⟨#[]⟩,.string ⟨#[98,108,120,104]⟩,.string ⟨#[98,108,120]⟩,.string ⟨#[111,120,104]⟩,.string ⟨#[115]⟩,.string ⟨#[120,104]⟩,.string ⟨#[111,104]⟩,.string ⟨#[102,115]⟩,.string ⟨#[102]⟩,.string ⟨#[116,99]⟩,.string ⟨#[98]⟩,.string ⟨#[114,107]⟩,.string ⟨#[102,115,121]⟩][n*1]?=some (.string (usedS (n:Int))):=by
  rcases this with rfl | rfl | rfl | rfl | rfl | rfl | rfl | rfl | rfl | rfl | rfl | rfl<;>rfl
 simp (disch:=try exact DI) only [↓PR,QR,Int.reduceBEq,Int.reduceBNe,Int.reduceLT,Int.reduceLE,Int.reduceGT,Int.reduceGE,Int.reduceNeg,hget]
 exact ⟨by first | trivial | rfl,ee⟩
end Go.Proofs.YtiajhbbmgglmlaaGreat
namespace Go.Proofs.YtiajhbbmgglmlaaGreat
open Sw
open Go.RowKit (intOf Below)
theorem rtagged_ret (w0:World) (v:Value) (m:MsgD) (s:ByteArray) (n:Nat) (hm:MsgVal w0 v m) (hn:n≤m.fields.length):Ret Pg 61 #[v,.string s,.int .i64 (n:Int)] w0 fun r w'=>r = .bool ((m.fields.take n).any (taggedP s))∧Ext w0 w':=by
 obtain ⟨fv,rfl,hF⟩:=hm
 obtain ⟨A,c,rfl,hlc,hcm,hlm,hel⟩:=SliceOf.open hF
 refine n31s (R:=retR _) ?_;unfold n31
 simp (disch:=try exact DI) only [↓PR,QR,Int.reduceBEq,Int.reduceBNe,Int.reduceLT,Int.reduceLE,Int.reduceGT,Int.reduceGE,Int.reduceNeg]
 have hBW:=ElemAt.new (w:=w0) (msgCells m (.slice A m.fields.length c)) (45)
 have eW:Ext w0 (w0.alloc (Obj.cells (List.toArray (msgCells m (.slice A m.fields.length c))) (45))):=(Ext.refl _).alloc _
 generalize (w0.alloc (Obj.cells (List.toArray (msgCells m (.slice A m.fields.length c))) (45)))=W at hBW eW ⊢
 have hlen:(m.fields.take n).length=n:=by rw [List.length_take];omega
 refine loop1_intro (fun i w'=>∃ k:Nat,i = .int .i64 k∧k≤n∧Ext W w'∧∀ j x,j < k→m.fields[j]?=some x→taggedP s x=false) (fun i _=>n - (intOf i).toNat) ⟨0,rfl,by omega,Ext.refl _,by intro j x h;omega⟩ ?_
 rintro _ w ⟨k,rfl,hk,e,hI⟩
 have E:=eW.trans e
 by_cases hkn:k < n
 · obtain ⟨x,hx⟩:=getElem?_lt (l:=m.fields) (k:=k) (by omega)
   obtain ⟨b,o,cs,rfl,hl,hA,hE⟩:=hel k x hx
   obtain ⟨tv,cv,rfl,hT,hC,ht1,hc1⟩:=hE.op
   have hcell:=hA.c15 E
   have d1:decide ((k:Int) < (n:Int))=true:=by simp;omega
   have hkl:(k:Int) < (m.fields.length:Int):=by omega
   have stop:taggedP s x=true→(m.fields.take n).any (taggedP s)=true:=fun h=>List.any_eq_true.2 ⟨x,List.mem_of_getElem? (i:=k) (by rw [List.getElem?_take,if_pos hkn];exact hx),h⟩
   have next:taggedP s x=false→∀ w',Ext W w'→(∃ k_1:Nat,Value.int .i64 ((k+1:Nat):Int) = .int .i64 k_1∧k_1≤n∧Ext W w'∧∀ j x,j < k_1→m.fields[j]?=some x→taggedP s x=false)∧n - (intOf (Value.int .i64 ((k+1:Nat):Int))).toNat < n - (intOf (Value.int .i64 (k:Int))).toNat:=by
    intro h w' e'
    refine ⟨⟨k+1,rfl,hkn,e',fun j y hj hy=>?_⟩,meas_lt hkn⟩
    by_cases hjk:j=k
    · subst hjk;rw [hx] at hy;injection hy with hy;subst hy;exact h
    · exact hI j y (by omega) hy
   simp (disch:=try exact DI) only [↓PR,QR,Int.reduceBEq,Int.reduceBNe,Int.reduceLT,Int.reduceLE,Int.reduceGT,Int.reduceGE,Int.reduceNeg,d1]
   unfold n31c1
   cases hk9:(x.kind == 9) with
   | false =>
    simp (disch:=try exact DI) only [↓PR,QR,Int.reduceBEq,Int.reduceBNe,Int.reduceLT,Int.reduceLE,Int.reduceGT,Int.reduceGE,Int.reduceNeg,hBW.c2,hcell,hk9]
    exact next (by unfold taggedP;rw [hk9];rfl) _ e
   | true =>
    by_cases hs:x.tag=s
    · simp (disch:=try exact DI) only [↓PR,QR,Int.reduceBEq,Int.reduceBNe,Int.reduceLT,Int.reduceLE,Int.reduceGT,Int.reduceGE,Int.reduceNeg,hBW.c2,hcell,hk9,show decide (x.tag=s)=true by simp [hs]]
      exact ⟨by rw [stop (by unfold taggedP;rw [hk9];simp [hs])],E⟩
    · simp (disch:=try exact DI) only [↓PR,QR,Int.reduceBEq,Int.reduceBNe,Int.reduceLT,Int.reduceLE,Int.reduceGT,Int.reduceGE,Int.reduceNeg,hBW.c2,hcell,hk9,show decide (x.tag=s)=false by simp [hs]]
      exact next (by unfold taggedP;simp [hs]) _ e
 · have hke:k=n:=by omega
   subst hke
   have d1:decide ((k:Int) < (k:Int))=false:=by simp
   simp (disch:=try exact DI) only [↓PR,QR,Int.reduceBEq,Int.reduceBNe,Int.reduceLT,Int.reduceLE,Int.reduceGT,Int.reduceGE,Int.reduceNeg,d1]
   refine ⟨?_,E⟩
   congr 1
   symm
   rw [List.any_eq_false]
   intro x hx
   obtain ⟨j,hj⟩:=List.getElem?_of_mem hx
   rw [List.getElem?_take] at hj
   split at hj
   · rw [hI j x (by assumption) hj];decide
   · cases hj
def numC (f:FieldD):Int:=if bitsB f then (if f.low < 0∨f.low > (if f.kind=2 then f.low else f.high)∨(if f.kind=2 then f.low else f.high)≥2 ^ f.bits.toNat then 7 else 0) else 6
theorem numC_one {f:FieldD} (h:f.kind=1):numC f=orC (needC (bitsB f) 6) (withinC (topF f) 0 [f.low,f.high]):=by
 unfold numC topF
 have h2:¬ f.kind=2:=by omega
 simp only [if_neg h2]
 clear h h2
 cases bitsB f with
 | false=>rfl
 | true =>
  have hp:(0:Int) < 2 ^ f.bits.toNat:=Int.pow_pos (by decide)
  generalize (2:Int) ^ f.bits.toNat=q at *
  simp only [needC,if_true,orC,withinC]
  split<;>simp only [Bool.and_eq_true,decide_eq_true_eq]<;>(repeat' split)<;>first | rfl | omega | (simp only [Bool.and_eq_true,decide_eq_true_eq] at *;omega)
theorem numC_two {f:FieldD} (h:f.kind=2):numC f=orC (needC (bitsB f) 6) (withinC (topF f) 0 [f.low]):=by
 unfold numC topF
 simp only [if_pos h]
 clear h
 cases bitsB f with
 | false=>rfl
 | true =>
  have hp:(0:Int) < 2 ^ f.bits.toNat:=Int.pow_pos (by decide)
  generalize (2:Int) ^ f.bits.toNat=q at *
  simp only [needC,if_true,orC,withinC]
  split<;>simp only [Bool.and_eq_true,decide_eq_true_eq]<;>(repeat' split)<;>first | rfl | omega | (simp only [Bool.and_eq_true,decide_eq_true_eq] at *;omega)
theorem rnumber_ret (w0:World) (v:Value) (f:FieldD) (hf:FieldVal w0 v f):Ret Pg 57 #[v] w0 fun r w'=>r = .int .i64 (numC f)∧Ext w0 w':=by
 obtain ⟨tv,cv,rfl,hT,hC,ht1,hc1⟩:=hf.op
 refine n29s (R:=retR _) ?_;unfold n29
 simp (disch:=try exact DI) only [↓PR,QR,Int.reduceBEq,Int.reduceBNe,Int.reduceLT,Int.reduceLE,Int.reduceGT,Int.reduceGE,Int.reduceNeg]
 have hBW:=ElemAt.new (w:=w0) (fieldCells f tv cv) (52)
 have eW:Ext w0 (w0.alloc (Obj.cells (List.toArray (fieldCells f tv cv)) (52))):=(Ext.refl _).alloc _
 generalize (w0.alloc (Obj.cells (List.toArray (fieldCells f tv cv)) (52)))=W at hBW eW ⊢
 have hcell:=hBW.c15 (Ext.refl W)
 have hbad:bitsB f=false→Value.int .i64 6 = .int .i64 (numC f):=fun h=>by unfold numC;rw [h];rfl
 by_cases h1:f.bits < 1
 · have d1:decide (f.bits < 1)=true:=by simpa using h1
   simp (disch:=try exact DI) only [↓PR,QR,Int.reduceBEq,Int.reduceBNe,Int.reduceLT,Int.reduceLE,Int.reduceGT,Int.reduceGE,Int.reduceNeg,hcell,d1,↓n29c1,↓n29c2,↓n29c3,↓n29c4,↓n29c5,↓n29c6,↓n29c7,↓n29c8]
   exact ⟨hbad (by unfold bitsB;simp;omega),eW⟩
 have d1:decide (f.bits < 1)=false:=by simpa using h1
 by_cases h2:f.bits > 32
 · have d2:decide (f.bits > 32)=true:=by simpa using h2
   simp (disch:=try exact DI) only [↓PR,QR,Int.reduceBEq,Int.reduceBNe,Int.reduceLT,Int.reduceLE,Int.reduceGT,Int.reduceGE,Int.reduceNeg,hcell,d1,d2,↓n29c1,↓n29c2,↓n29c3,↓n29c4,↓n29c5,↓n29c6,↓n29c7,↓n29c8]
   exact ⟨hbad (by unfold bitsB;simp;omega),eW⟩
 have d2:decide (f.bits > 32)=false:=by simpa using h2
 have hsh:IntKind.i64.wrap (1*2 ^ f.bits.toNat)=2 ^ f.bits.toNat:=by
  have hle:f.bits.toNat≤32:=by omega
  have hq:(2:Nat) ^ f.bits.toNat≤2 ^ 32:=Nat.pow_le_pow_right (by decide) hle
  have hc:(2:Int) ^ f.bits.toNat=((2 ^ f.bits.toNat:Nat):Int):=by simp
  rw [Int.one_mul,hc]
  generalize (2:Nat) ^ f.bits.toNat=q at *
  have:(2:Nat) ^ 32=4294967296:=rfl
  exact wrap_ok (by omega) (by omega)
 have hrest:bitsB f=true→n29c3 (.pointer (some ⟨w0.heap.size,0,none⟩)) (retR fun r w'=>r = .int .i64 (numC f)∧Ext w0 w') W:=by
  intro hb
  have hv:numC f=if f.low < 0∨f.low > (if f.kind=2 then f.low else f.high)∨(if f.kind=2 then f.low else f.high)≥2 ^ f.bits.toNat then 7 else 0:=by unfold numC;rw [if_pos hb]
  rw [hv]
  clear hv
  have tail:∀ top:Int,top=(if f.kind=2 then f.low else f.high)→n29c2 (.pointer (some ⟨w0.heap.size,0,none⟩)) (.int .i64 top) (retR fun r w'=>r = .int .i64 (if f.low < 0∨f.low > (if f.kind=2 then f.low else f.high)∨(if f.kind=2 then f.low else f.high)≥2 ^ f.bits.toNat then 7 else 0)∧Ext w0 w') W:=by
   intro top ht
   rw [← ht]
   have h0:(0:Int)≤f.bits:=by omega
   have h64:f.bits≤64:=by omega
   unfold n29c2
   by_cases a1:f.low < 0
   · simp (disch:=try exact DI) only [↓PR,QR,Int.reduceBEq,Int.reduceBNe,Int.reduceLT,Int.reduceLE,Int.reduceGT,Int.reduceGE,Int.reduceNeg,hcell,show decide (f.low < 0)=true by simpa using a1]
     unfold n29c1
     simp (disch:=try exact DI) only [↓PR,QR,Int.reduceBEq,Int.reduceBNe,Int.reduceLT,Int.reduceLE,Int.reduceGT,Int.reduceGE,Int.reduceNeg]
     exact ⟨by rw [if_pos (.inl a1)],eW⟩
   by_cases a2:f.low > top
   · simp (disch:=try exact DI) only [↓PR,QR,Int.reduceBEq,Int.reduceBNe,Int.reduceLT,Int.reduceLE,Int.reduceGT,Int.reduceGE,Int.reduceNeg,hcell,show decide (f.low < 0)=false by simpa using a1,show decide (f.low > top)=true by simpa using a2]
     unfold n29c1
     simp (disch:=try exact DI) only [↓PR,QR,Int.reduceBEq,Int.reduceBNe,Int.reduceLT,Int.reduceLE,Int.reduceGT,Int.reduceGE,Int.reduceNeg]
     exact ⟨by rw [if_pos (.inr (.inl a2))],eW⟩
   by_cases a3:top≥2 ^ f.bits.toNat
   · simp (disch:=try exact DI) only [↓PR,QR,Int.reduceBEq,Int.reduceBNe,Int.reduceLT,Int.reduceLE,Int.reduceGT,Int.reduceGE,Int.reduceNeg,hcell,show decide (f.low < 0)=false by simpa using a1,show decide (f.low > top)=false by simpa using a2]
     unfold n29c1
     simp (disch:=try exact DI) only [↓PR,QR,Int.reduceBEq,Int.reduceBNe,Int.reduceLT,Int.reduceLE,Int.reduceGT,Int.reduceGE,Int.reduceNeg,hcell,hsh,show decide (top≥2 ^ f.bits.toNat)=true by simpa using a3]
     exact ⟨by rw [if_pos (.inr (.inr a3))],eW⟩
   · simp (disch:=try exact DI) only [↓PR,QR,Int.reduceBEq,Int.reduceBNe,Int.reduceLT,Int.reduceLE,Int.reduceGT,Int.reduceGE,Int.reduceNeg,hcell,show decide (f.low < 0)=false by simpa using a1,show decide (f.low > top)=false by simpa using a2]
     unfold n29c1
     simp (disch:=try exact DI) only [↓PR,QR,Int.reduceBEq,Int.reduceBNe,Int.reduceLT,Int.reduceLE,Int.reduceGT,Int.reduceGE,Int.reduceNeg,hcell,hsh,show decide (top≥2 ^ f.bits.toNat)=false by simpa using a3]
     exact ⟨by rw [if_neg (by rintro (h | h | h)<;>contradiction)],eW⟩
  unfold n29c3
  by_cases hk:f.kind=2
  · simp (disch:=try exact DI) only [↓PR,QR,Int.reduceBEq,Int.reduceBNe,Int.reduceLT,Int.reduceLE,Int.reduceGT,Int.reduceGE,Int.reduceNeg,hcell,show (f.kind == 2)=true by simpa using hk]
    exact tail _ (by rw [if_pos hk])
  · simp (disch:=try exact DI) only [↓PR,QR,Int.reduceBEq,Int.reduceBNe,Int.reduceLT,Int.reduceLE,Int.reduceGT,Int.reduceGE,Int.reduceNeg,hcell,show (f.kind == 2)=false by simpa using hk]
    exact tail _ (by rw [if_neg hk])
 cases hli:f.little with
 | false =>
  simp (disch:=try exact DI) only [↓PR,QR,Int.reduceBEq,Int.reduceBNe,Int.reduceLT,Int.reduceLE,Int.reduceGT,Int.reduceGE,Int.reduceNeg,hcell,hli,d1,d2,↓n29c8,↓n29c7,↓n29c6,↓n29c5,↓n29c4]
  exact hrest (by unfold bitsB;rw [hli];simp;omega)
 | true =>
  by_cases h16:f.bits=16
  · simp (disch:=try exact DI) only [↓PR,QR,Int.reduceBEq,Int.reduceBNe,Int.reduceLT,Int.reduceLE,Int.reduceGT,Int.reduceGE,Int.reduceNeg,hcell,hli,d1,d2,show (f.bits != 16)=false by simp [h16],↓n29c8,↓n29c7,↓n29c6,↓n29c5,↓n29c4]
    exact hrest (by unfold bitsB;rw [hli,h16];rfl)
  by_cases h24:f.bits=24
  · simp (disch:=try exact DI) only [↓PR,QR,Int.reduceBEq,Int.reduceBNe,Int.reduceLT,Int.reduceLE,Int.reduceGT,Int.reduceGE,Int.reduceNeg,hcell,hli,d1,d2,show (f.bits != 16)=true by simp [h16],show (f.bits != 24)=false by simp [h24],↓n29c8,↓n29c7,↓n29c6,↓n29c5,↓n29c4]
    exact hrest (by unfold bitsB;rw [hli,h24];rfl)
  by_cases h32:f.bits=32
  · simp (disch:=try exact DI) only [↓PR,QR,Int.reduceBEq,Int.reduceBNe,Int.reduceLT,Int.reduceLE,Int.reduceGT,Int.reduceGE,Int.reduceNeg,hcell,hli,d1,d2,show (f.bits != 16)=true by simp [h16],show (f.bits != 24)=true by simp [h24],show (f.bits != 32)=false by simp [h32],↓n29c8,↓n29c7,↓n29c6,↓n29c5,↓n29c4]
    exact hrest (by unfold bitsB;rw [hli,h32];rfl)
  · simp (disch:=try exact DI) only [↓PR,QR,Int.reduceBEq,Int.reduceBNe,Int.reduceLT,Int.reduceLE,Int.reduceGT,Int.reduceGE,Int.reduceNeg,hcell,hli,d1,d2,show (f.bits != 16)=true by simp [h16],show (f.bits != 24)=true by simp [h24],show (f.bits != 32)=true by simp [h32],↓n29c8,↓n29c7,↓n29c6,↓n29c5,↓n29c4]
    refine ⟨hbad ?_,eW⟩
    unfold bitsB
    rw [hli]
    by_cases h8:8 < f.bits
    · have:f.bits.tmod 8≠0:=by
       rw [Int.tmod_eq_emod_of_nonneg (by omega)];omega
      simp [this]
    · simp [h8]
end Go.Proofs.YtiajhbbmgglmlaaGreat
namespace Go.Proofs.YtiajhbbmgglmlaaGreat
open Sw
open Go.RowKit (intOf Below)
def zeroB (f:FieldD):Bool :=
 (hasB (usedS f.kind) 98||!(f.bits != 0))&&((hasB (usedS f.kind) 108||!f.little)&&((hasB (usedS f.kind) 111||!f.loose)&&((hasB (usedS f.kind) 120||!(f.low != 0))&&((hasB (usedS f.kind) 104||!(f.high != 0)) &&
 ((hasB (usedS f.kind) 115||!(f.base != 0||(f.terms.length:Int) != 0))&&((hasB (usedS f.kind) 102||!!decide (f.of=⟨#[]⟩))&&((hasB (usedS f.kind) 116||!!decide (f.tag=⟨#[]⟩))&&((hasB (usedS f.kind) 114||!!decide (f.fr=⟨#[]⟩)) &&
 ((hasB (usedS f.kind) 99||(f.cases.length:Int) == 0)&&((hasB (usedS f.kind) 107||f.check == 0)&&(hasB (usedS f.kind) 121||f.key == 0)))))))))))
theorem zeroB_clear {f:FieldD} (h:1≤f.kind∧f.kind≤12):zeroB f=decide (clearK f=bareF f):=by
 have:f.kind=1∨f.kind=2∨f.kind=3∨f.kind=4∨f.kind=5∨f.kind=6∨f.kind=7∨f.kind=8∨f.kind=9∨f.kind=10∨f.kind=11∨f.kind=12:=by omega
 have e:(⟨#[]⟩:ByteArray)=ByteArray.empty:=rfl
 rw [Bool.eq_iff_iff]
 unfold zeroB
 rcases this with hk | hk | hk | hk | hk | hk | hk | hk | hk | hk | hk | hk
 all_goals
  simp [clearK,clear1,clear2,clear3,clear4,clear5,clear6,clear7,clear8,clear9,clear10,clear11,clear12,bareF,hk,usedS,hasB,FieldD.mk.injEq,and_assoc,e]
  try omega
theorem guard_cases {b want:Bool} {p q:Prop} (h1:b=true→guardP (.bool true) want p q) (h2:b=false→guardP (.bool false) want p q):guardP (.bool b) want p q:=by
 cases b
 · exact h2 rfl
 · exact h1 rfl
theorem cond_cases {b:Bool} {p q:Prop} (h1:b=true→p) (h2:b=false→q):condP (.bool b) p q:=by
 cases b
 · exact h2 rfl
 · exact h1 rfl
end Go.Proofs.YtiajhbbmgglmlaaGreat
