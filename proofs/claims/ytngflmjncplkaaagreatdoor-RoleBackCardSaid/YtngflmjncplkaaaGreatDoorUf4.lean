/-
  Lemmas for the claim.
-/
import Derived.Test.YtngflmjncplkaaaGreatDoorUf3
set_option linter.all false
set_option maxHeartbeats 4000000
set_option maxRecDepth 100000
namespace Go.Proofs.YtngflmjncplkaaaGreatDoor
open Sw
open Go.RowKit (intOf Below)
section
variable {WB w0 W:World} {p q at0 at1:Nat} {lines:List ByteArray} {lv:Value} {F:List StaD→List (List ByteArray)→Nat→Option RolD×Nat} {res:Option RolD×Nat} {cs:Array Value} {ws1:List ByteArray} {B1:Nat}
theorem role_states (hE:EnvOK WB) (eB:Ext WB w0) (hb:WB.heap.size≤p) (hlz:∀ x∈lines,x.size≤100000) (hn:lines.length≤100000) (hc:RC w0 W p q lv)
 (hW:RL w0 W p lines lv q 50 3 staCells W at1 (.slice none 0 0) [] ws1 B1) (hob:W.heap[q]?=some (.cells cs TRol (0,0))) (hcs:cs[1]?=some (.slice none 0 0)) (hat:at0≤at1) (hal:at1≤lines.length)
 (hres:res=accP kState staP F [] ((lines.map spW).drop at1) (at1 - at0))
 (hex:∀ w at_ vv l ws B,RL w0 W p lines lv q 50 3 staCells w at_ vv l ws B→w.heap[q]?=some (.cells (cs.setIfInBounds 1 vv) TRol (0,0))→at0≤at_→at_≤lines.length→res=F l ((lines.map spW).drop at_) (at_ - at0)→loop0 (fun w next=>callK Pg 65 #[.pointer (some ⟨p,0,none⟩),.string kStep] (panK (RoR w0 p lines lv at0 res)) w fun t w=>n51c8 (.pointer (some ⟨p,0,none⟩)) (.pointer (some ⟨q,0,none⟩)) t next (RoR w0 p lines lv at0 res) w) w) :
 loop0 (fun w next=>callK Pg 65 #[.pointer (some ⟨p,0,none⟩),.string kState] (panK (RoR w0 p lines lv at0 res)) w fun t w=>n51c9 (.pointer (some ⟨p,0,none⟩)) (.pointer (some ⟨q,0,none⟩)) t next (RoR w0 p lines lv at0 res) w) W:=by
 have hset0:cs.setIfInBounds 1 (.slice none 0 0)=cs:=set_same hcs
 have hi:1 < cs.size:=(Array.getElem?_eq_some_iff.1 hcs).1
 have c1:=hc.zp
 have c2:=hc.zq
 have c5:=hc.qp
 refine loop0_intro (fun w=>∃ at_ vv l ws B,RL w0 W p lines lv q 50 3 staCells w at_ vv l ws B∧w.heap[q]?=some (.cells (cs.setIfInBounds 1 vv) TRol (0,0))∧l.length+at1≤at_∧at_≤lines.length∧res=accP kState staP F l ((lines.map spW).drop at_) (at_ - at0)) (fun w=>lines.length - atOf p w) ⟨at1,_,[],ws1,B1,hW,by rw [hset0];exact hob,by simp,hal,hres⟩ ?_
 rintro w ⟨at_,vv,l,ws,B,h,ho,ha0,hal,hres⟩
 have hm:=h.rd.at
 refine callK_ret (next_ret hE (h.sv.to_ext eB hb) hb hlz hal hn h.rd kState) ?_
 rintro _ w1 ⟨hs1,⟨x,us,B',hx,hsp,rfl,⟨hB1,hB2⟩,hr1⟩ | ⟨hno,rfl,hr1⟩⟩
 · have ho:=h.obS hc ho hs1
   have h:=h.next hc hs1 hr1 hB1 hB2
   have hlt:=(List.getElem?_eq_some_iff.1 hx).1
   have hus:∀ y∈us,y.size≤100000:=fun y hy=>Nat.le_trans (spW_sub (x:=x) (by rw [hsp];exact List.mem_cons_of_mem _ hy)) (hlz x (List.mem_of_getElem? hx))
   have hdr:(lines.map spW).drop at_=(kState::us)::(lines.map spW).drop (at_+1):=drop_words hx hsp
   rw [hdr] at hres
   simp (disch:=try exact DI) only [↓PR,QR,simprocAttr,↓n51c9]
   have hq1:=h.row
   refine drawK_introB p (rowB vv p) (w1:=w1) (fun _ _ _ _=>rfl) ?_
   have eD:Ext w1 (Sw.drew w1):=(Ext.refl w1).drew
   have hKD:KB w1 p (rowB vv p) (Sw.drew w1):=fun _ _ _ _=>rfl
   have h:=h.ext hc eD
   have ho1:=ho
   have ho:=eD.obj ho
   have szD:=eD.size
   generalize Sw.drew w1=D at hKD h ho szD ⊢
   clear eD
   have hqb:q≠rowB vv p:=by
    unfold rowB
    cases hv:vv.ownBlock with
    | none=>exact c5
    | some b=>have:=(h.row b hv).1;show q≠b;omega
   have hqc:w1.cell? ⟨q,1,none⟩=some vv:=by rw [(cells_of_heap ho1).1,Array.getElem?_setIfInBounds_self_of_lt hi]
   have hov:vv.oneCell'=true:=SliceOf.oneCell (h.own.slice (E:=fun _ _ _=>True) (fun _=>rfl) (fun _ _=>trivial))
   unfold n51c5
   simp (disch:=try exact DI) only [↓PR,QR,simprocAttr,hqc]
   have hBD:=h.Bw
   refine callK_wr (state_wr hE (h.sv.to_ext eB hb) hb hus h.rd h.Bw fun A m c e=>by have:=(hc.zl A m c e).1;have:=h.sz;omega) (fun v us' w2 hov2 hr2 hs2=>?_) fun w2 hov2 hs2=>?_
   · cases hst:staP us with
     | none=>rw [hst] at hov2;cases hov2
     | some s =>
     rw [hst] at hov2
     injection hov2 with hov2
     injection hov2 with e1 e2
     subst e1 e2
     rw [accP_step hst] at hres
     have ho:=h.obS hc ho hs2
     have h:=h.save hc hs2 hr2
     have hK2:KB w1 p (rowB vv p) w2:=fun b hb h1 h2=>(hs2.block b (by omega) (by omega)).trans (hKD b hb h1 h2)
     refine ⟨hK2,?_⟩
     unfold staVal
     simp (disch:=try exact DI) only [↓PR,QR,simprocAttr]
     generalize hY:World.alloc w2 _=Y
     have eY:Ext w2 Y:=by rw [← hY];exact (Ext.refl w2).alloc _
     have oY:ElemAt Y w2.heap.size 0 (staCells s):=by rw [← hY];exact ElemAt.new _ _
     clear hY
     have hKY:KB w1 p (rowB vv p) Y:=fun b hb h1 h2=>(eY.block b (by have:=hs2.size;omega)).trans (hK2 b hb h1 h2)
     have ho:=eY.obj ho
     have h:=h.ext hc eY
     refine ⟨hKY,?_⟩
     unfold n51c4
     have hby:=by50
     refine op_appendL (enc:=staCells) (l':=[s]) Tryz.underlying22 ty50 rfl (by decide) (fun _=>rfl) (fun x hx u hu=>?_) h.own (o:=0) (fun j x hx=>?_) h.sz (by simp) ?_ (by simp;omega) ?_
     · simp only [List.mem_singleton] at hx
       subst hx
       simp only [List.mem_cons,List.not_mem_nil,or_false] at hu
       rcases hu with rfl | rfl | rfl<;>rfl
     · cases j with
       | zero =>
        simp only [List.getElem?_cons_zero,Option.some.injEq] at hx
        subst hx
        simpa using oY
       | succ j=>simp at hx
     · simp only [List.length_cons,List.length_nil]
       have:l.length+1≤200000:=by omega
       exact Nat.le_trans (Nat.mul_le_mul this hby) (by decide)
     · intro g cap w4 hO hg hgg hgl
       have hK4:KB w1 p (rowB vv p) w4:=fun b hb h1 h2=>(hg.block b (by have:=eY.size;have:=hs2.size;omega) (fun e=>by unfold rowB at h2;rw [← e] at h2;exact h2 rfl)).trans (hKY b hb h1 h2)
       refine ⟨hK4,?_⟩
       have hq4:w4.heap[q]?=some (.cells (cs.setIfInBounds 1 vv) TRol (0,0)):=(hg.block q (by have:=h.sz;omega) fun e=>by have:=(h.row q e.symm).1;omega).trans ho
       obtain ⟨h5,ho5⟩:=h.put hc ho hg hO hgg 1
       have hc4:w4.cell? ⟨q,1,none⟩=some vv:=by rw [(cells_of_heap hq4).1,Array.getElem?_setIfInBounds_self_of_lt hi]
       have hf4:w4.frozen? ⟨q,1,none⟩=false:=(cells_of_heap hq4).2 _
       simp (disch:=try exact DI) only [↓PR,QR,simprocAttr,hc4,hf4]
       refine turnK_intro ?_
       refine ⟨⟨at_+1,_,l++[s],[],B',h5,?_,by simp;omega,by omega,?_⟩,?_⟩
       · rw [ho5];simp
       · rw [hres];congr 1;omega
       · rw [h5.rd.at,hm];omega
   · cases hst:staP us with
     | some s=>rw [hst] at hov2;cases hov2
     | none =>
      rw [accP_fail hst] at hres
      exact roR_pan (h.sv.trans hs2) (by rw [hres];congr 1;omega) (by omega)
 · unfold n51c9
   exact hex w1 at_ vv l ws B (h.save hc hs1 hr1) (h.obS hc ho hs1) (by omega) hal (by rw [hres];exact accP_stop (no_words hno))
end
section
variable {WB w0 W:World} {p q at0 at1:Nat} {lines:List ByteArray} {lv:Value} {F:List StpD→List (List ByteArray)→Nat→Option RolD×Nat} {res:Option RolD×Nat} {cs:Array Value} {ws1:List ByteArray} {B1:Nat}
theorem role_steps (hE:EnvOK WB) (eB:Ext WB w0) (hb:WB.heap.size≤p) (hlz:∀ x∈lines,x.size≤100000) (hn:lines.length≤100000) (hc:RC w0 W p q lv)
 (hW:RL w0 W p lines lv q 71 9 stpCells W at1 (.slice none 0 0) [] ws1 B1) (hob:W.heap[q]?=some (.cells cs TRol (0,0))) (hcs:cs[3]?=some (.slice none 0 0)) (hat:at0≤at1) (hal:at1≤lines.length)
 (hres:res=accP kStep stpP F [] ((lines.map spW).drop at1) (at1 - at0))
 (hex:∀ w at_ vv l ws B,RL w0 W p lines lv q 71 9 stpCells w at_ vv l ws B→w.heap[q]?=some (.cells (cs.setIfInBounds 3 vv) TRol (0,0))→at0≤at_→at_≤lines.length→res=F l ((lines.map spW).drop at_) (at_ - at0)→opV Pg (Instr.loadAt 26 (.pointer (some ⟨q,0,none⟩))) (panK (RoR w0 p lines lv at0 res)) w fun t52 w=>opU Pg (Instr.storeAt 26 (.pointer (some ⟨q,0,none⟩)) t52) (panK (RoR w0 p lines lv at0 res)) w fun w=>qW Pg 26 (.pointer (some ⟨q,0,none⟩)) w fun r0=>RoR w0 p lines lv at0 res (.returned r0) w) :
 loop0 (fun w next=>callK Pg 65 #[.pointer (some ⟨p,0,none⟩),.string kStep] (panK (RoR w0 p lines lv at0 res)) w fun t w=>n51c8 (.pointer (some ⟨p,0,none⟩)) (.pointer (some ⟨q,0,none⟩)) t next (RoR w0 p lines lv at0 res) w) W:=by
 have hset0:cs.setIfInBounds 3 (.slice none 0 0)=cs:=set_same hcs
 have hi:3 < cs.size:=(Array.getElem?_eq_some_iff.1 hcs).1
 have c1:=hc.zp
 have c2:=hc.zq
 have c5:=hc.qp
 refine loop0_intro (fun w=>∃ at_ vv l ws B,RL w0 W p lines lv q 71 9 stpCells w at_ vv l ws B∧w.heap[q]?=some (.cells (cs.setIfInBounds 3 vv) TRol (0,0))∧l.length+at1≤at_∧at_≤lines.length∧res=accP kStep stpP F l ((lines.map spW).drop at_) (at_ - at0)) (fun w=>lines.length - atOf p w) ⟨at1,_,[],ws1,B1,hW,by rw [hset0];exact hob,by simp,hal,hres⟩ ?_
 rintro w ⟨at_,vv,l,ws,B,h,ho,ha0,hal,hres⟩
 have hm:=h.rd.at
 refine callK_ret (next_ret hE (h.sv.to_ext eB hb) hb hlz hal hn h.rd kStep) ?_
 rintro _ w1 ⟨hs1,⟨x,us,B',hx,hsp,rfl,⟨hB1,hB2⟩,hr1⟩ | ⟨hno,rfl,hr1⟩⟩
 · have ho:=h.obS hc ho hs1
   have h:=h.next hc hs1 hr1 hB1 hB2
   have hlt:=(List.getElem?_eq_some_iff.1 hx).1
   have hus:∀ y∈us,y.size≤100000:=fun y hy=>Nat.le_trans (spW_sub (x:=x) (by rw [hsp];exact List.mem_cons_of_mem _ hy)) (hlz x (List.mem_of_getElem? hx))
   have hdr:(lines.map spW).drop at_=(kStep::us)::(lines.map spW).drop (at_+1):=drop_words hx hsp
   rw [hdr] at hres
   simp (disch:=try exact DI) only [↓PR,QR,simprocAttr,↓n51c8]
   have hq1:=h.row
   refine drawK_introB p (rowB vv p) (w1:=w1) (fun _ _ _ _=>rfl) ?_
   have eD:Ext w1 (Sw.drew w1):=(Ext.refl w1).drew
   have hKD:KB w1 p (rowB vv p) (Sw.drew w1):=fun _ _ _ _=>rfl
   have h:=h.ext hc eD
   have ho1:=ho
   have ho:=eD.obj ho
   have szD:=eD.size
   generalize Sw.drew w1=D at hKD h ho szD ⊢
   clear eD
   have hqb:q≠rowB vv p:=by
    unfold rowB
    cases hv:vv.ownBlock with
    | none=>exact c5
    | some b=>have:=(h.row b hv).1;show q≠b;omega
   have hqc:w1.cell? ⟨q,3,none⟩=some vv:=by rw [(cells_of_heap ho1).1,Array.getElem?_setIfInBounds_self_of_lt hi]
   have hov:vv.oneCell'=true:=SliceOf.oneCell (h.own.slice (E:=fun _ _ _=>True) (fun _=>rfl) (fun _ _=>trivial))
   unfold n51c7
   simp (disch:=try exact DI) only [↓PR,QR,simprocAttr,hqc]
   have hBD:=h.Bw
   refine callK_wr (step_wr hE (h.sv.to_ext eB hb) hb hus h.rd h.Bw fun A m c e=>by have:=(hc.zl A m c e).1;have:=h.sz;omega) (fun v us' w2 hov2 hr2 hs2=>?_) fun w2 hov2 hs2=>?_
   · cases hst:stpP us with
     | none=>rw [hst] at hov2;cases hov2
     | some s =>
     rw [hst] at hov2
     injection hov2 with hov2
     injection hov2 with e1 e2
     subst e1 e2
     rw [accP_step hst] at hres
     have ho:=h.obS hc ho hs2
     have h:=h.save hc hs2 hr2
     have hK2:KB w1 p (rowB vv p) w2:=fun b hb h1 h2=>(hs2.block b (by omega) (by omega)).trans (hKD b hb h1 h2)
     refine ⟨hK2,?_⟩
     unfold stpVal
     simp (disch:=try exact DI) only [↓PR,QR,simprocAttr]
     generalize hY:World.alloc w2 _=Y
     have eY:Ext w2 Y:=by rw [← hY];exact (Ext.refl w2).alloc _
     have oY:ElemAt Y w2.heap.size 0 (stpCells s):=by rw [← hY];exact ElemAt.new _ _
     clear hY
     have hKY:KB w1 p (rowB vv p) Y:=fun b hb h1 h2=>(eY.block b (by have:=hs2.size;omega)).trans (hK2 b hb h1 h2)
     have ho:=eY.obj ho
     have h:=h.ext hc eY
     refine ⟨hKY,?_⟩
     unfold n51c6
     have hby:=by71
     refine op_appendL (enc:=stpCells) (l':=[s]) Tryz.underlying24 ty71 rfl (by decide) (fun _=>rfl) (fun x hx u hu=>?_) h.own (o:=0) (fun j x hx=>?_) h.sz (by simp) ?_ (by simp;omega) ?_
     · simp only [List.mem_singleton] at hx
       subst hx
       simp only [List.mem_cons,List.not_mem_nil,or_false] at hu
       rcases hu with rfl | rfl | rfl | rfl | rfl | rfl | rfl | rfl | rfl<;>rfl
     · cases j with
       | zero =>
        simp only [List.getElem?_cons_zero,Option.some.injEq] at hx
        subst hx
        simpa using oY
       | succ j=>simp at hx
     · simp only [List.length_cons,List.length_nil]
       have:l.length+1≤200000:=by omega
       exact Nat.le_trans (Nat.mul_le_mul this hby) (by decide)
     · intro g cap w4 hO hg hgg hgl
       have hK4:KB w1 p (rowB vv p) w4:=fun b hb h1 h2=>(hg.block b (by have:=eY.size;have:=hs2.size;omega) (fun e=>by unfold rowB at h2;rw [← e] at h2;exact h2 rfl)).trans (hKY b hb h1 h2)
       refine ⟨hK4,?_⟩
       have hq4:w4.heap[q]?=some (.cells (cs.setIfInBounds 3 vv) TRol (0,0)):=(hg.block q (by have:=h.sz;omega) fun e=>by have:=(h.row q e.symm).1;omega).trans ho
       obtain ⟨h5,ho5⟩:=h.put hc ho hg hO hgg 3
       have hc4:w4.cell? ⟨q,3,none⟩=some vv:=by rw [(cells_of_heap hq4).1,Array.getElem?_setIfInBounds_self_of_lt hi]
       have hf4:w4.frozen? ⟨q,3,none⟩=false:=(cells_of_heap hq4).2 _
       simp (disch:=try exact DI) only [↓PR,QR,simprocAttr,hc4,hf4]
       refine turnK_intro ?_
       refine ⟨⟨at_+1,_,l++[s],[],B',h5,?_,by simp;omega,by omega,?_⟩,?_⟩
       · rw [ho5];simp
       · rw [hres];congr 1;omega
       · rw [h5.rd.at,hm];omega
   · cases hst:stpP us with
     | some s=>rw [hst] at hov2;cases hov2
     | none =>
      rw [accP_fail hst] at hres
      exact roR_pan (h.sv.trans hs2) (by rw [hres];congr 1;omega) (by omega)
 · unfold n51c8
   exact hex w1 at_ vv l ws B (h.save hc hs1 hr1) (h.obS hc ho hs1) (by omega) hal (by rw [hres];exact accP_stop (no_words hno))
end
section
variable {w w0:World} {p at_ B:Nat} {lines us:List ByteArray} {lv:Value} {k:Value→World→Prop} {QP:List PanicEntry→World→Prop}
theorem name_call (h:Rd w p lines at_ us lv B) (hk:∀ x l w',nameP us=some (x,l)→Rd w' p lines at_ l lv B→Save p (p+1) w w'→k (.string x) w') (hn:∀ w',nameP us=none→Save p (p+1) w w'→QP (wrongE at_) w'):callK Pg 67 #[.pointer (some ⟨p,0,none⟩)] QP w k:=by
 have hp:popN us=(nameP us).map fun z=>(.string z.1,z.2):=by
  cases us with
  | nil=>rfl
  | cons x l =>
   show (if nameB x=true then some (Value.string x,l) else none)=_
   rw [nameP_eq]
   split<;>rfl
 refine callK_wr (name_wr h) (fun v l w1 ho hr hs=>?_) fun w1 ho hs=>?_
 · rw [hp] at ho
   cases hc:nameP us with
   | none=>rw [hc] at ho;cases ho
   | some z =>
    rw [hc] at ho
    injection ho with ho
    injection ho with e1 e2
    subst e1 e2
    exact hk _ _ _ hc hr hs
 · rw [hp] at ho
   cases hc:nameP us with
   | none=>exact hn _ hc hs
   | some z=>rw [hc] at ho;cases ho
theorem num_call {WB:World} (hE:EnvOK WB) (eB:Ext WB w) (hb:WB.heap.size≤p) (hz:∀ x∈us,x.size≤100000) (h:Rd w p lines at_ us lv B) (hk:∀ n l w',numP us=some (n,l)→Rd w' p lines at_ l lv B→Save p (p+1) w w'→k (.int .i64 n) w') (hn:∀ w',numP us=none→Save p (p+1) w w'→QP (wrongE at_) w'):callK Pg 70 #[.pointer (some ⟨p,0,none⟩)] QP w k:=by
 refine callK_wr (number_wr hE eB hb hz h) (fun v l w1 ho hr hs=>?_) fun w1 ho hs=>?_
 · cases hc:numP us with
   | none=>rw [hc] at ho;cases ho
   | some z =>
    rw [hc] at ho
    injection ho with ho
    injection ho with e1 e2
    subst e1 e2
    exact hk _ _ _ hc hr hs
 · cases hc:numP us with
   | none=>exact hn _ hc hs
   | some z=>rw [hc] at ho;cases ho
theorem end_call (h:Rd w p lines at_ us lv B) (hk:∀ w',us=[]→Rd w' p lines at_ [] lv B→Save p (p+1) w w'→k (.tuple #[]) w') (hn:∀ w',us≠[]→Save p (p+1) w w'→QP (wrongE at_) w'):callK Pg 71 #[.pointer (some ⟨p,0,none⟩)] QP w k:=by
 refine callK_wr (end_wr h) (fun v l w1 ho hr hs=>?_) fun w1 ho hs=>?_
 · split at ho
   · rename_i hu
     injection ho with ho
     injection ho with e1 e2
     subst e1 e2
     exact hk w1 hu hr hs
   · cases ho
 · split at ho
   · cases ho
   · rename_i hu
     exact hn _ hu hs
end
section
variable {WB w0 W:World} {p q at0 at1:Nat} {lines:List ByteArray} {lv:Value} {F:List CntD→List (List ByteArray)→Nat→Option RolD×Nat} {res:Option RolD×Nat} {cs:Array Value} {ws1:List ByteArray} {B1:Nat}
theorem role_counters (hE:EnvOK WB) (eB:Ext WB w0) (hb:WB.heap.size≤p) (hlz:∀ x∈lines,x.size≤100000) (hn:lines.length≤100000) (hc:RC w0 W p q lv)
 (hW:RL w0 W p lines lv q 52 2 cntCells W at1 (.slice none 0 0) [] ws1 B1) (hob:W.heap[q]?=some (.cells cs TRol (0,0))) (hcs:cs[2]?=some (.slice none 0 0)) (hat:at0≤at1) (hal:at1≤lines.length)
 (hres:res=accP kCounter cntP F [] ((lines.map spW).drop at1) (at1 - at0))
 (hex:∀ w at_ vv l ws B,RL w0 W p lines lv q 52 2 cntCells w at_ vv l ws B→w.heap[q]?=some (.cells (cs.setIfInBounds 2 vv) TRol (0,0))→at0≤at_→at_≤lines.length→res=F l ((lines.map spW).drop at_) (at_ - at0)→loop0 (fun w next=>callK Pg 65 #[.pointer (some ⟨p,0,none⟩),.string kState] (panK (RoR w0 p lines lv at0 res)) w fun t w=>n51c9 (.pointer (some ⟨p,0,none⟩)) (.pointer (some ⟨q,0,none⟩)) t next (RoR w0 p lines lv at0 res) w) w) :
 loop0 (fun w next=>callK Pg 65 #[.pointer (some ⟨p,0,none⟩),.string kCounter] (panK (RoR w0 p lines lv at0 res)) w fun t w=>n51c10 (.pointer (some ⟨p,0,none⟩)) (.pointer (some ⟨q,0,none⟩)) t next (RoR w0 p lines lv at0 res) w) W:=by
 have hset0:cs.setIfInBounds 2 (.slice none 0 0)=cs:=set_same hcs
 have hi:2 < cs.size:=(Array.getElem?_eq_some_iff.1 hcs).1
 have c1:=hc.zp
 have c2:=hc.zq
 have c5:=hc.qp
 refine loop0_intro (fun w=>∃ at_ vv l ws B,RL w0 W p lines lv q 52 2 cntCells w at_ vv l ws B∧w.heap[q]?=some (.cells (cs.setIfInBounds 2 vv) TRol (0,0))∧l.length+at1≤at_∧at_≤lines.length∧res=accP kCounter cntP F l ((lines.map spW).drop at_) (at_ - at0)) (fun w=>lines.length - atOf p w) ⟨at1,_,[],ws1,B1,hW,by rw [hset0];exact hob,by simp,hal,hres⟩ ?_
 rintro w ⟨at_,vv,l,ws,B,h,ho,ha0,hal,hres⟩
 have hm:=h.rd.at
 refine callK_ret (next_ret hE (h.sv.to_ext eB hb) hb hlz hal hn h.rd kCounter) ?_
 rintro _ w1 ⟨hs1,⟨x,us,B',hx,hsp,rfl,⟨hB1,hB2⟩,hr1⟩ | ⟨hno,rfl,hr1⟩⟩
 · have ho:=h.obS hc ho hs1
   have h:=h.next hc hs1 hr1 hB1 hB2
   have hlt:=(List.getElem?_eq_some_iff.1 hx).1
   have hus:∀ y∈us,y.size≤100000:=fun y hy=>Nat.le_trans (spW_sub (x:=x) (by rw [hsp];exact List.mem_cons_of_mem _ hy)) (hlz x (List.mem_of_getElem? hx))
   have hdr:(lines.map spW).drop at_=(kCounter::us)::(lines.map spW).drop (at_+1):=drop_words hx hsp
   rw [hdr] at hres
   have pan:∀ w',Save p (p+1) w0 w'→cntP us=none→panK (RoR w0 p lines lv at0 res) (wrongE ((at_+1:Nat):Int)) w':=fun w' hs hst=>by
    rw [accP_fail hst] at hres
    exact roR_pan hs (by rw [hres];congr 1;omega) (by omega)
   simp (disch:=try exact DI) only [↓PR,QR,simprocAttr,↓n51c10]
   have hq1:=h.row
   refine drawK_introB p (rowB vv p) (w1:=w1) (fun _ _ _ _=>rfl) ?_
   have eD:Ext w1 (Sw.drew w1):=(Ext.refl w1).drew
   have hKD:KB w1 p (rowB vv p) (Sw.drew w1):=fun _ _ _ _=>rfl
   have h:=h.ext hc eD
   have ho1:=ho
   have ho:=eD.obj ho
   have szD:=eD.size
   generalize Sw.drew w1=D at hKD h ho szD ⊢
   clear eD
   have hqb:q≠rowB vv p:=by
    unfold rowB
    cases hv:vv.ownBlock with
    | none=>exact c5
    | some b=>have:=(h.row b hv).1;show q≠b;omega
   have hqc:w1.cell? ⟨q,2,none⟩=some vv:=by rw [(cells_of_heap ho1).1,Array.getElem?_setIfInBounds_self_of_lt hi]
   have hov:vv.oneCell'=true:=SliceOf.oneCell (h.own.slice (E:=fun _ _ _=>True) (fun _=>rfl) (fun _ _=>trivial))
   unfold n51c3
   simp (disch:=try exact DI) only [↓PR,QR,simprocAttr,hqc]
   refine name_call h.rd (fun nm l1 w2 hnm hr2 hs2=>?_) fun w2 hnm hs2=>pan w2 (h.sv.trans hs2) (by unfold cntP;rw [hnm];rfl)
   have ho:=h.obS hc ho hs2
   have h:=h.save hc hs2 hr2
   have hK2:KB w1 p (rowB vv p) w2:=fun b hb h1 h2=>(hs2.block b (by omega) (by omega)).trans (hKD b hb h1 h2)
   have sz2:=hs2.size
   refine ⟨hK2,?_⟩
   refine num_call hE (h.sv.to_ext eB hb) hb (fun y hy=>hus y (nameP_sub hnm y hy)) h.rd (fun n l2 w3 hnn hr3 hs3=>?_) fun w3 hnn hs3=>pan w3 (h.sv.trans hs3) (by unfold cntP;rw [hnm];simp only [Option.bind_some];rw [hnn];rfl)
   have ho:=h.obS hc ho hs3
   have h:=h.save hc hs3 hr3
   have hK3:KB w1 p (rowB vv p) w3:=fun b hb h1 h2=>(hs3.block b (by omega) (by omega)).trans (hK2 b hb h1 h2)
   have sz3:=hs3.size
   refine ⟨hK3,?_⟩
   have hcp:cntP us=endP (⟨nm,n⟩:CntD) l2:=by
    unfold cntP
    rw [hnm]
    simp only [Option.bind_some]
    rw [hnn]
    rfl
   unfold n51c2
   simp (disch:=try exact DI) only [↓PR,QR,simprocAttr]
   generalize hY:World.alloc w3 _=Y
   have eY:Ext w3 Y:=by rw [← hY];exact (Ext.refl w3).alloc _
   have oY:ElemAt Y w3.heap.size 0 (cntCells ⟨nm,n⟩):=by rw [← hY];exact ElemAt.new _ _
   clear hY
   have hKY:KB w1 p (rowB vv p) Y:=fun b hb h1 h2=>(eY.block b (by omega)).trans (hK3 b hb h1 h2)
   have ho:=eY.obj ho
   have h:=h.ext hc eY
   refine ⟨hKY,?_⟩
   have hby:=by52
   refine op_appendL (enc:=cntCells) (l':=[(⟨nm,n⟩:CntD)]) Tryz.underlying23 ty52 rfl (by decide) (fun _=>rfl) (fun x hx u hu=>?_) h.own (o:=0) (fun j x hx=>?_) h.sz (by simp) ?_ (by simp;omega) ?_
   · simp only [List.mem_singleton] at hx
     subst hx
     simp only [List.mem_cons,List.not_mem_nil,or_false] at hu
     rcases hu with rfl | rfl<;>rfl
   · cases j with
     | zero =>
      simp only [List.getElem?_cons_zero,Option.some.injEq] at hx
      subst hx
      simpa using oY
     | succ j=>simp at hx
   · simp only [List.length_cons,List.length_nil]
     have:l.length+1≤200000:=by omega
     exact Nat.le_trans (Nat.mul_le_mul this hby) (by decide)
   · intro g cap w4 hO hg hgg hgl
     have hK4:KB w1 p (rowB vv p) w4:=fun b hb h1 h2=>(hg.block b (by have:=eY.size;omega) (fun e=>by unfold rowB at h2;rw [← e] at h2;exact h2 rfl)).trans (hKY b hb h1 h2)
     refine ⟨hK4,?_⟩
     have hq4:w4.heap[q]?=some (.cells (cs.setIfInBounds 2 vv) TRol (0,0)):=(hg.block q (by have:=h.sz;omega) fun e=>by have:=(h.row q e.symm).1;omega).trans ho
     obtain ⟨h5,ho5⟩:=h.put hc ho hg hO hgg 2
     have hc4:w4.cell? ⟨q,2,none⟩=some vv:=by rw [(cells_of_heap hq4).1,Array.getElem?_setIfInBounds_self_of_lt hi]
     have hf4:w4.frozen? ⟨q,2,none⟩=false:=(cells_of_heap hq4).2 _
     unfold n51c1
     simp (disch:=try exact DI) only [↓PR,QR,simprocAttr,hc4,hf4]
     refine turnK_intro ?_
     refine end_call h5.rd (fun w6 hl2 hr6 hs6=>?_) fun w6 hl2 hs6=>pan w6 (h5.sv.trans hs6) (by rw [hcp];unfold endP;rw [if_neg hl2])
     have ho6:=h5.obS hc ho5 hs6
     have h6:=h5.save hc hs6 hr6
     have hst:cntP us=some ⟨nm,n⟩:=by rw [hcp,hl2];rfl
     rw [accP_step hst] at hres
     refine ⟨⟨at_+1,_,l++[⟨nm,n⟩],[],B',h6,?_,by simp;omega,by omega,?_⟩,?_⟩
     · rw [ho6];simp
     · rw [hres];congr 1;omega
     · rw [h6.rd.at,hm];omega
 · unfold n51c10
   exact hex w1 at_ vv l ws B (h.save hc hs1 hr1) (h.obS hc ho hs1) (by omega) hal (by rw [hres];exact accP_stop (no_words hno))
end
theorem roleP_stop {L:List (List ByteArray)} (h:∀ w∈L.head?,∀ k∈w.head?,k≠kRole):roleP L=(none,1):=by
 cases L with
 | nil=>rfl
 | cons w L =>
  cases w with
  | nil=>rfl
  | cons k ws=>rw [roleP_eq,if_neg (h _ rfl k rfl)]
theorem countersP_acc (nm:ByteArray) (L:List (List ByteArray)) (n:Nat):countersP nm L n=accP kCounter cntP (fun cs L n=>accP kState staP (fun ss L n=>accP kStep stpP (fun ts _ n=>(some ⟨nm,ss,cs,ts⟩,n)) [] L n) [] L n) [] L n:=by
 unfold countersP
 show _=accP kCounter cntP _ [] L n
 conv=>rhs;unfold accP
 cases manyP kCounter cntP L with
 | mk o k =>
  cases o with
  | none=>rfl
  | some cs =>
   simp only [List.nil_append]
   unfold statesP
   conv=>rhs;unfold accP
   cases manyP kState staP (L.drop k) with
   | mk o k2 =>
    cases o with
    | none=>rfl
    | some ss =>
     simp only [List.nil_append]
     unfold stepsP
     conv=>rhs;unfold accP
     cases manyP kStep stpP ((L.drop k).drop k2) with
     | mk o k3=>cases o<;>rfl
section
variable {WB w:World} {p at0 B:Nat} {lines ws:List ByteArray} {lv:Value}
theorem role_ror (hE:EnvOK WB) (eB:Ext WB w) (hb:WB.heap.size≤p) (hlz:∀ x∈lines,x.size≤100000) (hn:lines.length≤100000) (hal:at0≤lines.length) (h:Rd w p lines at0 ws lv B) (hB:B < w.heap.size) (hl:∀ A n c,lv = .slice (some A) n c→A.block < w.heap.size) :
 Calls Pg 52 #[.pointer (some ⟨p,0,none⟩)] w (RoR w p lines lv at0 (roleP ((lines.map spW).drop at0))):=by
 have hpw:p < w.heap.size:=by
  obtain ⟨wv,h⟩:=h
  exact (Array.getElem?_eq_some_iff.1 h.obj).1
 generalize hres:roleP ((lines.map spW).drop at0)=res
 have hres:=hres.symm
 refine n51s ?_;unfold n51
 simp (disch:=try exact DI) only [↓PR,QR,simprocAttr]
 have eV:Ext w (World.alloc w (.cells #[.string ByteArray.empty,.slice none 0 0,.slice none 0 0,.slice none 0 0] 26)):=(Ext.refl w).alloc _
 have hob:=heap_new w #[.string ByteArray.empty,.slice none 0 0,.slice none 0 0,.slice none 0 0] 26
 have szV:(World.alloc w (.cells #[.string ByteArray.empty,.slice none 0 0,.slice none 0 0,.slice none 0 0] 26)).heap.size=w.heap.size+1:=World.size_alloc ..
 generalize World.alloc w _=V at eV hob szV ⊢
 have h:=h.ext eV
 generalize hq:w.heap.size=q at hob szV hpw hB hl ⊢
 refine callK_ret (next_ret hE (eB.trans eV) hb hlz hal hn h kRole) ?_
 rintro _ w1 ⟨hs1,⟨x,us,B',hx,hsp,rfl,⟨hB1,hB2⟩,hr1⟩ | ⟨hno,rfl,hr1⟩⟩
 · have hlt:=(List.getElem?_eq_some_iff.1 hx).1
   have hdr:(lines.map spW).drop at0=(kRole::us)::(lines.map spW).drop (at0+1):=drop_words hx hsp
   rw [hdr,roleP_eq,if_pos rfl] at hres
   unfold n51c13
   simp (disch:=try exact DI) only [↓PR,QR,simprocAttr]
   have hob1:=hs1.obj hob (by omega)
   have hS1:Save p (p+1) w w1:=(Save.of_ext eV).trans hs1
   have sz1:=hs1.size
   refine name_call hr1 (fun nm l1 w2 hnm hr2 hs2=>?_) fun w2 hnm hs2=>?_
   · have hob2:=hs2.obj hob1 (by omega)
     have hS2:=hS1.trans hs2
     have sz2:=hs2.size
     unfold n51c11
     simp (disch:=try exact DI) only [↓PR,QR,simprocAttr,(cells_of_heap hob2).1,(cells_of_heap hob2).2]
     have hob3:(w2.setCell ⟨q,0,none⟩ (.string nm)).heap[q]?=some (.cells #[.string nm,.slice none 0 0,.slice none 0 0,.slice none 0 0] 26 (0,0)):=heap_set hob2 (.string nm)
     have hS3:Save p (p+1) w (w2.setCell ⟨q,0,none⟩ (.string nm)):=hS2.setNew (by omega) _
     have hr3:Rd (w2.setCell ⟨q,0,none⟩ (.string nm)) p lines (at0+1) l1 lv B':=hr2.other _ (by omega) (by omega) fun A n c e=>by have:=hl A n c e;omega
     have sz3:(w2.setCell ⟨q,0,none⟩ (.string nm)).heap.size=w2.heap.size:=World.size_setCell ..
     generalize w2.setCell ⟨q,0,none⟩ (.string nm)=w3 at hob3 hS3 hr3 sz3 ⊢
     refine end_call hr3 (fun w4 hl1 hr4 hs4=>?_) fun w4 hl1 hs4=>?_
     · have hob4:=hs4.obj hob3 (by omega)
       have hS4:=hS3.trans hs4
       have sz4:=hs4.size
       have hrn:rnameP us=some nm:=by unfold rnameP;rw [hnm,hl1];rfl
       rw [hrn] at hres
       simp only at hres
       rw [countersP_acc] at hres
       have hc4:RC w w4 p q lv:=⟨by omega,by omega,by omega,by omega,by omega,fun A n c e=>by have:=hl A n c e;omega⟩
       refine role_counters hE eB hb hlz hn hc4 (RL.start hc4 hr4 (by omega) (by omega) (by omega) hS4) hob4 rfl (by omega) (by omega) (by rw [hres];congr 1;omega) ?_
       intro w5 at5 cv cl ws5 B5 h5 ho5 ha5 hl5 hres5
       have hc5:RC w w5 p q lv:=⟨h5.sv.size,by have:=h5.sz;omega,by have:=h5.sz;omega,by omega,by omega,fun A n c e=>by have:=hl A n c e;have:=h5.sz;omega⟩
       refine role_states hE eB hb hlz hn hc5 (RL.start hc5 h5.rd h5.Bq h5.Bw h5.Bl h5.sv) ho5 rfl ha5 hl5 hres5 ?_
       intro w6 at6 sv sl ws6 B6 h6 ho6 ha6 hl6 hres6
       have hc6:RC w w6 p q lv:=⟨h6.sv.size,by have:=h6.sz;have:=h5.sz;omega,by have:=h6.sz;have:=h5.sz;omega,by omega,by omega,fun A n c e=>by have:=hl A n c e;have:=h6.sz;have:=h5.sz;omega⟩
       refine role_steps hE eB hb hlz hn hc6 (RL.start hc6 h6.rd h6.Bq h6.Bw h6.Bl h6.sv) ho6 rfl ha6 hl6 hres6 ?_
       intro w7 at7 tv tl ws7 B7 h7 ho7 ha7 hl7 hres7
       have ho7:w7.heap[q]?=some (.cells (rolCells ⟨nm,sl,cl,tl⟩ sv cv tv).toArray TRol (0,0)):=ho7
       have own1:OwnE w7 w.heap.size 71 9 stpCells tv tl:=h7.own.base hc6.zw
       have own2:OwnE w7 w.heap.size 50 3 staCells sv sl:=(OwnE.keep h6.own fun b hb=>by
        have:=h6.row b hb
        exact h7.kp b this.2 (by have:=hc5.zp;omega) (by have:=hc5.zq;omega)).base hc5.zw
       have own3:OwnE w7 w.heap.size 52 2 cntCells cv cl:=(OwnE.keep h5.own fun b hb=>by
        have:=h5.row b hb
        exact (h7.kp b (by have:=h6.sz;omega) (by have:=hc4.zp;omega) (by have:=hc4.zq;omega)).trans (h6.kp b this.2 (by have:=hc4.zp;omega) (by have:=hc4.zq;omega))).base hc4.zw
       have f1:sv.oneCell'=true:=SliceOf.oneCell (own2.slice (E:=fun _ _ _=>True) (fun _=>rfl) (fun _ _=>trivial))
       have f2:cv.oneCell'=true:=SliceOf.oneCell (own3.slice (E:=fun _ _ _=>True) (fun _=>rfl) (fun _ _=>trivial))
       have f3:tv.oneCell'=true:=SliceOf.oneCell (own1.slice (E:=fun _ _ _=>True) (fun _=>rfl) (fun _ _=>trivial))
       simp (disch:=try exact DI) only [↓PR,QR,simprocAttr,(cells_of_heap ho7).1,(cells_of_heap ho7).2]
       have hs8:∀ b,b≠q→((((w7.setCell ⟨q,0,none⟩ (.string nm)).setCell ⟨q,1,none⟩ sv).setCell ⟨q,2,none⟩ cv).setCell ⟨q,3,none⟩ tv).heap[b]?=w7.heap[b]?:=fun b hb=>by simp only [Only.setCell _ q _ _ b hb]
       have hr8:Rd ((((w7.setCell ⟨q,0,none⟩ (.string nm)).setCell ⟨q,1,none⟩ sv).setCell ⟨q,2,none⟩ cv).setCell ⟨q,3,none⟩ tv) p lines at7 ws7 lv B7:=h7.rd.same (hs8 p (by omega)) (hs8 B7 h7.Bq) fun A n c e=>hs8 _ (by have:=hl A n c e;omega)
       have hS8:Save p (p+1) w ((((w7.setCell ⟨q,0,none⟩ (.string nm)).setCell ⟨q,1,none⟩ sv).setCell ⟨q,2,none⟩ cv).setCell ⟨q,3,none⟩ tv):=(((h7.sv.setNew (by omega) _).setNew (by omega) _).setNew (by omega) _).setNew (by omega) _
       have z4:=hc4.zq
       have z5:=hc5.zq
       have z6:=hc6.zq
       refine roR_ret (at_:=at7) (r:=⟨nm,sl,cl,tl⟩) hS8 hres7 ha7 ⟨sv,cv,tv,rfl,OwnE.keep own2 fun b hb=>hs8 b ?_,OwnE.keep own3 fun b hb=>hs8 b ?_,OwnE.keep own1 fun b hb=>hs8 b ?_⟩ hr8 (by simp only [World.size_setCell];exact h7.Bw) h7.Bl
       · have:=(h6.row b hb).1;omega
       · have:=(h5.row b hb).1;omega
       · have:=(h7.row b hb).1;omega
     · exact roR_pan (k:=at0+1) (hS3.trans hs4) (by rw [hres,show rnameP us=none by unfold rnameP;rw [hnm];simp only [Option.bind_some];unfold endP;rw [if_neg hl1]];show (none,1)=_;congr 1;omega) (by omega)
   · exact roR_pan (k:=at0+1) (hS1.trans hs2) (by rw [hres,show rnameP us=none by unfold rnameP;rw [hnm];rfl];show (none,1)=_;congr 1;omega) (by omega)
 · unfold n51c13
   obtain ⟨wv,hr1⟩:=hr1
   have hw:IntKind.i64.wrap ((at0:Int)+1)=((at0+1:Nat):Int):=by rw [wrap_ok (by omega) (by omega)];omega
   simp (disch:=try exact DI) only [↓PR,QR,simprocAttr,↓n51c12,(cells_of_heap hr1.obj).1,(cells_of_heap hr1.obj).2,hw]
   have hr2:Rd (w1.setCell ⟨p,1,none⟩ (.int .i64 ((at0+1:Nat):Int))) p lines (at0+1) ws lv B:=⟨wv,hr1.setAt (at0+1)⟩
   have hS2:Save p (p+1) w (w1.setCell ⟨p,1,none⟩ (.int .i64 ((at0+1:Nat):Int))):=((Save.of_ext eV).trans hs1).setCell (Nat.le_refl _) (Nat.lt_succ_self _) _
   refine callK_wr (must_wr hr2 false) (fun v us w3 ho _ _=>by cases ho) fun w3 _ hs3=>?_
   exact roR_pan (k:=at0+1) (hS2.trans hs3) (by rw [hres,roleP_stop (no_words hno)];congr 1;omega) (by omega)
end
theorem name_small {x:ByteArray} (h:nameB x=true):x.size≤32:=by
 unfold nameB at h
 simp only [Bool.and_eq_true,decide_eq_true_eq] at h
 omega
theorem numB_small {x:ByteArray} {n:Int} (h:numB x=some n):Num10 n:=by
 rw [numB_ref] at h
 have key:∀ neg d,digsN neg d=some n→Num10 n:=fun neg d hd=>by
  obtain ⟨_,h2,h3,_,rfl⟩:=digsN_some hd
  have:=val10 h2 h3
  unfold Num10
  split<;>omega
 unfold refN at h
 split at h
 · exact key _ _ h
 · exact key _ _ h
theorem numP_small {ws l:List ByteArray} {n:Int} (h:numP ws=some (n,l)):Num10 n:=by
 cases ws with
 | nil=>cases h
 | cons a r =>
  rw [numP_cons] at h
  cases hb:numB a with
  | none=>rw [hb] at h;cases h
  | some m =>
   rw [hb] at h
   injection h with h
   injection h with h1 h2
   subst h1
   exact numB_small hb
theorem cntP_small {ws:List ByteArray} {x:CntD} (h:cntP ws=some x):nameB x.name=true∧Num10 x.limit:=by
 unfold cntP at h
 obtain ⟨⟨a,l⟩,h1,h⟩:=bind_inv h
 obtain ⟨⟨n,l2⟩,h2,h⟩:=bind_inv h
 obtain ⟨h3,rfl⟩:=endP_inv h
 exact ⟨(nameP_inv h1).2,numP_small h2⟩
theorem staP_small {ws:List ByteArray} {x:StaD} (h:staP ws=some x):nameB x.name=true∧Num10 x.wait:=by
 unfold staP at h
 obtain ⟨⟨a,l⟩,h1,h⟩:=bind_inv h
 obtain ⟨⟨n,l2⟩,h2,h⟩:=bind_inv h
 obtain ⟨h3,rfl⟩:=endP_inv h
 refine ⟨(nameP_inv h1).2,?_⟩
 unfold waitP at h2
 split at h2
 · obtain ⟨⟨m,l3⟩,h4,h2⟩:=bind_inv h2
   split at h2
   · cases h2
   · injection h2 with h2
     injection h2 with e1 e2
     subst e1
     exact numP_small h4
 · injection h2 with h2
   injection h2 with e1 e2
   subst e1
   exact ⟨by show -9999999999≤(0:Int);omega,by show (0:Int)≤9999999999;omega⟩
theorem stpP_small {ws:List ByteArray} {x:StpD} (h:stpP ws=some x):nameB x.fr=true∧nameB x.to=true∧(1≤x.kind∧x.kind≤4)∧(if speaksB x.kind then nameB x.message=true∧nameB x.peer=true else x.message=ByteArray.empty∧x.peer=ByteArray.empty)∧(if x.counter=ByteArray.empty then x.low=0∧x.high=0∧x.add=0 else nameB x.counter=true∧Num10 x.low∧Num10 x.high∧Num10 x.add):=by
 unfold stpP at h
 obtain ⟨⟨a,l⟩,h1,h⟩:=bind_inv h
 obtain ⟨⟨b,l2⟩,h2,h⟩:=bind_inv h
 obtain ⟨⟨c,l3⟩,h3,h⟩:=bind_inv h
 split at h
 · cases h
 · rename_i hk
   obtain ⟨⟨m,l4⟩,h4,h⟩:=bind_inv h
   obtain ⟨⟨q,l5⟩,h5,h⟩:=bind_inv h
   obtain ⟨h6,rfl⟩:=endP_inv h
   simp only at h2 h3 h4 h5 h6 hk ⊢
   refine ⟨(nameP_inv h1).2,(nameP_inv h2).2,(kindP_inv hk).2,?_,?_⟩
   · unfold msgP at h4
     split at h4
     · rename_i hs
       obtain ⟨⟨y,r1⟩,g1,h4⟩:=bind_inv h4
       obtain ⟨⟨z,r2⟩,g2,h4⟩:=bind_inv h4
       injection h4 with h4
       injection h4 with e1 e2
       subst e1
       rw [if_pos hs]
       exact ⟨(nameP_inv g1).2,(nameP_inv g2).2⟩
     · rename_i hs
       injection h4 with h4
       injection h4 with e1 e2
       subst e1
       rw [if_neg hs]
       exact ⟨rfl,rfl⟩
   · unfold whenP at h5
     split at h5
     · obtain ⟨⟨y,r1⟩,g1,h5⟩:=bind_inv h5
       obtain ⟨⟨z,r2⟩,g2,h5⟩:=bind_inv h5
       obtain ⟨⟨u,r3⟩,g3,h5⟩:=bind_inv h5
       obtain ⟨⟨v,r4⟩,g4,h5⟩:=bind_inv h5
       injection h5 with h5
       injection h5 with e1 e2
       subst e1
       have hn:=(nameP_inv g1).2
       rw [if_neg (fun e:y=ByteArray.empty=>by rw [e] at hn;revert hn;decide)]
       exact ⟨hn,numP_small g2,numP_small g3,numP_small g4⟩
     · injection h5 with h5
       injection h5 with e1 e2
       subst e1
       rw [if_pos rfl]
       exact ⟨rfl,rfl,rfl⟩
theorem pairs_all {α β:Type} {R:α→β→Prop} {q:β→Prop} (hq:∀ a b,R a b→q b):∀ {l:List α} {m:List β},Pairs R l m→(∀ b∈m,q b)∧m.length=l.length
 | _,_,.nil=>⟨fun _ h=>(by cases h),rfl⟩
 | _,_,.cons h1 h=>by
  obtain ⟨a1,a2⟩:=pairs_all hq h
  refine ⟨fun b hb=>?_,by rw [List.length_cons,List.length_cons,a2]⟩
  rcases List.mem_cons.1 hb with rfl | hb
  · exact hq _ _ h1
  · exact a1 b hb
structure Read (r:RolD):Prop where
 nm:nameB r.name=true
 cs:∀ c∈r.counters,nameB c.name=true∧Num10 c.limit
 ss:∀ c∈r.states,nameB c.name=true∧Num10 c.wait
 ts:∀ s∈r.steps,nameB s.fr=true∧nameB s.to=true∧(1≤s.kind∧s.kind≤4)∧(if speaksB s.kind then nameB s.message=true∧nameB s.peer=true else s.message=ByteArray.empty∧s.peer=ByteArray.empty)∧(if s.counter=ByteArray.empty then s.low=0∧s.high=0∧s.add=0 else nameB s.counter=true∧Num10 s.low∧Num10 s.high∧Num10 s.add)
theorem roleP_read {L:List (List ByteArray)} {r:RolD} {n:Nat} (h:roleP L=(some r,n)):Read r∧r.counters.length≤L.length∧r.states.length≤L.length∧r.steps.length≤L.length∧1≤n∧n≤L.length:=by
 match L,h with
 | [],h=>cases h
 | []::L,h=>cases h
 | (k::ws)::L,h =>
  by_cases hk:k=kRole
  case neg=>rw [roleP_eq,if_neg hk] at h;cases h
  subst hk
  rw [roleP_eq,if_pos rfl] at h
  cases hn:rnameP ws with
  | none=>rw [hn] at h;cases h
  | some nm =>
  rw [hn] at h
  simp only at h
  unfold rnameP at hn
  obtain ⟨⟨a,l⟩,h1,h2⟩:=bind_inv hn
  obtain ⟨h3,rfl⟩:=endP_inv h2
  unfold countersP at h
  cases hc:manyP kCounter cntP L with
  | mk o k1 =>
  rw [hc] at h
  cases o with
  | none=>cases h
  | some cs =>
  simp only at h
  unfold statesP at h
  cases hs:manyP kState staP (L.drop k1) with
  | mk o k2 =>
  rw [hs] at h
  cases o with
  | none=>cases h
  | some ss =>
  simp only at h
  unfold stepsP at h
  cases ht:manyP kStep stpP ((L.drop k1).drop k2) with
  | mk o k3 =>
  rw [ht] at h
  injection h with h1' h2'
  cases o with
  | none=>cases h1'
  | some ts =>
  injection h1' with h1'
  subst h1'
  obtain ⟨R1,a1,a2,a3⟩:=many_inv hc
  obtain ⟨R2,b1,b2,b3⟩:=many_inv hs
  obtain ⟨R3,c1,c2,c3⟩:=many_inv ht
  obtain ⟨d1,d2⟩:=pairs_all (q:=fun x:CntD=>nameB x.name=true∧Num10 x.limit) (fun w x ⟨ws,_,h⟩=>cntP_small h) a3
  obtain ⟨e1,e2⟩:=pairs_all (q:=fun x:StaD=>nameB x.name=true∧Num10 x.wait) (fun w x ⟨ws,_,h⟩=>staP_small h) b3
  obtain ⟨f1,f2⟩:=pairs_all (fun w x ⟨ws,_,h⟩=>stpP_small h) c3
  have l1:=many_le (kw:=kCounter) (p:=cntP) L
  have l2:=many_le (kw:=kState) (p:=staP) (L.drop k1)
  have l3:=many_le (kw:=kStep) (p:=stpP) ((L.drop k1).drop k2)
  rw [hc] at l1
  rw [hs,List.length_drop] at l2
  rw [ht,List.length_drop,List.length_drop] at l3
  simp only at l1 l2 l3 h2'
  rw [List.length_cons]
  refine ⟨⟨(nameP_inv h1).2,d1,e1,f1⟩,?_,?_,?_,by omega,by omega⟩
  · show cs.length≤_;omega
  · show ss.length≤_;omega
  · show ts.length≤_;omega
theorem Read.sm {r:RolD} (h:Read r):∀ x∈r.steps,StpSm x:=by
 intro x hx
 obtain ⟨s1,s2,_,s4,s5⟩:=h.ts x hx
 have he:(ByteArray.empty).size=0:=rfl
 have n1:=name_small s1
 have n2:=name_small s2
 have n3:x.message.size≤32∧x.peer.size≤32:=by
  split at s4
  · exact ⟨name_small s4.1,name_small s4.2⟩
  · rw [s4.1,s4.2,he];omega
 have n5:x.counter.size≤32:=by
  split at s5
  · rename_i hc;rw [hc,he];omega
  · exact name_small s5.1
 unfold StpSm
 omega
theorem Read.ok {r:RolD} (h:Read r) (hl:r.counters.length≤1000000000∧r.states.length≤1000000000∧r.steps.length≤1000000000):RolOk r:=by
 refine ⟨by have:=name_small h.nm;omega,fun c hc=>?_,fun c hc=>?_,fun x hx=>⟨h.sm x hx,?_⟩,hl⟩
 · obtain ⟨a,b⟩:=h.cs c hc
   have:=name_small a
   unfold Num10 at b
   omega
 · obtain ⟨a,b⟩:=h.ss c hc
   have:=name_small a
   unfold Num10 at b
   omega
 · obtain ⟨_,_,_,_,s5⟩:=h.ts x hx
   split at s5
   · obtain ⟨e1,e2,e3⟩:=s5
     rw [e1,e2,e3]
     omega
   · obtain ⟨_,e1,e2,e3⟩:=s5
     unfold Num10 at e1 e2 e3
     omega
abbrev catchN (p4:Nat):Deferred:={ target := .fn (.func 88) #[.pointer (some ⟨p4,0,none⟩)],args := #[] }
theorem catchN_ret {p4:Nat} {w:World} {k:FrameMode→World→Prop} (h:k .returning w):outM Pg [catchN p4] .returning w k:=by
 refine ⟨by simp,.inr ⟨.func 88,_,88,#[.pointer (some ⟨p4,0,none⟩)],rfl,?_,?_⟩⟩
 · exact callFunc_run c88 _ w
 · refine n45s ?_
   unfold n45
   show opV _ (binS .neq _ true .nilIface .nilIface) _ _ _
   rw [op_neqNil_none Tryz.underlying20]
   simp (disch:=try exact DI) only [↓PR,QR,simprocAttr]
   exact h
theorem catchN_pan {p4:Nat} {w:World} {k:FrameMode→World→Prop} {n:Int} {y:Value} (o4:w.heap[p4]?=some (.cells #[y] 3 (0,0))) (h:k .returning (w.setCell ⟨p4,0,none⟩ (.int .i64 n))):outM Pg [catchN p4] (.panicking (wrongE n)) w k:=by
 refine ⟨by simp,.inr ⟨.func 88,_,88,#[.pointer (some ⟨p4,0,none⟩)],rfl,?_,?_⟩⟩
 · exact callFunc_run c88 _ w
 · refine n45s ?_
   rw [show recM (.panicking (wrongE n))=(.iface 133 (.int .i64 n),.panicking [{ v := .iface 133 (.int .i64 n),recovered:=true }]) from rfl]
   unfold n45
   rw [op_neqNil_some Tryz.underlying20]
   simp (disch:=try exact DI) only [↓PR,QR,simprocAttr]
   unfold n45c1
   rw [op_assert_ok Tryz.underlying133 rfl]
   simp (disch:=try exact DI) only [↓PR,QR,simprocAttr,(cells_of_heap o4).1,(cells_of_heap o4).2]
   exact h
theorem read_fine {w:World} {p4:Nat} {n:Int} {R:RT} (o4:w.heap[p4]?=some (.cells #[.int .i64 n] 3 (0,0))) (h:R (.returned (.int .i64 n)) w):outX Pg [catchN p4] [(some 3,.pointer (some ⟨p4,0,none⟩))] R w:=by
 unfold outX
 refine catchN_ret ?_
 unfold endM retV resOne
 simp only
 simp (disch:=try exact DI) only [↓PR,QR,simprocAttr,(cells_of_heap o4).1]
 exact h
theorem read_pan {w:World} {p4:Nat} {n:Int} {y:Value} {R:RT} (o4:w.heap[p4]?=some (.cells #[y] 3 (0,0))) (h:R (.returned (.int .i64 n)) (w.setCell ⟨p4,0,none⟩ (.int .i64 n))):outQ Pg [catchN p4] [(some 3,.pointer (some ⟨p4,0,none⟩))] R (wrongE n) w:=by
 unfold outQ
 refine catchN_pan o4 ?_
 have o5:=heap_set (o:=0) o4 (.int .i64 n)
 unfold endM retV resOne
 simp only
 simp (disch:=try exact DI) only [↓PR,QR,simprocAttr,(cells_of_heap o5).1]
 exact h
structure Save2 (p c:Nat) (w w':World):Prop where
 os:w'.os=w.os
 tape:w'.tape=w.tape
 output:w'.output=w.output
 size:w.heap.size≤w'.heap.size
 block:∀ k,k < w.heap.size→k≠p→k≠c→w'.heap[k]?=w.heap[k]?
theorem Save2.of {p c:Nat} {w w':World} (h:Save p (p+1) w w'):Save2 p c w w':=⟨h.os,h.tape,h.output,h.size,fun k hk h1 h2=>h.block k hk (by omega)⟩
theorem Save2.trans {p c:Nat} {w w' w'':World} (h:Save2 p c w w') (k:Save2 p c w' w''):Save2 p c w w'':=⟨k.os.trans h.os,k.tape.trans h.tape,k.output.trans h.output,Nat.le_trans h.size k.size,fun b hb h1 h2=>(k.block b (Nat.lt_of_lt_of_le hb h.size) h1 h2).trans (h.block b hb h1 h2)⟩
theorem Save2.setCell {p c:Nat} {w w':World} (h:Save2 p c w w') (o:Nat) (v:Value):Save2 p c w (w'.setCell ⟨c,o,none⟩ v):=⟨h.os,h.tape,h.output,by rw [World.size_setCell];exact h.size,fun k hk h1 h2=>(Only.setCell w' c o v k h2).trans (h.block k hk h1 h2)⟩
def AllR (w1:World) (p c:Nat) (lines:List ByteArray) (lv:Value) (Φ:World→Nat→Prop) (Ψ:World→Nat→Prop):Ending→World→Prop:=fun e w2=>Save2 p c w1 w2∧((∃ at_ ws B,e = .returned (.tuple #[])∧Rd w2 p lines at_ ws lv B∧at_≤lines.length∧Φ w2 at_)∨∃ n:Nat,e = .panicked (wrongE (n:Int))∧Ψ w2 n)
theorem mem_cutL {c:UInt8}:∀ {l:List UInt8} {x:List UInt8},x∈cutL c l→x.length≤l.length
 | [],x,h=>by
  have:x=[]:=by simpa [cutL] using h
  subst this
  exact Nat.le_refl _
 | b::l,x,h=>by
  unfold cutL at h
  split at h
  · rcases List.mem_cons.1 h with rfl | h
    · exact Nat.zero_le _
    · exact Nat.le_succ_of_le (mem_cutL h)
  · split at h
    · have:x=[b]:=by simpa using h
      subst this
      simp
    · rename_i y r hy
      rcases List.mem_cons.1 h with rfl | h
      · have:=mem_cutL (l:=l) (x:=y) (by rw [hy];exact List.mem_cons_self ..)
        simp only [List.length_cons];omega
      · have:=mem_cutL (l:=l) (x:=x) (by rw [hy];exact List.mem_cons_of_mem _ h)
        simp only [List.length_cons];omega
theorem len_cutL {c:UInt8}:∀ (l:List UInt8),(cutL c l).length≤l.length+1
 | []=>by simp [cutL]
 | b::l=>by
  have ih:=len_cutL (c:=c) l
  unfold cutL
  split
  · simp only [List.length_cons];omega
  · split
    · simp
    · rename_i y r hy
      rw [hy] at ih
      simp only [List.length_cons] at ih ⊢
      omega
theorem lines_small (s:ByteArray):(cutW 10 s).length≤s.size+1∧∀ x∈cutW 10 s,x.size≤s.size:=by
 have hs:s.data.toList.length=s.size:=by rw [Array.length_toList];rfl
 unfold cutW
 refine ⟨by rw [List.length_map,← hs];exact len_cutL _,fun x hx=>?_⟩
 obtain ⟨y,hy,rfl⟩:=List.mem_map.1 hx
 have:=mem_cutL hy
 rw [hs] at this
 exact this
theorem read_ret {w0:World} {text:ByteArray} {g:FuncId} {caps:Array Value} {c:Nat} {Φ Ψ:World→Nat→Prop} (hE:EnvOK w0) (hz:text.size≤90000) (hg:Callable Pg g) (hc:c < w0.heap.size)
 (h:∀ w1 p lv B,Ext w0 w1→w0.heap.size < p→p < w1.heap.size→Rd w1 p (cutW 10 text) 0 [] lv B→B < w1.heap.size→c≠B→(∀ A n c',lv = .slice (some A) n c'→A.block < w1.heap.size∧A.block≠c)→Calls Pg g (#[.pointer (some ⟨p,0,none⟩)]++caps) w1 (AllR w1 p c (cutW 10 text) lv Φ Ψ)) :
 Ret Pg 50 #[.string text,.func (.func g) #[] caps] w0 fun r w'=>∃ w2,Save w0.heap.size (w0.heap.size+1) w2 w'∧(∀ b,b < w0.heap.size→b≠c→w'.heap[b]?=w0.heap[b]?)∧w0.heap.size < w2.heap.size∧(w'.os=w0.os∧w'.tape=w0.tape∧w'.output=w0.output)∧((∃ at_,Φ w2 at_∧at_≤(cutW 10 text).length∧r = .int .i64 (if at_ < (cutW 10 text).length then ((at_+1:Nat):Int) else 0))∨∃ n:Nat,Ψ w2 n∧r = .int .i64 (n:Int)):=by
 obtain ⟨hln,hlz⟩:=lines_small text
 generalize hL:cutW 10 text=lines at h hln hlz ⊢
 refine n44s (R:=retR _) ?_;unfold n44
 simp (disch:=try exact DI) only [↓PR,QR,simprocAttr]
 have e0:Ext w0 (World.alloc w0 (.cells #[.int .i64 0] 3)):=(Ext.refl w0).alloc _
 have o4:=heap_new w0 #[.int .i64 0] 3
 have s4:(World.alloc w0 (.cells #[.int .i64 0] 3)).heap.size=w0.heap.size+1:=World.size_alloc ..
 generalize World.alloc w0 _=V at e0 o4 s4 ⊢
 generalize hp4:w0.heap.size=p4 at o4 s4 h hc ⊢
 refine ⟨catchN p4,V,rfl,?_⟩
 show callK _ _ _ _ _ _
 refine callK_ret (Split_ret (hE.ext e0) text 10 (by omega)) ?_
 rintro _ w1 ⟨e1,n,rfl,hsl⟩
 rw [split_cut,hL] at hsl
 unfold n44c3
 simp (disch:=try exact DI) only [↓PR,QR,simprocAttr]
 have op:=heap_new w1 (rdCells (.slice (some ⟨V.heap.size,0,none⟩) n n) (.slice none 0 0) 0).toArray TR
 have e2:Ext w1 (w1.alloc (.cells (rdCells (.slice (some ⟨V.heap.size,0,none⟩) n n) (.slice none 0 0) 0).toArray TR)):=(Ext.refl w1).alloc _
 have s2:(w1.alloc (.cells (rdCells (.slice (some ⟨V.heap.size,0,none⟩) n n) (.slice none 0 0) 0).toArray TR)).heap.size=w1.heap.size+1:=World.size_alloc ..
 have s1:=e1.size
 have hv1:V.heap.size < w1.heap.size:=by
  obtain ⟨x,r,hx⟩:∃ x r,lines=x::r:=by
   cases lines with
   | nil=>exact absurd hL (cutW_ne 10 text)
   | cons x r=>exact ⟨x,r,rfl⟩
  rw [hx] at hsl
  have hnl:n=r.length+1:=by
   obtain ⟨A,c',hv,_⟩:=SliceOf.open hsl
   injection hv
  exact World.block_lt_of_cell? w1 _ (tail_of hnl hsl).2
 generalize w1.alloc _=w3 at op e2 s2 ⊢
 generalize hp:w1.heap.size=p at op s2 ⊢
 have e3:=e1.trans e2
 have hrd:Rd w3 p lines 0 [] (.slice (some ⟨V.heap.size,0,none⟩) n n) p4:=⟨_,op,SliceOf.ext keptStr hsl e2,SliceOf.nil _ _ _,(fun A n c e=>by injection e with e;injection e with e;subst e;show V.heap.size≠p;omega),(fun A n c e=>by cases e),by omega⟩
 rw [callV_func hg]
 simp only [Array.empty_append]
 have E3:=e0.trans e3
 have hk4:∀ {w4:World},Save2 p c w3 w4→w4.heap[p4]?=some (.cells #[.int .i64 0] 3 (0,0)):=fun hs=>(hs.block p4 (by omega) (by omega) (by omega)).trans (e3.obj o4)
 have hbl:∀ {w4 w5:World},Save2 p c w3 w4→(∀ b,b < p4→w5.heap[b]?=w4.heap[b]?)→∀ b,b < p4→b≠c→w5.heap[b]?=w0.heap[b]?:=fun hs h5 b hb hc'=>(h5 b hb).trans ((hs.block b (by omega) (by omega) hc').trans (E3.block b (by omega)))
 refine callK_calls (h w3 p _ p4 E3 (by omega) (by omega) hrd (by omega) (by omega) fun A n c' e=>by injection e with e;injection e with e;subst e;exact ⟨by show V.heap.size < _;omega,by show V.heap.size≠c;omega⟩) (fun v w4 hA=>?_) (fun ch w4 hA=>?_) (fun w4 hA=>?_)
 · obtain ⟨hs,hA⟩:=hA
   rcases hA with ⟨at_,ws,B,he,hr,hat,hΦ⟩ | ⟨n,he,_⟩
   rotate_left
   · cases he
   injection he with he
   subst he
   refine drawK_intro ?_
   have eD:Ext w4 (Sw.drew w4):=(Ext.refl w4).drew
   have hr:=hr.ext eD
   have h4:=eD.obj (hk4 hs)
   have hsz:=hs.size
   generalize Sw.drew w4=D at eD hr h4 ⊢
   obtain ⟨wv,hr⟩:=hr
   have olv:=SliceOf.oneCell hr.ls
   obtain ⟨A,c',hlv,_⟩:=SliceOf.open hr.ls
   injection hlv with hv1' hv2' hv3'
   subst hv2'
   have fin:∀ n:Int,n=(if at_ < lines.length then ((at_+1:Nat):Int) else 0)→outX Pg [catchN p4] [(some 3,.pointer (some ⟨p4,0,none⟩))] (retR fun r w'=>∃ w2,Save p4 (p4+1) w2 w'∧(∀ b,b < p4→b≠c→w'.heap[b]?=w0.heap[b]?)∧p4 < w2.heap.size∧(w'.os=w0.os∧w'.tape=w0.tape∧w'.output=w0.output)∧((∃ at_,Φ w2 at_∧at_≤lines.length∧r = .int .i64 (if at_ < lines.length then ((at_+1:Nat):Int) else 0))∨∃ n:Nat,Ψ w2 n∧r = .int .i64 (n:Int))) (D.setCell ⟨p4,0,none⟩ (.int .i64 n)):=by
    intro n hn
    refine read_fine (heap_set (o:=0) h4 (.int .i64 n)) ⟨_,rfl,w4,?_,?_,by omega,?_,.inl ⟨at_,hΦ,hat,by rw [hn]⟩⟩
    · exact (Save.of_ext eD).setCell (Nat.le_refl _) (Nat.lt_succ_self _) _
    · exact hbl hs fun b hb=>(Only.setCell D p4 0 _ b (by omega)).trans (eD.block b (by omega))
    · exact ⟨eD.os.trans (hs.os.trans E3.os),eD.tape.trans (hs.tape.trans E3.tape),eD.output.trans (hs.output.trans E3.output)⟩
   unfold n44c2
   by_cases hlt:at_ < lines.length
   · have d1:decide ((at_:Int) < (lines.length:Int))=true:=decide_eq_true (by omega)
     have hw:IntKind.i64.wrap ((at_:Int)+1)=((at_+1:Nat):Int):=by rw [wrap_ok (by omega) (by omega)];omega
     simp (disch:=try exact DI) only [↓PR,QR,simprocAttr,(cells_of_heap hr.obj).1,d1,↓n44c1,hw,(cells_of_heap h4).1,(cells_of_heap h4).2]
     exact fin _ (by rw [if_pos hlt])
   · have d1:decide ((at_:Int) < (lines.length:Int))=false:=decide_eq_false (by omega)
     simp (disch:=try exact DI) only [↓PR,QR,simprocAttr,(cells_of_heap hr.obj).1,d1,(cells_of_heap h4).1,(cells_of_heap h4).2]
     exact fin _ (by rw [if_neg hlt])
 · obtain ⟨hs,hA⟩:=hA
   rcases hA with ⟨at_,ws,B,he,hr,hat,hΦ⟩ | ⟨n,he,hΨ⟩
   · cases he
   injection he with he
   subst he
   have h4:=hk4 hs
   have hsz:=hs.size
   refine read_pan h4 ⟨_,rfl,w4,?_,?_,by omega,?_,.inr ⟨n,hΨ,rfl⟩⟩
   · exact (Save.refl _ _ _).setCell (Nat.le_refl _) (Nat.lt_succ_self _) _
   · exact hbl hs fun b hb=>Only.setCell w4 p4 0 _ b (by omega)
   · exact ⟨hs.os.trans E3.os,hs.tape.trans E3.tape,hs.output.trans E3.output⟩
 · obtain ⟨hs,hA⟩:=hA
   rcases hA with ⟨at_,ws,B,he,_⟩ | ⟨n,he,_⟩<;>cases he
def zeroR:RolD:=⟨ByteArray.empty,[],[],[]⟩
def parseP (text:ByteArray):RolD×Int×Int:=match roleP (linesT text) with
 | (none,n)=>(zeroR,(n:Int),6)
 | (some r,n)=>if n < (linesT text).length then (zeroR,((n+1:Nat):Int),6) else if (checkR r).2=0 then (r,0,0) else (zeroR,0,(checkR r).2)
def RolObj (w:World) (c base:Nat) (r:RolD):Prop:=∃ sv cv tv,w.heap[c]?=some (.cells (rolCells r sv cv tv).toArray TRol (0,0))∧OwnE w base 50 3 staCells sv r.states∧OwnE w base 52 2 cntCells cv r.counters∧OwnE w base 71 9 stpCells tv r.steps
theorem RolObj.keep {w w':World} {c base:Nat} {r:RolD} (h:RolObj w c base r) (hc:w'.heap[c]?=w.heap[c]?) (hk:∀ b,base≤b→b < w.heap.size→w'.heap[b]?=w.heap[b]?):RolObj w' c base r:=by
 obtain ⟨sv,cv,tv,ho,h1,h2,h3⟩:=h
 exact ⟨sv,cv,tv,hc.trans ho,OwnE.keep h1 fun b hb=>hk b (World.ownsRow.lt h1 b hb).1 (World.ownsRow.lt h1 b hb).2,OwnE.keep h2 fun b hb=>hk b (World.ownsRow.lt h2 b hb).1 (World.ownsRow.lt h2 b hb).2,OwnE.keep h3 fun b hb=>hk b (World.ownsRow.lt h3 b hb).1 (World.ownsRow.lt h3 b hb).2⟩
theorem own_one {α:Type} {w:World} {base n:Nat} {T:TypeId} {enc:α→List Value} {v:Value} {l:List α} (h:OwnE w base T n enc v l) (hn:∀ x,(enc x).length=n):v.oneCell'=true:=SliceOf.oneCell (h.slice (E:=fun _ _ _=>True) hn (fun _ _=>trivial))
theorem linesT_len (s:ByteArray):(linesT s).length=(cutW 10 s).length:=by unfold linesT;rw [List.length_map]
theorem ParseS1_all {WB w1:World} {p c B:Nat} {text:ByteArray} {lv:Value} {x0 x1 x2 x3:Value} (hE:EnvOK WB) (eB:Ext WB w1) (hb:WB.heap.size≤p) (hz:text.size≤90000) (hp:p < w1.heap.size) (hr:Rd w1 p (cutW 10 text) 0 [] lv B) (hB:B < w1.heap.size) (hl:∀ A n c',lv = .slice (some A) n c'→A.block < w1.heap.size∧A.block≠c) (hcp:c≠p) {base:Nat} (hbs:base≤w1.heap.size) (ho:w1.heap[c]?=some (.cells #[x0,x1,x2,x3] TRol (0,0))) :
 Calls Pg 51 #[.pointer (some ⟨p,0,none⟩),.pointer (some ⟨c,0,none⟩)] w1 (AllR w1 p c (cutW 10 text) lv (fun w2 at_=>∃ r,roleP (linesT text)=(some r,at_)∧RolObj w2 c base r) (fun w2 n=>roleP (linesT text)=(none,n)∧∃ x0 x1 x2 x3,w2.heap[c]?=some (.cells #[x0,x1,x2,x3] TRol (0,0)))):=by
 obtain ⟨hln,hlz⟩:=lines_small text
 refine n27s ?_
 unfold n27
 have hror:=role_ror hE eB hb (fun x hx=>Nat.le_trans (hlz x hx) (by omega)) (by omega) (Nat.zero_le _) hr hB fun A n c' e=>(hl A n c' e).1
 rw [List.drop_zero] at hror
 refine callK_calls hror (fun v w2 hA=>?_) (fun ch w2 hA=>?_) (fun w2 hA=>?_)
 · obtain ⟨hs,hA⟩:=hA
   have hol:=hs.obj ho (by omega)
   cases hrp:roleP ((cutW 10 text).map spW) with
   | mk o n =>
   rw [hrp] at hA
   cases o with
   | none=>cases hA
   | some r =>
   obtain ⟨v',he,⟨sv,cv,tv,hv,h1,h2,h3⟩,ws,B',hr2,hB2,hB3⟩:=hA
   injection he with he
   subst he hv
   have f1:=own_one h1 (fun _=>rfl)
   have f2:=own_one h2 (fun _=>rfl)
   have f3:=own_one h3 (fun _=>rfl)
   simp (disch:=try exact DI) only [↓PR,QR,simprocAttr,(cells_of_heap hol).1,(cells_of_heap hol).2]
   have o5:((((w2.setCell ⟨c,0,none⟩ (.string r.name)).setCell ⟨c,1,none⟩ sv).setCell ⟨c,2,none⟩ cv).setCell ⟨c,3,none⟩ tv).heap[c]?=some (.cells (rolCells r sv cv tv).toArray TRol (0,0)):=by simpa using heap_set (o:=3) (heap_set (o:=2) (heap_set (o:=1) (heap_set (o:=0) hol (.string r.name)) sv) cv) tv
   have hs5:Save2 p c w1 ((((w2.setCell ⟨c,0,none⟩ (.string r.name)).setCell ⟨c,1,none⟩ sv).setCell ⟨c,2,none⟩ cv).setCell ⟨c,3,none⟩ tv):=((((Save2.of hs).setCell _ _).setCell _ _).setCell _ _).setCell _ _
   have hb5:∀ b,b≠c→((((w2.setCell ⟨c,0,none⟩ (.string r.name)).setCell ⟨c,1,none⟩ sv).setCell ⟨c,2,none⟩ cv).setCell ⟨c,3,none⟩ tv).heap[b]?=w2.heap[b]?:=fun b hb=>by simp only [Only.setCell _ c _ _ b hb]
   have hcl:c < w1.heap.size:=(Array.getElem?_eq_some_iff.1 ho).1
   refine ⟨hs5,.inl ⟨n,ws,B',rfl,?_,?_,r,hrp,sv,cv,tv,o5,(OwnE.keep h1 fun b hb=>hb5 b ?_).base hbs,(OwnE.keep h2 fun b hb=>hb5 b ?_).base hbs,(OwnE.keep h3 fun b hb=>hb5 b ?_).base hbs⟩⟩
   · rw [Nat.zero_add] at hr2
     exact hr2.same (hb5 p (by omega)) (hb5 B' (by omega)) fun A n c' e=>hb5 _ (hl A n c' e).2
   · have:=(roleP_read hrp).2.2.2.2.2;rw [List.length_map] at this;exact this
   · have:=(World.ownsRow.lt h1 b hb).1;omega
   · have:=(World.ownsRow.lt h2 b hb).1;omega
   · have:=(World.ownsRow.lt h3 b hb).1;omega
 · obtain ⟨hs,hA⟩:=hA
   cases hrp:roleP ((cutW 10 text).map spW) with
   | mk o n =>
   rw [hrp] at hA
   cases o with
   | some r=>obtain ⟨v',he,_⟩:=hA;cases he
   | none =>
   injection hA with hA
   subst hA
   refine ⟨Save2.of hs,.inr ⟨n,by simp,hrp,x0,x1,x2,x3,hs.obj ho (by omega)⟩⟩
 · obtain ⟨hs,hA⟩:=hA
   cases hrp:roleP ((cutW 10 text).map spW) with
   | mk o n =>
   rw [hrp] at hA
   cases o with
   | some r=>obtain ⟨v',he,_⟩:=hA;cases he
   | none=>cases hA
theorem roleP_pos {L:List (List ByteArray)} {n:Nat} (h:roleP L=(none,n)):0 < n:=by
 match L,h with
 | [],h=>injection h with _ h;omega
 | []::L,h=>injection h with _ h;omega
 | (k::ws)::L,h =>
  by_cases hk:k=kRole
  case neg=>rw [roleP_eq,if_neg hk] at h;injection h with _ h;omega
  subst hk
  rw [roleP_eq,if_pos rfl] at h
  cases hn:rnameP ws with
  | none=>rw [hn] at h;injection h with _ h;omega
  | some nm =>
  rw [hn] at h
  simp only at h
  unfold countersP at h
  cases hc:manyP kCounter cntP L with
  | mk o k1 =>
  rw [hc] at h
  cases o with
  | none=>injection h with _ h;omega
  | some cs =>
  simp only at h
  unfold statesP at h
  cases hs:manyP kState staP (L.drop k1) with
  | mk o k2 =>
  rw [hs] at h
  cases o with
  | none=>injection h with _ h;omega
  | some ss =>
  unfold stepsP at h
  injection h with _ h
  omega
theorem RolOwn.zero (w:World) (base:Nat):RolOwn w base (.agg #[.string ByteArray.empty,.slice none 0 0,.slice none 0 0,.slice none 0 0]) zeroR:=⟨_,_,_,rfl,OwnE.nil _ _ _ _ _,OwnE.nil _ _ _ _ _,OwnE.nil _ _ _ _ _⟩
theorem Parse_ret {w0:World} {text:ByteArray} (hE:EnvOK w0) (hz:text.size≤90000):Ret Pg 19 #[.string text] w0 fun u w'=>(∃ v,u = .tuple #[v,.int .i64 (parseP text).2.1,.int .i64 (parseP text).2.2]∧RolOwn w' w0.heap.size v (parseP text).1)∧Ext w0 w':=by
 obtain ⟨hln,hlz⟩:=lines_small text
 refine n24s (R:=retR _) ?_;unfold n24
 simp (disch:=try exact DI) only [↓PR,QR,simprocAttr]
 have e0:Ext w0 (World.alloc w0 (.cells #[.string ByteArray.empty,.slice none 0 0,.slice none 0 0,.slice none 0 0] TRol)):=(Ext.refl w0).alloc _
 have ho:=heap_new w0 #[.string ByteArray.empty,.slice none 0 0,.slice none 0 0,.slice none 0 0] TRol
 have s0:(World.alloc w0 (.cells #[.string ByteArray.empty,.slice none 0 0,.slice none 0 0,.slice none 0 0] TRol)).heap.size=w0.heap.size+1:=World.size_alloc ..
 generalize World.alloc w0 _=V at e0 ho s0 ⊢
 generalize hc:w0.heap.size=c at ho s0 ⊢
 refine callK_ret (read_ret (c:=c) (caps := #[.pointer (some ⟨c,0,none⟩)]) (Φ:=fun w2 at_=>∃ r,roleP (linesT text)=(some r,at_)∧RolObj w2 c (V.heap.size+1) r) (Ψ:=fun w2 n=>roleP (linesT text)=(none,n)∧∃ x0 x1 x2 x3,w2.heap[c]?=some (.cells #[x0,x1,x2,x3] TRol (0,0))) (hE.ext e0) hz c51 (by omega) fun w1 p lv B eV h1 h2 hr hB hcB hl=>ParseS1_all (hE.ext e0) eV (by omega) hz h2 hr hB hl (by omega) (by omega) (eV.obj ho)) ?_
 rintro t10 w' ⟨w2,hs,hbl,hsz,⟨ho1,ho2,ho3⟩,hcase⟩
 have hcw:w0.heap.size≤c:=Nat.le_of_eq hc
 have e':Ext w0 w':=⟨ho1.trans e0.os,ho2.trans e0.tape,ho3.trans e0.output,by have:=hs.size;omega,fun b hb=>(hbl b (by omega) (by omega)).trans (e0.block b hb)⟩
 have hcs:w'.heap[c]?=w2.heap[c]?:=hs.block c (by omega) (by omega)
 have bad:∀ (n:Nat) (x0 x1 x2 x3:Value),0 < n→parseP text=(zeroR,(n:Int),6)→w'.heap[c]?=some (.cells #[x0,x1,x2,x3] TRol (0,0))→n24c5 (.pointer (some ⟨c,0,none⟩)) (.int .i64 (n:Int)) (retR fun u w'=>(∃ v,u = .tuple #[v,.int .i64 (parseP text).2.1,.int .i64 (parseP text).2.2]∧RolOwn w' c v (parseP text).1)∧Ext w0 w') w':=by
  intro n x0 x1 x2 x3 hn hpp hob
  have d1:decide ((n:Int) > 0)=true:=decide_eq_true (by omega)
  unfold n24c5
  simp (disch:=try exact DI) only [↓PR,QR,simprocAttr,d1,↓n24c4,(cells_of_heap hob).1,(cells_of_heap hob).2]
  refine ⟨⟨_,by rw [hpp],by rw [hpp];exact RolOwn.zero _ _⟩,?_⟩
  exact (((e'.setCell (p:=⟨c,0,none⟩) hcw _).setCell (p:=⟨c,1,none⟩) hcw _).setCell (p:=⟨c,2,none⟩) hcw _).setCell (p:=⟨c,3,none⟩) hcw _
 rcases hcase with ⟨at_,⟨r,hrp,hob⟩,hat,rfl⟩ | ⟨n,⟨hrp,x0,x1,x2,x3,hob⟩,rfl⟩
 · rw [← linesT_len] at hat ⊢
   obtain ⟨hread,lc,ls,lt,hn1,_⟩:=roleP_read hrp
   by_cases hlt:at_ < (linesT text).length
   · rw [if_pos hlt]
     obtain ⟨sv,cv,tv,hob,_⟩:=hob
     exact bad (at_+1) _ _ _ _ (by omega) (by unfold parseP;rw [hrp];simp only;rw [if_pos hlt]) (hcs.trans hob)
   · rw [if_neg hlt]
     have hpp:parseP text=if (checkR r).2=0 then (r,0,0) else (zeroR,0,(checkR r).2):=by unfold parseP;rw [hrp];simp only;rw [if_neg hlt]
     have hob:=(hob.keep hcs fun b hb hb2=>hs.block b hb2 (by omega))
     obtain ⟨sv,cv,tv,hob,h1,h2,h3⟩:=hob
     have f1:=own_one h1 (fun _=>rfl)
     have f2:=own_one h2 (fun _=>rfl)
     have f3:=own_one h3 (fun _=>rfl)
     have hll:=linesT_len text
     unfold n24c5
     simp (disch:=try exact DI) only [↓PR,QR,simprocAttr,(cells_of_heap hob).1]
     refine zcr (Check_ret w' _ r (RolOwn.val ⟨sv,cv,tv,rfl,h1,h2,h3⟩) hread.sm ⟨by omega,by omega,by omega⟩) fun w3 e3=>?_
     have hob3:=e3.obj hob
     have E3:=e'.trans e3
     by_cases hc0:(checkR r).2=0
     · have d1:((checkR r).2 != 0)=false:=by simp [hc0]
       rw [if_pos hc0] at hpp
       simp (disch:=try exact DI) only [↓PR,QR,simprocAttr,↓n24c3,d1,↓n24c2,(cells_of_heap hob3).1,(cells_of_heap hob3).2]
       have hb5:∀ b,b≠c→((((w3.setCell ⟨c,0,none⟩ (.string r.name)).setCell ⟨c,1,none⟩ sv).setCell ⟨c,2,none⟩ cv).setCell ⟨c,3,none⟩ tv).heap[b]?=w3.heap[b]?:=fun b hb=>by simp only [Only.setCell _ c _ _ b hb]
       refine ⟨⟨_,by rw [hpp],?_⟩,?_⟩
       · rw [hpp]
         refine ⟨sv,cv,tv,rfl,(OwnE.keep (h1.ext e3) fun b hb=>hb5 b ?_).base (by omega),(OwnE.keep (h2.ext e3) fun b hb=>hb5 b ?_).base (by omega),(OwnE.keep (h3.ext e3) fun b hb=>hb5 b ?_).base (by omega)⟩
         · have:=(World.ownsRow.lt h1 b hb).1;omega
         · have:=(World.ownsRow.lt h2 b hb).1;omega
         · have:=(World.ownsRow.lt h3 b hb).1;omega
       · exact (((E3.setCell (p:=⟨c,0,none⟩) hcw _).setCell (p:=⟨c,1,none⟩) hcw _).setCell (p:=⟨c,2,none⟩) hcw _).setCell (p:=⟨c,3,none⟩) hcw _
     · have d1:((checkR r).2 != 0)=true:=by simp [hc0]
       rw [if_neg hc0] at hpp
       simp (disch:=try exact DI) only [↓PR,QR,simprocAttr,↓n24c3,d1,↓n24c1,(cells_of_heap hob3).1,(cells_of_heap hob3).2]
       refine ⟨⟨_,by rw [hpp],by rw [hpp];exact RolOwn.zero _ _⟩,?_⟩
       exact (((E3.setCell (p:=⟨c,0,none⟩) hcw _).setCell (p:=⟨c,1,none⟩) hcw _).setCell (p:=⟨c,2,none⟩) hcw _).setCell (p:=⟨c,3,none⟩) hcw _
 · have hn:0 < n:=roleP_pos hrp
   exact bad n _ _ _ _ hn (by unfold parseP;rw [hrp]) (hcs.trans hob)
theorem one_Counter (x:CntD):∀ u∈cntCells x,u.oneCell'=true:=by
 intro u hu
 simp only [List.mem_cons,List.not_mem_nil,or_false] at hu
 rcases hu with rfl | rfl<;>rfl
theorem Clone_Counter_ret (w0:World) (v:Value) (l:List CntD) (hs:SliceOf w0 2 ECnt v l) (hb:l.length≤1048576) :
 Ret Pg 55 #[v] w0 fun r w'=>OwnE w' w0.heap.size 52 2 cntCells r l∧Ext w0 w':=by
 obtain ⟨A,c,rfl,hlc,hcm,hlm,hel⟩:=SliceOf.open hs
 refine n58s (R:=retR _) ?_;unfold n58
 simp (disch:=try exact DI) only [↓PR,QR,simprocAttr]
 cases A with
 | none =>
  have:l=[]:=by
   cases l with
   | nil=>rfl
   | cons x l=>obtain ⟨_,_,_,h,_⟩:=hel 0 x rfl;cases h
  subst this
  simp only [Option.isNone_none]
  simp (disch:=try exact DI) only [↓PR,QR,simprocAttr]
  exact ⟨OwnE.nil _ _ _ _ _,ee⟩
 | some a =>
  simp only [Option.isNone_some]
  simp (disch:=try exact DI) only [↓PR,QR,simprocAttr]
  have hO:=OwnE.new w0 52 2 cntCells [] (fun x=>rfl) (by simp)
  simp only [List.flatMap_nil,List.length_nil] at hO
  have eW:Ext w0 (w0.alloc (.cells #[] 52)):=ee
  have hsz:w0.heap.size≤(w0.alloc (.cells #[] 52)).heap.size:=eW.size
  generalize w0.alloc (.cells #[] 52)=W at hO eW hsz ⊢
  cases hcs:l with
  | nil =>
   subst hcs
   simp only [List.length_nil]
   rw [op_append0 Tryz.underlying23 ty52 _ _ _ _ _ (Nat.le_refl 0)]
   simp (disch:=try exact DI) only [↓PR,QR,simprocAttr]
   exact ⟨hO,eW⟩
  | cons x0 l0 =>
   obtain ⟨b,o,_,hA,_⟩:=hel 0 x0 (by rw [hcs];rfl)
   injection hA with hA
   subst hA
   rw [← hcs]
   refine op_appendE Tryz.underlying23 ty52 rfl (by decide) (fun x=>rfl) (fun x _=>one_Counter x) hO (fun j x hx=>?_) hsz ?_ (by simp;omega) ?_
   · obtain ⟨b',o',cs,hA',hl',hE,rfl⟩:=hel j x hx
     injection hA' with hA'
     injection hA' with h3 h4
     subst h3 h4
     exact hE.ext eW
   · have:=by52
     rw [List.length_nil,Nat.zero_add]
     exact Nat.le_trans (Nat.mul_le_mul hb this) (by decide)
   · intro v' w' ho hg
     simp (disch:=try exact DI) only [↓PR,QR,simprocAttr]
     refine ⟨ho,eW.grown hg ?_⟩
     intro k hk
     have h:=hO.lt k hk
     exact h.1
theorem one_State (x:StaD):∀ u∈staCells x,u.oneCell'=true:=by
 intro u hu
 simp only [List.mem_cons,List.not_mem_nil,or_false] at hu
 rcases hu with rfl | rfl | rfl<;>rfl
theorem Clone_State_ret (w0:World) (v:Value) (l:List StaD) (hs:SliceOf w0 3 ESta v l) (hb:l.length≤1048576) :
 Ret Pg 56 #[v] w0 fun r w'=>OwnE w' w0.heap.size 50 3 staCells r l∧Ext w0 w':=by
 obtain ⟨A,c,rfl,hlc,hcm,hlm,hel⟩:=SliceOf.open hs
 refine n59s (R:=retR _) ?_;unfold n59
 simp (disch:=try exact DI) only [↓PR,QR,simprocAttr]
 cases A with
 | none =>
  have:l=[]:=by
   cases l with
   | nil=>rfl
   | cons x l=>obtain ⟨_,_,_,h,_⟩:=hel 0 x rfl;cases h
  subst this
  simp only [Option.isNone_none]
  simp (disch:=try exact DI) only [↓PR,QR,simprocAttr]
  exact ⟨OwnE.nil _ _ _ _ _,ee⟩
 | some a =>
  simp only [Option.isNone_some]
  simp (disch:=try exact DI) only [↓PR,QR,simprocAttr]
  have hO:=OwnE.new w0 50 3 staCells [] (fun x=>rfl) (by simp)
  simp only [List.flatMap_nil,List.length_nil] at hO
  have eW:Ext w0 (w0.alloc (.cells #[] 50)):=ee
  have hsz:w0.heap.size≤(w0.alloc (.cells #[] 50)).heap.size:=eW.size
  generalize w0.alloc (.cells #[] 50)=W at hO eW hsz ⊢
  cases hcs:l with
  | nil =>
   subst hcs
   simp only [List.length_nil]
   rw [op_append0 Tryz.underlying22 ty50 _ _ _ _ _ (Nat.le_refl 0)]
   simp (disch:=try exact DI) only [↓PR,QR,simprocAttr]
   exact ⟨hO,eW⟩
  | cons x0 l0 =>
   obtain ⟨b,o,_,hA,_⟩:=hel 0 x0 (by rw [hcs];rfl)
   injection hA with hA
   subst hA
   rw [← hcs]
   refine op_appendE Tryz.underlying22 ty50 rfl (by decide) (fun x=>rfl) (fun x _=>one_State x) hO (fun j x hx=>?_) hsz ?_ (by simp;omega) ?_
   · obtain ⟨b',o',cs,hA',hl',hE,rfl⟩:=hel j x hx
     injection hA' with hA'
     injection hA' with h3 h4
     subst h3 h4
     exact hE.ext eW
   · have:=by50
     rw [List.length_nil,Nat.zero_add]
     exact Nat.le_trans (Nat.mul_le_mul hb this) (by decide)
   · intro v' w' ho hg
     simp (disch:=try exact DI) only [↓PR,QR,simprocAttr]
     refine ⟨ho,eW.grown hg ?_⟩
     intro k hk
     have h:=hO.lt k hk
     exact h.1
theorem one_Step (x:StpD):∀ u∈stpCells x,u.oneCell'=true:=by
 intro u hu
 simp only [List.mem_cons,List.not_mem_nil,or_false] at hu
 rcases hu with rfl | rfl | rfl | rfl | rfl | rfl | rfl | rfl | rfl<;>rfl
theorem OwnE.setE {α:Type} {w:World} {lo n g cap len:Nat} {T:TypeId} {enc:α→List Value} {l:List α} (hn:∀ x,(enc x).length=n) (h:OwnE w lo T n enc (.slice (some ⟨g,0,none⟩) len cap) l) {k:Nat} {x y:α} (hk:l[k]?=some x) {j:Nat} (hj:j < n) (u:Value) (hy:enc y=(enc x).set j u) :
 OwnE (w.setCell ⟨g,k*n+j,none⟩ u) lo T n enc (.slice (some ⟨g,0,none⟩) len cap) (l.set k y):=by
 have key:∀ m:List α,OwnE w lo T n (Subtype.val:Cs n→List Value) (.slice (some ⟨g,0,none⟩) len cap) (m.map fun x=>⟨enc x,hn x⟩)↔OwnE w lo T n enc (.slice (some ⟨g,0,none⟩) len cap) m:=fun m=>by
  unfold OwnE
  rw [List.length_map,List.flatMap_map]
 have h1:=OwnE.set ((key l).2 h) (k:=k) (cs:=⟨enc x,hn x⟩) (by rw [List.getElem?_map,hk];rfl) hj u
 have h2:((l.map fun x=>(⟨enc x,hn x⟩:Cs n)).set k ⟨(enc x).set j u,by simp [hn x]⟩)=(l.set k y).map fun x=>⟨enc x,hn x⟩:=by
  rw [List.map_set]
  congr 1
  exact Subtype.ext hy.symm
 rw [h2] at h1
 have key':∀ (w:World) (m:List α),OwnE w lo T n (Subtype.val:Cs n→List Value) (.slice (some ⟨g,0,none⟩) len cap) (m.map fun x=>⟨enc x,hn x⟩)↔OwnE w lo T n enc (.slice (some ⟨g,0,none⟩) len cap) m:=fun w m=>by
  unfold OwnE
  rw [List.length_map,List.flatMap_map]
 exact (key' _ _).1 h1
def n30c1 (t8 t11:Value) (K8:World→Prop) (R:RT) (w:World):Prop :=
 opV Pg (Instr.fieldAt 26 t8 3) (panK R) w fun t83 w =>
 opV Pg (Instr.loadAt 24 t83) (panK R) w fun t84 w =>
 opV Pg (Instr.loadAt 71 t11) (panK R) w fun t85 w =>
 opV Pg (Instr.buildSlice 24 1 #[(0,t85)]) (panK R) w fun t86 w =>
 opV Pg (Builtin.append_ #[24,24] 24 #[t84,t86]) (panK R) w fun t87 w =>
 opV Pg (Instr.fieldAt 26 t8 3) (panK R) w fun t88 w =>
 opU Pg (Instr.storeAt 24 t88 t87) (panK R) w fun w =>
 K8 w
def n30c2 (t8 t11 t54 t81:Value) (next5:KV) (R:RT) (w:World):Prop :=
 opV Pg (Op.unary .not t81) (panK R) w fun t82 w =>
 joinK (fun (w:World) =>
 opV Pg (binS .add 3 true t54 (.int .i64 1)) (panK R) w fun t89 w =>
 next5 t89 w) fun K8 =>
 condP t82 (
 n30c1 t8 t11 K8 R w) (
 K8 w)
def n30c3 (t8 t11 t54:Value) (next5:KV) (R:RT) (w:World):Prop :=
 opV Pg (Instr.fieldAt 26 t8 3) (panK R) w fun t78 w =>
 opV Pg (Instr.loadAt 24 t78) (panK R) w fun t79 w =>
 opV Pg (Instr.loadAt 71 t11) (panK R) w fun t80 w =>
 callK Pg 57 #[t79,t80] (panK R) w fun t81 w =>
 n30c2 t8 t11 t54 t81 next5 R w
def n30c4 (t11 t70 t72 t73:Value) (C9:World→Prop) (K10:World→Prop) (R:RT) (w:World):Prop :=
 opU Pg (Instr.storeAt 69 t73 t70) (panK R) w fun w =>
 C9 w∧(
 qV Pg C9 (Instr.fieldAt 71 t11 4) fun t74 =>
 opU Pg (Instr.storeAt 9 t74 t72) (panK R) w fun w =>
 turnK w fun C11 w =>
 K10 w)
def n30c5 (t11 t71:Value) (C9:World→Prop) (K10:World→Prop) (R:RT) (w:World):Prop :=
 opV Pg (Instr.loadAt 9 t71) (panK R) w fun t72 w =>
 C9 w∧(
 qV Pg C9 (Instr.fieldAt 71 t11 4) fun t74 =>
 opU Pg (Instr.storeAt 9 t74 t72) (panK R) w fun w =>
 turnK w fun C12 w =>
 K10 w)
def n30c6 (t11 t69 t71:Value) (C9:World→Prop) (K10:World→Prop) (R:RT) (w:World):Prop :=
 qV Pg C9 (binS .sub 69 true (.int .i64 3) t69) fun t70 =>
 qV Pg C9 (Instr.fieldAt 71 t11 2) fun t73 =>
 (
 opV Pg (Instr.loadAt 9 t71) (panK R) w fun t72 w =>
 C9 w∧(
 n30c4 t11 t70 t72 t73 C9 K10 R w))∧(
 opU Pg (Instr.storeAt 69 t73 t70) (panK R) w fun w =>
 C9 w∧(
 n30c5 t11 t71 C9 K10 R w))
def n30c7 (t11 t69 t72:Value) (C9:World→Prop) (K10:World→Prop) (R:RT) (w:World):Prop :=
 qV Pg C9 (binS .sub 69 true (.int .i64 3) t69) fun t70 =>
 qV Pg C9 (Instr.fieldAt 71 t11 2) fun t73 =>
 opU Pg (Instr.storeAt 69 t73 t70) (panK R) w fun w =>
 C9 w∧(
 qV Pg C9 (Instr.fieldAt 71 t11 4) fun t74 =>
 opU Pg (Instr.storeAt 9 t74 t72) (panK R) w fun w =>
 turnK w fun C13 w =>
 K10 w)
def n30c8 (t2 t11:Value) (C9:World→Prop) (K7:World→Prop) (R:RT) (w:World):Prop :=
 qV Pg C9 (Instr.fieldAt 71 t11 2) fun t68 =>
 qV Pg C9 (Instr.fieldAt 26 t2 0) fun t71 =>
 joinK (fun (w:World) =>
 K7 w) fun K10 =>
 (
 opV Pg (Instr.loadAt 69 t68) (panK R) w fun t69 w =>
 C9 w∧(
 n30c6 t11 t69 t71 C9 K10 R w))∧(
 opV Pg (Instr.loadAt 9 t71) (panK R) w fun t72 w =>
 C9 w∧(
 opV Pg (Instr.loadAt 69 t68) (panK R) w fun t69 w =>
 C9 w∧(
 n30c7 t11 t69 t72 C9 K10 R w)))
def n30c9 (t4:Value) (R:RT) (w:World):Prop :=
 opV Pg (Instr.build 26 #[]) (panK R) w fun t67 w =>
 opU Pg (Instr.storeAt 26 t4 t67) (panK R) w fun w =>
 qW Pg 26 t4 w fun r0 =>
 R (.returned (.tuple #[r0,(.int .i64 2)])) w
def n30c10 (t1 t2 t4 t11:Value) (K7:World→Prop) (R:RT) (w:World):Prop :=
 opV Pg (Instr.fieldAt 71 t11 4) (panK R) w fun t63 w =>
 opV Pg (Instr.loadAt 9 t63) (panK R) w fun t64 w =>
 opV Pg (binS .neq 9 false t64 t1) (panK R) w fun t66 w =>
 condP t66 (
 n30c9 t4 R w) (
 drawK w fun C9 w =>
 n30c8 t2 t11 C9 K7 R w)
def n30c11 (t11 t59:Value) (K7:World→Prop) (R:RT) (w:World):Prop :=
 opV Pg (binS .eql 69 true t59 (.int .i64 3)) (panK R) w fun t76 w =>
 condP t76 (
 opV Pg (Instr.fieldAt 71 t11 2) (panK R) w fun t77 w =>
 opU Pg (Instr.storeAt 69 t77 (.int .i64 4)) (panK R) w fun w =>
 K7 w) (
 K7 w)
def n30c12 (t4 t8:Value) (R:RT) (w:World):Prop :=
 opV Pg (Instr.loadAt 26 t8) (panK R) w fun t90 w =>
 opU Pg (Instr.storeAt 26 t4 t90) (panK R) w fun w =>
 qW Pg 26 t4 w fun r0 =>
 R (.returned (.tuple #[r0,(.int .i64 0)])) w
def n30c13 (t1 t2 t4 t8 t52 t54:Value) (next5:KV) (R:RT) (w:World):Prop :=
 opV Pg (Instr.indexAt 24 t52 t54) (panK R) w fun t56 w =>
 opV Pg (Instr.loadAt 71 t56) (panK R) w fun t57 w =>
 opV Pg (Instr.alloc 71 true (.tuple #[])) (panK R) w fun t11 w =>
 opU Pg (Instr.storeAt 71 t11 t57) (panK R) w fun w =>
 opV Pg (Instr.fieldAt 71 t11 2) (panK R) w fun t58 w =>
 opV Pg (Instr.loadAt 69 t58) (panK R) w fun t59 w =>
 opV Pg (binS .eql 69 true t59 (.int .i64 1)) (panK R) w fun t61 w =>
 joinK (fun (t60:Value) (w:World) =>
 joinK (fun (w:World) =>
 n30c3 t8 t11 t54 next5 R w) fun K7 =>
 condP t60 (
 n30c10 t1 t2 t4 t11 K7 R w) (
 n30c11 t11 t59 K7 R w)) fun K6 =>
 condP t61 (
 K6 t61 w) (
 opV Pg (binS .eql 69 true t59 (.int .i64 2)) (panK R) w fun t62 w =>
 K6 t62 w)
def n30c14 (t1 t2 t4 t8:Value) (R:RT) (w:World):Prop :=
 opV Pg (Instr.fieldAt 26 t2 3) (panK R) w fun t51 w =>
 opV Pg (Instr.loadAt 24 t51) (panK R) w fun t52 w =>
 opV Pg (Builtin.len_ #[24] 3 #[t52]) (panK R) w fun t53 w =>
 loop1 (fun t54 w next5 =>
 opV Pg (binS .lss 3 false t54 t53) (panK R) w fun t55 w =>
 condP t55 (
 n30c13 t1 t2 t4 t8 t52 t54 next5 R w) (
 n30c12 t4 t8 R w)) (.int .i64 0) w
def n30c15 (t8 t42:Value) (next4:KV) (R:RT) (w:World):Prop :=
 opV Pg (Instr.fieldAt 26 t8 1) (panK R) w fun t45 w =>
 opV Pg (Instr.loadAt 22 t45) (panK R) w fun t46 w =>
 opV Pg (Instr.indexAt 22 t46 t42) (panK R) w fun t48 w =>
 opV Pg (Instr.fieldAt 50 t48 2) (panK R) w fun t49 w =>
 opU Pg (Instr.storeAt 3 t49 (.int .i64 0)) (panK R) w fun w =>
 opV Pg (binS .add 3 true t42 (.int .i64 1)) (panK R) w fun t50 w =>
 next4 t50 w
def n30c16 (t1 t2 t4 t8:Value) (R:RT) (w:World):Prop :=
 opV Pg (Instr.fieldAt 26 t8 1) (panK R) w fun t39 w =>
 opV Pg (Instr.loadAt 22 t39) (panK R) w fun t40 w =>
 opV Pg (Builtin.len_ #[22] 3 #[t40]) (panK R) w fun t41 w =>
 loop1 (fun t42 w next4 =>
 opV Pg (binS .lss 3 false t42 t41) (panK R) w fun t43 w =>
 condP t43 (
 n30c15 t8 t42 next4 R w) (
 n30c14 t1 t2 t4 t8 R w)) (.int .i64 0) w
def n30c17 (t1 t34 t37:Value) (C2:World→Prop) (K3:KV) (R:RT) (w:World):Prop :=
 qV Pg C2 (Instr.build 26 #[(0,t1),(2,t34),(1,t37)]) fun t38 =>
 opV Pg (Instr.alloc 26 true (.tuple #[])) (panK R) w fun t8 w =>
 C2 w∧(
 opU Pg (Instr.storeAt 26 t8 t38) (panK R) w fun w =>
 turnK w fun C14 w =>
 K3 t8 w)
def n30c18 (t1 t8 t34 t36:Value) (C2:World→Prop) (K3:KV) (R:RT) (w:World):Prop :=
 callK Pg 56 #[t36] (panK R) w fun t37 w =>
 C2 w∧(
 qV Pg C2 (Instr.build 26 #[(0,t1),(2,t34),(1,t37)]) fun t38 =>
 opU Pg (Instr.storeAt 26 t8 t38) (panK R) w fun w =>
 turnK w fun C15 w =>
 K3 t8 w)
def n30c19 (t1 t34 t36:Value) (C2:World→Prop) (K3:KV) (R:RT) (w:World):Prop :=
 (
 callK Pg 56 #[t36] (panK R) w fun t37 w =>
 C2 w∧(
 n30c17 t1 t34 t37 C2 K3 R w))∧(
 opV Pg (Instr.alloc 26 true (.tuple #[])) (panK R) w fun t8 w =>
 C2 w∧(
 n30c18 t1 t8 t34 t36 C2 K3 R w))
def n30c20 (t1 t8 t34 t36:Value) (C2:World→Prop) (K3:KV) (R:RT) (w:World):Prop :=
 callK Pg 56 #[t36] (panK R) w fun t37 w =>
 C2 w∧(
 qV Pg C2 (Instr.build 26 #[(0,t1),(2,t34),(1,t37)]) fun t38 =>
 opU Pg (Instr.storeAt 26 t8 t38) (panK R) w fun w =>
 turnK w fun C16 w =>
 K3 t8 w)
def n30c21 (t1 t2 t4:Value) (C2:World→Prop) (R:RT) (w:World):Prop :=
 qV Pg C2 (Instr.fieldAt 26 t2 2) fun t32 =>
 qV Pg C2 (Instr.loadAt 23 t32) fun t33 =>
 qV Pg C2 (Instr.fieldAt 26 t2 1) fun t35 =>
 qV Pg C2 (Instr.loadAt 22 t35) fun t36 =>
 joinK (fun (t8:Value) (w:World) =>
 n30c16 t1 t2 t4 t8 R w) fun K3 =>
 (
 callK Pg 55 #[t33] (panK R) w fun t34 w =>
 C2 w∧(
 n30c19 t1 t34 t36 C2 K3 R w))∧(
 opV Pg (Instr.alloc 26 true (.tuple #[])) (panK R) w fun t8 w =>
 C2 w∧(
 callK Pg 55 #[t33] (panK R) w fun t34 w =>
 C2 w∧(
 n30c20 t1 t8 t34 t36 C2 K3 R w)))
def n30c22 (t4:Value) (R:RT) (w:World):Prop :=
 opV Pg (Instr.build 26 #[]) (panK R) w fun t30 w =>
 opU Pg (Instr.storeAt 26 t4 t30) (panK R) w fun w =>
 qW Pg 26 t4 w fun r0 =>
 R (.returned (.tuple #[r0,(.int .i64 2)])) w
def n30c23 (t1 t2 t4 t22:Value) (R:RT) (w:World):Prop :=
 opV Pg (Op.unary .not t22) (panK R) w fun t23 w =>
 joinK (fun (t28:Value) (w:World) =>
 pickK t23 (.bool true) t28 fun t29 =>
 condP t29 (
 n30c22 t4 R w) (
 drawK w fun C2 w =>
 n30c21 t1 t2 t4 C2 R w)) fun K1 =>
 guardP t23 false (
 opV Pg (Instr.fieldAt 26 t2 0) (panK R) w fun t26 w =>
 opV Pg (Instr.loadAt 9 t26) (panK R) w fun t27 w =>
 opV Pg (binS .eql 9 false t1 t27) (panK R) w fun t28 w =>
 K1 t28 w) (
 K1 undef w)
def n30c24 (t1 t2 t4 t14:Value) (R:RT) (w:World):Prop :=
 opV Pg (Instr.extract t14 0) (panK R) w fun t15 w =>
 opV Pg (Instr.extract t14 1) (panK R) w fun t16 w =>
 opV Pg (binS .neq 29 true t16 (.int .i64 0)) (panK R) w fun t18 w =>
 condP t18 (
 opV Pg (Instr.build 26 #[]) (panK R) w fun t19 w =>
 opU Pg (Instr.storeAt 26 t4 t19) (panK R) w fun w =>
 qW Pg 26 t4 w fun r0 =>
 R (.returned (.tuple #[r0,t16])) w) (
 callK Pg 17 #[t1] (panK R) w fun t22 w =>
 n30c23 t1 t2 t4 t22 R w)
def n30 (t0 t1:Value) (R:RT) (w:World):Prop :=
 opV Pg (Instr.box 26 t0) (panK R) w fun t2 w =>
 opV Pg (Instr.alloc 26 true (.tuple #[])) (panK R) w fun t4 w =>
 opV Pg (Instr.loadAt 26 t2) (panK R) w fun t13 w =>
 callK Pg 12 #[t13] (panK R) w fun t14 w =>
 n30c24 t1 t2 t4 t14 R w
set_option maxHeartbeats 40000000 in
theorem n30s {t0 t1:Value} {R:RT} {w:World} (h:n30 t0 t1 R w):Calls Pg 23 #[t0,t1] w R:=by
 refine yD Tryz.func23 ?_
 refine zs<|zr<|yv h fun _ w h=>yv h fun _ w h=>zm<|zn<|zk<|zs<|zs<|zr<|yv h fun _ w h=>yc h c12 fun _ w h=>zm<|yv h fun _ w h=>yv h fun _ w h=>?_
 refine zm<|zm<|zn<|zk<|zs<|zr<|zm<|yb h fun _ w h=>zn<|zk<|yC h (fun h=>zs<|zr<|yB h fun _ w h=>zm<|yu h fun w h=>zm<|zn<|zk<|sim_ret<|sim_then_ret<|body_retCT rfl rfl rfl h) fun h=>sim_skip<|zk<|zs ?_
 refine zs<|sim_regionG<|yG 4<|zm<|yc h c17 fun _ w h=>yv h fun _ w h=>zm<|zn<|yg1 4 3 false [25,26,27,28] 28 h (fun _ T hT h=>?_) fun σ w h=>?_
 · refine zm<|yv h fun _ w h=>yv h fun _ w h=>yb h fun _ w h=>zn ?_
   exact zt hT h
 refine yG 1<|yp h fun _ h=>zn<|sim_end<|zk<|yC h (fun h=>zs<|zr<|yB h fun _ w h=>yu h fun w h=>zm<|zn<|zk<|sim_ret<|sim_then_ret<|body_retCT rfl rfl rfl h) fun h=>sim_skip<|zk<|zs<|yh [8,31,32,33,34,35,36,37,38] h fun C hC h=>yw 0 hC ?_
 refine ye 1 hC h fun _ h=>?_
 refine ye 2 hC h fun _ h=>?_
 refine ye 4 hC h fun _ h=>?_
 refine ye 5 hC h fun _ h=>?_
 refine joinK_elim h (fun K3 hK h=>?_)
 refine sim_dmeet [8,34,37,38] (fun ρ w=>K3 (ρ 8) w) (fun T hT=>?_) (fun σ w h=>?_)
 · obtain ⟨h0,h1⟩:=h
   refine sim_dloud2 3 8 rfl rfl (by kernel_rfl) (fun _ _=>rfl) (fun _ _=>rfl) ?_ ?_
   · have h:=h0
     refine yc h c55 fun _ w h=>zn ?_
     obtain ⟨hC,h⟩:=h
     refine ⟨_,fun _ h=>h,hC,?_⟩
     obtain ⟨h0,h1⟩:=h
     refine sim_dloud2 6 8 rfl rfl (by kernel_rfl) (fun _ _=>rfl) (fun _ _=>rfl) ?_ ?_
     · have h:=h0
       refine yc h c56 fun _ w h=>zn ?_
       obtain ⟨hC,h⟩:=h
       refine ⟨_,fun _ h=>h,hC,?_⟩
       refine ye 7 hC h fun _ h=>?_
       refine yo 8 ?_
       refine yv h fun _ w h=>zn ?_
       obtain ⟨hC,h⟩:=h
       refine ⟨hC,?_⟩
       refine yq 9 1 ?_
       refine yu h fun w h=>zn ?_
       obtain ⟨C14,hC,h⟩:=h
       refine ⟨C14,hC,?_⟩
       refine yz ?_
       exact zt hT h
     have h:=h1
     refine yv h fun _ w h=>zn ?_
     obtain ⟨hC,h⟩:=h
     refine ⟨_,fun _ h=>h,hC,?_⟩
     refine yo 6 ?_
     refine yc h c56 fun _ w h=>zn ?_
     obtain ⟨hC,h⟩:=h
     refine ⟨hC,?_⟩
     refine ye 7 hC h fun _ h=>?_
     refine yq 9 1 ?_
     refine yu h fun w h=>zn ?_
     obtain ⟨C15,hC,h⟩:=h
     refine ⟨C15,hC,?_⟩
     refine yz ?_
     exact zt hT h
   have h:=h1
   refine yv h fun _ w h=>zn ?_
   obtain ⟨hC,h⟩:=h
   refine ⟨_,fun _ h=>h,hC,?_⟩
   refine yo 3 ?_
   refine yc h c55 fun _ w h=>zn ?_
   obtain ⟨hC,h⟩:=h
   refine ⟨hC,?_⟩
   refine yo 6 ?_
   refine yc h c56 fun _ w h=>zn ?_
   obtain ⟨hC,h⟩:=h
   refine ⟨hC,?_⟩
   refine ye 7 hC h fun _ h=>?_
   refine yq 9 1 ?_
   refine yu h fun w h=>zn ?_
   obtain ⟨C16,hC,h⟩:=h
   refine ⟨C16,hC,?_⟩
   refine yz ?_
   exact zt hT h
 subst hK
 refine zk<|zs<|zs<|zr<|yv h fun _ w h=>yv h fun _ w h=>yx h fun _ w h=>zm<|zn<|zk<|sim_block<|yl1 [9,42,43,44,45,46,47,48,49,50] 42 h fun σ w next h=>zs<|zr<|yb h fun _ w h=>?_
 refine zn<|zk<|zs<|yC h (fun h=>?_) fun h=>?_
 · refine sim_skip<|zk<|zs<|sim_block<|zs<|zr<|zm<|zm<|zn<|zk<|zr<|yv h fun _ w h=>yv h fun _ w h=>zm<|yv h fun _ w h=>?_
   exact yv h fun _ w h=>yu h fun w h=>zn<|sim_block_normal<|zk<|zr<|yb h fun _ w h=>zm<|zn<|zk<|⟨rfl,h⟩
 refine sim_exit<|sim_then_exit<|sim_then_exit<|sim_block_hit<|zk<|zs<|zs<|zr<|yv h fun _ w h=>yv h fun _ w h=>yx h fun _ w h=>zm<|zn<|zk<|sim_block ?_
 refine yl1 [5,11,54,55,56,57,58,59,60,61,62,63,64,65,66,67,68,69,70,71,72,73,74,75,76,77,78,79,80,81,82,83,84,85,86,87,88,89] 54 h fun σ w next h=>zs<|zr<|yb h fun _ w h=>zn<|zk<|zs<|yC h (fun h=>?_) fun h=>?_
 · refine sim_skip<|zk<|zs<|sim_block<|zs<|zr<|yv h fun _ w h=>yv h fun _ w h=>yv h fun _ w h=>yu h fun w h=>zn<|zk<|zs<|zs<|zr ?_
   refine yv h fun _ w h=>yv h fun _ w h=>zn<|zk<|sim_block<|zs<|zs<|zr<|yb h fun _ w h=>zm<|zn<|zk<|yJ1 [60,62] 60 h (fun _ _ hkK6 h=>?_) fun σ w h=>?_
   · refine yC h (fun h=>?_) fun h=>?_
     · refine sim_skip<|zk ?_
       exact zt hkK6 h
     refine zr<|yb h fun _ w h=>zm<|zn<|zk ?_
     exact zt hkK6 h
   refine zk<|yJ0 [5,63,64,65,66,67,68,69,70,71,72,73,74,75,76,77] h (fun _ _ hkK7 h=>?_) fun σ w h=>?_
   · refine yC h (fun h=>?_) fun h=>?_
     · refine zs<|zs<|zr<|yv h fun _ w h=>yv h fun _ w h=>zm<|yb h fun _ w h=>zn<|zk<|yC h (fun h=>?_) fun h=>?_
       · refine zs<|zr<|yB h fun _ w h=>yu h fun w h=>zm<|zn<|zk<|sim_ret<|sim_then_ret<|sim_then_ret<|sim_block_ret<|sim_then_ret<|sim_block_ret<|sim_then_ret<|sim_then_ret ?_
         exact sim_block_ret<|sim_then_ret<|body_retCT rfl rfl rfl h
       refine sim_skip<|zk<|yh [68,69,70,71,72,73,74] h fun C hC h=>ye 0 hC h fun _ h=>?_
       refine ye 3 hC h fun _ h=>?_
       refine joinK_elim h (fun K10 hK h=>?_)
       refine sim_dmeet [69,70,72,73,74] (fun ρ w=>K10 w) (fun T hT=>?_) (fun σ w h=>?_)
       · obtain ⟨h0,h1⟩:=h
         refine sim_dloud2 1 4 rfl rfl (by kernel_rfl) (fun _ _=>rfl) (fun _ _=>rfl) ?_ ?_
         · have h:=h0
           refine yv h fun _ w h=>zn ?_
           obtain ⟨hC,h⟩:=h
           refine ⟨_,fun _ h=>h,hC,?_⟩
           refine ye 2 hC h fun _ h=>?_
           refine ye 5 hC h fun _ h=>?_
           obtain ⟨h0,h1⟩:=h
           refine sim_dloud2 4 6 rfl rfl (by kernel_rfl) (fun _ _=>rfl) (fun _ _=>rfl) ?_ ?_
           · have h:=h0
             refine yv h fun _ w h=>zn ?_
             obtain ⟨hC,h⟩:=h
             refine ⟨_,fun _ h=>h,hC,?_⟩
             refine yo 6 ?_
             refine yu h fun w h=>zn ?_
             obtain ⟨hC,h⟩:=h
             refine ⟨hC,?_⟩
             refine ye 7 hC h fun _ h=>?_
             refine yq 8 1 ?_
             refine yu h fun w h=>zn ?_
             obtain ⟨C11,hC,h⟩:=h
             refine ⟨C11,hC,?_⟩
             refine yz ?_
             exact zt hT h
           have h:=h1
           refine yu h fun w h=>zn ?_
           obtain ⟨hC,h⟩:=h
           refine ⟨_,fun _ h=>h,hC,?_⟩
           refine yo 4 ?_
           refine yv h fun _ w h=>zn ?_
           obtain ⟨hC,h⟩:=h
           refine ⟨hC,?_⟩
           refine ye 7 hC h fun _ h=>?_
           refine yq 8 1 ?_
           refine yu h fun w h=>zn ?_
           obtain ⟨C12,hC,h⟩:=h
           refine ⟨C12,hC,?_⟩
           refine yz ?_
           exact zt hT h
         have h:=h1
         refine yv h fun _ w h=>zn ?_
         obtain ⟨hC,h⟩:=h
         refine ⟨_,fun _ h=>h,hC,?_⟩
         refine yo 1 ?_
         refine yv h fun _ w h=>zn ?_
         obtain ⟨hC,h⟩:=h
         refine ⟨hC,?_⟩
         refine ye 2 hC h fun _ h=>?_
         refine ye 5 hC h fun _ h=>?_
         refine yo 6 ?_
         refine yu h fun w h=>zn ?_
         obtain ⟨hC,h⟩:=h
         refine ⟨hC,?_⟩
         refine ye 7 hC h fun _ h=>?_
         refine yq 8 1 ?_
         refine yu h fun w h=>zn ?_
         obtain ⟨C13,hC,h⟩:=h
         refine ⟨C13,hC,?_⟩
         refine yz ?_
         exact zt hT h
       subst hK
       refine zk ?_
       exact zt hkK7 h
     refine zs<|zr<|yb h fun _ w h=>zm<|zn<|zk<|yC h (fun h=>?_) fun h=>?_
     · refine zr<|yv h fun _ w h=>yu h fun w h=>zn<|zk ?_
       exact zt hkK7 h
     refine sim_skip<|zk ?_
     exact zt hkK7 h
   refine sim_block_normal<|zk<|zs<|zr<|yv h fun _ w h=>yv h fun _ w h=>yv h fun _ w h=>yc h c57 fun _ w h=>yv h fun _ w h=>zn<|zk<|yJ0 [83,84,85,86,87,88] h (fun _ _ hkK8 h=>?_) fun σ w h=>?_
   · refine yC h (fun h=>?_) fun h=>?_
     · refine zr<|yv h fun _ w h=>yv h fun _ w h=>yv h fun _ w h=>yS h fun _ w h=>yx h fun _ w h=>yv h fun _ w h=>yu h fun w h=>zn<|zk ?_
       exact zt hkK8 h
     refine sim_skip<|zk ?_
     exact zt hkK8 h
   exact sim_block_normal<|zk<|zr<|yb h fun _ w h=>zm<|zn<|zk<|⟨rfl,h⟩
 exact sim_exit<|sim_then_exit<|sim_then_exit<|sim_block_hit<|zk<|zs<|zr<|yv h fun _ w h=>yu h fun w h=>zm<|zn<|zk<|sim_ret<|body_retCT rfl rfl rfl h
def flipS (nm:ByteArray) (s:StpD):StpD:=if speaksB s.kind then { s with kind:=3 - s.kind,peer:=nm } else if s.kind=3 then { s with kind:=4 } else s
def addS (l:List StpD) (x:StpD):List StpD:=if l.any (fun y=>decide (x=y)) then l else l++[x]
def turnL (nm peer:ByteArray):List StpD→List StpD→Option (List StpD)
 | acc,[]=>some acc
 | acc,s::l=>if speaksB s.kind&&decide (s.peer≠peer) then none else turnL nm peer (addS acc (flipS nm s)) l
def still (x:StaD):StaD:={ x with wait:=0 }
def turnP (r:RolD) (peer:ByteArray):RolD×Int:=if (checkR r).2=0 then (if nameB peer&&decide (peer≠r.name) then (match turnL r.name peer [] r.steps with
 | none=>(zeroR,2)
 | some l=>(⟨peer,r.states.map still,r.counters,l⟩,0)) else (zeroR,2)) else (zeroR,(checkR r).2)
section
variable {w0 A W:World} {p2 p4 q:Nat} {r:RolD} {sv cv tv sv' cv':Value} {peer:ByteArray} {v:Value}
abbrev TurR (w0:World) (r:RolD) (peer:ByteArray):Ending→World→Prop:=retR fun u w'=>(∃ x,u = .tuple #[x,.int .i64 (turnP r peer).2]∧RolOwn w' w0.heap.size x (turnP r peer).1)∧Ext w0 w'
theorem four_ext {a w:World} {p:Nat} (e:Ext a w) (hp:a.heap.size≤p) (v0 v1 v2 v3:Value):Ext a ((((w.setCell ⟨p,0,none⟩ v0).setCell ⟨p,1,none⟩ v1).setCell ⟨p,2,none⟩ v2).setCell ⟨p,3,none⟩ v3):=(((e.setCell (p:=⟨p,0,none⟩) hp _).setCell (p:=⟨p,1,none⟩) hp _).setCell (p:=⟨p,2,none⟩) hp _).setCell (p:=⟨p,3,none⟩) hp _
theorem four_only (w:World) (p:Nat) (v0 v1 v2 v3:Value) {b:Nat} (hb:b≠p):((((w.setCell ⟨p,0,none⟩ v0).setCell ⟨p,1,none⟩ v1).setCell ⟨p,2,none⟩ v2).setCell ⟨p,3,none⟩ v3).heap[b]?=w.heap[b]?:=by simp only [Only.setCell _ p _ _ b hb]
theorem four_obj {w:World} {p:Nat} {T:TypeId} {u0 u1 u2 u3:Value} (h:w.heap[p]?=some (.cells #[u0,u1,u2,u3] T (0,0))) (v0 v1 v2 v3:Value):((((w.setCell ⟨p,0,none⟩ v0).setCell ⟨p,1,none⟩ v1).setCell ⟨p,2,none⟩ v2).setCell ⟨p,3,none⟩ v3).heap[p]?=some (.cells #[v0,v1,v2,v3] T (0,0)):=by simpa using heap_set (o:=3) (heap_set (o:=2) (heap_set (o:=1) (heap_set (o:=0) h v0) v1) v2) v3
theorem turn_steps (hA:Ext w0 A) (hp2:A.heap[p2]?=some (.cells (rolCells r sv cv tv).toArray TRol (0,0))) (hp4:A.heap[p4]?=some (.cells #[.string ByteArray.empty,.slice none 0 0,.slice none 0 0,.slice none 0 0] TRol (0,0))) (h4:w0.heap.size≤p4) (hT:StpsOf A tv r.steps) (hl:r.steps.length≤100000)
 (hc0:(checkR r).2=0) (hpe:(nameB peer&&decide (peer≠r.name))=true) (eW:Ext A W) (hq:W.heap[q]?=some (.cells #[.string peer,sv',cv',.slice none 0 0] TRol (0,0))) (hqA:A.heap.size≤q) (hS:OwnE W A.heap.size 50 3 staCells sv' (r.states.map still)) (hC:OwnE W A.heap.size 52 2 cntCells cv' r.counters)
 (hSq:∀ b,sv'.ownBlock=some b→b≠q) (hCq:∀ b,cv'.ownBlock=some b→b≠q) :
 n30c14 (.string peer) (.pointer (some ⟨p2,0,none⟩)) (.pointer (some ⟨p4,0,none⟩)) (.pointer (some ⟨q,0,none⟩)) (TurR w0 r peer) W:=by
 have hp4A:p4 < A.heap.size:=(Array.getElem?_eq_some_iff.1 hp4).1
 have hqW:q < W.heap.size:=(Array.getElem?_eq_some_iff.1 hq).1
 have zA:=hA.size
 have zW:=eW.size
 have hT0:=hT
 obtain ⟨TA,tc,rfl,_,_,_,hel⟩:=SliceOf.open hT
 have ocs:=own_one hS (fun _=>rfl)
 have occ:=own_one hC (fun _=>rfl)
 unfold n30c14
 simp (disch:=try exact DI) only [↓PR,QR,simprocAttr,(cells_of_heap (eW.obj hp2)).1]
 refine loop1_intro (fun a w=>∃ (k:Nat) (acc:List StpD) (vv:Value),a = .int .i64 k∧k≤r.steps.length∧Ext A w∧W.heap.size≤w.heap.size∧(∀ b,b < W.heap.size→b≠q→w.heap[b]?=W.heap[b]?)∧w.heap[q]?=some (.cells #[.string peer,sv',cv',vv] TRol (0,0))∧OwnE w W.heap.size 71 9 stpCells vv acc∧acc.length≤k∧turnL r.name peer [] r.steps=turnL r.name peer acc (r.steps.drop k)) (fun a _=>r.steps.length - (intOf a).toNat) ⟨0,[],_,rfl,by omega,eW,Nat.le_refl _,fun _ _ _=>rfl,hq,OwnE.nil _ _ _ _ _,by simp,rfl⟩ ?_
 rintro _ w ⟨k,acc,vv,rfl,hk,e,hz,hkp,hqw,hO,hal,htl⟩
 have ocv:=own_one hO (fun _=>rfl)
 by_cases hlt:k < r.steps.length
 · obtain ⟨x,hx⟩:=getElem?_lt hlt
   obtain ⟨b,o,cs,rfl,_,hE,rfl⟩:=hel k x hx
   have dk:(k:Int) < (r.steps.length:Int):=by omega
   have d1:decide ((k:Int) < (r.steps.length:Int))=true:=decide_eq_true dk
   have hw:IntKind.i64.wrap ((k:Int)+1)=((k+1:Nat):Int):=by rw [wrap_ok (by omega) (by omega)];omega
   rw [List.drop_eq_getElem_cons hlt] at htl
   have hxg:r.steps[k]=x:=by rw [List.getElem?_eq_getElem hlt] at hx;injection hx
   rw [hxg,turnL] at htl
   simp (disch:=try exact DI) only [↓PR,QR,simprocAttr,d1,↓n30c13,hE.c9 e]
   generalize hV:World.alloc w _=V
   have eV:Ext w V:=by rw [← hV];exact (Ext.refl w).alloc _
   have oV:V.heap[w.heap.size]?=some (.cells (stpCells x).toArray 71 (0,0)):=by rw [← hV];exact heap_new _ _ _
   have sV:V.heap.size=w.heap.size+1:=by rw [← hV];exact World.size_alloc ..
   clear hV
   generalize hps:w.heap.size=ps at oV sV hz ⊢
   have k1:(x.kind == 1)=decide (x.kind=1):=by rw [Bool.eq_iff_iff];simp
   have k2:(x.kind == 2)=decide (x.kind=2):=by rw [Bool.eq_iff_iff];simp
   have k3:(x.kind == 3)=decide (x.kind=3):=by rw [Bool.eq_iff_iff];simp
   have fin:∀ (y:StpD) (u:World),y=flipS r.name x→turnL r.name peer [] r.steps=turnL r.name peer (addS acc y) (r.steps.drop (k+1))→Ext w u→u.heap[ps]?=some (.cells (stpCells y).toArray 71 (0,0))→n30c3 (.pointer (some ⟨q,0,none⟩)) (.pointer (some ⟨ps,0,none⟩)) (.int .i64 (k:Int)) (fun a w'=>(∃ (k:Nat) (acc:List StpD) (vv:Value),a = .int .i64 k∧k≤r.steps.length∧Ext A w'∧W.heap.size≤w'.heap.size∧(∀ b,b < W.heap.size→b≠q→w'.heap[b]?=W.heap[b]?)∧w'.heap[q]?=some (.cells #[.string peer,sv',cv',vv] TRol (0,0))∧OwnE w' W.heap.size 71 9 stpCells vv acc∧acc.length≤k∧turnL r.name peer [] r.steps=turnL r.name peer acc (r.steps.drop k))∧r.steps.length - (intOf a).toNat < r.steps.length - (intOf (Value.int .i64 (k:Int))).toNat) (TurR w0 r peer) u:=by
    intro y u hy htl eu ou
    have hms:=meas_lt (kd := .i64) hlt
    have hqu:=eu.obj hqw
    unfold n30c3
    simp (disch:=try exact DI) only [↓PR,QR,simprocAttr,(cells_of_heap hqu).1,(cells_of_heap ou).1]
    refine zcr (Contains_Step_ret u vv acc y ((hO.ext eu).slice (fun _=>rfl) (fun _ _=>rfl))) fun w1 e1=>?_
    have e01:=eu.trans e1
    have hq1:=e1.obj hqu
    have z1:=e01.size
    have keep1:∀ b,b < W.heap.size→b≠q→w1.heap[b]?=W.heap[b]?:=fun b hb hbq=>(e01.block b (by omega)).trans (hkp b hb hbq)
    unfold n30c2
    cases hany:acc.any (fun z=>decide (y=z)) with
    | true =>
     have hadd:addS acc y=acc:=by unfold addS;rw [hany,if_pos rfl]
     rw [hadd] at htl
     simp (disch:=try exact DI) only [↓PR,QR,simprocAttr,hw]
     exact ⟨⟨k+1,acc,vv,rfl,by omega,e.trans e01,by omega,keep1,hq1,hO.ext e01,by omega,htl⟩,hms⟩
    | false =>
     have hadd:addS acc y=acc++[y]:=by unfold addS;rw [hany,if_neg (by simp)]
     rw [hadd] at htl
     simp (disch:=try exact DI) only [↓PR,QR,simprocAttr,↓n30c1,(cells_of_heap hq1).1,(cells_of_heap (e1.obj ou)).1]
     generalize hY:World.alloc w1 _=Y
     have eY:Ext w1 Y:=by rw [← hY];exact (Ext.refl w1).alloc _
     have oY:ElemAt Y w1.heap.size 0 (stpCells y):=by rw [← hY];exact ElemAt.new _ _
     clear hY
     have e0Y:=e01.trans eY
     have zY:=e0Y.size
     have hby:=by71
     refine op_appendL (enc:=stpCells) (l':=[y]) Tryz.underlying24 ty71 rfl (by decide) (fun _=>rfl) (fun x _ u hu=>one_Step x u hu) (hO.ext e0Y) (o:=0) (fun j x hx=>?_) (by omega) (by simp) ?_ (by simp;omega) ?_
     · cases j with
       | zero =>
        simp only [List.getElem?_cons_zero,Option.some.injEq] at hx
        subst hx
        simpa using oY
       | succ j=>simp at hx
     · simp only [List.length_cons,List.length_nil]
       have:acc.length+1≤200000:=by omega
       exact Nat.le_trans (Nat.mul_le_mul this hby) (by decide)
     · intro g cap w4 hO4 hg hgg hgl
       have hrow:∀ b,vv.ownBlock=some b→W.heap.size≤b:=fun b hb=>(World.ownsRow.lt hO b hb).1
       have z4:=hg.size
       have sm:∀ b,b < W.heap.size→w4.heap[b]?=Y.heap[b]?:=fun b hb=>hg.block b (by omega) fun e=>by have:=hrow b e.symm;omega
       have hgW:W.heap.size≤g:=by
        rcases hgg with e | e
        · exact hrow g e
        · omega
       have hq4:w4.heap[q]?=some (.cells #[.string peer,sv',cv',vv] TRol (0,0)):=(sm q hqW).trans (eY.obj hq1)
       simp (disch:=try exact DI) only [↓PR,QR,simprocAttr,(cells_of_heap hq4).1,(cells_of_heap hq4).2,hw]
       have hq5:(w4.setCell ⟨q,3,none⟩ (.slice (some ⟨g,0,none⟩) (acc.length+[y].length) cap)).heap[q]?=some (.cells #[.string peer,sv',cv',.slice (some ⟨g,0,none⟩) (acc.length+[y].length) cap] TRol (0,0)):=by simpa using heap_set (o:=3) hq4 (.slice (some ⟨g,0,none⟩) (acc.length+[y].length) cap)
       refine ⟨⟨k+1,acc++[y],_,rfl,by omega,?_,by first | omega | (simp only [World.size_setCell];omega),fun b hb hbq=>?_,hq5,OwnE.keep hO4 fun b hb=>?_,by simp;omega,htl⟩,hms⟩
       · exact (((e.trans e0Y).grown hg fun b hb=>by have:=hrow b hb;omega)).setCell (p:=⟨q,3,none⟩) hqA _
       · exact (Only.setCell w4 q 3 _ b hbq).trans ((sm b hb).trans ((eY.block b (by omega)).trans (keep1 b hb hbq)))
       · injection hb with hb
         have hb:g=b:=hb
         exact Only.setCell w4 q 3 _ b (by omega)
   have fl1:∀ kd:Int,speaksB kd=true→kd=1∨kd=2:=fun kd h=>by unfold speaksB at h;simpa using h
   cases hsp:speaksB x.kind with
   | true =>
    rw [hsp,Bool.true_and] at htl
    have hkk:=fl1 _ hsp
    have cond:(decide (x.kind=1)||decide (x.kind=2))=true:=hsp
    have c6:n30c10 (.string peer) (.pointer (some ⟨p2,0,none⟩)) (.pointer (some ⟨p4,0,none⟩)) (.pointer (some ⟨ps,0,none⟩)) (fun w=>n30c3 (.pointer (some ⟨q,0,none⟩)) (.pointer (some ⟨ps,0,none⟩)) (.int .i64 (k:Int)) (fun a w'=>(∃ (k:Nat) (acc:List StpD) (vv:Value),a = .int .i64 k∧k≤r.steps.length∧Ext A w'∧W.heap.size≤w'.heap.size∧(∀ b,b < W.heap.size→b≠q→w'.heap[b]?=W.heap[b]?)∧w'.heap[q]?=some (.cells #[.string peer,sv',cv',vv] TRol (0,0))∧OwnE w' W.heap.size 71 9 stpCells vv acc∧acc.length≤k∧turnL r.name peer [] r.steps=turnL r.name peer acc (r.steps.drop k))∧r.steps.length - (intOf a).toNat < r.steps.length - (intOf (Value.int .i64 (k:Int))).toNat) (TurR w0 r peer) w) (TurR w0 r peer) V:=by
     unfold n30c10
     by_cases hpp:x.peer=peer
     · have d2:decide (x.peer=peer)=true:=decide_eq_true hpp
       rw [show decide (x.peer≠peer)=false by simp [hpp],if_neg (by simp)] at htl
       simp (disch:=try exact DI) only [↓PR,QR,simprocAttr,(cells_of_heap oV).1,d2]
       refine drawK_introB ps ps (w1:=V) (fun _ _ _ _=>rfl) ?_
       have eD:Ext V (Sw.drew V):=(Ext.refl V).drew
       have hKD:KB V ps ps (Sw.drew V):=fun _ _ _ _=>rfl
       have oD:=eD.obj oV
       have sD:=eD.size
       generalize Sw.drew V=D at eD hKD oD sD ⊢
       have ewV:=e.trans eV
       have hp2V:=ewV.obj hp2
       have hp2n:p2≠ps:=by
        have:=(Array.getElem?_eq_some_iff.1 hp2).1
        omega
       have hws:IntKind.i64.wrap (3 - x.kind)=3 - x.kind:=wrap_ok (by omega) (by omega)
       have hK2:∀ v,KB V ps ps (D.setCell ⟨ps,2,none⟩ v):=fun v b hb h1 h2=>(Only.setCell D ps 2 v b h1).trans (hKD b hb h1 h2)
       have cD:=cells_of_heap oD
       have cp:=cells_of_heap (eD.obj hp2V)
       have fin2:=fin { x with kind:=3 - x.kind,peer:=r.name } ((D.setCell ⟨ps,2,none⟩ (.int .i64 (3 - x.kind))).setCell ⟨ps,4,none⟩ (.string r.name)) (by unfold flipS;rw [hsp,if_pos rfl]) (by rw [htl];unfold flipS;rw [hsp,if_pos rfl]) (((eV.trans eD).setCell (p:=⟨ps,2,none⟩) (by show w.heap.size≤ps;omega) _).setCell (p:=⟨ps,4,none⟩) (by show w.heap.size≤ps;omega) _) (by simpa using heap_set (o:=4) (heap_set (o:=2) oD (.int .i64 (3 - x.kind))) (.string r.name))
       unfold n30c8
       simp (disch:=try exact DI) only [↓PR,QR,simprocAttr,hKD,cD.1,cD.2,cp.1,true_and]
       refine ⟨?_,?_⟩
       · unfold n30c6
         simp (disch:=try exact DI) only [↓PR,QR,simprocAttr,hKD,hK2,cD.1,cD.2,cp.1,hws,true_and]
         refine ⟨?_,?_⟩
         · unfold n30c4
           simp (disch:=try exact DI) only [↓PR,QR,simprocAttr,hKD,hK2,cD.1,cD.2,true_and]
           refine turnK_intro ?_
           exact fin2
         · unfold n30c5
           simp (disch:=try exact DI) only [↓PR,QR,simprocAttr,hKD,hK2,cD.1,cD.2,cp.1,true_and]
           refine turnK_intro ?_
           exact fin2
       · unfold n30c7
         simp (disch:=try exact DI) only [↓PR,QR,simprocAttr,hKD,hK2,cD.1,cD.2,hws,true_and]
         refine turnK_intro ?_
         exact fin2
     · have d2:decide (x.peer=peer)=false:=decide_eq_false hpp
       rw [show decide (x.peer≠peer)=true by simp [hpp],if_pos rfl] at htl
       have htp:turnP r peer=(zeroR,2):=by unfold turnP;rw [if_pos hc0,if_pos hpe,htl]
       have o4:=(e.trans eV).obj hp4
       simp (disch:=try exact DI) only [↓PR,QR,simprocAttr,(cells_of_heap oV).1,d2,↓n30c9,(cells_of_heap o4).1,(cells_of_heap o4).2]
       exact ⟨⟨_,by rw [htp],by rw [htp];exact RolOwn.zero _ _⟩,four_ext (hA.trans (e.trans eV)) h4 _ _ _ _⟩
    rcases hkk with h1 | h2
    · have d1:decide (x.kind=1)=true:=decide_eq_true h1
      simp (disch:=try exact DI) only [↓PR,QR,simprocAttr,(cells_of_heap oV).1,k1,d1]
      exact c6
    · have d1:decide (x.kind=1)=false:=decide_eq_false (by omega)
      have d2:decide (x.kind=2)=true:=decide_eq_true h2
      simp (disch:=try exact DI) only [↓PR,QR,simprocAttr,(cells_of_heap oV).1,k1,d1,k2,d2]
      exact c6
   | false =>
    rw [hsp,Bool.false_and,if_neg (by simp)] at htl
    have hnk:¬ x.kind=1∧¬ x.kind=2:=by unfold speaksB at hsp;simpa using hsp
    have d1:decide (x.kind=1)=false:=decide_eq_false hnk.1
    have d2:decide (x.kind=2)=false:=decide_eq_false hnk.2
    simp (disch:=try exact DI) only [↓PR,QR,simprocAttr,(cells_of_heap oV).1,k1,d1,k2,d2,↓n30c11,k3]
    by_cases h3:x.kind=3
    · have d3:decide (x.kind=3)=true:=decide_eq_true h3
      simp (disch:=try exact DI) only [↓PR,QR,simprocAttr,d3,(cells_of_heap oV).1,(cells_of_heap oV).2]
      refine fin { x with kind:=4 } _ (by unfold flipS;rw [hsp,if_neg (by simp),if_pos h3]) ?_ ?_ ?_
      · rw [htl];unfold flipS;rw [hsp,if_neg (by simp),if_pos h3]
      · exact eV.setCell (p:=⟨ps,2,none⟩) (by show w.heap.size≤ps;omega) _
      · exact heap_set (o:=2) oV _
    · have d3:decide (x.kind=3)=false:=decide_eq_false h3
      simp (disch:=try exact DI) only [↓PR,QR,simprocAttr,d3]
      refine fin x _ (by unfold flipS;rw [hsp,if_neg (by simp),if_neg h3]) ?_ eV oV
      rw [htl];unfold flipS;rw [hsp,if_neg (by simp),if_neg h3]
 · obtain rfl:k=r.steps.length:=by omega
   have d1:decide ((r.steps.length:Int) < (r.steps.length:Int))=false:=decide_eq_false (by omega)
   rw [List.drop_length,turnL] at htl
   have htp:turnP r peer=(⟨peer,r.states.map still,r.counters,acc⟩,0):=by unfold turnP;rw [if_pos hc0,if_pos hpe,htl]
   have o4:=e.obj hp4
   have hqp:q≠p4:=by omega
   simp (disch:=try exact DI) only [↓PR,QR,simprocAttr,d1,↓n30c12,(cells_of_heap hqw).1,(cells_of_heap o4).1,(cells_of_heap o4).2]
   refine ⟨⟨_,by rw [htp],?_⟩,four_ext (hA.trans e) h4 _ _ _ _⟩
   rw [htp]
   refine ⟨sv',cv',vv,rfl,(OwnE.keep hS fun b hb=>?_).base zA,(OwnE.keep hC fun b hb=>?_).base zA,(OwnE.keep hO fun b hb=>?_).base (by omega)⟩
   · obtain ⟨a1,a2⟩:=World.ownsRow.lt hS b hb
     exact (four_only w p4 _ _ _ _ (by omega)).trans (hkp b a2 (hSq b hb))
   · obtain ⟨a1,a2⟩:=World.ownsRow.lt hC b hb
     exact (four_only w p4 _ _ _ _ (by omega)).trans (hkp b a2 (hCq b hb))
   · obtain ⟨a1,a2⟩:=World.ownsRow.lt hO b hb
     exact four_only w p4 _ _ _ _ (by omega)
end
section
variable {w0 A W:World} {p2 p4 q:Nat} {r:RolD} {sv cv tv sv' cv':Value} {peer:ByteArray} {v:Value}
theorem turn_states (hA:Ext w0 A) (hp2:A.heap[p2]?=some (.cells (rolCells r sv cv tv).toArray TRol (0,0))) (hp4:A.heap[p4]?=some (.cells #[.string ByteArray.empty,.slice none 0 0,.slice none 0 0,.slice none 0 0] TRol (0,0))) (h4:w0.heap.size≤p4) (hT:StpsOf A tv r.steps) (hl:r.steps.length≤100000) (hls:r.states.length≤100000)
 (hc0:(checkR r).2=0) (hpe:(nameB peer&&decide (peer≠r.name))=true) (eW:Ext A W) (hq:W.heap[q]?=some (.cells #[.string peer,sv',cv',.slice none 0 0] TRol (0,0))) (hqA:A.heap.size≤q) (hS:OwnE W A.heap.size 50 3 staCells sv' r.states) (hC:OwnE W A.heap.size 52 2 cntCells cv' r.counters)
 (hSq:∀ b,sv'.ownBlock=some b→b≠q) (hCq:∀ b,cv'.ownBlock=some b→b≠q) (hSC:∀ b,sv'.ownBlock=some b→cv'.ownBlock≠some b) :
 n30c16 (.string peer) (.pointer (some ⟨p2,0,none⟩)) (.pointer (some ⟨p4,0,none⟩)) (.pointer (some ⟨q,0,none⟩)) (TurR w0 r peer) W:=by
 have ocs:=own_one hS (fun _=>rfl)
 have occ:=own_one hC (fun _=>rfl)
 obtain ⟨SA,sc,hsv,_⟩:=SliceOf.open (hS.slice (E:=fun _ _ _=>True) (fun _=>rfl) (fun _ _=>trivial))
 unfold n30c16
 simp (disch:=try exact DI) only [↓PR,QR,simprocAttr,(cells_of_heap hq).1,hsv]
 refine loop1_intro (fun a w=>∃ (k:Nat),a = .int .i64 k∧k≤r.states.length∧Ext A w∧w.heap[q]?=some (.cells #[.string peer,sv',cv',.slice none 0 0] TRol (0,0))∧OwnE w A.heap.size 50 3 staCells sv' ((r.states.take k).map still++r.states.drop k)∧OwnE w A.heap.size 52 2 cntCells cv' r.counters) (fun a _=>r.states.length - (intOf a).toNat) ⟨0,rfl,by omega,eW,hq,by simpa using hS,hC⟩ ?_
 rintro _ w ⟨k,rfl,hk,e,hqw,hSw,hCw⟩
 by_cases hlt:k < r.states.length
 · obtain ⟨x,hx⟩:=getElem?_lt hlt
   have dk:(k:Int) < (r.states.length:Int):=by omega
   have d1:decide ((k:Int) < (r.states.length:Int))=true:=decide_eq_true dk
   have hw:IntKind.i64.wrap ((k:Int)+1)=((k+1:Nat):Int):=by rw [wrap_ok (by omega) (by omega)];omega
   have hlen:((r.states.take k).map still++r.states.drop k).length=r.states.length:=by simp;omega
   have hxk:((r.states.take k).map still++r.states.drop k)[k]?=some x:=by
    rw [List.getElem?_append_right (by simp;omega)]
    simp only [List.length_map,List.length_take]
    rw [show k - min k r.states.length=0 by omega,List.getElem?_drop,Nat.add_zero]
    exact hx
   obtain ⟨g,cap,hgv,hg1,hg2,_,hfr0,hE⟩:=hSw.row (fun _=>rfl) (by omega)
   rw [hlen] at hgv
   have hg':sv'.ownBlock=some g:=by rw [hgv];rfl
   obtain ⟨b1,b2⟩:=World.ownsRow.lt hSw g hg'
   have hc2:w.cell? ⟨g,k*3+2,none⟩=some (.int .i64 x.wait):=hE k x hxk 2 _ rfl
   have hfr:w.frozen? ⟨g,k*3+2,none⟩=false:=hfr0 _
   have hset:OwnE (w.setCell ⟨g,k*3+2,none⟩ (.int .i64 0)) A.heap.size 50 3 staCells sv' (((r.states.take k).map still++r.states.drop k).set k (still x)):=by
    rw [hgv] at hSw ⊢
    exact OwnE.setE (enc:=staCells) (n:=3) (fun _=>rfl) hSw hxk (y:=still x) (j:=2) (by decide) (.int .i64 0) rfl
   have hnext:((r.states.take k).map still++r.states.drop k).set k (still x)=(r.states.take (k+1)).map still++r.states.drop (k+1):=by
    rw [take_snoc hx,List.map_append,List.set_append_right _ _ (by simp;omega)]
    simp only [List.length_map,List.length_take,List.map_cons,List.map_nil]
    rw [show k - min k r.states.length=0 by omega,List.drop_eq_getElem_cons hlt,List.set_cons_zero,List.append_assoc]
    rfl
   rw [hnext] at hset
   have hgq:g≠q:=hSq g hg'
   have hqs:=(Only.setCell w g (k*3+2) (.int .i64 0) q (Ne.symm hgq)).trans hqw
   have hcs:OwnE (w.setCell ⟨g,k*3+2,none⟩ (.int .i64 0)) A.heap.size 52 2 cntCells cv' r.counters:=OwnE.keep hCw fun b hb=>Only.setCell w g _ _ b fun e=>by subst e;exact hSC b hg' hb
   have hes:Ext A (w.setCell ⟨g,k*3+2,none⟩ (.int .i64 0)):=e.setCell (p:=⟨g,k*3+2,none⟩) b1 _
   simp (disch:=try exact DI) only [↓PR,QR,simprocAttr,d1,↓n30c15,(cells_of_heap hqw).1,hgv,hc2,hfr,hw]
   exact ⟨⟨k+1,rfl,by omega,hes,by rw [← hgv];first | exact hqw | exact hqs,by rw [← hgv];exact hset,hcs⟩,meas_lt (kd := .i64) hlt⟩
 · obtain rfl:k=r.states.length:=by omega
   have d1:decide ((r.states.length:Int) < (r.states.length:Int))=false:=decide_eq_false (by omega)
   rw [List.take_length,List.drop_length,List.append_nil] at hSw
   simp (disch:=try exact DI) only [↓PR,QR,simprocAttr,d1]
   exact turn_steps hA hp2 hp4 h4 hT hl hc0 hpe e hqw hqA hSw hCw hSq hCq
theorem Turn_ret (w0:World) (v:Value) (r:RolD) (peer:ByteArray) (hr:RolVal w0 v r) (hsm:∀ x∈r.steps,StpSm x) (hl:r.counters.length≤100000∧r.states.length≤100000∧r.steps.length≤100000):Ret Pg 23 #[v,.string peer] w0 fun u w'=>(∃ x,u = .tuple #[x,.int .i64 (turnP r peer).2]∧RolOwn w' w0.heap.size x (turnP r peer).1)∧Ext w0 w':=by
 obtain ⟨sv,cv,tv,rfl,hS,hC,hT,o1,o2,o3⟩:=hr.op
 obtain ⟨A1,c1,rfl,_⟩:=SliceOf.open hS
 obtain ⟨A2,c2,rfl,_⟩:=SliceOf.open hC
 obtain ⟨A3,c3,rfl,_⟩:=SliceOf.open hT
 refine n30s (R:=retR _) ?_;unfold n30
 rw [op_boxA]
 have hp2:=heap_new w0 (rolCells r (.slice A1 r.states.length c1) (.slice A2 r.counters.length c2) (.slice A3 r.steps.length c3)).toArray TRol
 have eW:Ext w0 (w0.alloc (.cells (rolCells r (.slice A1 r.states.length c1) (.slice A2 r.counters.length c2) (.slice A3 r.steps.length c3)).toArray TRol)):=ee
 have sW:(w0.alloc (.cells (rolCells r (.slice A1 r.states.length c1) (.slice A2 r.counters.length c2) (.slice A3 r.steps.length c3)).toArray TRol)).heap.size=w0.heap.size+1:=World.size_alloc ..
 generalize (w0.alloc (.cells (rolCells r (.slice A1 r.states.length c1) (.slice A2 r.counters.length c2) (.slice A3 r.steps.length c3)).toArray TRol))=W0 at hp2 eW sW ⊢
 simp (disch:=try exact DI) only [↓PR,QR,simprocAttr,fun o=>(cells_of_heap (((Ext.refl W0).alloc o).obj hp2)).1]
 have eV:Ext W0 (World.alloc W0 (.cells #[.string ByteArray.empty,.slice none 0 0,.slice none 0 0,.slice none 0 0] TRol)):=(Ext.refl W0).alloc _
 have hp4:=heap_new W0 #[.string ByteArray.empty,.slice none 0 0,.slice none 0 0,.slice none 0 0] TRol
 generalize World.alloc W0 _=V at eV hp4 ⊢
 generalize hp4e:W0.heap.size=p4 at hp4 ⊢
 have h4:w0.heap.size≤p4:=by omega
 have e0V:=eW.trans eV
 refine zcr (Check_ret V _ r ⟨_,_,_,rfl,hS.ext e0V,hC.ext e0V,hT.ext e0V⟩ hsm ⟨by omega,by omega,by omega⟩) fun w1 e1=>?_
 have E1:=e0V.trans e1
 have q4:=e1.obj hp4
 have q2:=(eV.trans e1).obj hp2
 by_cases hc0:(checkR r).2=0
 case neg =>
  have d1:((checkR r).2 != 0)=true:=by simp [hc0]
  have htp:turnP r peer=(zeroR,(checkR r).2):=by unfold turnP;rw [if_neg hc0]
  simp (disch:=try exact DI) only [↓PR,QR,simprocAttr,↓n30c24,d1,(cells_of_heap q4).1,(cells_of_heap q4).2]
  exact ⟨⟨_,by rw [htp],by rw [htp];exact RolOwn.zero _ _⟩,four_ext E1 h4 _ _ _ _⟩
 have d1:((checkR r).2 != 0)=false:=by simp [hc0]
 simp (disch:=try exact DI) only [↓PR,QR,simprocAttr,↓n30c24,d1]
 refine zcr (Name_ret w1 peer) fun w2 e2=>?_
 have E2:=E1.trans e2
 have q4:=e2.obj q4
 have q2:=e2.obj q2
 have bad:(nameB peer&&decide (peer≠r.name))=false→n30c22 (.pointer (some ⟨p4,0,none⟩)) (TurR w0 r peer) w2:=fun hb=>by
  have htp:turnP r peer=(zeroR,2):=by unfold turnP;rw [if_pos hc0,hb,if_neg (by simp)]
  unfold n30c22
  simp (disch:=try exact DI) only [↓PR,QR,simprocAttr,(cells_of_heap q4).1,(cells_of_heap q4).2]
  exact ⟨⟨_,by rw [htp],by rw [htp];exact RolOwn.zero _ _⟩,four_ext E2 h4 _ _ _ _⟩
 unfold n30c23
 cases hnm:nameB peer with
 | false =>
  simp (disch:=try exact DI) only [↓PR,QR,simprocAttr]
  exact bad (by rw [hnm];rfl)
 | true =>
 by_cases hpn:peer=r.name
 · have d2:decide (peer=r.name)=true:=decide_eq_true hpn
   simp (disch:=try exact DI) only [↓PR,QR,simprocAttr,(cells_of_heap q2).1,d2]
   exact bad (by simp [hpn])
 have d2:decide (peer=r.name)=false:=decide_eq_false hpn
 have hpe:(nameB peer&&decide (peer≠r.name))=true:=by rw [hnm];simp [hpn]
 clear bad
 simp (disch:=try exact DI) only [↓PR,QR,simprocAttr,(cells_of_heap q2).1,d2]
 refine drawK_intro ?_
 have eD:Ext w2 (Sw.drew w2):=(Ext.refl w2).drew
 have ED:=E2.trans eD
 have q4:=eD.obj q4
 have q2:=eD.obj q2
 generalize Sw.drew w2=D at eD ED q4 q2 ⊢
 have fin:∀ (w:World) (q:Nat) (sv' cv':Value) (x0 x1 x2 x3:Value),Ext D w→D.heap.size≤q→w.heap[q]?=some (.cells #[x0,x1,x2,x3] TRol (0,0))→OwnE w D.heap.size 50 3 staCells sv' r.states→OwnE w D.heap.size 52 2 cntCells cv' r.counters→(∀ b,sv'.ownBlock=some b→b≠q)→(∀ b,cv'.ownBlock=some b→b≠q)→(∀ b,sv'.ownBlock=some b→cv'.ownBlock≠some b) →
  opU Pg (Instr.storeAt 26 (.pointer (some ⟨q,0,none⟩)) (.agg #[.string peer,sv',cv',.slice none 0 0])) (panK (TurR w0 r peer)) w fun w=>turnK w fun C11 w=>n30c16 (.string peer) (.pointer (some ⟨w0.heap.size,0,none⟩)) (.pointer (some ⟨p4,0,none⟩)) (.pointer (some ⟨q,0,none⟩)) (TurR w0 r peer) w:=by
  intro w q sv' cv' x0 x1 x2 x3 e hq ho h1 h2 n1 n2 n3
  have f1:=own_one h1 (fun _=>rfl)
  have f2:=own_one h2 (fun _=>rfl)
  simp (disch:=try exact DI) only [↓PR,QR,simprocAttr,(cells_of_heap ho).1,(cells_of_heap ho).2]
  refine turnK_intro ?_
  refine turn_states ED q2 q4 h4 (hT.ext ED) hl.2.2 hl.2.1 hc0 hpe (four_ext e hq _ _ _ _) (four_obj ho _ _ _ _) hq (OwnE.keep h1 fun b hb=>four_only w q _ _ _ _ (n1 b hb)) (OwnE.keep h2 fun b hb=>four_only w q _ _ _ _ (n2 b hb)) n1 n2 n3
 unfold n30c21
 simp (disch:=try exact DI) only [↓PR,QR,simprocAttr,(cells_of_heap q2).1]
 refine ⟨?_,?_⟩
 · refine callK_ret (Clone_Counter_ret D _ _ (hC.ext ED) (by omega)) ?_
   rintro cv' w3 ⟨hO3,e3⟩
   refine ⟨e3,?_⟩
   unfold n30c19
   refine ⟨?_,?_⟩
   · refine callK_ret (Clone_State_ret w3 _ _ ((hS.ext ED).ext e3) (by omega)) ?_
     rintro sv' w4 ⟨hO4,e4⟩
     have e34:=e3.trans e4
     refine ⟨e34,?_⟩
     unfold n30c17
     have f1:=own_one hO4 (fun _=>rfl)
     have f2:=own_one hO3 (fun _=>rfl)
     have s3:=e3.size
     have s4:=e4.size
     have ha:Ext D (w4.alloc (.cells #[.string ByteArray.empty,.slice none 0 0,.slice none 0 0,.slice none 0 0] TRol)):=e34.alloc _
     have h:=fin _ w4.heap.size sv' cv' _ _ _ _ ha (by omega) (heap_new w4 _ _) ((hO4.base s3).ext ((Ext.refl w4).alloc _)) ((hO3.ext e4).ext ((Ext.refl w4).alloc _)) (fun b hb=>by have:=(World.ownsRow.lt hO4 b hb).2;omega) (fun b hb=>by have:=(World.ownsRow.lt hO3 b hb).2;omega) (fun b hb hb2=>by have:=(World.ownsRow.lt hO4 b hb).1;have:=(World.ownsRow.lt hO3 b hb2).2;omega)
     simp (disch:=try exact DI) only [↓PR,QR,simprocAttr]
     refine ⟨ha,?_⟩
     first | exact h | (simp (disch:=try exact DI) only [↓PR,QR,simprocAttr] at h;exact h)
   · simp (disch:=try exact DI) only [↓PR,QR,simprocAttr]
     refine ⟨e3.alloc _,?_⟩
     have e4:Ext w3 (w3.alloc (.cells #[.string ByteArray.empty,.slice none 0 0,.slice none 0 0,.slice none 0 0] TRol)):=(Ext.refl w3).alloc _
     have o4:=heap_new w3 #[.string ByteArray.empty,.slice none 0 0,.slice none 0 0,.slice none 0 0] TRol
     have s4:(w3.alloc (.cells #[.string ByteArray.empty,.slice none 0 0,.slice none 0 0,.slice none 0 0] TRol)).heap.size=w3.heap.size+1:=World.size_alloc ..
     generalize World.alloc w3 _=w4 at e4 o4 s4 ⊢
     have e34:=e3.trans e4
     unfold n30c18
     refine callK_ret (Clone_State_ret w4 _ _ ((hS.ext ED).ext e34) (by omega)) ?_
     rintro sv' w5 ⟨hO5,e5⟩
     have e35:=e34.trans e5
     refine ⟨e35,?_⟩
     have f1:=own_one hO5 (fun _=>rfl)
     have f2:=own_one hO3 (fun _=>rfl)
     have s3:=e3.size
     have h:=fin w5 w3.heap.size sv' cv' _ _ _ _ e35 (by omega) (e5.obj o4) (hO5.base (by omega)) (hO3.ext (e4.trans e5)) (fun b hb=>by have:=(World.ownsRow.lt hO5 b hb).1;omega) (fun b hb=>by have:=(World.ownsRow.lt hO3 b hb).2;omega) (fun b hb hb2=>by have:=(World.ownsRow.lt hO5 b hb).1;have:=(World.ownsRow.lt hO3 b hb2).2;omega)
     have o5:=cells_of_heap (e5.obj o4)
     simp (disch:=try exact DI) only [↓PR,QR,simprocAttr,o5.1,o5.2]
     simp (disch:=try exact DI) only [↓PR,QR,simprocAttr,o5.1,o5.2] at h
     exact h
 · simp (disch:=try exact DI) only [↓PR,QR,simprocAttr]
   refine ⟨(Ext.refl D).alloc _,?_⟩
   have e3:Ext D (D.alloc (.cells #[.string ByteArray.empty,.slice none 0 0,.slice none 0 0,.slice none 0 0] TRol)):=(Ext.refl D).alloc _
   have o3:=heap_new D #[.string ByteArray.empty,.slice none 0 0,.slice none 0 0,.slice none 0 0] TRol
   have s3:(D.alloc (.cells #[.string ByteArray.empty,.slice none 0 0,.slice none 0 0,.slice none 0 0] TRol)).heap.size=D.heap.size+1:=World.size_alloc ..
   generalize World.alloc D _=w3 at e3 o3 s3 ⊢
   refine callK_ret (Clone_Counter_ret w3 _ _ ((hC.ext ED).ext e3) (by omega)) ?_
   rintro cv' w4 ⟨hO4,e4⟩
   have e34:=e3.trans e4
   refine ⟨e34,?_⟩
   unfold n30c20
   refine callK_ret (Clone_State_ret w4 _ _ ((hS.ext ED).ext e34) (by omega)) ?_
   rintro sv' w5 ⟨hO5,e5⟩
   have e35:=e34.trans e5
   refine ⟨e35,?_⟩
   have f1:=own_one hO5 (fun _=>rfl)
   have f2:=own_one hO4 (fun _=>rfl)
   have s4:=e4.size
   have h:=fin w5 D.heap.size sv' cv' _ _ _ _ e35 (Nat.le_refl _) ((e4.trans e5).obj o3) (hO5.base (by omega)) ((hO4.ext e5).base (by omega)) (fun b hb=>by have:=(World.ownsRow.lt hO5 b hb).1;omega) (fun b hb=>by have:=(World.ownsRow.lt hO4 b hb).1;omega) (fun b hb hb2=>by have:=(World.ownsRow.lt hO5 b hb).1;have:=(World.ownsRow.lt hO4 b hb2).2;omega)
   have o5:=cells_of_heap ((e4.trans e5).obj o3)
   simp (disch:=try exact DI) only [↓PR,QR,simprocAttr,o5.1,o5.2]
   simp (disch:=try exact DI) only [↓PR,QR,simprocAttr,o5.1,o5.2] at h
   exact h
end
def n9c1 (t5 t6 t86 t91:Value) (next6:KV) (R:RT) (w:World):Prop :=
 pickK t86 (.bool true) t91 fun t92 =>
 joinK (fun (t97:Value) (w:World) =>
 pickK t92 (.bool true) t97 fun t98 =>
 condP t98 (
 R (.returned (.bool true)) w) (
 opV Pg (binS .add 3 true t5 (.int .i64 1)) (panK R) w fun t65 w =>
 next6 t65 w)) fun K10 =>
 guardP t92 false (
 opV Pg (Instr.fieldAt 71 t6 5) (panK R) w fun t94 w =>
 opV Pg (Instr.loadAt 9 t94) (panK R) w fun t95 w =>
 opV Pg (Builtin.len_ #[9] 3 #[t95]) (panK R) w fun t96 w =>
 opV Pg (binS .gtr 3 true t96 (.int .i64 60)) (panK R) w fun t97 w =>
 K10 t97 w) (
 K10 undef w)
def n9c2 (t5 t6 t80 t85:Value) (next6:KV) (R:RT) (w:World):Prop :=
 pickK t80 (.bool true) t85 fun t86 =>
 joinK (fun (t91:Value) (w:World) =>
 n9c1 t5 t6 t86 t91 next6 R w) fun K9 =>
 guardP t86 false (
 opV Pg (Instr.fieldAt 71 t6 4) (panK R) w fun t88 w =>
 opV Pg (Instr.loadAt 9 t88) (panK R) w fun t89 w =>
 opV Pg (Builtin.len_ #[9] 3 #[t89]) (panK R) w fun t90 w =>
 opV Pg (binS .gtr 3 true t90 (.int .i64 60)) (panK R) w fun t91 w =>
 K9 t91 w) (
 K9 undef w)
def n9c3 (t5 t6 t74 t79:Value) (next6:KV) (R:RT) (w:World):Prop :=
 pickK t74 (.bool true) t79 fun t80 =>
 joinK (fun (t85:Value) (w:World) =>
 n9c2 t5 t6 t80 t85 next6 R w) fun K8 =>
 guardP t80 false (
 opV Pg (Instr.fieldAt 71 t6 3) (panK R) w fun t82 w =>
 opV Pg (Instr.loadAt 9 t82) (panK R) w fun t83 w =>
 opV Pg (Builtin.len_ #[9] 3 #[t83]) (panK R) w fun t84 w =>
 opV Pg (binS .gtr 3 true t84 (.int .i64 60)) (panK R) w fun t85 w =>
 K8 t85 w) (
 K8 undef w)
def n9c4 (t1 t5:Value) (next6:KV) (R:RT) (w:World):Prop :=
 opV Pg (Instr.fieldAt 26 t1 3) (panK R) w fun t66 w =>
 opV Pg (Instr.loadAt 24 t66) (panK R) w fun t67 w =>
 opV Pg (Instr.indexAt 24 t67 t5) (panK R) w fun t69 w =>
 opV Pg (Instr.loadAt 71 t69) (panK R) w fun t70 w =>
 opV Pg (Instr.alloc 71 true (.tuple #[])) (panK R) w fun t6 w =>
 opU Pg (Instr.storeAt 71 t6 t70) (panK R) w fun w =>
 opV Pg (Instr.fieldAt 71 t6 0) (panK R) w fun t71 w =>
 opV Pg (Instr.loadAt 9 t71) (panK R) w fun t72 w =>
 opV Pg (Builtin.len_ #[9] 3 #[t72]) (panK R) w fun t73 w =>
 opV Pg (binS .gtr 3 true t73 (.int .i64 60)) (panK R) w fun t74 w =>
 joinK (fun (t79:Value) (w:World) =>
 n9c3 t5 t6 t74 t79 next6 R w) fun K7 =>
 guardP t74 false (
 opV Pg (Instr.fieldAt 71 t6 1) (panK R) w fun t76 w =>
 opV Pg (Instr.loadAt 9 t76) (panK R) w fun t77 w =>
 opV Pg (Builtin.len_ #[9] 3 #[t77]) (panK R) w fun t78 w =>
 opV Pg (binS .gtr 3 true t78 (.int .i64 60)) (panK R) w fun t79 w =>
 K7 t79 w) (
 K7 undef w)
def n9c5 (t1 t5:Value) (next6:KV) (R:RT) (w:World):Prop :=
 opV Pg (Instr.fieldAt 26 t1 3) (panK R) w fun t60 w =>
 opV Pg (Instr.loadAt 24 t60) (panK R) w fun t61 w =>
 opV Pg (Builtin.len_ #[24] 3 #[t61]) (panK R) w fun t62 w =>
 opV Pg (binS .lss 3 false t5 t62) (panK R) w fun t63 w =>
 condP t63 (
 n9c4 t1 t5 next6 R w) (
 R (.returned (.bool false)) w)
def n9c6 (t1 t4:Value) (next5:KV) (R:RT) (w:World):Prop :=
 opV Pg (Instr.fieldAt 26 t1 1) (panK R) w fun t51 w =>
 opV Pg (Instr.loadAt 22 t51) (panK R) w fun t52 w =>
 opV Pg (Instr.indexAt 22 t52 t4) (panK R) w fun t54 w =>
 opV Pg (Instr.fieldAt 50 t54 0) (panK R) w fun t55 w =>
 opV Pg (Instr.loadAt 9 t55) (panK R) w fun t56 w =>
 opV Pg (Builtin.len_ #[9] 3 #[t56]) (panK R) w fun t57 w =>
 opV Pg (binS .gtr 3 true t57 (.int .i64 60)) (panK R) w fun t58 w =>
 condP t58 (
 R (.returned (.bool true)) w) (
 opV Pg (binS .add 3 true t4 (.int .i64 1)) (panK R) w fun t50 w =>
 next5 t50 w)
def n9c7 (t1 t4:Value) (next5:KV) (R:RT) (w:World):Prop :=
 opV Pg (Instr.fieldAt 26 t1 1) (panK R) w fun t45 w =>
 opV Pg (Instr.loadAt 22 t45) (panK R) w fun t46 w =>
 opV Pg (Builtin.len_ #[22] 3 #[t46]) (panK R) w fun t47 w =>
 opV Pg (binS .lss 3 false t4 t47) (panK R) w fun t48 w =>
 condP t48 (
 n9c6 t1 t4 next5 R w) (
 loop1 (fun t5 w next6 =>
 n9c5 t1 t5 next6 R w) (.int .i64 0) w)
def n9c8 (t1 t3:Value) (next4:KV) (R:RT) (w:World):Prop :=
 opV Pg (Instr.fieldAt 26 t1 2) (panK R) w fun t36 w =>
 opV Pg (Instr.loadAt 23 t36) (panK R) w fun t37 w =>
 opV Pg (Instr.indexAt 23 t37 t3) (panK R) w fun t39 w =>
 opV Pg (Instr.fieldAt 52 t39 0) (panK R) w fun t40 w =>
 opV Pg (Instr.loadAt 9 t40) (panK R) w fun t41 w =>
 opV Pg (Builtin.len_ #[9] 3 #[t41]) (panK R) w fun t42 w =>
 opV Pg (binS .gtr 3 true t42 (.int .i64 60)) (panK R) w fun t43 w =>
 condP t43 (
 R (.returned (.bool true)) w) (
 opV Pg (binS .add 3 true t3 (.int .i64 1)) (panK R) w fun t35 w =>
 next4 t35 w)
def n9c9 (t1 t3:Value) (next4:KV) (R:RT) (w:World):Prop :=
 opV Pg (Instr.fieldAt 26 t1 2) (panK R) w fun t30 w =>
 opV Pg (Instr.loadAt 23 t30) (panK R) w fun t31 w =>
 opV Pg (Builtin.len_ #[23] 3 #[t31]) (panK R) w fun t32 w =>
 opV Pg (binS .lss 3 false t3 t32) (panK R) w fun t33 w =>
 condP t33 (
 n9c8 t1 t3 next4 R w) (
 loop1 (fun t4 w next5 =>
 n9c7 t1 t4 next5 R w) (.int .i64 0) w)
def n9c10 (t1 t16 t21:Value) (R:RT) (w:World):Prop :=
 pickK t16 (.bool true) t21 fun t22 =>
 joinK (fun (t27:Value) (w:World) =>
 pickK t22 (.bool true) t27 fun t28 =>
 condP t28 (
 R (.returned (.bool true)) w) (
 loop1 (fun t3 w next4 =>
 n9c9 t1 t3 next4 R w) (.int .i64 0) w)) fun K3 =>
 guardP t22 false (
 opV Pg (Instr.fieldAt 26 t1 0) (panK R) w fun t24 w =>
 opV Pg (Instr.loadAt 9 t24) (panK R) w fun t25 w =>
 opV Pg (Builtin.len_ #[9] 3 #[t25]) (panK R) w fun t26 w =>
 opV Pg (binS .gtr 3 true t26 (.int .i64 60)) (panK R) w fun t27 w =>
 K3 t27 w) (
 K3 undef w)
def n9c11 (t1 t10 t15:Value) (R:RT) (w:World):Prop :=
 pickK t10 (.bool true) t15 fun t16 =>
 joinK (fun (t21:Value) (w:World) =>
 n9c10 t1 t16 t21 R w) fun K2 =>
 guardP t16 false (
 opV Pg (Instr.fieldAt 26 t1 3) (panK R) w fun t18 w =>
 opV Pg (Instr.loadAt 24 t18) (panK R) w fun t19 w =>
 opV Pg (Builtin.len_ #[24] 3 #[t19]) (panK R) w fun t20 w =>
 opV Pg (binS .gtr 3 true t20 (.int .i64 90)) (panK R) w fun t21 w =>
 K2 t21 w) (
 K2 undef w)
def n9 (t0:Value) (R:RT) (w:World):Prop :=
 opV Pg (Instr.box 26 t0) (panK R) w fun t1 w =>
 opV Pg (Instr.fieldAt 26 t1 2) (panK R) w fun t7 w =>
 opV Pg (Instr.loadAt 23 t7) (panK R) w fun t8 w =>
 opV Pg (Builtin.len_ #[23] 3 #[t8]) (panK R) w fun t9 w =>
 opV Pg (binS .gtr 3 true t9 (.int .i64 6)) (panK R) w fun t10 w =>
 joinK (fun (t15:Value) (w:World) =>
 n9c11 t1 t10 t15 R w) fun K1 =>
 guardP t10 false (
 opV Pg (Instr.fieldAt 26 t1 1) (panK R) w fun t12 w =>
 opV Pg (Instr.loadAt 22 t12) (panK R) w fun t13 w =>
 opV Pg (Builtin.len_ #[22] 3 #[t13]) (panK R) w fun t14 w =>
 opV Pg (binS .gtr 3 true t14 (.int .i64 30)) (panK R) w fun t15 w =>
 K1 t15 w) (
 K1 undef w)
set_option maxHeartbeats 40000000 in
theorem n9s {t0:Value} {R:RT} {w:World} (h:n9 t0 R w):Calls Pg 10 #[t0] w R:=by
 refine yD Tryz.func10 ?_
 refine zs<|zr<|yv h fun _ w h=>zm<|zn<|zk<|zs<|zs<|sim_regionG<|yG 5<|yv h fun _ w h=>yv h fun _ w h=>yx h fun _ w h=>yb h fun _ w h=>zm ?_
 refine zn<|yg1 4 4 false [12,13,14,15] 15 h (fun _ T hT h=>?_) fun σ w h=>?_
 · refine yv h fun _ w h=>yv h fun _ w h=>yx h fun _ w h=>yb h fun _ w h=>zn ?_
   exact zt hT h
 refine yG 2<|yp h fun _ h=>zm<|zn<|yg1 4 10 false [18,19,20,21] 21 h (fun _ T hT h=>?_) fun σ w h=>?_
 · refine yv h fun _ w h=>yv h fun _ w h=>yx h fun _ w h=>yb h fun _ w h=>zn ?_
   exact zt hT h
 refine yG 2<|yp h fun _ h=>zm<|zn<|yg1 4 16 false [24,25,26,27] 27 h (fun _ T hT h=>?_) fun σ w h=>?_
 · refine yv h fun _ w h=>yv h fun _ w h=>yx h fun _ w h=>yb h fun _ w h=>zn ?_
   exact zt hT h
 refine yG 1<|yp h fun _ h=>zn<|sim_end<|zk<|yC h (fun h=>zs<|zr<|zm<|zn<|zk<|sim_ret<|sim_then_ret<|body_ret1 rfl rfl h) fun h=>sim_skip<|zk<|zs<|zs<|zr<|zm<|zn<|zk ?_
 refine sim_block<|yl1 [2,3,29,30,31,32,33,34,35,36,37,38,39,40,41,42,43] 3 h fun σ w next h=>zs<|zs<|zr<|zm<|yv h fun _ w h=>yv h fun _ w h=>yx h fun _ w h=>yb h fun _ w h=>zn<|zk<|yC h (fun h=>?_) fun h=>?_
 · refine sim_skip<|zk<|zs<|sim_block<|zs<|zr<|yv h fun _ w h=>yv h fun _ w h=>zm<|yv h fun _ w h=>yv h fun _ w h=>yv h fun _ w h=>yx h fun _ w h=>yb h fun _ w h=>zn ?_
   exact zk<|yC h (fun h=>zs<|zr<|zm<|zn<|zk<|sim_ret<|sim_block_ret<|sim_then_ret<|sim_then_ret<|sim_block_ret<|sim_then_ret<|body_ret1 rfl rfl h) fun h=>sim_skip<|sim_block_normal<|zk<|zr<|zm<|yb h fun _ w h=>zm<|zn<|zk<|⟨rfl,h⟩
 refine sim_exit<|sim_then_exit<|sim_then_exit<|sim_block_hit<|zk<|zs<|zs<|zr<|zm<|zn<|zk<|sim_block<|yl1 [2,4,44,45,46,47,48,49,50,51,52,53,54,55,56,57,58] 4 h fun σ w next h=>zs<|zs ?_
 refine zr<|zm<|yv h fun _ w h=>yv h fun _ w h=>yx h fun _ w h=>yb h fun _ w h=>zn<|zk<|yC h (fun h=>?_) fun h=>?_
 · refine sim_skip<|zk<|zs<|sim_block<|zs<|zr<|yv h fun _ w h=>yv h fun _ w h=>zm<|yv h fun _ w h=>yv h fun _ w h=>yv h fun _ w h=>yx h fun _ w h=>yb h fun _ w h=>zn ?_
   exact zk<|yC h (fun h=>zs<|zr<|zm<|zn<|zk<|sim_ret<|sim_block_ret<|sim_then_ret<|sim_then_ret<|sim_block_ret<|sim_then_ret<|body_ret1 rfl rfl h) fun h=>sim_skip<|sim_block_normal<|zk<|zr<|zm<|yb h fun _ w h=>zm<|zn<|zk<|⟨rfl,h⟩
 refine sim_exit<|sim_then_exit<|sim_then_exit<|sim_block_hit<|zk<|zs<|zs<|zr<|zm<|zn<|zk<|sim_block<|yl1 [2,5,6,59,60,61,62,63,64,65,66,67,68,69,70,71,72,73,74,75,76,77,78,79,80,81,82,83,84,85,86,87,88,89,90,91,92,93,94,95,96,97,98] 5 h fun σ w next h=>zs<|zs ?_
 refine zr<|zm<|yv h fun _ w h=>yv h fun _ w h=>yx h fun _ w h=>yb h fun _ w h=>zn<|zk<|yC h (fun h=>?_) fun h=>?_
 · refine sim_skip<|zk<|zs<|sim_block<|zs<|zr<|yv h fun _ w h=>yv h fun _ w h=>zm<|yv h fun _ w h=>yv h fun _ w h=>yv h fun _ w h=>yu h fun w h=>zn<|zk ?_
   refine zs<|sim_regionG<|yG 5<|yv h fun _ w h=>yv h fun _ w h=>yx h fun _ w h=>yb h fun _ w h=>zm<|zn<|yg1 4 4 false [76,77,78,79] 79 h (fun _ T hT h=>?_) fun σ w h=>?_
   · refine yv h fun _ w h=>yv h fun _ w h=>yx h fun _ w h=>yb h fun _ w h=>zn ?_
     exact zt hT h
   refine yG 2<|yp h fun _ h=>zm<|zn<|yg1 4 10 false [82,83,84,85] 85 h (fun _ T hT h=>?_) fun σ w h=>?_
   · refine yv h fun _ w h=>yv h fun _ w h=>yx h fun _ w h=>yb h fun _ w h=>zn ?_
     exact zt hT h
   refine yG 2<|yp h fun _ h=>zm<|zn<|yg1 4 16 false [88,89,90,91] 91 h (fun _ T hT h=>?_) fun σ w h=>?_
   · refine yv h fun _ w h=>yv h fun _ w h=>yx h fun _ w h=>yb h fun _ w h=>zn ?_
     exact zt hT h
   refine yG 2<|yp h fun _ h=>zm<|zn<|yg1 4 22 false [94,95,96,97] 97 h (fun _ T hT h=>?_) fun σ w h=>?_
   · refine yv h fun _ w h=>yv h fun _ w h=>yx h fun _ w h=>yb h fun _ w h=>zn ?_
     exact zt hT h
   refine yG 1<|yp h fun _ h=>zn<|sim_end<|zk<|yC h (fun h=>zs<|zr<|zm<|zn<|zk<|sim_ret<|sim_block_ret<|sim_then_ret<|sim_then_ret<|sim_block_ret<|sim_then_ret<|body_ret1 rfl rfl h) fun h=>sim_skip<|sim_block_normal<|zk<|zr<|zm<|yb h fun _ w h=>zm<|zn ?_
   exact zk<|⟨rfl,h⟩
 exact sim_exit<|sim_then_exit<|sim_then_exit<|sim_block_hit<|zk<|zs<|zr<|zm<|zn<|zk<|sim_ret<|body_ret1 rfl rfl h
def n8c1 (t18:Value) (K14:KV) (R:RT) (w:World):Prop :=
 opV Pg (Instr.fieldAt 26 t18 3) (panK R) w fun t126 w =>
 opV Pg (Instr.loadAt 24 t126) (panK R) w fun t127 w =>
 opV Pg (Instr.indexAt 24 t127 (.int .i64 1)) (panK R) w fun t128 w =>
 opV Pg (Instr.loadAt 71 t128) (panK R) w fun t129 w =>
 opV Pg (Instr.build 71 #[(0,(.string { data := #[98] })),(1,(.string { data := #[97] })),(2,(.int .i64 4))]) (panK R) w fun t130 w =>
 opV Pg (binS .eql 71 false t129 t130) (panK R) w fun t131 w =>
 K14 t131 w
def n8c2 (t18 t116 t123:Value) (R:RT) (w:World):Prop :=
 pickK t116 t123 (.bool false) fun t124 =>
 joinK (fun (t131:Value) (w:World) =>
 pickK t124 t131 (.bool false) fun t132 =>
 R (.returned t132) w) fun K14 =>
 guardP t124 true (
 n8c1 t18 K14 R w) (
 K14 undef w)
def n8c3 (t18:Value) (K13:KV) (R:RT) (w:World):Prop :=
 opV Pg (Instr.fieldAt 26 t18 3) (panK R) w fun t118 w =>
 opV Pg (Instr.loadAt 24 t118) (panK R) w fun t119 w =>
 opV Pg (Instr.indexAt 24 t119 (.int .i64 0)) (panK R) w fun t120 w =>
 opV Pg (Instr.loadAt 71 t120) (panK R) w fun t121 w =>
 opV Pg (Instr.build 71 #[(0,(.string { data := #[97] })),(1,(.string { data := #[98] })),(2,(.int .i64 2)),(3,(.string { data := #[109] })),(4,(.string { data := #[99] })),(5,(.string { data := #[110] })),(7,(.int .i64 1)),(8,(.int .i64 1))]) (panK R) w fun t122 w =>
 opV Pg (binS .eql 71 false t121 t122) (panK R) w fun t123 w =>
 K13 t123 w
def n8c4 (t18 t110 t115:Value) (R:RT) (w:World):Prop :=
 pickK t110 t115 (.bool false) fun t116 =>
 joinK (fun (t123:Value) (w:World) =>
 n8c2 t18 t116 t123 R w) fun K13 =>
 guardP t116 true (
 n8c3 t18 K13 R w) (
 K13 undef w)
def n8c5 (t18 t109:Value) (R:RT) (w:World):Prop :=
 opV Pg (binS .eql 3 true t109 (.int .i64 0)) (panK R) w fun t110 w =>
 joinK (fun (t115:Value) (w:World) =>
 n8c4 t18 t110 t115 R w) fun K12 =>
 guardP t110 true (
 opV Pg (Instr.fieldAt 26 t18 3) (panK R) w fun t112 w =>
 opV Pg (Instr.loadAt 24 t112) (panK R) w fun t113 w =>
 opV Pg (Builtin.len_ #[24] 3 #[t113]) (panK R) w fun t114 w =>
 opV Pg (binS .eql 3 true t114 (.int .i64 2)) (panK R) w fun t115 w =>
 K12 t115 w) (
 K12 undef w)
def n8c6 (t105:Value) (R:RT) (w:World):Prop :=
 opV Pg (Instr.extract t105 0) (panK R) w fun t106 w =>
 opV Pg (Instr.extract t105 1) (panK R) w fun t107 w =>
 opV Pg (Instr.alloc 26 true (.tuple #[])) (panK R) w fun t18 w =>
 opU Pg (Instr.storeAt 26 t18 t106) (panK R) w fun w =>
 callK Pg 15 #[t107] (panK R) w fun t109 w =>
 n8c5 t18 t109 R w
def n8c7 (t98 t101:Value) (R:RT) (w:World):Prop :=
 pickK t98 (.bool true) t101 fun t102 =>
 condP t102 (
 R (.returned (.bool false)) w) (
 callK Pg 35 #[] (panK R) w fun t104 w =>
 callK Pg 23 #[t104,(.string { data := #[115] })] (panK R) w fun t105 w =>
 n8c6 t105 R w)
def n8c8 (t68 t94 t97:Value) (R:RT) (w:World):Prop :=
 pickK t94 (.bool true) t97 fun t98 =>
 joinK (fun (t101:Value) (w:World) =>
 n8c7 t98 t101 R w) fun K11 =>
 guardP t98 false (
 opV Pg (binS .neq 29 true t68 (.int .i64 6)) (panK R) w fun t101 w =>
 K11 t101 w) (
 K11 undef w)
def n8c9 (t67 t68 t90 t93:Value) (R:RT) (w:World):Prop :=
 pickK t90 (.bool true) t93 fun t94 =>
 joinK (fun (t97:Value) (w:World) =>
 n8c8 t68 t94 t97 R w) fun K10 =>
 guardP t94 false (
 opV Pg (binS .neq 3 true t67 (.int .i64 3)) (panK R) w fun t97 w =>
 K10 t97 w) (
 K10 undef w)
def n8c10 (t63 t67 t68 t86 t89:Value) (R:RT) (w:World):Prop :=
 pickK t86 (.bool true) t89 fun t90 =>
 joinK (fun (t93:Value) (w:World) =>
 n8c9 t67 t68 t90 t93 R w) fun K9 =>
 guardP t90 false (
 opV Pg (binS .neq 29 true t63 (.int .i64 292)) (panK R) w fun t93 w =>
 K9 t93 w) (
 K9 undef w)
def n8c11 (t62 t63 t67 t68 t82 t85:Value) (R:RT) (w:World):Prop :=
 pickK t82 (.bool true) t85 fun t86 =>
 joinK (fun (t89:Value) (w:World) =>
 n8c10 t63 t67 t68 t86 t89 R w) fun K8 =>
 guardP t86 false (
 opV Pg (binS .neq 3 true t62 (.int .i64 0)) (panK R) w fun t89 w =>
 K8 t89 w) (
 K8 undef w)
def n8c12 (t58 t62 t63 t67 t68 t78 t81:Value) (R:RT) (w:World):Prop :=
 pickK t78 (.bool true) t81 fun t82 =>
 joinK (fun (t85:Value) (w:World) =>
 n8c11 t62 t63 t67 t68 t82 t85 R w) fun K7 =>
 guardP t82 false (
 opV Pg (binS .neq 29 true t58 (.int .i64 292)) (panK R) w fun t85 w =>
 K7 t85 w) (
 K7 undef w)
def n8c13 (t53 t58 t62 t63 t67 t68 t74 t77:Value) (R:RT) (w:World):Prop :=
 pickK t74 (.bool true) t77 fun t78 =>
 joinK (fun (t81:Value) (w:World) =>
 n8c12 t58 t62 t63 t67 t68 t78 t81 R w) fun K6 =>
 guardP t78 false (
 opV Pg (binS .neq 29 true t53 (.int .i64 293)) (panK R) w fun t81 w =>
 K6 t81 w) (
 K6 undef w)
def n8c14 (t47 t48 t52 t53 t57 t58 t62 t63 t65:Value) (R:RT) (w:World):Prop :=
 opV Pg (Instr.extract t65 0) (panK R) w fun t66 w =>
 opV Pg (Instr.extract t65 1) (panK R) w fun t67 w =>
 opV Pg (Instr.extract t65 2) (panK R) w fun t68 w =>
 opV Pg (Instr.alloc 26 true (.tuple #[])) (panK R) w fun t15 w =>
 opU Pg (Instr.storeAt 26 t15 t66) (panK R) w fun w =>
 opV Pg (binS .add 3 false t47 t52) (panK R) w fun t71 w =>
 opV Pg (binS .add 3 false t71 t57) (panK R) w fun t73 w =>
 opV Pg (binS .neq 3 true t73 (.int .i64 0)) (panK R) w fun t74 w =>
 joinK (fun (t77:Value) (w:World) =>
 n8c13 t53 t58 t62 t63 t67 t68 t74 t77 R w) fun K5 =>
 guardP t74 false (
 opV Pg (binS .neq 29 true t48 (.int .i64 293)) (panK R) w fun t77 w =>
 K5 t77 w) (
 K5 undef w)
def n8c15 (t47 t48 t52 t53 t57 t58 t60:Value) (R:RT) (w:World):Prop :=
 opV Pg (Instr.extract t60 0) (panK R) w fun t61 w =>
 opV Pg (Instr.extract t60 1) (panK R) w fun t62 w =>
 opV Pg (Instr.extract t60 2) (panK R) w fun t63 w =>
 opV Pg (Instr.alloc 26 true (.tuple #[])) (panK R) w fun t12 w =>
 opU Pg (Instr.storeAt 26 t12 t61) (panK R) w fun w =>
 callK Pg 19 #[(.string { data := #[114,111,108,101,32,99,10,115,116,97,116,101,32,97,10,115,116,97,116,101,32,49] })] (panK R) w fun t65 w =>
 n8c14 t47 t48 t52 t53 t57 t58 t62 t63 t65 R w
def n8c16 (t47 t48 t52 t53 t56:Value) (R:RT) (w:World):Prop :=
 opV Pg (Instr.extract t56 0) (panK R) w fun t57 w =>
 opV Pg (Instr.extract t56 1) (panK R) w fun t58 w =>
 callK Pg 19 #[(.string { data := #[114,111,108,101,32,99] })] (panK R) w fun t60 w =>
 n8c15 t47 t48 t52 t53 t57 t58 t60 R w
def n8c17 (t5 t47 t48 t51:Value) (R:RT) (w:World):Prop :=
 opV Pg (Instr.extract t51 0) (panK R) w fun t52 w =>
 opV Pg (Instr.extract t51 1) (panK R) w fun t53 w =>
 opV Pg (Instr.loadAt 26 t5) (panK R) w fun t55 w =>
 callK Pg 12 #[t55] (panK R) w fun t56 w =>
 n8c16 t47 t48 t52 t53 t56 R w
def n8c18 (t4 t5 t46:Value) (R:RT) (w:World):Prop :=
 opV Pg (Instr.extract t46 0) (panK R) w fun t47 w =>
 opV Pg (Instr.extract t46 1) (panK R) w fun t48 w =>
 opV Pg (Instr.loadAt 26 t4) (panK R) w fun t50 w =>
 callK Pg 12 #[t50] (panK R) w fun t51 w =>
 n8c17 t5 t47 t48 t51 R w
def n8c19 (t3 t4 t5:Value) (C3:World→Prop) (R:RT) (w:World):Prop :=
 qV Pg C3 (Instr.fieldAt 26 t5 1) fun t43 =>
 opU Pg (Instr.storeAt 22 t43 (Value.slice none 0 0)) (panK R) w fun w =>
 turnK w fun C4 w =>
 opV Pg (Instr.loadAt 26 t3) (panK R) w fun t45 w =>
 callK Pg 12 #[t45] (panK R) w fun t46 w =>
 n8c18 t4 t5 t46 R w
def n8c20 (t3 t4 t5 t38:Value) (C2:World→Prop) (R:RT) (w:World):Prop :=
 qV Pg C2 (Instr.indexAt 24 t38 (.int .i64 0)) fun t41 =>
 qV Pg C2 (Instr.fieldAt 71 t41 4) fun t42 =>
 opU Pg (Instr.storeAt 9 t42 (.string { data := #[99] })) (panK R) w fun w =>
 turnK w fun C3 w =>
 n8c19 t3 t4 t5 C3 R w
def n8c21 (t3 t4 t5:Value) (C2:World→Prop) (R:RT) (w:World):Prop :=
 qV Pg C2 (Instr.fieldAt 26 t3 3) fun t35 =>
 qV Pg C2 (Instr.loadAt 24 t35) fun t36 =>
 qV Pg C2 (Instr.fieldAt 26 t4 3) fun t37 =>
 qV Pg C2 (Instr.loadAt 24 t37) fun t38 =>
 qV Pg C2 (Instr.indexAt 24 t36 (.int .i64 0)) fun t39 =>
 qV Pg C2 (Instr.fieldAt 71 t39 7) fun t40 =>
 opU Pg (Instr.storeAt 3 t40 (.int .i64 2)) (panK R) w fun w =>
 C2 w∧(
 n8c20 t3 t4 t5 t38 C2 R w)
def n8c22 (t32 t33 t34:Value) (R:RT) (w:World):Prop :=
 opV Pg (Instr.alloc 26 true (.tuple #[])) (panK R) w fun t3 w =>
 opV Pg (Instr.alloc 26 true (.tuple #[])) (panK R) w fun t4 w =>
 opV Pg (Instr.alloc 26 true (.tuple #[])) (panK R) w fun t5 w =>
 opU Pg (Instr.storeAt 26 t3 t32) (panK R) w fun w =>
 opU Pg (Instr.storeAt 26 t4 t33) (panK R) w fun w =>
 opU Pg (Instr.storeAt 26 t5 t34) (panK R) w fun w =>
 drawK w fun C2 w =>
 n8c21 t3 t4 t5 C2 R w
def n8c23 (R:RT) (w:World):Prop :=
 callK Pg 35 #[] (panK R) w fun t32 w =>
 callK Pg 35 #[] (panK R) w fun t33 w =>
 callK Pg 35 #[] (panK R) w fun t34 w =>
 n8c22 t32 t33 t34 R w
def n8c24 (t22:Value) (R:RT) (w:World):Prop :=
 opV Pg (Instr.extract t22 0) (panK R) w fun t23 w =>
 opV Pg (Instr.extract t22 1) (panK R) w fun t24 w =>
 opV Pg (binS .neq 9 true t23 (.string { data := #[114,111,108,101,32,99,10,99,111,117,110,116,101,114,32,110,32,50,10,115,116,97,116,101,32,97,10,115,116,97,116,101,32,98,32,119,97,105,116,32,53,32,102,105,110,97,108,10,115,116,101,112,32,97,32,98,32,115,101,110,100,32,109,32,115,32,119,104,101,110,32,110,32,48,32,49,32,49,10,115,116,101,112,32,98,32,97,32,116,105,109,101,111,117,116] })) (panK R) w fun t26 w =>
 joinK (fun (t30:Value) (w:World) =>
 pickK t26 (.bool true) t30 fun t31 =>
 condP t31 (
 R (.returned (.bool false)) w) (
 n8c23 R w)) fun K1 =>
 guardP t26 false (
 callK Pg 15 #[t24] (panK R) w fun t29 w =>
 opV Pg (binS .neq 3 true t29 (.int .i64 0)) (panK R) w fun t30 w =>
 K1 t30 w) (
 K1 undef w)
def n8 (R:RT) (w:World):Prop :=
 callK Pg 35 #[] (panK R) w fun t21 w =>
 callK Pg 14 #[t21] (panK R) w fun t22 w =>
 n8c24 t22 R w
set_option maxHeartbeats 40000000 in
theorem n8s {R:RT} {w:World} (h:n8 R w):Calls Pg 11 #[] w R:=by
 refine yD Tryz.func11 ?_
 refine zs<|zr<|zm<|zn<|zk<|zs<|zr<|yc h c35 fun _ w h=>yc h c14 fun _ w h=>zm<|yv h fun _ w h=>yv h fun _ w h=>zm<|zm<|zn ?_
 refine zk<|zs<|zs<|sim_regionG<|yG 3<|zm<|yb h fun _ w h=>zm<|zn<|yg1 3 2 false [28,29,30] 30 h (fun _ T hT h=>?_) fun σ w h=>?_
 · refine zm<|yc h c15 fun _ w h=>yb h fun _ w h=>zn ?_
   exact zt hT h
 refine yG 1<|yp h fun _ h=>zn<|sim_end<|zk<|yC h (fun h=>zs<|zr<|zm<|zn<|zk<|sim_ret<|sim_then_ret<|body_ret1 rfl rfl h) fun h=>sim_skip<|zk<|zs<|zr<|yc h c35 fun _ w h=>yc h c35 fun _ w h=>yc h c35 fun _ w h=>yv h fun _ w h=>?_
 refine yv h fun _ w h=>yv h fun _ w h=>yu h fun w h=>yu h fun w h=>yu h fun w h=>zn<|zk<|zs<|yh [35,36,37,38,39,40,41,42,43] h fun C hC h=>ye 0 hC h fun _ h=>?_
 refine ye 1 hC h fun _ h=>?_
 refine ye 2 hC h fun _ h=>?_
 refine ye 3 hC h fun _ h=>?_
 refine ye 4 hC h fun _ h=>?_
 refine ye 5 hC h fun _ h=>?_
 refine yo 6 ?_
 refine yu h fun w h=>zn ?_
 obtain ⟨hC,h⟩:=h
 refine ⟨hC,?_⟩
 refine ye 7 hC h fun _ h=>?_
 refine ye 8 hC h fun _ h=>?_
 refine yq 9 2 ?_
 refine yu h fun w h=>zn ?_
 obtain ⟨C3,hC,h⟩:=h
 refine ⟨C3,hC,?_⟩
 refine ye 10 hC h fun _ h=>?_
 refine yq 11 1 ?_
 refine yu h fun w h=>zn ?_
 obtain ⟨C4,hC,h⟩:=h
 refine ⟨C4,hC,?_⟩
 refine yz<|zk<|zs<|zr<|yv h fun _ w h=>yc h c12 fun _ w h=>zm<|yv h fun _ w h=>yv h fun _ w h=>zm<|zm<|zn<|zk<|zs<|zr ?_
 refine yv h fun _ w h=>yc h c12 fun _ w h=>zm<|yv h fun _ w h=>yv h fun _ w h=>zm<|zm<|zn<|zk<|zs<|zr<|yv h fun _ w h=>yc h c12 fun _ w h=>zm<|yv h fun _ w h=>?_
 refine yv h fun _ w h=>zm<|zm<|zn<|zk<|zs<|zr<|yc h c19 fun _ w h=>zm<|yv h fun _ w h=>yv h fun _ w h=>yv h fun _ w h=>yv h fun _ w h=>yu h fun w h=>zm ?_
 refine zm<|zn<|zk<|zs<|zr<|yc h c19 fun _ w h=>zm<|yv h fun _ w h=>yv h fun _ w h=>yv h fun _ w h=>yv h fun _ w h=>yu h fun w h=>zm<|zm<|zn ?_
 refine zk<|zs<|zs<|sim_regionG<|yG 7<|zm<|zm<|yb h fun _ w h=>zm<|yb h fun _ w h=>yb h fun _ w h=>zm<|zn<|yg1 2 6 false [76,77] 77 h (fun _ T hT h=>?_) fun σ w h=>?_
 · refine zm<|yb h fun _ w h=>zn ?_
   exact zt hT h
 refine yG 2<|yp h fun _ h=>zm<|zn<|yg1 2 10 false [80,81] 81 h (fun _ T hT h=>?_) fun σ w h=>?_
 · refine zm<|yb h fun _ w h=>zn ?_
   exact zt hT h
 refine yG 2<|yp h fun _ h=>zm<|zn<|yg1 2 14 false [84,85] 85 h (fun _ T hT h=>?_) fun σ w h=>?_
 · refine zm<|yb h fun _ w h=>zn ?_
   exact zt hT h
 refine yG 2<|yp h fun _ h=>zm<|zn<|yg1 2 18 false [88,89] 89 h (fun _ T hT h=>?_) fun σ w h=>?_
 · refine zm<|yb h fun _ w h=>zn ?_
   exact zt hT h
 refine yG 2<|yp h fun _ h=>zm<|zn<|yg1 2 22 false [92,93] 93 h (fun _ T hT h=>?_) fun σ w h=>?_
 · refine zm<|yb h fun _ w h=>zn ?_
   exact zt hT h
 refine yG 2<|yp h fun _ h=>zm<|zn<|yg1 2 26 false [96,97] 97 h (fun _ T hT h=>?_) fun σ w h=>?_
 · refine zm<|yb h fun _ w h=>zn ?_
   exact zt hT h
 refine yG 2<|yp h fun _ h=>zm<|zn<|yg1 2 30 false [100,101] 101 h (fun _ T hT h=>?_) fun σ w h=>?_
 · refine zm<|yb h fun _ w h=>zn ?_
   exact zt hT h
 refine yG 1<|yp h fun _ h=>zn<|sim_end<|zk<|yC h (fun h=>zs<|zr<|zm<|zn<|zk<|sim_ret<|sim_then_ret<|body_ret1 rfl rfl h) fun h=>sim_skip<|zk<|zs<|zr<|yc h c35 fun _ w h=>yc h c23 fun _ w h=>zm<|yv h fun _ w h=>?_
 refine yv h fun _ w h=>yv h fun _ w h=>yu h fun w h=>zm<|zn<|zk<|zs<|sim_regionG<|yG 4<|zm<|yc h c15 fun _ w h=>yb h fun _ w h=>zm<|zn<|yg1 4 3 true [112,113,114,115] 115 h (fun _ T hT h=>?_) fun σ w h=>?_
 · refine yv h fun _ w h=>yv h fun _ w h=>yx h fun _ w h=>yb h fun _ w h=>zn ?_
   exact zt hT h
 refine yG 2<|yp h fun _ h=>zm<|zn<|yg1 6 9 true [118,119,120,121,122,123] 123 h (fun _ T hT h=>?_) fun σ w h=>?_
 · refine yv h fun _ w h=>yv h fun _ w h=>yv h fun _ w h=>yv h fun _ w h=>yB h fun _ w h=>yb h fun _ w h=>zn ?_
   exact zt hT h
 refine yG 2<|yp h fun _ h=>zm<|zn<|yg1 6 17 true [126,127,128,129,130,131] 131 h (fun _ T hT h=>?_) fun σ w h=>?_
 · refine yv h fun _ w h=>yv h fun _ w h=>yv h fun _ w h=>yv h fun _ w h=>yB h fun _ w h=>yb h fun _ w h=>zn ?_
   exact zt hT h
 exact yG 2<|yp h fun _ h=>zm<|zn<|sim_end<|zk<|sim_ret<|body_ret1 rfl rfl h
def samS1:StpD:=⟨⟨#[97]⟩,⟨#[98]⟩,1,⟨#[109]⟩,⟨#[115]⟩,⟨#[110]⟩,0,1,1⟩
def samS2:StpD:=⟨⟨#[98]⟩,⟨#[97]⟩,3,⟨#[]⟩,⟨#[]⟩,⟨#[]⟩,0,0,0⟩
def samC:List CntD:=[⟨⟨#[110]⟩,2⟩]
def samT:List StaD:=[⟨⟨#[97]⟩,false,0⟩,⟨⟨#[98]⟩,true,5⟩]
def samR:RolD:=⟨⟨#[99]⟩,samT,samC,[samS1,samS2]⟩
theorem own_obj {α:Type} {w:World} {base b n m:Nat} {T:TypeId} {enc:α→List Value} {l:List α} {cs:Array Value} (h:w.heap[b]?=some (.cells cs T (0,0))) (hcs:cs=(l.flatMap enc).toArray) (hm:m=l.length) (hn:∀ x,(enc x).length=n) (hb:base≤b) (hl:l.length≤1000000):OwnE w base T n enc (.slice (some ⟨b,0,none⟩) m m) l:=by
 subst hcs hm
 have hfl:(l.flatMap enc).length=l.length*n:=by
  clear hl h
  induction l with
  | nil=>simp
  | cons a l ih=>rw [List.flatMap_cons,List.length_append,hn,ih,List.length_cons,Nat.add_mul];omega
 refine ⟨hfl,.inr ⟨b,_,_,rfl,hb,h,Nat.le_refl _,by simp only [maxLen];omega,by rw [List.size_toArray,hfl],?_⟩⟩
 rw [List.take_of_length_le (by show (l.flatMap enc).length≤_;omega)]
structure SamAt (w:World) (base:Nat) (v:Value) (bS bC bT:Nat):Prop where
 v:v = .agg (rolCells samR (.slice (some ⟨bS,0,none⟩) 2 2) (.slice (some ⟨bC,0,none⟩) 1 1) (.slice (some ⟨bT,0,none⟩) 2 2)).toArray
 S:w.heap[bS]?=some (.cells (samT.flatMap staCells).toArray 50 (0,0))
 C:w.heap[bC]?=some (.cells (samC.flatMap cntCells).toArray 52 (0,0))
 T:w.heap[bT]?=some (.cells ([samS1,samS2].flatMap stpCells).toArray 71 (0,0))
 le:base≤bS∧base≤bC∧base≤bT
theorem SamAt.val {w:World} {base bS bC bT:Nat} {v:Value} (h:SamAt w base v bS bC bT):RolVal w v samR:=by
 obtain ⟨hv,h1,h2,h3,l1,l2,l3⟩:=h
 exact RolOwn.val (base:=base) ⟨_,_,_,hv,own_obj (l:=samT) h1 rfl rfl (fun _=>rfl) l1 (by decide),own_obj (l:=samC) h2 rfl rfl (fun _=>rfl) l2 (by decide),own_obj (l:=[samS1,samS2]) h3 rfl rfl (fun _=>rfl) l3 (by decide)⟩
theorem SamAt.ext {w w':World} {base bS bC bT:Nat} {v:Value} (h:SamAt w base v bS bC bT) (e:Ext w w'):SamAt w' base v bS bC bT:=⟨h.v,e.obj h.S,e.obj h.C,e.obj h.T,h.le⟩
theorem sample_ret (w0:World):Ret Pg 35 #[] w0 fun r w'=>Ext w0 w'∧∃ bS bC bT,SamAt w' w0.heap.size r bS bC bT:=by
 refine n12s (R:=retR _) ?_;unfold n12
 simp (disch:=try exact DI) only [↓PR,QR,simprocAttr]
 refine ⟨(((((Ext.refl w0).alloc _).alloc _).alloc _).alloc _),w0.heap.size+1+1,w0.heap.size+1,w0.heap.size+1+1+1,⟨rfl,?_,?_,?_,by omega,by omega,by omega⟩⟩
 · simp (disch:=try exact DI) only [↓PR,QR,simprocAttr]
   rfl
 · simp (disch:=try exact DI) only [↓PR,QR,simprocAttr]
   rfl
 · simp (disch:=try exact DI) only [↓PR,QR,simprocAttr]
   rfl
def samX:RolD:={ samR with steps:=[{ samS1 with high:=2 },samS2] }
def samY:RolD:={ samR with steps:=[{ samS1 with peer:=⟨#[99]⟩ },samS2] }
def samZ:RolD:={ samR with states:=[] }
def samTurned:RolD:=⟨⟨#[115]⟩,samT.map still,samC,[⟨⟨#[97]⟩,⟨#[98]⟩,2,⟨#[109]⟩,⟨#[99]⟩,⟨#[110]⟩,0,1,1⟩,⟨⟨#[98]⟩,⟨#[97]⟩,4,⟨#[]⟩,⟨#[]⟩,⟨#[]⟩,0,0,0⟩]⟩
theorem kn_check:checkR samR=(0,0)∧checkR samX=(0,293)∧checkR samY=(0,293)∧checkR samZ=(0,292):=by decide +kernel
theorem kn_parse1:parseP ⟨#[114,111,108,101,32,99]⟩=(zeroR,0,292):=by decide +kernel
theorem kn_parse2:parseP ⟨#[114,111,108,101,32,99,10,115,116,97,116,101,32,97,10,115,116,97,116,101,32,49]⟩=(zeroR,3,6):=by decide +kernel
theorem kn_turn:turnP samR ⟨#[115]⟩=(samTurned,0):=by decide +kernel
abbrev kn_text:ByteArray:=⟨#[114,111,108,101,32,99,10,99,111,117,110,116,101,114,32,110,32,50,10,115,116,97,116,101,32,97,10,115,116,97,116,101,32,98,32,119,97,105,116,32,53,32,102,105,110,97,108,10,115,116,101,112,32,97,32,98,32,115,101,110,100,32,109,32,115,32,119,104,101,110,32,110,32,48,32,49,32,49,10,115,116,101,112,32,98,32,97,32,116,105,109,101,111,117,116]⟩
theorem kn_print:printR samR=kn_text:=by
 have d0:decB 0=⟨#[UInt8.ofNat (48+0)]⟩:=dec_one (n:=0) (by decide)
 have d1:decB 1=⟨#[UInt8.ofNat (48+1)]⟩:=dec_one (n:=1) (by decide)
 have d2:decB 2=⟨#[UInt8.ofNat (48+2)]⟩:=dec_one (n:=2) (by decide)
 have d5:decB 5=⟨#[UInt8.ofNat (48+5)]⟩:=dec_one (n:=5) (by decide)
 unfold printR
 rw [kn_check.1,if_pos rfl,← textP_eq]
 have h1:textP samR=stpT (stpT (staT (staT (cntT (⟨#[114,111,108,101,32]⟩++⟨#[99]⟩) ⟨⟨#[110]⟩,2⟩) ⟨⟨#[97]⟩,false,0⟩) ⟨⟨#[98]⟩,true,5⟩) samS1) samS2:=rfl
 rw [h1]
 have c1:∀ s,cntT s ⟨⟨#[110]⟩,2⟩=s++⟨#[10,99,111,117,110,116,101,114,32]⟩++⟨#[110]⟩++⟨#[32]⟩++decB 2:=fun s=>rfl
 have c2:∀ s,staT s ⟨⟨#[97]⟩,false,0⟩=s++⟨#[10,115,116,97,116,101,32]⟩++⟨#[97]⟩:=fun s=>rfl
 have c3:∀ s,staT s ⟨⟨#[98]⟩,true,5⟩=s++⟨#[10,115,116,97,116,101,32]⟩++⟨#[98]⟩++⟨#[32,119,97,105,116,32]⟩++decB 5++⟨#[32,102,105,110,97,108]⟩:=fun s=>rfl
 have c4:∀ s,stpT s samS1=s++⟨#[10,115,116,101,112,32]⟩++⟨#[97]⟩++⟨#[32]⟩++⟨#[98]⟩++⟨#[32]⟩++kwB 1++⟨#[32]⟩++⟨#[109]⟩++⟨#[32]⟩++⟨#[115]⟩++⟨#[32,119,104,101,110,32]⟩++⟨#[110]⟩++⟨#[32]⟩++decB 0++⟨#[32]⟩++decB 1++⟨#[32]⟩++decB 1:=fun s=>rfl
 have c5:∀ s,stpT s samS2=s++⟨#[10,115,116,101,112,32]⟩++⟨#[98]⟩++⟨#[32]⟩++⟨#[97]⟩++⟨#[32]⟩++kwB 3:=fun s=>rfl
 rw [c1,c2,c3,c4,c5,d0,d1,d2,d5]
 decide +kernel
theorem num_ret (w:World) (v:Value):Ret Pg 15 #[v] w fun r w'=>r=v∧w'=w:=by
 refine n11s (R:=retR _) ?_;unfold n11
 exact ⟨_,rfl,rfl,rfl⟩
theorem q_step0 {C:World→Prop} [ClassNe C] (b n c:Nat) (hn:0 < n) {K:Value→Prop}:qV Pg C (Instr.indexAt 24 (.slice (some ⟨b,0,none⟩) n c) (.int .i64 0)) K=K (.pointer (some ⟨b,0,none⟩)):=qV_of fun QP w k=>(op_indexN Tryz.underlying24 ty71 b 0 n c .i64 0 hn).trans (by rw [Nat.zero_mul,Nat.add_zero])
theorem known_ret (w0:World) (hE:EnvOK w0):Ret Pg 11 #[] w0 fun r w'=>r = .bool true∧Ext w0 w':=by
 obtain ⟨ck0,ckX,ckY,ckZ⟩:=kn_check
 have hsmR:∀ x∈samR.steps,StpSm x:=by
  intro x hx
  have:x=samS1∨x=samS2:=by simpa [samR] using hx
  rcases this with rfl | rfl<;>(unfold StpSm;decide)
 have hsmX:∀ x∈samX.steps,StpSm x:=by
  intro x hx
  have:x={ samS1 with high:=2 }∨x=samS2:=by simpa [samX] using hx
  rcases this with rfl | rfl<;>(unfold StpSm;decide)
 have hsmY:∀ x∈samY.steps,StpSm x:=by
  intro x hx
  have:x={ samS1 with peer:=⟨#[99]⟩ }∨x=samS2:=by simpa [samY] using hx
  rcases this with rfl | rfl<;>(unfold StpSm;decide)
 have hok:RolOk samR:=by
  refine ⟨by decide,?_,?_,?_,by decide,by decide,by decide⟩
  · intro c hc
    have:c=⟨⟨#[110]⟩,2⟩:=by simpa [samR,samC] using hc
    subst this;decide
  · intro c hc
    have:c=⟨⟨#[97]⟩,false,0⟩∨c=⟨⟨#[98]⟩,true,5⟩:=by simpa [samR,samT] using hc
    rcases this with rfl | rfl<;>decide
  · intro x hx
    refine ⟨hsmR x hx,?_⟩
    have:x=samS1∨x=samS2:=by simpa [samR] using hx
    rcases this with rfl | rfl<;>decide
 refine n8s (R:=retR _) ?_;unfold n8
 refine callK_ret (sample_ret w0) ?_
 rintro v w1 ⟨e1,bS,bC,bT,hs⟩
 refine zcr (Print_ret w1 v samR hs.val hok (hE.ext e1).tab) fun w2 e2=>?_
 rw [kn_print,ck0]
 have dk:decide (kn_text=kn_text)=true:=decide_eq_true rfl
 unfold n8c24
 simp (disch:=try exact DI) only [↓PR,QR,simprocAttr,dk]
 refine callK_ret (num_ret w2 _) ?_
 rintro _ w2' ⟨rfl,rfl⟩
 simp (disch:=try exact DI) only [↓PR,QR,simprocAttr]
 unfold n8c23
 have E2:=e1.trans e2
 refine callK_ret (sample_ret w2') ?_
 rintro vx w3 ⟨e3,bSx,bCx,bTx,hx⟩
 refine callK_ret (sample_ret w3) ?_
 rintro vy w4 ⟨e4,bSy,bCy,bTy,hy⟩
 refine callK_ret (sample_ret w4) ?_
 rintro vz w5 ⟨e5,bSz,bCz,bTz,hz⟩
 have bx3:bTx < w3.heap.size:=(Array.getElem?_eq_some_iff.1 hx.T).1
 have by4:bTy < w4.heap.size:=(Array.getElem?_eq_some_iff.1 hy.T).1
 have s45:=e5.size
 have hx:=hx.ext (e4.trans e5)
 have hy:=hy.ext e5
 have E5:=((E2.trans e3).trans e4).trans e5
 obtain ⟨rfl,hxS,hxC,hxT,lx1,lx2,lx3⟩:=hx
 obtain ⟨rfl,hyS,hyC,hyT,ly1,ly2,ly3⟩:=hy
 obtain ⟨rfl,hzS,hzC,hzT,lz1,lz2,lz3⟩:=hz
 unfold n8c22
 simp (disch:=try exact DI) only [↓PR,QR,simprocAttr]
 simp only [World.size_alloc]
 have o3:∀ a b c:Obj,(((w5.alloc a).alloc b).alloc c).heap[w5.heap.size]?=some a∧(((w5.alloc a).alloc b).alloc c).heap[w5.heap.size+1]?=some b∧(((w5.alloc a).alloc b).alloc c).heap[w5.heap.size+1+1]?=some c:=fun a b c=>by refine ⟨?_,?_,?_⟩<;>simp (disch:=try exact DI) only [↓PR,QR,simprocAttr]
 obtain ⟨oX,oY,oZ⟩:=o3 (Obj.cells (rolCells samR (.slice (some ⟨bSx,0,none⟩) 2 2) (.slice (some ⟨bCx,0,none⟩) 1 1) (.slice (some ⟨bTx,0,none⟩) 2 2)).toArray TRol) (Obj.cells (rolCells samR (.slice (some ⟨bSy,0,none⟩) 2 2) (.slice (some ⟨bCy,0,none⟩) 1 1) (.slice (some ⟨bTy,0,none⟩) 2 2)).toArray TRol) (Obj.cells (rolCells samR (.slice (some ⟨bSz,0,none⟩) 2 2) (.slice (some ⟨bCz,0,none⟩) 1 1) (.slice (some ⟨bTz,0,none⟩) 2 2)).toArray TRol)
 have eU:Ext w5 (((w5.alloc (Obj.cells (rolCells samR (.slice (some ⟨bSx,0,none⟩) 2 2) (.slice (some ⟨bCx,0,none⟩) 1 1) (.slice (some ⟨bTx,0,none⟩) 2 2)).toArray TRol)).alloc (Obj.cells (rolCells samR (.slice (some ⟨bSy,0,none⟩) 2 2) (.slice (some ⟨bCy,0,none⟩) 1 1) (.slice (some ⟨bTy,0,none⟩) 2 2)).toArray TRol)).alloc (Obj.cells (rolCells samR (.slice (some ⟨bSz,0,none⟩) 2 2) (.slice (some ⟨bCz,0,none⟩) 1 1) (.slice (some ⟨bTz,0,none⟩) 2 2)).toArray TRol)):=(((Ext.refl w5).alloc _).alloc _).alloc _
 generalize World.alloc (World.alloc (World.alloc w5 _) _) _=U at oX oY oZ eU ⊢
 clear o3
 have hxS:=eU.obj hxS
 have hxC:=eU.obj hxC
 have hxT:=eU.obj hxT
 have hyS:=eU.obj hyS
 have hyC:=eU.obj hyC
 have hyT:=eU.obj hyT
 have hzC:=eU.obj hzC
 have hzT:=eU.obj hzT
 have bl:∀ {b:Nat} {o:Obj},w5.heap[b]?=some o→b < w5.heap.size:=fun h=>(Array.getElem?_eq_some_iff.1 h).1
 have s34:=e4.size
 have hxy:bTx≠bTy:=by omega
 refine drawK_introB bTx bTy (w1:=U) (fun _ _ _ _=>rfl) ?_
 have eD:Ext U (Sw.drew U):=(Ext.refl U).drew
 have hKD:KB U bTx bTy (Sw.drew U):=fun _ _ _ _=>rfl
 generalize Sw.drew U=D at eD hKD ⊢
 have n1:w5.heap.size≠bTx:=by omega
 have n2:w5.heap.size≠bTy:=by omega
 have n3:w5.heap.size+1≠bTx:=by omega
 have n4:w5.heap.size+1≠bTy:=by omega
 have n5:w5.heap.size+1+1≠bTx:=by omega
 have n6:w5.heap.size+1+1≠bTy:=by omega
 have E6:=E5.trans eU
 have s5:=E5.size
 generalize hb:w5.heap.size=B at *
 have dX:=eD.obj oX
 have dY:=eD.obj oY
 have dZ:=eD.obj oZ
 have dxT:=eD.obj hxT
 have dyT:=eD.obj hyT
 have hK1:∀ v,KB U bTx bTy (D.setCell ⟨bTx,7,none⟩ v):=fun v b hb h1 h2=>(Only.setCell D bTx 7 v b h1).trans (hKD b hb h1 h2)
 unfold n8c21
 have i0:∀ (b:Nat) (K:Value→Prop),qV Pg (KB U bTx bTy) (Instr.indexAt 24 (.slice (some ⟨b,0,none⟩) 2 2) (.int .i64 0)) K=K (.pointer (some ⟨b,0,none⟩)):=fun b K=>q_step0 b 2 2 (by decide)
 have q7:D.cell? ⟨bTx,7,none⟩=some (.int .i64 1):=by rw [(cells_of_heap dxT).1];rfl
 have z7:D.frozen? ⟨bTx,7,none⟩=false:=(cells_of_heap dxT).2 _
 simp (disch:=try exact DI) only [↓PR,QR,simprocAttr,(cells_of_heap oX).1,(cells_of_heap oY).1,i0,q7,z7]
 refine ⟨hK1 _,?_⟩
 have f1:(D.setCell ⟨bTx,7,none⟩ (.int .i64 2)).heap[bTx]?=some (.cells ([{ samS1 with high:=2 },samS2].flatMap stpCells).toArray 71 (0,0)):=heap_set (o:=7) dxT (.int .i64 2)
 have f2:∀ b,b≠bTx→(D.setCell ⟨bTx,7,none⟩ (.int .i64 2)).heap[b]?=D.heap[b]?:=fun b hb=>Only.setCell D bTx 7 _ b hb
 have E7:Ext w0 (D.setCell ⟨bTx,7,none⟩ (.int .i64 2)):=(E6.trans eD).setCell (p:=⟨bTx,7,none⟩) (by have:=E2.size;show w0.heap.size≤bTx;omega) _
 generalize World.setCell D _ _=D1 at f1 f2 E7 ⊢
 have gX:=(f2 _ n1).trans dX
 have gY:=(f2 _ n3).trans dY
 have gZ:=(f2 _ n5).trans dZ
 have gyT:=(f2 bTy (Ne.symm hxy)).trans dyT
 unfold n8c20
 have q4:D1.cell? ⟨bTy,4,none⟩=some (.string ⟨#[115]⟩):=by rw [(cells_of_heap gyT).1];rfl
 have z4:D1.frozen? ⟨bTy,4,none⟩=false:=(cells_of_heap gyT).2 _
 simp (disch:=try exact DI) only [↓PR,QR,simprocAttr,i0,q4,z4]
 refine turnK_intro ?_
 have f3:(D1.setCell ⟨bTy,4,none⟩ (.string ⟨#[99]⟩)).heap[bTy]?=some (.cells ([{ samS1 with peer:=⟨#[99]⟩ },samS2].flatMap stpCells).toArray 71 (0,0)):=heap_set (o:=4) gyT (.string ⟨#[99]⟩)
 have f4:∀ b,b≠bTy→(D1.setCell ⟨bTy,4,none⟩ (.string ⟨#[99]⟩)).heap[b]?=D1.heap[b]?:=fun b hb=>Only.setCell D1 bTy 4 _ b hb
 have E8:Ext w0 (D1.setCell ⟨bTy,4,none⟩ (.string ⟨#[99]⟩)):=E7.setCell (p:=⟨bTy,4,none⟩) (by have:=(E2.trans e3).size;show w0.heap.size≤bTy;omega) _
 generalize World.setCell D1 _ _=D2 at f3 f4 E8 ⊢
 have gZ2:=(f4 _ n6).trans gZ
 unfold n8c19
 simp (disch:=try exact DI) only [↓PR,QR,simprocAttr,(cells_of_heap gZ2).1,(cells_of_heap gZ2).2]
 refine turnK_intro ?_
 have f5:=heap_set (o:=1) gZ2 (.slice none 0 0)
 have f6:∀ b,b≠B+1+1→(D2.setCell ⟨B+1+1,1,none⟩ (.slice none 0 0)).heap[b]?=D2.heap[b]?:=fun b hb=>Only.setCell D2 _ 1 _ b hb
 have E9:Ext w0 (D2.setCell ⟨B+1+1,1,none⟩ (.slice none 0 0)):=E8.setCell (p:=⟨B+1+1,1,none⟩) (by show w0.heap.size≤B+1+1;omega) _
 generalize World.setCell D2 _ _=D3 at f5 f6 E9 ⊢
 have kk:∀ b,b≠bTx→b≠bTy→b≠B+1+1→b < U.heap.size→D3.heap[b]?=U.heap[b]?:=fun b h1 h2 h3 h4=>(f6 b h3).trans ((f4 b h2).trans ((f2 b h1).trans (eD.block b h4)))
 have hbl:∀ {b:Nat} {o:Obj},U.heap[b]?=some o→b < U.heap.size:=fun h=>(Array.getElem?_eq_some_iff.1 h).1
 have tn:∀ {b b':Nat} {T T':TypeId} {c c':Array Value},U.heap[b]?=some (.cells c T (0,0))→U.heap[b']?=some (.cells c' T' (0,0))→T≠T'→b≠b':=fun h h' hne e=>by
  subst e
  rw [h] at h'
  simp only [Option.some.injEq,Obj.cells.injEq] at h'
  exact hne h'.2.1
 have jX:D3.heap[B]?=_:=(kk B n1 n2 (by omega) (hbl oX)).trans oX
 have jY:D3.heap[B+1]?=_:=(kk (B+1) n3 n4 (by omega) (hbl oY)).trans oY
 have jxS:D3.heap[bSx]?=_:=(kk bSx (tn hxS hxT (by decide)) (tn hxS hyT (by decide)) (tn hxS oZ (by decide)) (hbl hxS)).trans hxS
 have jxC:D3.heap[bCx]?=_:=(kk bCx (tn hxC hxT (by decide)) (tn hxC hyT (by decide)) (tn hxC oZ (by decide)) (hbl hxC)).trans hxC
 have jyS:D3.heap[bSy]?=_:=(kk bSy (tn hyS hxT (by decide)) (tn hyS hyT (by decide)) (tn hyS oZ (by decide)) (hbl hyS)).trans hyS
 have jyC:D3.heap[bCy]?=_:=(kk bCy (tn hyC hxT (by decide)) (tn hyC hyT (by decide)) (tn hyC oZ (by decide)) (hbl hyC)).trans hyC
 have jzC:D3.heap[bCz]?=_:=(kk bCz (tn hzC hxT (by decide)) (tn hzC hyT (by decide)) (tn hzC oZ (by decide)) (hbl hzC)).trans hzC
 have bz:bTz≠bTx∧bTz≠bTy:=by omega
 have jzT:D3.heap[bTz]?=_:=(kk bTz bz.1 bz.2 (tn hzT oZ (by decide)) (hbl hzT)).trans hzT
 have jxT:D3.heap[bTx]?=_:=((f6 bTx (tn hxT oZ (by decide))).trans (f4 bTx hxy)).trans f1
 have jyT:D3.heap[bTy]?=_:=(f6 bTy (tn hyT oZ (by decide))).trans f3
 have vX:RolVal D3 (.agg #[.string ⟨#[99]⟩,.slice (some ⟨bSx,0,none⟩) 2 2,.slice (some ⟨bCx,0,none⟩) 1 1,.slice (some ⟨bTx,0,none⟩) 2 2]) samX:=RolOwn.val (base:=0) ⟨_,_,_,rfl,own_obj (l:=samT) jxS rfl rfl (fun _=>rfl) (Nat.zero_le _) (by decide),own_obj (l:=samC) jxC rfl rfl (fun _=>rfl) (Nat.zero_le _) (by decide),own_obj (l:=samX.steps) jxT rfl rfl (fun _=>rfl) (Nat.zero_le _) (by decide)⟩
 have vY:RolVal D3 (.agg #[.string ⟨#[99]⟩,.slice (some ⟨bSy,0,none⟩) 2 2,.slice (some ⟨bCy,0,none⟩) 1 1,.slice (some ⟨bTy,0,none⟩) 2 2]) samY:=RolOwn.val (base:=0) ⟨_,_,_,rfl,own_obj (l:=samT) jyS rfl rfl (fun _=>rfl) (Nat.zero_le _) (by decide),own_obj (l:=samC) jyC rfl rfl (fun _=>rfl) (Nat.zero_le _) (by decide),own_obj (l:=samY.steps) jyT rfl rfl (fun _=>rfl) (Nat.zero_le _) (by decide)⟩
 have vZ:RolVal D3 (.agg #[.string ⟨#[99]⟩,.slice none 0 0,.slice (some ⟨bCz,0,none⟩) 1 1,.slice (some ⟨bTz,0,none⟩) 2 2]) samZ:=RolOwn.val (base:=0) ⟨_,_,_,rfl,OwnE.nil _ _ _ _ _,own_obj (l:=samC) jzC rfl rfl (fun _=>rfl) (Nat.zero_le _) (by decide),own_obj (l:=[samS1,samS2]) jzT rfl rfl (fun _=>rfl) (Nat.zero_le _) (by decide)⟩
 simp (disch:=try exact DI) only [↓PR,QR,simprocAttr,(cells_of_heap jX).1]
 refine zcr (Check_ret D3 _ samX vX hsmX (by decide)) fun u1 a1=>?_
 rw [ckX]
 unfold n8c18
 simp (disch:=try exact DI) only [↓PR,QR,simprocAttr,(cells_of_heap (a1.obj jY)).1]
 refine zcr (Check_ret u1 _ samY (vY.ext a1) hsmY (by decide)) fun u2 a2=>?_
 rw [ckY]
 have a12:=a1.trans a2
 unfold n8c17
 simp (disch:=try exact DI) only [↓PR,QR,simprocAttr,(cells_of_heap (a12.obj f5)).1]
 refine zcr (Check_ret u2 _ samZ (vZ.ext a12) hsmR (by decide)) fun u3 a3=>?_
 rw [ckZ]
 have E10:=E9.trans (a12.trans a3)
 unfold n8c16
 simp (disch:=try exact DI) only [↓PR,QR,simprocAttr]
 refine callK_ret (Parse_ret (hE.ext E10) (by decide)) ?_
 rintro _ u4 ⟨⟨v4,rfl,hv4⟩,a4⟩
 rw [kn_parse1] at hv4 ⊢
 obtain ⟨y1,y2,y3,rfl,g1,g2,g3⟩:=hv4.val
 have oo1:=SliceOf.oneCell g1
 have oo2:=SliceOf.oneCell g2
 have oo3:=SliceOf.oneCell g3
 unfold n8c15
 simp (disch:=try exact DI) only [↓PR,QR,simprocAttr]
 generalize hU5:World.alloc u4 _=u5
 have a5:Ext u4 u5:=by rw [← hU5];exact (Ext.refl u4).alloc _
 clear hU5
 have E11:=E10.trans (a4.trans a5)
 refine callK_ret (Parse_ret (hE.ext E11) (by decide)) ?_
 rintro _ u6 ⟨⟨v6,rfl,hv6⟩,a6⟩
 rw [kn_parse2] at hv6 ⊢
 obtain ⟨z1,z2,z3,rfl,g4,g5,g6⟩:=hv6.val
 have oo4:=SliceOf.oneCell g4
 have oo5:=SliceOf.oneCell g5
 have oo6:=SliceOf.oneCell g6
 have wr0:(IntKind.i64.wrap (IntKind.i64.wrap 0+0) != 0)=false:=by decide
 unfold n8c14
 simp (disch:=try exact DI) only [↓PR,QR,simprocAttr,wr0,↓n8c13,↓n8c12,↓n8c11,↓n8c10,↓n8c9,↓n8c8,↓n8c7]
 generalize hU7:World.alloc u6 _=u7
 have a7:Ext u6 u7:=by rw [← hU7];exact (Ext.refl u6).alloc _
 clear hU7
 have E12:=E11.trans (a6.trans a7)
 refine callK_ret (sample_ret u7) ?_
 rintro vt u8 ⟨a8,cS,cC,cT,ht⟩
 refine callK_ret (Turn_ret u8 vt samR ⟨#[115]⟩ ht.val hsmR (by decide)) ?_
 rintro _ u9 ⟨⟨xt,rfl,hxt⟩,a9⟩
 rw [kn_turn] at hxt ⊢
 obtain ⟨sv,cv,tv,rfl,g7,g8,g9⟩:=hxt
 have oo7:=own_one g7 (fun _=>rfl)
 have oo8:=own_one g8 (fun _=>rfl)
 have oo9:=own_one g9 (fun _=>rfl)
 unfold n8c6
 simp (disch:=try exact DI) only [↓PR,QR,simprocAttr]
 have oA:=heap_new u9 (rolCells samTurned sv cv tv).toArray TRol
 have a10:Ext u9 (u9.alloc (.cells (rolCells samTurned sv cv tv).toArray TRol)):=(Ext.refl u9).alloc _
 generalize u9.alloc (.cells (rolCells samTurned sv cv tv).toArray TRol)=u10 at oA a10 ⊢
 refine callK_ret (num_ret u10 _) ?_
 rintro _ u10' ⟨rfl,rfl⟩
 have E13:=E12.trans (a8.trans (a9.trans a10))
 have hT:=(g9.ext a10).slice (E:=EStp) (fun _=>rfl) (fun _ _=>rfl)
 obtain ⟨TA,tc,rfl,_,_,_,hel⟩:=SliceOf.open hT
 obtain ⟨bt,ot,cs0,rfl,_,hA0,rfl⟩:=hel 0 _ rfl
 obtain ⟨bt',ot',cs1,hA',_,hA1,rfl⟩:=hel 1 _ rfl
 injection hA' with hA'
 injection hA' with e1' e2'
 subst e1' e2'
 have l2:((samTurned.steps.length:Int) == 2)=true:=by decide
 have j0:∀ (QP:List PanicEntry→World→Prop) (w:World) (K:Value→World→Prop),opV Pg (Instr.indexAt 24 (.slice (some ⟨bt,ot,none⟩) samTurned.steps.length tc) (.int .i64 0)) QP w K=K (.pointer (some ⟨bt,ot+0*9,none⟩)) w:=fun QP w K=>op_indexN Tryz.underlying24 ty71 bt ot samTurned.steps.length tc .i64 0 (by decide)
 have j1:∀ (QP:List PanicEntry→World→Prop) (w:World) (K:Value→World→Prop),opV Pg (Instr.indexAt 24 (.slice (some ⟨bt,ot,none⟩) samTurned.steps.length tc) (.int .i64 1)) QP w K=K (.pointer (some ⟨bt,ot+1*9,none⟩)) w:=fun QP w K=>op_indexN Tryz.underlying24 ty71 bt ot samTurned.steps.length tc .i64 1 (by decide)
 generalize ot+0*9=ot0 at hA0 j0
 generalize ot+1*9=ot1 at hA1 j1
 unfold n8c5
 simp (disch:=try exact DI) only [↓PR,QR,simprocAttr,↓n8c4,(cells_of_heap oA).1,l2,↓n8c3,j0,hA0.c9 (Ext.refl _)]
 unfold n8c2
 simp (disch:=try exact DI) only [↓PR,QR,simprocAttr,↓n8c1,(cells_of_heap oA).1,j1,hA1.c9 (Ext.refl _)]
 exact ⟨by first | trivial | rfl | decide,E13⟩
abbrev LawR (w0:World):Ending→World→Prop:=retR fun r w'=>r = .bool true∧Ext w0 w'
end Go.Proofs.YtngflmjncplkaaaGreatDoor
namespace Go.Proofs.YtngflmjncplkaaaGreatDoor
open Sw
open Go.ChangeShapes Go.WideShapes Go.RowKit Go.ChangeAt Go.Deep
def I64 (n:Int):Prop := -9223372036854775808≤n∧n≤9223372036854775807
theorem I64.of {n:Int} (h:(Lit.int .i64 n).wf=true):I64 n:=by
 simp only [Lit.wf,Bool.and_eq_true,decide_eq_true_eq] at h
 exact ⟨h.1,h.2⟩
def CntIn (x:CntD):Prop:=I64 x.limit
def StaIn (x:StaD):Prop:=I64 x.wait
def StpIn (x:StpD):Prop:=I64 x.low∧I64 x.high∧I64 x.add
def RolIn (r:RolD):Prop:=(∀ c∈r.counters,CntIn c)∧(∀ c∈r.states,StaIn c)∧∀ c∈r.steps,StpIn c
def SesIn (s:SesD):Prop:=(∀ r∈s.roles,RolIn r)∧I64 s.capacity
theorem ocellsString:Pg.cellsOf 9=1:=by kernel_rfl
theorem ocellsInt:Pg.cellsOf 3=1:=by kernel_rfl
theorem ocellsBool:Pg.cellsOf 4=1:=by kernel_rfl
theorem ocellsKind:Pg.cellsOf 69=1:=by kernel_rfl
theorem ocellsClass:Pg.cellsOf 55=1:=by kernel_rfl
theorem ocellsCnt:Pg.cellsOf 52=2:=by kernel_rfl
theorem ocellsSta:Pg.cellsOf 50=3:=by kernel_rfl
theorem ocellsStp:Pg.cellsOf 71=9:=by kernel_rfl
theorem ocellsRol:Pg.cellsOf 26=4:=by kernel_rfl
theorem ocellsSes:Pg.cellsOf 57=4:=by kernel_rfl
theorem ocellsCnts:Pg.cellsOf 23=1:=by kernel_rfl
theorem ocellsStas:Pg.cellsOf 22=1:=by kernel_rfl
theorem ocellsStps:Pg.cellsOf 24=1:=by kernel_rfl
theorem ocellsRols:Pg.cellsOf 54=1:=by kernel_rfl
theorem obytesCnt:1≤Pg.bytesOf 52:=Nat.le_of_ble_eq_true (by kernel_rfl)
theorem obytesSta:1≤Pg.bytesOf 50:=Nat.le_of_ble_eq_true (by kernel_rfl)
theorem obytesStp:1≤Pg.bytesOf 71:=Nat.le_of_ble_eq_true (by kernel_rfl)
theorem obytesRol:1≤Pg.bytesOf 26:=Nat.le_of_ble_eq_true (by kernel_rfl)
section
variable {H:Type} {enc:TypeId×Value→H} {w:World} {base:Nat} {spare:Nat→Bool} {held:Bool}
theorem cnt_of {m:Nat} {cs:List Value} {y:DataW H×List MemPlace} (h:DataW.trod enc Pg w base spare held m 52 cs=some y) (hr:Reached Pg 52 y.1):∃ x,ECnt w cs x∧CntIn x:=by
 obtain ⟨hl,n,hf⟩:=struct_of_trod Tryz.underlying52 ocellsCnt h hr
 obtain ⟨y0,h0,r0⟩:=hf 0 9 0 1 rfl ocellsString
 obtain ⟨y1,h1,r1⟩:=hf 1 3 1 1 rfl ocellsInt
 match cs,hl with
 | [c0,c1],_ =>
  obtain ⟨x0,e0,_⟩:=DataW.trod_string Tryz.underlying9 h0
  obtain ⟨x1,e1,_,w1⟩:=DataW.trod_int Tryz.underlying3 h1
  simp at e0 e1
  subst e0 e1
  exact ⟨⟨x0,x1⟩,rfl,I64.of w1⟩
theorem sta_of {m:Nat} {cs:List Value} {y:DataW H×List MemPlace} (h:DataW.trod enc Pg w base spare held m 50 cs=some y) (hr:Reached Pg 50 y.1):∃ x,ESta w cs x∧StaIn x:=by
 obtain ⟨hl,n,hf⟩:=struct_of_trod Tryz.underlying50 ocellsSta h hr
 obtain ⟨y0,h0,r0⟩:=hf 0 9 0 1 rfl ocellsString
 obtain ⟨y1,h1,r1⟩:=hf 1 4 1 1 rfl ocellsBool
 obtain ⟨y2,h2,r2⟩:=hf 2 3 2 1 rfl ocellsInt
 match cs,hl with
 | [c0,c1,c2],_ =>
  obtain ⟨x0,e0,_⟩:=DataW.trod_string Tryz.underlying9 h0
  obtain ⟨x1,e1,_⟩:=DataW.trod_bool Tryz.underlying4 h1
  obtain ⟨x2,e2,_,w2⟩:=DataW.trod_int Tryz.underlying3 h2
  simp at e0 e1 e2
  subst e0 e1 e2
  exact ⟨⟨x0,x1,x2⟩,rfl,I64.of w2⟩
theorem stp_of {m:Nat} {cs:List Value} {y:DataW H×List MemPlace} (h:DataW.trod enc Pg w base spare held m 71 cs=some y) (hr:Reached Pg 71 y.1):∃ x,EStp w cs x∧StpIn x:=by
 obtain ⟨hl,n,hf⟩:=struct_of_trod Tryz.underlying71 ocellsStp h hr
 obtain ⟨y0,h0,r0⟩:=hf 0 9 0 1 rfl ocellsString
 obtain ⟨y1,h1,r1⟩:=hf 1 9 1 1 rfl ocellsString
 obtain ⟨y2,h2,r2⟩:=hf 2 69 2 1 rfl ocellsKind
 obtain ⟨y3,h3,r3⟩:=hf 3 9 3 1 rfl ocellsString
 obtain ⟨y4,h4,r4⟩:=hf 4 9 4 1 rfl ocellsString
 obtain ⟨y5,h5,r5⟩:=hf 5 9 5 1 rfl ocellsString
 obtain ⟨y6,h6,r6⟩:=hf 6 3 6 1 rfl ocellsInt
 obtain ⟨y7,h7,r7⟩:=hf 7 3 7 1 rfl ocellsInt
 obtain ⟨y8,h8,r8⟩:=hf 8 3 8 1 rfl ocellsInt
 match cs,hl with
 | [c0,c1,c2,c3,c4,c5,c6,c7,c8],_ =>
  obtain ⟨x0,e0,_⟩:=DataW.trod_string Tryz.underlying9 h0
  obtain ⟨x1,e1,_⟩:=DataW.trod_string Tryz.underlying9 h1
  obtain ⟨x2,e2,_,w2⟩:=DataW.trod_int Tryz.underlying69 h2
  obtain ⟨x3,e3,_⟩:=DataW.trod_string Tryz.underlying9 h3
  obtain ⟨x4,e4,_⟩:=DataW.trod_string Tryz.underlying9 h4
  obtain ⟨x5,e5,_⟩:=DataW.trod_string Tryz.underlying9 h5
  obtain ⟨x6,e6,_,w6⟩:=DataW.trod_int Tryz.underlying3 h6
  obtain ⟨x7,e7,_,w7⟩:=DataW.trod_int Tryz.underlying3 h7
  obtain ⟨x8,e8,_,w8⟩:=DataW.trod_int Tryz.underlying3 h8
  simp at e0 e1 e2 e3 e4 e5 e6 e7 e8
  subst e0 e1 e2 e3 e4 e5 e6 e7 e8
  exact ⟨⟨x0,x1,x2,x3,x4,x5,x6,x7,x8⟩,rfl,I64.of w6,I64.of w7,I64.of w8⟩
theorem rol_of {m:Nat} {cs:List Value} {y:DataW H×List MemPlace} (h:DataW.trod enc Pg w base spare held m 26 cs=some y) (hr:Reached Pg 26 y.1):∃ x,ERol w cs x∧RolIn x:=by
 obtain ⟨hl,n,hf⟩:=struct_of_trod Tryz.underlying26 ocellsRol h hr
 obtain ⟨y0,h0,r0⟩:=hf 0 9 0 1 rfl ocellsString
 obtain ⟨y1,h1,r1⟩:=hf 1 22 1 1 rfl ocellsStas
 obtain ⟨y2,h2,r2⟩:=hf 2 23 2 1 rfl ocellsCnts
 obtain ⟨y3,h3,r3⟩:=hf 3 24 3 1 rfl ocellsStps
 match cs,hl with
 | [c0,c1,c2,c3],_ =>
  obtain ⟨x0,e0,_⟩:=DataW.trod_string Tryz.underlying9 h0
  obtain ⟨v1,x1,e1,hS1,hQ1,_⟩:=slice_of_trod (E:=ESta) (Q:=StaIn) Tryz.underlying22 ocellsSta obytesSta (by decide) (fun _ _ _ h hr=>sta_of h hr) h1 r1
  obtain ⟨v2,x2,e2,hS2,hQ2,_⟩:=slice_of_trod (E:=ECnt) (Q:=CntIn) Tryz.underlying23 ocellsCnt obytesCnt (by decide) (fun _ _ _ h hr=>cnt_of h hr) h2 r2
  obtain ⟨v3,x3,e3,hS3,hQ3,_⟩:=slice_of_trod (E:=EStp) (Q:=StpIn) Tryz.underlying24 ocellsStp obytesStp (by decide) (fun _ _ _ h hr=>stp_of h hr) h3 r3
  simp at e0 e1 e2 e3
  subst e0 e1 e2 e3
  exact ⟨⟨x0,x1,x2,x3⟩,⟨_,_,_,rfl,hS1,hS2,hS3⟩,hQ2,hQ1,hQ3⟩
theorem ses_of {m:Nat} {cs:List Value} {y:DataW H×List MemPlace} (h:DataW.trod enc Pg w base spare held m 57 cs=some y) (hr:Reached Pg 57 y.1):∃ x rv,cs=sesCells x rv∧RolsOf w rv x.roles∧SesIn x:=by
 obtain ⟨hl,n,hf⟩:=struct_of_trod Tryz.underlying57 ocellsSes h hr
 obtain ⟨y0,h0,r0⟩:=hf 0 9 0 1 rfl ocellsString
 obtain ⟨y1,h1,r1⟩:=hf 1 54 1 1 rfl ocellsRols
 obtain ⟨y2,h2,r2⟩:=hf 2 55 2 1 rfl ocellsClass
 obtain ⟨y3,h3,r3⟩:=hf 3 3 3 1 rfl ocellsInt
 match cs,hl with
 | [c0,c1,c2,c3],_ =>
  obtain ⟨x0,e0,_⟩:=DataW.trod_string Tryz.underlying9 h0
  obtain ⟨v1,x1,e1,hS1,hQ1,_⟩:=slice_of_trod (E:=ERol) (Q:=RolIn) Tryz.underlying54 ocellsRol obytesRol (by decide) (fun _ _ _ h hr=>rol_of h hr) h1 r1
  obtain ⟨x2,e2,_,w2⟩:=DataW.trod_int Tryz.underlying55 h2
  obtain ⟨x3,e3,_,w3⟩:=DataW.trod_int Tryz.underlying3 h3
  simp at e0 e1 e2 e3
  subst e0 e1 e2 e3
  exact ⟨⟨x0,x1,x2,x3⟩,_,rfl,hS1,hQ1,I64.of w3⟩
theorem rol_val {r:Reach} {b0:Nat} {v:Value} {d:DataW H} {ps:List MemPlace} (hval:Value.okWide Pg w r b0 26 v) (h:DataW.Trod enc Pg w base spare held 26 v d ps) (hr:Reached Pg 26 d):∃ f,RolVal w v f∧RolIn f:=by
 obtain ⟨cs,rfl,_⟩:=okWide_struct Tryz.underlying26 hval
 obtain ⟨fuel,hf⟩:=h
 obtain ⟨f,⟨sv,cv,tv,h1,h2,h3,h4⟩,hs⟩:=rol_of hf hr
 exact ⟨f,⟨sv,cv,tv,congrArg Value.agg (by rw [← h1,cells_agg]),h2,h3,h4⟩,hs⟩
theorem ses_val {r:Reach} {b0:Nat} {v:Value} {d:DataW H} {ps:List MemPlace} (hval:Value.okWide Pg w r b0 57 v) (h:DataW.Trod enc Pg w base spare held 57 v d ps) (hr:Reached Pg 57 d):∃ f,SesVal w v f∧SesIn f:=by
 obtain ⟨cs,rfl,_⟩:=okWide_struct Tryz.underlying57 hval
 obtain ⟨fuel,hf⟩:=h
 obtain ⟨f,rv,h1,h2,hs⟩:=ses_of hf hr
 exact ⟨f,⟨rv,congrArg Value.agg (by rw [← h1,cells_agg]),h2⟩,hs⟩
end
end Go.Proofs.YtngflmjncplkaaaGreatDoor
namespace Go.Proofs.YtngflmjncplkaaaGreatDoor
open Sw
open Go.RowKit (intOf Below)
def StpFew (x:StpD):Prop:=x.fr.size≤60∧x.to.size≤60∧x.message.size≤60∧x.peer.size≤60∧x.counter.size≤60
structure Few (r:RolD):Prop where
 nc:r.counters.length≤6
 ns:r.states.length≤30
 nt:r.steps.length≤90
 nm:r.name.size≤60
 cs:∀ c∈r.counters,c.name.size≤60
 ss:∀ c∈r.states,c.name.size≤60
 ts:∀ x∈r.steps,StpFew x
theorem all_below {α:Type} {l:List α} {P:α→Prop} (h:∀ (j:Nat) y,j < l.length→l[j]?=some y→P y):∀ x∈l,P x:=fun x hx=>by
 obtain ⟨j,hj,e⟩:=List.getElem_of_mem hx
 exact h j x hj (by rw [List.getElem?_eq_getElem hj,e])
theorem below_succ {α:Type} {l:List α} {P:α→Prop} {k:Nat} {x:α} (hb:∀ (j:Nat) y,j < k→l[j]?=some y→P y) (hx:l[k]?=some x) (hp:P x):∀ (j:Nat) y,j < k+1→l[j]?=some y→P y:=fun j y hj hy=>by
 rcases Nat.lt_or_ge j k with h | h
 · exact hb j y h hy
 · obtain rfl:j=k:=by omega
   rw [hx] at hy
   injection hy with hy
   exact hy ▸ hp
abbrev LrgR (w0:World) (r:RolD):Ending→World→Prop:=retR fun u w'=>Ext w0 w'∧∃ b,u = .bool b∧(b=false→Few r)
theorem large_ret (w0:World) (v:Value) (r:RolD) (hr:RolVal w0 v r):Ret Pg 10 #[v] w0 fun u w'=>Ext w0 w'∧∃ b,u = .bool b∧(b=false→Few r):=by
 obtain ⟨sv,cv,tv,rfl,hS,hC,hT,o1,o2,o3⟩:=hr.op
 obtain ⟨A1,c1,rfl,_,_,_,hel1⟩:=SliceOf.open hS
 obtain ⟨A2,c2,rfl,_,_,_,hel2⟩:=SliceOf.open hC
 obtain ⟨A3,c3,rfl,_,_,_,hel3⟩:=SliceOf.open hT
 refine n9s (R:=retR _) ?_;unfold n9
 rw [op_boxA]
 have hp:=heap_new w0 (rolCells r (.slice A1 r.states.length c1) (.slice A2 r.counters.length c2) (.slice A3 r.steps.length c3)).toArray 26
 have eW:Ext w0 (w0.alloc (.cells (rolCells r (.slice A1 r.states.length c1) (.slice A2 r.counters.length c2) (.slice A3 r.steps.length c3)).toArray 26)):=ee
 generalize (w0.alloc (.cells (rolCells r (.slice A1 r.states.length c1) (.slice A2 r.counters.length c2) (.slice A3 r.steps.length c3)).toArray 26))=W at hp eW ⊢
 generalize w0.heap.size=p at hp ⊢
 have yes:∀ w,Ext W w→Ext w0 w∧∃ b,Value.bool true = .bool b∧(b=false→Few r):=fun w e=>⟨eW.trans e,true,rfl,fun h=>by cases h⟩
 by_cases h1:6 < r.counters.length
 · have d1:decide ((r.counters.length:Int) > 6)=true:=decide_eq_true (by omega)
   simp (disch:=try exact DI) only [↓PR,QR,simprocAttr,(cells_of_heap hp).1,d1,↓n9c11,↓n9c10]
   exact yes _ (Ext.refl _)
 have d1:decide ((r.counters.length:Int) > 6)=false:=decide_eq_false (by omega)
 by_cases h2:30 < r.states.length
 · have d2:decide ((r.states.length:Int) > 30)=true:=decide_eq_true (by omega)
   simp (disch:=try exact DI) only [↓PR,QR,simprocAttr,(cells_of_heap hp).1,d1,d2,↓n9c11,↓n9c10]
   exact yes _ (Ext.refl _)
 have d2:decide ((r.states.length:Int) > 30)=false:=decide_eq_false (by omega)
 by_cases h3:90 < r.steps.length
 · have d3:decide ((r.steps.length:Int) > 90)=true:=decide_eq_true (by omega)
   simp (disch:=try exact DI) only [↓PR,QR,simprocAttr,(cells_of_heap hp).1,d1,d2,d3,↓n9c11,↓n9c10]
   exact yes _ (Ext.refl _)
 have d3:decide ((r.steps.length:Int) > 90)=false:=decide_eq_false (by omega)
 by_cases h4:60 < r.name.size
 · have d4:decide ((r.name.size:Int) > 60)=true:=decide_eq_true (by omega)
   simp (disch:=try exact DI) only [↓PR,QR,simprocAttr,(cells_of_heap hp).1,d1,d2,d3,d4,↓n9c11,↓n9c10]
   exact yes _ (Ext.refl _)
 have d4:decide ((r.name.size:Int) > 60)=false:=decide_eq_false (by omega)
 have steps:∀ w,Ext W w→(∀ c∈r.counters,c.name.size≤60)→(∀ c∈r.states,c.name.size≤60)→loop1 (fun t5 w next6=>n9c5 (.pointer (some ⟨p,0,none⟩)) t5 next6 (LrgR w0 r) w) (.int .i64 0) w:=by
  intro w e hcs hss
  refine loop1_intro (fun a w=>∃ k:Nat,a = .int .i64 k∧k≤r.steps.length∧Ext W w∧∀ (j:Nat) y,j < k→r.steps[j]?=some y→StpFew y) (fun a _=>r.steps.length - (intOf a).toNat) ⟨0,rfl,by omega,e,fun j y h=>by omega⟩ ?_
  rintro _ w ⟨k,rfl,hk,e,hb⟩
  unfold n9c5
  by_cases hlt:k < r.steps.length
  · obtain ⟨x,hx⟩:=getElem?_lt hlt
    obtain ⟨b,o,cs,rfl,_,hA,rfl⟩:=hel3 k x hx
    have dk:(k:Int) < (r.steps.length:Int):=by omega
    have d1:decide ((k:Int) < (r.steps.length:Int))=true:=decide_eq_true dk
    have hw:IntKind.i64.wrap ((k:Int)+1)=((k+1:Nat):Int):=by rw [wrap_ok (by omega) (by omega)];omega
    simp (disch:=try exact DI) only [↓PR,QR,simprocAttr,(cells_of_heap (e.obj hp)).1,d1,↓n9c4,hA.c9 (eW.trans e)]
    generalize hV:World.alloc w _=V
    have eV:Ext w V:=by rw [← hV];exact (Ext.refl w).alloc _
    have oV:V.heap[w.heap.size]?=some (.cells (stpCells x).toArray 71 (0,0)):=by rw [← hV];exact heap_new _ _ _
    clear hV
    have more:StpFew x→(∃ k':Nat,Value.int .i64 ((k+1:Nat):Int) = .int .i64 k'∧k'≤r.steps.length∧Ext W V∧∀ (j:Nat) y,j < k'→r.steps[j]?=some y→StpFew y):=fun h=>⟨k+1,rfl,by omega,e.trans eV,below_succ hb hx h⟩
    have g:∀ n:Nat,n≤60→decide ((n:Int) > 60)=false:=fun n hn=>decide_eq_false (by omega)
    have g':∀ n:Nat,¬ n≤60→decide ((n:Int) > 60)=true:=fun n hn=>decide_eq_true (by omega)
    by_cases f1:x.fr.size≤60
    case neg =>
     simp (disch:=try exact DI) only [↓PR,QR,simprocAttr,(cells_of_heap oV).1,g' _ f1,↓n9c3,↓n9c2,↓n9c1]
     exact yes _ (e.trans eV)
    by_cases f2:x.to.size≤60
    case neg =>
     simp (disch:=try exact DI) only [↓PR,QR,simprocAttr,(cells_of_heap oV).1,g _ f1,g' _ f2,↓n9c3,↓n9c2,↓n9c1]
     exact yes _ (e.trans eV)
    by_cases f3:x.message.size≤60
    case neg =>
     simp (disch:=try exact DI) only [↓PR,QR,simprocAttr,(cells_of_heap oV).1,g _ f1,g _ f2,g' _ f3,↓n9c3,↓n9c2,↓n9c1]
     exact yes _ (e.trans eV)
    by_cases f4:x.peer.size≤60
    case neg =>
     simp (disch:=try exact DI) only [↓PR,QR,simprocAttr,(cells_of_heap oV).1,g _ f1,g _ f2,g _ f3,g' _ f4,↓n9c3,↓n9c2,↓n9c1]
     exact yes _ (e.trans eV)
    by_cases f5:x.counter.size≤60
    case neg =>
     simp (disch:=try exact DI) only [↓PR,QR,simprocAttr,(cells_of_heap oV).1,g _ f1,g _ f2,g _ f3,g _ f4,g' _ f5,↓n9c3,↓n9c2,↓n9c1]
     exact yes _ (e.trans eV)
    simp (disch:=try exact DI) only [↓PR,QR,simprocAttr,(cells_of_heap oV).1,g _ f1,g _ f2,g _ f3,g _ f4,g _ f5,hw,↓n9c3,↓n9c2,↓n9c1]
    exact ⟨more ⟨f1,f2,f3,f4,f5⟩,meas_lt (kd := .i64) hlt⟩
  · obtain rfl:k=r.steps.length:=by omega
    have d1:decide ((r.steps.length:Int) < (r.steps.length:Int))=false:=decide_eq_false (by omega)
    simp (disch:=try exact DI) only [↓PR,QR,simprocAttr,(cells_of_heap (e.obj hp)).1,d1]
    exact ⟨eW.trans e,false,rfl,fun _=>⟨by omega,by omega,by omega,by omega,hcs,hss,all_below hb⟩⟩
 have states:∀ w,Ext W w→(∀ c∈r.counters,c.name.size≤60)→loop1 (fun t4 w next5=>n9c7 (.pointer (some ⟨p,0,none⟩)) t4 next5 (LrgR w0 r) w) (.int .i64 0) w:=by
  intro w e hcs
  refine loop1_intro (fun a w=>∃ k:Nat,a = .int .i64 k∧k≤r.states.length∧Ext W w∧∀ (j:Nat) y,j < k→r.states[j]?=some y→y.name.size≤60) (fun a _=>r.states.length - (intOf a).toNat) ⟨0,rfl,by omega,e,fun j y h=>by omega⟩ ?_
  rintro _ w ⟨k,rfl,hk,e,hb⟩
  unfold n9c7
  by_cases hlt:k < r.states.length
  · obtain ⟨x,hx⟩:=getElem?_lt hlt
    obtain ⟨b,o,cs,rfl,_,hA,rfl⟩:=hel1 k x hx
    have dk:(k:Int) < (r.states.length:Int):=by omega
    have d1:decide ((k:Int) < (r.states.length:Int))=true:=decide_eq_true dk
    have hw:IntKind.i64.wrap ((k:Int)+1)=((k+1:Nat):Int):=by rw [wrap_ok (by omega) (by omega)];omega
    by_cases f1:x.name.size≤60
    case neg =>
     have q1:decide ((x.name.size:Int) > 60)=true:=decide_eq_true (by omega)
     simp (disch:=try exact DI) only [↓PR,QR,simprocAttr,(cells_of_heap (e.obj hp)).1,d1,↓n9c6,hA.c3 (eW.trans e),q1]
     exact yes _ e
    have q1:decide ((x.name.size:Int) > 60)=false:=decide_eq_false (by omega)
    simp (disch:=try exact DI) only [↓PR,QR,simprocAttr,(cells_of_heap (e.obj hp)).1,d1,↓n9c6,hA.c3 (eW.trans e),q1,hw]
    exact ⟨⟨k+1,rfl,by omega,e,below_succ hb hx f1⟩,meas_lt (kd := .i64) hlt⟩
  · obtain rfl:k=r.states.length:=by omega
    have d1:decide ((r.states.length:Int) < (r.states.length:Int))=false:=decide_eq_false (by omega)
    simp (disch:=try exact DI) only [↓PR,QR,simprocAttr,(cells_of_heap (e.obj hp)).1,d1]
    exact steps _ e hcs (all_below hb)
 simp (disch:=try exact DI) only [↓PR,QR,simprocAttr,(cells_of_heap hp).1,d1,d2,d3,d4,↓n9c11,↓n9c10]
 refine loop1_intro (fun a w=>∃ k:Nat,a = .int .i64 k∧k≤r.counters.length∧Ext W w∧∀ (j:Nat) y,j < k→r.counters[j]?=some y→y.name.size≤60) (fun a _=>r.counters.length - (intOf a).toNat) ⟨0,rfl,by omega,Ext.refl _,fun j y h=>by omega⟩ ?_
 rintro _ w ⟨k,rfl,hk,e,hb⟩
 unfold n9c9
 by_cases hlt:k < r.counters.length
 · obtain ⟨x,hx⟩:=getElem?_lt hlt
   obtain ⟨b,o,cs,rfl,_,hA,rfl⟩:=hel2 k x hx
   have dk:(k:Int) < (r.counters.length:Int):=by omega
   have d1:decide ((k:Int) < (r.counters.length:Int))=true:=decide_eq_true dk
   have hw:IntKind.i64.wrap ((k:Int)+1)=((k+1:Nat):Int):=by rw [wrap_ok (by omega) (by omega)];omega
   by_cases f1:x.name.size≤60
   case neg =>
    have q1:decide ((x.name.size:Int) > 60)=true:=decide_eq_true (by omega)
    simp (disch:=try exact DI) only [↓PR,QR,simprocAttr,(cells_of_heap (e.obj hp)).1,d1,↓n9c8,hA.c2 (eW.trans e),q1]
    exact yes _ e
   have q1:decide ((x.name.size:Int) > 60)=false:=decide_eq_false (by omega)
   simp (disch:=try exact DI) only [↓PR,QR,simprocAttr,(cells_of_heap (e.obj hp)).1,d1,↓n9c8,hA.c2 (eW.trans e),q1,hw]
   exact ⟨⟨k+1,rfl,by omega,e,below_succ hb hx f1⟩,meas_lt (kd := .i64) hlt⟩
 · obtain rfl:k=r.counters.length:=by omega
   have d1:decide ((r.counters.length:Int) < (r.counters.length:Int))=false:=decide_eq_false (by omega)
   simp (disch:=try exact DI) only [↓PR,QR,simprocAttr,(cells_of_heap (e.obj hp)).1,d1]
   exact states _ e (all_below hb)
theorem Few.sm {r:RolD} (h:Few r):∀ x∈r.steps,StpSm x:=fun x hx=>by
 obtain ⟨h1,h2,h3,h4,h5⟩:=h.ts x hx
 exact ⟨by omega,by omega,by omega,by omega,by omega⟩
theorem Few.ok {r:RolD} (h:Few r) (hi:RolIn r):RolOk r :=
 ⟨by have:=h.nm;omega,fun c hc=>⟨by have:=h.cs c hc;omega,hi.1 c hc⟩,fun c hc=>⟨by have:=h.ss c hc;omega,hi.2.1 c hc⟩,fun x hx=>⟨h.sm x hx,(hi.2.2 x hx).1,(hi.2.2 x hx).2.1,(hi.2.2 x hx).2.2⟩,by have:=h.nc;omega,by have:=h.ns;omega,by have:=h.nt;omega⟩
theorem printR_eq {r:RolD} (h:(checkR r).2=0):printR r=textP r:=by
 unfold printR
 rw [if_pos h,textP_eq]
def n10c1 (t1:Value) (R:RT) (w:World):Prop :=
 opV Pg (Instr.fieldAt 57 t1 1) (panK R) w fun t21 w =>
 opV Pg (Instr.loadAt 54 t21) (panK R) w fun t22 w =>
 opV Pg (Builtin.len_ #[54] 3 #[t22]) (panK R) w fun t23 w =>
 opV Pg (binS .gtr 3 true t23 (.int .i64 6)) (panK R) w fun t24 w =>
 joinK (fun (t29:Value) (w:World) =>
 pickK t24 (.bool true) t29 fun t30 =>
 R (.returned t30) w) fun K3 =>
 guardP t24 false (
 opV Pg (Instr.fieldAt 57 t1 0) (panK R) w fun t26 w =>
 opV Pg (Instr.loadAt 9 t26) (panK R) w fun t27 w =>
 opV Pg (Builtin.len_ #[9] 3 #[t27]) (panK R) w fun t28 w =>
 opV Pg (binS .gtr 3 true t28 (.int .i64 60)) (panK R) w fun t29 w =>
 K3 t29 w) (
 K3 undef w)
def n10c2 (t1 t3:Value) (next1:KV) (R:RT) (w:World):Prop :=
 opV Pg (Instr.fieldAt 57 t1 1) (panK R) w fun t15 w =>
 opV Pg (Instr.loadAt 54 t15) (panK R) w fun t16 w =>
 opV Pg (Instr.indexAt 54 t16 t3) (panK R) w fun t18 w =>
 opV Pg (Instr.loadAt 26 t18) (panK R) w fun t19 w =>
 callK Pg 10 #[t19] (panK R) w fun t20 w =>
 condP t20 (
 R (.returned (.bool true)) w) (
 opV Pg (binS .add 3 true t3 (.int .i64 1)) (panK R) w fun t14 w =>
 next1 t14 w)
def n10c3 (t1 t3:Value) (next1:KV) (R:RT) (w:World):Prop :=
 opV Pg (Instr.fieldAt 57 t1 1) (panK R) w fun t5 w =>
 opV Pg (Instr.loadAt 54 t5) (panK R) w fun t6 w =>
 opV Pg (Builtin.len_ #[54] 3 #[t6]) (panK R) w fun t7 w =>
 opV Pg (binS .lss 3 false t3 t7) (panK R) w fun t8 w =>
 joinK (fun (t11:Value) (w:World) =>
 pickK t8 t11 (.bool false) fun t12 =>
 condP t12 (
 n10c2 t1 t3 next1 R w) (
 n10c1 t1 R w)) fun K2 =>
 guardP t8 true (
 opV Pg (binS .lss 3 true t3 (.int .i64 7)) (panK R) w fun t11 w =>
 K2 t11 w) (
 K2 undef w)
def n10 (t0:Value) (R:RT) (w:World):Prop :=
 opV Pg (Instr.box 57 t0) (panK R) w fun t1 w =>
 loop1 (fun t3 w next1 =>
 n10c3 t1 t3 next1 R w) (.int .i64 0) w
theorem n10s {t0:Value} {R:RT} {w:World} (h:n10 t0 R w):Calls Pg 25 #[t0] w R:=by
 refine yD Tryz.func25 ?_
 refine zs<|zr<|yv h fun _ w h=>zm<|zn<|zk<|zs<|zs<|zr<|zm<|zn<|zk<|sim_block<|yl1 [2,3,4,5,6,7,8,9,10,11,12,13,14,15,16,17,18,19,20] 3 h fun σ w next h=>zs ?_
 refine zs<|sim_regionG<|yG 6<|zm<|yv h fun _ w h=>yv h fun _ w h=>yx h fun _ w h=>yb h fun _ w h=>zm<|zn<|yg1 2 5 true [10,11] 11 h (fun _ T hT h=>?_) fun σ w h=>?_
 · refine zm<|yb h fun _ w h=>zn ?_
   exact zt hT h
 refine yG 1<|yp h fun _ h=>zn<|sim_end<|zk<|yC h (fun h=>?_) fun h=>?_
 · refine sim_skip<|zk<|zs<|sim_block<|zs<|zr<|yv h fun _ w h=>yv h fun _ w h=>zm<|yv h fun _ w h=>yv h fun _ w h=>yc h c10 fun _ w h=>zn<|zk<|yC h (fun h=>zs<|zr<|zm<|zn<|zk<|sim_ret<|sim_block_ret<|sim_then_ret<|sim_then_ret<|sim_block_ret<|sim_then_ret<|body_ret1 rfl rfl h) fun h=>?_
   exact sim_skip<|sim_block_normal<|zk<|zr<|zm<|yb h fun _ w h=>zm<|zn<|zk<|⟨rfl,h⟩
 refine sim_exit<|sim_then_exit<|sim_then_exit<|sim_block_hit<|zk<|zs<|sim_regionG<|yG 5<|yv h fun _ w h=>yv h fun _ w h=>yx h fun _ w h=>yb h fun _ w h=>zm<|zn<|yg1 4 4 false [26,27,28,29] 29 h (fun _ T hT h=>?_) fun σ w h=>?_
 · refine yv h fun _ w h=>yv h fun _ w h=>yx h fun _ w h=>yb h fun _ w h=>zn ?_
   exact zt hT h
 exact yG 2<|yp h fun _ h=>zm<|zn<|sim_end<|zk<|sim_ret<|body_ret1 rfl rfl h
structure FewS (s:SesD):Prop where
 n:s.roles.length≤6
 nm:s.name.size≤60
 rs:∀ r∈s.roles,Few r
abbrev MnyR (w0:World) (s:SesD):Ending→World→Prop:=retR fun u w'=>Ext w0 w'∧∃ b,u = .bool b∧(b=false→FewS s)
theorem sesMany_ret (w0:World) (v:Value) (s:SesD) (hs:SesVal w0 v s):Ret Pg 25 #[v] w0 fun u w'=>Ext w0 w'∧∃ b,u = .bool b∧(b=false→FewS s):=by
 obtain ⟨rv,rfl,hR⟩:=hs
 obtain ⟨A,c,rfl,_,_,hlm,hel⟩:=SliceOf.open hR
 refine n10s (R:=retR _) ?_;unfold n10
 rw [op_boxA]
 have hp:=heap_new w0 (sesCells s (.slice A s.roles.length c)).toArray 57
 have eW:Ext w0 (w0.alloc (.cells (sesCells s (.slice A s.roles.length c)).toArray 57)):=ee
 generalize (w0.alloc (.cells (sesCells s (.slice A s.roles.length c)).toArray 57))=W at hp eW ⊢
 generalize w0.heap.size=p at hp ⊢
 refine loop1_intro (fun a w=>∃ k:Nat,a = .int .i64 k∧k≤s.roles.length∧k≤7∧Ext W w∧∀ (j:Nat) y,j < k→s.roles[j]?=some y→Few y) (fun a _=>s.roles.length - (intOf a).toNat) ⟨0,rfl,by omega,by omega,Ext.refl _,fun j y h=>by omega⟩ ?_
 rintro _ w ⟨k,rfl,hk,h7,e,hb⟩
 unfold n10c3
 have stop:¬ (k < s.roles.length∧k < 7)→n10c1 (.pointer (some ⟨p,0,none⟩)) (MnyR w0 s) w:=by
  intro hn
  unfold n10c1
  by_cases h6:6 < s.roles.length
  · have d3:decide ((s.roles.length:Int) > 6)=true:=decide_eq_true (by omega)
    simp (disch:=try exact DI) only [↓PR,QR,simprocAttr,(cells_of_heap (e.obj hp)).1,d3]
    exact ⟨eW.trans e,true,rfl,fun h=>by cases h⟩
  have d3:decide ((s.roles.length:Int) > 6)=false:=decide_eq_false (by omega)
  by_cases hn6:60 < s.name.size
  · have d4:decide ((s.name.size:Int) > 60)=true:=decide_eq_true (by omega)
    simp (disch:=try exact DI) only [↓PR,QR,simprocAttr,(cells_of_heap (e.obj hp)).1,d3,d4]
    exact ⟨eW.trans e,true,rfl,fun h=>by cases h⟩
  have d4:decide ((s.name.size:Int) > 60)=false:=decide_eq_false (by omega)
  simp (disch:=try exact DI) only [↓PR,QR,simprocAttr,(cells_of_heap (e.obj hp)).1,d3,d4]
  exact ⟨eW.trans e,false,rfl,fun _=>⟨by omega,by omega,all_below fun j y hj hy=>hb j y (by omega) hy⟩⟩
 by_cases hlt:k < s.roles.length
 case neg =>
  have d1:decide ((k:Int) < (s.roles.length:Int))=false:=decide_eq_false (by omega)
  simp (disch:=try exact DI) only [↓PR,QR,simprocAttr,(cells_of_heap (e.obj hp)).1,d1]
  exact stop fun h=>hlt h.1
 have dk:(k:Int) < (s.roles.length:Int):=by omega
 have d1:decide ((k:Int) < (s.roles.length:Int))=true:=decide_eq_true dk
 by_cases h7':k < 7
 case neg =>
  have d2:decide ((k:Int) < 7)=false:=decide_eq_false (by omega)
  simp (disch:=try exact DI) only [↓PR,QR,simprocAttr,(cells_of_heap (e.obj hp)).1,d1,d2]
  exact stop fun h=>h7' h.2
 have d2:decide ((k:Int) < 7)=true:=decide_eq_true (by omega)
 obtain ⟨x,hx⟩:=getElem?_lt hlt
 obtain ⟨b,o,cs,rfl,_,hA,sv,cv,tv,rfl,i1,i2,i3⟩:=hel k x hx
 have hw:IntKind.i64.wrap ((k:Int)+1)=((k+1:Nat):Int):=by rw [wrap_ok (by omega) (by omega)];omega
 simp (disch:=try exact DI) only [↓PR,QR,simprocAttr,(cells_of_heap (e.obj hp)).1,d1,d2,↓n10c2,hA.c4 (eW.trans e)]
 refine callK_ret (large_ret w _ x ⟨sv,cv,tv,rfl,i1.ext (eW.trans e),i2.ext (eW.trans e),i3.ext (eW.trans e)⟩) ?_
 rintro _ w1 ⟨e1,lb,rfl,hf⟩
 cases lb with
 | true =>
  simp (disch:=try exact DI) only [↓PR,QR,simprocAttr]
  exact ⟨(eW.trans e).trans e1,true,rfl,fun h=>by cases h⟩
 | false =>
  simp (disch:=try exact DI) only [↓PR,QR,simprocAttr,hw]
  exact ⟨⟨k+1,rfl,by omega,by omega,e.trans e1,below_succ hb hx (hf rfl)⟩,meas_lt (kd := .i64) hlt⟩
def rolesE:List RolD→List RolD→Int→Int×Int
 | _,[],_=>(0,0)
 | done,r::l,i=>if (checkR r).2≠0 then (i,(checkR r).2) else if done.any (fun x=>decide (x.name=r.name)) then (i,290) else rolesE (done++[r]) l (i+1)
def peerB (rs:List RolD) (x:StpD):Bool:=decide (2 < x.kind)||rs.any (fun r=>decide (r.name=x.peer))
def peersE (rs:List RolD):List RolD→Int→Int×Int
 | [],_=>(0,0)
 | r::l,i=>if r.steps.all (peerB rs) then peersE rs l (i+1) else (i,294)
def checkS (s:SesD):Int×Int:=if nameB s.name=false then (0,290) else if s.roles.length < 2∨4 < s.roles.length∨s.cls < 1∨3 < s.cls∨s.capacity < 1∨4 < s.capacity then (0,2) else if (rolesE [] s.roles 0).2≠0 then rolesE [] s.roles 0 else peersE s.roles s.roles 0
theorem same_ext {α:Type} {a b:List α} (hl:a.length=b.length) (h:∀ (j:Nat) y z,j < a.length→a[j]?=some y→b[j]?=some z→y=z):a=b:=by
 refine List.ext_getElem? fun j=>?_
 rcases Nat.lt_or_ge j a.length with hj | hj
 · obtain ⟨y,hy⟩:=getElem?_lt hj
   obtain ⟨z,hz⟩:=getElem?_lt (l:=b) (k:=j) (by omega)
   rw [hy,hz,h j y z hj hy hz]
 · rw [List.getElem?_eq_none hj,List.getElem?_eq_none (by omega)]
theorem same_no {α:Type} {a b:List α} {j:Nat} {y z:α} (hy:a[j]?=some y) (hz:b[j]?=some z) (h:y≠z):a≠b:=fun e=>by
 subst e
 rw [hy] at hz
 injection hz with hz
 exact h hz
theorem same_succ {α:Type} {a b:List α} {k:Nat} {x x':α} (hb:∀ (j:Nat) y z,j < k→a[j]?=some y→b[j]?=some z→y=z) (hx:a[k]?=some x) (hx':b[k]?=some x') (hp:x=x'):∀ (j:Nat) y z,j < k+1→a[j]?=some y→b[j]?=some z→y=z:=fun j y z hj hy hz=>by
 rcases Nat.lt_or_ge j k with h | h
 · exact hb j y z h hy hz
 · obtain rfl:j=k:=by omega
   rw [hx] at hy
   rw [hx'] at hz
   injection hy with hy
   injection hz with hz
   rw [← hy,← hz,hp]
theorem cnt_eq (a b:CntD):(decide (a.name=b.name)&&decide (a.limit=b.limit))=decide (a=b):=by
 cases a;cases b
 rw [Bool.eq_iff_iff]
 simp
theorem sta_eq (a b:StaD):(decide (a.name=b.name)&&(decide (a.final=b.final)&&decide (a.wait=b.wait)))=decide (a=b):=by
 cases a;cases b
 rw [Bool.eq_iff_iff]
 simp
abbrev SamR (w0:World) (a b:RolD):Ending→World→Prop:=retR fun u w'=>u = .bool (decide (a=b))∧Ext w0 w'
theorem rSame_ret (w0:World) (va vb:Value) (a b:RolD) (ha:RolVal w0 va a) (hb:RolVal w0 vb b):Ret Pg 21 #[va,vb] w0 fun u w'=>u = .bool (decide (a=b))∧Ext w0 w':=by
 obtain ⟨sv,cv,tv,rfl,hS,hC,hT,o1,o2,o3⟩:=ha.op
 obtain ⟨sv',cv',tv',rfl,hS',hC',hT',o1',o2',o3'⟩:=hb.op
 obtain ⟨A1,c1,rfl,_,_,l1,hel1⟩:=SliceOf.open hS
 obtain ⟨A2,c2,rfl,_,_,l2,hel2⟩:=SliceOf.open hC
 obtain ⟨A3,c3,rfl,_,_,l3,hel3⟩:=SliceOf.open hT
 obtain ⟨B1,d1,rfl,_,_,m1,hem1⟩:=SliceOf.open hS'
 obtain ⟨B2,d2,rfl,_,_,m2,hem2⟩:=SliceOf.open hC'
 obtain ⟨B3,d3,rfl,_,_,m3,hem3⟩:=SliceOf.open hT'
 refine n13s (R:=retR _) ?_;unfold n13
 rw [op_boxA]
 have hp:=heap_new w0 (rolCells a (.slice A1 a.states.length c1) (.slice A2 a.counters.length c2) (.slice A3 a.steps.length c3)).toArray 26
 have eW0:Ext w0 (w0.alloc (.cells (rolCells a (.slice A1 a.states.length c1) (.slice A2 a.counters.length c2) (.slice A3 a.steps.length c3)).toArray 26)):=ee
 generalize (w0.alloc (.cells (rolCells a (.slice A1 a.states.length c1) (.slice A2 a.counters.length c2) (.slice A3 a.steps.length c3)).toArray 26))=W0 at hp eW0 ⊢
 generalize w0.heap.size=p at hp ⊢
 rw [op_boxA]
 have hq:=heap_new W0 (rolCells b (.slice B1 b.states.length d1) (.slice B2 b.counters.length d2) (.slice B3 b.steps.length d3)).toArray 26
 have eW1:Ext W0 (W0.alloc (.cells (rolCells b (.slice B1 b.states.length d1) (.slice B2 b.counters.length d2) (.slice B3 b.steps.length d3)).toArray 26)):=ee
 generalize (W0.alloc (.cells (rolCells b (.slice B1 b.states.length d1) (.slice B2 b.counters.length d2) (.slice B3 b.steps.length d3)).toArray 26))=W at hq eW1 ⊢
 generalize W0.heap.size=q at hq ⊢
 replace hp:=eW1.obj hp
 have eW:=eW0.trans eW1
 have no:∀ w,Ext W w→a≠b→Value.bool false = .bool (decide (a=b))∧Ext w0 w:=fun w e h=>⟨by rw [decide_eq_false h],eW.trans e⟩
 have w7:∀ n:Nat,n < 9223372036854775807→IntKind.i64.wrap ((n:Int)+1)=((n+1:Nat):Int):=fun n h=>by rw [wrap_ok (by omega) (by omega)];omega
 have nq:∀ m n:Nat,m≠n→((m:Int) != (n:Int))=true:=fun m n h=>by simp only [bne_iff_ne,ne_eq];omega
 have nq':∀ m:Nat,((m:Int) != (m:Int))=false:=fun m=>by simp
 have CH:True:=trivial
 by_cases g0:a.name=b.name
 case neg =>
  have z0:(!decide (a.name=b.name))=true:=by simp [g0]
  simp (disch:=try exact DI) only [↓PR,QR,simprocAttr,(cells_of_heap hp).1,(cells_of_heap hq).1,z0,g0,↓n13c8,↓n13c7]
  exact no _ (Ext.refl _) fun e=>g0 (by rw [e])
 have z0:decide (a.name=b.name)=true:=decide_eq_true g0
 by_cases g1:a.counters.length=b.counters.length
 case neg =>
  simp (disch:=try exact DI) only [↓PR,QR,simprocAttr,(cells_of_heap hp).1,(cells_of_heap hq).1,z0,Bool.not_true,nq _ _ g1,↓n13c8,↓n13c7]
  exact no _ (Ext.refl _) fun e=>g1 (by rw [e])
 have z1:((a.counters.length:Int) != (b.counters.length:Int))=false:=by rw [g1];exact nq' _
 by_cases g2:a.states.length=b.states.length
 case neg =>
  simp (disch:=try exact DI) only [↓PR,QR,simprocAttr,(cells_of_heap hp).1,(cells_of_heap hq).1,z0,Bool.not_true,z1,nq _ _ g2,↓n13c8,↓n13c7]
  exact no _ (Ext.refl _) fun e=>g2 (by rw [e])
 have z2:((a.states.length:Int) != (b.states.length:Int))=false:=by rw [g2];exact nq' _
 by_cases g3:a.steps.length=b.steps.length
 case neg =>
  simp (disch:=try exact DI) only [↓PR,QR,simprocAttr,(cells_of_heap hp).1,(cells_of_heap hq).1,z0,Bool.not_true,z1,z2,nq _ _ g3,↓n13c8,↓n13c7]
  exact no _ (Ext.refl _) fun e=>g3 (by rw [e])
 have z3:((a.steps.length:Int) != (b.steps.length:Int))=false:=by rw [g3];exact nq' _
 have Lsteps:∀ w,Ext W w→a.states=b.states→a.counters=b.counters→loop1 (fun t7 w next8=>n13c4 (.pointer (some ⟨p,0,none⟩)) (.pointer (some ⟨q,0,none⟩)) t7 next8 (SamR w0 a b) w) (.int .i64 0) w:=by
  intro w e es ec
  refine loop1_intro (fun i w=>∃ k:Nat,i = .int .i64 k∧k≤a.steps.length∧Ext W w∧∀ (j:Nat) y z,j < k→a.steps[j]?=some y→b.steps[j]?=some z→y=z) (fun i _=>a.steps.length - (intOf i).toNat) ⟨0,rfl,by omega,e,fun j y z h=>by omega⟩ ?_
  rintro _ w ⟨k,rfl,hk,e,hbb⟩
  unfold n13c4
  by_cases hlt:k < a.steps.length
  · obtain ⟨x,hx⟩:=getElem?_lt hlt
    obtain ⟨y,hy⟩:=getElem?_lt (l:=b.steps) (k:=k) (by omega)
    obtain ⟨b1,o1,cs1,rfl,_,hA,rfl⟩:=hel3 k x hx
    obtain ⟨b2,o2,cs2,rfl,_,hB,rfl⟩:=hem3 k y hy
    have dk:(k:Int) < (a.steps.length:Int):=by omega
    have dk2:(k:Int) < (b.steps.length:Int):=by omega
    have d1:decide ((k:Int) < (a.steps.length:Int))=true:=decide_eq_true dk
    simp (disch:=try exact DI) only [↓PR,QR,simprocAttr,(cells_of_heap (e.obj hp)).1,d1]
    refine drawK_intro ?_
    have eD:Ext w (Sw.drew w):=(Ext.refl w).drew
    have e2:=e.trans eD
    generalize (Sw.drew w)=w2 at e2 ⊢
    clear eD
    have hw:=w7 k (by omega)
    by_cases hxy:x=y
    · have hq1:decide (x=y)=true:=decide_eq_true hxy
      simp (disch:=try exact DI) only [↓PR,QR,simprocAttr,↓n13c3,(cells_of_heap (e2.obj hp)).1,(cells_of_heap (e2.obj hq)).1,hA.c9 (eW.trans e2),hB.c9 (eW.trans e2),stp_eq,hq1,Bool.not_true,hw]
      exact ⟨⟨k+1,rfl,by omega,e2,same_succ hbb hx hy hxy⟩,meas_lt (kd := .i64) hlt⟩
    · have hq1:decide (x=y)=false:=decide_eq_false hxy
      simp (disch:=try exact DI) only [↓PR,QR,simprocAttr,↓n13c3,(cells_of_heap (e2.obj hp)).1,(cells_of_heap (e2.obj hq)).1,hA.c9 (eW.trans e2),hB.c9 (eW.trans e2),stp_eq,hq1,Bool.not_false]
      exact no _ e2 fun h=>same_no hx hy hxy (by rw [h])
  · have d1:decide ((k:Int) < (a.steps.length:Int))=false:=decide_eq_false (by omega)
    have ex:a.steps=b.steps:=same_ext g3 fun j y z hj=>hbb j y z (by omega)
    simp (disch:=try exact DI) only [↓PR,QR,simprocAttr,(cells_of_heap (e.obj hp)).1,d1]
    have:a=b:=by
     cases a;cases b
     simp_all
    exact ⟨by rw [decide_eq_true this],eW.trans e⟩
 have Lstates:∀ w,Ext W w→a.counters=b.counters→loop1 (fun t6 w next6=>n13c5 (.pointer (some ⟨p,0,none⟩)) (.pointer (some ⟨q,0,none⟩)) t6 next6 (SamR w0 a b) w) (.int .i64 0) w:=by
  intro w e ec
  refine loop1_intro (fun i w=>∃ k:Nat,i = .int .i64 k∧k≤a.states.length∧Ext W w∧∀ (j:Nat) y z,j < k→a.states[j]?=some y→b.states[j]?=some z→y=z) (fun i _=>a.states.length - (intOf i).toNat) ⟨0,rfl,by omega,e,fun j y z h=>by omega⟩ ?_
  rintro _ w ⟨k,rfl,hk,e,hbb⟩
  unfold n13c5
  by_cases hlt:k < a.states.length
  · obtain ⟨x,hx⟩:=getElem?_lt hlt
    obtain ⟨y,hy⟩:=getElem?_lt (l:=b.states) (k:=k) (by omega)
    obtain ⟨b1,o1,cs1,rfl,_,hA,rfl⟩:=hel1 k x hx
    obtain ⟨b2,o2,cs2,rfl,_,hB,rfl⟩:=hem1 k y hy
    have dk:(k:Int) < (a.states.length:Int):=by omega
    have dk2:(k:Int) < (b.states.length:Int):=by omega
    have d1:decide ((k:Int) < (a.states.length:Int))=true:=decide_eq_true dk
    simp (disch:=try exact DI) only [↓PR,QR,simprocAttr,(cells_of_heap (e.obj hp)).1,d1]
    refine drawK_intro ?_
    have eD:Ext w (Sw.drew w):=(Ext.refl w).drew
    have e2:=e.trans eD
    generalize (Sw.drew w)=w2 at e2 ⊢
    clear eD
    have hw:=w7 k (by omega)
    by_cases hxy:x=y
    · have hq1:decide (x=y)=true:=decide_eq_true hxy
      simp (disch:=try exact DI) only [↓PR,QR,simprocAttr,↓n13c2,(cells_of_heap (e2.obj hp)).1,(cells_of_heap (e2.obj hq)).1,hA.c3 (eW.trans e2),hB.c3 (eW.trans e2),sta_eq,hq1,Bool.not_true,hw]
      exact ⟨⟨k+1,rfl,by omega,e2,same_succ hbb hx hy hxy⟩,meas_lt (kd := .i64) hlt⟩
    · have hq1:decide (x=y)=false:=decide_eq_false hxy
      simp (disch:=try exact DI) only [↓PR,QR,simprocAttr,↓n13c2,(cells_of_heap (e2.obj hp)).1,(cells_of_heap (e2.obj hq)).1,hA.c3 (eW.trans e2),hB.c3 (eW.trans e2),sta_eq,hq1,Bool.not_false]
      exact no _ e2 fun h=>same_no hx hy hxy (by rw [h])
  · have d1:decide ((k:Int) < (a.states.length:Int))=false:=decide_eq_false (by omega)
    have ex:a.states=b.states:=same_ext g2 fun j y z hj=>hbb j y z (by omega)
    simp (disch:=try exact DI) only [↓PR,QR,simprocAttr,(cells_of_heap (e.obj hp)).1,d1]
    exact Lsteps _ e ex ec
 have Lcounters:∀ w,Ext W w→loop1 (fun t5 w next4=>n13c6 (.pointer (some ⟨p,0,none⟩)) (.pointer (some ⟨q,0,none⟩)) t5 next4 (SamR w0 a b) w) (.int .i64 0) w:=by
  intro w e 
  refine loop1_intro (fun i w=>∃ k:Nat,i = .int .i64 k∧k≤a.counters.length∧Ext W w∧∀ (j:Nat) y z,j < k→a.counters[j]?=some y→b.counters[j]?=some z→y=z) (fun i _=>a.counters.length - (intOf i).toNat) ⟨0,rfl,by omega,e,fun j y z h=>by omega⟩ ?_
  rintro _ w ⟨k,rfl,hk,e,hbb⟩
  unfold n13c6
  by_cases hlt:k < a.counters.length
  · obtain ⟨x,hx⟩:=getElem?_lt hlt
    obtain ⟨y,hy⟩:=getElem?_lt (l:=b.counters) (k:=k) (by omega)
    obtain ⟨b1,o1,cs1,rfl,_,hA,rfl⟩:=hel2 k x hx
    obtain ⟨b2,o2,cs2,rfl,_,hB,rfl⟩:=hem2 k y hy
    have dk:(k:Int) < (a.counters.length:Int):=by omega
    have dk2:(k:Int) < (b.counters.length:Int):=by omega
    have d1:decide ((k:Int) < (a.counters.length:Int))=true:=decide_eq_true dk
    simp (disch:=try exact DI) only [↓PR,QR,simprocAttr,(cells_of_heap (e.obj hp)).1,d1]
    refine drawK_intro ?_
    have eD:Ext w (Sw.drew w):=(Ext.refl w).drew
    have e2:=e.trans eD
    generalize (Sw.drew w)=w2 at e2 ⊢
    clear eD
    have hw:=w7 k (by omega)
    by_cases hxy:x=y
    · have hq1:decide (x=y)=true:=decide_eq_true hxy
      simp (disch:=try exact DI) only [↓PR,QR,simprocAttr,↓n13c1,(cells_of_heap (e2.obj hp)).1,(cells_of_heap (e2.obj hq)).1,hA.c2 (eW.trans e2),hB.c2 (eW.trans e2),cnt_eq,hq1,Bool.not_true,hw]
      exact ⟨⟨k+1,rfl,by omega,e2,same_succ hbb hx hy hxy⟩,meas_lt (kd := .i64) hlt⟩
    · have hq1:decide (x=y)=false:=decide_eq_false hxy
      simp (disch:=try exact DI) only [↓PR,QR,simprocAttr,↓n13c1,(cells_of_heap (e2.obj hp)).1,(cells_of_heap (e2.obj hq)).1,hA.c2 (eW.trans e2),hB.c2 (eW.trans e2),cnt_eq,hq1,Bool.not_false]
      exact no _ e2 fun h=>same_no hx hy hxy (by rw [h])
  · have d1:decide ((k:Int) < (a.counters.length:Int))=false:=decide_eq_false (by omega)
    have ex:a.counters=b.counters:=same_ext g1 fun j y z hj=>hbb j y z (by omega)
    simp (disch:=try exact DI) only [↓PR,QR,simprocAttr,(cells_of_heap (e.obj hp)).1,d1]
    exact Lstates _ e ex
 simp (disch:=try exact DI) only [↓PR,QR,simprocAttr,(cells_of_heap hp).1,(cells_of_heap hq).1,z0,Bool.not_true,z1,z2,z3,↓n13c8,↓n13c7]
 exact Lcounters _ (Ext.refl _)
def dropV (n b o len cap:Nat):Value := .slice (some ⟨b,if cap=n then o else o+n,none⟩) (len - n) (cap - n)
theorem op_dropV {QP:List PanicEntry→World→Prop} {k:Value→World→Prop} {w:World} (n b o len cap:Nat) (hl:n≤len) (hc:len≤cap):opV Pg (Instr.sliceAt 73 (.slice (some ⟨b,o,none⟩) len cap) (some (.int .i64 (n:Int))) none none) QP w k=k (dropV n b o len cap) w:=by
 have h1:(n:Int)≤(len:Int):=by omega
 have h2:(len:Int)≤(cap:Int):=by omega
 refine opV_ok ?_
 unfold dropV
 by_cases hc1:cap=n
 · subst hc1
   simp [Instr.sliceAt,run_underlying Tryz.underlying73,Instr.slice,Instr.sliceBounds,run_sliceBound,h1,h2,Sw.run_sizeOf ty9,Addr.add_lit]
 · have hc2:¬ (cap:Int)=(n:Int):=by omega
   have hc3:¬ cap - n=0:=by omega
   simp [Instr.sliceAt,run_underlying Tryz.underlying73,Instr.slice,Instr.sliceBounds,run_sliceBound,h1,h2,hc1,hc2,hc3,Sw.run_sizeOf ty9,Addr.add_lit]
structure WsC (w:World) (v:Value) (b o cap:Nat) (ws:List ByteArray):Prop where
 val:v = .slice (some ⟨b,o,none⟩) ws.length cap
 le:ws.length≤cap
 lim:cap≤9223372036854775807
 at_:∀ (k:Nat) x,ws[k]?=some x→w.cell? ⟨b,o+k,none⟩=some (.string x)
structure Blank (y:StpD):Prop where
 m:y.message=ByteArray.empty
 p:y.peer=ByteArray.empty
 c:y.counter=ByteArray.empty
 l:y.low=0
 h:y.high=0
 a:y.add=0
structure At (p:Nat) (r:RolD):Prop where
 le:p≤2
 s:p=0→r.states=[]
 t:p≤1→r.steps=[]
abbrev zR:Array Value := #[.string ByteArray.empty,.slice none 0 0,.slice none 0 0,.slice none 0 0]
structure LS (w0 w:World) (base p2 p5 B1 B2:Nat) (r:RolD) (sv cv tv:Value):Prop where
 e:Ext w0 w
 h2:w.heap[p2]?=some (.cells zR TRol (0,0))
 h5:w.heap[p5]?=some (.cells (rolCells r sv cv tv).toArray TRol (0,0))
 oc:OwnE w base 52 2 cntCells cv r.counters
 lc:∀ b,cv.ownBlock=some b→b < B1
 os:OwnE w B1 50 3 staCells sv r.states
 ls:∀ b,sv.ownBlock=some b→b < B2
 ot:OwnE w B2 71 9 stpCells tv r.steps
 bb:base≤B1
 b12:B1≤B2
 b2:B2≤w.heap.size
 p2b:p2 < base
 p5b:p5 < base
 ne:p2≠p5
 l2:w0.heap.size≤p2
 l5:w0.heap.size≤p5
theorem stepsP_ge (nm:ByteArray) (cs:List CntD) (ss:List StaD) (L:List (List ByteArray)) (n:Nat):n≤(stepsP nm cs ss L n).2:=by unfold stepsP;simp
theorem statesP_ge (nm:ByteArray) (cs:List CntD) (L:List (List ByteArray)) (n:Nat):n≤(statesP nm cs L n).2:=by
 unfold statesP
 split
 · simp
 · exact Nat.le_trans (Nat.le_add_right _ _) (stepsP_ge ..)
theorem countersP_ge (nm:ByteArray) (L:List (List ByteArray)) (n:Nat):n≤(countersP nm L n).2:=by
 unfold countersP
 split
 · simp
 · exact Nat.le_trans (Nat.le_add_right _ _) (statesP_ge ..)
theorem roleP_ge (L:List (List ByteArray)):1≤(roleP L).2:=by
 unfold roleP
 split
 · split
   · split
     · exact Nat.le_refl _
     · exact countersP_ge ..
   · exact Nat.le_refl _
 · exact Nat.le_refl _
abbrev kSession:ByteArray:=⟨#[115,101,115,115,105,111,110]⟩
def classB (k:Int):ByteArray:=if k=1 then ⟨#[111,114,100,101,114,101,100]⟩ else if k=2 then ⟨#[109,105,120,101,100]⟩ else if k=3 then ⟨#[108,111,115,115,121]⟩ else ⟨#[]⟩
def sesH (s:SesD):List AnyD:=[.str kSession,.str s.name,.str (classB s.cls),.num s.capacity]
def printS (s:SesD):ByteArray:=if (checkS s).2=0 then joinW ⟨#[10]⟩ (lineA (sesH s)::s.roles.map printR) else ⟨#[]⟩
def sesT (s:SesD):ByteArray:=⟨#[115,101,115,115,105,111,110,32]⟩++s.name++⟨#[32]⟩++classB s.cls++⟨#[32]⟩++decB s.capacity
def rolT (t:ByteArray) (r:RolD):ByteArray:=t++⟨#[10]⟩++textP r
def textS (s:SesD):ByteArray:=s.roles.foldl rolT (sesT s)
theorem rolesE_ok:∀ {l done:List RolD} {i:Int},(rolesE done l i).2=0→∀ r∈l,(checkR r).2=0
 | [],done,i,h,r,hr=>by cases hr
 | x::l,done,i,h,r,hr=>by
  unfold rolesE at h
  by_cases hx:(checkR x).2=0
  case neg=>rw [if_pos hx] at h;exact absurd h hx
  rw [if_neg (fun e=>e hx)] at h
  rcases List.mem_cons.1 hr with rfl | hr
  · exact hx
  · split at h
    · cases h
    · exact rolesE_ok h r hr
structure SesOk (s:SesD):Prop where
 nm:nameB s.name=true
 n1:2≤s.roles.length
 n2:s.roles.length≤4
 c1:1≤s.cls
 c2:s.cls≤3
 p1:1≤s.capacity
 p2:s.capacity≤4
 rs:∀ r∈s.roles,(checkR r).2=0
theorem check_ses {s:SesD} (h:(checkS s).2=0):SesOk s:=by
 unfold checkS at h
 by_cases h1:nameB s.name=false
 · rw [if_pos h1] at h;cases h
 rw [if_neg h1] at h
 by_cases h2:s.roles.length < 2∨4 < s.roles.length∨s.cls < 1∨3 < s.cls∨s.capacity < 1∨4 < s.capacity
 · rw [if_pos h2] at h;cases h
 rw [if_neg h2] at h
 by_cases h3:(rolesE [] s.roles 0).2=0
 case neg=>rw [if_pos h3] at h;exact absurd h h3
 exact ⟨by simpa using h1,by omega,by omega,by omega,by omega,by omega,by omega,rolesE_ok h3⟩
theorem sesT_line (s:SesD):sesT s=lineA (sesH s):=by
 unfold sesT lineA sesH
 simp only [List.map_cons,List.map_nil,wordA,joinW_two,joinW_one]
 rw [show (⟨#[115,101,115,115,105,111,110,32]⟩:ByteArray)=kSession++⟨#[32]⟩ from by rw [lit_app];rfl]
 simp only [app_assoc]
theorem printS_eq {s:SesD} (h:(checkS s).2=0):printS s=textS s:=by
 have ho:=check_ses h
 unfold printS textS
 rw [if_pos h,sesT_line,← joinW_one ⟨#[10]⟩ (lineA (sesH s)),fold_lines (f:=rolT) (g:=textP) (fun _ _=>rfl) _ _ (by simp),joinW_one]
 congr 2
 exact List.map_congr_left fun r hr=>by unfold printR;rw [if_pos (ho.rs r hr),textP_eq]
def classI (x:ByteArray):Int:=if x=classB 1 then 1 else if x=classB 2 then 2 else if x=classB 3 then 3 else 0
structure HeadD where
 name:ByteArray
 cls:Int
 capacity:Int
def headP (ws:List ByteArray):Option HeadD:=(nameP ws).bind fun a=>(wordP a.2).bind fun b=>if classI b.1=0 then none else (numP b.2).bind fun c=>endP (⟨a.1,classI b.1,c.1⟩:HeadD) c.2
def goS:Nat→List RolD→List (List ByteArray)→Nat→Option (List RolD)×Nat
 | 0,acc,_,n=>(some acc,n)
 | f+1,acc,L,n=>if L=[] then (some acc,n) else match roleP L with
  | (none,k)=>(none,n+k)
  | (some r,k)=>goS f (acc++[r]) (L.drop k) (n+k)
def sesP:List (List ByteArray)→Option SesD×Nat
 | (k::ws)::L=>if k=kSession then (match headP ws with
  | none=>(none,1)
  | some h=>match goS L.length [] L 1 with
   | (none,n)=>(none,n)
   | (some rs,n)=>(some ⟨h.name,rs,h.cls,h.capacity⟩,n)) else (none,1)
 | _=>(none,1)
def zeroSes:SesD:=⟨ByteArray.empty,[],0,0⟩
def parseS (text:ByteArray):SesD×Int×Int:=match sesP (linesT text) with
 | (none,n)=>(zeroSes,(n:Int),6)
 | (some s,_)=>if (checkS s).2=0 then (s,0,0) else (zeroSes,0,(checkS s).2)
theorem goS_len:∀ {f:Nat} {acc rs:List RolD} {L:List (List ByteArray)} {n m:Nat},L.length≤f→goS f acc L n=(some rs,m)→m=n+L.length∧rs.length≤acc.length+L.length∧((∀ r∈acc,Read r)→∀ r∈rs,Read r)
 | 0,acc,rs,L,n,m,h,e=>by
  injection e with e1 e2
  injection e1 with e1
  subst e1 e2
  exact ⟨by omega,by omega,fun h=>h⟩
 | f+1,acc,rs,L,n,m,h,e=>by
  unfold goS at e
  by_cases hL:L=[]
  · rw [if_pos hL] at e
    injection e with e1 e2
    injection e1 with e1
    subst e1 e2 hL
    exact ⟨by simp,by omega,fun h=>h⟩
  rw [if_neg hL] at e
  cases hr:roleP L with
  | mk o k =>
  rw [hr] at e
  cases o with
  | none=>cases e
  | some r =>
   obtain ⟨hrd,_,_,_,h1,h2⟩:=roleP_read hr
   obtain ⟨g1,g2,g3⟩:=goS_len (by rw [List.length_drop];omega) e
   rw [List.length_drop] at g1 g2
   rw [List.length_append,List.length_singleton] at g2
   refine ⟨by omega,by omega,fun ha=>g3 fun x hx=>?_⟩
   rcases List.mem_append.1 hx with hx | hx
   · exact ha x hx
   · rw [List.mem_singleton.1 hx];exact hrd
theorem goS_pos {f:Nat} {acc:List RolD}:∀ {L:List (List ByteArray)} {n m:Nat},goS f acc L n=(none,m)→n < m:=by
 induction f generalizing acc with
 | zero=>intro L n m e;cases e
 | succ f ih =>
  intro L n m e
  unfold goS at e
  split at e
  · cases e
  · have hge:=roleP_ge L
    cases hr:roleP L with
    | mk o k =>
    rw [hr] at e hge
    have hge:1≤k:=hge
    cases o with
    | none=>injection e with _ e;omega
    | some r=>have:=ih e;omega
theorem sesP_pos {L:List (List ByteArray)} {n:Nat} (h:sesP L=(none,n)):0 < n:=by
 unfold sesP at h
 split at h
 · split at h
   · split at h
     · injection h with _ h;omega
     · split at h
       · rename_i hg
         have:=goS_pos hg
         injection h with _ h
         omega
       · cases h
   · injection h with _ h;omega
 · injection h with _ h;omega
def n16c1 (t51 t68:Value) (next6:KV) (R:RT) (w:World):Prop :=
 opV Pg (binS .lss 3 false t68 t51) (panK R) w fun t70 w =>
 condP t70 (
 R (.returned (.tuple #[t51,(.int .i64 290)])) w) (
 opV Pg (binS .add 3 true t51 (.int .i64 1)) (panK R) w fun t72 w =>
 next6 t72 w)
def n16c2 (t4 t6 t51:Value) (next6:KV) (R:RT) (w:World):Prop :=
 opV Pg (Instr.loadAt 104 t4) (panK R) w fun t65 w =>
 opV Pg (Instr.fieldAt 26 t6 0) (panK R) w fun t66 w =>
 opV Pg (Instr.loadAt 9 t66) (panK R) w fun t67 w =>
 callV Pg t65 #[t67] (panK R) w fun t68 w =>
 n16c1 t51 t68 next6 R w
def n16c3 (t4 t6 t51 t58:Value) (next6:KV) (R:RT) (w:World):Prop :=
 opV Pg (Instr.extract t58 0) (panK R) w fun t59 w =>
 opV Pg (Instr.extract t58 1) (panK R) w fun t60 w =>
 opV Pg (binS .neq 29 true t60 (.int .i64 0)) (panK R) w fun t62 w =>
 condP t62 (
 R (.returned (.tuple #[t51,t60])) w) (
 n16c2 t4 t6 t51 next6 R w)
def n16c4 (t76 t84:Value) (next7:KV) (R:RT) (w:World):Prop :=
 opV Pg (binS .geq 3 true t84 (.int .i64 0)) (panK R) w fun t85 w =>
 condP t85 (
 R (.returned (.tuple #[t76,(.int .i64 294)])) w) (
 opV Pg (binS .add 3 true t76 (.int .i64 1)) (panK R) w fun t87 w =>
 next7 t87 w)
def n16c5 (t4 t74 t76:Value) (next7:KV) (R:RT) (w:World):Prop :=
 opV Pg (Instr.indexAt 54 t74 t76) (panK R) w fun t79 w =>
 opV Pg (Instr.loadAt 26 t79) (panK R) w fun t80 w =>
 opV Pg (Instr.alloc 26 true (.tuple #[])) (panK R) w fun t10 w =>
 opU Pg (Instr.storeAt 26 t10 t80) (panK R) w fun w =>
 opV Pg (Instr.fieldAt 26 t10 3) (panK R) w fun t81 w =>
 opV Pg (Instr.loadAt 24 t81) (panK R) w fun t82 w =>
 opV Pg (Instr.makeFunc (.func 62) #[] #[t4]) (panK R) w fun t83 w =>
 callK Pg 61 #[t82,t83] (panK R) w fun t84 w =>
 n16c4 t76 t84 next7 R w
def n16c6 (t1 t4:Value) (R:RT) (w:World):Prop :=
 opV Pg (Instr.fieldAt 57 t1 1) (panK R) w fun t73 w =>
 opV Pg (Instr.loadAt 54 t73) (panK R) w fun t74 w =>
 opV Pg (Builtin.len_ #[54] 3 #[t74]) (panK R) w fun t75 w =>
 loop1 (fun t76 w next7 =>
 opV Pg (binS .lss 3 false t76 t75) (panK R) w fun t77 w =>
 condP t77 (
 n16c5 t4 t74 t76 next7 R w) (
 R (.returned (.tuple #[(.int .i64 0),(.int .i64 0)])) w)) (.int .i64 0) w
def n16c7 (t4 t49 t51:Value) (next6:KV) (R:RT) (w:World):Prop :=
 opV Pg (Instr.indexAt 54 t49 t51) (panK R) w fun t54 w =>
 opV Pg (Instr.loadAt 26 t54) (panK R) w fun t55 w =>
 opV Pg (Instr.alloc 26 true (.tuple #[])) (panK R) w fun t6 w =>
 opU Pg (Instr.storeAt 26 t6 t55) (panK R) w fun w =>
 opV Pg (Instr.loadAt 26 t6) (panK R) w fun t57 w =>
 callK Pg 12 #[t57] (panK R) w fun t58 w =>
 n16c3 t4 t6 t51 t58 next6 R w
def n16c8 (t1 t4:Value) (R:RT) (w:World):Prop :=
 opV Pg (Instr.fieldAt 57 t1 1) (panK R) w fun t48 w =>
 opV Pg (Instr.loadAt 54 t48) (panK R) w fun t49 w =>
 opV Pg (Builtin.len_ #[54] 3 #[t49]) (panK R) w fun t50 w =>
 loop1 (fun t51 w next6 =>
 opV Pg (binS .lss 3 false t51 t50) (panK R) w fun t52 w =>
 condP t52 (
 n16c7 t4 t49 t51 next6 R w) (
 n16c6 t1 t4 R w)) (.int .i64 0) w
def n16c9 (t1 t4 t37 t41:Value) (R:RT) (w:World):Prop :=
 pickK t37 (.bool true) t41 fun t42 =>
 joinK (fun (t46:Value) (w:World) =>
 pickK t42 (.bool true) t46 fun t47 =>
 condP t47 (
 R (.returned (.tuple #[(.int .i64 0),(.int .i64 2)])) w) (
 n16c8 t1 t4 R w)) fun K5 =>
 guardP t42 false (
 opV Pg (Instr.fieldAt 57 t1 3) (panK R) w fun t44 w =>
 opV Pg (Instr.loadAt 3 t44) (panK R) w fun t45 w =>
 opV Pg (binS .gtr 3 true t45 (.int .i64 4)) (panK R) w fun t46 w =>
 K5 t46 w) (
 K5 undef w)
def n16c10 (t1 t4 t32 t36:Value) (R:RT) (w:World):Prop :=
 pickK t32 (.bool true) t36 fun t37 =>
 joinK (fun (t41:Value) (w:World) =>
 n16c9 t1 t4 t37 t41 R w) fun K4 =>
 guardP t37 false (
 opV Pg (Instr.fieldAt 57 t1 3) (panK R) w fun t39 w =>
 opV Pg (Instr.loadAt 3 t39) (panK R) w fun t40 w =>
 opV Pg (binS .lss 3 true t40 (.int .i64 1)) (panK R) w fun t41 w =>
 K4 t41 w) (
 K4 undef w)
def n16c11 (t1 t4 t27 t31:Value) (R:RT) (w:World):Prop :=
 pickK t27 (.bool true) t31 fun t32 =>
 joinK (fun (t36:Value) (w:World) =>
 n16c10 t1 t4 t32 t36 R w) fun K3 =>
 guardP t32 false (
 opV Pg (Instr.fieldAt 57 t1 2) (panK R) w fun t34 w =>
 opV Pg (Instr.loadAt 55 t34) (panK R) w fun t35 w =>
 opV Pg (binS .gtr 55 true t35 (.int .i64 3)) (panK R) w fun t36 w =>
 K3 t36 w) (
 K3 undef w)
def n16c12 (t1 t4 t21 t26:Value) (R:RT) (w:World):Prop :=
 pickK t21 (.bool true) t26 fun t27 =>
 joinK (fun (t31:Value) (w:World) =>
 n16c11 t1 t4 t27 t31 R w) fun K2 =>
 guardP t27 false (
 opV Pg (Instr.fieldAt 57 t1 2) (panK R) w fun t29 w =>
 opV Pg (Instr.loadAt 55 t29) (panK R) w fun t30 w =>
 opV Pg (binS .lss 55 true t30 (.int .i64 1)) (panK R) w fun t31 w =>
 K2 t31 w) (
 K2 undef w)
def n16c13 (t1 t4:Value) (R:RT) (w:World):Prop :=
 opV Pg (Instr.fieldAt 57 t1 1) (panK R) w fun t18 w =>
 opV Pg (Instr.loadAt 54 t18) (panK R) w fun t19 w =>
 opV Pg (Builtin.len_ #[54] 3 #[t19]) (panK R) w fun t20 w =>
 opV Pg (binS .lss 3 true t20 (.int .i64 2)) (panK R) w fun t21 w =>
 joinK (fun (t26:Value) (w:World) =>
 n16c12 t1 t4 t21 t26 R w) fun K1 =>
 guardP t21 false (
 opV Pg (Instr.fieldAt 57 t1 1) (panK R) w fun t23 w =>
 opV Pg (Instr.loadAt 54 t23) (panK R) w fun t24 w =>
 opV Pg (Builtin.len_ #[54] 3 #[t24]) (panK R) w fun t25 w =>
 opV Pg (binS .gtr 3 true t25 (.int .i64 4)) (panK R) w fun t26 w =>
 K1 t26 w) (
 K1 undef w)
def n16 (t0:Value) (R:RT) (w:World):Prop :=
 opV Pg (Instr.box 57 t0) (panK R) w fun t1 w =>
 opV Pg (Instr.makeFunc (.func 58) #[] #[t1]) (panK R) w fun t11 w =>
 opV Pg (Instr.alloc 104 true (.tuple #[])) (panK R) w fun t4 w =>
 opU Pg (Instr.storeAt 104 t4 t11) (panK R) w fun w =>
 opV Pg (Instr.fieldAt 57 t1 0) (panK R) w fun t13 w =>
 opV Pg (Instr.loadAt 9 t13) (panK R) w fun t14 w =>
 callK Pg 17 #[t14] (panK R) w fun t15 w =>
 opV Pg (Op.unary .not t15) (panK R) w fun t16 w =>
 condP t16 (
 R (.returned (.tuple #[(.int .i64 0),(.int .i64 290)])) w) (
 n16c13 t1 t4 R w)
set_option maxHeartbeats 40000000 in
theorem n16s {t0:Value} {R:RT} {w:World} (h:n16 t0 R w):Calls Pg 26 #[t0] w R:=by
 refine yD Tryz.func26 ?_
 refine zs<|zr<|yv h fun _ w h=>zm<|zm<|zn<|zk<|zs<|zr<|yF h fun _ w h=>yv h fun _ w h=>yu h fun w h=>zn<|zk<|zs ?_
 refine sim_block<|zs<|zr<|yv h fun _ w h=>yv h fun _ w h=>yc h c17 fun _ w h=>yv h fun _ w h=>zm<|zn<|zk<|yC h (fun h=>zs<|zr<|zm<|zm<|zn<|zk<|sim_ret<|sim_block_ret<|sim_then_ret<|body_ret2 rfl rfl rfl h) fun h=>zs<|sim_regionG<|yG 5 ?_
 refine yv h fun _ w h=>yv h fun _ w h=>yx h fun _ w h=>yb h fun _ w h=>zm<|zn<|yg1 4 4 false [23,24,25,26] 26 h (fun _ T hT h=>?_) fun σ w h=>?_
 · refine yv h fun _ w h=>yv h fun _ w h=>yx h fun _ w h=>yb h fun _ w h=>zn ?_
   exact zt hT h
 refine yG 2<|yp h fun _ h=>zm<|zn<|yg1 3 10 false [29,30,31] 31 h (fun _ T hT h=>?_) fun σ w h=>?_
 · refine yv h fun _ w h=>yv h fun _ w h=>yb h fun _ w h=>zn ?_
   exact zt hT h
 refine yG 2<|yp h fun _ h=>zm<|zn<|yg1 3 15 false [34,35,36] 36 h (fun _ T hT h=>?_) fun σ w h=>?_
 · refine yv h fun _ w h=>yv h fun _ w h=>yb h fun _ w h=>zn ?_
   exact zt hT h
 refine yG 2<|yp h fun _ h=>zm<|zn<|yg1 3 20 false [39,40,41] 41 h (fun _ T hT h=>?_) fun σ w h=>?_
 · refine yv h fun _ w h=>yv h fun _ w h=>yb h fun _ w h=>zn ?_
   exact zt hT h
 refine yG 2<|yp h fun _ h=>zm<|zn<|yg1 3 25 false [44,45,46] 46 h (fun _ T hT h=>?_) fun σ w h=>?_
 · refine yv h fun _ w h=>yv h fun _ w h=>yb h fun _ w h=>zn ?_
   exact zt hT h
 refine yG 2<|yp h fun _ h=>zm<|zn<|sim_end<|zk<|yC h (fun h=>zs<|zr<|zm<|zm<|zn<|zk<|sim_ret<|sim_block_ret<|sim_then_ret<|body_ret2 rfl rfl rfl h) fun h=>sim_skip<|sim_block_normal<|zk<|zs<|zs<|zr<|yv h fun _ w h=>?_
 refine yv h fun _ w h=>yx h fun _ w h=>zm<|zn<|zk<|sim_block<|yl1 [2,3,5,6,7,8,51,52,53,54,55,56,57,58,59,60,61,62,63,64,65,66,67,68,69,70,71,72] 51 h fun σ w next h=>zs<|zr<|yb h fun _ w h=>zn<|zk<|zs<|yC h (fun h=>?_) fun h=>?_
 · refine sim_skip<|zk<|zs<|sim_block<|zs<|zr<|zm<|yv h fun _ w h=>yv h fun _ w h=>yv h fun _ w h=>zm<|yu h fun w h=>zn<|zk<|zs ?_
   refine zs<|zr<|yv h fun _ w h=>yc h c12 fun _ w h=>zm<|yv h fun _ w h=>yv h fun _ w h=>zm<|zm<|zn<|zk<|zs<|zr<|zm<|yb h fun _ w h=>?_
   refine zn<|zk<|yC h (fun h=>?_) fun h=>?_
   · refine zs<|zr<|zm<|zm<|zm<|zm<|zn<|zk<|sim_ret<|sim_then_ret<|sim_block_ret<|sim_then_ret<|sim_then_ret<|sim_block_ret<|sim_then_ret ?_
     exact body_ret2 rfl rfl rfl h
   refine sim_skip<|zk<|zs<|zr<|yv h fun _ w h=>yv h fun _ w h=>yv h fun _ w h=>yV h fun _ w h=>zm<|yb h fun _ w h=>zn<|zk<|yC h (fun h=>zs<|zr<|zm<|zm<|zm<|zn<|zk<|sim_ret<|sim_block_ret<|sim_then_ret<|sim_then_ret<|sim_block_ret<|sim_then_ret<|body_ret2 rfl rfl rfl h) fun h=>sim_skip ?_
   exact sim_block_normal<|zk<|zr<|yb h fun _ w h=>zm<|zn<|zk<|⟨rfl,h⟩
 refine sim_exit<|sim_then_exit<|sim_then_exit<|sim_block_hit<|zk<|zs<|zs<|zr<|yv h fun _ w h=>yv h fun _ w h=>yx h fun _ w h=>zm<|zn<|zk<|sim_block ?_
 refine yl1 [2,3,9,10,76,77,78,79,80,81,82,83,84,85,86,87] 76 h fun σ w next h=>zs<|zr<|yb h fun _ w h=>zn<|zk<|zs<|yC h (fun h=>?_) fun h=>?_
 · refine sim_skip<|zk<|zs<|sim_block<|zs<|zr<|zm<|yv h fun _ w h=>yv h fun _ w h=>yv h fun _ w h=>zm<|yu h fun w h=>zn<|zk<|zs ?_
   refine zr<|yv h fun _ w h=>yv h fun _ w h=>yF h fun _ w h=>yc h c61 fun _ w h=>yb h fun _ w h=>zn<|zk<|yC h (fun h=>zs<|zr<|zm<|zm<|zm<|zn<|zk<|sim_ret<|sim_block_ret<|sim_then_ret<|sim_then_ret<|sim_block_ret<|sim_then_ret<|body_ret2 rfl rfl rfl h) fun h=>sim_skip<|sim_block_normal<|zk<|zr<|yb h fun _ w h=>?_
   exact zm<|zn<|zk<|⟨rfl,h⟩
 exact sim_exit<|sim_then_exit<|sim_then_exit<|sim_block_hit<|zk<|zs<|zr<|zm<|zm<|zn<|zk<|sim_ret<|body_ret2 rfl rfl rfl h
def RolFit (r:RolD):Prop:=(∀ x∈r.steps,StpSm x)∧r.counters.length≤1000000000∧r.states.length≤1000000000∧r.steps.length≤1000000000
def namedI (s:SesD) (nm:ByteArray):Int:=idx (fun x:RolD=>decide (x.name=nm)) s.roles
abbrev TSes:TypeId:=57
section
variable {w:World} {q:Nat} {s:SesD} {rv:Value}
theorem CheckS11_ret (w:World) (v:Value) (r:RolD) (q:Nat) (nm:ByteArray) (hr:RolVal w v r) (hq:w.heap[q]?=some (.cells #[.string nm] 9 (0,0))):Ret Pg 60 #[v,.pointer (some ⟨q,0,none⟩)] w fun u w'=>u = .bool (decide (r.name=nm))∧Ext w w':=by
 obtain ⟨sv,cv,tv,rfl,_,_,_,o1,o2,o3⟩:=hr.op
 refine n18s (R:=retR _) ?_;unfold n18
 rw [op_boxA]
 have hBW:=ElemAt.new (w:=w) (rolCells r sv cv tv) (26)
 have eW:Ext w (w.alloc (Obj.cells (List.toArray (rolCells r sv cv tv)) (26))):=(Ext.refl _).alloc _
 generalize (w.alloc (Obj.cells (List.toArray (rolCells r sv cv tv)) (26)))=W at hBW eW ⊢
 have c:=cells_of_heap (eW.obj hq)
 simp (disch:=try exact DI) only [↓PR,QR,simprocAttr,hBW.c4 (Ext.refl W),c.1]
 exact ⟨by trivial,eW⟩
theorem CheckS1n_ret (nm:ByteArray) (hq:w.heap[q]?=some (.cells (sesCells s rv).toArray TSes (0,0))) (hR:RolsOf w rv s.roles):Ret Pg 58 #[.string nm,.pointer (some ⟨q,0,none⟩)] w fun u w'=>u = .int .i64 (namedI s nm)∧Ext w w':=by
 have o1:=SliceOf.oneCell hR
 refine n17s (R:=retR _) ?_;unfold n17
 simp (disch:=try exact DI) only [↓PR,QR,simprocAttr,fun o=>(cells_of_heap (((Ext.refl w).alloc o).obj hq)).1]
 generalize hV:World.alloc w _=V
 have oV:V.heap[w.heap.size]?=some (.cells #[.string nm] 9 (0,0)):=by rw [← hV];exact heap_new _ _ _
 have eV:Ext w V:=by rw [← hV];exact (Ext.refl w).alloc _
 clear hV
 refine callK_ret (index_Role_ret V _ s.roles _ _ (fun x=>decide (x.name=nm)) (hR.ext eV) c60 fun w u x _ e hu=>CheckS11_ret w u x _ nm hu (e.obj oV)) ?_
 rintro _ w' ⟨rfl,e⟩
 simp (disch:=try exact DI) only [↓PR,QR,simprocAttr]
 exact ⟨by trivial,eV.trans e⟩
def lostB (s:SesD) (x:StpD):Bool:=speaksB x.kind&&decide (namedI s x.peer < 0)
theorem CheckS2_rets (x:StpD) {f:Nat} (hf:w.heap[f]?=some (.cells #[.func (.func 58) #[] #[.pointer (some ⟨q,0,none⟩)]] 104 (0,0))) (hq:w.heap[q]?=some (.cells (sesCells s rv).toArray TSes (0,0))) (hR:RolsOf w rv s.roles) (hk:1≤x.kind∧x.kind≤4):Ret Pg 62 #[stpVal x,.pointer (some ⟨f,0,none⟩)] w fun u w'=>u = .bool (lostB s x)∧Ext w w':=by
 refine n19s (R:=retR _) ?_;unfold n19
 unfold stpVal
 rw [op_boxA]
 have hBW:=ElemAt.new (w:=w) (stpCells x) (71)
 have eW:Ext w (w.alloc (Obj.cells (List.toArray (stpCells x)) (71))):=(Ext.refl _).alloc _
 generalize (w.alloc (Obj.cells (List.toArray (stpCells x)) (71)))=W at hBW eW ⊢
 generalize w.heap.size=p at *
 refine drawK_intro ?_
 have eD:Ext W (Sw.drew W):=(Ext.refl W).drew
 generalize Sw.drew W=D at eD ⊢
 have ED:=eW.trans eD
 unfold n19c2
 simp (disch:=try exact DI) only [↓PR,QR,simprocAttr,hBW.c9 eD]
 refine callK_ret (kinds_ret D) ?_
 rintro _ w6 ⟨m,L,cc,rfl,hm,hM,hL,e6⟩
 have E6:=ED.trans e6
 refine narrowK_EC e6 ?_
 have cf:=cells_of_heap (E6.obj hf)
 have hB:=hBW.c9 (eD.trans e6)
 unfold n19c1 lostB
 rw [qV_kind1 hM,hL,if_pos hk,Option.getD_some]
 cases hs:speaksB x.kind with
 | false =>
  simp (disch:=try exact DI) only [↓PR,QR,simprocAttr,hs]
  exact ⟨by trivial,E6⟩
 | true =>
  simp (disch:=try exact DI) only [↓PR,QR,simprocAttr,hs,hB,cf.1]
  rw [callV_func c58]
  refine zcr (CheckS1n_ret (s:=s) (rv:=rv) x.peer (E6.obj hq) (hR.ext E6)) fun w7 e7=>?_
  refine ⟨e7,?_⟩
  simp (disch:=try exact DI) only [↓PR,QR,simprocAttr,hs]
  exact ⟨by trivial,E6.trans e7⟩
end
theorem rolesE_cons (done l:List RolD) (r:RolD) (i:Int):rolesE done (r::l) i=if (checkR r).2≠0 then (i,(checkR r).2) else if done.any (fun x=>decide (x.name=r.name)) then (i,290) else rolesE (done++[r]) l (i+1):=rfl
theorem peersE_cons (rs l:List RolD) (r:RolD) (i:Int):peersE rs (r::l) i=if r.steps.all (peerB rs) then peersE rs l (i+1) else (i,294):=rfl
theorem drop_at {α:Type} {l:List α} {k:Nat} {x:α} (h:l[k]?=some x):l.drop k=x::l.drop (k+1):=by
 obtain ⟨hk,rfl⟩:=List.getElem?_eq_some_iff.1 h
 exact List.drop_eq_getElem_cons hk
theorem named_lt {s:SesD} {k:Nat} {x:RolD} (hx:s.roles[k]?=some x):decide (namedI s x.name < (k:Int))=(s.roles.take k).any fun y=>decide (y.name=x.name):=by
 unfold namedI
 cases ha:(s.roles.take k).any fun y=>decide (y.name=x.name) with
 | true =>
  refine decide_eq_true ?_
  rw [List.any_eq_true] at ha
  obtain ⟨y,hy,hp⟩:=ha
  obtain ⟨j,hj⟩:=List.getElem?_of_mem hy
  have hjk:j < k:=by
   have:=(List.getElem?_eq_some_iff.1 hj).1
   rw [List.length_take] at this
   omega
  rw [List.getElem?_take_of_lt hjk] at hj
  have:=(idx_le (p:=fun z:RolD=>decide (z.name=x.name)) hj hp).2
  omega
 | false =>
  refine decide_eq_false ?_
  rw [List.any_eq_false] at ha
  rw [idx_here (k:=k) hx (by simp) fun j y hj hy=>?_]
  · omega
  · have:=ha y (List.mem_of_getElem? (i:=j) (by rw [List.getElem?_take_of_lt hj];exact hy))
    simpa using this
theorem lost_peer {s:SesD} {x:StpD} (hk:1≤x.kind∧x.kind≤4):lostB s x=!peerB s.roles x:=by
 unfold lostB peerB namedI speaksB
 have h:=idx_neg (p:=fun r:RolD=>decide (r.name=x.peer)) (l:=s.roles)
 rw [← h,Bool.eq_iff_iff]
 simp only [Bool.and_eq_true,Bool.or_eq_true,decide_eq_true_eq,Bool.not_eq_true',Bool.or_eq_false_iff,decide_eq_false_iff_not]
 omega
theorem lost_all {s:SesD} {l:List StpD} (hk:∀ x∈l,1≤x.kind∧x.kind≤4):decide (0≤idx (lostB s) l)=!l.all (peerB s.roles):=by
 rw [idx_neg,List.not_all_eq_any_not,Bool.eq_iff_iff,List.any_eq_true,List.any_eq_true]
 constructor
 · rintro ⟨x,hx,h⟩
   exact ⟨x,hx,by rw [← lost_peer (hk x hx)];exact h⟩
 · rintro ⟨x,hx,h⟩
   exact ⟨x,hx,by rw [lost_peer (hk x hx)];exact h⟩
theorem CheckSession_ret (w0:World) (v:Value) (s:SesD) (hs:SesVal w0 v s) (hF:∀ r∈s.roles,RolFit r) (hl:s.roles.length≤1000000000):Ret Pg 26 #[v] w0 fun u w'=>u = .tuple #[.int .i64 (checkS s).1,.int .i64 (checkS s).2]∧Ext w0 w':=by
 obtain ⟨rv,rfl,hR⟩:=hs
 have o1:=SliceOf.oneCell hR
 refine n16s (R:=retR _) ?_;unfold n16
 rw [op_boxA]
 have hp:=heap_new w0 (sesCells s rv).toArray TSes
 have eW:Ext w0 (w0.alloc (.cells (sesCells s rv).toArray TSes)):=ee
 generalize (w0.alloc (.cells (sesCells s rv).toArray TSes))=W at hp eW ⊢
 generalize w0.heap.size=p at hp ⊢
 simp (disch:=try exact DI) only [↓PR,QR,simprocAttr,fun o=>(cells_of_heap (((Ext.refl W).alloc o).obj hp)).1]
 generalize hV:World.alloc W _=V
 have oV:V.heap[W.heap.size]?=some (.cells #[.func (.func 58) #[] #[.pointer (some ⟨p,0,none⟩)]] 104 (0,0)):=by rw [← hV];exact heap_new _ _ _
 have eV:Ext W V:=by rw [← hV];exact (Ext.refl W).alloc _
 clear hV
 generalize hf:W.heap.size=f at oV ⊢
 refine zcr (Name_ret V s.name) fun w1 e1=>?_
 have E1:=(eW.trans eV).trans e1
 have hp1:=(eV.trans e1).obj hp
 have oV1:=e1.obj oV
 have hR1:=hR.ext E1
 unfold checkS
 by_cases hn:nameB s.name=false
 · rw [if_pos hn]
   simp (disch:=try exact DI) only [↓PR,QR,simprocAttr,hn]
   exact ⟨by trivial,E1⟩
 have hn:nameB s.name=true:=by simpa using hn
 rw [hn,if_neg (by simp)]
 obtain ⟨A,c,rfl,_,_,hlm,hel⟩:=SliceOf.open hR1
 simp (disch:=try exact DI) only [↓PR,QR,simprocAttr,↓n16c13,(cells_of_heap hp1).1]
 by_cases h1:s.roles.length < 2
 · have d1:decide ((s.roles.length:Int) < 2)=true:=decide_eq_true (by omega)
   rw [if_pos (by omega)]
   simp (disch:=try exact DI) only [↓PR,QR,simprocAttr,d1,↓n16c12,↓n16c11,↓n16c10,↓n16c9]
   exact ⟨by trivial,E1⟩
 have d1:decide ((s.roles.length:Int) < 2)=false:=decide_eq_false (by omega)
 by_cases h2:4 < s.roles.length
 · have d2:decide ((s.roles.length:Int) > 4)=true:=decide_eq_true (by omega)
   rw [if_pos (by omega)]
   simp (disch:=try exact DI) only [↓PR,QR,simprocAttr,d1,d2,↓n16c12,↓n16c11,↓n16c10,↓n16c9]
   exact ⟨by trivial,E1⟩
 have d2:decide ((s.roles.length:Int) > 4)=false:=decide_eq_false (by omega)
 by_cases h3:s.cls < 1
 · have d3:decide (s.cls < 1)=true:=decide_eq_true h3
   rw [if_pos (by omega)]
   simp (disch:=try exact DI) only [↓PR,QR,simprocAttr,d1,d2,d3,↓n16c12,↓n16c11,↓n16c10,↓n16c9,(cells_of_heap hp1).1]
   exact ⟨by trivial,E1⟩
 have d3:decide (s.cls < 1)=false:=decide_eq_false h3
 by_cases h4:3 < s.cls
 · have d4:decide (s.cls > 3)=true:=decide_eq_true h4
   rw [if_pos (by omega)]
   simp (disch:=try exact DI) only [↓PR,QR,simprocAttr,d1,d2,d3,d4,↓n16c12,↓n16c11,↓n16c10,↓n16c9,(cells_of_heap hp1).1]
   exact ⟨by trivial,E1⟩
 have d4:decide (s.cls > 3)=false:=decide_eq_false h4
 by_cases h5:s.capacity < 1
 · have d5:decide (s.capacity < 1)=true:=decide_eq_true h5
   rw [if_pos (by omega)]
   simp (disch:=try exact DI) only [↓PR,QR,simprocAttr,d1,d2,d3,d4,d5,↓n16c12,↓n16c11,↓n16c10,↓n16c9,(cells_of_heap hp1).1]
   exact ⟨by trivial,E1⟩
 have d5:decide (s.capacity < 1)=false:=decide_eq_false h5
 by_cases h6:4 < s.capacity
 · have d6:decide (s.capacity > 4)=true:=decide_eq_true h6
   rw [if_pos (by omega)]
   simp (disch:=try exact DI) only [↓PR,QR,simprocAttr,d1,d2,d3,d4,d5,d6,↓n16c12,↓n16c11,↓n16c10,↓n16c9,(cells_of_heap hp1).1]
   exact ⟨by trivial,E1⟩
 have d6:decide (s.capacity > 4)=false:=decide_eq_false h6
 rw [if_neg (by omega)]
 simp (disch:=try exact DI) only [↓PR,QR,simprocAttr,d1,d2,d3,d4,d5,d6,↓n16c12,↓n16c11,↓n16c10,↓n16c9,↓n16c8,(cells_of_heap hp1).1]
 refine loop1_intro (fun a w=>∃ k:Nat,a = .int .i64 k∧k≤s.roles.length∧Ext w1 w∧rolesE [] s.roles 0=rolesE (s.roles.take k) (s.roles.drop k) (k:Int)) (fun a _=>s.roles.length - (intOf a).toNat) ⟨0,rfl,by omega,Ext.refl _,rfl⟩ ?_
 rintro _ w ⟨k,rfl,hk,e,hI⟩
 by_cases hlt:k < s.roles.length
 · obtain ⟨x,hx⟩:=getElem?_lt hlt
   obtain ⟨b,o,cs,rfl,_,hA,sv,cv,tv,rfl,i1,i2,i3⟩:=hel k x hx
   have dk:(k:Int) < (s.roles.length:Int):=by omega
   have dl:decide ((k:Int) < (s.roles.length:Int))=true:=decide_eq_true dk
   have hw:IntKind.i64.wrap ((k:Int)+1)=((k+1:Nat):Int):=by rw [wrap_ok (by omega) (by omega)];omega
   have f1:=SliceOf.oneCell i1
   have f2:=SliceOf.oneCell i2
   have f3:=SliceOf.oneCell i3
   rw [drop_at hx,rolesE_cons] at hI
   simp (disch:=try exact DI) only [↓PR,QR,simprocAttr,dl,↓n16c7,hA.c4 e]
   generalize hY:World.alloc w _=Y
   have oY:Y.heap[w.heap.size]?=some (.cells (rolCells x sv cv tv).toArray TRol (0,0)):=by rw [← hY];exact heap_new _ _ _
   have eY:Ext w Y:=by rw [← hY];exact (Ext.refl w).alloc _
   clear hY
   have EY:=e.trans eY
   refine zcr (Check_ret Y _ x ⟨sv,cv,tv,rfl,i1.ext EY,i2.ext EY,i3.ext EY⟩ (hF x (List.mem_of_getElem? hx)).1 (hF x (List.mem_of_getElem? hx)).2) fun w2 e2=>?_
   have E2:=EY.trans e2
   by_cases hc:(checkR x).2=0
   · have q2:((checkR x).2 != 0)=false:=by simp [hc]
     rw [if_neg (fun h=>h hc)] at hI
     simp (disch:=try exact DI) only [↓PR,QR,simprocAttr,↓n16c3,q2,↓n16c2,(cells_of_heap (E2.obj oV1)).1,(cells_of_heap (e2.obj oY)).1]
     rw [callV_func c58]
     refine zcr (CheckS1n_ret (s:=s) x.name (E2.obj hp1) (hR1.ext E2)) fun w3 e3=>?_
     have E3:=E2.trans e3
     have hnl:=named_lt (s:=s) hx
     cases ha:(s.roles.take k).any fun y=>decide (y.name=x.name) with
     | true =>
      rw [ha] at hnl
      rw [if_pos ha] at hI
      rw [hI]
      simp (disch:=try exact DI) only [↓PR,QR,simprocAttr,↓n16c1,hnl]
      exact ⟨by simp,E1.trans E3⟩
     | false =>
      rw [ha] at hnl
      rw [if_neg (by rw [ha];simp)] at hI
      simp (disch:=try exact DI) only [↓PR,QR,simprocAttr,↓n16c1,hnl,hw]
      exact ⟨⟨k+1,rfl,by omega,E3,by rw [hI,take_snoc hx];rfl⟩,meas_lt (kd := .i64) hlt⟩
   · have q2:((checkR x).2 != 0)=true:=by simp [hc]
     rw [if_pos hc] at hI
     rw [hI,if_pos hc]
     simp (disch:=try exact DI) only [↓PR,QR,simprocAttr,↓n16c3,q2]
     exact ⟨by trivial,E1.trans E2⟩
 · obtain rfl:k=s.roles.length:=by omega
   have dl:decide ((s.roles.length:Int) < (s.roles.length:Int))=false:=decide_eq_false (by omega)
   rw [List.drop_length] at hI
   have hI2:(rolesE [] s.roles 0).2=0:=by rw [hI];rfl
   have hrok:=rolesE_ok hI2
   rw [if_neg (fun h=>h hI2)]
   have E0:=E1.trans e
   clear hI hlt hk
   simp (disch:=try exact DI) only [↓PR,QR,simprocAttr,dl,↓n16c6,(cells_of_heap (e.obj hp1)).1]
   refine loop1_intro (fun a w'=>∃ k:Nat,a = .int .i64 k∧k≤s.roles.length∧Ext w w'∧peersE s.roles s.roles 0=peersE s.roles (s.roles.drop k) (k:Int)) (fun a _=>s.roles.length - (intOf a).toNat) ⟨0,rfl,by omega,Ext.refl _,rfl⟩ ?_
   rintro _ w2 ⟨k,rfl,hk,e2,hI⟩
   have E2:=e.trans e2
   by_cases hlt:k < s.roles.length
   · obtain ⟨x,hx⟩:=getElem?_lt hlt
     obtain ⟨b,o,cs,rfl,_,hA,sv,cv,tv,rfl,i1,i2,i3⟩:=hel k x hx
     have dk:(k:Int) < (s.roles.length:Int):=by omega
     have dl:decide ((k:Int) < (s.roles.length:Int))=true:=decide_eq_true dk
     have hw:IntKind.i64.wrap ((k:Int)+1)=((k+1:Nat):Int):=by rw [wrap_ok (by omega) (by omega)];omega
     have f1:=SliceOf.oneCell i1
     have f2:=SliceOf.oneCell i2
     have f3:=SliceOf.oneCell i3
     rw [drop_at hx,peersE_cons] at hI
     simp (disch:=try exact DI) only [↓PR,QR,simprocAttr,dl,↓n16c5,hA.c4 E2]
     generalize hY:World.alloc w2 _=Y
     have eY:Ext w2 Y:=by rw [← hY];exact (Ext.refl w2).alloc _
     clear hY
     have EY:=E2.trans eY
     have hkd:∀ y∈x.steps,1≤y.kind∧y.kind≤4:=fun y hy=>by
      obtain ⟨j,hj⟩:=List.getElem?_of_mem hy
      exact step_kind (hrok x (List.mem_of_getElem? hx)) hj
     refine callK_ret (index_Step_ret Y _ x.steps _ _ (lostB s) (i3.ext EY) c62 fun w u y hy e' hu=>?_) ?_
     · subst hu
       have Ey:=EY.trans e'
       exact CheckS2_rets (s:=s) y (Ey.obj oV1) (Ey.obj hp1) (hR1.ext Ey) (hkd y hy)
     rintro _ w3 ⟨rfl,e3⟩
     have E3:=EY.trans e3
     have hla:=lost_all (s:=s) hkd
     cases ha:x.steps.all (peerB s.roles) with
     | true =>
      rw [ha] at hla
      rw [if_pos ha] at hI
      have dg:decide (idx (lostB s) x.steps≥0)=false:=hla
      simp (disch:=try exact DI) only [↓PR,QR,simprocAttr,↓n16c4,dg,hw]
      exact ⟨⟨k+1,rfl,by omega,e2.trans (eY.trans e3),hI⟩,meas_lt (kd := .i64) hlt⟩
     | false =>
      rw [ha] at hla
      rw [if_neg (by rw [ha];simp)] at hI
      rw [hI]
      have dg:decide (idx (lostB s) x.steps≥0)=true:=hla
      simp (disch:=try exact DI) only [↓PR,QR,simprocAttr,↓n16c4,dg]
      exact ⟨by trivial,E1.trans E3⟩
   · obtain rfl:k=s.roles.length:=by omega
     have dl:decide ((s.roles.length:Int) < (s.roles.length:Int))=false:=decide_eq_false (by omega)
     rw [List.drop_length] at hI
     rw [hI]
     simp (disch:=try exact DI) only [↓PR,QR,simprocAttr,dl]
     exact ⟨by trivial,E1.trans E2⟩
def n29c1 (t6 t38 t44:Value) (next3:KW) (R:RT) (w:World):Prop :=
 opV Pg (Instr.extract t44 0) (panK R) w fun t45 w =>
 opV Pg (Instr.extract t44 1) (panK R) w fun t46 w =>
 opV Pg (Instr.buildSlice 73 1 #[(0,t45)]) (panK R) w fun t49 w =>
 opV Pg (Builtin.append_ #[73,73] 73 #[t6,t49]) (panK R) w fun t50 w =>
 opV Pg (binS .add 3 true t38 (.int .i64 1)) (panK R) w fun t51 w =>
 next3 t50 t51 w
def n29c2 (t6 t36 t38:Value) (next3:KW) (R:RT) (w:World):Prop :=
 opV Pg (Instr.indexAt 54 t36 t38) (panK R) w fun t40 w =>
 opV Pg (Instr.loadAt 26 t40) (panK R) w fun t41 w =>
 opV Pg (Instr.alloc 26 true (.tuple #[])) (panK R) w fun t8 w =>
 opU Pg (Instr.storeAt 26 t8 t41) (panK R) w fun w =>
 opV Pg (Instr.loadAt 26 t8) (panK R) w fun t43 w =>
 callK Pg 14 #[t43] (panK R) w fun t44 w =>
 n29c1 t6 t38 t44 next3 R w
def n29c3 (t6 t36 t37 t38:Value) (next3:KW) (R:RT) (w:World):Prop :=
 opV Pg (binS .lss 3 false t38 t37) (panK R) w fun t39 w =>
 condP t39 (
 n29c2 t6 t36 t38 next3 R w) (
 callK Pg 48 #[t6,(.string { data := #[10] })] (panK R) w fun t53 w =>
 R (.returned (.tuple #[t53,(.int .i64 0)])) w)
def n29c4 (t1 t34:Value) (R:RT) (w:World):Prop :=
 opV Pg (Instr.fieldAt 57 t1 1) (panK R) w fun t35 w =>
 opV Pg (Instr.loadAt 54 t35) (panK R) w fun t36 w =>
 opV Pg (Builtin.len_ #[54] 3 #[t36]) (panK R) w fun t37 w =>
 loop2 (fun t6 t38 w next3 =>
 n29c3 t6 t36 t37 t38 next3 R w) t34 (.int .i64 0) w
def n29c5 (t1 t19 t22 t23 t25 t31:Value) (C2:World→Prop) (R:RT) (w:World):Prop :=
 qV Pg C2 (Instr.indexAt 73 t23 t25) fun t26 =>
 qV Pg C2 (Instr.loadAt 9 t26) fun t27 =>
 qV Pg C2 (Instr.makeInterface 9 t27) fun t28 =>
 opV Pg (Instr.buildSlice 86 4 #[(0,t19),(1,t22),(2,t28),(3,t31)]) (panK R) w fun t32 w =>
 C2 w∧(
 callK Pg 46 #[t32] (panK R) w fun t33 w =>
 C2 w∧(
 opV Pg (Instr.buildSlice 73 1 #[(0,t33)]) (panK R) w fun t34 w =>
 C2 w∧(
 n29c4 t1 t34 R w)))
def n29c6 (t1:Value) (C1:World→Prop) (R:RT) (w:World):Prop :=
 qV Pg C1 (Instr.makeInterface 9 (.string { data := #[115,101,115,115,105,111,110] })) fun t19 =>
 qV Pg C1 (Instr.fieldAt 57 t1 0) fun t20 =>
 qV Pg C1 (Instr.loadAt 9 t20) fun t21 =>
 qV Pg C1 (Instr.makeInterface 9 t21) fun t22 =>
 qV Pg C1 (Instr.fieldAt 57 t1 2) fun t24 =>
 qV Pg C1 (Instr.loadAt 55 t24) fun t25 =>
 qV Pg C1 (Instr.fieldAt 57 t1 3) fun t29 =>
 qV Pg C1 (Instr.loadAt 3 t29) fun t30 =>
 qV Pg C1 (Instr.makeInterface 3 t30) fun t31 =>
 callK Pg 63 #[] (panK R) w fun t23 w =>
 narrowK C1 w fun C2 w =>
 n29c5 t1 t19 t22 t23 t25 t31 C2 R w
def n29c7 (t1 t13:Value) (R:RT) (w:World):Prop :=
 opV Pg (Instr.extract t13 0) (panK R) w fun t14 w =>
 opV Pg (Instr.extract t13 1) (panK R) w fun t15 w =>
 opV Pg (binS .neq 29 true t15 (.int .i64 0)) (panK R) w fun t17 w =>
 condP t17 (
 R (.returned (.tuple #[(.string { data := #[] }),t15])) w) (
 drawK w fun C1 w =>
 n29c6 t1 C1 R w)
def n29 (t0:Value) (R:RT) (w:World):Prop :=
 opV Pg (Instr.box 57 t0) (panK R) w fun t1 w =>
 opV Pg (Instr.loadAt 57 t1) (panK R) w fun t12 w =>
 callK Pg 26 #[t12] (panK R) w fun t13 w =>
 n29c7 t1 t13 R w
theorem n29s {t0:Value} {R:RT} {w:World} (h:n29 t0 R w):Calls Pg 28 #[t0] w R:=by
 refine yD Tryz.func28 ?_
 refine zs<|zr<|yv h fun _ w h=>zm<|zm<|zn<|zk<|zs<|zs<|zr<|yv h fun _ w h=>yc h c26 fun _ w h=>zm<|yv h fun _ w h=>yv h fun _ w h=>?_
 refine zm<|zm<|zn<|zk<|zs<|zr<|zm<|yb h fun _ w h=>zn<|zk<|yC h (fun h=>zs<|zr<|zm<|zm<|zm<|zn<|zk<|sim_ret<|sim_then_ret<|body_ret2 rfl rfl rfl h) fun h=>sim_skip<|zk<|zs ?_
 refine yh [6,19,20,21,22,23,24,25,26,27,28,29,30,31,32,33,34] h fun C hC h=>ye 0 hC h fun _ h=>?_
 refine ye 1 hC h fun _ h=>?_
 refine ye 2 hC h fun _ h=>?_
 refine ye 3 hC h fun _ h=>?_
 refine ye 5 hC h fun _ h=>?_
 refine ye 6 hC h fun _ h=>?_
 refine ye 10 hC h fun _ h=>?_
 refine ye 11 hC h fun _ h=>?_
 refine ye 12 hC h fun _ h=>?_
 refine yr 4 ?_
 refine yc h c63 fun _ w h=>zn ?_
 obtain ⟨C2,hs,hC,h⟩:=h
 refine ⟨C2,hs,hC,?_⟩
 refine ye 7 hC h fun _ h=>?_
 refine ye 8 hC h fun _ h=>?_
 refine ye 9 hC h fun _ h=>?_
 refine yo 13 ?_
 refine yS h fun _ w h=>zn ?_
 obtain ⟨hC,h⟩:=h
 refine ⟨hC,?_⟩
 refine yo 14 ?_
 refine yc h c46 fun _ w h=>zn ?_
 obtain ⟨hC,h⟩:=h
 refine ⟨hC,?_⟩
 refine yo 15 ?_
 refine yS h fun _ w h=>zn ?_
 obtain ⟨hC,h⟩:=h
 refine ⟨hC,?_⟩
 refine yw 16 hC ?_
 refine yz<|zk<|zs<|zs<|zr<|yv h fun _ w h=>yv h fun _ w h=>yx h fun _ w h=>zm<|zn<|zk<|sim_block<|yl2 [6,8,9,10,38,39,40,41,42,43,44,45,46,47,48,49,50,51] 6 38 h fun σ w next h=>zs<|zr ?_
 refine yb h fun _ w h=>zn<|zk<|zs<|yC h (fun h=>?_) fun h=>?_
 · refine sim_skip<|zk<|zs<|sim_block<|zs<|zr<|yv h fun _ w h=>yv h fun _ w h=>yv h fun _ w h=>yu h fun w h=>zn<|zk<|zs<|zr<|yv h fun _ w h=>?_
   refine yc h c14 fun _ w h=>zm<|yv h fun _ w h=>yv h fun _ w h=>zm<|zm<|zn<|zk<|zr<|zm<|zm<|yS h fun _ w h=>yx h fun _ w h=>zm<|zn ?_
   exact sim_block_normal<|zk<|zr<|yb h fun _ w h=>zm<|zn<|zk<|⟨rfl,h⟩
 exact sim_exit<|sim_then_exit<|sim_then_exit<|sim_block_hit<|zk<|zs<|zr<|zm<|yc h c48 fun _ w h=>zm<|zm<|zn<|zk<|sim_ret<|body_ret2 rfl rfl rfl h
theorem line_small {l:List AnyD} (h:∀ x∈l,(wordA x).size≤100) (hl:l.length≤20):(lineA l).size≤2020:=by
 unfold lineA
 refine Nat.le_trans (joinW_size (B:=100) fun x hx=>?_) ?_
 · obtain ⟨y,hy,rfl⟩:=List.mem_map.1 hx
   exact h y hy
 · rw [List.length_map]
   have:(⟨#[32]⟩:ByteArray).size=1:=rfl
   rw [this]
   omega
theorem dec100 {n:Int} (h:Num10 n):(decB n).size≤100:=by
 have:=(szb_dec h).le
 omega
theorem name100 {x:ByteArray} (h:nameB x=true):x.size≤100:=(szb_name h).le
theorem text_small {r:RolD} (h:(checkR r).2=0):(textP r).size≤300000:=by
 have hr:=check_rd h
 obtain ⟨_,⟨l1,_⟩,⟨⟨_,l2⟩,_⟩,l3,_⟩:=check_parts h
 have hw:∀ x∈linesR r,x.size≤2020:=by
  intro x hx
  unfold linesR at hx
  simp only [List.mem_append,List.mem_singleton,List.mem_map] at hx
  rcases hx with ((rfl | ⟨c,hc,rfl⟩) | ⟨c,hc,rfl⟩) | ⟨c,hc,rfl⟩
  · refine line_small (fun y hy=>?_) (by simp)
    simp only [List.mem_cons,List.not_mem_nil,or_false] at hy
    rcases hy with rfl | rfl
    · show (⟨#[114,111,108,101]⟩:ByteArray).size≤100;decide
    · exact name100 hr.nm
  · refine line_small (fun y hy=>?_) (by simp [cntL])
    unfold cntL at hy
    simp only [List.mem_cons,List.not_mem_nil,or_false] at hy
    rcases hy with rfl | rfl | rfl
    · show (⟨#[99,111,117,110,116,101,114]⟩:ByteArray).size≤100;decide
    · exact name100 (hr.cs c hc).1
    · exact dec100 (hr.cs c hc).2
  · refine line_small (fun y hy=>?_) (sta_len c)
    obtain ⟨s1,s2,s3⟩:=hr.ss c hc
    unfold staL at hy
    simp only [List.mem_append,List.mem_cons,List.not_mem_nil,or_false] at hy
    rcases hy with ((rfl | rfl) | hy) | hy
    · show (⟨#[115,116,97,116,101]⟩:ByteArray).size≤100;decide
    · exact name100 s1
    · split at hy
      · simp only [List.mem_cons,List.not_mem_nil,or_false] at hy
        rcases hy with rfl | rfl
        · show (⟨#[119,97,105,116]⟩:ByteArray).size≤100;decide
        · exact dec100 (by unfold Num10;omega)
      · cases hy
    · split at hy
      · simp only [List.mem_cons,List.not_mem_nil,or_false] at hy
        subst hy
        show (⟨#[102,105,110,97,108]⟩:ByteArray).size≤100;decide
      · cases hy
  · refine line_small (fun y hy=>?_) (stp_len c)
    obtain ⟨s1,s2,s3,s4,s5⟩:=hr.ts c hc
    unfold stpL stpL1 stpC at hy
    simp only [List.mem_append,List.mem_cons,List.not_mem_nil,or_false] at hy
    rcases hy with ((rfl | rfl | rfl | rfl) | hy) | hy
    · show (⟨#[115,116,101,112]⟩:ByteArray).size≤100;decide
    · exact name100 s1
    · exact name100 s2
    · exact kwB_size _
    · split at hy
      · rename_i hs
        rw [if_pos hs] at s4
        simp only [List.mem_cons,List.not_mem_nil,or_false] at hy
        rcases hy with rfl | rfl
        · exact name100 s4.1
        · exact name100 s4.2
      · cases hy
    · split at hy
      · rename_i hs
        rw [if_neg (show ¬ c.counter=ByteArray.empty from hs)] at s5
        simp only [List.mem_cons,List.not_mem_nil,or_false] at hy
        rcases hy with rfl | rfl | rfl | rfl | rfl
        · show (⟨#[119,104,101,110]⟩:ByteArray).size≤100;decide
        · exact name100 s5.1
        · exact dec100 s5.2.1
        · exact dec100 s5.2.2.1
        · exact dec100 s5.2.2.2
      · cases hy
 rw [textP_eq]
 refine Nat.le_trans (joinW_size hw) ?_
 have:(⟨#[10]⟩:ByteArray).size=1:=rfl
 have hln:(linesR r).length≤109:=by unfold linesR;simp only [List.length_append,List.length_map,List.length_cons,List.length_nil];omega
 rw [this]
 exact Nat.le_trans (Nat.mul_le_mul_right _ hln) (by decide)
theorem classB_size (k:Int):(classB k).size≤100:=by
 unfold classB
 split
 · decide
 · split
   · decide
   · split<;>decide
abbrev clsCells:List Value:=[.string ⟨#[]⟩,.string ⟨#[111,114,100,101,114,101,100]⟩,.string ⟨#[109,105,120,101,100]⟩,.string ⟨#[108,111,115,115,121]⟩]
theorem classes_ret (w0:World):Ret Pg 63 #[] w0 fun r w'=>r = .slice (some ⟨w0.heap.size,0,none⟩) 4 4∧w'.heap[w0.heap.size]?=some (.cells clsCells.toArray 9 (0,0))∧w'.heap.size=w0.heap.size+1∧Ext w0 w':=by
 refine n32s (R:=retR _) ?_;unfold n32
 simp (disch:=try exact DI) only [↓PR,QR,simprocAttr]
 exact ⟨by trivial,by trivial,by trivial,(Ext.refl w0).alloc _⟩
theorem cls_cell {w:World} {b:Nat} (h:w.heap[b]?=some (.cells clsCells.toArray 9 (0,0))) {n:Nat} (h1:1≤n) (h2:n≤3):w.cell? ⟨b,0+n*1,none⟩=some (.string (classB n)):=by
 rw [(cells_of_heap h).1]
 have:n=1∨n=2∨n=3:=by omega
 rcases this with h | h | h<;>subst h<;>rfl
theorem OkFit {r:RolD} (h:RolOk r):RolFit r:=⟨fun x hx=>(h.2.2.2.1 x hx).1,h.2.2.2.2⟩
theorem PrintSession_ret (w0:World) (v:Value) (s:SesD) (hs:SesVal w0 v s) (hF:∀ r∈s.roles,RolOk r) (hl:s.roles.length≤1000000000) (hT:TabOK w0):Ret Pg 28 #[v] w0 fun u w'=>u = .tuple #[.string (printS s),.int .i64 (checkS s).2]∧Ext w0 w':=by
 obtain ⟨rv,rfl,hR⟩:=hs
 have o1:=SliceOf.oneCell hR
 refine n29s (R:=retR _) ?_;unfold n29
 rw [op_boxA]
 have hp:=heap_new w0 (sesCells s rv).toArray TSes
 have eW:Ext w0 (w0.alloc (.cells (sesCells s rv).toArray TSes)):=ee
 generalize (w0.alloc (.cells (sesCells s rv).toArray TSes))=W at hp eW ⊢
 generalize w0.heap.size=p at hp ⊢
 simp (disch:=try exact DI) only [↓PR,QR,simprocAttr,(cells_of_heap hp).1]
 refine zcr (CheckSession_ret W _ s ⟨rv,rfl,hR.ext eW⟩ (fun r hr=>OkFit (hF r hr)) hl) fun w1 e1=>?_
 have E1:=eW.trans e1
 have hp1:=e1.obj hp
 unfold printS
 by_cases hc:(checkS s).2=0
 case neg =>
  have d1:((checkS s).2 != 0)=true:=by simp [hc]
  rw [if_neg hc]
  simp (disch:=try exact DI) only [↓PR,QR,simprocAttr,↓n29c7,d1]
  exact ⟨by trivial,E1⟩
 have ho:=check_ses hc
 have ln:=ho.n2
 rw [if_pos hc,hc]
 simp (disch:=try exact DI) only [↓PR,QR,simprocAttr,↓n29c7]
 refine drawK_intro ?_
 have eD:Ext w1 (Sw.drew w1):=(Ext.refl w1).drew
 generalize Sw.drew w1=D at eD ⊢
 have ED:=E1.trans eD
 have hpD:=eD.obj hp1
 unfold n29c6
 simp (disch:=try exact DI) only [↓PR,QR,simprocAttr,(cells_of_heap hpD).1]
 refine callK_ret (classes_ret D) ?_
 rintro _ w2 ⟨rfl,o2,_,e2⟩
 have E2:=ED.trans e2
 refine narrowK_EC e2 ?_
 obtain ⟨kn,hkn⟩:∃ kn:Nat,s.cls=kn:=⟨s.cls.toNat,by have:=ho.c1;omega⟩
 have hidx:∀ K:Value→Prop,qV Pg (EC w2) (Instr.indexAt 73 (.slice (some ⟨D.heap.size,0,none⟩) 4 4) (.int .i64 (kn:Int))) K=K (.pointer (some ⟨D.heap.size,0+kn*1,none⟩)):=fun K=>qV_of fun QP w k=>op_indexN Tryz.underlying73 ty9 D.heap.size 0 4 4 .i64 kn (by have:=ho.c2;omega)
 have hcl:=cls_cell o2 (n:=kn) (by have:=ho.c1;omega) (by have:=ho.c2;omega)
 unfold n29c5
 rw [hkn,hidx]
 generalize 0+kn*1=o at hcl
 simp (disch:=try exact DI) only [↓PR,QR,simprocAttr,hcl]
 generalize hY:World.alloc w2 _=Y
 have eY:Ext w2 Y:=by rw [← hY];exact (Ext.refl w2).alloc _
 have oY:Y.heap[w2.heap.size]?=some (.cells ((sesH s).map anyV).toArray 20 (0,0)):=by rw [← hY];unfold sesH;rw [hkn];exact heap_new _ _ _
 clear hY
 refine ⟨eY,?_⟩
 have OA:OwnA Y w2.heap.size (.slice (some ⟨w2.heap.size,0,none⟩) 4 4) (sesH s):=own_anyH oY (Nat.le_refl _) (by simp [sesH])
 have okH:∀ y∈sesH s,OkA y:=by
  intro y hy
  unfold sesH at hy
  simp only [List.mem_cons,List.not_mem_nil,or_false] at hy
  rcases hy with rfl | rfl | rfl | rfl
  · show kSession.size≤100000;decide
  · have:=name100 ho.nm;show s.name.size≤100000;omega
  · have:=classB_size s.cls;show (classB s.cls).size≤100000;omega
  · have h1:=ho.p1;have h2:=ho.p2;show _∧_;exact ⟨by omega,by omega⟩
 have zH:(lineA (sesH s)).size≤2020:=by
  refine line_small (fun y hy=>?_) (by simp [sesH])
  unfold sesH at hy
  simp only [List.mem_cons,List.not_mem_nil,or_false] at hy
  rcases hy with rfl | rfl | rfl | rfl
  · show kSession.size≤100;decide
  · exact name100 ho.nm
  · exact classB_size _
  · exact dec100 (by have h1:=ho.p1;have h2:=ho.p2;unfold Num10;omega)
 refine zcr (line_ret Y _ _ (own_anys OA) (hT.ext (E2.trans eY)) okH (by simp [sesH]) (by simp [sesH])) fun w3 e3=>?_
 refine ⟨eY.trans e3,?_⟩
 have E3:=E2.trans (eY.trans e3)
 simp (disch:=try exact DI) only [↓PR,QR,simprocAttr]
 generalize hZ:World.alloc w3 _=Z
 have eZ:Ext w3 Z:=by rw [← hZ];exact (Ext.refl w3).alloc _
 generalize hhd:lineA (sesH s)=hd at *
 have OZ:OwnS Z w3.heap.size (.slice (some ⟨w3.heap.size,0,none⟩) 1 1) [hd]:=by rw [← hZ];exact OwnE.new w3 9 1 strEnc [hd] (fun _=>rfl) (by simp)
 clear hZ
 refine ⟨eY.trans (e3.trans eZ),?_⟩
 have EZ:=E3.trans eZ
 have hp3:=(e2.trans (eY.trans e3)).obj hpD
 have hR3:=hR.ext E3
 have tb3:=hT.ext E3
 have sZ:w3.heap.size≤Z.heap.size:=eZ.size
 generalize hbs:w3.heap.size=base at *
 obtain ⟨A,c,rfl,_,_,_,hel⟩:=SliceOf.open hR3
 unfold n29c4
 simp (disch:=try exact DI) only [↓PR,QR,simprocAttr,(cells_of_heap (eZ.obj hp3)).1]
 refine loop2_intro (fun a b w=>∃ k:Nat,b = .int .i64 k∧k≤s.roles.length∧Ext w3 w∧OwnS w base a ([hd]++(s.roles.take k).map printR)∧base≤w.heap.size) (fun _ b _=>s.roles.length - (intOf b).toNat) ⟨0,rfl,by omega,eZ,by simpa using OZ,sZ⟩ ?_
 rintro a _ w ⟨k,rfl,hk,e,hO,hb⟩
 unfold n29c3
 have Ew:=E3.trans e
 by_cases hlt:k < s.roles.length
 · obtain ⟨x,hx⟩:=getElem?_lt hlt
   obtain ⟨b,o,cs,rfl,_,hA,sv,cv,tv,rfl,i1,i2,i3⟩:=hel k x hx
   have dk:(k:Int) < (s.roles.length:Int):=by omega
   have d1:decide ((k:Int) < (s.roles.length:Int))=true:=decide_eq_true dk
   have hw:IntKind.i64.wrap ((k:Int)+1)=((k+1:Nat):Int):=by rw [wrap_ok (by omega) (by omega)];omega
   have f1:=SliceOf.oneCell i1
   have f2:=SliceOf.oneCell i2
   have f3:=SliceOf.oneCell i3
   simp (disch:=try exact DI) only [↓PR,QR,simprocAttr,d1,↓n29c2,hA.c4 e]
   generalize hV:World.alloc w _=V
   have eV:Ext w V:=by rw [← hV];exact (Ext.refl w).alloc _
   clear hV
   have EV:=e.trans eV
   refine zcr (Print_ret V _ x ⟨sv,cv,tv,rfl,i1.ext EV,i2.ext EV,i3.ext EV⟩ (hF x (List.mem_of_getElem? hx)) (tb3.ext EV)) fun w4 e4=>?_
   have e04:=eV.trans e4
   simp (disch:=try exact DI) only [↓PR,QR,simprocAttr,↓n29c1]
   generalize hX:World.alloc w4 _=X
   have eX:Ext w4 X:=by rw [← hX];exact (Ext.refl w4).alloc _
   have oX:X.cell? ⟨w4.heap.size,0,none⟩=some (.string (printR x)):=by rw [← hX,(cells_of_heap (heap_new _ _ _)).1];rfl
   clear hX
   have e0X:=e04.trans eX
   have s0X:=e0X.size
   refine append_str (printR x) (hO.ext e0X) oX (by omega) (by simp;omega) ?_
   intro v' w' hO' hg
   have hlo:∀ b,a.ownBlock=some b→base≤b:=fun b hb=>(World.ownsRow.lt hO b hb).1
   have e':Ext w3 w':=(e.trans e0X).grown hg fun b hb=>by rw [hbs];exact hlo b hb
   have sg:=hg.size
   simp (disch:=try exact DI) only [↓PR,QR,simprocAttr,hw]
   exact ⟨⟨k+1,rfl,by omega,e',by rw [take_snoc hx,List.map_append,← List.append_assoc];exact hO',by omega⟩,meas_lt (kd := .i64) hlt⟩
 · obtain rfl:k=s.roles.length:=by omega
   have d1:decide ((s.roles.length:Int) < (s.roles.length:Int))=false:=decide_eq_false (by omega)
   rw [List.take_length] at hO
   simp (disch:=try exact DI) only [↓PR,QR,simprocAttr,d1]
   refine callK_ret (Join_ret hO ⟨#[10]⟩ (by simp) (by simp;omega) (Nat.le_trans (joinW_size (B:=300000) fun y hy=>?_) ?_)) ?_
   · simp only [List.mem_append,List.mem_singleton,List.mem_map] at hy
     rcases hy with rfl | ⟨x,hx,rfl⟩
     · omega
     · rw [printR_eq (ho.rs x hx)];exact text_small (ho.rs x hx)
   · have h1:(⟨#[10]⟩:ByteArray).size=1:=rfl
     have h2:([hd]++s.roles.map printR).length≤5:=by simp;omega
     rw [h1]
     exact Nat.le_trans (Nat.mul_le_mul_right _ h2) (by decide)
   rintro _ w4 ⟨rfl,e4⟩
   simp (disch:=try exact DI) only [↓PR,QR,simprocAttr]
   exact ⟨by trivial,Ew.trans e4⟩
end Go.Proofs.YtngflmjncplkaaaGreatDoor
