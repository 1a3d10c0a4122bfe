/-
  phrasebooklaw28.RoleChecks returns true for every role, and leaves its arguments as they were; no condition is asked but that the tables of the library lie as the program lays them (the card ties them).
-/
import Derived.Test.YtngflmjncplkaaaGreatDoorUb4
set_option linter.all false
set_option maxHeartbeats 4000000
set_option maxRecDepth 100000
namespace Go.Proofs.YtngflmjncplkaaaGreatDoor
open Sw
open Go.RowKit (intOf Below)
def StpFew (x:StpD):Prop:=x.fr.size≤60∧x.to.size≤60∧x.message.size≤60∧x.peer.size≤60∧x.counter.size≤60
structure Few (r:RolD):Prop where
 nc:r.counters.length≤6
 ns:r.states.length≤30
 nt:r.steps.length≤90
 nm:r.name.size≤60
 cs:∀ c∈r.counters,c.name.size≤60
 ss:∀ c∈r.states,c.name.size≤60
 ts:∀ x∈r.steps,StpFew x
theorem all_below {α:Type} {l:List α} {P:α→Prop} (h:∀ (j:Nat) y,j < l.length→l[j]?=some y→P y):∀ x∈l,P x:=fun x hx=>by
 obtain ⟨j,hj,e⟩:=List.getElem_of_mem hx
 exact h j x hj (by rw [List.getElem?_eq_getElem hj,e])
theorem below_succ {α:Type} {l:List α} {P:α→Prop} {k:Nat} {x:α} (hb:∀ (j:Nat) y,j < k→l[j]?=some y→P y) (hx:l[k]?=some x) (hp:P x):∀ (j:Nat) y,j < k+1→l[j]?=some y→P y:=fun j y hj hy=>by
 rcases Nat.lt_or_ge j k with h | h
 · exact hb j y h hy
 · obtain rfl:j=k:=by omega
   rw [hx] at hy
   injection hy with hy
   exact hy ▸ hp
abbrev LrgR (w0:World) (r:RolD):Ending→World→Prop:=retR fun u w'=>Ext w0 w'∧∃ b,u = .bool b∧(b=false→Few r)
theorem large_ret (w0:World) (v:Value) (r:RolD) (hr:RolVal w0 v r):Ret Pg 10 #[v] w0 fun u w'=>Ext w0 w'∧∃ b,u = .bool b∧(b=false→Few r):=by
 obtain ⟨sv,cv,tv,rfl,hS,hC,hT,o1,o2,o3⟩:=hr.op
 obtain ⟨A1,c1,rfl,_,_,_,hel1⟩:=SliceOf.open hS
 obtain ⟨A2,c2,rfl,_,_,_,hel2⟩:=SliceOf.open hC
 obtain ⟨A3,c3,rfl,_,_,_,hel3⟩:=SliceOf.open hT
 refine n9s (R:=retR _) ?_;unfold n9
 rw [op_boxA]
 have hp:=heap_new w0 (rolCells r (.slice A1 r.states.length c1) (.slice A2 r.counters.length c2) (.slice A3 r.steps.length c3)).toArray 26
 have eW:Ext w0 (w0.alloc (.cells (rolCells r (.slice A1 r.states.length c1) (.slice A2 r.counters.length c2) (.slice A3 r.steps.length c3)).toArray 26)):=ee
 generalize (w0.alloc (.cells (rolCells r (.slice A1 r.states.length c1) (.slice A2 r.counters.length c2) (.slice A3 r.steps.length c3)).toArray 26))=W at hp eW ⊢
 generalize w0.heap.size=p at hp ⊢
 have yes:∀ w,Ext W w→Ext w0 w∧∃ b,Value.bool true = .bool b∧(b=false→Few r):=fun w e=>⟨eW.trans e,true,rfl,fun h=>by cases h⟩
 by_cases h1:6 < r.counters.length
 · have d1:decide ((r.counters.length:Int) > 6)=true:=decide_eq_true (by omega)
   simp (disch:=try exact DI) only [↓PR,QR,simprocAttr,(cells_of_heap hp).1,d1,↓n9c11,↓n9c10]
   exact yes _ (Ext.refl _)
 have d1:decide ((r.counters.length:Int) > 6)=false:=decide_eq_false (by omega)
 by_cases h2:30 < r.states.length
 · have d2:decide ((r.states.length:Int) > 30)=true:=decide_eq_true (by omega)
   simp (disch:=try exact DI) only [↓PR,QR,simprocAttr,(cells_of_heap hp).1,d1,d2,↓n9c11,↓n9c10]
   exact yes _ (Ext.refl _)
 have d2:decide ((r.states.length:Int) > 30)=false:=decide_eq_false (by omega)
 by_cases h3:90 < r.steps.length
 · have d3:decide ((r.steps.length:Int) > 90)=true:=decide_eq_true (by omega)
   simp (disch:=try exact DI) only [↓PR,QR,simprocAttr,(cells_of_heap hp).1,d1,d2,d3,↓n9c11,↓n9c10]
   exact yes _ (Ext.refl _)
 have d3:decide ((r.steps.length:Int) > 90)=false:=decide_eq_false (by omega)
 by_cases h4:60 < r.name.size
 · have d4:decide ((r.name.size:Int) > 60)=true:=decide_eq_true (by omega)
   simp (disch:=try exact DI) only [↓PR,QR,simprocAttr,(cells_of_heap hp).1,d1,d2,d3,d4,↓n9c11,↓n9c10]
   exact yes _ (Ext.refl _)
 have d4:decide ((r.name.size:Int) > 60)=false:=decide_eq_false (by omega)
 have steps:∀ w,Ext W w→(∀ c∈r.counters,c.name.size≤60)→(∀ c∈r.states,c.name.size≤60)→loop1 (fun t5 w next6=>n9c5 (.pointer (some ⟨p,0,none⟩)) t5 next6 (LrgR w0 r) w) (.int .i64 0) w:=by
  intro w e hcs hss
  refine loop1_intro (fun a w=>∃ k:Nat,a = .int .i64 k∧k≤r.steps.length∧Ext W w∧∀ (j:Nat) y,j < k→r.steps[j]?=some y→StpFew y) (fun a _=>r.steps.length - (intOf a).toNat) ⟨0,rfl,by omega,e,fun j y h=>by omega⟩ ?_
  rintro _ w ⟨k,rfl,hk,e,hb⟩
  unfold n9c5
  by_cases hlt:k < r.steps.length
  · obtain ⟨x,hx⟩:=getElem?_lt hlt
    obtain ⟨b,o,cs,rfl,_,hA,rfl⟩:=hel3 k x hx
    have dk:(k:Int) < (r.steps.length:Int):=by omega
    have d1:decide ((k:Int) < (r.steps.length:Int))=true:=decide_eq_true dk
    have hw:IntKind.i64.wrap ((k:Int)+1)=((k+1:Nat):Int):=by rw [wrap_ok (by omega) (by omega)];omega
    simp (disch:=try exact DI) only [↓PR,QR,simprocAttr,(cells_of_heap (e.obj hp)).1,d1,↓n9c4,hA.c9 (eW.trans e)]
    generalize hV:World.alloc w _=V
    have eV:Ext w V:=by rw [← hV];exact (Ext.refl w).alloc _
    have oV:V.heap[w.heap.size]?=some (.cells (stpCells x).toArray 71 (0,0)):=by rw [← hV];exact heap_new _ _ _
    clear hV
    have more:StpFew x→(∃ k':Nat,Value.int .i64 ((k+1:Nat):Int) = .int .i64 k'∧k'≤r.steps.length∧Ext W V∧∀ (j:Nat) y,j < k'→r.steps[j]?=some y→StpFew y):=fun h=>⟨k+1,rfl,by omega,e.trans eV,below_succ hb hx h⟩
    have g:∀ n:Nat,n≤60→decide ((n:Int) > 60)=false:=fun n hn=>decide_eq_false (by omega)
    have g':∀ n:Nat,¬ n≤60→decide ((n:Int) > 60)=true:=fun n hn=>decide_eq_true (by omega)
    by_cases f1:x.fr.size≤60
    case neg =>
     simp (disch:=try exact DI) only [↓PR,QR,simprocAttr,(cells_of_heap oV).1,g' _ f1,↓n9c3,↓n9c2,↓n9c1]
     exact yes _ (e.trans eV)
    by_cases f2:x.to.size≤60
    case neg =>
     simp (disch:=try exact DI) only [↓PR,QR,simprocAttr,(cells_of_heap oV).1,g _ f1,g' _ f2,↓n9c3,↓n9c2,↓n9c1]
     exact yes _ (e.trans eV)
    by_cases f3:x.message.size≤60
    case neg =>
     simp (disch:=try exact DI) only [↓PR,QR,simprocAttr,(cells_of_heap oV).1,g _ f1,g _ f2,g' _ f3,↓n9c3,↓n9c2,↓n9c1]
     exact yes _ (e.trans eV)
    by_cases f4:x.peer.size≤60
    case neg =>
     simp (disch:=try exact DI) only [↓PR,QR,simprocAttr,(cells_of_heap oV).1,g _ f1,g _ f2,g _ f3,g' _ f4,↓n9c3,↓n9c2,↓n9c1]
     exact yes _ (e.trans eV)
    by_cases f5:x.counter.size≤60
    case neg =>
     simp (disch:=try exact DI) only [↓PR,QR,simprocAttr,(cells_of_heap oV).1,g _ f1,g _ f2,g _ f3,g _ f4,g' _ f5,↓n9c3,↓n9c2,↓n9c1]
     exact yes _ (e.trans eV)
    simp (disch:=try exact DI) only [↓PR,QR,simprocAttr,(cells_of_heap oV).1,g _ f1,g _ f2,g _ f3,g _ f4,g _ f5,hw,↓n9c3,↓n9c2,↓n9c1]
    exact ⟨more ⟨f1,f2,f3,f4,f5⟩,meas_lt (kd := .i64) hlt⟩
  · obtain rfl:k=r.steps.length:=by omega
    have d1:decide ((r.steps.length:Int) < (r.steps.length:Int))=false:=decide_eq_false (by omega)
    simp (disch:=try exact DI) only [↓PR,QR,simprocAttr,(cells_of_heap (e.obj hp)).1,d1]
    exact ⟨eW.trans e,false,rfl,fun _=>⟨by omega,by omega,by omega,by omega,hcs,hss,all_below hb⟩⟩
 have states:∀ w,Ext W w→(∀ c∈r.counters,c.name.size≤60)→loop1 (fun t4 w next5=>n9c7 (.pointer (some ⟨p,0,none⟩)) t4 next5 (LrgR w0 r) w) (.int .i64 0) w:=by
  intro w e hcs
  refine loop1_intro (fun a w=>∃ k:Nat,a = .int .i64 k∧k≤r.states.length∧Ext W w∧∀ (j:Nat) y,j < k→r.states[j]?=some y→y.name.size≤60) (fun a _=>r.states.length - (intOf a).toNat) ⟨0,rfl,by omega,e,fun j y h=>by omega⟩ ?_
  rintro _ w ⟨k,rfl,hk,e,hb⟩
  unfold n9c7
  by_cases hlt:k < r.states.length
  · obtain ⟨x,hx⟩:=getElem?_lt hlt
    obtain ⟨b,o,cs,rfl,_,hA,rfl⟩:=hel1 k x hx
    have dk:(k:Int) < (r.states.length:Int):=by omega
    have d1:decide ((k:Int) < (r.states.length:Int))=true:=decide_eq_true dk
    have hw:IntKind.i64.wrap ((k:Int)+1)=((k+1:Nat):Int):=by rw [wrap_ok (by omega) (by omega)];omega
    by_cases f1:x.name.size≤60
    case neg =>
     have q1:decide ((x.name.size:Int) > 60)=true:=decide_eq_true (by omega)
     simp (disch:=try exact DI) only [↓PR,QR,simprocAttr,(cells_of_heap (e.obj hp)).1,d1,↓n9c6,hA.c3 (eW.trans e),q1]
     exact yes _ e
    have q1:decide ((x.name.size:Int) > 60)=false:=decide_eq_false (by omega)
    simp (disch:=try exact DI) only [↓PR,QR,simprocAttr,(cells_of_heap (e.obj hp)).1,d1,↓n9c6,hA.c3 (eW.trans e),q1,hw]
    exact ⟨⟨k+1,rfl,by omega,e,below_succ hb hx f1⟩,meas_lt (kd := .i64) hlt⟩
  · obtain rfl:k=r.states.length:=by omega
    have d1:decide ((r.states.length:Int) < (r.states.length:Int))=false:=decide_eq_false (by omega)
    simp (disch:=try exact DI) only [↓PR,QR,simprocAttr,(cells_of_heap (e.obj hp)).1,d1]
    exact steps _ e hcs (all_below hb)
 simp (disch:=try exact DI) only [↓PR,QR,simprocAttr,(cells_of_heap hp).1,d1,d2,d3,d4,↓n9c11,↓n9c10]
 refine loop1_intro (fun a w=>∃ k:Nat,a = .int .i64 k∧k≤r.counters.length∧Ext W w∧∀ (j:Nat) y,j < k→r.counters[j]?=some y→y.name.size≤60) (fun a _=>r.counters.length - (intOf a).toNat) ⟨0,rfl,by omega,Ext.refl _,fun j y h=>by omega⟩ ?_
 rintro _ w ⟨k,rfl,hk,e,hb⟩
 unfold n9c9
 by_cases hlt:k < r.counters.length
 · obtain ⟨x,hx⟩:=getElem?_lt hlt
   obtain ⟨b,o,cs,rfl,_,hA,rfl⟩:=hel2 k x hx
   have dk:(k:Int) < (r.counters.length:Int):=by omega
   have d1:decide ((k:Int) < (r.counters.length:Int))=true:=decide_eq_true dk
   have hw:IntKind.i64.wrap ((k:Int)+1)=((k+1:Nat):Int):=by rw [wrap_ok (by omega) (by omega)];omega
   by_cases f1:x.name.size≤60
   case neg =>
    have q1:decide ((x.name.size:Int) > 60)=true:=decide_eq_true (by omega)
    simp (disch:=try exact DI) only [↓PR,QR,simprocAttr,(cells_of_heap (e.obj hp)).1,d1,↓n9c8,hA.c2 (eW.trans e),q1]
    exact yes _ e
   have q1:decide ((x.name.size:Int) > 60)=false:=decide_eq_false (by omega)
   simp (disch:=try exact DI) only [↓PR,QR,simprocAttr,(cells_of_heap (e.obj hp)).1,d1,↓n9c8,hA.c2 (eW.trans e),q1,hw]
   exact ⟨⟨k+1,rfl,by omega,e,below_succ hb hx f1⟩,meas_lt (kd := .i64) hlt⟩
 · obtain rfl:k=r.counters.length:=by omega
   have d1:decide ((r.counters.length:Int) < (r.counters.length:Int))=false:=decide_eq_false (by omega)
   simp (disch:=try exact DI) only [↓PR,QR,simprocAttr,(cells_of_heap (e.obj hp)).1,d1]
   exact states _ e (all_below hb)
theorem Few.sm {r:RolD} (h:Few r):∀ x∈r.steps,StpSm x:=fun x hx=>by
 obtain ⟨h1,h2,h3,h4,h5⟩:=h.ts x hx
 exact ⟨by omega,by omega,by omega,by omega,by omega⟩
theorem Few.ok {r:RolD} (h:Few r) (hi:RolIn r):RolOk r :=
 ⟨by have:=h.nm;omega,fun c hc=>⟨by have:=h.cs c hc;omega,hi.1 c hc⟩,fun c hc=>⟨by have:=h.ss c hc;omega,hi.2.1 c hc⟩,fun x hx=>⟨h.sm x hx,(hi.2.2 x hx).1,(hi.2.2 x hx).2.1,(hi.2.2 x hx).2.2⟩,by have:=h.nc;omega,by have:=h.ns;omega,by have:=h.nt;omega⟩
theorem printR_eq {r:RolD} (h:(checkR r).2=0):printR r=textP r:=by
 unfold printR
 rw [if_pos h,textP_eq]
theorem RoleChecks_ret (w0:World) (v:Value) (r:RolD) (hr:RolVal w0 v r) (hi:RolIn r) (hE:EnvOK w0):Ret Pg 3 #[v] w0 fun u w'=>u = .bool true∧Ext w0 w':=by
 obtain ⟨sv,cv,tv,rfl,hS,hC,hT,o1,o2,o3⟩:=hr.op
 refine n7s (R:=retR _) ?_;unfold n7
 rw [op_boxA]
 have hBW:=ElemAt.new (w:=w0) (rolCells r sv cv tv) (26)
 have eW:Ext w0 (w0.alloc (Obj.cells (List.toArray (rolCells r sv cv tv)) (26))):=(Ext.refl _).alloc _
 generalize (w0.alloc (Obj.cells (List.toArray (rolCells r sv cv tv)) (26)))=W at hBW eW ⊢
 generalize w0.heap.size=p at *
 have hV:∀ w,Ext W w→RolVal w (.agg (rolCells r sv cv tv).toArray) r:=fun w e=>⟨_,_,_,rfl,hS.ext (eW.trans e),hC.ext (eW.trans e),hT.ext (eW.trans e)⟩
 have E0:=Ext.refl W
 simp (disch:=try exact DI) only [↓PR,QR,simprocAttr,hBW.c4 E0]
 refine callK_ret (large_ret W _ r (hV W E0)) ?_
 rintro _ w1 ⟨e1,b,rfl,hb⟩
 cases b with
 | true =>
  simp (disch:=try exact DI) only [↓PR,QR,simprocAttr,↓n7c9]
  refine zcr (known_ret w1 (hE.ext (eW.trans e1))) fun w2 e2=>?_
  exact ⟨_,rfl,rfl,(eW.trans e1).trans e2⟩
 | false =>
 have hF:=hb rfl
 have hlen:r.counters.length≤1000000000∧r.states.length≤1000000000∧r.steps.length≤1000000000:=⟨by have:=hF.nc;omega,by have:=hF.ns;omega,by have:=hF.nt;omega⟩
 simp (disch:=try exact DI) only [↓PR,QR,simprocAttr,hBW.c4 e1,↓n7c9]
 refine zcr (Check_ret w1 _ r (hV w1 e1) hF.sm hlen) fun w2 e2=>?_
 have E2:=e1.trans e2
 simp (disch:=try exact DI) only [↓PR,QR,simprocAttr,hBW.c4 E2,↓n7c8]
 refine zcr (rCheck_ret w2 _ r (hV w2 E2) hlen) fun w3 e3=>?_
 have E3:=E2.trans e3
 simp (disch:=try exact DI) only [↓PR,QR,simprocAttr,hBW.c4 E3,↓n7c7]
 refine zcr (Print_ret w3 _ r (hV w3 E3) (hF.ok hi) (hE.tab.ext (eW.trans E3))) fun w4 e4=>?_
 have E4:=E3.trans e4
 have q1:((checkR r).1 != (checkR r).1)=false:=by simp
 have q2:((checkR r).2 != (checkR r).2)=false:=by simp
 simp (disch:=try exact DI) only [↓PR,QR,simprocAttr,↓n7c6,q1]
 refine callK_ret (num_ret w4 _) ?_
 rintro _ w5 ⟨rfl,rfl⟩
 simp (disch:=try exact DI) only [↓PR,QR,simprocAttr,↓n7c5,q1,q2]
 refine callK_ret (num_ret w5 _) ?_
 rintro _ w6 ⟨rfl,rfl⟩
 by_cases hc:(checkR r).2=0
 · have d1:((checkR r).2 != 0)=false:=by simp [hc]
   have d2:((checkR r).2 == 0)=true:=by simp [hc]
   simp (disch:=try exact DI) only [↓PR,QR,simprocAttr,q2,↓n7c4,↓n7c3,↓n7c2,d1,d2,hBW.c4 E4]
   refine zcr (rText_ret w6 _ r (hV w6 E4) (check_rd hc) ⟨by have:=hF.nc;omega,by have:=hF.ns;omega,by have:=hF.nt;omega⟩) fun w7 e7=>?_
   have q3:decide (printR r=textP r)=true:=by simp [printR_eq hc]
   simp (disch:=try exact DI) only [↓PR,QR,simprocAttr,d1,d2,q3,↓n7c1]
   refine zcr (known_ret w7 (hE.ext (eW.trans (E4.trans e7)))) fun w8 e8=>?_
   simp (disch:=try exact DI) only [↓PR,QR,simprocAttr,d1,d2,q3]
   exact ⟨by trivial,(eW.trans (E4.trans e7)).trans e8⟩
 · have d1:((checkR r).2 != 0)=true:=by simp [hc]
   have d2:((checkR r).2 == 0)=false:=by simp [hc]
   have q3:decide (printR r=⟨#[]⟩)=true:=by unfold printR;rw [if_neg hc];rfl
   simp (disch:=try exact DI) only [↓PR,QR,simprocAttr,q2,↓n7c4,↓n7c3,↓n7c2,↓n7c1,d1,d2,q3]
   refine zcr (known_ret w6 (hE.ext (eW.trans E4))) fun w8 e8=>?_
   simp (disch:=try exact DI) only [↓PR,QR,simprocAttr,d1,d2,q3]
   exact ⟨by trivial,(eW.trans E4).trans e8⟩
end Go.Proofs.YtngflmjncplkaaaGreatDoor
namespace Go.Proofs.YtngflmjncplkaaaGreatDoor
open Sw
open Go.RowKit Go.Deep
def role_laid:List (String×DataW Unit):=[("math/bits.deBruijn32tab", Rows.laid_math_bits_deBruijn32tab),("math/bits.deBruijn64tab", Rows.laid_math_bits_deBruijn64tab),("internal/strconv.uint64pow10", Rows.laid_internal_strconv_uint64pow10),("unicode/utf8.acceptRanges", Rows.laid_unicode_utf8_acceptRanges),("strconv.ErrRange", Rows.laid_strconv_ErrRange),("strconv.ErrSyntax", Rows.laid_strconv_ErrSyntax),("unicode/utf8.first", Rows.laid_unicode_utf8_first)]
theorem role_own:ownKnob Pg.godebug=none:=by kernel_rfl
theorem role_laidOut:laidOutB Pg=true:=by kernel_rfl
theorem role_met (os:Os) (args:Array Value):laidMetH Pg role_laid ((World.laidAll Pg os role_laid).forCall (fun _ _=>0) ⟨#[],args,[]⟩).memory:=by
 rw [MakeChecks.laidMetH_plain _ _ _ (by kernel_rfl)]
 exact laidMet_laidAll _ (by kernel_rfl) (by kernel_rfl)
theorem role_tab {W:World} (h:laidMetH Pg role_laid W):TabOK W:=by
 rw [MakeChecks.laidMetH_plain _ _ _ (by kernel_rfl)] at h
 have h3:=laidMet.tail (laidMet.tail h)
 have he:(Rows.laid_internal_strconv_uint64pow10:DataW Unit)=Go.Lib.tabData .u64 Go.Lib.pow10Tab:=by kernel_rfl
 rw [he] at h3
 obtain ⟨g,hg⟩:=Option.isSome_iff_exists.1 gPow
 have hty:(Pg.globals[g]?).map (·.type)=some 197:=by
  have h1:(Pg.globalNamed "internal/strconv.uint64pow10").bind (fun g=>(Pg.globals[g]?).map (·.type))=some 197:=by kernel_rfl
  rw [hg] at h1
  exact h1
 exact Go.Lib.tabIs_of_head hg hty Tryz.underlying197 Tryz.underlying161 (by kernel_rfl) (by kernel_rfl) h3
theorem role_star : "*" ++ "errors.errorString" = "*errors.errorString" := by decide
theorem role_rowErr (u:TypeId) (h:Pg.typeName? 3 u=some "*errors.errorString"):u=200 :=
 typeName_ptr_named (nm := "errors.errorString") (by rw [role_star];kernel_rfl) (by kernel_rfl) (by decide) u (by rw [role_star];exact h)
theorem role_env {W:World} (hs:W.ShapedOpen Pg) (h:laidMetH Pg role_laid W):EnvOK W:=by
 refine ⟨role_tab h,Go.Proofs.cell_of_shapedOpen_int (k := .i64) hs (of_decide_eq_true (by kernel_rfl)) (zero := #[.int .i64 0]) (t:=3) (by kernel_rfl) rfl (by kernel_rfl) (by kernel_rfl) Tryz.underlying3,?_,?_⟩
 · rw [MakeChecks.laidMetH_plain _ _ _ (by kernel_rfl)] at h
   have h5:=h.tail.tail.tail.tail.tail
   obtain ⟨a,s,hv,_⟩:=laid_sentinel (g:=1) h5 (by kernel_rfl) (by kernel_rfl) Tryz.underlying130 role_rowErr Tryz.underlying200 Tryz.underlying202 rfl rfl Tryz.underlying9 (by kernel_rfl) (by kernel_rfl)
   refine ⟨_,by rw [World.var?_cell (show Pg.globalNamed "strconv.ErrSyntax" = some 1 by kernel_rfl) hv 0];rfl,.inr ⟨_,_,rfl⟩⟩
 · rw [MakeChecks.laidMetH_plain _ _ _ (by kernel_rfl)] at h
   have h5:=h.tail.tail.tail.tail
   obtain ⟨a,s,hv,_⟩:=laid_sentinel (g:=2) h5 (by kernel_rfl) (by kernel_rfl) Tryz.underlying130 role_rowErr Tryz.underlying200 Tryz.underlying202 rfl rfl Tryz.underlying9 (by kernel_rfl) (by kernel_rfl)
   refine ⟨_,by rw [World.var?_cell (show Pg.globalNamed "strconv.ErrRange" = some 2 by kernel_rfl) hv 0];rfl,.inr ⟨_,_,rfl⟩⟩
theorem handed_and {H:Type} {enc:TypeId×Value→H} {a:Assume} {C:Checked} {os:Os} {f:FuncId} {fn:Func} {s:ChangeSpec} {conds:List PathCond} {apart fresh handsOn again:Bool} {X:World→Array Value→Prop}
 (hX:∀ (w w':World) (args:Array Value),w.heap=w'.heap→X w args→X w' args)
 (own:ownKnob C.prog.godebug=none) (started:os.Started) (noInit:C.prog.inits.idxOf? f=none) (hfn:C.prog.funcs[f]?=some fn)
 (witness:∃ (w:World) (tape:Tape) (i:Input),w.os=os∧(w.forCall tape i).Shaped C.prog∧i.vars=[]∧Input.okWide C.prog (w.forCall tape i) .any w.heap.size f i ∧
  ((s.pre enc C.prog fn conds apart (w.forCall tape i).memory i.args∧X (w.forCall tape i).memory i.args)∧sizedMet enc C.prog fn (OpenSpec.ofChange s) apart (w.forCall tape i).memory i.args)∧a.holds C.prog (lone (Frame.enter C.prog f i.args .normal) [] (w.forCall tape i)))
 (contract:∀ (W:World) (base:Nat) (args:Array Value) (ds gs:List (DataW H)) (before:List MemPlace),
  (∀ (j:Nat) t v,fn.params[j]?=some t→args[j]?=some v→Value.okWide C.prog W .any base t v) →
  DataW.Whole enc C.prog fn.params.toList s.vars apart W args.toList ds gs before →
  conds.all (PathCond.test C.prog ⟨fn.params.toList,ds,s.plain.varTypes C.prog,gs⟩)=true →
  (DataW.weightsEach C.prog (fn.params.toList++s.plain.varTypes C.prog) (ds++gs)).all (· ≤ reachBytes)=true→X W args→W.ShapedOpen C.prog →
  a.holds C.prog (lone (Frame.enter C.prog f args .normal) [] W) →
  Calls C.prog f args W fun e W'=>∃ v,e = .returned v∧s.post enc C.prog fn apart fresh handsOn again W args v W') :
 ReturnsInHanded a C os f .any (fun w args=>(s.pre enc C.prog fn conds apart w args∧X w args)∧sizedMet enc C.prog fn (OpenSpec.ofChange s) apart w args) (s.post enc C.prog fn apart fresh handsOn again):=by
 refine returnsInHanded_of_calls own started noInit witness ?_
 intro w tape i _ hsh _ hok hpre hholds
 obtain ⟨_,_,_,fn',hfn',_,_,_,_,hval⟩:=hok
 have e:fn'=fn:=Option.some.inj (hfn'.symm.trans hfn)
 subst e
 obtain ⟨⟨⟨ds,gs,before,hw,hc⟩,hx⟩,hz⟩:=hpre
 have hw':=DataW.Whole.of_heap (w':=w.forCall tape i) (by rfl) hw
 refine (contract (w.forCall tape i) w.heap.size i.args ds gs before hval hw' hc (hz.weights hw) (hX _ _ _ (by rfl) hx) hsh hholds).mono fun e W' ⟨v,he,hp⟩=>?_
 subst he
 exact ChangeSpec.post_blind hp
end Go.Proofs.YtngflmjncplkaaaGreatDoor
namespace Go.Proofs.YtngflmjncplkaaaGreatDoor
open Sw
open Go.ChangeShapes Go.WideShapes Go.RowKit Go.ChangeAt Go.Deep
theorem rchecks_lifted (os:Os) (started:os.Started) (H:Type) (enc:TypeId×Value→H) :
 ReturnsInHanded {} Tryz.checked os 3 .any (fun w args=>(Rows.roleChecksSpec.pre enc Pg Tryz.f3 Rows.roleChecksRow.domain false w args∧laidMetH Pg role_laid w)∧sizedMet enc Pg Tryz.f3 (OpenSpec.ofChange Rows.roleChecksSpec) false w args) (Rows.roleChecksSpec.post enc Pg Tryz.f3 false true false false):=by
 refine handed_and (C:=Tryz.checked) (X:=fun w _=>laidMetH Pg role_laid w) (fun _ _ _ hh h=>h.of_heap hh) role_own started (by kernel_rfl) Tryz.func3
  (ChangeSpec.witness_shaped (enc:=enc) (C:=Tryz.checked) (os:=os) (X:=fun w _=>laidMetH Pg role_laid w) false (World.laidAll Pg os role_laid) #[.agg #[.string ByteArray.empty,.slice none 0 0,.slice none 0 0,.slice none 0 0]] 8 (World.laidAll_os _ _ _) (World.shaped_of_ZipB (by kernel_rfl) (by kernel_rfl)) (by kernel_rfl) (by kernel_rfl) (by kernel_rfl) (role_met os _)) ?_
 intro W base args ds gs before hval hW _ hsz hL hsh _
 have hW':=hW
 obtain ⟨p,q,hA0,hV,rfl,_,_⟩:=hW
 have hA:DataW.TrodAll enc Pg W 0 (fun _=>true) true Tryz.f3.params.toList args.toList ds p:=hA0
 rw [Tryz.params3] at hA hval hsz
 obtain ⟨v0,vs0,d0,ds0,p0,q0,ha0,rfl,rfl,h0,r0⟩:=trodAll_cons hA
 obtain ⟨rfl,rfl,rfl⟩:=trodAll_nil r0
 obtain rfl:args = #[v0]:=by cases args;simp_all
 obtain ⟨f0,hf0,hs0⟩:=rol_val (hval 0 _ v0 rfl rfl) h0 (reached_of (j:=0) hsz rfl rfl)
 refine Calls.mono (RoleChecks_ret W v0 f0 hf0 hs0 (role_env hsh hL)) fun e W' ⟨v,he,hv,hx⟩=>?_
 subst he hv
 exact ⟨_,rfl,law_post role_laidOut (by decide +kernel) rfl hW' hx rfl Tryz.underlying4 rfl rfl rfl⟩
theorem rchecks_holds:Rows.RoleChecksSaid :=
 OpenClaim.holds_of_wide 3 Tryz.f3 rfl rfl rfl rfl rfl rfl rfl ⟨rfl,rfl,rfl,rfl,rfl⟩ rfl rfl rfl rfl rfl (by kernel_rfl) Tryz.func3 (by kernel_rfl)
  (of_decide_eq_true (by kernel_rfl)) (by unfold Func.isWrapper;first | (rw [if_pos (by decide +kernel)];kernel_rfl) | (rw [if_neg (by decide +kernel)];exact ⟨rfl,rfl⟩))
  (fun os started H enc _=>rchecks_lifted os started H enc)
theorem rchecks_card:Rows.RoleChecksCardSaid :=
 Claim7.holds_tied_plain_at .later [] [.data,.data,.data,.data,.sentinel,.sentinel,.pinned] true (true, "805d62ceadf1c0eaaccbbc96f2703f3718560c4f9884483faf4dfcc0b7041b30") true
  rchecks_holds (fun _ h=>by cases h) (by kernel_rfl) (fun _ h=>by cases h) roleChecks_row_tie rfl ⟨rfl,rfl⟩ (by kernel_rfl) rfl
  (fun f fn hf hfn=>by
   obtain rfl:f=3:=Option.some.inj ((show Pg.funcNamed "phrasebook/phrasebooklaw28.RoleChecks" = some 3 by kernel_rfl).symm.trans hf) |>.symm
   obtain rfl:fn=Tryz.f3:=(Option.some.inj (Tryz.func3.symm.trans hfn)).symm
   exact ⟨by kernel_rfl,fun j t ht=>by
    rw [Tryz.params3] at ht
    have hm:t∈[26]:=by simpa using Array.mem_of_getElem? ht
    have hall:([26].all fun u=>!Pg.wantsStandIn u)=true:=by kernel_rfl
    exact (show Pg.wantsStandIn t=false by simpa using List.all_eq_true.1 hall t hm)⟩)
  (by kernel_rfl)
end Go.Proofs.YtngflmjncplkaaaGreatDoor
