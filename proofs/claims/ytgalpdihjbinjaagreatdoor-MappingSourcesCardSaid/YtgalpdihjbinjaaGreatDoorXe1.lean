/-
  Lemmas for the claim.
-/
import Derived.RangeFuncLeaves
import Derived.RangeFuncNested
import Derived.Orders
import Derived.WalkKit
import Derived.Below
import Derived.RangeFuncOwn
import Derived.Laws.IdiomStrings
import Derived.Laws.StructEq
import Derived.Laws.AppendOwn
import Derived.Test.YtgalpdihjbinjaaGreatDoorProg
import Derived.KernelRfl
import Derived.Laws.IdiomRangeMap
import Derived.Deep.AppendLies
import Derived.Lib.ItoaMem
import Derived.Lib.ItoaLen
import Derived.Lib.Join
import Derived.Lib.AtoiErrMem
import Derived.Lib.AtoiAllCases
import Derived.Lib.SplitLaws
import Derived.Shelf.Strings.OnBuilder
import Derived.Shelf.Small.Wraps
import Derived.Shelf.LaysM
import Derived.Shelf.Strconv.Itoa3
import Derived.Shelf.LaysC
import Derived.Shelf.Strconv.AtoiAll
import Derived.Shelf.Strconv.ErrVarAll
import Derived.Shelf.Strings.Prefix
import Derived.Shelf.Strings.Split
import Derived.Laws.BytesString
import Derived.Shelf.Strings.Builder1
import Derived.Shelf.Strconv.ToError
import Derived.JoinedOf
import Derived.SizedLaws
import Derived.Carry
import Derived.OpenShut
import Derived.Deep.Slices
import Derived.RowKit
import Derived.ProofKit
import Derived.Test.YtgalpdihjbinjaaGreatDoorRows
import Derived.SevenTiedAt
import Derived.LaidMore
import Derived.Lib.LaidTab
import Derived.Stop.LaidErr
import Derived.Stop.Joined
import Derived.Shelf.Vars
import Derived.HandedShaped
import Derived.Lay
import Derived.Handed
import Derived.Test.YtgalpdihjbinjaaGreatDoorTie
import Derived.Test.YtgalpdihjbinjaaGreatDoorCards
set_option linter.all false
set_option maxHeartbeats 40000000
set_option maxRecDepth 100000
namespace Go
theorem Qq {p:Prop} (h:p:=by kernel_rfl):p:=h
theorem Qj {p:Prop} (h:p:=by decide):p:=h
theorem Qx {p:Prop} (h:p:=by omega):p:=h
theorem Qz {a b c:Prop} (h:a∧b) (k:a→b→c):a∧c:=⟨h.1,k h.1 h.2⟩
theorem Qk {α} {x:Array α} {i:Nat} {b:α}:x[i]?=some b→∃ h:i < x.size,x[i]=b:=Array.getElem?_eq_some_iff.1
theorem Qv {α} {x:List α} {i:Nat} {b:α}:x[i]?=some b→∃ h:i < x.length,x[i]=b:=List.getElem?_eq_some_iff.1
theorem Qw {a b:Prop} (x:a) (y:b):a∧b:=⟨x,y⟩
abbrev Qy:=ByteArray.empty
end Go
namespace Go.Sw
abbrev RT:=Ending→World→Prop
abbrev KV:=Value→World→Prop
abbrev KW:=Value→Value→World→Prop
def Arr (P:Program) (m:Machine) (b:Frame) (k:List Item) (cs:List Frame):Exit→Act→World→Prop
 | .normal,a,w=>Steps P m (lone (b.atR a k) cs w)
 | .exit id,a,w=>(∀ k',exitTo id k=some k'→Steps P m (lone (b.atR a k') cs w)) ∧
  (b.roundOf.isSome=true→exitTo id k=none→∃ k₁,exitTo id k₁=none∧Steps P m (lone (b.atR a (.code (.exit id)::k₁)) cs w))
 | .ret,a,w=>(b.roundOf=none→∃ todo,Steps P m (lone { b.atR a todo with mode := .returning } cs w)) ∧
  (b.roundOf.isSome=true→∃ k₁,Steps P m (lone (b.atR a (.code .ret::k₁)) cs w))
 | .panic ch,a,w=>∃ todo,Steps P m (lone { b.atR a todo with mode := .panicking ch } cs w)
 | _,_,_=>False
section
variable {P:Program} {m m₁:Machine} {b:Frame} {k:List Item} {cs:List Frame} {e:Exit} {a:Act} {w:World}
theorem Arr.from (h:Steps P m m₁) (h':Arr P m₁ b k cs e a w):Arr P m b k cs e a w:=by
 cases e with
 | normal=>exact h.trans h'
 | exit id=>exact ⟨fun k' hk=>h.trans (h'.1 k' hk),fun hr hk=>let ⟨k₁,h1,h2⟩:=h'.2 hr hk; ⟨k₁,h1,h.trans h2⟩⟩
 | ret=>exact ⟨fun hr=>let ⟨t,hs⟩:=h'.1 hr; ⟨t,h.trans hs⟩,fun hr=>let ⟨k₁,hs⟩:=h'.2 hr; ⟨k₁,h.trans hs⟩⟩
 | panic ch=>obtain ⟨t,hs⟩:=h';exact ⟨t,h.trans hs⟩
 | goto l=>exact h'
 | outgrown=>exact h'
theorem Arr.past {x:Item} (hx:x.plain=true) (hn:e ≠ .normal) (h:Arr P m b (x::k) cs e a w):Arr P m b k cs e a w:=by
 cases e with
 | normal=>exact absurd rfl hn
 | exit id=>exact ⟨fun k' hk=>h.1 k' (by rw [exitTo_plain hx];exact hk),fun hr hk=>h.2 hr (by rw [exitTo_plain hx];exact hk)⟩
 | ret=>exact h
 | panic ch=>exact h
 | goto l=>exact h
 | outgrown=>exact h
end
def Known (P:Program) (f:FuncId):Prop:=∃ fn,P.funcs[f]?=some fn
def wpV (ro:Option Nat) (P:Program) (c:Code) (Q:Exit→Act→World→Prop) (a:Act) (w:World):Prop :=
 ∀ (b:Frame) (k:List Item) (cs:List Frame),b.roundOf=ro→Known P b.fn→∃ e a' w',Q e a' w'∧Arr P (lone (b.atR a (.code c::k)) cs w) b k cs e a' w'
def RoundV (P:Program) (l:Nat) (f:FuncId) (tmps:Array Value) (assign body:Code) (w:World) (R:RT):Prop :=
 ∀ (c:Frame) (cs:List Frame),∃ e w',R e w'∧(match e with
  | .returned v=>Steps P (lone (Frame.round l f tmps assign body .normal) (c::cs) w) (lone (c.finish v) cs w')
  | .panicked ch=>Steps P (lone (Frame.round l f tmps assign body .normal) (c::cs) w) (lone (c.raise ch) cs w')
  | .outgrown=>False)
theorem RoundV.mono {P:Program} {l:Nat} {f:FuncId} {tmps:Array Value} {assign body:Code} {w:World} {R R':Ending→World→Prop} (h:RoundV P l f tmps assign body w R) (hr:∀ e w',R e w'→R' e w'):RoundV P l f tmps assign body w R' :=
 fun c cs=>let ⟨e,w',h1,h2⟩:=h c cs; ⟨e,w',hr _ _ h1,h2⟩
section rules
variable {ro:Option Nat} {P:Program} {Q:Exit→Act→World→Prop} {a:Act} {w:World}
theorem wpV_mono {c:Code} {Q':Exit→Act→World→Prop} (h:wpV ro P c Q a w) (hq:∀ e a w,Q e a w→Q' e a w):wpV ro P c Q' a w :=
 fun b k cs hro hf=>let ⟨e,a',w',q,r⟩:=h b k cs hro hf; ⟨e,a',w',hq _ _ _ q,r⟩
theorem wpV_skip (h:Q .normal a w):wpV ro P .skip Q a w:=fun _ _ _ _ _=>⟨.normal,a,w,h,.one stepR_skip⟩
theorem wpV_label {l:Nat} (h:Q .normal a w):wpV ro P (.label l) Q a w:=fun _ _ _ _ _=>⟨.normal,a,w,h,.one stepR_label⟩
theorem wpV_exit {id:Nat} (h:Q (.exit id) a w):wpV ro P (.exit id) Q a w :=
 fun _ k _ _ _=>⟨.exit id,a,w,h,fun _ hk => .one (stepR_exit hk),fun _ hk=>⟨k,hk,.refl _ _⟩⟩
theorem wpV_ret (h:Q .ret a w):wpV ro P .ret Q a w :=
 fun _ k _ _ _=>⟨.ret,a,w,h,fun hn=>⟨_,.one (stepR_ret hn)⟩,fun _=>⟨k,.refl _ _⟩⟩
theorem wpV_seq {x y:Code} (h:wpV ro P x (Exit.then (wpV ro P y Q) Q) a w):wpV ro P (.seq x y) Q a w:=by
 intro b k cs hro hf
 obtain ⟨e,a₁,w₁,hq,harr⟩:=h b (.code y::k) cs hro hf
 cases e with
 | normal =>
  obtain ⟨e₂,a₂,w₂,hq₂,harr₂⟩:=hq b k cs hro hf
  exact ⟨e₂,a₂,w₂,hq₂,.from (.head stepR_seq harr) harr₂⟩
 | exit id=>exact ⟨_,a₁,w₁,hq,.from (.one stepR_seq) (.past (x := .code y) rfl (by simp) harr)⟩
 | goto l=>exact harr.elim
 | ret=>exact ⟨_,a₁,w₁,hq,.from (.one stepR_seq) (.past (x := .code y) rfl (by simp) harr)⟩
 | panic ch=>exact ⟨_,a₁,w₁,hq,.from (.one stepR_seq) (.past (x := .code y) rfl (by simp) harr)⟩
 | outgrown=>exact harr.elim
theorem wpV_cond {c:Operand} {x y:Code} {t:Bool} (hc:a.eval c = .bool t) (h:wpV ro P (if t then x else y) Q a w):wpV ro P (.cond c x y) Q a w :=
 fun b k cs hro hf=>let ⟨e,a',w',q,r⟩:=h b k cs hro hf; ⟨e,a',w',q,.from (.one (stepR_cond hc)) r⟩
theorem wpV_block {id:Nat} {c:Code} (h:wpV ro P c (Exit.inBlock id Q) a w):wpV ro P (.block id c) Q a w:=by
 intro b k cs hro hf
 obtain ⟨e,a₁,w₁,hq,harr⟩:=h b (.inBlock id::k) cs hro hf
 cases e with
 | normal=>exact ⟨.normal,a₁,w₁,hq,.head stepR_block (Steps.trans harr (.one stepR_inBlock))⟩
 | exit id' =>
  by_cases hid:id'=id
  · simp only [Exit.inBlock,hid,if_true] at hq
    exact ⟨.normal,a₁,w₁,hq,.head stepR_block (harr.1 k (by simp [exitTo,hid]))⟩
  · simp only [Exit.inBlock,hid,if_false] at hq
    have hb:(id == id')=false:=by simp;exact fun h=>hid h.symm
    have hx:exitTo id' (.inBlock id::k)=exitTo id' k:=by simp [exitTo,hb]
    exact ⟨.exit id',a₁,w₁,hq,fun k' hk => .head stepR_block (harr.1 k' (by rw [hx];exact hk)),
     fun hr' hk=>let ⟨k₁,h1,h2⟩:=harr.2 hr' (by rw [hx];exact hk); ⟨k₁,h1,.head stepR_block h2⟩⟩
 | goto l=>exact harr.elim
 | ret=>exact ⟨_,a₁,w₁,hq,Arr.from (k:=k) (e := .ret) (.one stepR_block) harr⟩
 | panic ch=>exact ⟨_,a₁,w₁,hq,Arr.from (k:=k) (e := .panic ch) (.one stepR_block) harr⟩
 | outgrown=>exact harr.elim
theorem stepR_scope {b:Frame} {k:List Item} {cs:List Frame} {c:Code}:step P (lone (b.atR a (.code (.scope c)::k)) cs w) = .next (lone (b.atR a (.code c :: .inScope c::k)) cs w):=step_lone_go (by simp [stepG,stepG.exec,Frame.atR])
theorem stepR_inScope {b:Frame} {k:List Item} {cs:List Frame} {c:Code}:step P (lone (b.atR a (.inScope c::k)) cs w) = .next (lone (b.atR a k) cs w):=step_lone_go (by simp [stepG,stepG.exec,Frame.atR])
theorem wpV_scope {c:Code} (h:wpV ro P c Q a w):wpV ro P (.scope c) Q a w:=by
 intro b k cs hro hf
 obtain ⟨e,a₁,w₁,hq,harr⟩:=h b (.inScope c::k) cs hro hf
 have hx:∀ id,exitTo id (.inScope c::k)=exitTo id k:=fun _=>rfl
 cases e with
 | normal=>exact ⟨.normal,a₁,w₁,hq,.head stepR_scope (Steps.trans harr (.one stepR_inScope))⟩
 | exit id=>exact ⟨.exit id,a₁,w₁,hq,fun k' hk => .head stepR_scope (harr.1 k' (by rw [hx];exact hk)),fun hr' hk=>let ⟨k₁,h1,h2⟩:=harr.2 hr' (by rw [hx];exact hk); ⟨k₁,h1,.head stepR_scope h2⟩⟩
 | goto l=>exact harr.elim
 | ret=>exact ⟨_,a₁,w₁,hq,Arr.from (k:=k) (e := .ret) (.one stepR_scope) harr⟩
 | panic ch=>exact ⟨_,a₁,w₁,hq,Arr.from (k:=k) (e := .panic ch) (.one stepR_scope) harr⟩
 | outgrown=>exact harr.elim
theorem wpV_loop {c:Code} (I:Act→World→Prop) (μ:Act→World→Nat) (h₀:I a w)
 (round:∀ a w,I a w→wpV ro P c (Exit.then (fun a' w'=>I a' w'∧μ a' w' < μ a w) Q) a w):wpV ro P (.loop c) Q a w:=by
 intro b k cs hro hf
 have key:∀ j a w,μ a w=j→I a w→∃ e a' w',Q e a' w'∧Arr P (lone (b.atR a (.code c :: .inLoop c::k)) cs w) b k cs e a' w':=by
  intro j
  induction j using Nat.strongRecOn with
  | _ j ih =>
   intro a w hn hI
   obtain ⟨e,a₁,w₁,hq,harr⟩:=round a w hI b (.inLoop c::k) cs hro hf
   cases e with
   | normal =>
    obtain ⟨hI₁,hlt⟩:=hq
    obtain ⟨e₂,a₂,w₂,hq₂,harr₂⟩:=ih (μ a₁ w₁) (hn ▸ hlt) a₁ w₁ rfl hI₁
    exact ⟨e₂,a₂,w₂,hq₂,.from (Steps.trans harr (.one stepR_inLoop)) harr₂⟩
   | exit id=>exact ⟨_,a₁,w₁,hq,.past (x := .inLoop c) rfl (by simp) harr⟩
   | goto l=>exact harr.elim
   | ret=>exact ⟨_,a₁,w₁,hq,.past (x := .inLoop c) rfl (by simp) harr⟩
   | panic ch=>exact ⟨_,a₁,w₁,hq,.past (x := .inLoop c) rfl (by simp) harr⟩
   | outgrown=>exact harr.elim
 obtain ⟨e,a',w',hq,harr⟩:=key _ a w rfl h₀
 exact ⟨e,a',w',hq,.from (.one stepR_loop) harr⟩
def uponV (P:Program) (o:Oper) (a:Act) (next:Act→World→Prop) (Q:Exit→Act→World→Prop):Result Next→Prop
 | .ok (.value v) w'=>next (a.put o.dst v) w'
 | .ok .skip w'=>next (a.put o.dst undef) w'
 | .ok (.defer d) w'=>next ({ a with defers:=d::a.defers }.put o.dst undef) w'
 | .ok (.enter f args) w'=>Calls P f args w' fun
  | .returned v,w''=>next (a.put o.dst v) w''
  | .panicked ch,w''=>Q (.panic ch) a w''
  | .outgrown,_=>False
 | .ok (.round l f tmps assign body) w'=>RoundV P l f tmps assign body w' fun
  | .returned v,w''=>next (a.put o.dst v) w''
  | .panicked ch,w''=>Q (.panic ch) a w''
  | .outgrown,_=>False
 | .halt (.panic v) w'=>Q (.panic [{ v,recovered:=false }]) a w'
 | _=>False
def opsV (ro:Option Nat) (P:Program) (ops:Array Oper) (Q:Exit→Act→World→Prop):List Nat→Act→World→Prop
 | [],a,w=>Q .normal a w
 | i::rest,a,w =>
  match ops[i]? with
  | none=>opsV ro P ops Q rest a w
  | some o =>
   if Region.wanted o (yielded ops a.tmps) then uponV P o a (opsV ro P ops Q rest) Q ((o.semAt ro a.eval).run P w)
   else opsV ro P ops Q rest (a.put o.dst undef) w
theorem opsV_sound {ops:Array Oper} (l:List Nat):∀ (a:Act) (w:World),opsV ro P ops Q l a w→∀ (b:Frame) (k:List Item) (cs:List Frame),b.roundOf=ro →
 ∃ e a' w',Q e a' w'∧Arr P (lone (b.atR a (.inRegion ops l::k)) cs w) b k cs e a' w':=by
 induction l with
 | nil=>exact fun a w h b k cs _=>⟨.normal,a,w,h,.one stepR_region_end⟩
 | cons i rest ih =>
  intro a w h b k cs hro
  simp only [opsV] at h
  cases ho:ops[i]? with
  | none =>
   simp only [ho] at h
   obtain ⟨e,a',w',hq,harr⟩:=ih a w h b k cs hro
   have hs:=stepR_op_skip (P:=P) (b:=b) (a:=a) (k:=k) (cs:=cs) (w:=w) (ops:=ops) (i:=i) (rest:=rest) (by simp [ho])
   simp only [ho,Option.bind_none,Act.put] at hs
   exact ⟨e,a',w',hq,.from (.one hs) harr⟩
  | some o =>
   simp only [ho] at h
   by_cases hw:Region.wanted o (yielded ops a.tmps)=true
   · simp only [hw,if_true] at h
     have hg:=stepGR_op (P:=P) (b:=b) (k:=k) (cs:=cs) (w:=w) (rest:=rest) ho hw
     rw [hro] at hg
     have hfin:∀ v,(b.atR a (.inRegion ops (i::rest)::k)).finish v=b.atR (a.put o.dst v) (.inRegion ops rest::k):=by
      intro v;rw [Frame.finish_atR,ho];rfl
     cases hr:(o.semAt ro a.eval).run P w with
     | ok n w' =>
      rw [hr] at h
      cases n<;>simp only [uponV] at h
      case value v =>
       obtain ⟨e,a',w'',hq,harr⟩:=ih _ _ h b k cs hro
       refine ⟨e,a',w'',hq,.from (.one (step_lone_go ?_)) harr⟩
       rw [hg,← hfin];simp [stepG.apply,hr]
      case skip =>
       obtain ⟨e,a',w'',hq,harr⟩:=ih _ _ h b k cs hro
       refine ⟨e,a',w'',hq,.from (.one (step_lone_go ?_)) harr⟩
       rw [hg,← hfin];simp [stepG.apply,hr]
      case defer d =>
       obtain ⟨e,a',w'',hq,harr⟩:=ih _ _ h b k cs hro
       refine ⟨e,a',w'',hq,.from (.one (step_lone_go ?_)) harr⟩
       have:({ b.atR a (.inRegion ops (i::rest)::k) with defers:=d::a.defers }:Frame).finish undef=b.atR ({ a with defers:=d::a.defers }.put o.dst undef) (.inRegion ops rest::k):=by
        have:=Frame.finish_atR b { a with defers:=d::a.defers } ops i rest k undef
        rw [ho] at this;exact this
       rw [hg];simp only [stepG.apply,Sem.runT_eq,hr,GStep.bare_after]
       exact congrArg (fun fr=>GStep.go { frame:=fr,callers:=cs,status := .running,dying:=none } w') this
      case enter f args =>
       obtain ⟨e,w'',fr,hR,hsteps,_,hleave⟩:=h (b.atR a (.inRegion ops (i::rest)::k)::cs)
       have henter:step P (lone (b.atR a (.inRegion ops (i::rest)::k)) cs w) = .next (lone (Frame.enter P f args .normal) (b.atR a (.inRegion ops (i::rest)::k)::cs) w') :=
        step_lone_go (by rw [hg];simp [stepG.apply,hr,Frame.atR])
       cases e with
       | returned v =>
        obtain ⟨e,a',w₃,hq,harr⟩:=ih _ _ hR b k cs hro
        refine ⟨e,a',w₃,hq,.from (.head henter (Steps.trans hsteps (.one ?_))) harr⟩
        rw [← hfin];exact step_leave_returned hleave
       | panicked chain =>
        refine ⟨.panic chain,a,w'',hR,.inRegion ops (i::rest)::k,.head henter (Steps.trans hsteps (.one ?_))⟩
        rw [← Frame.raise_atR];exact step_leave_panicked hleave
       | outgrown=>exact hR.elim
      case round l f tmps assign body =>
       obtain ⟨e,w'',hR,hsteps⟩:=h (b.atR a (.inRegion ops (i::rest)::k)) cs
       have henter:step P (lone (b.atR a (.inRegion ops (i::rest)::k)) cs w) = .next (lone (Frame.round l f tmps assign body .normal) (b.atR a (.inRegion ops (i::rest)::k)::cs) w') :=
        step_lone_go (by rw [hg];simp [stepG.apply,hr,Frame.atR])
       cases e with
       | returned v =>
        obtain ⟨e,a',w₃,hq,harr⟩:=ih _ _ hR b k cs hro
        refine ⟨e,a',w₃,hq,.from (.head henter ?_) harr⟩
        rw [← hfin];exact hsteps
       | panicked chain =>
        refine ⟨.panic chain,a,w'',hR,.inRegion ops (i::rest)::k,.head henter ?_⟩
        rw [← Frame.raise_atR];exact hsteps
       | outgrown=>exact hR.elim
     | halt x w' =>
      rw [hr] at h
      cases x<;>simp only [uponV] at h
      refine ⟨_,a,w',h,.inRegion ops (i::rest)::k,.one (step_lone_go ?_)⟩
      rw [hg,← Frame.raise_atR];simp [stepG.apply,hr]
   · simp only [hw,if_false,Bool.false_eq_true] at h
     obtain ⟨e,a',w',hq,harr⟩:=ih _ _ h b k cs hro
     have hs:=stepR_op_skip (P:=P) (b:=b) (a:=a) (k:=k) (cs:=cs) (w:=w) (ops:=ops) (i:=i) (rest:=rest) (by simp [ho];simpa using hw)
     simp only [ho,Option.bind_some] at hs
     exact ⟨e,a',w',hq,.from (.one hs) harr⟩
theorem wpV_region {id:Nat} {ops:Array Oper} (h:opsV ro P ops Q (List.range ops.size) a w):wpV ro P (.region id ops false) Q a w :=
 fun b k cs hro _=>let ⟨e,a',w',q,r⟩:=opsV_sound _ a w h b k cs hro; ⟨e,a',w',q,.from (.one stepR_region) r⟩
theorem wpV_region_draw {id:Nat} {ops:Array Oper} (h:∀ t,opsV ro P ops Q (Region.schedule (P.follows .mixedOrders) ops t) a { w with drawn:=w.drawn+1 }):wpV ro P (.region id ops true) Q a w :=
 fun b k cs hro _=>let ⟨e,a',w',q,r⟩:=opsV_sound _ a _ (h _) b k cs hro; ⟨e,a',w',q,.from (.one stepR_region_draw) r⟩
def endV (P:Program) (l:Nat) (R:RT):Exit→Act→World→Prop
 | .normal,_,w=>∃ v w',(Instr.endRound l none).run P w = .ok v w'∧R (.returned v) w'
 | .ret,_,w=>∃ v w',(Instr.endRound l (some .ret)).run P w = .ok v w'∧R (.returned v) w'
 | .exit id,_,w=>∃ v w',(Instr.endRound l (some (.exit id))).run P w = .ok v w'∧R (.returned v) w'
 | .panic ch,a,w=>a.defers=[]∧R (.panicked ch) w
 | _,_,_=>False
theorem roundV_of_wpV {l:Nat} {f:FuncId} {tmps:Array Value} {assign body:Code} {R:RT} (hf:Known P f)
 (h:wpV (some l) P assign (Exit.then (fun a₁ w₁=>∃ w₂,(Instr.beginRound l).run P w₁ = .ok () w₂∧wpV (some l) P body (endV P l R) a₁ w₂) (fun _ _ _=>False)) { tmps:=tmps,defers:=[] } w) :
 RoundV P l f tmps assign body w R:=by
 intro c cs
 let b:Frame:={ (default:Frame) with fn:=f,kind := .normal,roundOf:=some l }
 have hb0:Frame.round l f tmps assign body .normal=b.atR { tmps:=tmps,defers:=[] } [.code assign,.beginRound,.code body]:=by simp [Frame.round,Frame.atR,b]
 obtain ⟨e,a₁,w₁,hq,harr⟩:=h b [.beginRound,.code body] (c::cs) rfl hf
 rw [← hb0] at harr
 cases e with
 | normal =>
  obtain ⟨w₂,hbr,hbody⟩:=hq
  have s1:Steps P (lone (b.atR a₁ [.beginRound,.code body]) (c::cs) w₁) (lone (b.atR a₁ [.code body]) (c::cs) w₂) := .one (stepR_beginRound rfl hbr)
  obtain ⟨e₂,a₂,w₃,hq₂,harr₂⟩:=hbody b [] (c::cs) rfl hf
  cases e₂ with
  | normal =>
   obtain ⟨v,w₄,hend,hR⟩:=hq₂
   exact ⟨.returned v,w₄,hR,(Steps.trans harr s1).trans (Steps.trans harr₂ (.one (stepR_round_end rfl rfl hend)))⟩
  | ret =>
   obtain ⟨v,w₄,hend,hR⟩:=hq₂
   obtain ⟨k₁,hs⟩:=harr₂.2 rfl
   exact ⟨.returned v,w₄,hR,(Steps.trans harr s1).trans (Steps.trans hs (.one (stepR_round_ret rfl rfl hend)))⟩
  | exit id =>
   obtain ⟨v,w₄,hend,hR⟩:=hq₂
   obtain ⟨k₁,hk,hs⟩:=harr₂.2 rfl rfl
   exact ⟨.returned v,w₄,hR,(Steps.trans harr s1).trans (Steps.trans hs (.one (stepR_round_exit rfl rfl hk hend)))⟩
  | panic ch =>
   obtain ⟨hd,hR⟩:=hq₂
   obtain ⟨todo,hs⟩:=harr₂
   obtain ⟨fn,hfn⟩:=hf
   refine ⟨.panicked ch,w₃,hR,(Steps.trans harr s1).trans (Steps.trans hs (.one ?_))⟩
   exact step_leave_panicked (P:=P) (fr:={ b.atR a₂ todo with mode := .panicking ch }) ⟨rfl,hd,fn,hfn⟩
  | goto t=>exact hq₂.elim
  | outgrown=>exact hq₂.elim
 | exit id=>exact hq.elim
 | goto t=>exact hq.elim
 | ret=>exact hq.elim
 | panic ch=>exact hq.elim
 | outgrown=>exact hq.elim
def behindV (ro:Option Nat) (P:Program) (l:Nat) (Q:Exit→Act→World→Prop) (a':Act):Ending→World→Prop
 | .returned _,w₃=>∃ jump w₄,(Instr.endLoop l).run P w₃ = .ok jump w₄∧(match jump with
  | none=>Q .normal a' w₄
  | some c=>wpV ro P c Q a' w₄)
 | .panicked ch,w₃=>Q (.panic ch) a' w₃
 | .outgrown,_=>False
theorem wpV_rangeFunc {g:Operand} {ps:Array Tmp} {assign body:Code}
 (h:∀ fn,Known P fn→∃ (l:Nat) (mark:List Deferred) (w₁:World) (d:Deferred) (w₁':World) (f:FuncId) (args:Array Value) (w₂:World),
  (Instr.enterLoop fn a.tmps ps assign body ro).run P w = .ok (l,mark) w₁∧(resolve a.eval (rangeCall g l) 0).run P w₁ = .ok d w₁'∧(invoke d.target d.args).run P w₁' = .ok (.enter f args) w₂ ∧
  Calls P f args w₂ (behindV ro P l Q { a with defers:=mark++a.defers })):wpV ro P (.rangeFunc g ps assign body) Q a w:=by
 intro b k cs hro hf
 obtain ⟨l,mark,w₁,d,w₁',f,args,w₂,he,hres,hinv,hcall⟩:=h b.fn hf
 rw [← hro] at he
 have henter:=stepR_rangeFunc (P:=P) (b:=b) (a:=a) (k:=k) (cs:=cs) (w:=w) he hres hinv
 obtain ⟨e,w₃,fr,hR,hsteps,_,hleave⟩:=hcall (b.atR { a with defers:=mark++a.defers } (.inRangeFunc l::k)::cs)
 cases e with
 | outgrown=>exact hR.elim
 | returned v =>
  obtain ⟨jump,w₄,hend,hj⟩:=hR
  have sback:Steps P (lone (b.atR a (.code (.rangeFunc g ps assign body)::k)) cs w) (lone (b.atR { a with defers:=mark++a.defers } ((jump.map Item.code).toList++k)) cs w₄):=by
   refine .head henter (Steps.trans hsteps (.head ?_ (.one (stepR_endRangeFunc hend))))
   rw [← finish_atR_inRangeFunc l v];exact step_leave_returned hleave
  cases jump with
  | none=>exact ⟨.normal,_,w₄,hj,sback⟩
  | some c =>
   obtain ⟨e',a'',w₅,hq,harr⟩:=hj b k cs hro hf
   exact ⟨e',a'',w₅,hq,.from sback harr⟩
 | panicked chain =>
  refine ⟨.panic chain,_,w₃,hR,.inRangeFunc l::k,.head henter (Steps.trans hsteps (.one ?_))⟩
  rw [← Frame.raise_atR];exact step_leave_panicked hleave
def leaveV (P:Program) (fn:Func) (R:RT):Exit→Act→World→Prop
 | .normal,a,w | .ret,a,w=>LeavesInM Fence.wide 0 P fn a.tmps R a.defers .returning w
 | .panic ch,a,w=>LeavesInM Fence.wide 0 P fn a.tmps R a.defers (.panicking ch) w
 | _,_,_=>False
theorem calls_of_wpV {f:FuncId} {fn:Func} {c:Code} {args:Array Value} {R:RT} (hf:P.funcs[f]?=some fn) (hb:fn.body=some c)
 (h:wpV none P c (leaveV P fn R) { tmps:=args++Array.replicate (fn.ntmps - args.size) undef,defers:=[] } w):Calls P f args w R:=by
 refine callsIn_wide (n:=0) |>.1 ⟨trivial,fun cs hr=>?_⟩
 let b:Frame:={ (default:Frame) with fn:=f,kind := .normal,roundOf:=none }
 have henter:Frame.enter P f args .normal=b.atR { tmps:=args++Array.replicate (fn.ntmps - args.size) undef,defers:=[] } [.code c]:=by simp [Frame.enter,Frame.atR,hf,hb,b]
 obtain ⟨e,a',w',hq,harr⟩:=h b [] cs rfl ⟨fn,hf⟩
 rw [← henter] at harr
 cases e with
 | normal =>
  obtain ⟨e',w'',fr',hR,hs,hfn,hl⟩:=leaves_stepsInM (F:=Fence.wide) (n:=0) a'.defers .returning w' { b.atR a' [] with mode := .returning } cs rfl rfl rfl hf rfl trivial (room_wide _) hq
  exact ⟨e',w'',fr',hR,ComesIn.of_steps (stepsIn_wide.2 (Steps.trans harr (.one (stepR_end rfl)))) hs,hfn,hl⟩
 | ret =>
  obtain ⟨todo,hs₀⟩:=harr.1 rfl
  obtain ⟨e',w'',fr',hR,hs,hfn,hl⟩:=leaves_stepsInM (F:=Fence.wide) (n:=0) a'.defers .returning w' { b.atR a' todo with mode := .returning } cs rfl rfl rfl hf rfl trivial (room_wide _) hq
  exact ⟨e',w'',fr',hR,ComesIn.of_steps (stepsIn_wide.2 hs₀) hs,hfn,hl⟩
 | panic chain =>
  obtain ⟨todo,hs₀⟩:=harr
  obtain ⟨e',w'',fr',hR,hs,hfn,hl⟩:=leaves_stepsInM (F:=Fence.wide) (n:=0) a'.defers (.panicking chain) w' { b.atR a' todo with mode := .panicking chain } cs rfl rfl rfl hf rfl trivial (room_wide _) hq
  exact ⟨e',w'',fr',hR,ComesIn.of_steps (stepsIn_wide.2 hs₀) hs,hfn,hl⟩
 | exit id=>exact hq.elim
 | goto l=>exact hq.elim
 | outgrown=>exact hq.elim
end rules
end Go.Sw
namespace Go.Sw
abbrev Env:=Nat→Value
def upd (N:Nat) (ρ:Env) (d:Nat) (v:Value):Env:=fun i=>bif (Nat.beq i d&&Nat.blt d N) then v else ρ i
def put (N:Nat) (ρ:Env) (d:Option Nat) (v:Value):Env:=match d with
 | some d=>upd N ρ d v
 | none=>ρ
def ev (ρ:Env):Operand→Value
 | .tmp t=>ρ t
 | .const v=>v
 | .global g => .pointer (some ⟨g,0,none⟩)
 | .func f => .func (.func f) #[] #[]
def Agrees (N:Nat) (a:Act) (ρ:Env):Prop:=a.tmps.size=N∧∀ i,a.tmps.getD i undef=ρ i
theorem Agrees.eval {N:Nat} {a:Act} {ρ:Env} (h:Agrees N a ρ):a.eval=ev ρ:=by
 funext x
 cases x with
 | tmp t=>exact h.2 t
 | _=>rfl
theorem Agrees.put {N:Nat} {a:Act} {ρ:Env} (h:Agrees N a ρ) (d:Option Nat) (v:Value):Agrees N (a.put d v) (put N ρ d v):=by
 cases d with
 | none=>exact h
 | some d =>
  refine ⟨by simp [Act.put,h.1],fun i=>?_⟩
  have h2:=h.2 i
  simp only [Act.put,Sw.put,upd]
  have h1:=h.1
  by_cases hi:i=d
  · subst hi
    by_cases hn:i < N
    · have:(Nat.beq i i&&Nat.blt i N)=true:=by simp [Nat.blt,hn];omega
      rw [this]
      simp [hn,h1]
    · have:(Nat.beq i i&&Nat.blt i N)=false:=by
       rw [Bool.and_eq_false_iff];right;rw [Bool.eq_false_iff];simp [Nat.blt];omega
      rw [this]
      simp only [cond_false]
      rw [← h2]
      simp [h1,hn]
  · have:Nat.beq i d=false:=by rw [Bool.eq_false_iff];simpa using hi
    rw [this]
    simp only [Bool.false_and,cond_false]
    rw [← h2]
    have hne:d≠i:=fun e=>hi e.symm
    simp [Array.getElem?_setIfInBounds_ne hne]
theorem Agrees.defers {N:Nat} {a:Act} {ρ:Env} (h:Agrees N a ρ) (ds:List Deferred):Agrees N { a with defers:=ds } ρ:=h
theorem put_ne {N:Nat} {ρ:Env} {d:Option Nat} {v:Value} {i:Nat} (h:d≠some i):put N ρ d v i=ρ i:=by
 cases d with
 | none=>rfl
 | some d =>
  have:Nat.beq i d=false:=by rw [Bool.eq_false_iff];intro e;simp at e;exact h (by rw [e])
  simp [put,upd,this]
def boolOf:Value→Option Bool
 | .bool b=>some b
 | _=>none
def guardP (v:Value) (want:Bool) (p q:Prop):Prop:=match v with
 | .bool b=>match (b == want) with
  | true=>p
  | false=>q
 | _=>q
theorem guardP_true {v:Value} {want:Bool} {p q:Prop} (h:boolOf v=some want):guardP v want p q=p:=by
 cases v<;>simp [boolOf] at h
 subst h;simp [guardP]
theorem guardP_false {v:Value} {want:Bool} {p q:Prop} (h:boolOf v≠some want):guardP v want p q=q:=by
 cases v<;>simp [boolOf] at h<;>simp [guardP]
 rename_i b
 have:(b == want)=false:=by simpa using h
 rw [this]
def gslot (ops:Array Oper) (ρ:Env) (j:Nat):Value:=match (ops[j]?).bind (·.dst) with
 | some d=>ρ d
 | none=>undef
theorem yielded_eq {N:Nat} {a:Act} {ρ:Env} (h:Agrees N a ρ) (ops:Array Oper) (j:Nat):yielded ops a.tmps j=boolOf (gslot ops ρ j):=by
 unfold yielded gslot
 cases hd:(ops[j]?).bind (·.dst) with
 | none=>rfl
 | some d =>
  have h2:=h.2 d
  simp only [Option.bind_some]
  rw [← h2]
  by_cases hlt:d < a.tmps.size
  · rw [Array.getElem?_eq_getElem hlt]
    simp [hlt]
    cases a.tmps[d]<;>rfl
  · have hge:a.tmps.size≤d:=Nat.le_of_not_lt hlt
    simp [Array.getElem?_eq_none hge,boolOf,undef]
def guardO (ops:Array Oper) (o:Oper) (ρ:Env) (p q:Prop):Prop:=match o.guard with
 | none=>p
 | some (j,want)=>guardP (gslot ops ρ j) want p q
theorem wanted_guard {N:Nat} {a:Act} {ρ:Env} (h:Agrees N a ρ) (ops:Array Oper) (o:Oper) (p q:Prop) :
 guardO ops o ρ p q=(if Region.wanted o (yielded ops a.tmps) then p else q):=by
 unfold guardO Region.wanted
 cases hg:o.guard with
 | none=>simp
 | some g =>
  obtain ⟨j,want⟩:=g
  simp only [yielded_eq h]
  by_cases hb:boolOf (gslot ops ρ j)=some want
  · rw [guardP_true hb,if_pos (by rw [hb];simp)]
  · rw [guardP_false hb,if_neg (by simpa using hb)]
def callPost (QP:List PanicEntry→World→Prop) (k:Value→World→Prop):Ending→World→Prop
 | .returned v,w=>k v w
 | .panicked ch,w=>QP ch w
 | .outgrown,_=>False
def onNext (P:Program) (QP:List PanicEntry→World→Prop) (kd:Deferred→World→Prop) (k:Value→World→Prop):Result Next→Prop
 | .ok (.value v) w=>k v w
 | .ok .skip w=>k undef w
 | .ok (.defer d) w=>kd d w
 | .ok (.enter f args) w=>Calls P f args w (callPost QP k)
 | .ok (.round l f tmps assign body) w=>RoundV P l f tmps assign body w (callPost QP k)
 | .halt (.panic v) w=>QP [{ v,recovered:=false }] w
 | _=>False
def opD (P:Program) (s:Sem Next) (w:World) (QP:List PanicEntry→World→Prop) (kd:Deferred→World→Prop) (k:Value→World→Prop):Prop :=
 onNext P QP kd k (s.run P w)
theorem callPost_mono {QP QP':List PanicEntry→World→Prop} {k k':Value→World→Prop} (hp:∀ ch w,QP ch w→QP' ch w) (hk:∀ v w,k v w→k' v w) :
 ∀ e w,callPost QP k e w→callPost QP' k' e w:=by
 intro e w h
 cases e with
 | returned v=>exact hk _ _ h
 | panicked ch=>exact hp _ _ h
 | outgrown=>exact h
theorem opD_mono {P:Program} {s:Sem Next} {w:World} {QP QP':List PanicEntry→World→Prop} {kd kd':Deferred→World→Prop} {k k':Value→World→Prop}
 (h:opD P s w QP kd k) (hp:∀ ch w,QP ch w→QP' ch w) (hd:∀ d w,kd d w→kd' d w) (hk:∀ v w,k v w→k' v w):opD P s w QP' kd' k':=by
 unfold opD at *
 cases hr:s.run P w with
 | ok n w' =>
  rw [hr] at h
  cases n<;>simp only [onNext] at h ⊢ <;> first
   | exact hk _ _ h
   | exact hd _ _ h
   | exact Calls.mono h (callPost_mono hp hk)
   | exact RoundV.mono h (callPost_mono hp hk)
 | halt x w' =>
  rw [hr] at h
  cases x<;>simp only [onNext] at h ⊢ <;> exact hp _ _ h
abbrev K:=Exit→Env→List Deferred→World→Prop
abbrev KP:=List PanicEntry→Env→List Deferred→World→Prop
def isDefer:Op→Bool
 | .defer _=>true
 | _=>false
def opE (P:Program) (ro:Option Nat) (QP:KP) (o:Oper) (ρ:Env) (ds:List Deferred) (w:World) (kd:Deferred→World→Prop) (k:Value→World→Prop):Prop :=
 match isDefer o.op&&ro.isSome with
 | true=>False
 | false=>opD P (execOp (ev ρ) o) w (fun ch w=>QP ch ρ ds w) kd k
def gkeep (ops:Array Oper) (o:Oper) (st:Option ((Nat×Bool)×Bool)):Option ((Nat×Bool)×Bool):=match st with
 | none=>none
 | some g=>match (ops[g.1.1]?).bind (·.dst),o.dst with
  | some d,some d'=>bif Nat.beq d d' then none else st
  | _,_=>st
def denOps (P:Program) (N:Nat) (ro:Option Nat) (ops:Array Oper) (Q:K) (QP:KP):List Oper→Option ((Nat×Bool)×Bool)→Env→List Deferred→World→Prop
 | [],_,ρ,ds,w=>Q .normal ρ ds w
 | o::rest,st,ρ,ds,w =>
  match o.guard with
  | none=>opE P ro QP o ρ ds w (fun d w=>denOps P N ro ops Q QP rest none (put N ρ o.dst undef) (d::ds) w) (fun v w=>denOps P N ro ops Q QP rest none (put N ρ o.dst v) ds w)
  | some (j,want) =>
   match (match st with
    | some ((j',want'),act)=>bif Nat.beq j j'&&want == want' then some act else none
    | none=>none) with
   | some true=>opE P ro QP o ρ ds w (fun d w=>denOps P N ro ops Q QP rest (gkeep ops o (some ((j,want),true))) (put N ρ o.dst undef) (d::ds) w)
    (fun v w=>denOps P N ro ops Q QP rest (gkeep ops o (some ((j,want),true))) (put N ρ o.dst v) ds w)
   | some false=>denOps P N ro ops Q QP rest (gkeep ops o (some ((j,want),false))) (put N ρ o.dst undef) ds w
   | none=>guardP (gslot ops ρ j) want
    (opE P ro QP o ρ ds w (fun d w=>denOps P N ro ops Q QP rest (gkeep ops o (some ((j,want),true))) (put N ρ o.dst undef) (d::ds) w)
     (fun v w=>denOps P N ro ops Q QP rest (gkeep ops o (some ((j,want),true))) (put N ρ o.dst v) ds w))
    (denOps P N ro ops Q QP rest (gkeep ops o (some ((j,want),false))) (put N ρ o.dst undef) ds w)
def denOp (P:Program) (N:Nat) (ro:Option Nat) (ops:Array Oper) (QP:KP) (i:Nat) (k:Env→List Deferred→World→Prop) (ρ:Env) (ds:List Deferred) (w:World):Prop :=
 match ops[i]? with
 | none=>k ρ ds w
 | some o=>guardO ops o ρ (opE P ro QP o ρ ds w (fun d w=>k (put N ρ o.dst undef) (d::ds) w) (fun v w=>k (put N ρ o.dst v) ds w)) (k (put N ρ o.dst undef) ds w)
def denAny (P:Program) (N:Nat) (ro:Option Nat) (ops:Array Oper) (Q:Env→List Deferred→World→Prop) (QP:KP):Nat→Array Bool→Env→List Deferred→World→Prop
 | 0,listed,ρ,ds,w=>Region.ready .any ops listed=[]∧Q ρ ds w
 | fuel+1,listed,ρ,ds,w =>
  (Region.ready .any ops listed=[]→Q ρ ds w) ∧
  ∀ i∈Region.ready .any ops listed,denOp P N ro ops QP i (denAny P N ro ops Q QP fuel (listed.setIfInBounds i true)) ρ ds w
def denDraw (P:Program) (N:Nat) (ro:Option Nat) (ops:Array Oper) (Q:Env→List Deferred→World→Prop) (QP:KP) (ρ:Env) (ds:List Deferred) (w:World):Prop :=
 P.follows .mixedOrders=true∧denAny P N ro ops Q QP ops.size (Array.replicate ops.size false) ρ ds { w with drawn:=w.drawn+1 }
def condP (v:Value) (p q:Prop):Prop:=match v with
 | .bool true=>p
 | .bool false=>q
 | _=>False
def thenK (k:Env→List Deferred→World→Prop) (Q:K):K:=fun e ρ ds w=>match e with
 | .normal=>k ρ ds w
 | e=>Q e ρ ds w
def blockK (id:Nat) (Q:K):K:=fun e ρ ds w=>match e with
 | .exit id'=>bif Nat.beq id' id then Q .normal ρ ds w else Q (.exit id') ρ ds w
 | e=>Q e ρ ds w
def mix (W:List Nat) (ρ σ:Env):Env:=fun i=>bif W.contains i then σ i else ρ i
def writesOps (ops:Array Oper):List Nat:=ops.toList.filterMap (·.dst)
def writes:Code→List Nat
 | .region _ ops _=>writesOps ops
 | .seq a b=>writes a++writes b
 | .cond _ a b=>writes a++writes b
 | .block _ c=>writes c
 | .loop c=>writes c
 | .scope c=>writes c
 | _=>[]
def lift (N:Nat) (Q:K) (QP:KP):Exit→Act→World→Prop
 | .panic ch,a,w=>∃ ρ,Agrees N a ρ∧QP ch ρ a.defers w
 | .outgrown,_,_=>False
 | e,a,w=>∃ ρ,Agrees N a ρ∧Q e ρ a.defers w
def den (P:Program) (N:Nat) (ro:Option Nat):Code→K→KP→Env→List Deferred→World→Prop
 | .skip,Q,_,ρ,ds,w=>Q .normal ρ ds w
 | .label _,Q,_,ρ,ds,w=>Q .normal ρ ds w
 | .region _ ops draw,Q,QP,ρ,ds,w=>match draw with
  | false=>denOps P N ro ops Q QP ops.toList none ρ ds w
  | true=>denDraw P N ro ops (Q .normal) QP ρ ds w
 | .seq a b,Q,QP,ρ,ds,w=>den P N ro a (thenK (fun ρ ds w=>den P N ro b Q QP ρ ds w) Q) QP ρ ds w
 | .cond c a b,Q,QP,ρ,ds,w=>condP (ev ρ c) (den P N ro a Q QP ρ ds w) (den P N ro b Q QP ρ ds w)
 | .block id c,Q,QP,ρ,ds,w=>den P N ro c (blockK id Q) QP ρ ds w
 | .scope c,Q,QP,ρ,ds,w=>den P N ro c Q QP ρ ds w
 | .loop c,Q,QP,ρ,ds,w=>∃ (I:Env→List Deferred→World→Prop) (μ:Env→World→Nat),I ρ ds w∧∀ σ ds w,I σ ds w →
  den P N ro c (thenK (fun ρ' ds' w'=>I ρ' ds' w'∧μ ρ' w' < μ σ w) Q) QP (mix (writes c) ρ σ) ds w
 | .rangeFunc g ps asg body,Q,QP,ρ,ds,w=>∀ a,Agrees N a ρ→a.defers=ds→wpV ro P (Code.rangeFunc g ps asg body) (fun e a' w'=>match e with
  | .panic ch=>Agrees N a' ρ∧QP ch ρ a'.defers w'
  | .outgrown=>False
  | e=>Agrees N a' ρ∧Q e ρ a'.defers w') a w
 | .exit id,Q,_,ρ,ds,w=>Q (.exit id) ρ ds w
 | .ret,Q,_,ρ,ds,w=>Q .ret ρ ds w
 | _,_,_,_,_,_=>False
section
variable {P:Program} {N:Nat} {ro:Option Nat}
theorem uponV_of_opD {o:Oper} {a:Act} {next:Act→World→Prop} {Q:Exit→Act→World→Prop} {s:Sem Next} {w:World} {QP:List PanicEntry→World→Prop} {kd:Deferred→World→Prop} {k:Value→World→Prop}
 (h:opD P s w QP kd k) (hp:∀ ch w,QP ch w→Q (.panic ch) a w) (hk:∀ v w,k v w→next (a.put o.dst v) w)
 (hd:∀ d w,kd d w→next ({ a with defers:=d::a.defers }.put o.dst undef) w) :
 uponV P o a next Q (s.run P w):=by
 unfold opD at h
 cases hr:s.run P w with
 | ok n w' =>
  rw [hr] at h
  cases n<;>simp only [onNext] at h<;>simp only [uponV]
  case value v=>exact hk _ _ h
  case skip=>exact hk _ _ h
  case defer d=>exact hd _ _ h
  case enter f args =>
   refine h.mono fun e w'' he=>?_
   cases e with
   | returned v=>exact hk _ _ he
   | panicked ch=>exact hp _ _ he
   | outgrown=>exact he.elim
  case round l f tmps assign body =>
   refine h.mono fun e w'' he=>?_
   cases e with
   | returned v=>exact hk _ _ he
   | panicked ch=>exact hp _ _ he
   | outgrown=>exact he.elim
 | halt x w' =>
  rw [hr] at h
  cases x<;>simp only [onNext] at h<;>simp only [uponV]
  exact hp _ _ h
theorem uponV_of_opE {o:Oper} {a:Act} {ρ:Env} {next:Act→World→Prop} {Q:Exit→Act→World→Prop} {QP:KP} {w:World} {kd:Deferred→World→Prop} {k:Value→World→Prop}
 (ha:Agrees N a ρ) (h:opE P ro QP o ρ a.defers w kd k) (hp:∀ ch w,QP ch ρ a.defers w→Q (.panic ch) a w) (hk:∀ v w,k v w→next (a.put o.dst v) w)
 (hd:∀ d w,kd d w→next ({ a with defers:=d::a.defers }.put o.dst undef) w):uponV P o a next Q ((o.semAt ro a.eval).run P w):=by
 unfold opE at h
 have hsem:(isDefer o.op&&ro.isSome)=false→o.semAt ro a.eval=execOp a.eval o:=by
  intro hf
  unfold Oper.semAt
  cases ro with
  | none=>rfl
  | some l=>cases hop:o.op<;>simp [isDefer,hop] at hf<;>rfl
 cases hb:(isDefer o.op&&ro.isSome) with
 | true=>rw [hb] at h;exact h.elim
 | false =>
  rw [hb] at h
  rw [hsem hb,ha.eval]
  exact uponV_of_opD h hp hk hd
theorem denOps_sound {ops:Array Oper} {Q:K} {QP:KP}:∀ (l:List Oper) (k0:Nat),(∀ j,l[j]?=ops[k0+j]?)→∀ (st:Option ((Nat×Bool)×Bool)) (a:Act) (ρ:Env) (w:World),Agrees N a ρ →
 (∀ g,st=some g→(g.2=true↔boolOf (gslot ops ρ g.1.1)=some g.1.2))→denOps P N ro ops Q QP l st ρ a.defers w →
 opsV ro P ops (lift N (fun e ρ' ds w=>(∀ i,i ∉ writesOps ops→ρ' i=ρ i)∧Q e ρ' ds w) QP) (List.range' k0 l.length) a w:=by
 intro l
 induction l with
 | nil=>intro k0 _ st a ρ w ha _ h;exact ⟨ρ,ha,fun _ _=>rfl,h⟩
 | cons o rest ih =>
  intro k0 hl st a ρ w ha hst h
  have h0:ops[k0]?=some o:=by simpa using (hl 0).symm
  have hw':∀ d,o.dst=some d→d∈writesOps ops:=by
   intro d hd
   have hm:o∈ops.toList:=by rw [← Array.getElem?_toList] at h0;exact List.mem_of_getElem? h0
   exact List.mem_filterMap.2 ⟨o,hm,hd⟩
  have ih':∀ st' (a':Act) (v:Value) (w':World),Agrees N a' (put N ρ o.dst v)→(∀ g,st'=some g→(g.2=true↔boolOf (gslot ops (put N ρ o.dst v) g.1.1)=some g.1.2)) →
   denOps P N ro ops Q QP rest st' (put N ρ o.dst v) a'.defers w' →
   opsV ro P ops (lift N (fun e ρ' ds w=>(∀ i,i ∉ writesOps ops→ρ' i=ρ i)∧Q e ρ' ds w) QP) (List.range' (k0+1) rest.length) a' w':=by
   intro st' a' v w' ha' hs' hh
   have hrest:=ih (k0+1) (fun j=>by have:=hl (j+1);simpa [Nat.add_assoc,Nat.add_comm 1 j] using this) st' a' _ w' ha' hs' hh
   have hsub:(fun (e:Exit) (ρ':Env) (ds:List Deferred) (w:World)=>(∀ i,i ∉ writesOps ops→ρ' i=put N ρ o.dst v i)∧Q e ρ' ds w) =
    (fun e ρ' ds w=>(∀ i,i ∉ writesOps ops→ρ' i=ρ i)∧Q e ρ' ds w):=by
    funext e ρ' ds w
    have:(∀ i,i ∉ writesOps ops→ρ' i=put N ρ o.dst v i)↔(∀ i,i ∉ writesOps ops→ρ' i=ρ i):=by
     constructor<;>intro hh i hi<;>have:=hh i hi<;>rw [put_ne (fun e=>hi (hw' i e))] at * <;> exact this
    rw [this]
   rw [hsub] at hrest
   exact hrest
  have hkeep:∀ (g:(Nat×Bool)×Bool) (v:Value),(g.2=true↔boolOf (gslot ops ρ g.1.1)=some g.1.2) →
   ∀ g',gkeep ops o (some g)=some g'→(g'.2=true↔boolOf (gslot ops (put N ρ o.dst v) g'.1.1)=some g'.1.2):=by
   intro g v hg g' hk
   unfold gkeep at hk
   simp only at hk
   have hsame:(∀ d,(ops[g.1.1]?).bind (·.dst)=some d→o.dst≠some d)→gslot ops (put N ρ o.dst v) g.1.1=gslot ops ρ g.1.1:=by
    intro hne
    unfold gslot
    cases hd:(ops[g.1.1]?).bind (·.dst) with
    | none=>rfl
    | some d=>exact put_ne (hne d hd)
   cases hd:(ops[g.1.1]?).bind (·.dst) with
   | none =>
    rw [hd] at hk;simp at hk;subst hk
    rw [hsame (fun d h'=>by rw [hd] at h';cases h')];exact hg
   | some d =>
    cases hd':o.dst with
    | none =>
     rw [hd,hd'] at hk;simp at hk;subst hk
     have:=hsame (fun d h'=>by rw [hd'];simp)
     rw [hd'] at this
     rw [this];exact hg
    | some d' =>
     rw [hd,hd'] at hk
     simp only at hk
     cases hb:Nat.beq d d' with
     | true=>rw [hb] at hk;simp at hk
     | false =>
      rw [hb] at hk
      simp at hk
      subst hk
      have hne:d≠d':=fun e=>by rw [Bool.eq_false_iff] at hb;exact hb (by rw [e];simp)
      have:=hsame (fun x hx=>by rw [hd] at hx;injection hx with hx;subst hx;rw [hd'];intro e;injection e with e;exact hne e.symm)
      rw [hd'] at this
      rw [this];exact hg
  simp only [List.length_cons,List.range'_succ,opsV,h0]
  have exec:∀ st',(∀ v,∀ g',st'=some g'→(g'.2=true↔boolOf (gslot ops (put N ρ o.dst v) g'.1.1)=some g'.1.2)) →
   opE P ro QP o ρ a.defers w (fun d w=>denOps P N ro ops Q QP rest st' (put N ρ o.dst undef) (d::a.defers) w) (fun v w=>denOps P N ro ops Q QP rest st' (put N ρ o.dst v) a.defers w) →
   uponV P o a (opsV ro P ops (lift N (fun e ρ' ds w=>(∀ i,i ∉ writesOps ops→ρ' i=ρ i)∧Q e ρ' ds w) QP) (List.range' (k0+1) rest.length)) (lift N (fun e ρ' ds w=>(∀ i,i ∉ writesOps ops→ρ' i=ρ i)∧Q e ρ' ds w) QP) ((o.semAt ro a.eval).run P w):=by
   intro st' hs' hh
   refine uponV_of_opE ha hh (fun ch w hq=>⟨_,ha,hq⟩) (fun v w' hv=>?_) (fun d w' hv=>?_)
   · exact ih' st' _ v w' (ha.put _ _) (hs' v) (by
      have:(a.put o.dst v).defers=a.defers:=by cases o.dst<;>rfl
      rw [this];exact hv)
   · exact ih' st' _ undef w' (Agrees.put (Agrees.defers ha _) _ _) (hs' undef) (by
      have:(({ a with defers:=d::a.defers }:Act).put o.dst undef).defers=d::a.defers:=by cases o.dst<;>rfl
      rw [this];exact hv)
  have skip:∀ st',(∀ g',st'=some g'→(g'.2=true↔boolOf (gslot ops (put N ρ o.dst undef) g'.1.1)=some g'.1.2))→denOps P N ro ops Q QP rest st' (put N ρ o.dst undef) a.defers w →
   opsV ro P ops (lift N (fun e ρ' ds w=>(∀ i,i ∉ writesOps ops→ρ' i=ρ i)∧Q e ρ' ds w) QP) (List.range' (k0+1) rest.length) (a.put o.dst undef) w:=by
   intro st' hs' hh
   exact ih' st' _ undef w (ha.put _ _) hs' (by
    have:(a.put o.dst undef).defers=a.defers:=by cases o.dst<;>rfl
    rw [this];exact hh)
  unfold denOps at h
  cases hg:o.guard with
  | none =>
   simp only [hg] at h
   have hwant:Region.wanted o (yielded ops a.tmps)=true:=by simp [Region.wanted,hg]
   rw [if_pos hwant]
   exact exec none (fun v g' e=>by cases e) h
  | some g =>
   obtain ⟨j,want⟩:=g
   simp only [hg] at h
   have hiff:Region.wanted o (yielded ops a.tmps)=true↔boolOf (gslot ops ρ j)=some want:=by
    simp [Region.wanted,hg,yielded_eq ha]
   have hact:∀ act,(match st with
    | some ((j',want'),act)=>bif Nat.beq j j'&&want == want' then some act else none
    | none=>none)=some act→(act=true↔boolOf (gslot ops ρ j)=some want):=by
    intro act hm
    cases st with
    | none=>simp at hm
    | some s =>
     obtain ⟨⟨j',want'⟩,act'⟩:=s
     simp only at hm
     cases hc:(Nat.beq j j'&&want == want') with
     | false=>rw [hc] at hm;simp at hm
     | true =>
      rw [hc] at hm
      simp at hm hc
      obtain ⟨rfl,rfl⟩:=hc
      subst hm
      exact hst _ rfl
   generalize (match st with
    | some ((j',want'),act)=>bif Nat.beq j j'&&want == want' then some act else none
    | none=>none)=m at h hact
   cases m with
   | none =>
    simp only at h
    by_cases hb:boolOf (gslot ops ρ j)=some want
    · rw [guardP_true hb] at h
      rw [if_pos (hiff.2 hb)]
      exact exec _ (fun v=>hkeep ((j,want),true) v (by simp [hb])) h
    · rw [guardP_false hb] at h
      rw [if_neg (fun hh=>hb (hiff.1 hh))]
      exact skip _ (hkeep ((j,want),false) undef (by simp [hb])) h
   | some act =>
    have ha':=hact act rfl
    cases act with
    | true =>
     simp only at h
     have hb:=ha'.1 rfl
     rw [if_pos (hiff.2 hb)]
     exact exec _ (fun v=>hkeep ((j,want),true) v (by simp [hb])) h
    | false =>
     simp only at h
     have hb:¬ boolOf (gslot ops ρ j)=some want:=fun hh=>by have:=ha'.2 hh;cases this
     rw [if_neg (fun hh=>hb (hiff.1 hh))]
     exact skip _ (hkeep ((j,want),false) undef (by simp [hb])) h
end
end Go.Sw
namespace Go.Sw
section
variable {P:Program} {N:Nat} {ro:Option Nat}
def framed (W:List Nat) (ρ:Env) (Q:K):K:=fun e ρ' ds w=>(∀ i,i ∉ W→ρ' i=ρ i)∧Q e ρ' ds w
theorem put_defers (a:Act) (d:Option Nat) (v:Value):(a.put d v).defers=a.defers:=by cases d<;>rfl
theorem framed_put {W:List Nat} {ρ:Env} {d:Option Nat} {v:Value} {Q:K} (h:∀ x,d=some x→x∈W):framed W (put N ρ d v) Q=framed W ρ Q:=by
 funext e ρ' ds w
 have:(∀ i,i ∉ W→ρ' i=put N ρ d v i)↔(∀ i,i ∉ W→ρ' i=ρ i):=by
  constructor<;>intro hh i hi<;>have:=hh i hi<;>rw [put_ne (fun e=>hi (h i e))] at * <;> exact this
 unfold framed
 rw [this]
theorem denAny_sound {ops:Array Oper} {Q:K} {QP:KP}:∀ (fuel t:Nat) (listed:Array Bool) (a:Act) (ρ:Env) (w:World),Agrees N a ρ →
 denAny P N ro ops (Q .normal) QP fuel listed ρ a.defers w →
 opsV ro P ops (lift N (framed (writesOps ops) ρ Q) QP) (Region.linearise.go .any ops fuel t listed []) a w:=by
 intro fuel
 induction fuel with
 | zero=>intro t listed a ρ w ha h;simp only [Region.linearise.go,List.reverse_nil,opsV];exact ⟨ρ,ha,fun _ _=>rfl,h.2⟩
 | succ fuel ih =>
  intro t listed a ρ w ha h
  obtain ⟨h₀,h₁⟩:=h
  simp only [Region.linearise.go]
  change opsV ro P ops _ (match (Region.ready .any ops listed)[t % (Region.ready .any ops listed).length]? with
   | some i=>Region.linearise.go .any ops fuel (t / (Region.ready .any ops listed).length) (listed.setIfInBounds i true) [i]
   | none=>[].reverse) a w
  cases hi:(Region.ready .any ops listed)[t % (Region.ready .any ops listed).length]? with
  | none =>
   have hnil:Region.ready .any ops listed=[]:=by
    cases hr:Region.ready .any ops listed with
    | nil=>rfl
    | cons x xs =>
     rw [hr] at hi
     have hlt:t % (x::xs).length < (x::xs).length:=Nat.mod_lt _ (by simp)
     simp at hi
     simp at hlt
     omega
   simp only [List.reverse_nil,opsV]
   exact ⟨ρ,ha,fun _ _=>rfl,h₀ hnil⟩
  | some i =>
   simp only []
   rw [linearise_go_acc,List.reverse_singleton,List.singleton_append]
   have hh:=h₁ i (List.mem_of_getElem? hi)
   unfold denOp at hh
   simp only [opsV]
   cases ho:ops[i]? with
   | none=>simp only [ho] at hh ⊢;exact ih _ _ _ _ _ ha hh
   | some o =>
    simp only [ho] at hh ⊢
    have hd:∀ x,o.dst=some x→x∈writesOps ops:=by
     intro d hd
     have hm:o∈ops.toList:=by rw [← Array.getElem?_toList] at ho;exact List.mem_of_getElem? ho
     exact List.mem_filterMap.2 ⟨o,hm,hd⟩
    have ih':∀ (a':Act) (v:Value) (w':World),Agrees N a' (put N ρ o.dst v)→denAny P N ro ops (Q .normal) QP fuel (listed.setIfInBounds i true) (put N ρ o.dst v) a'.defers w' →
     opsV ro P ops (lift N (framed (writesOps ops) ρ Q) QP) (Region.linearise.go .any ops fuel (t / (Region.ready .any ops listed).length) (listed.setIfInBounds i true) []) a' w':=by
     intro a' v w' ha' h'
     have:=ih (t / (Region.ready .any ops listed).length) _ _ _ _ ha' h'
     rw [framed_put hd] at this
     exact this
    rw [wanted_guard ha] at hh
    split
    · rename_i hw
      rw [if_pos hw] at hh
      refine uponV_of_opE ha hh (fun ch w hq=>⟨_,ha,hq⟩) (fun v w' hv=>ih' _ v w' (ha.put _ _) ?_) (fun d w' hv=>ih' _ undef w' (Agrees.put (Agrees.defers ha _) _ _) ?_)
      · rw [put_defers];exact hv
      · rw [put_defers];exact hv
    · rename_i hw
      rw [if_neg hw] at hh
      exact ih' _ undef w (ha.put _ _) (by rw [put_defers];exact hh)
theorem mix_same (W:List Nat) (ρ:Env):mix W ρ ρ=ρ:=by funext i;unfold mix;cases W.contains i<;>rfl
theorem mix_of_frame {W:List Nat} {ρ σ ρ':Env} (h:∀ i,i ∉ W→ρ' i=mix W ρ σ i):mix W ρ ρ'=ρ':=by
 funext i
 unfold mix at *
 by_cases hi:i∈W
 · have hc:W.contains i=true:=List.contains_iff_mem.2 hi
   rw [hc];rfl
 · have:=h i hi
   have hc:W.contains i=false:=by rw [Bool.eq_false_iff];simpa [List.contains_iff_mem] using hi
   rw [hc] at this ⊢
   simp at this ⊢
   exact this.symm
theorem mix_out {W:List Nat} {ρ σ:Env} {i:Nat} (h:i ∉ W):mix W ρ σ i=ρ i:=by
 unfold mix
 have hc:W.contains i=false:=by rw [Bool.eq_false_iff];simpa [List.contains_iff_mem] using h
 rw [hc];rfl
def envOf (a:Act):Env:=fun i=>a.tmps.getD i undef
theorem lift_mono {Q Q':K} {QP:KP} (h:∀ e ρ ds w,Q e ρ ds w→Q' e ρ ds w):∀ e a w,lift N Q QP e a w→lift N Q' QP e a w:=by
 intro e a w hl
 cases e<;>first
  | exact hl
  | (obtain ⟨ρ,ha,hq⟩:=hl;exact ⟨ρ,ha,h _ _ _ _ hq⟩)
theorem framed_mono {W W':List Nat} {ρ:Env} {Q:K} (hs:∀ i,i∈W→i∈W'):∀ e ρ' ds w,framed W ρ Q e ρ' ds w→framed W' ρ Q e ρ' ds w :=
 fun _ _ _ _ h=>⟨fun i hi=>h.1 i (fun hw=>hi (hs i hw)),h.2⟩
theorem den_sound:∀ (c:Code) (Q:K) (QP:KP) (a:Act) (ρ:Env) (w:World),Agrees N a ρ→den P N ro c Q QP ρ a.defers w →
 wpV ro P c (lift N (framed (writes c) ρ Q) QP) a w:=by
 intro c
 induction c with
 | skip=>intro Q QP a ρ w ha h;exact wpV_skip ⟨ρ,ha,fun _ _=>rfl,h⟩
 | label l=>intro Q QP a ρ w ha h;exact wpV_label ⟨ρ,ha,fun _ _=>rfl,h⟩
 | exit id=>intro Q QP a ρ w ha h;exact wpV_exit ⟨ρ,ha,fun _ _=>rfl,h⟩
 | ret=>intro Q QP a ρ w ha h;exact wpV_ret ⟨ρ,ha,fun _ _=>rfl,h⟩
 | goto l=>intro Q QP a ρ w ha h;exact h.elim
 | scope c ih=>intro Q QP a ρ w ha h;exact wpV_scope (ih _ _ _ _ _ ha h)
 | refuse s=>intro Q QP a ρ w ha h;exact h.elim
 | region id ops draw =>
  intro Q QP a ρ w ha h
  cases draw with
  | false =>
   refine wpV_region ?_
   have:=denOps_sound (N:=N) (ro:=ro) (P:=P) (ops:=ops) (Q:=Q) (QP:=QP) ops.toList 0 (by simp) none a ρ w ha (fun g e=>by cases e) h
   rw [Array.length_toList] at this
   rw [List.range_eq_range']
   exact this
  | true =>
   obtain ⟨hm,hh⟩:=h
   refine wpV_region_draw fun t=>?_
   simp only [Region.schedule,hm,Bool.true_or,if_true]
   exact denAny_sound (Q:=Q) ops.size t _ a ρ _ ha hh
 | seq x y ihx ihy =>
  intro Q QP a ρ w ha h
  refine wpV_seq (wpV_mono (ihx _ _ _ _ _ ha h) ?_)
  intro e a' w' hl
  cases e with
  | normal =>
   obtain ⟨ρ',ha',hf,hq⟩:=hl
   refine wpV_mono (ihy _ _ _ _ _ ha' hq) ?_
   refine lift_mono ?_
   rintro e ρ'' ds w'' ⟨hf',hq'⟩
   refine ⟨fun i hi=>?_,hq'⟩
   simp only [writes,List.mem_append,not_or] at hi
   exact (hf' i hi.2).trans (hf i hi.1)
  | panic ch=>exact hl
  | outgrown=>exact hl
  | exit id=>obtain ⟨ρ',ha',hf,hq⟩:=hl;exact ⟨ρ',ha',fun i hi=>hf i (fun hw=>hi (List.mem_append_left _ hw)),hq⟩
  | goto l=>obtain ⟨ρ',ha',hf,hq⟩:=hl;exact ⟨ρ',ha',fun i hi=>hf i (fun hw=>hi (List.mem_append_left _ hw)),hq⟩
  | ret=>obtain ⟨ρ',ha',hf,hq⟩:=hl;exact ⟨ρ',ha',fun i hi=>hf i (fun hw=>hi (List.mem_append_left _ hw)),hq⟩
 | cond c x y ihx ihy =>
  intro Q QP a ρ w ha h
  simp only [den] at h
  unfold condP at h
  have hev:a.eval c=ev ρ c:=by rw [ha.eval]
  split at h
  · rename_i hv
    exact wpV_cond (t:=true) (hev.trans hv) (wpV_mono (ihx _ _ _ _ _ ha h) (lift_mono (framed_mono fun i hi=>List.mem_append_left _ hi)))
  · rename_i hv
    exact wpV_cond (t:=false) (hev.trans hv) (wpV_mono (ihy _ _ _ _ _ ha h) (lift_mono (framed_mono fun i hi=>List.mem_append_right _ hi)))
  · exact h.elim
 | block id c ih =>
  intro Q QP a ρ w ha h
  refine wpV_block (wpV_mono (ih _ _ _ _ _ ha h) ?_)
  intro e a' w' hl
  cases e with
  | exit id' =>
   obtain ⟨ρ',ha',hf,hq⟩:=hl
   simp only [blockK] at hq
   simp only [Exit.inBlock]
   by_cases hid:id'=id
   · have:Nat.beq id' id=true:=by simp [hid]
     rw [this] at hq
     rw [if_pos hid]
     exact ⟨ρ',ha',hf,hq⟩
   · have:Nat.beq id' id=false:=by rw [Bool.eq_false_iff];simpa using hid
     rw [this] at hq
     rw [if_neg hid]
     exact ⟨ρ',ha',hf,hq⟩
  | normal=>exact hl
  | ret=>exact hl
  | goto l=>exact hl
  | panic ch=>exact hl
  | outgrown=>exact hl
 | loop c ih =>
  intro Q QP a ρ w ha h
  simp only [den] at h
  obtain ⟨I,μ,h0,hr⟩:=h
  have he:∀ {a':Act} {σ:Env},Agrees N a' σ→envOf a'=σ:=fun h'=>funext h'.2
  refine wpV_loop (fun a' w'=>Agrees N a' (mix (writes c) ρ (envOf a'))∧I (envOf a') a'.defers w') (fun a' w'=>μ (envOf a') w') ?_ ?_
  · refine ⟨?_,?_⟩<;>rw [he ha]
    · rw [mix_same];exact ha
    · exact h0
  · rintro a' w' ⟨ha',hI⟩
    have hb:=hr (envOf a') _ w' hI
    refine wpV_mono (ih _ _ _ _ _ ha' hb) ?_
    intro e a'' w'' hl
    cases e with
    | normal =>
     obtain ⟨ρ',ha'',hf,hI',hμ⟩:=hl
     have hm:=mix_of_frame hf
     refine ⟨⟨?_,?_⟩,?_⟩
     · rw [he ha'',hm];exact ha''
     · rw [he ha''];exact hI'
     · rw [he ha''];exact hμ
    | panic ch=>exact hl
    | outgrown=>exact hl
    | exit id=>obtain ⟨ρ',ha'',hf,hq⟩:=hl;exact ⟨ρ',ha'',fun i hi=>(hf i hi).trans (mix_out hi),hq⟩
    | goto l=>obtain ⟨ρ',ha'',hf,hq⟩:=hl;exact ⟨ρ',ha'',fun i hi=>(hf i hi).trans (mix_out hi),hq⟩
    | ret=>obtain ⟨ρ',ha'',hf,hq⟩:=hl;exact ⟨ρ',ha'',fun i hi=>(hf i hi).trans (mix_out hi),hq⟩
 | rangeFunc g ps asg body _ _ =>
  intro Q QP a ρ w ha h
  refine wpV_mono (h a ha rfl) ?_
  intro e a' w' hq
  cases e with
  | panic ch=>exact ⟨ρ,hq.1,hq.2⟩
  | outgrown=>exact hq
  | normal=>exact ⟨ρ,hq.1,fun _ _=>rfl,hq.2⟩
  | exit id=>exact ⟨ρ,hq.1,fun _ _=>rfl,hq.2⟩
  | goto l=>exact ⟨ρ,hq.1,fun _ _=>rfl,hq.2⟩
  | ret=>exact ⟨ρ,hq.1,fun _ _=>rfl,hq.2⟩
def env0:List Value→Env
 | [],_=>undef
 | v::_,0=>v
 | _::l,n+1=>env0 l n
theorem env0_get:∀ (l:List Value) (i:Nat),env0 l i=(l[i]?).getD undef
 | [],i=>by simp [env0]
 | v::l,0=>by simp [env0]
 | v::l,n+1=>by simp [env0,env0_get l n]
theorem agrees0 (N:Nat) (l:List Value) (h:l.length≤N):Agrees N { tmps:=l.toArray++Array.replicate (N - l.toArray.size) undef,defers:=[] } (env0 l):=by
 refine ⟨by simp;omega,fun i=>?_⟩
 rw [env0_get]
 simp only [Array.getD_eq_getD_getElem?]
 by_cases hi:i < l.length
 · rw [Array.getElem?_append_left (by simpa using hi)];simp
 · rw [Array.getElem?_append_right (by simpa using hi)]
   rw [List.getElem?_eq_none Qx]
   simp only [Array.getElem?_replicate]
   split<;>rfl
def bodyK (P:Program) (fn:Func) (R:RT):K:=fun e ρ ds w=>match e with
 | .normal | .ret=>ds=[]∧∀ tmps:Array Value,(∀ i,tmps.getD i undef=ρ i)→∃ v,(results fn tmps).run P w = .ok v w∧R (.returned v) w
 | _=>False
def bodyQP (R:RT):KP:=fun ch _ ds w=>ds=[]∧R (.panicked ch) w
def bodyKM (P:Program) (fn:Func) (R:RT):K:=fun e ρ ds w=>match e with
 | .normal | .ret=>∀ tmps:Array Value,(∀ i,tmps.getD i undef=ρ i)→LeavesInM Fence.wide 0 P fn tmps R ds .returning w
 | _=>False
def bodyQPM (P:Program) (fn:Func) (R:RT):KP:=fun ch ρ ds w=>∀ tmps:Array Value,(∀ i,tmps.getD i undef=ρ i)→LeavesInM Fence.wide 0 P fn tmps R ds (.panicking ch) w
theorem calls_of_denM {f:FuncId} {fn:Func} {c:Code} {args:List Value} {w:World} {R:RT} (hf:P.funcs[f]?=some fn) (hb:fn.body=some c) (hn:args.length≤fn.ntmps)
 (h:den P fn.ntmps none c (bodyKM P fn R) (bodyQPM P fn R) (env0 args) [] w):Calls P f args.toArray w R:=by
 refine calls_of_wpV hf hb ?_
 refine wpV_mono (den_sound c _ _ _ _ _ (agrees0 fn.ntmps args hn) h) ?_
 intro e a' w' hl
 cases e with
 | normal=>obtain ⟨ρ,ha,_,hr⟩:=hl;exact hr _ ha.2
 | ret=>obtain ⟨ρ,ha,_,hr⟩:=hl;exact hr _ ha.2
 | panic ch=>obtain ⟨ρ,ha,hq⟩:=hl;exact hq _ ha.2
 | outgrown=>exact hl.elim
 | exit id=>obtain ⟨ρ,ha,_,hq⟩:=hl;exact hq.elim
 | goto l=>obtain ⟨ρ,ha,_,hq⟩:=hl;exact hq.elim
theorem calls_of_den {f:FuncId} {fn:Func} {c:Code} {args:List Value} {w:World} {R:RT} (hf:P.funcs[f]?=some fn) (hb:fn.body=some c) (hn:args.length≤fn.ntmps)
 (h:den P fn.ntmps none c (bodyK P fn R) (bodyQP R) (env0 args) [] w):Calls P f args.toArray w R:=by
 refine calls_of_wpV hf hb ?_
 refine wpV_mono (den_sound c _ _ _ _ _ (agrees0 fn.ntmps args hn) h) ?_
 intro e a' w' hl
 cases e with
 | normal =>
  obtain ⟨ρ,ha,_,hd,hr⟩:=hl
  obtain ⟨v,h1,h2⟩:=hr _ ha.2
  show LeavesInM _ _ _ _ _ _ _ _ _
  rw [hd];exact ⟨v,h1,h2⟩
 | ret =>
  obtain ⟨ρ,ha,_,hd,hr⟩:=hl
  obtain ⟨v,h1,h2⟩:=hr _ ha.2
  show LeavesInM _ _ _ _ _ _ _ _ _
  rw [hd];exact ⟨v,h1,h2⟩
 | panic ch =>
  obtain ⟨ρ,_,hd,hr⟩:=hl
  show LeavesInM _ _ _ _ _ _ _ _ _
  rw [hd];exact hr
 | outgrown=>exact hl.elim
 | exit id=>obtain ⟨ρ,ha,_,hq⟩:=hl;exact hq.elim
 | goto l=>obtain ⟨ρ,ha,_,hq⟩:=hl;exact hq.elim
end
end Go.Sw
namespace Go.Sw
def opV (P:Program) (s:Sem Value) (QP:List PanicEntry→World→Prop) (w:World) (k:Value→World→Prop):Prop:=match s.run P w with
 | .ok v w'=>k v w'
 | .halt (.panic v) w'=>QP [{ v,recovered:=false }] w'
 | _=>False
def opU (P:Program) (s:Sem Unit) (QP:List PanicEntry→World→Prop) (w:World) (k:World→Prop):Prop:=match s.run P w with
 | .ok _ w'=>k w'
 | .halt (.panic v) w'=>QP [{ v,recovered:=false }] w'
 | _=>False
def pickK (c a b:Value) (k:Value→Prop):Prop:=match c with
 | .bool true=>k a
 | .bool false=>k b
 | _=>False
def callK (P:Program) (f:FuncId) (args:Array Value) (QP:List PanicEntry→World→Prop) (w:World) (k:Value→World→Prop):Prop:=Calls P f args w (callPost QP k)
def callS (fv:Value) (args:Array Value):Sem Next:=do let d ← Deferred.ofValue fv args;invoke d.target d.args
def callV (P:Program) (fv:Value) (args:Array Value) (QP:List PanicEntry→World→Prop) (w:World) (k:Value→World→Prop):Prop:=opD P (callS fv args) w QP (fun _ _=>False) k
def joinK {α:Type} (K:α) (f:α→Prop):Prop:=f K
theorem joinK_elim {α:Type} {K:α} {f:α→Prop} {X:Prop} (h:joinK K f) (hx:∀ K',K'=K→f K'→X):X:=hx K rfl h
def panK (R:RT):List PanicEntry→World→Prop:=fun ch w=>R (.panicked ch) w
def binS (op:BinOp) (t:TypeId) (c:Bool) (a b:Value):Sem Value:=do
 (match op with
  | .eql | .neq=>match a,b with
   | .nilIface,.nilIface=>if c then pure () else do
    if ← Op.eqGuardIn Op.maxDepth t a b then unsupported (.noEntry "binop/eql: two nil values of an interface type with methods, neither of them the literal nil")
   | .agg _,.agg _=>do
    if !(← program).eqGuardType (← program).depth t then pure () else
    if ← Op.eqGuardIn Op.maxDepth t a b then unsupported (.noEntry "binop/eql: two nil values of an interface type with methods, in a part of a struct or an array")
   | _,_=>pure ()
  | _=>pure ())
 binOp op t a b
def isConst:Operand→Bool
 | .const _=>true
 | _=>false
def Callable (P:Program) (f:FuncId):Prop:=∃ fn,P.funcs[f]?=some fn∧(fn.name == "runtime.NumGoroutine")=false∧fn.body.isNone=false
section
variable {P:Program} {N:Nat} {ro:Option Nat}
theorem callFunc_run {f:FuncId} (h:Callable P f) (args:Array Value) (w:World):(callFunc f args).run P w = .ok (.enter f args) w:=by
 obtain ⟨fn,h1,h2,h3⟩:=h
 unfold callFunc
 simp only [program,bind,Sem.bind,Sem.run,h1]
 rw [if_neg (by rw [h2];simp),if_neg (by rw [h3];simp)]
 rfl
theorem callS_run {f:FuncId} (h:Callable P f) (first caps args:Array Value) (w:World):(callS (.func (.func f) first caps) args).run P w = .ok (.enter f (first++args++caps)) w:=by
 unfold callS
 simp only [Deferred.ofValue,bind,pure,Sem.bind,invoke]
 exact callFunc_run h _ w
theorem callV_func {f:FuncId} (h:Callable P f) {first caps args:Array Value} {QP:List PanicEntry→World→Prop} {w:World} {k:Value→World→Prop} :
 callV P (.func (.func f) first caps) args QP w k=callK P f (first++args++caps) QP w k:=by
 unfold callV opD
 rw [callS_run h]
 rfl
def denSeq (P:Program) (N:Nat) (ro:Option Nat) (QP:KP) (T:Env→List Deferred→World→Prop):List Oper→Env→List Deferred→World→Prop
 | [],ρ,ds,w=>T ρ ds w
 | o::rest,ρ,ds,w=>opE P ro QP o ρ ds w (fun d w=>denSeq P N ro QP T rest (put N ρ o.dst undef) (d::ds) w) (fun v w=>denSeq P N ro QP T rest (put N ρ o.dst v) ds w)
def skipAll (N:Nat):List Oper→Env→Env
 | [],ρ=>ρ
 | o::rest,ρ=>skipAll N rest (put N ρ o.dst undef)
def unguarded (l:List Oper):Bool:=l.all fun o=>match o.guard with | none=>true | some _=>false
def guardIs (j:Nat) (want:Bool) (o:Oper):Bool:=match o.guard with | none=>false | some (j',want')=>Nat.beq j' j&&want' == want
def apartG (ops:Array Oper) (j:Nat):List Oper→Bool
 | []=>true
 | [_]=>true
 | o::rest=>(match (ops[j]?).bind (·.dst),o.dst with | some d,some d'=>!Nat.beq d d' | _,_=>true)&&apartG ops j rest
def grpOK (ops:Array Oper) (j:Nat) (want:Bool) (grp tail:List Oper):Bool :=
 grp.all (guardIs j want)&&apartG ops j grp&&!grp.isEmpty&&(match tail with | []=>true | o::_=>!guardIs j want o)
theorem opE_mono {QP:KP} {o:Oper} {ρ:Env} {ds:List Deferred} {w:World} {kd kd':Deferred→World→Prop} {k k':Value→World→Prop}
 (h:opE P ro QP o ρ ds w kd k) (hd:∀ d w,kd d w→kd' d w) (hk:∀ v w,k v w→k' v w):opE P ro QP o ρ ds w kd' k':=by
 unfold opE at *
 cases hb:(isDefer o.op&&ro.isSome) with
 | true=>rw [hb] at h;exact h.elim
 | false=>rw [hb] at h;exact opD_mono h (fun _ _ h=>h) hd hk
theorem denOps_seg {ops:Array Oper} {Q:K} {QP:KP} {tail:List Oper}:∀ (seg:List Oper) (st:Option ((Nat×Bool)×Bool)) (ρ:Env) (ds:List Deferred) (w:World),unguarded seg=true→(seg=[]→st=none) →
 denSeq P N ro QP (fun ρ ds w=>denOps P N ro ops Q QP tail none ρ ds w) seg ρ ds w→denOps P N ro ops Q QP (seg++tail) st ρ ds w
 | [],st,ρ,ds,w,_,hst,h=>by rw [hst rfl];exact h
 | o::rest,st,ρ,ds,w,hu,_,h=>by
  simp only [unguarded,List.all_cons,Bool.and_eq_true] at hu
  have hg:o.guard=none:=by
   cases hg:o.guard with
   | none=>rfl
   | some g=>rw [hg] at hu;simp at hu
  simp only [List.cons_append,denOps,hg]
  exact opE_mono h (fun d w hh=>denOps_seg rest none _ _ _ hu.2 (fun _=>rfl) hh) (fun v w hh=>denOps_seg rest none _ _ _ hu.2 (fun _=>rfl) hh)
theorem denOps_none {ops:Array Oper} {Q:K} {QP:KP} {j:Nat} {want act:Bool}:∀ {tail:List Oper} {ρ:Env} {ds:List Deferred} {w:World},(match tail with | []=>true | o::_=>!guardIs j want o)=true →
 denOps P N ro ops Q QP tail none ρ ds w→denOps P N ro ops Q QP tail (some ((j,want),act)) ρ ds w
 | [],_,_,_,_,h=>h
 | o::rest,ρ,ds,w,ht,h=>by
  unfold denOps at h ⊢
  cases hg:o.guard with
  | none=>simpa only [hg] using h
  | some g =>
   obtain ⟨j',want'⟩:=g
   simp only [hg] at h ⊢
   simp only [guardIs,hg,Bool.not_eq_true'] at ht
   rw [ht]
   exact h
theorem gkeep_apart {ops:Array Oper} {j:Nat} {want act:Bool} {o:Oper} {rest:List Oper} (h:apartG ops j (o::rest)=true) (hne:rest≠[]) :
 gkeep ops o (some ((j,want),act))=some ((j,want),act):=by
 cases rest with
 | nil=>exact absurd rfl hne
 | cons x xs =>
  simp only [apartG,Bool.and_eq_true] at h
  unfold gkeep
  simp only
  have h1:=h.1
  cases hd:(ops[j]?).bind (·.dst) with
  | none=>rfl
  | some d =>
   cases hd':o.dst with
   | none=>rfl
   | some d' =>
    rw [hd,hd'] at h1
    simp only [Bool.not_eq_true'] at h1
    simp only [h1,cond_false]
theorem gkeep_cases (ops:Array Oper) (o:Oper) (g:(Nat×Bool)×Bool):gkeep ops o (some g)=none∨gkeep ops o (some g)=some g:=by
 unfold gkeep
 simp only
 split
 · rename_i d d' _ _
   cases Nat.beq d d'<;>simp
 · right;rfl
theorem denOps_tail {ops:Array Oper} {Q:K} {QP:KP} {j:Nat} {want act:Bool} {tail:List Oper} {ρ:Env} {ds:List Deferred} {w:World} (o:Oper) (ht:(match tail with | []=>true | o::_=>!guardIs j want o)=true)
 (h:denOps P N ro ops Q QP tail none ρ ds w):denOps P N ro ops Q QP tail (gkeep ops o (some ((j,want),act))) ρ ds w:=by
 rcases gkeep_cases ops o ((j,want),act) with e | e<;>rw [e]
 · exact h
 · exact denOps_none ht h
theorem denOps_act {ops:Array Oper} {Q:K} {QP:KP} {j:Nat} {want:Bool} {tail:List Oper} (ht:(match tail with | []=>true | o::_=>!guardIs j want o)=true):∀ (grp:List Oper) (ρ:Env) (ds:List Deferred) (w:World),grp≠[]→grp.all (guardIs j want)=true→apartG ops j grp=true →
 denSeq P N ro QP (fun ρ ds w=>denOps P N ro ops Q QP tail none ρ ds w) grp ρ ds w→denOps P N ro ops Q QP (grp++tail) (some ((j,want),true)) ρ ds w
 | [],_,_,_,hne,_,_,_=>absurd rfl hne
 | o::rest,ρ,ds,w,_,hall,hap,h=>by
  simp only [List.all_cons,Bool.and_eq_true] at hall
  obtain ⟨ho,hrest⟩:=hall
  unfold guardIs at ho
  cases hg:o.guard with
  | none=>rw [hg] at ho;simp at ho
  | some g =>
   obtain ⟨j',want'⟩:=g
   rw [hg] at ho
   simp only [Bool.and_eq_true] at ho
   have e1:j'=j:=by simpa using ho.1
   have e2:want'=want:=by simpa using ho.2
   subst e1 e2
   simp only [List.cons_append,denOps,hg]
   have hb:(Nat.beq j' j'&&want' == want')=true:=by simp
   rw [hb]
   simp only [cond_true]
   have next:∀ ρ' ds' w',denSeq P N ro QP (fun ρ ds w=>denOps P N ro ops Q QP tail none ρ ds w) rest ρ' ds' w'→denOps P N ro ops Q QP (rest++tail) (gkeep ops o (some ((j',want'),true))) ρ' ds' w':=by
    intro ρ' ds' w' hh
    cases rest with
    | nil=>exact denOps_tail o ht hh
    | cons x xs =>
     rw [gkeep_apart hap (by simp)]
     refine denOps_act ht (x::xs) _ _ _ (by simp) hrest ?_ hh
     simp only [apartG,Bool.and_eq_true] at hap
     exact hap.2
   exact opE_mono h (fun d w hh=>next _ _ _ hh) (fun v w hh=>next _ _ _ hh)
theorem denOps_pass {ops:Array Oper} {Q:K} {QP:KP} {j:Nat} {want:Bool} {tail:List Oper} (ht:(match tail with | []=>true | o::_=>!guardIs j want o)=true):∀ (grp:List Oper) (ρ:Env) (ds:List Deferred) (w:World),grp≠[]→grp.all (guardIs j want)=true→apartG ops j grp=true →
 denOps P N ro ops Q QP tail none (skipAll N grp ρ) ds w→denOps P N ro ops Q QP (grp++tail) (some ((j,want),false)) ρ ds w
 | [],_,_,_,hne,_,_,_=>absurd rfl hne
 | o::rest,ρ,ds,w,_,hall,hap,h=>by
  simp only [List.all_cons,Bool.and_eq_true] at hall
  obtain ⟨ho,hrest⟩:=hall
  unfold guardIs at ho
  cases hg:o.guard with
  | none=>rw [hg] at ho;simp at ho
  | some g =>
   obtain ⟨j',want'⟩:=g
   rw [hg] at ho
   simp only [Bool.and_eq_true] at ho
   have e1:j'=j:=by simpa using ho.1
   have e2:want'=want:=by simpa using ho.2
   subst e1 e2
   simp only [List.cons_append,denOps,hg]
   have hb:(Nat.beq j' j'&&want' == want')=true:=by simp
   rw [hb]
   simp only [cond_true]
   cases rest with
   | nil=>exact denOps_tail o ht h
   | cons x xs =>
    rw [gkeep_apart hap (by simp)]
    refine denOps_pass ht (x::xs) _ _ _ (by simp) hrest ?_ h
    simp only [apartG,Bool.and_eq_true] at hap
    exact hap.2
theorem denOps_group {ops:Array Oper} {Q:K} {QP:KP} {j:Nat} {want:Bool} {grp tail:List Oper} {ρ:Env} {ds:List Deferred} {w:World} (hok:grpOK ops j want grp tail=true)
 (h:guardP (gslot ops ρ j) want (denSeq P N ro QP (fun ρ ds w=>denOps P N ro ops Q QP tail none ρ ds w) grp ρ ds w) (denOps P N ro ops Q QP tail none (skipAll N grp ρ) ds w)) :
 denOps P N ro ops Q QP (grp++tail) none ρ ds w:=by
 simp only [grpOK,Bool.and_eq_true] at hok
 obtain ⟨⟨⟨hall,hap⟩,hne⟩,ht⟩:=hok
 cases grp with
 | nil=>simp at hne
 | cons o rest =>
  have hall':=hall
  simp only [List.all_cons,Bool.and_eq_true] at hall'
  have ho:=hall'.1
  unfold guardIs at ho
  cases hg:o.guard with
  | none=>rw [hg] at ho;simp at ho
  | some g =>
   obtain ⟨j',want'⟩:=g
   rw [hg] at ho
   simp only [Bool.and_eq_true] at ho
   have e1:j'=j:=by simpa using ho.1
   have e2:want'=want:=by simpa using ho.2
   subst e1 e2
   have hb:(Nat.beq j' j'&&want' == want')=true:=by simp
   by_cases hv:boolOf (gslot ops ρ j')=some want'
   · rw [guardP_true hv] at h
     have:=denOps_act ht (o::rest) ρ ds w (by simp) hall hap h
     simp only [List.cons_append,denOps,hg,hb,cond_true] at this
     simp only [List.cons_append,denOps,hg]
     rw [guardP_true hv]
     exact this
   · rw [guardP_false hv] at h
     have:=denOps_pass ht (o::rest) ρ ds w (by simp) hall hap h
     simp only [List.cons_append,denOps,hg,hb,cond_true] at this
     simp only [List.cons_append,denOps,hg]
     rw [guardP_false hv]
     exact this
theorem sim_seq {a b:Code} {Q:K} {QP:KP} {ρ:Env} {ds:List Deferred} {w:World} (h:den P N ro a (thenK (fun ρ ds w=>den P N ro b Q QP ρ ds w) Q) QP ρ ds w):den P N ro (.seq a b) Q QP ρ ds w:=h
theorem sim_skip {Q:K} {QP:KP} {ρ:Env} {ds:List Deferred} {w:World} (h:Q .normal ρ ds w):den P N ro .skip Q QP ρ ds w:=h
theorem sim_ret {Q:K} {QP:KP} {ρ:Env} {ds:List Deferred} {w:World} (h:Q .ret ρ ds w):den P N ro .ret Q QP ρ ds w:=h
theorem sim_exit {id:Nat} {Q:K} {QP:KP} {ρ:Env} {ds:List Deferred} {w:World} (h:Q (.exit id) ρ ds w):den P N ro (.exit id) Q QP ρ ds w:=h
theorem sim_block {id:Nat} {c:Code} {Q:K} {QP:KP} {ρ:Env} {ds:List Deferred} {w:World} (h:den P N ro c (blockK id Q) QP ρ ds w):den P N ro (.block id c) Q QP ρ ds w:=h
theorem sim_scope {c:Code} {Q:K} {QP:KP} {ρ:Env} {ds:List Deferred} {w:World} (h:den P N ro c Q QP ρ ds w):den P N ro (.scope c) Q QP ρ ds w:=h
theorem sim_label {l:Nat} {Q:K} {QP:KP} {ρ:Env} {ds:List Deferred} {w:World} (h:Q .normal ρ ds w):den P N ro (.label l) Q QP ρ ds w:=h
theorem sim_then {k:Env→List Deferred→World→Prop} {Q:K} {ρ:Env} {ds:List Deferred} {w:World} (h:k ρ ds w):thenK k Q .normal ρ ds w:=h
theorem sim_then_exit {k:Env→List Deferred→World→Prop} {Q:K} {id:Nat} {ρ:Env} {ds:List Deferred} {w:World} (h:Q (.exit id) ρ ds w):thenK k Q (.exit id) ρ ds w:=h
theorem sim_then_ret {k:Env→List Deferred→World→Prop} {Q:K} {ρ:Env} {ds:List Deferred} {w:World} (h:Q .ret ρ ds w):thenK k Q .ret ρ ds w:=h
theorem sim_block_normal {id:Nat} {Q:K} {ρ:Env} {ds:List Deferred} {w:World} (h:Q .normal ρ ds w):blockK id Q .normal ρ ds w:=h
theorem sim_block_ret {id:Nat} {Q:K} {ρ:Env} {ds:List Deferred} {w:World} (h:Q .ret ρ ds w):blockK id Q .ret ρ ds w:=h
theorem sim_block_hit {id:Nat} {Q:K} {ρ:Env} {ds:List Deferred} {w:World} (h:Q .normal ρ ds w):blockK id Q (.exit id) ρ ds w:=by
 show (bif Nat.beq id id then Q .normal ρ ds w else Q (.exit id) ρ ds w)
 have:Nat.beq id id=true:=by simp
 rw [this];exact h
theorem sim_block_miss {id id':Nat} {Q:K} {ρ:Env} {ds:List Deferred} {w:World} (hne:Nat.beq id' id=false) (h:Q (.exit id') ρ ds w):blockK id Q (.exit id') ρ ds w:=by
 show (bif Nat.beq id' id then Q .normal ρ ds w else Q (.exit id') ρ ds w)
 rw [hne];exact h
theorem sim_cond {c:Operand} {A B:Code} {Q:K} {QP:KP} {ρ:Env} {ds:List Deferred} {w:World} {v:Value} {p q:Prop} (h:condP v p q) (hv:ev ρ c=v) (hp:p→den P N ro A Q QP ρ ds w) (hq:q→den P N ro B Q QP ρ ds w):den P N ro (.cond c A B) Q QP ρ ds w:=by
 show condP (ev ρ c) (den P N ro A Q QP ρ ds w) (den P N ro B Q QP ρ ds w)
 rw [hv]
 unfold condP at *
 cases v with
 | bool b=>cases b with
  | true=>exact hp h
  | false=>exact hq h
 | _=>exact h.elim
theorem sim_region {id:Nat} {l:List Oper} {Q:K} {QP:KP} {ρ:Env} {ds:List Deferred} {w:World} (hu:unguarded l=true) (h:denSeq P N ro QP (fun ρ ds w=>Q .normal ρ ds w) l ρ ds w):den P N ro (.region id l.toArray false) Q QP ρ ds w:=by
 show denOps P N ro l.toArray Q QP l none ρ ds w
 have:=denOps_seg (P:=P) (N:=N) (ro:=ro) (ops:=l.toArray) (Q:=Q) (QP:=QP) (tail:=[]) l none ρ ds w hu (fun _=>rfl) h
 rwa [List.append_nil] at this
theorem sim_regionG {id:Nat} {l:List Oper} {Q:K} {QP:KP} {ρ:Env} {ds:List Deferred} {w:World} (h:denOps P N ro l.toArray Q QP l none ρ ds w):den P N ro (.region id l.toArray false) Q QP ρ ds w:=h
theorem sim_seg (n:Nat) {ops:Array Oper} {l:List Oper} {Q:K} {QP:KP} {ρ:Env} {ds:List Deferred} {w:World} (hu:unguarded (l.take n)=true) (h:denSeq P N ro QP (fun ρ ds w=>denOps P N ro ops Q QP (l.drop n) none ρ ds w) (l.take n) ρ ds w) :
 denOps P N ro ops Q QP l none ρ ds w:=by
 have:=denOps_seg (P:=P) (N:=N) (ro:=ro) (ops:=ops) (Q:=Q) (QP:=QP) (tail:=l.drop n) (l.take n) none ρ ds w hu (fun _=>rfl) h
 rwa [List.take_append_drop] at this
theorem sim_end {ops:Array Oper} {Q:K} {QP:KP} {ρ:Env} {ds:List Deferred} {w:World} (h:Q .normal ρ ds w):denOps P N ro ops Q QP [] none ρ ds w:=h
def Fr (S:List Nat) (ρ ρ':Env):Prop:=∀ i,i ∉ S→ρ' i=ρ i
theorem Fr.refl (S:List Nat) (ρ:Env):Fr S ρ ρ:=fun _ _=>rfl
theorem Fr.put {S:List Nat} {ρ ρ':Env} {d:Nat} {v:Value} (hd:S.contains d=true) (h:Fr S ρ ρ'):Fr S ρ (Sw.put N ρ' (some d) v):=fun i hi =>
 (put_ne (fun e=>hi (by injection e with e;subst e;exact List.contains_iff_mem.1 hd))).trans (h i hi)
theorem Fr.put_none {S:List Nat} {ρ ρ':Env} {v:Value} (h:Fr S ρ ρ'):Fr S ρ (Sw.put N ρ' none v):=h
theorem Fr.mix {S W:List Nat} {ρ ρ' σ:Env} (hW:W.all (S.contains ·)=true) (h:Fr S ρ ρ'):Fr S ρ (Sw.mix W ρ' σ):=fun i hi =>
 (mix_out (fun hw=>hi (List.contains_iff_mem.1 (List.all_eq_true.1 hW i hw)))).trans (h i hi)
theorem Fr.skipAll {S:List Nat} {ρ:Env}:∀ {l:List Oper} {ρ':Env},(l.filterMap (·.dst)).all (S.contains ·)=true→Fr S ρ ρ'→Fr S ρ (Sw.skipAll N l ρ')
 | [],_,_,h=>h
 | o::rest,ρ',hl,h=>by
  unfold Sw.skipAll
  cases hd:o.dst with
  | none=>simp [hd] at hl;exact Fr.skipAll (by simpa using hl) h
  | some d =>
   rw [List.filterMap_cons,hd] at hl
   simp only [List.all_cons,Bool.and_eq_true] at hl
   exact Fr.skipAll hl.2 (h.put hl.1)
theorem mix_of_Fr {S:List Nat} {ρ ρ':Env} (h:Fr S ρ ρ'):mix S ρ ρ'=ρ':=by
 funext i
 by_cases hi:i∈S
 · unfold mix;rw [List.contains_iff_mem.2 hi];rfl
 · exact (mix_out hi).trans (h i hi).symm
theorem sim_join {c:Code} {k:Env→List Deferred→World→Prop} {Q:K} {QP:KP} {ρ:Env} {ds:List Deferred} {w:World} (S:List Nat) (J:Env→World→Prop) (hJ:∀ σ w,J σ w→k (mix S ρ σ) ds w)
 (hc:∀ k':Env→List Deferred→World→Prop,(∀ ρ' w,Fr S ρ ρ'→J ρ' w→k' ρ' ds w)→den P N ro c (thenK k' Q) QP ρ ds w):den P N ro c (thenK k Q) QP ρ ds w :=
 hc k fun ρ' w hf hj=>by rw [← mix_of_Fr hf];exact hJ ρ' w hj
theorem sim_group (n:Nat) (j:Nat) (want:Bool) {ops:Array Oper} {l:List Oper} {Q:K} {QP:KP} {ρ:Env} {ds:List Deferred} {w:World} {v:Value} (S:List Nat) (J:Env→World→Prop) (hok:grpOK ops j want (l.take n) (l.drop n)=true) (hv:gslot ops ρ j=v)
 (hJ:∀ σ w,J σ w→denOps P N ro ops Q QP (l.drop n) none (mix S ρ σ) ds w)
 (hc:∀ T:Env→List Deferred→World→Prop,(∀ ρ' w,Fr S ρ ρ'→J ρ' w→T ρ' ds w)→guardP v want (denSeq P N ro QP T (l.take n) ρ ds w) (T (skipAll N (l.take n) ρ) ds w)):denOps P N ro ops Q QP l none ρ ds w:=by
 have h:=hc (fun ρ ds w=>denOps P N ro ops Q QP (l.drop n) none ρ ds w) (fun ρ' w hf hj=>by rw [← mix_of_Fr hf];exact hJ ρ' w hj)
 rw [← hv] at h
 have:=denOps_group hok h
 rwa [List.take_append_drop] at this
theorem guardP_mono {v:Value} {want:Bool} {p q p' q':Prop} (h:guardP v want p q) (hp:p→p') (hq:q→q'):guardP v want p' q':=by
 unfold guardP at *
 cases v with
 | bool b=>cases hb:(b == want) with
  | true=>simp only [hb] at h ⊢;exact hp h
  | false=>simp only [hb] at h ⊢;exact hq h
 | _=>exact hq h
theorem mix_congr {W W':List Nat} (h:(W'.all (W.contains ·)&&W.all (W'.contains ·))=true) (ρ σ:Env):mix W ρ σ=mix W' ρ σ:=by
 simp only [Bool.and_eq_true,List.all_eq_true,List.contains_iff_mem] at h
 funext i
 unfold mix
 have:W.contains i=W'.contains i:=by
  rw [Bool.eq_iff_iff,List.contains_iff_mem,List.contains_iff_mem]
  exact ⟨fun hi=>h.2 i hi,fun hi=>h.1 i hi⟩
 rw [this]
theorem sim_loop {c:Code} {Q:K} {QP:KP} {ρ:Env} {ds:List Deferred} {w:World} (W:List Nat) (hW:((writes c).all (W.contains ·)&&W.all ((writes c).contains ·))=true) (I:Env→World→Prop) (μ:Env→World→Nat) (h0:I ρ w)
 (hr:∀ σ w,I σ w→den P N ro c (thenK (fun ρ' ds' w'=>ds'=ds∧I ρ' w'∧μ ρ' w' < μ σ w) Q) QP (mix W ρ σ) ds w):den P N ro (.loop c) Q QP ρ ds w :=
 ⟨fun ρ ds' w=>ds'=ds∧I ρ w,μ,⟨rfl,h0⟩,fun σ ds' w hI=>by
  obtain ⟨rfl,hI⟩:=hI
  rw [← mix_congr hW]
  have:=hr σ w hI
  have he:(thenK (fun ρ' ds'' w'=>ds''=ds'∧I ρ' w'∧μ ρ' w' < μ σ w) Q)=(thenK (fun ρ' ds'' w'=>(ds''=ds'∧I ρ' w')∧μ ρ' w' < μ σ w) Q):=by
   funext e ρ d w;cases e<;>simp [thenK,and_assoc]
  rw [← he];exact this⟩
section ops
variable {QP:KP} {T:Env→List Deferred→World→Prop} {o:Oper} {rest:List Oper} {ρ:Env} {ds:List Deferred} {w:World}
theorem sim_nil (h:T ρ ds w):denSeq P N ro QP T [] ρ ds w:=h
theorem sim_move {v:Value} (hd:isDefer o.op=false) (hs:execOp (ev ρ) o=Sem.pure (.value v)) (h:denSeq P N ro QP T rest (put N ρ o.dst v) ds w):denSeq P N ro QP T (o::rest) ρ ds w:=by
 show opE P ro QP o ρ ds w _ _
 unfold opE
 rw [hd,hs]
 exact h
theorem run_valS (s:Sem Value) (w:World):Sem.run P (do pure (.value (← s)):Sem Next) w=match Sem.run P s w with | .ok v w' => .ok (.value v) w' | .halt h w' => .halt h w':=by
 rw [Sem.run_bind]
 cases Sem.run P s w<;>rfl
theorem run_unitS (s:Sem Unit) (w:World):Sem.run P (do s;pure .skip:Sem Next) w=match Sem.run P s w with | .ok _ w' => .ok .skip w' | .halt h w' => .halt h w':=by
 rw [Sem.run_bind]
 cases Sem.run P s w<;>rfl
theorem sim_val {s:Sem Value} {QP':List PanicEntry→World→Prop} {k:Value→World→Prop} (h:opV P s QP' w k) (hd:isDefer o.op=false) (hs:execOp (ev ρ) o=(do pure (.value (← s)))) (hp:∀ ch w,QP' ch w→QP ch ρ ds w)
 (hk:∀ v w',k v w'→denSeq P N ro QP T rest (put N ρ o.dst v) ds w'):denSeq P N ro QP T (o::rest) ρ ds w:=by
 show opE P ro QP o ρ ds w _ _
 unfold opE
 rw [hd,hs]
 show onNext P _ _ _ (Sem.run P (do pure (.value (← s)):Sem Next) w)
 rw [run_valS]
 unfold opV at h
 cases hr:s.run P w with
 | ok v w'=>rw [hr] at h;exact hk _ _ h
 | halt x w'=>rw [hr] at h;cases x<;>simp only at h;exact hp _ _ h
theorem sim_unit {s:Sem Unit} {QP':List PanicEntry→World→Prop} {k:World→Prop} (h:opU P s QP' w k) (hd:isDefer o.op=false) (hs:execOp (ev ρ) o=(do s;pure .skip)) (hp:∀ ch w,QP' ch w→QP ch ρ ds w)
 (hk:∀ w',k w'→denSeq P N ro QP T rest (put N ρ o.dst undef) ds w'):denSeq P N ro QP T (o::rest) ρ ds w:=by
 show opE P ro QP o ρ ds w _ _
 unfold opE
 rw [hd,hs]
 show onNext P _ _ _ (Sem.run P (do s;pure .skip:Sem Next) w)
 rw [run_unitS]
 unfold opU at h
 cases hr:s.run P w with
 | ok v w'=>rw [hr] at h;exact hk _ h
 | halt x w'=>rw [hr] at h;cases x<;>simp only at h;exact hp _ _ h
theorem sim_pick {c a b:Operand} {d:Nat} {ty:TypeId} {pos:String} {after:Array Edge} {g:Option (Nat×Bool)} {vc va vb:Value} {k:Value→Prop} (h:pickK vc va vb k) (h1:ev ρ c=vc) (h2:ev ρ a=va) (h3:ev ρ b=vb)
 (hk:∀ v,k v→denSeq P N ro QP T rest (put N ρ (some d) v) ds w):denSeq P N ro QP T (⟨some d,.pick c a b,ty,pos,after,g⟩::rest) ρ ds w:=by
 subst h1 h2 h3
 show opE P ro QP _ ρ ds w _ _
 unfold opE
 show onNext P _ _ _ (Sem.run P (do pure (.value (if ← asBool (ev ρ c) then ev ρ a else ev ρ b)):Sem Next) w)
 unfold pickK at h
 split at h
 · rename_i hc;rw [hc];exact hk _ h
 · rename_i hc;rw [hc];exact hk _ h
 · exact h.elim
theorem binS_eq (op:BinOp) (t:TypeId) (x y:Operand) (a b:Value):(do eqGuard op t x y a b;binOp op t a b:Sem Value)=binS op t (isConst x||isConst y) a b:=by
 unfold binS eqGuard
 cases op<;>try rfl
 all_goals
  cases a<;>try rfl
  all_goals
   cases b<;>try rfl
   all_goals (cases x<;>cases y<;>rfl)
theorem sim_bin {op:BinOp} {t ty:TypeId} {x y:Operand} {d:Nat} {t2:TypeId} {pos:String} {after:Array Edge} {g:Option (Nat×Bool)} {c:Bool} {a b:Value} {QP':List PanicEntry→World→Prop} {k:Value→World→Prop}
 (h:opV P (binS op t c a b) QP' w k) (hc:(isConst x||isConst y)=c) (h1:ev ρ x=a) (h2:ev ρ y=b) (hp:∀ ch w,QP' ch w→QP ch ρ ds w)
 (hk:∀ v w',k v w'→denSeq P N ro QP T rest (put N ρ (some d) v) ds w'):denSeq P N ro QP T (⟨some d,.binOp op t x y t2,ty,pos,after,g⟩::rest) ρ ds w:=by
 subst hc h1 h2
 rw [← binS_eq] at h
 exact sim_val h rfl rfl hp hk
theorem sim_builtin {b:Builtin} {l:List Operand} {ats:Array TypeId} {ty:TypeId} {d:Nat} {pos:String} {after:Array Edge} {g:Option (Nat×Bool)} {s:Sem Value} {QP':List PanicEntry→World→Prop} {k:Value→World→Prop}
 (h:opV P s QP' w k) (hs:builtin b ats ty ((l.map fun | .const _=>true | _=>false).toArray) (l.map (ev ρ)).toArray=(do pure (.value (← s)))) (hp:∀ ch w,QP' ch w→QP ch ρ ds w)
 (hk:∀ v w',k v w'→denSeq P N ro QP T rest (put N ρ (some d) v) ds w'):denSeq P N ro QP T (⟨some d,.call ⟨.builtin b,l.toArray,ats⟩,ty,pos,after,g⟩::rest) ρ ds w:=by
 refine sim_val (o:=⟨some d,.call ⟨.builtin b,l.toArray,ats⟩,ty,pos,after,g⟩) h rfl ?_ hp hk
 rw [← hs]
 simp only [execOp,resolve,List.map_toArray]
 rfl
theorem sim_callV {fo:Operand} {l:List Operand} {ats:Array TypeId} {ty:TypeId} {dst:Option Nat} {pos:String} {after:Array Edge} {g:Option (Nat×Bool)} {fv:Value} {args:List Value} {QP':List PanicEntry→World→Prop} {k:Value→World→Prop}
 (h:callV P fv args.toArray QP' w k) (h1:ev ρ fo=fv) (h2:l.map (ev ρ)=args) (hp:∀ ch w,QP' ch w→QP ch ρ ds w)
 (hk:∀ v w',k v w'→denSeq P N ro QP T rest (put N ρ dst v) ds w'):denSeq P N ro QP T (⟨dst,.call ⟨.value fo,l.toArray,ats⟩,ty,pos,after,g⟩::rest) ρ ds w:=by
 subst h1 h2
 show opE P ro QP _ ρ ds w _ _
 unfold opE
 show opD P (execOp (ev ρ) _) w _ _ _
 have he:execOp (ev ρ) ⟨dst,.call ⟨.value fo,l.toArray,ats⟩,ty,pos,after,g⟩=callS (ev ρ fo) (l.map (ev ρ)).toArray:=by
  simp only [execOp,resolve,List.map_toArray,callS]
 rw [he]
 exact opD_mono h hp (fun _ _ h=>h.elim) hk
theorem sim_call {f:FuncId} {l:List Operand} {ats:Array TypeId} {ty:TypeId} {dst:Option Nat} {pos:String} {after:Array Edge} {g:Option (Nat×Bool)} {args:List Value} {QP':List PanicEntry→World→Prop} {k:Value→World→Prop}
 (h:callK P f args.toArray QP' w k) (hf:Callable P f) (h2:l.map (ev ρ)=args) (hp:∀ ch w,QP' ch w→QP ch ρ ds w)
 (hk:∀ v w',k v w'→denSeq P N ro QP T rest (put N ρ dst v) ds w'):denSeq P N ro QP T (⟨dst,.call ⟨.value (.func f),l.toArray,ats⟩,ty,pos,after,g⟩::rest) ρ ds w:=by
 refine sim_callV (fv := .func (.func f) #[] #[]) (args:=args) ?_ rfl h2 hp hk
 rw [callV_func hf]
 simpa using h
theorem sim_build {t ty:TypeId} {ps:List (Nat×Operand)} {d:Nat} {pos:String} {after:Array Edge} {g:Option (Nat×Bool)} {vs:List (Nat×Value)} {QP':List PanicEntry→World→Prop} {k:Value→World→Prop}
 (h:opV P (Instr.build t vs.toArray) QP' w k) (h2:(ps.map fun (i,x)=>(i,ev ρ x))=vs) (hp:∀ ch w,QP' ch w→QP ch ρ ds w)
 (hk:∀ v w',k v w'→denSeq P N ro QP T rest (put N ρ (some d) v) ds w'):denSeq P N ro QP T (⟨some d,.build t ps.toArray,ty,pos,after,g⟩::rest) ρ ds w:=by
 refine sim_val (o:=⟨some d,.build t ps.toArray,ty,pos,after,g⟩) h rfl ?_ hp hk
 subst h2
 simp only [execOp,List.map_toArray]
theorem sim_buildSlice {t ty:TypeId} {n:Nat} {ps:List (Nat×Operand)} {d:Nat} {pos:String} {after:Array Edge} {g:Option (Nat×Bool)} {vs:List (Nat×Value)} {QP':List PanicEntry→World→Prop} {k:Value→World→Prop}
 (h:opV P (Instr.buildSlice t n vs.toArray) QP' w k) (h2:(ps.map fun (i,x)=>(i,ev ρ x))=vs) (hp:∀ ch w,QP' ch w→QP ch ρ ds w)
 (hk:∀ v w',k v w'→denSeq P N ro QP T rest (put N ρ (some d) v) ds w'):denSeq P N ro QP T (⟨some d,.buildSlice t n ps.toArray,ty,pos,after,g⟩::rest) ρ ds w:=by
 refine sim_val (o:=⟨some d,.buildSlice t n ps.toArray,ty,pos,after,g⟩) h rfl ?_ hp hk
 subst h2
 simp only [execOp,List.map_toArray]
theorem sim_makeFunc {fn:Fn} {fs cs:List Operand} {ty:TypeId} {d:Nat} {pos:String} {after:Array Edge} {g:Option (Nat×Bool)} {vf vs:List Value} {QP':List PanicEntry→World→Prop} {k:Value→World→Prop}
 (h:opV P (Instr.makeFunc fn vf.toArray vs.toArray) QP' w k) (h1:fs.map (ev ρ)=vf) (h2:cs.map (ev ρ)=vs) (hp:∀ ch w,QP' ch w→QP ch ρ ds w)
 (hk:∀ v w',k v w'→denSeq P N ro QP T rest (put N ρ (some d) v) ds w'):denSeq P N ro QP T (⟨some d,.makeFunc fn fs.toArray cs.toArray,ty,pos,after,g⟩::rest) ρ ds w:=by
 refine sim_val (o:=⟨some d,.makeFunc fn fs.toArray cs.toArray,ty,pos,after,g⟩) h rfl ?_ hp hk
 subst h1 h2
 simp only [execOp,List.map_toArray]
end ops
end
def loop1 (body:Value→World→(Value→World→Prop)→Prop) (a0:Value) (w:World):Prop:=∃ (I:Value→World→Prop) (μ:Value→World→Nat),I a0 w∧∀ a0 w,I a0 w→body a0 w (fun a0' w'=>I a0' w'∧μ a0' w' < μ a0 w)
theorem loop1_intro {body:Value→World→(Value→World→Prop)→Prop} {a0:Value} {w:World} (I:Value→World→Prop) (μ:Value→World→Nat) (h0:I a0 w) (hr:∀ a0 w,I a0 w→body a0 w (fun a0' w'=>I a0' w'∧μ a0' w' < μ a0 w)):loop1 body a0 w:=⟨I,μ,h0,hr⟩
def loop2 (body:Value→Value→World→(Value→Value→World→Prop)→Prop) (a0 a1:Value) (w:World):Prop:=∃ (I:Value→Value→World→Prop) (μ:Value→Value→World→Nat),I a0 a1 w∧∀ a0 a1 w,I a0 a1 w→body a0 a1 w (fun a0' a1' w'=>I a0' a1' w'∧μ a0' a1' w' < μ a0 a1 w)
theorem loop2_intro {body:Value→Value→World→(Value→Value→World→Prop)→Prop} {a0 a1:Value} {w:World} (I:Value→Value→World→Prop) (μ:Value→Value→World→Nat) (h0:I a0 a1 w) (hr:∀ a0 a1 w,I a0 a1 w→body a0 a1 w (fun a0' a1' w'=>I a0' a1' w'∧μ a0' a1' w' < μ a0 a1 w)):loop2 body a0 a1 w:=⟨I,μ,h0,hr⟩
def loop3 (body:Value→Value→Value→World→(Value→Value→Value→World→Prop)→Prop) (a0 a1 a2:Value) (w:World):Prop:=∃ (I:Value→Value→Value→World→Prop) (μ:Value→Value→Value→World→Nat),I a0 a1 a2 w∧∀ a0 a1 a2 w,I a0 a1 a2 w→body a0 a1 a2 w (fun a0' a1' a2' w'=>I a0' a1' a2' w'∧μ a0' a1' a2' w' < μ a0 a1 a2 w)
theorem loop3_intro {body:Value→Value→Value→World→(Value→Value→Value→World→Prop)→Prop} {a0 a1 a2:Value} {w:World} (I:Value→Value→Value→World→Prop) (μ:Value→Value→Value→World→Nat) (h0:I a0 a1 a2 w) (hr:∀ a0 a1 a2 w,I a0 a1 a2 w→body a0 a1 a2 w (fun a0' a1' a2' w'=>I a0' a1' a2' w'∧μ a0' a1' a2' w' < μ a0 a1 a2 w)):loop3 body a0 a1 a2 w:=⟨I,μ,h0,hr⟩
end Go.Sw
namespace Go.Sw
def drew (w:World):World:={ w with drawn:=w.drawn+1 }
def readyL (ops:Array Oper) (done:List Nat):List Nat :=
 (List.range ops.size).filter fun i=>!done.contains i&&((ops[i]?).map (·.after.all fun e=>!Region.binds .any e||done.contains e.on)).getD false
def predsL (ops:Array Oper) (i:Nat):List Nat:=match ops[i]? with
 | some o=>(o.after.toList.filter (fun e=>Region.binds .any e)).map (·.on)
 | none=>[]
def addL (l:List Nat) (x:Nat):List Nat:=if l.contains x then l else x::l
def closeL (ops:Array Oper):Nat→List Nat→List Nat
 | 0,l=>l
 | n+1,l=>closeL ops n ((l.flatMap (predsL ops)).foldl addL l)
def isMove (ops:Array Oper) (d:Nat):Bool:=match ops[d]? with
 | some o=>(match o.op with | .move _=>true | _=>false)&&o.guard.isNone
 | none=>false
def mayTurn (ops:Array Oper) (n:Nat) (done:List Nat) (i:Nat):Bool:=done.all fun d=>(closeL ops n [i]).contains d||isMove ops d
def ClosedL (ops:Array Oper) (done:List Nat):Prop:=∀ x,done.contains x=true→∀ y∈predsL ops x,done.contains y=true
def Turns (ops:Array Oper) (C C':World→Prop) (done:List Nat) (i:Nat):Prop:=(∃ n,mayTurn ops n done i=true)∨∀ x,C' x→C x
def denAnyC (P:Program) (N:Nat) (ro:Option Nat) (ops:Array Oper) (Q:Env→List Deferred→World→Prop) (QP:KP) (C:World→Prop):Nat→List Nat→Env→List Deferred→World→Prop
 | 0,done,ρ,ds,w=>readyL ops done=[]∧Q ρ ds w
 | fuel+1,done,ρ,ds,w =>
  (readyL ops done=[]→Q ρ ds w) ∧
  ∀ i∈readyL ops done,denOp P N ro ops QP i (fun ρ ds w=>(C w∧denAnyC P N ro ops Q QP C fuel (i::done) ρ ds w)∨∃ C',Turns ops C C' done i∧C' w∧denAnyC P N ro ops Q QP C' fuel (i::done) ρ ds w) ρ ds w
def denD (P:Program) (N:Nat) (ro:Option Nat) (ops:Array Oper) (Q:Env→List Deferred→World→Prop) (QP:KP) (C:World→Prop) (fuel:Nat) (done:List Nat) (ρ:Env) (ds:List Deferred) (w:World):Prop:=ClosedL ops done→denAnyC P N ro ops Q QP C fuel done ρ ds w
section
variable {P:Program} {N:Nat} {ro:Option Nat} {ops:Array Oper} {Q:Env→List Deferred→World→Prop} {QP:KP} {QP0:List PanicEntry→List Deferred→World→Prop} {C:World→Prop}
theorem denOp_mono {i:Nat} {k k':Env→List Deferred→World→Prop} {ρ:Env} {ds:List Deferred} {w:World} (h:∀ ρ ds w,k ρ ds w→k' ρ ds w) (hh:denOp P N ro ops QP i k ρ ds w):denOp P N ro ops QP i k' ρ ds w:=by
 unfold denOp at *
 cases ho:ops[i]? with
 | none=>rw [ho] at hh;exact h _ _ _ hh
 | some o =>
  rw [ho] at hh
  simp only at hh ⊢
  unfold guardO at *
  cases hg:o.guard with
  | none=>rw [hg] at hh;exact opE_mono hh (fun d w=>h _ _ _) (fun v w=>h _ _ _)
  | some g=>rw [hg] at hh;exact guardP_mono hh (fun hh=>opE_mono hh (fun d w=>h _ _ _) (fun v w=>h _ _ _)) (h _ _ _)
def Tracks (n:Nat) (listed:Array Bool) (done:List Nat):Prop:=listed.size=n∧∀ i,i < n→listed.getD i true=done.contains i
theorem ready_of_tracks {listed:Array Bool} {done:List Nat} (h:Tracks ops.size listed done) (hd:∀ i∈done,i < ops.size):Region.ready .any ops listed=readyL ops done:=by
 unfold Region.ready readyL
 apply List.filter_congr
 intro i hi
 have hi':i < ops.size:=List.mem_range.1 hi
 have h1:=h.2 i hi'
 rw [h1]
 have h2:∀ x,listed.getD x false=done.contains x:=by
  intro x
  by_cases hx:x < ops.size
  · have:=h.2 x hx
    have hl:x < listed.size:=by rw [h.1];exact hx
    simp [hl] at this ⊢
    exact this
  · have hl:¬ x < listed.size:=by rw [h.1];exact hx
    have:done.contains x=false:=by rw [Bool.eq_false_iff];intro hc;exact hx (hd x (List.contains_iff_mem.1 hc))
    rw [this]
    simp [hl]
 simp only [h2]
theorem Tracks.step {n:Nat} {listed:Array Bool} {done:List Nat} (h:Tracks n listed done) (i:Nat):Tracks n (listed.setIfInBounds i true) (i::done):=by
 refine ⟨by simp [h.1],fun j hj=>?_⟩
 have:=h.2 j hj
 by_cases hij:i=j
 · subst hij
   have hl:i < listed.size:=by rw [h.1];exact hj
   simp [hl]
 · rw [getD_set_ne true hij,this]
   simp only [List.contains_cons]
   have:(j == i)=false:=by simp;omega
   rw [this];rfl
theorem denAnyC_sound:∀ (fuel:Nat) (C:World→Prop) (listed:Array Bool) (done:List Nat) (ρ:Env) (ds:List Deferred) (w:World),Tracks ops.size listed done→(∀ i∈done,i < ops.size) →
 denAnyC P N ro ops Q QP C fuel done ρ ds w→denAny P N ro ops Q QP fuel listed ρ ds w:=by
 intro fuel
 induction fuel with
 | zero=>intro C listed done ρ ds w ht hd h;exact ⟨by rw [ready_of_tracks ht hd];exact h.1,h.2⟩
 | succ fuel ih =>
  intro C listed done ρ ds w ht hd h
  have hr:=ready_of_tracks ht hd
  refine ⟨fun h0=>h.1 (by rw [← hr];exact h0),fun i hi=>?_⟩
  rw [hr] at hi
  have hi':i < ops.size:=by unfold readyL at hi;exact List.mem_range.1 (List.mem_filter.1 hi).1
  have hd':∀ j∈i::done,j < ops.size:=by intro j hj;cases hj with | head=>exact hi' | tail _ hm=>exact hd j hm
  refine denOp_mono (fun ρ ds w hh=>?_) (h.2 i hi)
  rcases hh with hh | ⟨C',_,_,hh⟩
  · exact ih _ _ _ _ _ _ (ht.step i) hd' hh.2
  · exact ih _ _ _ _ _ _ (ht.step i) hd' hh
theorem mem_readyL {i:Nat} {done:List Nat}:i∈readyL ops done↔done.contains i=false∧∃ o,ops[i]?=some o∧∀ e∈o.after,Region.binds .any e=true→done.contains e.on=true:=by
 unfold readyL
 rw [List.mem_filter,List.mem_range]
 constructor
 · rintro ⟨hi,hh⟩
   rw [Bool.and_eq_true] at hh
   obtain ⟨h1,h2⟩:=hh
   have ho:ops[i]?=some (ops[i]'hi):=Array.getElem?_eq_getElem hi
   refine ⟨by simpa using h1,_,ho,?_⟩
   rw [ho] at h2
   simp only [Option.map_some,Option.getD_some,Array.all_eq_true_iff_forall_mem,Bool.or_eq_true,Bool.not_eq_true'] at h2
   intro e he hb
   rcases h2 e he with h | h
   · rw [hb] at h;cases h
   · exact h
 · rintro ⟨h1,o,ho,h2⟩
   have hi:i < ops.size:=(Qk ho).1
   refine ⟨hi,?_⟩
   rw [Bool.and_eq_true]
   refine ⟨by simpa using h1,?_⟩
   rw [ho]
   simp only [Option.map_some,Option.getD_some,Array.all_eq_true_iff_forall_mem,Bool.or_eq_true,Bool.not_eq_true']
   intro e he
   cases hb:Region.binds .any e with
   | false=>exact .inl rfl
   | true=>exact .inr (h2 e he hb)
theorem readyL_mono {i j:Nat} {done:List Nat} (hj:j∈readyL ops done) (hne:j≠i):j∈readyL ops (i::done):=by
 rw [mem_readyL] at hj ⊢
 obtain ⟨h1,o,ho,h2⟩:=hj
 have c:∀ x,(i::done).contains x=(x == i||done.contains x):=fun x=>by rw [List.contains_cons]
 refine ⟨by rw [c,h1];simp;exact hne,o,ho,fun e he hb=>by rw [c,h2 e he hb];simp⟩
theorem readyL_perm {done done':List Nat} (h:∀ x,done.contains x=done'.contains x):readyL ops done=readyL ops done':=by
 unfold readyL;simp only [h]
theorem contains_cons' (x j:Nat) (done:List Nat):(j::done).contains x=(x == j||done.contains x):=List.contains_cons
theorem all_contains (f:Nat→Bool) (l:List Nat):l.all f=true↔∀ x,l.contains x=true→f x=true:=by
 rw [List.all_eq_true]
 exact ⟨fun h x hx=>h x (List.contains_iff_mem.1 hx),fun h x hx=>h x (List.contains_iff_mem.2 hx)⟩
theorem mayTurn_perm {n:Nat} {done done':List Nat} {i:Nat} (h:∀ x,done.contains x=done'.contains x) (hm:mayTurn ops n done i=true):mayTurn ops n done' i=true:=by
 unfold mayTurn at *
 rw [all_contains] at *
 intro x hx;rw [← h x] at hx;exact hm x hx
theorem denAnyC_perm:∀ (fuel:Nat) {C:World→Prop} {done done':List Nat} {ρ:Env} {ds:List Deferred} {w:World},(∀ x,done.contains x=done'.contains x)→denAnyC P N ro ops Q QP C fuel done ρ ds w→denAnyC P N ro ops Q QP C fuel done' ρ ds w
 | 0,C,done,done',ρ,ds,w,h,hh=>⟨by rw [← readyL_perm h];exact hh.1,hh.2⟩
 | fuel+1,C,done,done',ρ,ds,w,h,hh=>by
  refine ⟨fun h0=>hh.1 (by rw [readyL_perm h];exact h0),fun i hi=>?_⟩
  rw [← readyL_perm h] at hi
  have h':∀ x,(i::done).contains x=(i::done').contains x:=fun x=>by simp only [List.contains_cons,h]
  refine denOp_mono (fun ρ ds w hx=>?_) (hh.2 i hi)
  rcases hx with hx | ⟨C',hm,hC,hx⟩
  · exact .inl ⟨hx.1,denAnyC_perm fuel h' hx.2⟩
  · exact .inr ⟨C',hm.imp (fun ⟨n,hm⟩=>⟨n,mayTurn_perm h hm⟩) id,hC,denAnyC_perm fuel h' hx⟩
theorem mem_preds {i y:Nat}:y∈predsL ops i↔∃ o,ops[i]?=some o∧∃ e∈o.after,Region.binds .any e=true∧e.on=y:=by
 unfold predsL
 cases ho:ops[i]? with
 | none=>simp
 | some o =>
  simp only [List.mem_map,List.mem_filter,Array.mem_toList_iff,Option.some.injEq,exists_eq_left']
  constructor
  · rintro ⟨e,⟨h1,h2⟩,h3⟩;exact ⟨e,h1,h2,h3⟩
  · rintro ⟨e,h1,h2,h3⟩;exact ⟨e,⟨h1,h2⟩,h3⟩
theorem ready_preds {i:Nat} {done:List Nat} (h:i∈readyL ops done):∀ y∈predsL ops i,done.contains y=true:=by
 intro y hy
 obtain ⟨o,ho,e,he,hb,rfl⟩:=mem_preds.1 hy
 obtain ⟨_,o',ho',h2⟩:=mem_readyL.1 h
 rw [ho] at ho';injection ho' with ho';subst ho'
 exact h2 e he hb
theorem ClosedL.nil:ClosedL ops []:=fun x hx=>by simp at hx
theorem ClosedL.step {i:Nat} {done:List Nat} (h:ClosedL ops done) (hi:i∈readyL ops done):ClosedL ops (i::done):=by
 intro x hx y hy
 rw [contains_cons'] at hx ⊢
 cases hxi:(x == i) with
 | true=>rw [beq_iff_eq] at hxi;subst hxi;rw [ready_preds hi y hy];simp
 | false=>rw [hxi,Bool.false_or] at hx;rw [h x hx y hy];simp
theorem mem_addL {l m:List Nat} {x:Nat}:x∈m.foldl addL l→x∈l∨x∈m:=by
 induction m generalizing l with
 | nil=>exact .inl
 | cons a m ih =>
  intro h
  rcases ih h with h | h
  · unfold addL at h
    split at h
    · exact .inl h
    · rcases List.mem_cons.1 h with rfl | h
      · exact .inr (List.mem_cons_self ..)
      · exact .inl h
  · exact .inr (List.mem_cons_of_mem _ h)
theorem closeL_done {done:List Nat} {j:Nat} (hc:ClosedL ops done) (hj:j∈readyL ops done):∀ (n:Nat) (l:List Nat),(∀ x∈l,x=j∨done.contains x=true)→∀ x∈closeL ops n l,x=j∨done.contains x=true
 | 0,_,h=>h
 | n+1,l,h=>closeL_done hc hj n _ fun x hx=>by
  rcases mem_addL hx with hx | hx
  · exact h x hx
  · obtain ⟨y,hy,hxy⟩:=List.mem_flatMap.1 hx
    rcases h y hy with rfl | hd
    · exact .inr (ready_preds hj x hxy)
    · exact .inr (hc y hd x hxy)
def Silent (P:Program) (ops:Array Oper) (C:World→Prop) (o:Oper) (v:Value) (ρ:Env):Prop :=
 ((∀ p q,guardO ops o ρ p q=p)∧isDefer o.op=false∧∀ w,C w→(execOp (ev ρ) o).run P w = .ok (.value v) w)∨((∀ p q,guardO ops o ρ p q=q)∧v=undef)
theorem Silent.denOp {i:Nat} {o:Oper} {v:Value} {ρ:Env} {ds:List Deferred} {w:World} {k:Env→List Deferred→World→Prop} (hi:ops[i]?=some o) (h:Silent P ops C o v ρ) (hC:C w) (hk:k (put N ρ o.dst v) ds w):denOp P N ro ops QP i k ρ ds w:=by
 unfold Sw.denOp
 simp only [hi]
 rcases h with ⟨hg,hd,hs⟩ | ⟨hg,rfl⟩
 · rw [hg]
   unfold opE
   rw [hd]
   simp only [Bool.false_and]
   unfold opD
   rw [hs w hC]
   exact hk
 · rw [hg];exact hk
theorem ev_put_ne {ρ:Env} {d:Option Nat} {v:Value} {x:Operand} (h:∀ t,d=some t→x ≠ .tmp t):ev (put N ρ d v) x=ev ρ x:=by
 cases x with
 | tmp t=>exact put_ne (fun e=>h t e rfl)
 | _=>rfl
theorem execOp_putE (o:Oper) (hs:∀ cs b,o.op ≠ .select cs b) (ρ:Env) (d:Option Nat) (v:Value) (h:∀ t,d=some t→t ∉ o.looksAt ops):execOp (ev (put N ρ d v)) o=execOp (ev ρ) o:=by
 refine execOp_congr o hs fun x hx=>ev_put_ne fun t ht e=>h t ht ?_
 subst e
 unfold Oper.looksAt
 refine List.mem_append_left _ (List.mem_filterMap.2 ⟨.tmp t,by simpa using hx,rfl⟩)
theorem guardO_putE (o:Oper) (ρ:Env) (d:Option Nat) (v:Value) (h:∀ t,d=some t→t ∉ o.looksAt ops) (p q:Prop):guardO ops o (put N ρ d v) p q=guardO ops o ρ p q:=by
 unfold guardO
 cases hg:o.guard with
 | none=>rfl
 | some g =>
  obtain ⟨j,want⟩:=g
  simp only
  have:gslot ops (put N ρ d v) j=gslot ops ρ j:=by
   unfold gslot
   cases hd:(ops[j]?).bind (·.dst) with
   | none=>rfl
   | some t =>
    refine put_ne fun e=>h t e ?_
    unfold Oper.looksAt
    refine List.mem_append_right _ ?_
    simp only [hg,hd,Option.toList_some,List.mem_singleton]
  rw [this]
theorem put_commE (ρ:Env) {x y:Option Nat} (v u:Value) (h:∀ t,x=some t→y≠some t):put N (put N ρ x v) y u=put N (put N ρ y u) x v:=by
 funext i
 by_cases hx:x=some i
 · have hy:y≠some i:=h i hx
   rw [put_ne hy]
   subst hx
   simp only [put,upd]
   cases Nat.beq i i&&Nat.blt i N with
   | true=>rfl
   | false=>exact (put_ne hy).symm
 · by_cases hy:y=some i
   · rw [put_ne (d:=x) hx]
     subst hy
     simp only [put,upd]
     cases Nat.beq i i&&Nat.blt i N with
     | true=>rfl
     | false=>exact put_ne hx
   · rw [put_ne hy,put_ne hx,put_ne hx,put_ne hy]
theorem Silent.put {o oj:Oper} {v u:Value} {ρ:Env} (hs:∀ cs b,o.op ≠ .select cs b) (h:Silent P ops C o v ρ) (hd:∀ t,oj.dst=some t→t ∉ o.looksAt ops):Silent P ops C o v (put N ρ oj.dst u):=by
 rcases h with ⟨hg,hde,hr⟩ | ⟨hg,hv⟩
 · exact .inl ⟨fun p q=>(guardO_putE o ρ _ u hd p q).trans (hg p q),hde,fun w hw=>by rw [execOp_putE o hs ρ _ u hd];exact hr w hw⟩
 · exact .inr ⟨fun p q=>(guardO_putE o ρ _ u hd p q).trans (hg p q),hv⟩
theorem denOp_putE {j:Nat} {oi oj:Oper} {v:Value} (hj:ops[j]?=some oj) (hap:oi.apart ops oj=true) (hsi:∀ cs b,oi.op ≠ .select cs b) (hsj:∀ cs b,oj.op ≠ .select cs b) {k:Env→List Deferred→World→Prop} {ρ:Env} {ds:List Deferred} {w:World}
 (hy:Silent P ops C oi v ρ) (h:denOp P N ro ops (fun ch _ ds w=>QP0 ch ds w) j k (put N ρ oi.dst v) ds w) :
 denOp P N ro ops (fun ch _ ds w=>QP0 ch ds w) j (fun ρ' ds' w'=>Silent P ops C oi v ρ'∧k (put N ρ' oi.dst v) ds' w') ρ ds w:=by
 obtain ⟨h1,h2,h3⟩:=Oper.apart_spec hap
 unfold denOp at *
 simp only [hj] at *
 rw [guardO_putE oj ρ oi.dst v h1] at h
 have step:∀ u ds' w',k (put N (put N ρ oi.dst v) oj.dst u) ds' w'→Silent P ops C oi v (put N ρ oj.dst u)∧k (put N (put N ρ oj.dst u) oi.dst v) ds' w':=fun u ds' w' hk =>
  ⟨hy.put hsi h3,by rw [← put_commE ρ v u h2];exact hk⟩
 have hE:opE P ro (fun ch _ ds w=>QP0 ch ds w) oj (put N ρ oi.dst v) ds w (fun d w=>k (put N (put N ρ oi.dst v) oj.dst undef) (d::ds) w) (fun u w=>k (put N (put N ρ oi.dst v) oj.dst u) ds w) →
  opE P ro (fun ch _ ds w=>QP0 ch ds w) oj ρ ds w (fun d w=>Silent P ops C oi v (put N ρ oj.dst undef)∧k (put N (put N ρ oj.dst undef) oi.dst v) (d::ds) w) (fun u w=>Silent P ops C oi v (put N ρ oj.dst u)∧k (put N (put N ρ oj.dst u) oi.dst v) ds w):=by
  intro hh
  have:opE P ro (fun ch _ ds w=>QP0 ch ds w) oj ρ ds w (fun d w=>k (put N (put N ρ oi.dst v) oj.dst undef) (d::ds) w) (fun u w=>k (put N (put N ρ oi.dst v) oj.dst u) ds w):=by
   unfold opE at *
   rw [execOp_putE oj hsj ρ oi.dst v h1] at hh
   exact hh
  exact opE_mono this (fun d w hh=>step _ _ _ hh) (fun u w hh=>step _ _ _ hh)
 unfold guardO at *
 cases hg:oj.guard with
 | none=>rw [hg] at h;exact hE h
 | some g=>rw [hg] at h;exact guardP_mono h hE (step _ _ _)
def notSelect (o:Oper):Bool:=match o.op with | .select .. => false | _=>true
theorem notSelect_spec {o:Oper} (h:notSelect o=true):∀ cs b,o.op ≠ .select cs b:=by
 intro cs b e;simp [notSelect,e] at h
def freeB (ops:Array Oper) (done:List Nat) (i:Nat):Bool:=match ops[i]? with
 | none=>false
 | some o=>notSelect o&&(List.range ops.size).all fun j=>done.contains j||Nat.beq j i||(match ops[j]? with
  | none=>true
  | some oj=>notSelect oj&&(oj.after.any (fun e=>Region.binds .any e&&Nat.beq e.on i)||o.apart ops oj))
theorem Silent.turn {C':World→Prop} {i:Nat} {o:Oper} {v:Value} {ρ:Env} {w:World} (hi:ops[i]?=some o) (hm:isMove ops i=true) (hw:C w) (h:Silent P ops C o v ρ):Silent P ops C' o v ρ:=by
 unfold isMove at hm
 rw [hi] at hm
 simp only [Bool.and_eq_true] at hm
 obtain ⟨h1,h2⟩:=hm
 have hg:∀ p q,guardO ops o ρ p q=p:=by
  intro p q
  unfold guardO
  cases hgd:o.guard with
  | none=>rfl
  | some g=>rw [hgd] at h2;cases h2
 rcases h with ⟨_,hd,hr⟩ | ⟨hg',_⟩
 · refine .inl ⟨hg,hd,fun w' _=>?_⟩
   have:=hr w hw
   cases ho:o.op with
   | move x =>
    have he:execOp (ev ρ) o=Sem.pure (.value (ev ρ x)):=by unfold execOp;rw [ho];rfl
    rw [he] at this ⊢
    have hv:(Sem.pure (.value (ev ρ x)):Sem Next).run P w = .ok (.value (ev ρ x)) w:=rfl
    rw [hv] at this
    injection this with this _
    rw [← this];rfl
   | _=>rw [ho] at h1;cases h1
 · have h3:=hg True False
   rw [hg' True False] at h3
   exact absurd trivial (by rw [← h3];exact id)
theorem Silent.sub {C':World→Prop} {o:Oper} {v:Value} {ρ:Env} (h:Silent P ops C o v ρ) (hs:∀ x,C' x→C x):Silent P ops C' o v ρ:=by
 rcases h with ⟨h1,h2,h3⟩ | h
 · exact .inl ⟨h1,h2,fun w hw=>h3 w (hs w hw)⟩
 · exact .inr h
theorem first_silent {i:Nat} {oi:Oper} {v:Value} (hi:ops[i]?=some oi) (hsi:∀ cs b,oi.op ≠ .select cs b):∀ (fuel:Nat) (C:World→Prop) (done:List Nat) (ρ:Env) (ds:List Deferred) (w:World),
 (∀ j oj,ops[j]?=some oj→j≠i→done.contains j=false→(∀ cs b,oj.op ≠ .select cs b)∧((∀ e∈oj.after,Region.binds .any e=true→e.on≠i)→oi.apart ops oj=true)) →
 i∈readyL ops done→ClosedL ops done→C w→Silent P ops C oi v ρ→denAnyC P N ro ops Q (fun ch _ ds w=>QP0 ch ds w) C fuel (i::done) (put N ρ oi.dst v) ds w→denAnyC P N ro ops Q (fun ch _ ds w=>QP0 ch ds w) C (fuel+1) done ρ ds w:=by
 intro fuel
 induction fuel with
 | zero =>
  intro C done ρ ds w _ hr _ hC hy H
  refine ⟨fun h=>(by rw [h] at hr;cases hr),fun j hj=>?_⟩
  by_cases hji:j=i
  · subst hji;exact hy.denOp hi hC (.inl ⟨hC,H⟩)
  · have:=readyL_mono hj hji
    rw [H.1] at this
    cases this
 | succ fuel ih =>
  intro C done ρ ds w hfree hr hcl hC hy H
  refine ⟨fun h=>(by rw [h] at hr;cases hr),fun j hj=>?_⟩
  by_cases hji:j=i
  · subst hji;exact hy.denOp hi hC (.inl ⟨hC,H⟩)
  · have h1:=H.2 j (readyL_mono hj hji)
    have hj':=mem_readyL.1 hj
    obtain ⟨hjun,oj,hoj,hall⟩:=hj'
    have hfr:=hfree j oj hoj hji hjun
    have hnot:∀ e∈oj.after,Region.binds .any e=true→e.on≠i:=fun e he hb heq=>by
     have h1:=hall e he hb
     have h0:=(mem_readyL.1 hr).1
     rw [heq] at h1
     rw [h0] at h1;cases h1
    have h2:=denOp_putE hoj (hfr.2 hnot) hsi hfr.1 hy h1
    have c:∀ x,(j::done).contains x=(x == j||done.contains x):=fun x=>by rw [List.contains_cons]
    have hperm:∀ x,(j::i::done).contains x=(i::j::done).contains x:=fun x=>by simp only [List.contains_cons];cases (x == i)<;>cases (x == j)<;>rfl
    have hfree':∀ k ok,ops[k]?=some ok→k≠i→(j::done).contains k=false→(∀ cs b,ok.op ≠ .select cs b)∧((∀ e∈ok.after,Region.binds .any e=true→e.on≠i)→oi.apart ops ok=true) :=
     fun k ok hk hki hun=>hfree k ok hk hki (by rw [c] at hun;simp only [Bool.or_eq_false_iff] at hun;exact hun.2)
    refine denOp_mono (fun ρ' ds' w' h3=>?_) h2
    rcases h3 with ⟨hs3,⟨hC3,h3⟩ | ⟨C',⟨n,hm⟩ | hsub,hC3,h3⟩⟩
    · exact .inl ⟨hC3,ih C (j::done) ρ' ds' w' hfree' (readyL_mono hr (Ne.symm hji)) (hcl.step hj) hC3 hs3 (denAnyC_perm fuel hperm h3)⟩
    · have hmv:isMove ops i=true:=by
       unfold mayTurn at hm
       rw [List.all_cons,Bool.and_eq_true,Bool.or_eq_true] at hm
       rcases hm.1 with hm | hm
       · exfalso
         rcases closeL_done hcl hj n [j] (fun x hx => .inl (by simpa using hx)) i (List.contains_iff_mem.1 hm) with h | h
         · exact hji h.symm
         · rw [(mem_readyL.1 hr).1] at h;cases h
       · exact hm
      have hm':mayTurn ops n done j=true:=by
       unfold mayTurn at hm ⊢
       rw [List.all_cons,Bool.and_eq_true] at hm
       exact hm.2
      exact .inr ⟨C',.inl ⟨n,hm'⟩,hC3,ih C' (j::done) ρ' ds' w' hfree' (readyL_mono hr (Ne.symm hji)) (hcl.step hj) hC3 (hs3.turn hi hmv hC) (denAnyC_perm fuel hperm h3)⟩
    · exact .inr ⟨C',.inr hsub,hC3,ih C' (j::done) ρ' ds' w' hfree' (readyL_mono hr (Ne.symm hji)) (hcl.step hj) hC3 (hs3.sub hsub) (denAnyC_perm fuel hperm h3)⟩
theorem sim_dsilent (i:Nat) {fuel:Nat} {done:List Nat} {o:Oper} {v:Value} {ρ:Env} {ds:List Deferred} {w:World} (hC:C w) (hi:ops[i]?=some o) (hr:(readyL ops done).contains i=true) (hf:freeB ops done i=true) (hg:∀ p q,guardO ops o ρ p q=p) (hd:isDefer o.op=false)
 (hs:∀ w,C w→(execOp (ev ρ) o).run P w = .ok (.value v) w) (h:denD P N ro ops Q (fun ch _ ds w=>QP0 ch ds w) C fuel (i::done) (put N ρ o.dst v) ds w):denD P N ro ops Q (fun ch _ ds w=>QP0 ch ds w) C (fuel+1) done ρ ds w:=by
 unfold freeB at hf
 rw [hi] at hf
 simp only [Bool.and_eq_true,List.all_eq_true,List.mem_range] at hf
 obtain ⟨hns,hf⟩:=hf
 intro hcl
 refine first_silent hi (notSelect_spec hns) fuel C done ρ ds w (fun j oj hoj hne hun=>?_) (List.contains_iff_mem.1 hr) hcl hC (.inl ⟨hg,hd,hs⟩) (h (hcl.step (List.contains_iff_mem.1 hr)))
 have hj:=hf j (Qk hoj).1
 rw [hoj,hun] at hj
 have hne':Nat.beq j i=false:=by rw [Bool.eq_false_iff];simpa using hne
 rw [hne'] at hj
 simp only [Bool.false_or,Bool.and_eq_true,Bool.or_eq_true] at hj
 refine ⟨notSelect_spec hj.1,fun hno=>?_⟩
 rcases hj.2 with h | h
 · rw [Array.any_eq_true'] at h
   obtain ⟨e,he,hb⟩:=h
   simp only [Bool.and_eq_true] at hb
   exact absurd (by simpa using hb.2) (hno e he hb.1)
 · exact h
theorem sim_dskip (i:Nat) {fuel:Nat} {done:List Nat} {o:Oper} {ρ:Env} {ds:List Deferred} {w:World} (hC:C w) (hi:ops[i]?=some o) (hr:(readyL ops done).contains i=true) (hf:freeB ops done i=true) (hg:∀ p q,guardO ops o ρ p q=q)
 (h:denD P N ro ops Q (fun ch _ ds w=>QP0 ch ds w) C fuel (i::done) (put N ρ o.dst undef) ds w):denD P N ro ops Q (fun ch _ ds w=>QP0 ch ds w) C (fuel+1) done ρ ds w:=by
 unfold freeB at hf
 rw [hi] at hf
 simp only [Bool.and_eq_true,List.all_eq_true,List.mem_range] at hf
 obtain ⟨hns,hf⟩:=hf
 intro hcl
 refine first_silent hi (notSelect_spec hns) fuel C done ρ ds w (fun j oj hoj hne hun=>?_) (List.contains_iff_mem.1 hr) hcl hC (.inr ⟨hg,rfl⟩) (h (hcl.step (List.contains_iff_mem.1 hr)))
 have hj:=hf j (Qk hoj).1
 rw [hoj,hun] at hj
 have hne':Nat.beq j i=false:=by rw [Bool.eq_false_iff];simpa using hne
 rw [hne'] at hj
 simp only [Bool.false_or,Bool.and_eq_true,Bool.or_eq_true] at hj
 refine ⟨notSelect_spec hj.1,fun hno=>?_⟩
 rcases hj.2 with h | h
 · rw [Array.any_eq_true'] at h
   obtain ⟨e,he,hb⟩:=h
   simp only [Bool.and_eq_true] at hb
   exact absurd (by simpa using hb.2) (hno e he hb.1)
 · exact h
abbrev NX (P:Program) (N:Nat) (ro:Option Nat) (ops:Array Oper) (Q:Env→List Deferred→World→Prop) (QP:KP) (C:World→Prop) (fuel:Nat) (done:List Nat) (i:Nat):Env→List Deferred→World→Prop :=
 fun ρ ds w=>(C w∧denAnyC P N ro ops Q QP C fuel (i::done) ρ ds w)∨∃ C',Turns ops C C' done i∧C' w∧denAnyC P N ro ops Q QP C' fuel (i::done) ρ ds w
theorem denSeq_imp {o:Oper} {T T':Env→List Deferred→World→Prop} {ρ:Env} {ds:List Deferred} {w:World} (h:denSeq P N ro QP T [o] ρ ds w) (hT:∀ ρ ds w,T ρ ds w→T' ρ ds w):denSeq P N ro QP T' [o] ρ ds w:=opE_mono h (fun _ _=>hT _ _ _) (fun _ _=>hT _ _ _)
theorem mem_one {i:Nat} {done l:List Nat} (hr:readyL ops done=l) (hi:i∈l):i∈readyL ops done:=by rw [hr];exact hi
theorem sim_dloud (i:Nat) {fuel:Nat} {done:List Nat} {o:Oper} {ρ:Env} {ds:List Deferred} {w:World} (hi:ops[i]?=some o) (hr:readyL ops done=[i]) (hg:∀ p q,guardO ops o ρ p q=p)
 (h:denSeq P N ro QP (fun ρ ds w=>C w∧denD P N ro ops Q QP C fuel (i::done) ρ ds w) [o] ρ ds w):denD P N ro ops Q QP C (fuel+1) done ρ ds w:=by
 intro hcl
 refine ⟨fun h0=>(by rw [hr] at h0;cases h0),fun j hj=>?_⟩
 have hj0:=hj
 rw [hr] at hj
 simp only [List.mem_singleton] at hj
 subst hj
 unfold denOp
 rw [hi]
 simp only
 rw [hg]
 exact denSeq_imp (T':=NX P N ro ops Q QP C fuel done j) h fun ρ ds w hh => .inl ⟨hh.1,hh.2 (hcl.step hj0)⟩
theorem sim_dnarrow (i:Nat) {fuel:Nat} {done:List Nat} {o:Oper} {ρ:Env} {ds:List Deferred} {w:World} (hi:ops[i]?=some o) (hr:readyL ops done=[i]) (hg:∀ p q,guardO ops o ρ p q=p)
 (h:denSeq P N ro QP (fun ρ ds w=>∃ C':World→Prop,(∀ x,C' x→C x)∧C' w∧denD P N ro ops Q QP C' fuel (i::done) ρ ds w) [o] ρ ds w):denD P N ro ops Q QP C (fuel+1) done ρ ds w:=by
 intro hcl
 refine ⟨fun h0=>(by rw [hr] at h0;cases h0),fun j hj=>?_⟩
 have hj0:=hj
 rw [hr] at hj
 simp only [List.mem_singleton] at hj
 subst hj
 unfold denOp
 rw [hi]
 simp only
 rw [hg]
 exact denSeq_imp (T':=NX P N ro ops Q QP C fuel done j) h fun ρ ds w ⟨C',h0,h1,h2⟩ => .inr ⟨C',.inr h0,h1,h2 (hcl.step hj0)⟩
theorem sim_dturn (i n:Nat) {fuel:Nat} {done:List Nat} {o:Oper} {ρ:Env} {ds:List Deferred} {w:World} (hi:ops[i]?=some o) (hr:readyL ops done=[i]) (hm:mayTurn ops n done i=true) (hg:∀ p q,guardO ops o ρ p q=p)
 (h:denSeq P N ro QP (fun ρ ds w=>∃ C':World→Prop,C' w∧denD P N ro ops Q QP C' fuel (i::done) ρ ds w) [o] ρ ds w):denD P N ro ops Q QP C (fuel+1) done ρ ds w:=by
 intro hcl
 refine ⟨fun h0=>(by rw [hr] at h0;cases h0),fun j hj=>?_⟩
 have hj0:=hj
 rw [hr] at hj
 simp only [List.mem_singleton] at hj
 subst hj
 unfold denOp
 rw [hi]
 simp only
 rw [hg]
 exact denSeq_imp (T':=NX P N ro ops Q QP C fuel done j) h fun ρ ds w ⟨C',h1,h2⟩ => .inr ⟨C',.inl ⟨n,hm⟩,h1,h2 (hcl.step hj0)⟩
theorem sim_dloud2 (i i2:Nat) {fuel:Nat} {done:List Nat} {o o2:Oper} {ρ:Env} {ds:List Deferred} {w:World} (hi:ops[i]?=some o) (hi2:ops[i2]?=some o2) (hr:readyL ops done=[i,i2]) (hg:∀ p q,guardO ops o ρ p q=p) (hg2:∀ p q,guardO ops o2 ρ p q=p)
 (h:denSeq P N ro QP (fun ρ ds w=>∃ C':World→Prop,(∀ x,C' x→C x)∧C' w∧denD P N ro ops Q QP C' fuel (i::done) ρ ds w) [o] ρ ds w)
 (h2:denSeq P N ro QP (fun ρ ds w=>∃ C':World→Prop,(∀ x,C' x→C x)∧C' w∧denD P N ro ops Q QP C' fuel (i2::done) ρ ds w) [o2] ρ ds w):denD P N ro ops Q QP C (fuel+1) done ρ ds w:=by
 intro hcl
 refine ⟨fun h0=>(by rw [hr] at h0;cases h0),fun j hj=>?_⟩
 rw [hr] at hj
 simp only [List.mem_cons,List.not_mem_nil,or_false] at hj
 rcases hj with rfl | rfl
 · unfold denOp;rw [hi];simp only;rw [hg];exact denSeq_imp (T':=NX P N ro ops Q QP C fuel done _) h fun ρ ds w ⟨C',k0,k1,k2⟩ => .inr ⟨C',.inr k0,k1,k2 (hcl.step (mem_one hr (by simp)))⟩
 · unfold denOp;rw [hi2];simp only;rw [hg2];exact denSeq_imp (T':=NX P N ro ops Q QP C fuel done _) h2 fun ρ ds w ⟨C',k0,k1,k2⟩ => .inr ⟨C',.inr k0,k1,k2 (hcl.step (mem_one hr (by simp)))⟩
theorem sim_dend {fuel:Nat} {done:List Nat} {ρ:Env} {ds:List Deferred} {w:World} (hr:readyL ops done=[]) (h:Q ρ ds w):denD P N ro ops Q QP C fuel done ρ ds w:=by
 intro _
 cases fuel with
 | zero=>exact ⟨hr,h⟩
 | succ n=>exact ⟨fun _=>h,fun i hi=>by rw [hr] at hi;cases hi⟩
theorem sim_djoin {fuel:Nat} {done:List Nat} {ρ:Env} {ds:List Deferred} {w:World} (fuel':Nat) (done':List Nat) (S:List Nat) (J:Env→World→Prop)
 (hc:∀ T:Nat→List Nat→Env→World→Prop,(∀ ρ' w,Fr S ρ ρ'→C w→J ρ' w→denD P N ro ops Q QP C fuel' done' ρ' ds w)→denD P N ro ops Q QP C fuel done ρ ds w)
 (hJ:∀ σ w,C w→J σ w→denD P N ro ops Q QP C fuel' done' (mix S ρ σ) ds w):denD P N ro ops Q QP C fuel done ρ ds w :=
 hc (fun _ _ _ _=>True) fun ρ' w hf hC hj=>by rw [← mix_of_Fr hf];exact hJ ρ' w hC hj
end
def qV (P:Program) (C:World→Prop) (s:Sem Value) (k:Value→Prop):Prop:=∃ v,(∀ w,C w→s.run P w = .ok v w)∧k v
def turnK (w:World) (f:(World→Prop)→World→Prop):Prop:=∃ C:World→Prop,C w∧f C w
def narrowK (C:World→Prop) (w:World) (f:(World→Prop)→World→Prop):Prop:=∃ C':World→Prop,(∀ x,C' x→C x)∧C' w∧f C' w
def drawK (w:World) (f:(World→Prop)→World→Prop):Prop:=∃ C:World→Prop,C (drew w)∧f C (drew w)
section
variable {P:Program} {N:Nat} {ro:Option Nat}
theorem denAnyC_qp {ops:Array Oper} {Q:Env→List Deferred→World→Prop} {QP:KP} {S:List Nat} {ρ0:Env} (hS:ops.toList.all (fun o=>match o.dst with | some d=>S.contains d | none=>true)=true):∀ (fuel:Nat) (C:World→Prop) (done:List Nat) (ρ:Env) (ds:List Deferred) (w:World),Fr S ρ0 ρ →
 denAnyC P N ro ops Q (fun ch _ ds w=>∀ ρ',Fr S ρ0 ρ'→QP ch ρ' ds w) C fuel done ρ ds w→denAnyC P N ro ops Q QP C fuel done ρ ds w
 | 0,_,_,_,_,_,_,h=>h
 | fuel+1,C,done,ρ,ds,w,hf,h=>⟨h.1,fun i hi=>by
  have h2:=h.2 i hi
  unfold denOp at *
  cases ho:ops[i]? with
  | none =>
   rw [ho] at h2
   rcases h2 with h2 | ⟨C',hm,hC,h2⟩
   · exact .inl ⟨h2.1,denAnyC_qp hS fuel _ _ _ _ _ hf h2.2⟩
   · exact .inr ⟨C',hm,hC,denAnyC_qp hS fuel _ _ _ _ _ hf h2⟩
  | some o =>
   rw [ho] at h2
   simp only at h2 ⊢
   have hm:o∈ops.toList:=by rw [← Array.getElem?_toList] at ho;exact List.mem_of_getElem? ho
   have hfp:∀ v,Fr S ρ0 (put N ρ o.dst v):=by
    intro v
    have:=List.all_eq_true.1 hS o hm
    cases hd:o.dst with
    | none=>exact hf
    | some d=>rw [hd] at this;exact hf.put this
   have hE:∀ {kd kd':Deferred→World→Prop} {k k':Value→World→Prop},(∀ d w,kd d w→kd' d w)→(∀ v w,k v w→k' v w)→opE P ro (fun ch _ ds w=>∀ ρ',Fr S ρ0 ρ'→QP ch ρ' ds w) o ρ ds w kd k→opE P ro QP o ρ ds w kd' k':=by
    intro kd kd' k k' hkd hk hh
    unfold opE at *
    cases hb:(isDefer o.op&&ro.isSome) with
    | true=>rw [hb] at hh;exact hh.elim
    | false=>rw [hb] at hh;exact opD_mono hh (fun ch w hq=>hq ρ hf) hkd hk
   have next:∀ v ds w,((C w∧denAnyC P N ro ops Q (fun ch _ ds w=>∀ ρ',Fr S ρ0 ρ'→QP ch ρ' ds w) C fuel (i::done) (put N ρ o.dst v) ds w)∨∃ C',Turns ops C C' done i∧C' w∧denAnyC P N ro ops Q (fun ch _ ds w=>∀ ρ',Fr S ρ0 ρ'→QP ch ρ' ds w) C' fuel (i::done) (put N ρ o.dst v) ds w) →
    ((C w∧denAnyC P N ro ops Q QP C fuel (i::done) (put N ρ o.dst v) ds w)∨∃ C',Turns ops C C' done i∧C' w∧denAnyC P N ro ops Q QP C' fuel (i::done) (put N ρ o.dst v) ds w):=by
    intro v ds w hh
    rcases hh with hh | ⟨C',hm,hC,hh⟩
    · exact .inl ⟨hh.1,denAnyC_qp hS fuel _ _ _ _ _ (hfp v) hh.2⟩
    · exact .inr ⟨C',hm,hC,denAnyC_qp hS fuel _ _ _ _ _ (hfp v) hh⟩
   unfold guardO at *
   cases hg:o.guard with
   | none=>rw [hg] at h2;exact hE (fun d w=>next _ _ _) (fun v w=>next _ _ _) h2
   | some g=>rw [hg] at h2;exact guardP_mono h2 (fun hh=>hE (fun d w=>next _ _ _) (fun v w=>next _ _ _) hh) (next _ _ _)⟩
theorem sim_draw {id:Nat} {l:List Oper} {Q:K} {QP:KP} {ρ:Env} {ds:List Deferred} {w:World} (S:List Nat) (hm:P.follows .mixedOrders=true) (hS:l.all (fun o=>match o.dst with | some d=>S.contains d | none=>true)=true) (C:World→Prop)
 (h:denD P N ro l.toArray (Q .normal) (fun ch _ ds w=>∀ ρ',Fr S ρ ρ'→QP ch ρ' ds w) C l.length [] ρ ds (drew w)):den P N ro (.region id l.toArray true) Q QP ρ ds w:=by
 refine ⟨hm,?_⟩
 have:l.toArray.size=l.length:=by simp
 refine denAnyC_sound _ C _ [] _ _ _ ?_ (fun i hi=>by cases hi) (by rw [this];exact denAnyC_qp (by simpa using hS) _ _ _ _ _ _ (Fr.refl _ _) (h ClosedL.nil))
 refine ⟨by simp,fun i hi=>?_⟩
 simp at hi
 simp [hi]
theorem qV_run {C:World→Prop} {s:Sem Value} {o:Oper} {ρ:Env} {v:Value} (hs:execOp (ev ρ) o=(do pure (.value (← s)))) (h:∀ w,C w→s.run P w = .ok v w):∀ w,C w→(execOp (ev ρ) o).run P w = .ok (.value v) w:=by
 intro w hw
 rw [hs,run_valS,h w hw]
theorem move_run {C:World→Prop} {o:Oper} {ρ:Env} {v:Value} (hs:execOp (ev ρ) o=Sem.pure (.value v)):∀ w,C w→(execOp (ev ρ) o).run P w = .ok (.value v) w:=by
 intro w _;rw [hs];rfl
theorem pick_run {C:World→Prop} {c a b:Operand} {d:Nat} {ty:TypeId} {pos:String} {after:Array Edge} {g:Option (Nat×Bool)} {ρ:Env} {va vb:Value} {t:Bool} (h1:ev ρ c = .bool t) (h2:ev ρ a=va) (h3:ev ρ b=vb) :
 ∀ w,C w→(execOp (ev ρ) ⟨some d,.pick c a b,ty,pos,after,g⟩).run P w = .ok (.value (if t then va else vb)) w:=by
 intro w _
 subst h2 h3
 show Sem.run P (do pure (.value (if ← asBool (ev ρ c) then ev ρ a else ev ρ b)):Sem Next) w=_
 rw [h1];rfl
theorem pickK_elim {c a b:Value} {k:Value→Prop} (h:pickK c a b k):∃ t,c = .bool t∧k (if t then a else b):=by
 unfold pickK at h
 split at h
 · exact ⟨true,rfl,h⟩
 · exact ⟨false,rfl,h⟩
 · exact h.elim
theorem guardP_cases {v:Value} {want:Bool} {p q:Prop} (h:guardP v want p q):(boolOf v=some want∧p)∨(boolOf v≠some want∧q):=by
 by_cases hb:boolOf v=some want
 · rw [guardP_true hb] at h;exact .inl ⟨hb,h⟩
 · rw [guardP_false hb] at h;exact .inr ⟨hb,h⟩
end
end Go.Sw
namespace Go.Sw
section
variable {P:Program} {N:Nat} {ro:Option Nat}
theorem thenK_self (Q:K):thenK (fun ρ ds w=>Q .normal ρ ds w) Q=Q:=by funext e ρ ds w;cases e<;>rfl
theorem sim_joinQ {c:Code} {Q:K} {QP:KP} {ρ:Env} {ds:List Deferred} {w:World} (S:List Nat) (J:Env→World→Prop)
 (hc:∀ k':Env→List Deferred→World→Prop,(∀ ρ' w,Fr S ρ ρ'→J ρ' w→k' ρ' ds w)→den P N ro c (thenK k' Q) QP ρ ds w) (hJ:∀ σ w,J σ w→Q .normal (mix S ρ σ) ds w):den P N ro c Q QP ρ ds w:=by
 have:=sim_join (k:=fun ρ ds w=>Q .normal ρ ds w) S J hJ hc
 rwa [thenK_self] at this
theorem sim_groupJ (n:Nat) (j:Nat) (want:Bool) {ops:Array Oper} {l:List Oper} {Q:K} {QP:KP} {ρ:Env} {ds:List Deferred} {w:World} {v:Value} (S:List Nat) (J:Env→World→Prop) (hok:grpOK ops j want (l.take n) (l.drop n)=true) (hv:gslot ops ρ j=v)
 (hc:∀ T:Env→List Deferred→World→Prop,(∀ ρ' w,Fr S ρ ρ'→J ρ' w→T ρ' ds w)→guardP v want (denSeq P N ro QP T (l.take n) ρ ds w) (T (skipAll N (l.take n) ρ) ds w))
 (hJ:∀ σ w,J σ w→denOps P N ro ops Q QP (l.drop n) none (mix S ρ σ) ds w):denOps P N ro ops Q QP l none ρ ds w:=sim_group n j want S J hok hv hJ hc
variable {fn:Func} {R:RT} {ρ:Env} {w:World}
theorem results_run0 (hf:fn.results = #[]) (tmps:Array Value):(results fn tmps).run P w = .ok (.tuple #[]) w:=by simp [results,hf]
theorem results_run1 {t:Tmp} (hf:fn.results = #[.tmp t]) (tmps:Array Value):(results fn tmps).run P w = .ok (tmps.getD t undef) w:=by simp [results,hf]
theorem results_run2 {t u:Tmp} (hf:fn.results = #[.tmp t,.tmp u]) (tmps:Array Value):(results fn tmps).run P w = .ok (.tuple #[tmps.getD t undef,tmps.getD u undef]) w:=by simp [results,hf]
theorem body_ret0 (hf:fn.results = #[]) (h:R (.returned (.tuple #[])) w):bodyK P fn R .ret ρ [] w:=⟨rfl,fun tmps _=>⟨_,results_run0 hf tmps,h⟩⟩
theorem body_ret1 {t:Tmp} {a:Value} (hf:fn.results = #[.tmp t]) (h1:ρ t=a) (h:R (.returned a) w):bodyK P fn R .ret ρ [] w:=⟨rfl,fun tmps ht=>⟨_,results_run1 hf tmps,by rw [ht,h1];exact h⟩⟩
theorem body_ret2 {t u:Tmp} {a b:Value} (hf:fn.results = #[.tmp t,.tmp u]) (h1:ρ t=a) (h2:ρ u=b) (h:R (.returned (.tuple #[a,b])) w):bodyK P fn R .ret ρ [] w:=⟨rfl,fun tmps ht=>⟨_,results_run2 hf tmps,by rw [ht,ht,h1,h2];exact h⟩⟩
theorem body_normal {ds:List Deferred} (h:bodyK P fn R .ret ρ ds w):bodyK P fn R .normal ρ ds w:=h
def opN (P:Program) (s:Sem Next) (QP:List PanicEntry→World→Prop) (w:World) (k:Value→World→Prop):Prop:=opD P s w QP (fun _ _=>False) k
theorem sim_next {QP:KP} {T:Env→List Deferred→World→Prop} {o:Oper} {rest:List Oper} {ds:List Deferred} {s:Sem Next} {QP':List PanicEntry→World→Prop} {k:Value→World→Prop} (h:opN P s QP' w k) (hd:isDefer o.op=false) (hs:execOp (ev ρ) o=s) (hp:∀ ch w,QP' ch w→QP ch ρ ds w)
 (hk:∀ v w',k v w'→denSeq P N ro QP T rest (put N ρ o.dst v) ds w'):denSeq P N ro QP T (o::rest) ρ ds w:=by
 show opE P ro QP o ρ ds w _ _
 unfold opE
 rw [hd,hs]
 exact opD_mono h hp (fun _ _ h=>h.elim) hk
theorem sim_dmeet {ops:Array Oper} {Q:Env→List Deferred→World→Prop} {QP:KP} {C:World→Prop} {fuel:Nat} {done:List Nat} {ds:List Deferred} (S:List Nat) (J:Env→World→Prop)
 (hc:∀ T:Env→List Deferred→World→Prop,(∀ ρ' w,Fr S ρ ρ'→J ρ' w→T ρ' ds w)→denD P N ro ops T QP C fuel done ρ ds w) (hJ:∀ σ w,J σ w→Q (mix S ρ σ) ds w):denD P N ro ops Q QP C fuel done ρ ds w :=
 hc Q fun ρ' w hf hj=>by rw [← mix_of_Fr hf];exact hJ ρ' w hj
def qW (P:Program) (t:TypeId) (a:Value) (w:World) (k:Value→Prop):Prop:=∃ v,(do loadVar t (← asAddr a):Sem Value).run P w = .ok v w∧k v
theorem results_runC {t:Tmp} {c:TypeId} {v:Value} (hf:fn.results = #[.cell t c]) (tmps:Array Value) (h:(do loadVar c (← asAddr (tmps.getD t undef)):Sem Value).run P w = .ok v w):(results fn tmps).run P w = .ok v w:=by
 rw [Sem.run_bind] at h
 simp [results,hf,Sem.run_bind]
 cases hr:(asAddr (tmps.getD t undef)).run P w with
 | ok a w'=>rw [← Array.getD_eq_getD_getElem?,hr];rw [hr] at h;simp [Result.andThen] at h ⊢;rw [h]
 | halt x w'=>rw [hr] at h;simp [Result.andThen] at h
theorem body_retC {t:Tmp} {c:TypeId} {a:Value} (hf:fn.results = #[.cell t c]) (h1:ρ t=a) (h:qW P c a w fun v=>R (.returned v) w):bodyK P fn R .ret ρ [] w:=by
 obtain ⟨v,hv,h⟩:=h
 exact ⟨rfl,fun tmps ht=>⟨_,results_runC hf tmps (by rw [ht,h1];exact hv),h⟩⟩
theorem results_runCT {t u:Tmp} {c:TypeId} {v:Value} (hf:fn.results = #[.cell t c,.tmp u]) (tmps:Array Value) (h:(do loadVar c (← asAddr (tmps.getD t undef)):Sem Value).run P w = .ok v w):(results fn tmps).run P w = .ok (.tuple #[v,tmps.getD u undef]) w:=by
 rw [Sem.run_bind] at h
 simp [results,hf,Sem.run_bind]
 cases hr:(asAddr (tmps.getD t undef)).run P w with
 | ok a w'=>rw [← Array.getD_eq_getD_getElem?,hr];rw [hr] at h;simp [Result.andThen] at h ⊢;rw [h]
 | halt x w'=>rw [hr] at h;simp [Result.andThen] at h
theorem body_retCT {t u:Tmp} {c:TypeId} {a b:Value} (hf:fn.results = #[.cell t c,.tmp u]) (h1:ρ t=a) (h2:ρ u=b) (h:qW P c a w fun v=>R (.returned (.tuple #[v,b])) w):bodyK P fn R .ret ρ [] w:=by
 obtain ⟨v,hv,h⟩:=h
 exact ⟨rfl,fun tmps ht=>⟨_,results_runCT hf tmps (by rw [ht,h1];exact hv),by rw [ht,h2];exact h⟩⟩
section qs
variable {C:World→Prop} {ty:TypeId} {d:Nat} {pos:String} {after:Array Edge} {g:Option (Nat×Bool)} {v:Value}
theorem qV_bin {op:BinOp} {t:TypeId} {x y:Operand} {t2:TypeId} {c:Bool} {a b:Value} (hc:(isConst x||isConst y)=c) (h1:ev ρ x=a) (h2:ev ρ y=b) (h:∀ w,C w→(binS op t c a b).run P w = .ok v w) :
 ∀ w,C w→(execOp (ev ρ) ⟨some d,.binOp op t x y t2,ty,pos,after,g⟩).run P w = .ok (.value v) w:=by
 subst hc h1 h2
 refine qV_run rfl fun w hw=>?_
 rw [binS_eq];exact h w hw
theorem qV_builtin {b:Builtin} {l:List Operand} {ats:Array TypeId} {s:Sem Value} (hs:builtin b ats ty ((l.map fun | .const _=>true | _=>false).toArray) (l.map (ev ρ)).toArray=(do pure (.value (← s)))) (h:∀ w,C w→s.run P w = .ok v w) :
 ∀ w,C w→(execOp (ev ρ) ⟨some d,.call ⟨.builtin b,l.toArray,ats⟩,ty,pos,after,g⟩).run P w = .ok (.value v) w:=by
 refine qV_run ?_ h
 rw [← hs]
 simp only [execOp,resolve,List.map_toArray]
 rfl
theorem qV_build {t:TypeId} {ps:List (Nat×Operand)} {vs:List (Nat×Value)} (h2:(ps.map fun (i,x)=>(i,ev ρ x))=vs) (h:∀ w,C w→(Instr.build t vs.toArray).run P w = .ok v w) :
 ∀ w,C w→(execOp (ev ρ) ⟨some d,.build t ps.toArray,ty,pos,after,g⟩).run P w = .ok (.value v) w:=by
 subst h2
 refine qV_run ?_ h
 simp only [execOp,List.map_toArray]
theorem qV_makeFunc {fn:Fn} {fs cs:List Operand} {vf vs:List Value} (h1:fs.map (ev ρ)=vf) (h2:cs.map (ev ρ)=vs) (h:∀ w,C w→(Instr.makeFunc fn vf.toArray vs.toArray).run P w = .ok v w) :
 ∀ w,C w→(execOp (ev ρ) ⟨some d,.makeFunc fn fs.toArray cs.toArray,ty,pos,after,g⟩).run P w = .ok (.value v) w:=by
 subst h1 h2
 refine qV_run ?_ h
 simp only [execOp,List.map_toArray]
theorem qN_run {s:Sem Next} {o:Oper} (hs:execOp (ev ρ) o=s) (h:∀ w,C w→s.run P w = .ok (.value v) w):∀ w,C w→(execOp (ev ρ) o).run P w = .ok (.value v) w:=by rw [hs];exact h
end qs
def nilN (v:Value):Sem Next:=execOp (fun _=>v) ⟨none,.nilCheck (.tmp 0),0, "", #[],none⟩
def qN (P:Program) (C:World→Prop) (s:Sem Next) (k:Value→Prop):Prop:=∃ v,(∀ w,C w→s.run P w = .ok (.value v) w)∧k v
end
end Go.Sw
namespace Go.Sw
open Go.RowKit (Below)
structure Ext (w w':World):Prop where
 os:w'.os=w.os
 tape:w'.tape=w.tape
 output:w'.output=w.output
 size:w.heap.size≤w'.heap.size
 block:∀ k,k < w.heap.size→w'.heap[k]?=w.heap[k]?
theorem Ext.refl (w:World):Ext w w:=⟨rfl,rfl,rfl,Nat.le_refl _,fun _ _=>rfl⟩
theorem Ext.trans {a b c:World} (h:Ext a b) (k:Ext b c):Ext a c :=
 ⟨k.os.trans h.os,k.tape.trans h.tape,k.output.trans h.output,Nat.le_trans h.size k.size,fun i hi=>(k.block i (Nat.lt_of_lt_of_le hi h.size)).trans (h.block i hi)⟩
theorem Ext.of_below {w w':World} (h:Below w.heap.size w w'):Ext w w':=⟨h.os,h.tape,h.output,h.size,h.block⟩
theorem Ext.alloc {a w:World} (h:Ext a w) (o:Obj):Ext a (w.alloc o):=h.trans ⟨rfl,rfl,rfl,by simp,fun k hk=>Below.heap_alloc _ _ _ hk⟩
theorem Ext.drew {a w:World} (h:Ext a w):Ext a (Sw.drew w):=⟨h.os,h.tape,h.output,h.size,h.block⟩
theorem Ext.wdrew {a w:World} (h:Ext a w):Ext a w.drew:=⟨h.os,h.tape,h.output,h.size,h.block⟩
theorem Ext.setCell {a w:World} (h:Ext a w) {p:Addr} (hp:a.heap.size≤p.block) (u:Value):Ext a (w.setCell p u) :=
 ⟨h.os,h.tape,h.output,by simpa using h.size,fun k hk=>(Below.heap_setCell _ _ _ _ Qx).trans (h.block k hk)⟩
theorem Ext.grown {a w w':World} {row:Option Nat} (h:Ext a w) (hg:w.grownBy w' row) (hr:∀ k,row=some k→a.heap.size≤k):Ext a w' :=
 ⟨hg.os.trans h.os,hg.tape.trans h.tape,hg.output.trans h.output,Nat.le_trans h.size hg.size,
  fun k hk=>(hg.block k (Nat.lt_of_lt_of_le hk h.size) (fun e=>by have:=hr k e.symm;omega)).trans (h.block k hk)⟩
theorem Ext.cell {w w':World} (h:Ext w w') {a:Addr} {v:Value} (hc:w.cell? a=some v):w'.cell? a=some v :=
 (World.cell?_of_block (h.block a.block (World.block_lt_of_cell? w a hc))).trans hc
theorem Ext.cellEq {w w':World} (h:Ext w w') {a:Addr} (hb:a.block < w.heap.size):w'.cell? a=w.cell? a:=World.cell?_of_block (h.block a.block hb)
theorem Ext.frozenEq {w w':World} (h:Ext w w') {a:Addr} (hb:a.block < w.heap.size):w'.frozen? a=w.frozen? a:=World.frozen?_of_block (h.block a.block hb)
theorem Ext.obj {w w':World} (h:Ext w w') {b:Nat} {o:Obj} (hb:w.heap[b]?=some o):w'.heap[b]?=some o :=
 (h.block b (Qk hb).1).trans hb
def Ret (P:Program) (f:FuncId) (args:Array Value) (w:World) (Φ:Value→World→Prop):Prop:=Calls P f args w fun e w'=>∃ v,e = .returned v∧Φ v w'
theorem Ret.mono {P:Program} {f:FuncId} {args:Array Value} {w:World} {Φ Φ':Value→World→Prop} (h:Ret P f args w Φ) (hk:∀ v w',Φ v w'→Φ' v w'):Ret P f args w Φ' :=
 Calls.mono h fun _ _ ⟨v,he,hv⟩=>⟨v,he,hk v _ hv⟩
def retR (Φ:Value→World→Prop):Ending→World→Prop:=fun e w'=>∃ v,e = .returned v∧Φ v w'
theorem retR_ret {Φ:Value→World→Prop} {v:Value} {w:World}:retR Φ (.returned v) w=Φ v w:=by
 unfold retR
 apply propext
 constructor
 · rintro ⟨v',he,h⟩;cases he;exact h
 · intro h;exact ⟨v,rfl,h⟩
theorem callK_ret {P:Program} {f:FuncId} {args:Array Value} {QP:List PanicEntry→World→Prop} {w:World} {k:Value→World→Prop} {Φ:Value→World→Prop} (h:Ret P f args w Φ) (hk:∀ v w',Φ v w'→k v w'):callK P f args QP w k :=
 Calls.mono h fun e w' ⟨v,he,hv⟩=>by subst he;exact hk v w' hv
theorem zcr {P:Program} {f:FuncId} {args:Array Value} {QP:List PanicEntry→World→Prop} {w:World} {k:Value→World→Prop} {v:Value} (h:Ret P f args w fun r w'=>r=v∧Ext w w') (hk:∀ w',Ext w w'→k v w'):callK P f args QP w k:=callK_ret h fun _ w' h=>h.1 ▸ hk w' h.2
theorem callV_mono {P:Program} {fv:Value} {args:Array Value} {QP QP':List PanicEntry→World→Prop} {w:World} {k k':Value→World→Prop} (h:callV P fv args QP w k) (hp:∀ ch w,QP ch w→QP' ch w) (hk:∀ v w,k v w→k' v w):callV P fv args QP' w k':=opD_mono h hp (fun _ _ h=>h.elim) hk
theorem callK_calls {P:Program} {f:FuncId} {args:Array Value} {QP:List PanicEntry→World→Prop} {w:World} {k:Value→World→Prop} {R:RT} (h:Calls P f args w R) (hr:∀ v w',R (.returned v) w'→k v w') (hp:∀ ch w',R (.panicked ch) w'→QP ch w') (ho:∀ w',¬ R .outgrown w'):callK P f args QP w k :=
 Calls.mono h fun e w' he=>by
  cases e with
  | returned v=>exact hr v w' he
  | panicked ch=>exact hp ch w' he
  | outgrown=>exact (ho w' he).elim
section
variable {P:Program} {QP:List PanicEntry→World→Prop} {w:World} {k:Value→World→Prop} {ku:World→Prop}
theorem opV_ok {s:Sem Value} {v:Value} {w':World} (h:s.run P w = .ok v w'):opV P s QP w k=k v w':=by unfold opV;rw [h]
theorem opU_ok {s:Sem Unit} {u:Unit} {w':World} (h:s.run P w = .ok u w'):opU P s QP w ku=ku w':=by unfold opU;rw [h]
theorem opV_panic {s:Sem Value} {v:Value} {w':World} (h:s.run P w = .halt (.panic v) w'):opV P s QP w k=QP [{ v,recovered:=false }] w':=by unfold opV;rw [h]
theorem opN_ok {s:Sem Next} {v:Value} {w':World} (h:s.run P w = .ok (.value v) w'):opN P s QP w k=k v w':=by unfold opN opD;rw [h];rfl
theorem run_box (T:TypeId) (v:Value):(Instr.box T v).run P w = .ok (.pointer (some ⟨w.heap.size,0,none⟩)) (w.alloc (.cells v.cells T)):=by
 simp [Instr.box,newVar,newRow]
theorem op_box (T:TypeId) (v:Value):opV P (Instr.box T v) QP w k=k (.pointer (some ⟨w.heap.size,0,none⟩)) (w.alloc (.cells v.cells T)):=opV_ok (run_box T v)
theorem run_alloc {T:TypeId} {i:TypeInfo} {z:Value} (hi:P.info? T=some i) (hz:i.zero=some z) (u:Value):(Instr.alloc T true u).run P w = .ok (.pointer (some ⟨w.heap.size,0,none⟩)) (w.alloc (.cells z.cells T)):=by
 simp [Instr.alloc,zeroValue,typeInfo,hi,hz,newVar,newRow]
structure TyInfo (P:Program) (T:TypeId) (agg:Bool) (size bytes:Nat) (z:Value):Prop where
 info:∃ i,P.info? T=some i∧i.size=size∧i.bytes=bytes∧i.zero=some z
 under:∃ d,P.underlying T=some d∧(match d with | .struct _ | .array _ _=>true | _=>false)=agg
theorem op_alloc {T:TypeId} {agg:Bool} {n m:Nat} {z:Value} (h:TyInfo P T agg n m z) (u:Value):opV P (Instr.alloc T true u) QP w k=k (.pointer (some ⟨w.heap.size,0,none⟩)) (w.alloc (.cells z.cells T)):=by
 obtain ⟨⟨i,hi,_,_,hz⟩,_⟩:=h
 exact opV_ok (run_alloc hi hz u)
theorem run_isAgg {T:TypeId} {agg:Bool} {n m:Nat} {z:Value} (h:TyInfo P T agg n m z):(isAgg T).run P w = .ok agg w:=by
 obtain ⟨_,d,hd,ha⟩:=h
 unfold isAgg
 rw [Sem.run_bind]
 have:(underlying T).run P w = .ok d w:=run_underlying hd w
 rw [this]
 simp only [Result.andThen_ok]
 subst ha
 cases d<;>rfl
theorem run_sizeOf {T:TypeId} {agg:Bool} {n m:Nat} {z:Value} (h:TyInfo P T agg n m z):(sizeOf T).run P w = .ok n w:=by
 obtain ⟨⟨i,hi,hs,_,_⟩,_⟩:=h
 simp [sizeOf,typeInfo,hi,hs]
theorem run_loadCellsFrom (a:Addr):∀ (n i:Nat) (acc:Array Value) (cs:List Value),cs.length=n→(∀ j v,cs[j]?=some v→w.cell? (a.add (i+j))=some v)→(loadCellsFrom a i n acc).run P w = .ok (acc++cs.toArray) w
 | 0,i,acc,cs,hl,_=>by
  have:cs=[]:=List.eq_nil_of_length_eq_zero hl
  subst this;simp [loadCellsFrom]
 | n+1,i,acc,cs,hl,hc=>by
  cases cs with
  | nil=>cases hl
  | cons c cs =>
   have h0:=hc 0 c rfl
   rw [Nat.add_zero] at h0
   simp only [loadCellsFrom,Sem.run_bind,run_load,h0,Result.andThen_ok]
   rw [run_loadCellsFrom a n (i+1) _ cs (by simpa using hl) (fun j v hv=>by have:=hc (j+1) v hv;rwa [show i+1+j=i+(j+1) by omega])]
   simp
def Loads (P:Program) (w:World) (T:TypeId) (a:Addr) (v:Value):Prop:=(loadVar T a).run P w = .ok v w
theorem Loads.one {T:TypeId} {n m:Nat} {z v:Value} {a:Addr} (h:TyInfo P T false n m z) (hc:w.cell? a=some v):Loads P w T a v:=by
 unfold Loads loadVar
 rw [Sem.run_bind,run_isAgg h]
 simp [hc]
theorem Loads.many {T:TypeId} {n m:Nat} {z:Value} {a:Addr} {cs:List Value} (h:TyInfo P T true n m z) (hl:cs.length=n) (hc:∀ j v,cs[j]?=some v→w.cell? (a.add j)=some v):Loads P w T a (.agg cs.toArray):=by
 unfold Loads loadVar
 rw [Sem.run_bind,run_isAgg h]
 have:=run_loadCellsFrom (P:=P) (w:=w) a n 0 #[] cs hl (fun j v hv=>by rw [Nat.zero_add];exact hc j v hv)
 simp only [Result.andThen_ok,if_true,Sem.run_bind,run_sizeOf h,loadCells,this,Sem.run_pure,Array.empty_append]
theorem op_load {T:TypeId} {a:Addr} {v:Value} (h:Loads P w T a v):opV P (Instr.loadAt T (.pointer (some a))) QP w k=k v w:=by
 refine opV_ok ?_
 simp only [Instr.loadAt,Instr.sureAddr,Sem.run_bind,Sem.run_pure,Result.andThen_ok]
 exact h
theorem op_load1 {T:TypeId} {n m:Nat} {z v:Value} {a:Addr} (h:TyInfo P T false n m z) (hc:w.cell? a=some v):opV P (Instr.loadAt T (.pointer (some a))) QP w k=k v w:=op_load (Loads.one h hc)
theorem run_store1 {T:TypeId} {m:Nat} {z v u:Value} {a:Addr} (h:TyInfo P T false 1 m z) (hv:v.oneCell'=true) (hc:w.cell? a=some u) (hf:w.frozen? a=false):(Instr.storeAt T (.pointer (some a)) v).run P w = .ok () (w.setCell a v):=by
 have hcells:v.cells = #[v]:=by cases v<;>first | rfl | simp [Value.oneCell'] at hv
 have hadd:a.add 0=a:=by simp [Addr.add]
 simp [Instr.storeAt,Instr.sureAddr,storeVar,run_sizeOf h,hcells,storeCells,hadd,run_store P w a v .plain hv,hc,hf]
theorem op_store1 {T:TypeId} {m:Nat} {z v u:Value} {a:Addr} (h:TyInfo P T false 1 m z) (hv:v.oneCell'=true) (hc:w.cell? a=some u) (hf:w.frozen? a=false):opU P (Instr.storeAt T (.pointer (some a)) v) QP w ku=ku (w.setCell a v):=opU_ok (run_store1 h hv hc hf)
theorem setCell_alloc_new (o:Array Value) (T:TypeId) (i:Nat) (v:Value):(w.alloc (.cells o T)).setCell ⟨w.heap.size,i,none⟩ v=w.alloc (.cells (o.setIfInBounds i v) T):=by
 simp only [World.setCell,World.alloc]
 congr 1
 apply Array.ext_getElem?
 intro j
 simp only [Array.getElem?_modify,Array.getElem?_push]
 by_cases hj:w.heap.size=j
 · subst hj;simp
 · by_cases hjs:j=w.heap.size
   · exact absurd hjs.symm hj
   · simp [hj,hjs]
theorem storeCells_new (T:TypeId):∀ (vs:List Value) (i:Nat) (o:Array Value),i+vs.length≤o.size→(∀ v∈vs,v.oneCell'=true) →
 ∃ o':Array Value,(storeCells ⟨w.heap.size,0,none⟩ vs i).run P (w.alloc (.cells o T)) = .ok () (w.alloc (.cells o' T))∧o'.size=o.size∧∀ j,o'[j]?=if i≤j∧j < i+vs.length then vs[j - i]? else o[j]?
 | [],i,o,_,_=>⟨o,by simp [storeCells],rfl,fun j=>by rw [if_neg];simp⟩
 | v::vs,i,o,hl,hv=>by
  simp only [List.length_cons] at hl
  have hadd:(⟨w.heap.size,0,none⟩:Addr).add i=⟨w.heap.size,i,none⟩:=by rw [Addr.add_lit];simp
  have hcell:(w.alloc (.cells o T)).cell? ⟨w.heap.size,i,none⟩=some (o[i]'Qx):=by
   simp [World.cell?_alloc_new]
  have hfr:(w.alloc (.cells o T)).frozen? ⟨w.heap.size,i,none⟩=false:=by simp
  obtain ⟨o',h1,h2,h3⟩:=storeCells_new T vs (i+1) (o.setIfInBounds i v) (by simp;omega) (fun u hu=>hv u (List.mem_cons_of_mem _ hu))
  refine ⟨o',?_,by simpa using h2,fun j=>?_⟩
  · simp only [storeCells,Sem.run_bind,hadd,run_store P _ _ v .plain (hv v (List.mem_cons_self ..)),hcell,hfr]
    simp only [Bool.false_eq_true,if_false,Result.andThen_ok,setCell_alloc_new]
    exact h1
  · rw [h3 j]
    by_cases h:i+1≤j∧j < i+1+vs.length
    · rw [if_pos h,if_pos (by simp;omega)]
      have:j - i=(j - (i+1))+1:=Qx
      rw [this,List.getElem?_cons_succ]
    · rw [if_neg h]
      by_cases hji:j=i
      · subst hji
        have hlt:j < o.size:=Qx
        rw [if_pos (by simp)];simp [hlt]
      · rw [if_neg (by simp;omega)]
        rw [Array.getElem?_setIfInBounds_ne Qx]
theorem run_fieldAt {s:TypeId} {fs:Array Field} {f:Field} {i:Nat} {agg:Bool} {n m:Nat} {z:Value} (hu:P.underlying s=some (.struct fs)) (hf:fs[i]?=some f) (ht:TyInfo P f.type agg n m z) (hn:(n == 0)=false) (b o:Nat) :
 (Instr.fieldAt s (.pointer (some ⟨b,o,none⟩)) i).run P w = .ok (.pointer (some ⟨b,o+f.offset,none⟩)) w:=by
 have hn':n≠0:=by simpa using hn
 simp [Instr.fieldAt,run_underlying hu,hf,Instr.sureAddr,fieldPlace,run_sizeOf ht,hn',Addr.add_lit]
theorem op_fieldAt {s:TypeId} {fs:Array Field} {f:Field} {i:Nat} {agg:Bool} {n m:Nat} {z:Value} (hu:P.underlying s=some (.struct fs)) (hf:fs[i]?=some f) (ht:TyInfo P f.type agg n m z) (hn:(n == 0)=false) (b o:Nat) :
 opV P (Instr.fieldAt s (.pointer (some ⟨b,o,none⟩)) i) QP w k=k (.pointer (some ⟨b,o+f.offset,none⟩)) w:=opV_ok (run_fieldAt hu hf ht hn b o)
theorem op_fieldO {s:TypeId} {fs:Array Field} {i off ft:Nat} {agg:Bool} {n m:Nat} {z:Value} (hu:P.underlying s=some (.struct fs)) (hf:(fs[i]?).map (fun f=>(f.type,f.offset))=some (ft,off)) (ht:TyInfo P ft agg n m z) (hn:(n == 0)=false) (b o:Nat) :
 opV P (Instr.fieldAt s (.pointer (some ⟨b,o,none⟩)) i) QP w k=k (.pointer (some ⟨b,o+off,none⟩)) w:=by
 obtain ⟨f,h1,h2⟩:=Option.map_eq_some_iff.1 hf
 simp only [Prod.mk.injEq] at h2
 obtain ⟨rfl,rfl⟩:=h2
 exact op_fieldAt hu h1 ht hn b o
theorem op_field0 {s:TypeId} {fs:Array Field} {i ft:Nat} {agg:Bool} {n m:Nat} {z:Value} (hu:P.underlying s=some (.struct fs)) (hf:(fs[i]?).map (fun f=>(f.type,f.offset))=some (ft,0)) (ht:TyInfo P ft agg n m z) (hn:(n == 0)=false) (b o:Nat) :
 opV P (Instr.fieldAt s (.pointer (some ⟨b,o,none⟩)) i) QP w k=k (.pointer (some ⟨b,o,none⟩)) w:=op_fieldO hu hf ht hn b o
theorem run_indexAt {t e:TypeId} {agg:Bool} {n m:Nat} {z:Value} (hu:P.underlying t=some (.slice e)) (ht:TyInfo P e agg n m z) (b o len cap:Nat) (ik:IntKind) (i:Int) (h0:0≤i) (h1:i < len) :
 (Instr.indexAt t (.slice (some ⟨b,o,none⟩) len cap) (.int ik i)).run P w = .ok (.pointer (some ⟨b,o+i.toNat*n,none⟩)) w:=by
 simp [Instr.indexAt,asIntOf,run_underlying hu,run_sizeOf ht,h0,h1,Addr.add_lit]
theorem op_indexAt {t e:TypeId} {agg:Bool} {n m:Nat} {z:Value} (hu:P.underlying t=some (.slice e)) (ht:TyInfo P e agg n m z) (b o len cap:Nat) (ik:IntKind) (i:Int) (h0:0≤i) (h1:i < len) :
 opV P (Instr.indexAt t (.slice (some ⟨b,o,none⟩) len cap) (.int ik i)) QP w k=k (.pointer (some ⟨b,o+i.toNat*n,none⟩)) w:=opV_ok (run_indexAt hu ht b o len cap ik i h0 h1)
theorem run_len_slice {t e r:TypeId} (hu:P.underlying t=some (.slice e)) (a:Option Addr) (n c:Nat):(Builtin.len_ #[t] r #[.slice a n c]).run P w = .ok (.int .i64 n) w:=by
 simp [Builtin.len_,run_underlying hu,goInt]
theorem op_len_slice {t e r:TypeId} (hu:P.underlying t=some (.slice e)) (a:Option Addr) (n c:Nat):opV P (Builtin.len_ #[t] r #[.slice a n c]) QP w k=k (.int .i64 n) w:=opV_ok (run_len_slice hu a n c)
theorem run_len_string {t r:TypeId} (hu:P.underlying t=some .string) (s:ByteArray):(Builtin.len_ #[t] r #[.string s]).run P w = .ok (.int .i64 s.size) w:=by
 simp [Builtin.len_,run_underlying hu,goInt]
theorem op_len_string {t r:TypeId} (hu:P.underlying t=some .string) (s:ByteArray):opV P (Builtin.len_ #[t] r #[.string s]) QP w k=k (.int .i64 s.size) w:=opV_ok (run_len_string hu s)
theorem run_bin_int (op:BinOp) (t:TypeId) (c:Bool) (kd:IntKind) (a b:Int) (hs:(match op with | .shl | .shr=>false | _=>true)=true):(binS op t c (.int kd a) (.int kd b)).run P w=((match op with
 | .add | .sub | .mul=>Op.intArith op kd a b
 | .quo | .rem=>Op.intDiv op kd a b
 | .and | .or | .xor | .andNot=>Op.intBits op kd a b
 | _=>Op.intCmp op a b:Sem Value)).run P w:=by
 cases op<;>first | (simp at hs;done) | simp [binS,binOp]
theorem op_add (t:TypeId) (c:Bool) (kd:IntKind) (a b:Int):opV P (binS .add t c (.int kd a) (.int kd b)) QP w k=k (.int kd (kd.wrap (a+b))) w:=opV_ok (by rw [run_bin_int _ _ _ _ _ _ rfl];rfl)
theorem op_sub (t:TypeId) (c:Bool) (kd:IntKind) (a b:Int):opV P (binS .sub t c (.int kd a) (.int kd b)) QP w k=k (.int kd (kd.wrap (a - b))) w:=opV_ok (by rw [run_bin_int _ _ _ _ _ _ rfl];rfl)
theorem op_mul (t:TypeId) (c:Bool) (kd:IntKind) (a b:Int):opV P (binS .mul t c (.int kd a) (.int kd b)) QP w k=k (.int kd (kd.wrap (a*b))) w:=opV_ok (by rw [run_bin_int _ _ _ _ _ _ rfl];rfl)
theorem op_eql (t:TypeId) (c:Bool) (kd:IntKind) (a b:Int):opV P (binS .eql t c (.int kd a) (.int kd b)) QP w k=k (.bool (a == b)) w:=opV_ok (by rw [run_bin_int _ _ _ _ _ _ rfl];rfl)
theorem op_neq (t:TypeId) (c:Bool) (kd:IntKind) (a b:Int):opV P (binS .neq t c (.int kd a) (.int kd b)) QP w k=k (.bool (a != b)) w:=opV_ok (by rw [run_bin_int _ _ _ _ _ _ rfl];rfl)
theorem op_lss (t:TypeId) (c:Bool) (kd:IntKind) (a b:Int):opV P (binS .lss t c (.int kd a) (.int kd b)) QP w k=k (.bool (decide (a < b))) w:=opV_ok (by rw [run_bin_int _ _ _ _ _ _ rfl];rfl)
theorem op_leq (t:TypeId) (c:Bool) (kd:IntKind) (a b:Int):opV P (binS .leq t c (.int kd a) (.int kd b)) QP w k=k (.bool (decide (a≤b))) w:=opV_ok (by rw [run_bin_int _ _ _ _ _ _ rfl];rfl)
theorem op_gtr (t:TypeId) (c:Bool) (kd:IntKind) (a b:Int):opV P (binS .gtr t c (.int kd a) (.int kd b)) QP w k=k (.bool (decide (a > b))) w:=opV_ok (by rw [run_bin_int _ _ _ _ _ _ rfl];rfl)
theorem op_geq (t:TypeId) (c:Bool) (kd:IntKind) (a b:Int):opV P (binS .geq t c (.int kd a) (.int kd b)) QP w k=k (.bool (decide (a≥b))) w:=opV_ok (by rw [run_bin_int _ _ _ _ _ _ rfl];rfl)
theorem bytes_eq (a b:ByteArray):(a.toList == b.toList)=decide (a=b):=by
 rw [Bool.eq_iff_iff]
 simp only [beq_iff_eq,decide_eq_true_eq]
 constructor
 · intro h
   rw [ByteArray.toList_eq,ByteArray.toList_eq] at h
   exact ByteArray.ext (Array.toList_inj.1 h)
 · intro h;rw [h]
theorem op_seql (t:TypeId) (c:Bool) (a b:ByteArray):opV P (binS .eql t c (.string a) (.string b)) QP w k=k (.bool (decide (a=b))) w:=opV_ok (by simp [binS,binOp,Op.stringOp,bytes_eq])
theorem op_sneq (t:TypeId) (c:Bool) (a b:ByteArray):opV P (binS .neq t c (.string a) (.string b)) QP w k=k (.bool (!decide (a=b))) w:=opV_ok (by simp [binS,binOp,Op.stringOp,bytes_eq])
theorem run_equal_bool {t:TypeId} (hu:P.underlying t=some .bool) (a b:Bool):(Op.equal t (.bool a) (.bool b)).run P w = .ok (a == b) w:=run_equalIn_bool w 9999 t a b hu
theorem op_beql {t:TypeId} (hu:P.underlying t=some .bool) (c:Bool) (a b:Bool):opV P (binS .eql t c (.bool a) (.bool b)) QP w k=k (.bool (a == b)) w:=opV_ok (by
 show Sem.run P (do pure (.bool (← Op.equal t (.bool a) (.bool b))):Sem Value) w=_
 rw [Sem.run_bind,run_equal_bool hu];rfl)
theorem op_bneq {t:TypeId} (hu:P.underlying t=some .bool) (c:Bool) (a b:Bool):opV P (binS .neq t c (.bool a) (.bool b)) QP w k=k (.bool (a != b)) w:=opV_ok (by
 show Sem.run P (do pure (.bool (!(← Op.equal t (.bool a) (.bool b)))):Sem Value) w=_
 rw [Sem.run_bind,run_equal_bool hu];rfl)
theorem op_not (b:Bool):opV P (Op.unary .not (.bool b)) QP w k=k (.bool !b) w:=opV_ok rfl
theorem op_neg (kd:IntKind) (a:Int):opV P (Op.unary .neg (.int kd a)) QP w k=k (.int kd (kd.wrap (0 - a))) w:=opV_ok rfl
theorem op_max (ts:Array TypeId) (t:TypeId) (kd:IntKind) (a b:Int):opV P (Builtin.max_ ts t #[.int kd a,.int kd b]) QP w k=k (.int kd (if b > a then b else a)) w:=opV_ok (by simp [Builtin.max_,Builtin.max2])
theorem op_min (ts:Array TypeId) (t:TypeId) (kd:IntKind) (a b:Int):opV P (Builtin.min_ ts t #[.int kd a,.int kd b]) QP w k=k (.int kd (if b < a then b else a)) w:=opV_ok (by simp [Builtin.min_,Builtin.min2])
theorem op_extract {vs:Array Value} {i:Nat} {v:Value} (h:vs[i]?=some v):opV P (Instr.extract (.tuple vs) i) QP w k=k v w:=opV_ok (by simp [Instr.extract,h])
theorem op_makeFunc (fn:Fn) (a b:Array Value):opV P (Instr.makeFunc fn a b) QP w k=k (.func fn a b) w:=opV_ok rfl
theorem op_nil (a:Addr):opN P (nilN (.pointer (some a))) QP w k=k (.pointer (some a)) w:=opN_ok (by simp [nilN,execOp])
theorem guard_undef (want:Bool) (p q:Prop):guardP undef want p q=q:=rfl
end
end Go.Sw
namespace Go.Sw
open Go.RowKit (Below)
def opVx (P:Program) (s:Sem Value) (QP:List PanicEntry→World→Prop) (w:World) (k:Value→World→Prop):Prop:=opV P s QP w k
def opUx (P:Program) (s:Sem Unit) (QP:List PanicEntry→World→Prop) (w:World) (k:World→Prop):Prop:=opU P s QP w k
def onCell (c:Option Value) (k:Value→Prop) (d:Prop):Prop:=match c with
 | some v=>k v
 | none=>d
def onBool (b:Bool) (p q:Prop):Prop:=match b with
 | true=>p
 | false=>q
theorem onCell_some (v:Value) (k:Value→Prop) (d:Prop):onCell (some v) k d=k v:=rfl
theorem onBool_true (p q:Prop):onBool true p q=p:=rfl
theorem onBool_false (p q:Prop):onBool false p q=q:=rfl
theorem cond_true (p q:Prop):condP (.bool true) p q=p:=rfl
theorem cond_false (p q:Prop):condP (.bool false) p q=q:=rfl
theorem pick_true (x y:Value) (kk:Value→Prop):pickK (.bool true) x y kk=kk x:=rfl
theorem pick_false (x y:Value) (kk:Value→Prop):pickK (.bool false) x y kk=kk y:=rfl
theorem guard_tt (p q:Prop):guardP (.bool true) true p q=p:=rfl
theorem guard_ff (p q:Prop):guardP (.bool false) false p q=p:=rfl
theorem guard_tf (p q:Prop):guardP (.bool true) false p q=q:=rfl
theorem guard_ft (p q:Prop):guardP (.bool false) true p q=q:=rfl
theorem guard_or (a b:Bool) (k:Value→Prop):guardP (.bool a) false (pickK (.bool a) (.bool true) (.bool b) k) (pickK (.bool a) (.bool true) undef k)=k (.bool (a||b)):=by cases a<;>rfl
theorem guard_and (a b:Bool) (k:Value→Prop):guardP (.bool a) true (pickK (.bool a) (.bool b) (.bool false) k) (pickK (.bool a) undef (.bool false) k)=k (.bool (a&&b)):=by cases a<;>rfl
theorem joinK_eq {α:Type} (K:α) (f:α→Prop):joinK K f=f K:=rfl
def dirty:Nat:=0
theorem dirty_eq:dirty=0:=Nat.eq_zero_of_le_zero (Nat.le_of_eq (Nat.add_zero 0))
section
variable {P:Program} {QP:List PanicEntry→World→Prop} {w w':World} {C C':World→Prop} {d:Nat}
@[congr] theorem opV_congr {s s':Sem Value} {k:Value→World→Prop} (h:s=s') (hw:w=w') (hd:dirty=d):opV P s QP w k=opV P s' QP w' k:=by rw [h,hw]
@[congr] theorem opU_congr {s s':Sem Unit} {k:World→Prop} (h:s=s') (hw:w=w') (hd:dirty=d):opU P s QP w k=opU P s' QP w' k:=by rw [h,hw]
@[congr] theorem opVx_congr {s:Sem Value} {k:Value→World→Prop} (hd:dirty=d):opVx P s QP w k=opVx P s QP w k:=rfl
@[congr] theorem opUx_congr {s:Sem Unit} {k:World→Prop} (hd:dirty=d):opUx P s QP w k=opUx P s QP w k:=rfl
@[congr] theorem opN_congr {s s':Sem Next} {k:Value→World→Prop} (h:s=s') (hw:w=w') (hd:dirty=d):opN P s QP w k=opN P s' QP w' k:=by rw [h,hw]
@[congr] theorem onCell_congr {c c':Option Value} {k:Value→Prop} {p:Prop} (h:c=c') (hd:dirty=d):onCell c k p=onCell c' k p:=by rw [h]
@[congr] theorem onBool_congr {b b':Bool} {p q:Prop} (h:b=b') (hd:dirty=d):onBool b p q=onBool b' p q:=by rw [h]
@[congr] theorem condP_congr {v v':Value} {p q:Prop} (h:v=v') (hd:dirty=d):condP v p q=condP v' p q:=by rw [h]
@[congr] theorem pickK_congr {c c' a a' b b':Value} {k:Value→Prop} (h:c=c') (ha:a=a') (hb:b=b') (hd:dirty=d):pickK c a b k=pickK c' a' b' k:=by rw [h,ha,hb]
@[congr] theorem callK_congr {f:FuncId} {args args':Array Value} {k:Value→World→Prop} (h:args=args') (hw:w=w') (hd:dirty=d):callK P f args QP w k=callK P f args' QP w' k:=by rw [h,hw]
@[congr] theorem callV_congr {f f':Value} {args args':Array Value} {k:Value→World→Prop} (hf:f=f') (h:args=args') (hw:w=w') (hd:dirty=d):callV P f args QP w k=callV P f' args' QP w' k:=by rw [h,hf,hw]
@[congr] theorem joinK_congr {α:Type} {K:α} {f:α→Prop} (hd:dirty=d):joinK K f=joinK K f:=rfl
@[congr] theorem drawK_congr {f:(World→Prop)→World→Prop} (hw:w=w') (hd:dirty=d):drawK w f=drawK w' f:=by rw [hw]
@[congr] theorem qV_congr {s s':Sem Value} {k:Value→Prop} (hC:C=C') (h:s=s') (hd:dirty=d):qV P C s k=qV P C' s' k:=by rw [h,hC]
@[congr] theorem qN_congr {s s':Sem Next} {k:Value→Prop} (hC:C=C') (h:s=s') (hd:dirty=d):qN P C s k=qN P C' s' k:=by rw [h,hC]
@[congr] theorem loop1_congr {body:Value→World→(Value→World→Prop)→Prop} {a0 b0:Value} (h0:a0=b0) (hw:w=w') (hd:dirty=d):loop1 body a0 w=loop1 body b0 w':=by rw [h0,hw]
@[congr] theorem loop2_congr {body:Value→Value→World→(Value→Value→World→Prop)→Prop} {a0 a1 b0 b1:Value} (h0:a0=b0) (h1:a1=b1) (hw:w=w') (hd:dirty=d):loop2 body a0 a1 w=loop2 body b0 b1 w':=by rw [h0,h1,hw]
@[congr] theorem loop3_congr {body:Value→Value→Value→World→(Value→Value→Value→World→Prop)→Prop} {a0 a1 a2 b0 b1 b2:Value} (h0:a0=b0) (h1:a1=b1) (h2:a2=b2) (hw:w=w') (hd:dirty=d):loop3 body a0 a1 a2 w=loop3 body b0 b1 b2 w':=by rw [h0,h1,h2,hw]
end
section
variable {P:Program} {QP:List PanicEntry→World→Prop} {w:World} {k:Value→World→Prop} {ku:World→Prop}
theorem op_loadC {T:TypeId} {n m:Nat} {z:Value} (h:TyInfo P T false n m z) (b o:Nat):opV P (Instr.loadAt T (.pointer (some ⟨b,o,none⟩))) QP w k=onCell (w.cell? ⟨b,o,none⟩) (fun v=>k v w) (opVx P (Instr.loadAt T (.pointer (some ⟨b,o,none⟩))) QP w k):=by
 cases hc:w.cell? ⟨b,o,none⟩ with
 | some v=>exact op_load1 h hc
 | none=>rfl
theorem op_storeC {T:TypeId} {m:Nat} {z:Value} (h:TyInfo P T false 1 m z) (b o:Nat) (v:Value) (hv:v.oneCell'=true):opU P (Instr.storeAt T (.pointer (some ⟨b,o,none⟩)) v) QP w ku =
 onCell (w.cell? ⟨b,o,none⟩) (fun _=>onBool (w.frozen? ⟨b,o,none⟩) (opUx P (Instr.storeAt T (.pointer (some ⟨b,o,none⟩)) v) QP w ku) (ku (w.setCell ⟨b,o,none⟩ v))) (opUx P (Instr.storeAt T (.pointer (some ⟨b,o,none⟩)) v) QP w ku):=by
 cases hc:w.cell? ⟨b,o,none⟩ with
 | some u =>
  rw [onCell_some]
  cases hf:w.frozen? ⟨b,o,none⟩ with
  | true=>rfl
  | false=>rw [onBool_false];exact op_store1 h hv hc hf
 | none=>rfl
theorem op_indexN {t e:TypeId} {agg:Bool} {n m:Nat} {z:Value} (hu:P.underlying t=some (.slice e)) (ht:TyInfo P e agg n m z) (b o len cap:Nat) (ik:IntKind) (i:Nat) (h:i < len) :
 opV P (Instr.indexAt t (.slice (some ⟨b,o,none⟩) len cap) (.int ik (i:Int))) QP w k=k (.pointer (some ⟨b,o+i*n,none⟩)) w:=by
 try unfold X0
 rw [op_indexAt hu ht b o len cap ik i Qx Qx];simp
theorem op_extract20 (a b:Value):opV P (Instr.extract (.tuple #[a,b]) 0) QP w k=k a w:=op_extract rfl
theorem op_extract21 (a b:Value):opV P (Instr.extract (.tuple #[a,b]) 1) QP w k=k b w:=op_extract rfl
theorem op_extract30 (a b c:Value):opV P (Instr.extract (.tuple #[a,b,c]) 0) QP w k=k a w:=op_extract rfl
theorem op_extract31 (a b c:Value):opV P (Instr.extract (.tuple #[a,b,c]) 1) QP w k=k b w:=op_extract rfl
theorem op_extract32 (a b c:Value):opV P (Instr.extract (.tuple #[a,b,c]) 2) QP w k=k c w:=op_extract rfl
theorem GEN:(∀ T v,opV P (Instr.box T v) QP w k=k (.pointer (some ⟨w.heap.size,0,none⟩)) (w.alloc (.cells v.cells T))) ∧
 (∀ t c kd a b,opV P (binS .add t c (.int kd a) (.int kd b)) QP w k=k (.int kd (kd.wrap (a+b))) w) ∧
 (∀ t c kd a b,opV P (binS .sub t c (.int kd a) (.int kd b)) QP w k=k (.int kd (kd.wrap (a - b))) w) ∧
 (∀ t c kd a b,opV P (binS .mul t c (.int kd a) (.int kd b)) QP w k=k (.int kd (kd.wrap (a*b))) w) ∧
 (∀ t c kd a b,opV P (binS .eql t c (.int kd a) (.int kd b)) QP w k=k (.bool (a == b)) w) ∧
 (∀ t c kd a b,opV P (binS .neq t c (.int kd a) (.int kd b)) QP w k=k (.bool (a != b)) w) ∧
 (∀ t c kd a b,opV P (binS .lss t c (.int kd a) (.int kd b)) QP w k=k (.bool (decide (a < b))) w) ∧
 (∀ t c kd a b,opV P (binS .leq t c (.int kd a) (.int kd b)) QP w k=k (.bool (decide (a≤b))) w) ∧
 (∀ t c kd a b,opV P (binS .gtr t c (.int kd a) (.int kd b)) QP w k=k (.bool (decide (b < a))) w) ∧
 (∀ t c kd a b,opV P (binS .geq t c (.int kd a) (.int kd b)) QP w k=k (.bool (decide (b≤a))) w) ∧
 (∀ t c a b,opV P (binS .eql t c (.string a) (.string b)) QP w k=k (.bool (decide (a=b))) w) ∧
 (∀ t c a b,opV P (binS .neq t c (.string a) (.string b)) QP w k=k (.bool (!decide (a=b))) w) ∧
 (∀ b,opV P (Op.unary .not (.bool b)) QP w k=k (.bool !b) w) ∧
 (∀ kd a,opV P (Op.unary .neg (.int kd a)) QP w k=k (.int kd (kd.wrap (0 - a))) w) ∧
 (∀ ts t kd a b,opV P (Builtin.max_ ts t #[.int kd a,.int kd b]) QP w k=k (.int kd (if b > a then b else a)) w) ∧
 (∀ ts t kd a b,opV P (Builtin.min_ ts t #[.int kd a,.int kd b]) QP w k=k (.int kd (if b < a then b else a)) w) ∧
 (∀ a b,opV P (Instr.extract (.tuple #[a,b]) 0) QP w k=k a w)∧(∀ a b,opV P (Instr.extract (.tuple #[a,b]) 1) QP w k=k b w) ∧
 (∀ a b c,opV P (Instr.extract (.tuple #[a,b,c]) 0) QP w k=k a w)∧(∀ a b c,opV P (Instr.extract (.tuple #[a,b,c]) 1) QP w k=k b w)∧(∀ a b c,opV P (Instr.extract (.tuple #[a,b,c]) 2) QP w k=k c w) ∧
 (∀ fn a b,opV P (Instr.makeFunc fn a b) QP w k=k (.func fn a b) w) ∧
 (∀ a,opN P (nilN (.pointer (some a))) QP w k=k (.pointer (some a)) w) :=
 ⟨op_box,op_add,op_sub,op_mul,op_eql,op_neq,op_lss,op_leq,op_gtr,op_geq,op_seql,op_sneq,op_not,op_neg,op_max,op_min,op_extract20,op_extract21,op_extract30,op_extract31,op_extract32,op_makeFunc,op_nil⟩
theorem CTL:(∀ p q,condP (.bool true) p q=p)∧(∀ p q,condP (.bool false) p q=q)∧(∀ x y kk,pickK (.bool true) x y kk=kk x)∧(∀ x y kk,pickK (.bool false) x y kk=kk y) ∧
 (∀ p q,guardP (.bool true) true p q=p)∧(∀ p q,guardP (.bool false) false p q=p)∧(∀ p q,guardP (.bool true) false p q=q)∧(∀ p q,guardP (.bool false) true p q=q) ∧
 (∀ v kk d,onCell (some v) kk d=kk v)∧(∀ p q,onBool true p q=p)∧(∀ p q,onBool false p q=q) :=
 ⟨cond_true,cond_false,pick_true,pick_false,guard_tt,guard_ff,guard_tf,guard_ft,onCell_some,onBool_true,onBool_false⟩
end
section
variable {w:World}
theorem cell_new (c:Array Value) (T:TypeId) (i:Nat):(w.alloc (.cells c T)).cell? ⟨w.heap.size,i,none⟩=c[i]?:=World.cell?_alloc_new w c T i
theorem cell_old {o:Obj} {b i:Nat} (h:b < w.heap.size):(w.alloc o).cell? ⟨b,i,none⟩=w.cell? ⟨b,i,none⟩:=World.cell?_alloc_lt w o ⟨b,i,none⟩ h
theorem frozen_new (c:Array Value) (T:TypeId) (i:Nat):(w.alloc (.cells c T)).frozen? ⟨w.heap.size,i,none⟩=false:=World.frozen?_alloc_new w c T i
theorem frozen_old {o:Obj} {b i:Nat} (h:b < w.heap.size):(w.alloc o).frozen? ⟨b,i,none⟩=w.frozen? ⟨b,i,none⟩:=World.frozen?_alloc_old w o ⟨b,i,none⟩ (by simp;omega)
theorem cell_set_same {b i:Nat} {u v:Value} (h:w.cell? ⟨b,i,none⟩=some u):(w.setCell ⟨b,i,none⟩ v).cell? ⟨b,i,none⟩=some v:=World.cell?_setCell_same w _ _ h
theorem cell_set_other {b i b' i':Nat} {v:Value} (h:b≠b'∨i≠i'):(w.setCell ⟨b',i',none⟩ v).cell? ⟨b,i,none⟩=w.cell? ⟨b,i,none⟩ :=
 World.cell?_setCell_other w _ _ _ (by intro e;injection e with e1 e2;omega)
theorem frozen_set {b i b' i':Nat} {v:Value}:(w.setCell ⟨b',i',none⟩ v).frozen? ⟨b,i,none⟩=w.frozen? ⟨b,i,none⟩:=by simp
theorem set_old {o:Obj} {p:Addr} {v:Value} (h:p.block < w.heap.size):(w.alloc o).setCell p v=(w.setCell p v).alloc o:=by
 simp only [World.setCell,World.alloc]
 congr 1
 apply Array.ext_getElem?
 intro j
 simp only [Array.getElem?_modify,Array.getElem?_push,Array.size_modify]
 by_cases hj:j=w.heap.size
 · subst hj
   have:¬ p.block=w.heap.size:=Qx
   simp [this]
 · simp [hj]
theorem set_new (o:Array Value) (T:TypeId) (i:Nat) (v:Value):(w.alloc (.cells o T)).setCell ⟨w.heap.size,i,none⟩ v=w.alloc (.cells (o.setIfInBounds i v) T):=setCell_alloc_new o T i v
theorem drew_wdrew:Sw.drew w=w.drew:=rfl
end
end Go.Sw
namespace Go.Sw
open Go.RowKit (Below)
theorem STD:(∀ (w:World) (c:Array Value) (T:TypeId) (i:Nat),(w.alloc (.cells c T)).cell? ⟨w.heap.size,i,none⟩=c[i]?)∧(∀ (w:World) (c:Array Value) (T:TypeId) (i:Nat),(w.alloc (.cells c T)).frozen? ⟨w.heap.size,i,none⟩=false) ∧
 (∀ (w:World) (o:Array Value) (T:TypeId) (i:Nat) (v:Value),(w.alloc (.cells o T)).setCell ⟨w.heap.size,i,none⟩ v=w.alloc (.cells (o.setIfInBounds i v) T)) ∧
 (∀ (w:World) (b i b' i':Nat) (v:Value),(w.setCell ⟨b',i',none⟩ v).frozen? ⟨b,i,none⟩=w.frozen? ⟨b,i,none⟩) ∧
 (∀ (w:World) (a:Addr),w.drew.cell? a=w.cell? a)∧(∀ (w:World) (a:Addr),w.drew.frozen? a=w.frozen? a)∧(∀ (w:World),Sw.drew w=w.drew) ∧
 (∀ cs,(Value.agg cs).cells=cs)∧(∀ k n,(Value.int k n).cells = #[.int k n])∧(∀ b,(Value.bool b).cells = #[.bool b])∧(∀ s,(Value.string s).cells = #[.string s])∧(∀ a n c,(Value.slice a n c).cells = #[.slice a n c]) ∧
 (∀ m,(Value.map m).cells = #[.map m])∧(∀ a,(Value.pointer a).cells = #[.pointer a])∧(∀ f a b,(Value.func f a b).cells = #[.func f a b])∧(Value.nilFunc.cells = #[.nilFunc])∧(Value.nilIface.cells = #[.nilIface])∧(∀ t v,(Value.iface t v).cells = #[.iface t v]) ∧
 (∀ (Φ:Value→World→Prop) v w,retR Φ (.returned v) w=Φ v w) :=
 ⟨fun _=>cell_new,fun _=>frozen_new,fun _=>set_new,fun w b i b' i' v=>frozen_set,fun _ _=>rfl,fun _ _=>rfl,fun _=>rfl,fun _=>rfl,fun _ _=>rfl,fun _=>rfl,fun _=>rfl,fun _ _ _=>rfl,fun _=>rfl,fun _=>rfl,fun _ _ _=>rfl,rfl,rfl,fun _ _=>rfl,fun _ _ _=>retR_ret⟩
theorem ONE:(∀ k n,Value.oneCell' (.int k n)=true)∧(∀ b,Value.oneCell' (.bool b)=true)∧(∀ s,Value.oneCell' (.string s)=true)∧(∀ a n c,Value.oneCell' (.slice a n c)=true)∧(∀ m,Value.oneCell' (.map m)=true)∧(∀ a,Value.oneCell' (.pointer a)=true)∧(∀ f a b,Value.oneCell' (.func f a b)=true)∧(Value.oneCell' .nilFunc=true)∧(Value.oneCell' .nilIface=true)∧(∀ t v,Value.oneCell' (.iface t v)=true) :=
 ⟨fun _ _=>rfl,fun _=>rfl,fun _=>rfl,fun _ _ _=>rfl,fun _=>rfl,fun _=>rfl,fun _ _ _=>rfl,rfl,rfl,fun _ _=>rfl⟩
theorem wrap_ok {x:Int} (h1 : -9223372036854775808≤x) (h2:x≤9223372036854775807):IntKind.i64.wrap x=x:=IntWalk.i64_in x ⟨h1,h2⟩
theorem wrap_succ {k:Nat} (h:k < 9223372036854775807):IntKind.i64.wrap ((k:Int)+1)=((k+1:Nat):Int):=by rw [wrap_ok Qx Qx];rfl
theorem Ext.cellQ {w w':World} (h:Ext w w') {b o:Nat} (hb:b < w.heap.size):w'.cell? ⟨b,o,none⟩=w.cell? ⟨b,o,none⟩:=h.cellEq hb
theorem Ext.frozenQ {w w':World} (h:Ext w w') {b o:Nat} (hb:b < w.heap.size):w'.frozen? ⟨b,o,none⟩=w.frozen? ⟨b,o,none⟩:=h.frozenEq hb
theorem Ext.heapQ {w w':World} (h:Ext w w') {b:Nat} (hb:b < w.heap.size):w'.heap[b]?=w.heap[b]?:=h.block b hb
theorem heap_newE {w:World} {b:Nat} (h:b=w.heap.size) (o:Obj):(w.alloc o).heap[b]?=some o:=by subst h;exact World.alloc_heap_new w o
theorem heap_oldE {w:World} {o:Obj} {b:Nat} (h:b < w.heap.size):(w.alloc o).heap[b]?=w.heap[b]?:=Below.heap_alloc w o b h
theorem heap_setE {w:World} {b b' o:Nat} {v:Value} (h:b≠b'):(w.setCell ⟨b',o,none⟩ v).heap[b]?=w.heap[b]?:=Below.heap_setCell w ⟨b',o,none⟩ v b h
theorem cell_set_map {w:World} {b i:Nat} {v:Value}:(w.setCell ⟨b,i,none⟩ v).cell? ⟨b,i,none⟩=(w.cell? ⟨b,i,none⟩).map (fun _=>v):=by
 cases hc:w.cell? ⟨b,i,none⟩ with
 | some u=>exact cell_set_same hc
 | none =>
  rw [Option.map_none]
  unfold World.cell? at hc ⊢
  simp only [World.setCell,Array.getElem?_modify]
  cases h:w.heap[b]? with
  | none=>simp
  | some o => 
   simp only [h] at hc ⊢
   cases o<;>simp_all
theorem cell_newE {w:World} {b:Nat} (h:b=w.heap.size) (c:Array Value) (T:TypeId) (i:Nat):(w.alloc (.cells c T)).cell? ⟨b,i,none⟩=c[i]?:=by subst h;exact cell_new c T i
theorem frozen_newE {w:World} {b:Nat} (h:b=w.heap.size) (c:Array Value) (T:TypeId) (i:Nat):(w.alloc (.cells c T)).frozen? ⟨b,i,none⟩=false:=by subst h;exact frozen_new c T i
theorem set_newE {w:World} {b:Nat} (h:b=w.heap.size) (o:Array Value) (T:TypeId) (i:Nat) (v:Value):(w.alloc (.cells o T)).setCell ⟨b,i,none⟩ v=w.alloc (.cells (o.setIfInBounds i v) T):=by subst h;exact set_new o T i v
theorem meas_lt {k n:Nat} {kd:IntKind} (h:k < n):n - (Go.RowKit.intOf (.int kd ((k+1:Nat):Int))).toNat < n - (Go.RowKit.intOf (.int kd (k:Int))).toNat:=by simp [Go.RowKit.intOf];omega
theorem drop_cases {α:Type} {l:List α} {k:Nat} (h:k≤l.length):(∃ x,l[k]?=some x∧l.drop k=x::l.drop (k+1)∧k < l.length∧decide ((k:Int) < (l.length:Int))=true)∨(k=l.length∧l.drop k=[]∧decide ((k:Int) < (l.length:Int))=false):=by
 by_cases hk:k < l.length
 · exact .inl ⟨l[k],List.getElem?_eq_getElem hk,List.drop_eq_getElem_cons hk,hk,by simp;omega⟩
 · exact .inr ⟨by omega,by rw [List.drop_eq_nil_iff];omega,by simp;omega⟩
def ElemAt (w:World) (b o:Nat) (cs:List Value):Prop:=∀ j v,cs[j]?=some v→w.cell? ⟨b,o+j,none⟩=some v
theorem ElemAt.ext {w w':World} {b o:Nat} {cs:List Value} (h:ElemAt w b o cs) (e:Ext w w'):ElemAt w' b o cs:=fun j v hv=>e.cell (h j v hv)
theorem ElemAt.loads {P:Program} {w:World} {T:TypeId} {n m:Nat} {z:Value} {b o:Nat} {cs:List Value} (h:ElemAt w b o cs) (ht:TyInfo P T true n m z) (hl:cs.length=n):Loads P w T ⟨b,o,none⟩ (.agg cs.toArray) :=
 Loads.many ht hl fun j v hv=>by rw [Addr.add_lit];exact h j v hv
theorem ElemAt.cell {w:World} {b o:Nat} {cs:List Value} (h:ElemAt w b o cs) (j:Nat) {v:Value} (hv:cs[j]?=some v):w.cell? ⟨b,o+j,none⟩=some v:=h j v hv
theorem ElemAt.c1 {w w':World} {b o:Nat} {c0:Value} (h:ElemAt w b o [c0]) (e:Ext w w'):w'.cell? ⟨b,o,none⟩=some c0:=e.cell (h 0 _ rfl)
theorem ElemAt.c2 {w w':World} {b o:Nat} {c0 c1:Value} (h:ElemAt w b o [c0,c1]) (e:Ext w w'):w'.cell? ⟨b,o,none⟩=some c0∧w'.cell? ⟨b,o+1,none⟩=some c1:=⟨e.cell (h 0 _ rfl),e.cell (h 1 _ rfl)⟩
theorem ElemAt.c3 {w w':World} {b o:Nat} {c0 c1 c2:Value} (h:ElemAt w b o [c0,c1,c2]) (e:Ext w w'):w'.cell? ⟨b,o,none⟩=some c0∧w'.cell? ⟨b,o+1,none⟩=some c1∧w'.cell? ⟨b,o+2,none⟩=some c2:=⟨e.cell (h 0 _ rfl),e.cell (h 1 _ rfl),e.cell (h 2 _ rfl)⟩
theorem ElemAt.c7 {w w':World} {b o:Nat} {c0 c1 c2 c3 c4 c5 c6:Value} (h:ElemAt w b o [c0,c1,c2,c3,c4,c5,c6]) (e:Ext w w'):w'.cell? ⟨b,o,none⟩=some c0∧w'.cell? ⟨b,o+1,none⟩=some c1∧w'.cell? ⟨b,o+2,none⟩=some c2∧w'.cell? ⟨b,o+3,none⟩=some c3∧w'.cell? ⟨b,o+4,none⟩=some c4∧w'.cell? ⟨b,o+5,none⟩=some c5∧w'.cell? ⟨b,o+6,none⟩=some c6:=⟨e.cell (h 0 _ rfl),e.cell (h 1 _ rfl),e.cell (h 2 _ rfl),e.cell (h 3 _ rfl),e.cell (h 4 _ rfl),e.cell (h 5 _ rfl),e.cell (h 6 _ rfl)⟩
theorem ElemAt.c15 {w w':World} {b o:Nat} {c0 c1 c2 c3 c4 c5 c6 c7 c8 c9 c10 c11 c12 c13 c14:Value} (h:ElemAt w b o [c0,c1,c2,c3,c4,c5,c6,c7,c8,c9,c10,c11,c12,c13,c14]) (e:Ext w w'):w'.cell? ⟨b,o,none⟩=some c0∧w'.cell? ⟨b,o+1,none⟩=some c1∧w'.cell? ⟨b,o+2,none⟩=some c2∧w'.cell? ⟨b,o+3,none⟩=some c3∧w'.cell? ⟨b,o+4,none⟩=some c4∧w'.cell? ⟨b,o+5,none⟩=some c5∧w'.cell? ⟨b,o+6,none⟩=some c6∧w'.cell? ⟨b,o+7,none⟩=some c7∧w'.cell? ⟨b,o+8,none⟩=some c8∧w'.cell? ⟨b,o+9,none⟩=some c9∧w'.cell? ⟨b,o+10,none⟩=some c10∧w'.cell? ⟨b,o+11,none⟩=some c11∧w'.cell? ⟨b,o+12,none⟩=some c12∧w'.cell? ⟨b,o+13,none⟩=some c13∧w'.cell? ⟨b,o+14,none⟩=some c14:=⟨e.cell (h 0 _ rfl),e.cell (h 1 _ rfl),e.cell (h 2 _ rfl),e.cell (h 3 _ rfl),e.cell (h 4 _ rfl),e.cell (h 5 _ rfl),e.cell (h 6 _ rfl),e.cell (h 7 _ rfl),e.cell (h 8 _ rfl),e.cell (h 9 _ rfl),e.cell (h 10 _ rfl),e.cell (h 11 _ rfl),e.cell (h 12 _ rfl),e.cell (h 13 _ rfl),e.cell (h 14 _ rfl)⟩
theorem ElemAt.new {w:World} (cs:List Value) (T:TypeId):ElemAt (w.alloc (.cells cs.toArray T)) w.heap.size 0 cs:=fun j v hv=>by rw [Nat.zero_add,cell_new];simpa using hv
def SliceOf {α:Type} (w:World) (n:Nat) (E:World→List Value→α→Prop) (v:Value) (l:List α):Prop :=
 ∃ A c,v = .slice A l.length c∧l.length≤c∧c≤9223372036854775807∧(l≠[]→∃ b o,A=some ⟨b,o,none⟩∧∀ k x,l[k]?=some x→∃ cs,cs.length=n∧ElemAt w b (o+k*n) cs∧E w cs x)
def Kept {α:Type} (E:World→List Value→α→Prop):Prop:=∀ w w' cs x,Ext w w'→E w cs x→E w' cs x
theorem SliceOf.ext {α:Type} {w w':World} {n:Nat} {E:World→List Value→α→Prop} {v:Value} {l:List α} (hk:Kept E) (h:SliceOf w n E v l) (e:Ext w w'):SliceOf w' n E v l:=by
 obtain ⟨A,c,h1,h2,h3,h4⟩:=h
 refine ⟨A,c,h1,h2,h3,fun hne=>?_⟩
 obtain ⟨b,o,h5,h6⟩:=h4 hne
 exact ⟨b,o,h5,fun k x hx=>by obtain ⟨cs,a1,a2,a3⟩:=h6 k x hx;exact ⟨cs,a1,a2.ext e,hk _ _ _ _ e a3⟩⟩
theorem SliceOf.open {α:Type} {w:World} {n:Nat} {E:World→List Value→α→Prop} {v:Value} {l:List α} (h:SliceOf w n E v l) :
 ∃ A c,v = .slice A l.length c∧l.length≤c∧c≤9223372036854775807∧l.length≤9223372036854775807∧∀ k x,l[k]?=some x→∃ b o cs,A=some ⟨b,o,none⟩∧cs.length=n∧ElemAt w b (o+k*n) cs∧E w cs x:=by
 obtain ⟨A,c,h1,h2,h3,h4⟩:=h
 refine ⟨A,c,h1,h2,h3,by omega,fun k x hx=>?_⟩
 have hne:l≠[]:=by rintro rfl;cases hx
 obtain ⟨b,o,h5,h6⟩:=h4 hne
 obtain ⟨cs,a⟩:=h6 k x hx
 exact ⟨b,o,cs,h5,a⟩
theorem SliceOf.oneCell {α:Type} {w:World} {n:Nat} {E:World→List Value→α→Prop} {v:Value} {l:List α} (h:SliceOf w n E v l):v.oneCell'=true:=by
 obtain ⟨A,c,rfl,_⟩:=h;rfl
theorem SliceOf.setOther {α:Type} {w:World} {n:Nat} {E:World→List Value→α→Prop} {v:Value} {l:List α} (h:SliceOf w n E v l) {b' o':Nat} (u:Value) (hb:∀ A m c,v = .slice (some A) m c→A.block≠b') (hE:∀ cs x,E w cs x→E (w.setCell ⟨b',o',none⟩ u) cs x):SliceOf (w.setCell ⟨b',o',none⟩ u) n E v l:=by
 obtain ⟨A,c,h1,h2,h3,h4⟩:=h
 refine ⟨A,c,h1,h2,h3,fun hne=>?_⟩
 obtain ⟨b,o,h5,h6⟩:=h4 hne
 have hbb:b≠b':=hb ⟨b,o,none⟩ _ _ (by rw [h1,h5])
 exact ⟨b,o,h5,fun k x hx=>by obtain ⟨cs,a1,a2,a3⟩:=h6 k x hx;exact ⟨cs,a1,fun j u hu=>by rw [cell_set_other (.inl hbb)];exact a2 j u hu,hE _ _ a3⟩⟩
theorem SliceOf.nil {α:Type} (w:World) (n:Nat) (E:World→List Value→α→Prop):SliceOf w n E (.slice none 0 0) []:=⟨none,0,rfl,Nat.le_refl _,by omega,fun h=>absurd rfl h⟩
theorem SliceOf.new1 {α:Type} {E:World→List Value→α→Prop} (enc:α→Value) (hE:∀ w x,E w [enc x] x) (w:World) (l:List α) (T:TypeId) (hl:l.length≤9223372036854775807):SliceOf (w.alloc (.cells (l.map enc).toArray T)) 1 E (.slice (some ⟨w.heap.size,0,none⟩) l.length l.length) l:=by
 refine ⟨_,_,rfl,Nat.le_refl _,hl,fun _=>⟨_,_,rfl,fun k x hx=>⟨[enc x],rfl,fun j v hv=>?_,hE _ x⟩⟩⟩
 cases j with
 | zero =>
  injection hv with hv;subst hv
  rw [World.cell?_alloc_new]
  simp [hx]
 | succ j=>cases hv
def idx {α:Type} (p:α→Bool) (l:List α):Int:=match l.findIdx? p with
 | some i=>(i:Int)
 | none => -1
theorem idx_here {α:Type} {p:α→Bool} {l:List α} {k:Nat} {x:α} (hx:l[k]?=some x) (hp:p x=true) (hb:∀ (j:Nat) (y:α),j < k→l[j]?=some y→p y=false):idx p l=k:=by
 have:l.findIdx? p=some k:=by
  rw [List.findIdx?_eq_some_iff_getElem]
  obtain ⟨hk,he⟩:=Qv hx
  refine ⟨hk,by rw [he];exact hp,fun j hj=>?_⟩
  have:=hb j l[j] hj (List.getElem?_eq_getElem Qx)
  simp [this]
 simp [idx,this]
theorem idx_none {α:Type} {p:α→Bool} {l:List α} (hb:∀ (j:Nat) (y:α),l[j]?=some y→p y=false):idx p l = -1:=by
 have:l.findIdx? p=none:=by
  rw [List.findIdx?_eq_none_iff]
  intro x hx
  obtain ⟨j,hj⟩:=List.getElem?_of_mem hx
  exact hb j x hj
 simp [idx,this]
theorem before_succ {α:Type} {l:List α} {p:α→Bool} {k:Nat} {x:α} (hb:∀ (j:Nat) (y:α),j < k→l[j]?=some y→p y=false) (hx:l[k]?=some x) (hp:p x=false):∀ (j:Nat) (y:α),j < k+1→l[j]?=some y→p y=false:=by
 intro j y hj hy
 by_cases hjk:j=k
 · subst hjk;rw [hx] at hy;injection hy with hy;subst hy;exact hp
 · exact hb j y Qx hy
theorem idx_neg {α:Type} {p:α→Bool} {l:List α}:decide (0≤idx p l)=l.any p:=by
 unfold idx
 cases h:l.findIdx? p with
 | none=>rw [List.findIdx?_eq_none_iff] at h;simp;intro x hx;simpa using h x hx
 | some i =>
  have hs:(l.findIdx? p).isSome=true:=by rw [h];rfl
  rw [List.findIdx?_isSome] at hs
  rw [hs];simp
theorem getElem?_lt {α:Type} {l:List α} {k:Nat} (h:k < l.length):∃ x,l[k]?=some x:=⟨_,List.getElem?_eq_getElem h⟩
end Go.Sw
namespace Go.Sw
def mark (B:Nat):Deferred:={ target := .collected B,args := #[] }
def outM (P:Program):List Deferred→FrameMode→World→(FrameMode→World→Prop)→Prop
 | [],u,w,k=>k u w
 | d::ds,u,w,k=>u ≠ .run∧((∃ r,d.target = .collected r∧w.heap[r]?=some (.deferred (some []))∧outM P ds u (w.putObj r (.deferred none)) k) ∨
  (∃ fv cap f args,d.target = .fn fv cap∧(invoke d.target d.args).run P w = .ok (.enter f args) w∧CallsDIn Fence.wide 0 P f args u w fun
   | .returned _,u',w'=>outM P ds (settle u') w' k
   | .panicked chain,u',w'=>outM P ds (raised u' chain) w' k
   | .outgrown,_,_=>False))
def resOf (ρ:Env):ResultVar→Option TypeId×Value
 | .tmp t=>(none,ρ t)
 | .cell t c=>(some c,ρ t)
def resTmp:ResultVar→Nat
 | .tmp t=>t
 | .cell t _=>t
def resOne (P:Program) (w:World) (r:Option TypeId×Value) (k:Value→Prop):Prop:=match r with
 | (none,v)=>k v
 | (some T,a)=>qW P T a w k
def retV (P:Program) (l:List (Option TypeId×Value)) (w:World) (k:Value→Prop):Prop:=match l with
 | []=>k (.tuple #[])
 | [a]=>resOne P w a k
 | [a,b]=>resOne P w a fun x=>resOne P w b fun y=>k (.tuple #[x,y])
 | [a,b,c]=>resOne P w a fun x=>resOne P w b fun y=>resOne P w c fun z=>k (.tuple #[x,y,z])
 | [a,b,c,d]=>resOne P w a fun x=>resOne P w b fun y=>resOne P w c fun z=>resOne P w d fun u=>k (.tuple #[x,y,z,u])
 | _=>False
def endM (P:Program) (l:List (Option TypeId×Value)) (R:RT):FrameMode→World→Prop
 | .returning,w=>retV P l w fun v=>R (.returned v) w
 | .panicking ch,w=>R (.panicked ch) w
 | .run,_=>False
def outX (P:Program) (ds:List Deferred) (l:List (Option TypeId×Value)) (R:RT) (w:World):Prop:=outM P ds .returning w (endM P l R)
def outQ (P:Program) (ds:List Deferred) (l:List (Option TypeId×Value)) (R:RT):List PanicEntry→World→Prop:=fun ch w=>outM P ds (.panicking ch) w (endM P l R)
section
variable {P:Program} {N:Nat} {ro:Option Nat} {fn:Func} {R:RT} {ρ:Env}
def readRes (tmps:Array Value):ResultVar→Sem Value
 | .tmp t=>pure (tmps.getD t undef)
 | .cell a t=>do loadVar t (← asAddr (tmps.getD a undef))
theorem results_eq (fn:Func) (tmps:Array Value):results fn tmps=(do let vs ← fn.results.mapM (readRes tmps);pure (if h:vs.size=1 then vs[0] else .tuple vs)):=by
 unfold results
 congr 1
theorem run_readRes {tmps:Array Value} (ht:∀ i,tmps.getD i undef=ρ i) {r:ResultVar} {w:World} {k:Value→Prop} (h:resOne P w (resOf ρ r) k):∃ v,(readRes tmps r).run P w = .ok v w∧k v:=by
 cases r with
 | tmp t=>exact ⟨_,rfl,by rw [ht];exact h⟩
 | cell t c =>
  obtain ⟨v,hv,hk⟩:=h
  exact ⟨v,by show Sem.run P (do loadVar c (← asAddr (tmps.getD t undef)):Sem Value) w=_;rw [ht];exact hv,hk⟩
theorem run_results {tmps:Array Value} (ht:∀ i,tmps.getD i undef=ρ i) {w:World} {k:Value→Prop} (h:retV P (fn.results.toList.map (resOf ρ)) w k):∃ v,(results fn tmps).run P w = .ok v w∧k v:=by
 rw [results_eq]
 obtain ⟨l,hl⟩:∃ l,fn.results=List.toArray l:=⟨fn.results.toList,by simp⟩
 rw [hl] at h ⊢
 simp only [List.mapM_toArray] at h ⊢
 match l,h with
 | [],h=>exact ⟨_,rfl,h⟩
 | [a],h =>
  obtain ⟨v,h1,h⟩:=run_readRes ht h
  refine ⟨v,?_,h⟩
  simp [Sem.run_bind,h1,Result.andThen]
 | [a,b],h =>
  obtain ⟨v,h1,h⟩:=run_readRes ht h
  obtain ⟨v2,h2,h⟩:=run_readRes ht h
  refine ⟨_,?_,h⟩
  simp [Sem.run_bind,h1,h2,Result.andThen]
 | [a,b,c],h =>
  obtain ⟨v,h1,h⟩:=run_readRes ht h
  obtain ⟨v2,h2,h⟩:=run_readRes ht h
  obtain ⟨v3,h3,h⟩:=run_readRes ht h
  refine ⟨_,?_,h⟩
  simp [Sem.run_bind,h1,h2,h3,Result.andThen]
 | [a,b,c,d],h =>
  obtain ⟨v,h1,h⟩:=run_readRes ht h
  obtain ⟨v2,h2,h⟩:=run_readRes ht h
  obtain ⟨v3,h3,h⟩:=run_readRes ht h
  obtain ⟨v4,h4,h⟩:=run_readRes ht h
  refine ⟨_,?_,h⟩
  simp [Sem.run_bind,h1,h2,h3,h4,Result.andThen]
 | _::_::_::_::_::_,h=>exact h.elim
theorem leaves_of_outM {tmps:Array Value} {l:List (Option TypeId×Value)} (ht:∀ i,tmps.getD i undef=ρ i) (hl:fn.results.toList.map (resOf ρ)=l):∀ (ds:List Deferred) (u:FrameMode) (w:World),outM P ds u w (endM P l R)→LeavesInM Fence.wide 0 P fn tmps R ds u w
 | [],u,w,h=>by
  subst hl
  cases u with
  | run=>exact h.elim
  | returning=>exact run_results (k:=fun v=>R (.returned v) w) ht h
  | panicking ch=>exact h
 | d::ds,u,w,h=>by
  obtain ⟨hu,h⟩:=h
  refine ⟨hu,?_⟩
  rcases h with ⟨r,h1,h2,h3⟩ | ⟨fv,cap,f,args,h1,h2,h3⟩
  · exact .inl ⟨r,_,h1,run_takeDeferred h2,leaves_of_outM ht hl ds u _ h3⟩
  · refine .inr ⟨fun hd=>by simp [Fence.wide] at hd,fv,cap,f,args,h1,h2,fun _ _=>trivial,CallsDIn.mono h3 ?_⟩
    intro e u' w' hh
    cases e with
    | returned v=>exact leaves_of_outM ht hl ds _ _ hh
    | panicked ch=>exact leaves_of_outM ht hl ds _ _ hh
    | outgrown=>exact hh.elim
theorem outQ_of {ds:List Deferred} {l:List (Option TypeId×Value)} {ch:List PanicEntry} {w:World} (hl:fn.results.toList.map (resOf ρ)=l) (h:outQ P ds l R ch w):bodyQPM P fn R ch ρ ds w:=fun _ ht=>leaves_of_outM ht hl ds _ w h
theorem outQ_ofD {S:List Nat} {ds:List Deferred} {l:List (Option TypeId×Value)} {ch:List PanicEntry} {w:World} (hS:fn.results.toList.all (fun r=>!S.contains (resTmp r))=true) (hl:fn.results.toList.map (resOf ρ)=l) (h:outQ P ds l R ch w):∀ ρ',Fr S ρ ρ'→bodyQPM P fn R ch ρ' ds w:=by
 intro ρ' hf
 refine outQ_of (ρ:=ρ') ?_ h
 rw [← hl]
 apply List.map_congr_left
 intro r hr
 have:=List.all_eq_true.1 hS r hr
 simp only [Bool.not_eq_true'] at this
 have hn:resTmp r ∉ S:=fun hm=>by rw [List.contains_iff_mem.2 hm] at this;cases this
 have:=hf _ hn
 cases r<;>simp only [resOf,resTmp] at * <;> rw [this]
theorem bodyM_ret {ds:List Deferred} {l:List (Option TypeId×Value)} {w:World} (hl:fn.results.toList.map (resOf ρ)=l) (h:outX P ds l R w):bodyKM P fn R .ret ρ ds w:=fun _ ht=>leaves_of_outM ht hl ds _ w h
theorem bodyM_normal {ds:List Deferred} {w:World} (h:bodyKM P fn R .ret ρ ds w):bodyKM P fn R .normal ρ ds w:=h
end
def MarkAt (B:Nat) (w:World):Prop:=w.heap[B]?=some (.deferred (some []))
def RecAt (rec:Loop) (B:Nat) (w:World):Prop:=MarkAt B w∧∃ st p,w.heap[B+1]?=some (.loop { rec with state:=st,pending:=p })
def Busied (l:Nat) (w w':World):Prop:=∃ r,w.heap[l]?=some (.loop r)∧w'=w.putObj l (.loop { r with state := .busy })
def ReadyAt (l:Nat) (w:World):Prop:=∃ r,w.heap[l]?=some (.loop r)∧r.state = .ready
def busyK (l:Nat) (w:World) (k:World→Prop):Prop:=ReadyAt l w∧∀ w',Busied l w w'→k w'
theorem MarkAt.ext {B:Nat} {w w':World} (h:MarkAt B w) (e:Ext w w'):MarkAt B w':=e.obj h
theorem MarkAt.keeps {B:Nat} {w w':World} (h:MarkAt B w) (e:KeepsOthers w w'):MarkAt B w':=e.same _ _ h rfl
theorem MarkAt.setCell {B:Nat} {w:World} (h:MarkAt B w) (a:Addr) (v:Value):MarkAt B (w.setCell a v):=h.keeps (KeepsOthers.setCell w a v)
theorem MarkAt.alloc {B:Nat} {w:World} (h:MarkAt B w) (o:Obj):MarkAt B (w.alloc o):=h.ext ((Ext.refl w).alloc o)
theorem RecAt.keeps {rec:Loop} {B:Nat} {w w':World} (h:RecAt rec B w) (e:KeepsOthers w w'):RecAt rec B w':=⟨h.1.keeps e,let ⟨st,p,hp⟩:=h.2; ⟨st,p,e.same _ _ hp rfl⟩⟩
theorem RecAt.ext {rec:Loop} {B:Nat} {w w':World} (h:RecAt rec B w) (e:Ext w w'):RecAt rec B w':=⟨h.1.ext e,let ⟨st,p,hp⟩:=h.2; ⟨st,p,e.obj hp⟩⟩
theorem RecAt.setCell {rec:Loop} {B:Nat} {w:World} (h:RecAt rec B w) (a:Addr) (v:Value):RecAt rec B (w.setCell a v):=h.keeps (KeepsOthers.setCell w a v)
theorem RecAt.alloc {rec:Loop} {B:Nat} {w:World} (h:RecAt rec B w) (o:Obj):RecAt rec B (w.alloc o):=h.ext ((Ext.refl w).alloc o)
theorem RecAt.drew {rec:Loop} {B:Nat} {w:World} (h:RecAt rec B w):RecAt rec B w.drew:=h
structure Lasts (B:Nat) (I:World→Prop):Prop where
 ext:∀ w w',I w→Ext w w'→I w'
 loop:∀ w l r r',B≤l→I w→w.heap[l]?=some (.loop r)→I (w.putObj l (.loop r'))
theorem cell_putLoop {w:World} {l:Nat} {r r':Loop} (h:w.heap[l]?=some (.loop r)) (a:Addr):(w.putObj l (.loop r')).cell? a=w.cell? a:=by
 unfold World.cell?
 by_cases e:a.block=l
 · rw [e,World.putObj_heap_same (Qk h).1,h]
 · rw [World.putObj_heap_other e]
theorem Ext.putLoop {a w:World} (h:Ext a w) {l:Nat} (hl:a.heap.size≤l) (o:Obj):Ext a (w.putObj l o) :=
 ⟨h.os,h.tape,h.output,by simpa using h.size,fun k hk=>(World.putObj_heap_other Qx).trans (h.block k hk)⟩
theorem Lasts.and {B:Nat} {I J:World→Prop} (h:Lasts B I) (k:Lasts B J):Lasts B (fun w=>I w∧J w):=⟨fun w w' hh e=>⟨h.ext _ _ hh.1 e,k.ext _ _ hh.2 e⟩,fun w l r r' hb hh hl=>⟨h.loop _ _ _ _ hb hh.1 hl,k.loop _ _ _ _ hb hh.2 hl⟩⟩
theorem Lasts.ex {B:Nat} {α:Sort _} {I:α→World→Prop} (h:∀ x,Lasts B (I x)):Lasts B (fun w=>∃ x,I x w):=⟨fun w w' ⟨x,hx⟩ e=>⟨x,(h x).ext _ _ hx e⟩,fun w l r r' hb ⟨x,hx⟩ hl=>⟨x,(h x).loop _ _ _ _ hb hx hl⟩⟩
theorem Lasts.const (B:Nat) (p:Prop):Lasts B (fun _=>p):=⟨fun _ _ h _=>h,fun _ _ _ _ _ h _=>h⟩
theorem Lasts.from {B:Nat} {w0:World} (hb:w0.heap.size≤B):Lasts B (Ext w0):=⟨fun _ _ h e=>h.trans e,fun w l r r' hl h _=>Ext.putLoop h Qx _⟩
theorem Lasts.has (B:Nat) {b:Nat} {o:Obj} (ho:∀ r,o ≠ .loop r):Lasts B (fun w=>w.heap[b]?=some o):=⟨fun _ _ h e=>e.obj h,fun w l r r' _ h hl=>by
 rw [World.putObj_heap_other ?_];exact h
 rintro rfl
 rw [h] at hl;injection hl with hl;exact ho _ hl⟩
theorem Lasts.cell (B:Nat) {a:Addr} {v:Value}:Lasts B (fun w=>w.cell? a=some v):=⟨fun _ _ h e=>e.cell h,fun w l r r' _ h hl=>by rw [cell_putLoop hl];exact h⟩
theorem SliceOf.putLoop {α:Type} {n:Nat} {E:World→List Value→α→Prop} {v:Value} {L:List α} {w:World} {l:Nat} {r r':Loop} (hE:∀ cs x,E w cs x→E (w.putObj l (.loop r')) cs x) (hl:w.heap[l]?=some (.loop r)) (h:SliceOf w n E v L):SliceOf (w.putObj l (.loop r')) n E v L:=by
 obtain ⟨A,c,h1,h2,h3,h4⟩:=h
 refine ⟨A,c,h1,h2,h3,fun hne=>?_⟩
 obtain ⟨b,o,h5,h6⟩:=h4 hne
 exact ⟨b,o,h5,fun k x hx=>by obtain ⟨cs,a1,a2,a3⟩:=h6 k x hx;exact ⟨cs,a1,fun j u hu=>by rw [cell_putLoop hl];exact a2 j u hu,hE _ _ a3⟩⟩
def SeqIt (P:Program) (f:FuncId) (caps:Array Value) (n:Nat) (xs:Nat→Value) (FP:World→Prop):Prop :=
 ∀ (yv:Value) (J:Nat→World→Prop) (Jx:World→Prop) (Jp:List PanicEntry→World→Prop) (w:World),(∀ k w,J k w→FP w)→(∀ k w w',J k w→Ext w w'→J k w')→(∀ w w',Jx w→Ext w w'→Jx w') →
  (∀ k,k < n→∀ w,J k w→callV P yv #[xs k] Jp w (fun v w'=>(v = .bool true∧J (k+1) w')∨(v = .bool false∧Jx w')))→J 0 w →
  Calls P f (#[yv]++caps) w (fun e w'=>match e with
   | .returned _=>J n w'∨Jx w'
   | .panicked ch=>Jp ch w'
   | .outgrown=>False)
def nthK:List (List Deferred→World→Prop)→Nat→List Deferred→World→Prop
 | [],_,_,_=>False
 | k::_,0,ds,w=>k ds w
 | _::l,c+1,ds,w=>nthK l c ds w
def rangeN (P:Program) (fv:Value) (ds:List Deferred) (body:Nat→Value→World→(World→Prop)→(Nat→World→Prop)→(List PanicEntry→World→Prop)→Prop) (QP:List PanicEntry→List Deferred→World→Prop) (w:World)
 (k:List Deferred→World→Prop) (kx:List (List Deferred→World→Prop)):Prop :=
 ∃ (f:FuncId) (caps:Array Value) (n:Nat) (xs:Nat→Value) (FP:World→Prop) (I:Nat→World→Prop) (Ix:Nat→World→Prop) (Ip:List PanicEntry→World→Prop),
  fv = .func (.func f) #[] caps∧Callable P f∧SeqIt P f caps n xs FP∧I 0 w∧(∀ k w,I k w→FP w)∧(∀ k,Lasts w.heap.size (I k))∧(∀ c,Lasts w.heap.size (Ix c)) ∧
  (∀ (rec:Loop) (j:Nat) (w':World),j < n→I j w'→RecAt rec w.heap.size w'→ReadyAt (w.heap.size+1) w' →
   body (w.heap.size+1) (xs j) w' (fun w''=>RecAt rec w.heap.size w''∧I (j+1) w'') (fun c w''=>RecAt rec w.heap.size w''∧Ix c w'') (fun ch w''=>RecAt rec w.heap.size w''∧Ip ch w'')) ∧
  (∀ w',I n w'→MarkAt w.heap.size w'→k (mark w.heap.size::ds) w') ∧
  (∀ c w',Ix c w'→MarkAt w.heap.size w'→nthK kx c (mark w.heap.size::ds) w') ∧
  (∀ ch w',Ip ch w'→MarkAt w.heap.size w'→QP ch (mark w.heap.size::ds) w')
def roundK (js:List Code) (K:World→Prop) (X:Nat→World→Prop):Sw.K:=fun e _ ds w=>match e with
 | .normal=>ds=[]∧K w
 | .ret=>ds=[]∧∃ c,js[c]?=some .ret∧X c w
 | .exit id=>ds=[]∧∃ c,js[c]?=some (.exit id)∧X c w
 | _=>False
def roundQP (Q:List PanicEntry→World→Prop):KP:=fun ch _ ds w=>ds=[]∧Q ch w
section
variable {P:Program} {N:Nat}
theorem RecAt.putBusy {rec:Loop} {B l:Nat} {w:World} (h:RecAt rec B w) (hl:l=B+1) (st:LoopState) (p:Option Code):RecAt rec B (w.putObj l (.loop { rec with state:=st,pending:=p })):=by
 obtain ⟨hm,st',p',h2⟩:=h
 subst hl
 refine ⟨?_,st,p,World.putObj_heap_same (Qk h2).1⟩
 unfold MarkAt
 rw [World.putObj_heap_other Qx];exact hm
theorem RecAt.busied {rec:Loop} {B:Nat} {w w':World} (h:RecAt rec B w) (hb:Busied (B+1) w w'):RecAt rec B w':=by
 obtain ⟨r,hr,rfl⟩:=hb
 obtain ⟨_,st,p,h2⟩:=id h
 rw [h2] at hr
 injection hr with hr
 injection hr with hr
 subst hr
 exact h.putBusy rfl .busy p
theorem Lasts.busied {B l:Nat} {I:World→Prop} {w w':World} (h:Lasts B I) (hb:Busied l w w') (hl:B≤l) (hI:I w):I w':=by
 obtain ⟨r,hr,rfl⟩:=hb
 exact h.loop _ _ _ _ hl hI hr
theorem sim_range {g:Operand} {p:Nat} {asg body:Code} {Q:K} {QP:KP} {ρ:Env} {ds:List Deferred} {w:World} {fv:Value} {nbody:Nat→Value→World→(World→Prop)→(Nat→World→Prop)→(List PanicEntry→World→Prop)→Prop} {QPn:List PanicEntry→List Deferred→World→Prop}
 {k:List Deferred→World→Prop} {kx:List (List Deferred→World→Prop)} (js:List Code) (h:rangeN P fv ds nbody QPn w k kx) (hg:ev ρ g=fv)
 (hbody:∀ l x w K X QPr,nbody l x w K X QPr→den P N (some l) asg (thenK (fun ρ' ds' w'=>ds'=[]∧busyK l w' (fun w''=>den P N (some l) body (roundK js K X) (roundQP QPr) ρ' [] w'')) (fun _ _ _ _=>False)) (fun _ _ _ _=>False) (put N ρ (some p) x) [] w)
 (hk:∀ ds w,k ds w→Q .normal ρ ds w) (hx:∀ c ds w,nthK kx c ds w→∃ code,js[c]?=some code∧((code = .ret∧Q .ret ρ ds w)∨(∃ id,code = .exit id∧Q (.exit id) ρ ds w))) (hp:∀ ch ds w,QPn ch ds w→QP ch ρ ds w) :
 den P N none (.rangeFunc g #[p] asg body) Q QP ρ ds w:=by
 intro a ha hds
 subst hds
 obtain ⟨f,caps,n,xs,FP,I,Ix,Ip,hfv,hcal,hseq,h0,hFP,hL,hLx,hround,hend,hjump,hpan⟩:=h
 refine wpV_rangeFunc fun fn hfn=>?_
 obtain ⟨rec,hrec⟩:∃ rec:Loop,rec={ state := .ready,pending:=none,fn,tmps:=a.tmps,params := #[p],assign:=asg,body,defers:=w.heap.size }:=⟨_,rfl⟩
 obtain ⟨W1,hW1⟩:∃ W1,(w.alloc (.deferred (some []))).alloc (.loop rec)=W1:=⟨_,rfl⟩
 have hE1:Ext w W1:=by rw [← hW1];exact ((Ext.refl w).alloc _).alloc _
 have hL1:W1.heap[w.heap.size+1]?=some (.loop rec):=by
  rw [← hW1];have:=World.alloc_heap_new (w.alloc (.deferred (some []))) (.loop rec);rwa [World.size_alloc] at this
 have hK1:MarkAt w.heap.size W1:=by
  rw [← hW1];exact MarkAt.alloc (World.alloc_heap_new w _) _
 have hev:a.eval g=fv:=by rw [ha.eval];exact hg
 refine ⟨w.heap.size+1,[mark w.heap.size],W1,{ target := .fn (.func f) caps,args := #[.func (.yield (w.heap.size+1)) #[] #[]] },W1,f,#[.func (.yield (w.heap.size+1)) #[] #[]]++caps,W1,?_,?_,?_,?_⟩
 · rw [← hW1,hrec];exact run_enterLoop_outer _ _ _ _ _
 · simp only [resolve,hev,hfv]
   simp [go_sem]
 · simp only [invoke]
   exact callFunc_run hcal _ _
 · refine Calls.mono (hseq (.func (.yield (w.heap.size+1)) #[] #[]) (fun j w'=>I j w'∧MarkAt w.heap.size w'∧∃ p,w'.heap[w.heap.size+1]?=some (.loop { rec with state := .ready,pending:=p })∧p=none)
    (fun w'=>MarkAt w.heap.size w'∧∃ c code,Ix c w'∧js[c]?=some code∧w'.heap[w.heap.size+1]?=some (.loop { rec with state := .done,pending:=some code }))
    (fun ch w'=>MarkAt w.heap.size w'∧Ip ch w') W1 (fun j w' hj=>hFP j w' hj.1) (fun j w1 w2 hj he=>⟨(hL j).ext _ _ hj.1 he,hj.2.1.ext he,hj.2.2.elim fun q hq=>⟨q,he.obj hq.1,hq.2⟩⟩)
    (fun w1 w2 hj he=>⟨hj.1.ext he,hj.2.elim fun c hc=>hc.elim fun code hh=>⟨c,code,(hLx c).ext _ _ hh.1 he,hh.2.1,he.obj hh.2.2⟩⟩) ?_ ⟨(hL 0).ext _ _ h0 hE1,hK1,none,by rw [hL1,hrec],rfl⟩) ?_
   · rintro j hj w' ⟨hi,hm,q,hl,rfl⟩
     have hlt:w.heap.size+1 < w'.heap.size:=(Qk hl).1
     have hy:=run_yield (P:=P) (args := #[xs j]) hl (by rw [hrec];rfl)
     show onNext P _ _ _ _
     have hcs:callS (.func (.yield (w.heap.size+1)) #[] #[]) #[xs j]=Instr.yield (w.heap.size+1) #[xs j]:=by
      simp [callS,Deferred.ofValue,invoke,go_sem,bind,pure,Sem.bind]
     rw [hcs,hy]
     have key:∀ R,wpV (some (w.heap.size+1)) P asg (Exit.then (fun a₁ w₁=>∃ w₂,(Instr.beginRound (w.heap.size+1)).run P w₁ = .ok () w₂∧wpV (some (w.heap.size+1)) P body (endV P (w.heap.size+1) R) a₁ w₂) (fun _ _ _=>False)) { tmps:=((#[p].zip #[xs j]).foldl (fun tmps (t,a)=>tmps.setIfInBounds t a) a.tmps),defers:=[] } w' →
      RoundV P (w.heap.size+1) rec.fn ((rec.params.zip #[xs j]).foldl (fun tmps (t,a)=>tmps.setIfInBounds t a) rec.tmps) rec.assign rec.body w' R:=by
      intro R h;rw [hrec];exact roundV_of_wpV hfn h
     refine key _ ?_
     have hb:=hbody _ _ _ _ _ _ (hround rec j w' hj hi ⟨hm,_,_,hl⟩ ⟨_,hl,rfl⟩)
     have hagr:Agrees N ({ tmps:=((#[p].zip #[xs j]).foldl (fun tmps (t,a)=>tmps.setIfInBounds t a) a.tmps),defers:=[] }:Act) (put N ρ (some p) (xs j)):=by
      have:=(Agrees.defers ha []).put (some p) (xs j)
      simpa [Act.put] using this
     refine wpV_mono (den_sound asg _ _ _ _ _ hagr hb) ?_
     intro e a1 w1 hl1
     cases e with
     | panic ch=>obtain ⟨_,_,hf⟩:=hl1;exact hf.elim
     | outgrown=>exact hl1
     | exit id=>obtain ⟨_,_,_,hf⟩:=hl1;exact hf.elim
     | goto l=>obtain ⟨_,_,_,hf⟩:=hl1;exact hf.elim
     | ret=>obtain ⟨_,_,_,hf⟩:=hl1;exact hf.elim
     | normal =>
      obtain ⟨ρ1,ha1,_,hd1,hbz⟩:=hl1
      obtain ⟨⟨r,hr1,hr2⟩,hbz⟩:=hbz
      refine ⟨_,run_beginRound hr1 hr2,?_⟩
      rw [show a1={ a1 with defers:=[] } by rw [← hd1]]
      refine wpV_mono (den_sound body _ _ _ _ _ (Agrees.defers ha1 []) (hbz _ ⟨_,hr1,rfl⟩)) ?_
      have fin:∀ (jump:Option Code) (w2:World),RecAt rec w.heap.size w2→(Instr.endRound (w.heap.size+1) jump).run P w2 = .ok (.bool jump.isNone) (w2.putObj (w.heap.size+1) (.loop { rec with state:=if jump.isNone then .ready else .done,pending:=jump })) ∧
       (w2.putObj (w.heap.size+1) (.loop { rec with state:=if jump.isNone then .ready else .done,pending:=jump })).heap[w.heap.size+1]?=some (.loop { rec with state:=if jump.isNone then .ready else .done,pending:=jump }) ∧
       MarkAt w.heap.size (w2.putObj (w.heap.size+1) (.loop { rec with state:=if jump.isNone then .ready else .done,pending:=jump })):=by
       rintro jump w2 ⟨hm2,st,q,hq⟩
       refine ⟨by have:=run_endRound (P:=P) jump hq;exact this,World.putObj_heap_same (Qk hq).1,?_⟩
       unfold MarkAt
       rw [World.putObj_heap_other Qx];exact hm2
      intro e a2 w2 hl2
      cases e with
      | normal =>
       obtain ⟨_,_,_,_,hrec2,hi2⟩:=hl2
       obtain ⟨f1,f2,f3⟩:=fin none w2 hrec2
       obtain ⟨_,st,q,hq⟩:=hrec2
       exact ⟨_,_,f1,.inl ⟨rfl,(hL _).loop _ _ _ _ (Nat.le_succ _) hi2 hq,f3,none,f2,rfl⟩⟩
      | ret =>
       obtain ⟨_,_,_,_,c,hc,hrec2,hi2⟩:=hl2
       obtain ⟨f1,f2,f3⟩:=fin (some .ret) w2 hrec2
       obtain ⟨_,st,q,hq⟩:=hrec2
       exact ⟨_,_,f1,.inr ⟨rfl,f3,c,_,(hLx _).loop _ _ _ _ (Nat.le_succ _) hi2 hq,hc,f2⟩⟩
      | exit id =>
       obtain ⟨_,_,_,_,c,hc,hrec2,hi2⟩:=hl2
       obtain ⟨f1,f2,f3⟩:=fin (some (.exit id)) w2 hrec2
       obtain ⟨_,st,q,hq⟩:=hrec2
       exact ⟨_,_,f1,.inr ⟨rfl,f3,c,_,(hLx _).loop _ _ _ _ (Nat.le_succ _) hi2 hq,hc,f2⟩⟩
      | panic ch =>
       obtain ⟨_,_,hd2,hrec2,hi2⟩:=hl2
       exact ⟨hd2,hrec2.1,hi2⟩
      | goto l=>obtain ⟨_,_,_,hf⟩:=hl2;exact hf.elim
      | outgrown=>exact hl2
   · have hagr:Agrees N ({ a with defers:=[mark w.heap.size]++a.defers }:Act) ρ:=ha
     have exh:∀ (st:LoopState) (q:Option Code) (w':World),w'.heap[w.heap.size+1]?=some (.loop { rec with state:=st,pending:=q })→st ≠ .busy→MarkAt w.heap.size w' →
      (Instr.endLoop (w.heap.size+1)).run P w' = .ok q (w'.putObj (w.heap.size+1) (.loop { rec with state := .exhausted,pending:=q }))∧MarkAt w.heap.size (w'.putObj (w.heap.size+1) (.loop { rec with state := .exhausted,pending:=q })):=by
      intro st q w' hq hne hm
      refine ⟨by have:=run_endLoop (P:=P) hq hne;exact this,?_⟩
      unfold MarkAt
      rw [World.putObj_heap_other Qx];exact hm
     rintro e w' he
     cases e with
     | returned v =>
      rcases he with ⟨hi,hm,q,hl,rfl⟩ | ⟨hm,c,code,hi,hc,hl⟩
      · obtain ⟨e1,e2⟩:=exh _ _ w' hl (by simp) hm
        exact ⟨none,_,e1,hagr,hk _ _ (hend _ ((hL _).loop _ _ _ _ (Nat.le_succ _) hi hl) e2)⟩
      · obtain ⟨e1,e2⟩:=exh _ _ w' hl (by simp) hm
        refine ⟨some code,_,e1,?_⟩
        obtain ⟨code',hc',hden⟩:=hx c _ _ (hjump c _ ((hLx _).loop _ _ _ _ (Nat.le_succ _) hi hl) e2)
        rw [hc] at hc';cases hc'
        rcases hden with ⟨rfl,hq⟩ | ⟨id,rfl,hq⟩
        · exact wpV_ret ⟨hagr,hq⟩
        · exact wpV_exit ⟨hagr,hq⟩
     | panicked ch=>exact ⟨hagr,hp _ _ _ (hpan ch _ he.2 he.1)⟩
     | outgrown=>exact he.elim
theorem sim_loopM {ro:Option Nat} {c:Code} {Q:K} {QP:KP} {ρ:Env} {ds:List Deferred} {w:World} (W:List Nat) (hW:((writes c).all (W.contains ·)&&W.all ((writes c).contains ·))=true) (I:Env→List Deferred→World→Prop) (μ:Env→World→Nat) (h0:I ρ ds w)
 (hr:∀ σ ds w,I σ ds w→den P N ro c (thenK (fun ρ' ds' w'=>I ρ' ds' w'∧μ ρ' w' < μ σ w) Q) QP (mix W ρ σ) ds w):den P N ro (.loop c) Q QP ρ ds w :=
 ⟨I,μ,h0,fun σ ds' w hI=>by rw [← mix_congr hW];exact hr σ ds' w hI⟩
def defK (P:Program) (fv:Value) (args:Array Value) (ds:List Deferred) (w:World) (k:List Deferred→World→Prop):Prop:=∃ d w',(Deferred.ofValue fv args).run P w = .ok d w'∧k (d::ds) w'
theorem sim_defer {QP:KP} {T:Env→List Deferred→World→Prop} {rest:List Oper} {ρ:Env} {ds:List Deferred} {w:World} {fo:Operand} {l:List Operand} {ats:Array TypeId} {ty:TypeId} {dst:Option Nat} {pos:String} {after:Array Edge} {g:Option (Nat×Bool)} {fv:Value} {args:List Value} {k:List Deferred→World→Prop}
 (h:defK P fv args.toArray ds w k) (h1:ev ρ fo=fv) (h2:l.map (ev ρ)=args) (hk:∀ ds w',k ds w'→denSeq P N none QP T rest (put N ρ dst undef) ds w'):denSeq P N none QP T (⟨dst,.defer ⟨.value fo,l.toArray,ats⟩,ty,pos,after,g⟩::rest) ρ ds w:=by
 subst h1 h2
 obtain ⟨d,w',hd,h⟩:=h
 show opE P none QP _ ρ ds w _ _
 unfold opE
 have he:(execOp (ev ρ) ⟨dst,.defer ⟨.value fo,l.toArray,ats⟩,ty,pos,after,g⟩).run P w = .ok (.defer d) w':=by
  simp only [execOp,resolve,List.map_toArray,Sem.run_bind,hd,Result.andThen]
  rfl
 show onNext P _ _ _ _
 rw [he]
 exact hk _ _ h
end
def loopM1 (body:List Deferred→Value→World→(List Deferred→Value→World→Prop)→Prop) (ds:List Deferred) (a0:Value) (w:World):Prop:=∃ (I:List Deferred→Value→World→Prop) (μ:Value→World→Nat),I ds a0 w∧∀ ds a0 w,I ds a0 w→body ds a0 w (fun ds' a0' w'=>I ds' a0' w'∧μ a0' w' < μ a0 w)
theorem loopM1_intro {body:List Deferred→Value→World→(List Deferred→Value→World→Prop)→Prop} {ds:List Deferred} {a0:Value} {w:World} (I:List Deferred→Value→World→Prop) (μ:Value→World→Nat) (h0:I ds a0 w) (hr:∀ ds a0 w,I ds a0 w→body ds a0 w (fun ds' a0' w'=>I ds' a0' w'∧μ a0' w' < μ a0 w)):loopM1 body ds a0 w:=⟨I,μ,h0,hr⟩
theorem outM_mark {P:Program} {B:Nat} {ds:List Deferred} {u:FrameMode} {w:World} {k:FrameMode→World→Prop} (hu:u ≠ .run) (hm:MarkAt B w) (h:outM P ds u (w.putObj B (.deferred none)) k):outM P (mark B::ds) u w k:=⟨hu,.inl ⟨B,rfl,hm,h⟩⟩
theorem cell_putMark {w:World} {B:Nat} {o:Option (List Deferred)} (h:MarkAt B w) (a:Addr):(w.putObj B (.deferred o)).cell? a=w.cell? a:=by
 unfold World.cell?
 by_cases e:a.block=B
 · rw [e,World.putObj_heap_same (Qk h).1,h]
 · rw [World.putObj_heap_other e]
theorem outX_nil {P:Program} {l:List (Option TypeId×Value)} {R:RT} {w:World}:outX P [] l R w=retV P l w (fun v=>R (.returned v) w):=rfl
theorem outQ_nil {P:Program} {l:List (Option TypeId×Value)} {R:RT} {ch:List PanicEntry} {w:World}:outQ P [] l R ch w=R (.panicked ch) w:=rfl
theorem outX_mark {P:Program} {B:Nat} {ds:List Deferred} {l:List (Option TypeId×Value)} {R:RT} {w:World} (hm:MarkAt B w) (h:outX P ds l R (w.putObj B (.deferred none))):outX P (mark B::ds) l R w:=outM_mark (by simp) hm h
theorem outQ_mark {P:Program} {B:Nat} {ds:List Deferred} {l:List (Option TypeId×Value)} {R:RT} {ch:List PanicEntry} {w:World} (hm:MarkAt B w) (h:outQ P ds l R ch (w.putObj B (.deferred none))):outQ P (mark B::ds) l R ch w:=outM_mark (by simp) hm h
end Go.Sw
namespace Go.Sw
def recM:FrameMode→Value×FrameMode
 | .panicking ({ v,recovered:=false,goexit:=false }::older)=>(v,.panicking ({ v,recovered:=true }::older))
 | u=>(.nilIface,u)
theorem recoverD_recM (c:Frame) (cs:List Frame):(match recoverD (c::cs) with | some (v,cs')=>(v,cs') | none=>(.nilIface,c::cs))=((recM c.mode).1,{ c with mode:=(recM c.mode).2 }::cs):=by
 cases c with
 | mk fn tmps todo defers mode kind ro =>
  cases mode with
  | run=>rfl
  | returning=>rfl
  | panicking chain =>
   cases chain with
   | nil=>rfl
   | cons e older =>
    cases e with
    | mk v r g=>cases r<;>cases g<;>rfl
theorem calls_of_denR {P:Program} {f:FuncId} {fn:Func} {id:Nat} {o0:Oper} {l:List Oper} {c2:Code} {d:Nat} {ats:Array TypeId} {args:List Value} {w:World} {u:FrameMode} {R:Ending→FrameMode→World→Prop}
 (hf:P.funcs[f]?=some fn) (hb:fn.body=some (.seq (.region id (o0::l).toArray false) c2)) (hn:args.length≤fn.ntmps) (hg0:o0.guard=none) (hu:unguarded l=true) (ho:o0.op = .call ⟨.builtin .recover,#[],ats⟩) (hd:o0.dst=some d)
 (h:denSeq P fn.ntmps none (bodyQP (fun e w=>R e (recM u).2 w)) (fun ρ ds w=>den P fn.ntmps none c2 (bodyK P fn (fun e w=>R e (recM u).2 w)) (bodyQP (fun e w=>R e (recM u).2 w)) ρ ds w) l (put fn.ntmps (env0 args) (some d) (recM u).1) [] w) :
 CallsDIn Fence.wide 0 P f args.toArray u w R:=by
 refine ⟨trivial,fun c cs hmode _=>?_⟩
 subst hmode
 let b:Frame:={ (default:Frame) with fn:=f,kind := .deferred,roundOf:=none }
 have henter:Frame.enter P f args.toArray .deferred=b.atR { tmps:=args.toArray++Array.replicate (fn.ntmps - args.toArray.size) undef,defers:=[] } [.code (.seq (.region id (o0::l).toArray false) c2)]:=by simp [Frame.enter,Frame.atR,hf,hb,b]
 have hag:=(agrees0 fn.ntmps args hn).put (some d) (recM c.mode).1
 have hsz:(List.range (o0::l).toArray.size)=0::List.range' 1 l.length:=by simp [List.range_eq_range',List.range'_succ]
 have s1:Steps P (lone (Frame.enter P f args.toArray .deferred) (c::cs) w) (lone (b.atR ({ tmps:=args.toArray++Array.replicate (fn.ntmps - args.toArray.size) undef,defers:=[] }:Act) (.inRegion (o0::l).toArray (0::List.range' 1 l.length)::[.code c2])) (c::cs) w):=by
  rw [henter,← hsz]
  exact .head stepR_seq (.one stepR_region)
 have s2:Steps P (lone (b.atR ({ tmps:=args.toArray++Array.replicate (fn.ntmps - args.toArray.size) undef,defers:=[] }:Act) (.inRegion (o0::l).toArray (0::List.range' 1 l.length)::[.code c2])) (c::cs) w)
  (lone (b.atR (({ tmps:=args.toArray++Array.replicate (fn.ntmps - args.toArray.size) undef,defers:=[] }:Act).put (some d) (recM c.mode).1) (.inRegion (o0::l).toArray (List.range' 1 l.length)::[.code c2])) ({ c with mode:=(recM c.mode).2 }::cs) w):=by
  refine .one (step_lone_go ?_)
  have h0:(o0::l).toArray[0]?=some o0:=by simp
  have hw:Region.wanted o0 (yielded (o0::l).toArray ({ tmps:=args.toArray++Array.replicate (fn.ntmps - args.toArray.size) undef,defers:=[] }:Act).tmps)=true:=by simp [Region.wanted,hg0]
  have hg:=stepGR_op (P:=P) (b:=b) (a:=({ tmps:=args.toArray++Array.replicate (fn.ntmps - args.toArray.size) undef,defers:=[] }:Act)) (k:=[.code c2]) (cs:=c::cs) (w:=w) (rest:=List.range' 1 l.length) h0 hw
  rw [hg]
  have hfin:∀ v,(b.atR ({ tmps:=args.toArray++Array.replicate (fn.ntmps - args.toArray.size) undef,defers:=[] }:Act) (.inRegion (o0::l).toArray (0::List.range' 1 l.length)::[.code c2])).finish v=b.atR (({ tmps:=args.toArray++Array.replicate (fn.ntmps - args.toArray.size) undef,defers:=[] }:Act).put o0.dst v) (.inRegion (o0::l).toArray (List.range' 1 l.length)::[.code c2]):=by
   intro v;rw [Frame.finish_atR,h0];rfl
  have hr:Sem.run P (o0.semAt b.roundOf ({ tmps:=args.toArray++Array.replicate (fn.ntmps - args.toArray.size) undef,defers:=[] }:Act).eval) w = .ok .recover w:=by
   show Sem.run P (o0.semAt none _) w=_
   unfold Oper.semAt
   simp only [ho,execOp,resolve,Sem.run_bind,Array.map_empty,Sem.run_pure,Result.andThen,invoke,builtin]
  have hro0:b.roundOf=none:=rfl
  have hrec:=recoverD_recM c cs
  have htr:=tryRecover_deferred (fr:=b.atR ({ tmps:=args.toArray++Array.replicate (fn.ntmps - args.toArray.size) undef,defers:=[] }:Act) (.inRegion (o0::l).toArray (0::List.range' 1 l.length)::[.code c2])) rfl (c::cs)
  rw [hd] at hfin
  rw [← hfin]
  simp only [stepG.apply,Sem.runT_eq,hr,GStep.bare_after]
  cases hrd:recoverD (c::cs) with
  | some x =>
   obtain ⟨v,cs'⟩:=x
   rw [hrd] at hrec htr
   simp only [Prod.mk.injEq] at hrec
   obtain ⟨rfl,rfl⟩:=hrec
   simp only [Frame.atR,hro0] at htr ⊢
   simp only [ite_true,htr]
   rfl
  | none =>
   rw [hrd] at hrec htr
   simp only [Prod.mk.injEq] at hrec
   obtain ⟨h1,h2⟩:=hrec
   rw [← h1,← h2]
   simp only [Frame.atR,hro0] at htr ⊢
   simp only [ite_true,htr]
   rfl
 have hro:b.roundOf=none:=rfl
 have hden:=denOps_seg (ro:=none) (P:=P) (ops:=(o0::l).toArray) (Q:=thenK (fun ρ ds w=>den P fn.ntmps none c2 (bodyK P fn (fun e w=>R e (recM c.mode).2 w)) (bodyQP (fun e w=>R e (recM c.mode).2 w)) ρ ds w) (fun _ _ _ _=>False)) (tail:=[]) l none _ _ _ hu (fun _=>rfl) h
 rw [List.append_nil] at hden
 have hops:=denOps_sound (P:=P) (ro:=none) l 1 (by intro j;simp [Nat.add_comm 1 j]) none _ _ w hag (fun g hg=>by cases hg) hden
 obtain ⟨e,a',w',hq,harr⟩:=opsV_sound _ _ _ hops b [.code c2] ({ c with mode:=(recM c.mode).2 }::cs) hro
 have s12:=Steps.trans s1 s2
 have fin:∀ (e:Ending) (w':World) (fr:Frame),R e (recM c.mode).2 w'→Steps P (lone (Frame.enter P f args.toArray .deferred) (c::cs) w) (lone fr ({ c with mode:=(recM c.mode).2 }::cs) w')→fr.kind = .deferred→fr.fn=f→fr.going P w' e→e ≠ .outgrown→(∃ e u' w' fr,R e u' w' ∧
  ComesIn (Machine.fenced P Fence.wide) P (lone (Frame.enter P f args.toArray .deferred) (c::cs) w) (lone fr ({ c with mode:=u' }::cs) w') e∧fr.kind = .deferred∧fr.fn=f∧fr.going P w' e) :=
  fun e w' fr hR hs h1 h2 h3 hne=>⟨e,_,w',fr,hR,by cases e<;>first | exact stepsIn_wide.2 hs | exact absurd rfl hne,h1,h2,h3⟩
 have ends:∀ (e:Exit) (a':Act) (w':World),lift fn.ntmps (bodyK P fn (fun e w=>R e (recM c.mode).2 w)) (bodyQP (fun e w=>R e (recM c.mode).2 w)) e a' w'→Arr P (lone (Frame.enter P f args.toArray .deferred) (c::cs) w) b [] ({ c with mode:=(recM c.mode).2 }::cs) e a' w'→(∃ e u' w' fr,R e u' w' ∧
  ComesIn (Machine.fenced P Fence.wide) P (lone (Frame.enter P f args.toArray .deferred) (c::cs) w) (lone fr ({ c with mode:=u' }::cs) w') e∧fr.kind = .deferred∧fr.fn=f∧fr.going P w' e):=by
  intro e a' w' hq harr
  cases e with
  | normal =>
   obtain ⟨ρ,ha,hd',hr⟩:=hq
   obtain ⟨v,h1,h2⟩:=hr _ ha.2
   exact fin _ _ { b.atR a' [] with mode := .returning } h2 (Steps.trans harr (.one (stepR_end rfl))) rfl rfl ⟨rfl,hd',fn,hf,h1⟩ (by simp)
  | ret =>
   obtain ⟨ρ,ha,hd',hr⟩:=hq
   obtain ⟨v,h1,h2⟩:=hr _ ha.2
   obtain ⟨todo,hs⟩:=harr.1 rfl
   exact fin _ _ { b.atR a' todo with mode := .returning } h2 hs rfl rfl ⟨rfl,hd',fn,hf,h1⟩ (by simp)
  | panic ch =>
   obtain ⟨ρ,ha,hd',hr⟩:=hq
   obtain ⟨todo,hs⟩:=harr
   exact fin _ _ { b.atR a' todo with mode := .panicking ch } hr hs rfl rfl ⟨rfl,hd',fn,hf⟩ (by simp)
  | exit id=>obtain ⟨_,_,hq⟩:=hq;exact hq.elim
  | goto l=>exact harr.elim
  | outgrown=>exact hq.elim
 cases e with
 | normal =>
  obtain ⟨ρ1,ha1,_,hq1⟩:=hq
  obtain ⟨e2,a2,w2,hq2,harr2⟩:=den_sound c2 _ _ a' ρ1 w' ha1 hq1 b [] ({ c with mode:=(recM c.mode).2 }::cs) hro ⟨fn,hf⟩
  refine ends e2 a2 w2 ?_ (.from (Steps.trans s12 harr) harr2)
  cases e2 with
  | panic ch=>exact hq2
  | outgrown=>exact hq2
  | normal=>obtain ⟨ρ,ha,_,hq⟩:=hq2;exact ⟨ρ,ha,hq⟩
  | exit id=>obtain ⟨ρ,ha,_,hq⟩:=hq2;exact ⟨ρ,ha,hq⟩
  | ret=>obtain ⟨ρ,ha,_,hq⟩:=hq2;exact ⟨ρ,ha,hq⟩
  | goto l=>exact harr2.elim
 | panic ch=>exact ends (.panic ch) a' w' hq (.from s12 harr)
 | ret=>obtain ⟨_,_,_,hq⟩:=hq;exact hq.elim
 | exit id=>obtain ⟨_,_,_,hq⟩:=hq;exact hq.elim
 | goto l=>exact harr.elim
 | outgrown=>exact hq.elim
end Go.Sw
namespace Go.Sw
section
variable {α:Type}
def mkE (enc:α→Value) (x:α×Value×Nat):MapEntry:={ key:=enc x.1,val:=x.2.1,born:=x.2.2 }
structure MapB (w:World) (r:Nat) (enc:α→Value) (L:List (α×Value×Nat)) (c:Nat):Prop where
 obj:w.heap[r]?=some (.map (L.map (mkE enc)).toArray c)
 lt:∀ x∈L,x.2.2 < c
 births:L.Pairwise (fun x y=>x.2.2≠y.2.2)
 keys:L.Pairwise (fun x y=>x.1≠y.1)
section dec
variable [DecidableEq α]
def look (L:List (α×Value×Nat)) (k:α):Option Value:=(L.find? (fun x=>decide (x.1=k))).map (·.2.1)
def bornOf (L:List (α×Value×Nat)) (k:α):Nat:=((L.find? (fun x=>decide (x.1=k))).map (·.2.2)).getD 0
def hasK (L:List (α×Value×Nat)) (k:α):Bool:=L.any (fun x=>decide (x.1=k))
def updL (L:List (α×Value×Nat)) (k:α) (v:Value):List (α×Value×Nat):=L.map fun x=>if x.1=k then (x.1,v,x.2.2) else x
def putL (L:List (α×Value×Nat)) (c:Nat) (k:α) (v:Value):List (α×Value×Nat):=if hasK L k then updL L k v else L++[(k,v,c)]
def putC (L:List (α×Value×Nat)) (c:Nat) (k:α):Nat:=if hasK L k then c else c+1
def entL (L:List (α×Value×Nat)) (c:Nat) (k:α) (z:Value):List (α×Value×Nat):=if hasK L k then L else L++[(k,z,c)]
end dec
theorem MapB.ext {w w':World} {r:Nat} {enc:α→Value} {L:List (α×Value×Nat)} {c:Nat} (h:MapB w r enc L c) (e:Ext w w'):MapB w' r enc L c:=⟨e.obj h.obj,h.lt,h.births,h.keys⟩
theorem MapB.of_obj {w w':World} {r:Nat} {enc:α→Value} {L:List (α×Value×Nat)} {c:Nat} (h:MapB w r enc L c) (e:w'.heap[r]?=w.heap[r]?):MapB w' r enc L c:=⟨e.trans h.obj,h.lt,h.births,h.keys⟩
theorem MapB.setCell {w:World} {r:Nat} {enc:α→Value} {L:List (α×Value×Nat)} {c:Nat} (h:MapB w r enc L c) (a:Addr) (v:Value):MapB (w.setCell a v) r enc L c:=⟨(KeepsOthers.setCell w a v).same _ _ h.obj rfl,h.lt,h.births,h.keys⟩
theorem MapB.new (w:World) (enc:α→Value):MapB (w.alloc (.map #[] 0)) w.heap.size enc [] 0:=⟨World.alloc_heap_new w _,by simp,by simp,by simp⟩
theorem MapB.putOther {w:World} {r r':Nat} {enc:α→Value} {L:List (α×Value×Nat)} {c:Nat} (h:MapB w r enc L c) (hne:r≠r') (o:Obj):MapB (w.putObj r' o) r enc L c:=⟨(World.putObj_heap_other hne).trans h.obj,h.lt,h.births,h.keys⟩
variable [DecidableEq α]
theorem look_cons (x:α×Value×Nat) (L:List (α×Value×Nat)) (k:α):look (x::L) k=if x.1=k then some x.2.1 else look L k:=by
 unfold look
 by_cases h:x.1=k<;>simp [h]
theorem hasK_look (L:List (α×Value×Nat)) (k:α):hasK L k=(look L k).isSome:=by
 induction L with
 | nil=>rfl
 | cons x L ih =>
  rw [look_cons]
  unfold hasK at *
  simp only [List.any_cons,ih]
  by_cases h:x.1=k<;>simp [h]
theorem look_append (L:List (α×Value×Nat)) (k k':α) (v:Value) (c:Nat):look (L++[(k,v,c)]) k'=(look L k').or (if k=k' then some v else none):=by
 induction L with
 | nil=>rw [List.nil_append,look_cons];by_cases h:k=k'<;>simp [h,look]
 | cons x L ih =>
  rw [List.cons_append,look_cons,look_cons,ih]
  by_cases h:x.1=k'<;>simp [h]
theorem look_upd (L:List (α×Value×Nat)) (k k':α) (v:Value):look (updL L k v) k'=if k'=k then (if hasK L k then some v else none) else look L k':=by
 induction L with
 | nil=>by_cases h:k'=k<;>simp [h,look,updL,hasK]
 | cons x L ih =>
  have e:updL (x::L) k v=(if x.1=k then (x.1,v,x.2.2) else x)::updL L k v:=rfl
  rw [e,look_cons,ih,look_cons]
  by_cases h:x.1=k
  · by_cases h':k'=k
    · subst h;subst h';simp [hasK]
    · simp only [h,if_true,h',if_false]
      by_cases h2:k=k'
      · exact absurd h2.symm h'
      · simp [h2]
  · by_cases h':k'=k
    · subst h';simp only [h,if_false,if_true,hasK,List.any_cons,decide_false,Bool.false_or];congr
    · simp [h,h']
theorem look_put (L:List (α×Value×Nat)) (c:Nat) (k k':α) (v:Value):look (putL L c k v) k'=if k'=k then some v else look L k':=by
 unfold putL
 by_cases h:hasK L k=true
 · rw [if_pos h,look_upd,if_pos h]
 · rw [if_neg h,look_append]
   have hn:look L k=none:=by rw [hasK_look] at h;simpa using h
   by_cases h':k'=k
   · subst h';simp [hn]
   · have:¬ k=k':=fun e=>h' e.symm
     simp [h',this]
structure KeyOK (P:Program) (kt:TypeId) (enc:α→Value):Prop where
 find:∃ d,P.underlying kt=some d∧∀ a b,Instr.sameNow d (enc a) (enc b)=some (decide (a=b))
 check:∀ e a w,(Instr.checkKey e 10000 kt (enc a)).run P w = .ok () w
 bits:∀ a,Instr.sameBits 10000 (enc a) (enc a)=true
theorem bytes_beq' (a b:ByteArray):(a == b)=decide (a=b):=by
 rw [Bool.eq_iff_iff,decide_eq_true_iff]
 cases a with
 | mk x=>cases b with
  | mk y =>
   show (x == y)=true↔_
   rw [beq_iff_eq]
   simp
theorem KeyOK.string {P:Program} {kt:TypeId} (h:P.underlying kt=some .string):KeyOK P kt (fun s:ByteArray=>Value.string s):=by
 refine ⟨⟨_,h,fun a b=>?_⟩,fun e a w=>?_,fun a=>by simp [Instr.sameBits,bytes_beq']⟩
 · simp [Instr.sameNow,bytes_beq']
 · unfold Instr.checkKey
   simp only [Sem.run_bind,run_underlying h,Result.andThen_ok]
   rfl
theorem KeyOK.int {P:Program} {kt:TypeId} {kd:IntKind} (h:P.underlying kt=some (.int kd)):KeyOK P kt (fun s:Int=>Value.int kd s):=by
 refine ⟨⟨_,h,fun a b=>?_⟩,fun e a w=>?_,fun a=>by simp [Instr.sameBits]⟩
 · simp only [Instr.sameNow,if_true];congr 1
 · unfold Instr.checkKey
   simp only [Sem.run_bind,run_underlying h,Result.andThen_ok]
   rfl
theorem findNow_enc {d:TypeDesc} {enc:α→Value} (hs:∀ a b,Instr.sameNow d (enc a) (enc b)=some (decide (a=b))) (k:α):∀ (L:List (α×Value×Nat)) (i:Nat),
 (∃ j x,L[j]?=some x∧x.1=k∧look L k=some x.2.1∧bornOf L k=x.2.2∧hasK L k=true∧Instr.findNow d (enc k) (L.map (mkE enc)) i=some (some (i+j,x.2.1))) ∨
 (hasK L k=false∧look L k=none∧Instr.findNow d (enc k) (L.map (mkE enc)) i=some none)
 | [],i => .inr ⟨rfl,rfl,rfl⟩
 | x::L,i=>by
  by_cases h:x.1=k
  · refine .inl ⟨0,x,rfl,h,by rw [look_cons,if_pos h],by simp [bornOf,h],by simp [hasK,h],?_⟩
    simp only [List.map_cons,Instr.findNow,mkE,hs,h,decide_true,Nat.add_zero]
  · have hne:¬ k=x.1:=fun e=>h e.symm
    rcases findNow_enc hs k L (i+1) with ⟨j,y,h1,h2,h3,h4,h5,h6⟩ | ⟨h1,h2,h3⟩
    · refine .inl ⟨j+1,y,by simpa using h1,h2,by rw [look_cons,if_neg h];exact h3,by rw [← h4];simp [bornOf,h],by unfold hasK at *;simp only [List.any_cons,h5,Bool.or_true],?_⟩
      simp only [List.map_cons,Instr.findNow,mkE,hs,hne,decide_false]
      rw [show i+(j+1)=i+1+j by omega]
      exact h6
    · refine .inr ⟨by unfold hasK at *;simp only [List.any_cons,h1,h,decide_false,Bool.or_self],by rw [look_cons,if_neg h];exact h2,?_⟩
      simp only [List.map_cons,Instr.findNow,mkE,hs,hne,decide_false]
      exact h3
variable {P:Program} {QP:List PanicEntry→World→Prop} {w:World} {k':Value→World→Prop} {ku:World→Prop} {enc:α→Value} {r:Nat} {L:List (α×Value×Nat)} {c:Nat}
theorem run_findKey {kt:TypeId} (K:KeyOK P kt enc) (k:α) (L:List (α×Value×Nat)) :
 (∃ j x,L[j]?=some x∧x.1=k∧look L k=some x.2.1∧bornOf L k=x.2.2∧hasK L k=true∧(Instr.findKey kt (enc k) (L.map (mkE enc))).run P w = .ok (some (j,x.2.1)) w) ∨
 (hasK L k=false∧look L k=none∧(Instr.findKey kt (enc k) (L.map (mkE enc))).run P w = .ok none w):=by
 obtain ⟨d,hd,hs⟩:=K.find
 rcases findNow_enc hs k L 0 with ⟨j,x,h1,h2,h3,h4,h5,h6⟩ | ⟨h1,h2,h3⟩
 · refine .inl ⟨j,x,h1,h2,h3,h4,h5,?_⟩
   unfold Instr.findKey
   simp only [Sem.run_bind,run_underlying hd,Result.andThen_ok,h6,Nat.zero_add,Sem.run_pure]
 · refine .inr ⟨h1,h2,?_⟩
   unfold Instr.findKey
   simp only [Sem.run_bind,run_underlying hd,Result.andThen_ok,h3,Sem.run_pure]
theorem run_getMap (h:MapB w r enc L c):(getObj r).run P w = .ok (.map (L.map (mkE enc)).toArray c) w:=by simp [getObj,Sem.run,h.obj]
theorem op_lookup {mt kt et:TypeId} {agg:Bool} {n m:Nat} {z:Value} (hm:P.underlying mt=some (.map kt et)) (K:KeyOK P kt enc) (hz:TyInfo P et agg n m z) (h:MapB w r enc L c) (k:α) :
 opV P (Instr.lookup mt (.map (some r)) (enc k) true) QP w k'=k' (.tuple #[(look L k).getD z,.bool (look L k).isSome]) w:=by
 obtain ⟨⟨i,hi,_,_,hzz⟩,_⟩:=hz
 refine opV_ok ?_
 unfold Instr.lookup
 simp only [Sem.run_bind,run_underlying hm,Result.andThen_ok,run_getMap h,Sem.run_pure,K.check]
 rcases run_findKey (P:=P) (w:=w) K k L with ⟨j,x,h1,h2,h3,h4,h5,h6⟩ | ⟨h1,h2,h3⟩
 · simp only [h6,Result.andThen_ok,h3,Sem.run_pure];rfl
 · simp only [h3,Result.andThen_ok,h2,Sem.run_pure,Sem.run_bind,zeroValue,typeInfo]
   simp [hi,hzz]
theorem op_lookup1 {mt kt et:TypeId} {agg:Bool} {n m:Nat} {z:Value} (hm:P.underlying mt=some (.map kt et)) (K:KeyOK P kt enc) (hz:TyInfo P et agg n m z) (h:MapB w r enc L c) (k:α) :
 opV P (Instr.lookup mt (.map (some r)) (enc k) false) QP w k'=k' ((look L k).getD z) w:=by
 obtain ⟨⟨i,hi,_,_,hzz⟩,_⟩:=hz
 refine opV_ok ?_
 unfold Instr.lookup
 simp only [Sem.run_bind,run_underlying hm,Result.andThen_ok,run_getMap h,Sem.run_pure,K.check]
 rcases run_findKey (P:=P) (w:=w) K k L with ⟨j,x,h1,h2,h3,h4,h5,h6⟩ | ⟨h1,h2,h3⟩
 · simp only [h6,Result.andThen_ok,h3,Sem.run_pure];rfl
 · simp only [h3,Result.andThen_ok,h2,Sem.run_pure,Sem.run_bind,zeroValue,typeInfo]
   simp [hi,hzz]
theorem op_makeMap (t:TypeId):opV P (Instr.makeMap t none) QP w k'=k' (.map (some w.heap.size)) (w.alloc (.map #[] 0)):=opV_ok rfl
def mapObj (enc:α→Value) (L:List (α×Value×Nat)) (c:Nat):Obj := .map (L.map (mkE enc)).toArray c
theorem MapB.put (h:MapB w r enc L c) (k:α) (v:Value):MapB (w.putObj r (mapObj enc (putL L c k v) (putC L c k))) r enc (putL L c k v) (putC L c k):=by
 refine ⟨World.putObj_heap_same (Qk h.obj).1,?_,?_,?_⟩
 · intro x hx
   unfold putL at hx
   unfold putC
   by_cases hh:hasK L k=true
   · rw [if_pos hh] at hx ⊢
     unfold updL at hx
     obtain ⟨y,hy,rfl⟩:=List.mem_map.1 hx
     have:=h.lt y hy
     split<;>exact this
   · rw [if_neg hh] at hx ⊢
     rcases List.mem_append.1 hx with hx | hx
     · have:=h.lt x hx;omega
     · simp at hx;subst hx;simp
 · unfold putL
   by_cases hh:hasK L k=true
   · rw [if_pos hh]
     unfold updL
     rw [List.pairwise_map]
     refine h.births.imp fun {a b} hab=>?_
     split<;>split<;>exact hab
   · rw [if_neg hh]
     refine List.pairwise_append.2 ⟨h.births,by simp,fun x hx y hy=>?_⟩
     simp at hy;subst hy
     have:=h.lt x hx
     simp;omega
 · unfold putL
   by_cases hh:hasK L k=true
   · rw [if_pos hh]
     unfold updL
     rw [List.pairwise_map]
     refine h.keys.imp fun {a b} hab=>?_
     split<;>split<;>exact hab
   · rw [if_neg hh]
     refine List.pairwise_append.2 ⟨h.keys,by simp,fun x hx y hy=>?_⟩
     simp at hy;subst hy
     intro e
     apply hh
     unfold hasK
     rw [List.any_eq_true]
     exact ⟨x,hx,by simpa using e⟩
theorem pos_of_keys (hk:L.Pairwise (fun x y=>x.1≠y.1)) {k:α} {j:Nat} {x:α×Value×Nat} (hj:L[j]?=some x) (hx:x.1=k) {i:Nat} {y:α×Value×Nat} (hi:L[i]?=some y) (hy:y.1=k):i=j:=by
 rw [List.pairwise_iff_getElem] at hk
 obtain ⟨hj',rfl⟩:=Qv hj
 obtain ⟨hi',rfl⟩:=Qv hi
 rcases Nat.lt_trichotomy i j with h | h | h
 · exact absurd (hy.trans hx.symm) (hk i j hi' hj' h)
 · exact h
 · exact absurd (hx.trans hy.symm) (hk j i hj' hi' h)
theorem modify_upd (h:MapB w r enc L c) {k:α} {j:Nat} {x:α×Value×Nat} (hj:L[j]?=some x) (hx:x.1=k) (v:Value) :
 ((L.map (mkE enc)).toArray.modify j fun e=>{ e with key:=enc k,val:=v })=((updL L k v).map (mkE enc)).toArray:=by
 apply Array.ext_getElem?
 intro i
 simp only [Array.getElem?_modify,List.getElem?_toArray,List.getElem?_map,updL]
 by_cases hij:j=i
 · subst hij
   simp only [if_true,hj,Option.map_some,hx,mkE]
 · simp only [hij,if_false]
   cases hi:L[i]? with
   | none=>rfl
   | some y =>
    have:y.1≠k:=fun e=>hij (pos_of_keys h.keys hi e hj hx)
    simp only [Option.map_some,this,if_false]
theorem run_stays {kt:TypeId} (K:KeyOK P kt enc) (k:α):(Instr.keyThatStays (enc k) (enc k)).run P w = .ok (enc k) w:=by
 unfold Instr.keyThatStays
 rw [K.bits];rfl
theorem op_mapUpdate {mt kt et:TypeId} (hm:P.underlying mt=some (.map kt et)) (K:KeyOK P kt enc) (h:MapB w r enc L c) (k:α) (v:Value) :
 opU P (Instr.mapUpdate mt (.map (some r)) (enc k) v) QP w ku=ku (w.putObj r (mapObj enc (putL L c k v) (putC L c k))):=by
 refine opU_ok (u:=()) ?_
 unfold Instr.mapUpdate
 simp only [Sem.run_bind,run_underlying hm,Result.andThen_ok,run_getMap h,K.check]
 have hset:∀ o,(setObj r o).run P w = .ok () (w.putObj r o):=fun o=>by simp [setObj,Sem.run,h.obj,World.putObj]
 rcases run_findKey (P:=P) (w:=w) K k L with ⟨j,x,h1,h2,h3,h4,h5,h6⟩ | ⟨h1,h2,h3⟩
 · have hke:(((L.map (mkE enc)).toArray[j]?.map (·.key)).getD (enc k))=enc k:=by simp [h1,mkE,h2]
   simp only [h6,Result.andThen_ok,Sem.run_bind,hke,run_stays K,hset]
   rw [modify_upd h h1 h2]
   simp only [mapObj,putL,putC,h5,if_true]
 · simp only [h3,Result.andThen_ok,hset]
   have:(L.map (mkE enc)).toArray.push { key:=enc k,val:=v,born:=c }=((L++[(k,v,c)]).map (mkE enc)).toArray:=by simp [mkE]
   rw [this]
   simp only [mapObj,putL,putC,h1,Bool.false_eq_true,if_false]
theorem op_mapEntry {mt kt et:TypeId} {agg:Bool} {n m:Nat} {z:Value} (hm:P.underlying mt=some (.map kt et)) (K:KeyOK P kt enc) (hz:TyInfo P et agg n m z) (h:MapB w r enc L c) (k:α) :
 opV P (Instr.mapEntry mt (.map (some r)) (enc k)) QP w k'=k' (.tuple #[(look L k).getD z,goInt (bornOf (entL L c k z) k)]) (w.putObj r (mapObj enc (entL L c k z) (putC L c k))):=by
 obtain ⟨⟨i,hi,_,_,hzz⟩,_⟩:=hz
 refine opV_ok ?_
 unfold Instr.mapEntry
 simp only [Sem.run_bind,run_underlying hm,Result.andThen_ok,run_getMap h,K.check]
 have hset:∀ o,(setObj r o).run P w = .ok () (w.putObj r o):=fun o=>by simp [setObj,Sem.run,h.obj,World.putObj]
 rcases run_findKey (P:=P) (w:=w) K k L with ⟨j,x,h1,h2,h3,h4,h5,h6⟩ | ⟨h1,h2,h3⟩
 · have hke:(((L.map (mkE enc)).toArray[j]?.map (·.key)).getD (enc k))=enc k:=by simp [h1,mkE,h2]
   have hbo:((Option.map (fun x:MapEntry=>(x.born:Int)) (L.map (mkE enc)).toArray[j]?).getD 0)=(x.2.2:Int):=by simp [h1,mkE]
   have hmo:((L.map (mkE enc)).toArray.modify j fun e=>{ e with key:=enc k })=(L.map (mkE enc)).toArray:=by
    apply Array.ext_getElem?
    intro i
    simp only [Array.getElem?_modify,List.getElem?_toArray,List.getElem?_map]
    by_cases hij:j=i
    · subst hij;simp [h1,mkE,h2]
    · simp [hij]
   simp only [h6,Result.andThen_ok,Sem.run_bind,hke,run_stays K,hset,hbo,hmo,Sem.run_pure]
   simp only [mapObj,entL,putC,h5,if_true,h3,Option.getD_some,h4]
 · have hzr:(zeroValue et).run P w = .ok z w:=by simp [zeroValue,typeInfo,hi,hzz]
   have hn:(L.map (mkE enc)).toArray.push { key:=enc k,val:=z,born:=c }=((L++[(k,z,c)]).map (mkE enc)).toArray:=by simp [mkE]
   simp only [h3,Result.andThen_ok,hset,Sem.run_bind,hzr,Sem.run_pure,hn]
   have hb:bornOf (L++[(k,z,c)]) k=c:=by
    unfold bornOf
    have:L.find? (fun x=>decide (x.1=k))=none:=by
     rw [List.find?_eq_none]
     intro x hx e
     unfold hasK at h1
     rw [List.any_eq_false] at h1
     exact h1 x hx e
    simp [List.find?_append,this]
   simp only [mapObj,entL,putC,h1,Bool.false_eq_true,if_false,h2,Option.getD_none,hb]
theorem MapB.ent (h:MapB w r enc L c) (k:α) (z:Value):MapB (w.putObj r (mapObj enc (entL L c k z) (putC L c k))) r enc (entL L c k z) (putC L c k):=by
 by_cases hh:hasK L k=true
 · have e1:entL L c k z=L:=if_pos hh
   have e2:putC L c k=c:=if_pos hh
   rw [e1,e2]
   exact ⟨World.putObj_heap_same (Qk h.obj).1,h.lt,h.births,h.keys⟩
 · have:=h.put k z
   have e1:entL L c k z=putL L c k z:=by unfold entL putL;rw [if_neg hh,if_neg hh]
   rw [e1];exact this
theorem ent_put (k:α) (v z:Value):updL (entL L c k z) k v=putL L c k v:=by
 unfold entL putL
 by_cases hh:hasK L k=true
 · rw [if_pos hh,if_pos hh]
 · rw [if_neg hh,if_neg hh]
   unfold updL
   rw [List.map_append]
   congr 1
   · conv=>rhs;rw [← List.map_id L]
     apply List.map_congr_left
     intro x hx
     have:x.1≠k:=by
      intro e;apply hh;unfold hasK;rw [List.any_eq_true];exact ⟨x,hx,by simpa using e⟩
     simp [this]
   · simp
theorem hasK_ent (k:α) (z:Value):hasK (entL L c k z) k=true:=by
 unfold entL
 by_cases hh:hasK L k=true
 · rw [if_pos hh];exact hh
 · rw [if_neg hh];simp [hasK]
theorem op_entryStore {mt:TypeId} (h:MapB w r enc L c) {k:α} (hk:hasK L k=true) (v:Value) :
 opU P (Instr.entryStore mt (.map (some r)) (goInt (bornOf L k)) v) QP w ku=ku (w.putObj r (mapObj enc (updL L k v) c)):=by
 refine opU_ok (u:=()) ?_
 unfold Instr.entryStore
 have hset:∀ o,(setObj r o).run P w = .ok () (w.putObj r o):=fun o=>by simp [setObj,Sem.run,h.obj,World.putObj]
 have hai:(asInt (goInt (bornOf L k))).run P w = .ok ((bornOf L k:Nat):Int) w:=rfl
 simp only [Sem.run_bind,run_getMap h,Result.andThen_ok,hai]
 obtain ⟨x,hx⟩:∃ x,L.find? (fun x=>decide (x.1=k))=some x:=by
  unfold hasK at hk
  rw [List.any_eq_true] at hk
  obtain ⟨x,h1,h2⟩:=hk
  cases hf:L.find? (fun x=>decide (x.1=k)) with
  | some y=>exact ⟨y,rfl⟩
  | none=>rw [List.find?_eq_none] at hf;exact absurd h2 (hf x h1)
 have hxk:x.1=k:=by simpa using List.find?_some hx
 have hxm:=List.mem_of_find?_eq_some hx
 obtain ⟨j,hj⟩:=List.getElem?_of_mem hxm
 have hb:bornOf L k=x.2.2:=by simp [bornOf,hx]
 have hidx:(L.map (mkE enc)).toArray.findIdx? (fun e=>(e.born:Int) == ((bornOf L k:Nat):Int))=some j:=by
  rw [Array.findIdx?_eq_some_iff_getElem]
  obtain ⟨hjl,hje⟩:=Qv hj
  refine ⟨by simpa using hjl,?_,?_⟩
  · simp [mkE,hje,hb]
  · intro i hi
    have hbi:=List.pairwise_iff_getElem.1 h.births i j Qx hjl hi
    simp only [List.getElem_toArray,List.getElem_map,mkE,hb,Bool.not_eq_true]
    rw [hje] at hbi
    rw [beq_eq_false_iff_ne];intro e;exact hbi (Int.ofNat.inj e)
 simp only [hidx,hset]
 have hm2:((L.map (mkE enc)).toArray.modify j fun e=>{ e with val:=v })=((updL L k v).map (mkE enc)).toArray:=by
  rw [← modify_upd h hj hxk v]
  apply Array.ext_getElem?
  intro i
  simp only [Array.getElem?_modify,List.getElem?_toArray,List.getElem?_map]
  by_cases hij:j=i
  · subst hij;simp [hj,mkE,hxk]
  · simp [hij]
 rw [hm2];rfl
theorem putObj_putObj (o o':Obj):(w.putObj r o).putObj r o'=w.putObj r o':=by
 simp only [World.putObj,Array.setIfInBounds_setIfInBounds]
theorem Ext.putObj {a w:World} (h:Ext a w) {l:Nat} (hl:a.heap.size≤l) (o:Obj):Ext a (w.putObj l o) :=
 ⟨h.os,h.tape,h.output,by simpa using h.size,fun k hk=>(World.putObj_heap_other Qx).trans (h.block k hk)⟩
theorem cell_putMap (h:MapB w r enc L c) {L':List (α×Value×Nat)} {c':Nat} (a:Addr):(w.putObj r (mapObj enc L' c')).cell? a=w.cell? a:=by
 unfold World.cell?
 by_cases e:a.block=r
 · rw [e,World.putObj_heap_same (Qk h.obj).1,h.obj];rfl
 · rw [World.putObj_heap_other e]
end
section
variable {P:Program} {QP:List PanicEntry→World→Prop} {w:World} {k':Value→World→Prop} {ku:World→Prop} {r:Nat} {c:Nat}
abbrev MapS (w:World) (r:Nat) (L:List (ByteArray×Value×Nat)) (c:Nat):Prop:=MapB w r (fun s:ByteArray=>Value.string s) L c
abbrev mapObjS (L:List (ByteArray×Value×Nat)) (c:Nat):Obj:=mapObj (fun s:ByteArray=>Value.string s) L c
variable {L:List (ByteArray×Value×Nat)} {mt kt et:TypeId} {agg:Bool} {n m:Nat} {z:Value}
theorem op_lookupS (hm:P.underlying mt=some (.map kt et)) (hk:P.underlying kt=some .string) (hz:TyInfo P et agg n m z) (h:MapS w r L c) (k:ByteArray) :
 opV P (Instr.lookup mt (.map (some r)) (.string k) true) QP w k'=k' (.tuple #[(look L k).getD z,.bool (look L k).isSome]) w:=op_lookup hm (KeyOK.string hk) hz h k
theorem op_lookup1S (hm:P.underlying mt=some (.map kt et)) (hk:P.underlying kt=some .string) (hz:TyInfo P et agg n m z) (h:MapS w r L c) (k:ByteArray) :
 opV P (Instr.lookup mt (.map (some r)) (.string k) false) QP w k'=k' ((look L k).getD z) w:=op_lookup1 hm (KeyOK.string hk) hz h k
theorem op_mapUpdateS (hm:P.underlying mt=some (.map kt et)) (hk:P.underlying kt=some .string) (h:MapS w r L c) (k:ByteArray) (v:Value) :
 opU P (Instr.mapUpdate mt (.map (some r)) (.string k) v) QP w ku=ku (w.putObj r (mapObjS (putL L c k v) (putC L c k))):=op_mapUpdate hm (KeyOK.string hk) h k v
theorem op_mapEntryS (hm:P.underlying mt=some (.map kt et)) (hk:P.underlying kt=some .string) (hz:TyInfo P et agg n m z) (h:MapS w r L c) (k:ByteArray) :
 opV P (Instr.mapEntry mt (.map (some r)) (.string k)) QP w k'=k' (.tuple #[(look L k).getD z,goInt (bornOf (entL L c k z) k)]) (w.putObj r (mapObjS (entL L c k z) (putC L c k))):=op_mapEntry hm (KeyOK.string hk) hz h k
theorem MapS.new (w:World):MapS (w.alloc (.map #[] 0)) w.heap.size [] 0:=MapB.new w _
def memB (names:List ByteArray) (s:ByteArray):Bool:=names.any (fun u=>decide (u=s))
theorem memB_append (a:List ByteArray) (k s:ByteArray):memB (a++[k]) s=(memB a s||decide (k=s)):=by simp [memB]
def SetOf (w:World) (r:Nat) (names:List ByteArray):Prop:=∃ L c,MapS w r L c∧∀ s,look L s=if memB names s=true then some (Value.bool true) else none
theorem SetOf.ext {w w':World} {names:List ByteArray} (h:SetOf w r names) (e:Ext w w'):SetOf w' r names:=let ⟨L,c,h1,h2⟩:=h; ⟨L,c,h1.ext e,h2⟩
theorem SetOf.put {names:List ByteArray} (h:MapS w r L c) (hl:∀ s,look L s=if memB names s=true then some (Value.bool true) else none) (k:ByteArray) :
 SetOf (w.putObj r (mapObjS (putL L c k (.bool true)) (putC L c k))) r (names++[k]):=by
 refine ⟨_,_,h.put k _,fun s=>?_⟩
 rw [look_put,hl]
 rw [memB_append]
 by_cases hs:s=k
 · subst hs;simp
 · have hs':¬ k=s:=fun e=>hs e.symm
   simp [hs,hs']
def bld (ps:List (ByteArray×Value)):List (ByteArray×Value×Nat)×Nat:=ps.foldl (fun s p=>(putL s.1 s.2 p.1 p.2,putC s.1 s.2 p.1)) ([],0)
theorem bld_snoc (ps:List (ByteArray×Value)) (p:ByteArray×Value):bld (ps++[p])=(putL (bld ps).1 (bld ps).2 p.1 p.2,putC (bld ps).1 (bld ps).2 p.1):=by simp [bld,List.foldl_append]
def lastOf (ps:List (ByteArray×Value)) (s:ByteArray):Option Value:=(ps.reverse.find? (fun p=>decide (p.1=s))).map (·.2)
theorem lastOf_snoc (ps:List (ByteArray×Value)) (p:ByteArray×Value) (s:ByteArray):lastOf (ps++[p]) s=if p.1=s then some p.2 else lastOf ps s:=by
 unfold lastOf
 rw [List.reverse_append,List.reverse_singleton,List.singleton_append,List.find?_cons]
 by_cases h:p.1=s<;>simp [h]
theorem snoc_induct {α:Type} {motive:List α→Prop} (h0:motive []) (h1:∀ l a,motive l→motive (l++[a])) (l:List α):motive l:=by
 have:∀ l:List α,motive l.reverse:=by
  intro l
  induction l with
  | nil=>exact h0
  | cons a l ih=>rw [List.reverse_cons];exact h1 _ _ ih
 have h:=this l.reverse
 rwa [List.reverse_reverse] at h
theorem look_bld (ps:List (ByteArray×Value)) (s:ByteArray):look (bld ps).1 s=lastOf ps s:=by
 revert s
 refine snoc_induct (motive:=fun ps=>∀ s,look (bld ps).1 s=lastOf ps s) ?_ ?_ ps
 · intro s;rfl
 · intro l a ih s
   rw [bld_snoc,lastOf_snoc,look_put,ih]
   by_cases h:a.1=s
   · subst h;simp
   · have h':¬ s=a.1:=fun e=>h e.symm
     simp [h,h']
def MapOf (w:World) (r:Nat) (ps:List (ByteArray×Value)):Prop:=MapS w r (bld ps).1 (bld ps).2
theorem MapOf.ext {w w':World} {r:Nat} {ps:List (ByteArray×Value)} (h:MapOf w r ps) (e:Ext w w'):MapOf w' r ps:=MapB.ext h e
theorem MapOf.new (w:World):MapOf (w.alloc (.map #[] 0)) w.heap.size []:=MapS.new w
theorem MapOf.setCell {w:World} {r:Nat} {ps:List (ByteArray×Value)} (h:MapOf w r ps) (a:Addr) (v:Value):MapOf (w.setCell a v) r ps:=MapB.setCell h a v
theorem MapOf.lt {w:World} {r:Nat} {ps:List (ByteArray×Value)} (h:MapOf w r ps):r < w.heap.size:=(Qk h.obj).1
def putW (w:World) (r:Nat) (ps:List (ByteArray×Value)) (k:ByteArray) (v:Value):World:=w.putObj r (mapObjS (bld (ps++[(k,v)])).1 (bld (ps++[(k,v)])).2)
theorem MapOf.put {w:World} {r:Nat} {ps:List (ByteArray×Value)} (h:MapOf w r ps) (k:ByteArray) (v:Value):MapOf (putW w r ps k v) r (ps++[(k,v)]):=by
 unfold MapOf putW
 rw [bld_snoc]
 exact MapB.put h k v
theorem op_updateO {w:World} {ps:List (ByteArray×Value)} (hm:P.underlying mt=some (.map kt et)) (hk:P.underlying kt=some .string) (h:MapOf w r ps) (k:ByteArray) (v:Value) :
 opU P (Instr.mapUpdate mt (.map (some r)) (.string k) v) QP w ku=ku (putW w r ps k v):=by
 unfold putW
 rw [bld_snoc]
 exact op_mapUpdateS hm hk h k v
theorem op_lookupO {w:World} {ps:List (ByteArray×Value)} (hm:P.underlying mt=some (.map kt et)) (hk:P.underlying kt=some .string) (hz:TyInfo P et agg n m z) (h:MapOf w r ps) (k:ByteArray) :
 opV P (Instr.lookup mt (.map (some r)) (.string k) true) QP w k'=k' (.tuple #[(lastOf ps k).getD z,.bool (lastOf ps k).isSome]) w:=by
 rw [op_lookupS hm hk hz h,look_bld]
theorem op_lookup1O {w:World} {ps:List (ByteArray×Value)} (hm:P.underlying mt=some (.map kt et)) (hk:P.underlying kt=some .string) (hz:TyInfo P et agg n m z) (h:MapOf w r ps) (k:ByteArray) :
 opV P (Instr.lookup mt (.map (some r)) (.string k) false) QP w k'=k' ((lastOf ps k).getD z) w:=by
 rw [op_lookup1S hm hk hz h,look_bld]
theorem Ext.putW {a w:World} {ps:List (ByteArray×Value)} (h:Ext a w) (hr:a.heap.size≤r) (k:ByteArray) (v:Value):Ext a (putW w r ps k v):=h.putObj hr _
theorem putW_size {w:World} {ps:List (ByteArray×Value)} {k:ByteArray} {v:Value}:(putW w r ps k v).heap.size=w.heap.size:=World.putObj_size
end
end Go.Sw
