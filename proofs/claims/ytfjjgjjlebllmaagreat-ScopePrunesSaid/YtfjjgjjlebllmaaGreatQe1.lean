/-
  Lemmas for the claim.
-/
import Derived.RangeFuncLeaves
import Derived.RangeFuncNested
import Derived.Orders
import Derived.WalkKit
import Derived.Below
import Derived.RangeFuncOwn
import Derived.Laws.IdiomStrings
import Derived.Laws.StructEq
import Derived.Laws.AppendOwn
import Derived.Test.YtfjjgjjlebllmaaGreatProg
import Derived.KernelRfl
import Derived.Lib.SlicesCompact
import Derived.Shelf.Sort.Plain
import Derived.Ground.Names2Prog
import Derived.Shelf.Slices.CompactI
import Derived.Shelf.Slices.In.SortNone
import Derived.Deep.AppendLies
import Derived.Deep.OwnRows
import Derived.Laws.CopyRow
import Derived.JoinedOf
import Derived.SizedLaws
import Derived.Carry
import Derived.OpenShut
import Derived.Deep.Slices
import Derived.RowKit
import Derived.ProofKit
import Derived.Test.YtfjjgjjlebllmaaGreatRows
set_option linter.all false
set_option maxHeartbeats 4000000
set_option maxRecDepth 100000
namespace Go.Sw
abbrev RT:=Ending→World→Prop
abbrev KV:=Value→World→Prop
abbrev KW:=Value→Value→World→Prop
def Arr (P:Program) (m:Machine) (b:Frame) (k:List Item) (cs:List Frame):Exit→Act→World→Prop
 | .normal,a,w=>Steps P m (lone (b.atR a k) cs w)
 | .exit id,a,w=>(∀ k',exitTo id k=some k'→Steps P m (lone (b.atR a k') cs w)) ∧
  (b.roundOf.isSome=true→exitTo id k=none→∃ k₁,exitTo id k₁=none∧Steps P m (lone (b.atR a (.code (.exit id)::k₁)) cs w))
 | .ret,a,w=>(b.roundOf=none→∃ todo,Steps P m (lone { b.atR a todo with mode := .returning } cs w)) ∧
  (b.roundOf.isSome=true→∃ k₁,Steps P m (lone (b.atR a (.code .ret::k₁)) cs w))
 | .panic ch,a,w=>∃ todo,Steps P m (lone { b.atR a todo with mode := .panicking ch } cs w)
 | _,_,_=>False
section
variable {P:Program} {m m₁:Machine} {b:Frame} {k:List Item} {cs:List Frame} {e:Exit} {a:Act} {w:World}
theorem Arr.from (h:Steps P m m₁) (h':Arr P m₁ b k cs e a w):Arr P m b k cs e a w:=by
 cases e with
 | normal=>exact h.trans h'
 | exit id=>exact ⟨λ k' hk=>h.trans (h'.1 k' hk),λ hr hk=>let ⟨k₁,h1,h2⟩:=h'.2 hr hk; ⟨k₁,h1,h.trans h2⟩⟩
 | ret=>exact ⟨λ hr=>let ⟨t,hs⟩:=h'.1 hr; ⟨t,h.trans hs⟩,λ hr=>let ⟨k₁,hs⟩:=h'.2 hr; ⟨k₁,h.trans hs⟩⟩
 | panic ch=>obtain ⟨t,hs⟩:=h';exact ⟨t,h.trans hs⟩
 | goto l=>exact h'
 | outgrown=>exact h'
theorem Arr.past {x:Item} (hx:x.plain=true) (hn:e ≠ .normal) (h:Arr P m b (x::k) cs e a w):Arr P m b k cs e a w:=by
 cases e with
 | normal=>exact absurd rfl hn
 | exit id=>exact ⟨λ k' hk=>h.1 k' (by rw [exitTo_plain hx];exact hk),λ hr hk=>h.2 hr (by rw [exitTo_plain hx];exact hk)⟩
 | ret=>exact h
 | panic ch=>exact h
 | goto l=>exact h
 | outgrown=>exact h
end
def NI (P:Program) (f:FuncId):Prop:=∃ fn,P.funcs[f]?=some fn
def wpV (ro:Option Nat) (P:Program) (c:Code) (Q:Exit→Act→World→Prop) (a:Act) (w:World):Prop :=
 ∀ (b:Frame) (k:List Item) (cs:List Frame),b.roundOf=ro→NI P b.fn→∃ e a' w',Q e a' w'∧Arr P (lone (b.atR a (.code c::k)) cs w) b k cs e a' w'
def KJ (P:Program) (l:Nat) (f:FuncId) (tmps:Array Value) (assign body:Code) (w:World) (R:RT):Prop :=
 ∀ (c:Frame) (cs:List Frame),∃ e w',R e w'∧(match e with
  | .returned v=>Steps P (lone (Frame.round l f tmps assign body .normal) (c::cs) w) (lone (c.finish v) cs w')
  | .panicked ch=>Steps P (lone (Frame.round l f tmps assign body .normal) (c::cs) w) (lone (c.raise ch) cs w')
  | .outgrown=>False)
theorem KJ.mono {P:Program} {l:Nat} {f:FuncId} {tmps:Array Value} {assign body:Code} {w:World} {R R':Ending→World→Prop} (h:KJ P l f tmps assign body w R) (hr:∀ e w',R e w'→R' e w'):KJ P l f tmps assign body w R' :=
 λ c cs=>let ⟨e,w',h1,h2⟩:=h c cs; ⟨e,w',hr _ _ h1,h2⟩
section rules
variable {ro:Option Nat} {P:Program} {Q:Exit→Act→World→Prop} {a:Act} {w:World}
theorem Qw {c:Code} {Q':Exit→Act→World→Prop} (h:wpV ro P c Q a w) (hq:∀ e a w,Q e a w→Q' e a w):wpV ro P c Q' a w :=
 λ b k cs hro hf=>let ⟨e,a',w',q,r⟩:=h b k cs hro hf; ⟨e,a',w',hq _ _ _ q,r⟩
theorem MK (h:Q .normal a w):wpV ro P .skip Q a w:=λ _ _ _ _ _=>⟨.normal,a,w,h,.one stepR_skip⟩
theorem LZ {l:Nat} (h:Q .normal a w):wpV ro P (.label l) Q a w:=λ _ _ _ _ _=>⟨.normal,a,w,h,.one stepR_label⟩
theorem EK {id:Nat} (h:Q (.exit id) a w):wpV ro P (.exit id) Q a w :=
 λ _ k _ _ _=>⟨.exit id,a,w,h,λ _ hk => .one (stepR_exit hk),λ _ hk=>⟨k,hk,.refl _ _⟩⟩
theorem IF (h:Q .ret a w):wpV ro P .ret Q a w :=
 λ _ k _ _ _=>⟨.ret,a,w,h,λ hn=>⟨_,.one (stepR_ret hn)⟩,λ _=>⟨k,.refl _ _⟩⟩
theorem Rr {x y:Code} (h:wpV ro P x (Exit.then (wpV ro P y Q) Q) a w):wpV ro P (.seq x y) Q a w:=by
 intro b k cs hro hf
 obtain ⟨e,a₁,w₁,hq,harr⟩:=h b (.code y::k) cs hro hf
 cases e with
 | normal =>
  obtain ⟨e₂,a₂,w₂,hq₂,harr₂⟩:=hq b k cs hro hf
  exact ⟨e₂,a₂,w₂,hq₂,.from (.head stepR_seq harr) harr₂⟩
 | exit id=>exact ⟨_,a₁,w₁,hq,.from (.one stepR_seq) (.past (x := .code y) rfl (by simp) harr)⟩
 | goto l=>exact harr.elim
 | ret=>exact ⟨_,a₁,w₁,hq,.from (.one stepR_seq) (.past (x := .code y) rfl (by simp) harr)⟩
 | panic ch=>exact ⟨_,a₁,w₁,hq,.from (.one stepR_seq) (.past (x := .code y) rfl (by simp) harr)⟩
 | outgrown=>exact harr.elim
theorem Dv {c:Operand} {x y:Code} {t:Bool} (hc:a.eval c = .bool t) (h:wpV ro P (if t then x else y) Q a w):wpV ro P (.cond c x y) Q a w :=
 λ b k cs hro hf=>let ⟨e,a',w',q,r⟩:=h b k cs hro hf; ⟨e,a',w',q,.from (.one (stepR_cond hc)) r⟩
theorem Mk {id:Nat} {c:Code} (h:wpV ro P c (Exit.inBlock id Q) a w):wpV ro P (.block id c) Q a w:=by
 intro b k cs hro hf
 obtain ⟨e,a₁,w₁,hq,harr⟩:=h b (.inBlock id::k) cs hro hf
 cases e with
 | normal=>exact ⟨.normal,a₁,w₁,hq,.head stepR_block (Steps.trans harr (.one stepR_inBlock))⟩
 | exit id' =>
  by_cases hid:id'=id
  · simp only [Exit.inBlock,hid,if_true] at hq
    exact ⟨.normal,a₁,w₁,hq,.head stepR_block (harr.1 k (by simp [exitTo,hid]))⟩
  · simp only [Exit.inBlock,hid,if_false] at hq
    have hb:(id == id')=false:=by simp;exact λ h=>hid h.symm
    have hx:exitTo id' (.inBlock id::k)=exitTo id' k:=by simp [exitTo,hb]
    exact ⟨.exit id',a₁,w₁,hq,λ k' hk => .head stepR_block (harr.1 k' (by rw [hx];exact hk)),
     λ hr' hk=>let ⟨k₁,h1,h2⟩:=harr.2 hr' (by rw [hx];exact hk); ⟨k₁,h1,.head stepR_block h2⟩⟩
 | goto l=>exact harr.elim
 | ret=>exact ⟨_,a₁,w₁,hq,Arr.from (k:=k) (e := .ret) (.one stepR_block) harr⟩
 | panic ch=>exact ⟨_,a₁,w₁,hq,Arr.from (k:=k) (e := .panic ch) (.one stepR_block) harr⟩
 | outgrown=>exact harr.elim
theorem W3 {b:Frame} {k:List Item} {cs:List Frame} {c:Code}:step P (lone (b.atR a (.code (.scope c)::k)) cs w) = .next (lone (b.atR a (.code c :: .inScope c::k)) cs w):=step_lone_go (by simp [stepG,stepG.exec,Frame.atR])
theorem Ap {b:Frame} {k:List Item} {cs:List Frame} {c:Code}:step P (lone (b.atR a (.inScope c::k)) cs w) = .next (lone (b.atR a k) cs w):=step_lone_go (by simp [stepG,stepG.exec,Frame.atR])
theorem Me {c:Code} (h:wpV ro P c Q a w):wpV ro P (.scope c) Q a w:=by
 intro b k cs hro hf
 obtain ⟨e,a₁,w₁,hq,harr⟩:=h b (.inScope c::k) cs hro hf
 have hx:∀ id,exitTo id (.inScope c::k)=exitTo id k:=λ _=>rfl
 cases e with
 | normal=>exact ⟨.normal,a₁,w₁,hq,.head W3 (Steps.trans harr (.one Ap))⟩
 | exit id=>exact ⟨.exit id,a₁,w₁,hq,λ k' hk => .head W3 (harr.1 k' (by rw [hx];exact hk)),λ hr' hk=>let ⟨k₁,h1,h2⟩:=harr.2 hr' (by rw [hx];exact hk); ⟨k₁,h1,.head W3 h2⟩⟩
 | goto l=>exact harr.elim
 | ret=>exact ⟨_,a₁,w₁,hq,Arr.from (k:=k) (e := .ret) (.one W3) harr⟩
 | panic ch=>exact ⟨_,a₁,w₁,hq,Arr.from (k:=k) (e := .panic ch) (.one W3) harr⟩
 | outgrown=>exact harr.elim
theorem MV {c:Code} (I:Act→World→Prop) (μ:Act→World→Nat) (h₀:I a w)
 (round:∀ a w,I a w→wpV ro P c (Exit.then (λ a' w'=>I a' w'∧μ a' w' < μ a w) Q) a w):wpV ro P (.loop c) Q a w:=by
 intro b k cs hro hf
 have key:∀ j a w,μ a w=j→I a w→∃ e a' w',Q e a' w'∧Arr P (lone (b.atR a (.code c :: .inLoop c::k)) cs w) b k cs e a' w':=by
  intro j
  induction j using Nat.strongRecOn with
  | _ j ih =>
   intro a w hn hI
   obtain ⟨e,a₁,w₁,hq,harr⟩:=round a w hI b (.inLoop c::k) cs hro hf
   cases e with
   | normal =>
    obtain ⟨hI₁,hlt⟩:=hq
    obtain ⟨e₂,a₂,w₂,hq₂,harr₂⟩:=ih (μ a₁ w₁) (hn ▸ hlt) a₁ w₁ rfl hI₁
    exact ⟨e₂,a₂,w₂,hq₂,.from (Steps.trans harr (.one stepR_inLoop)) harr₂⟩
   | exit id=>exact ⟨_,a₁,w₁,hq,.past (x := .inLoop c) rfl (by simp) harr⟩
   | goto l=>exact harr.elim
   | ret=>exact ⟨_,a₁,w₁,hq,.past (x := .inLoop c) rfl (by simp) harr⟩
   | panic ch=>exact ⟨_,a₁,w₁,hq,.past (x := .inLoop c) rfl (by simp) harr⟩
   | outgrown=>exact harr.elim
 obtain ⟨e,a',w',hq,harr⟩:=key _ a w rfl h₀
 exact ⟨e,a',w',hq,.from (.one stepR_loop) harr⟩
def yM (P:Program) (o:Oper) (a:Act) (next:Act→World→Prop) (Q:Exit→Act→World→Prop):Result Next→Prop
 | .ok (.value v) w'=>next (a.put o.dst v) w'
 | .ok .skip w'=>next (a.put o.dst undef) w'
 | .ok (.defer d) w'=>next ({ a with defers:=d::a.defers }.put o.dst undef) w'
 | .ok (.enter f args) w'=>Calls P f args w' λ
  | .returned v,w''=>next (a.put o.dst v) w''
  | .panicked ch,w''=>Q (.panic ch) a w''
  | .outgrown,_=>False
 | .ok (.round l f tmps assign body) w'=>KJ P l f tmps assign body w' λ
  | .returned v,w''=>next (a.put o.dst v) w''
  | .panicked ch,w''=>Q (.panic ch) a w''
  | .outgrown,_=>False
 | .halt (.panic v) w'=>Q (.panic [{ v,recovered:=false }]) a w'
 | _=>False
def U4 (ro:Option Nat) (P:Program) (ops:Array Oper) (Q:Exit→Act→World→Prop):List Nat→Act→World→Prop
 | [],a,w=>Q .normal a w
 | i::rest,a,w =>
  match ops[i]? with
  | none=>U4 ro P ops Q rest a w
  | some o =>
   if Region.wanted o (yielded ops a.tmps) then yM P o a (U4 ro P ops Q rest) Q ((o.semAt ro a.eval).run P w)
   else U4 ro P ops Q rest (a.put o.dst undef) w
theorem J6 {ops:Array Oper} (l:List Nat):∀ (a:Act) (w:World),U4 ro P ops Q l a w→∀ (b:Frame) (k:List Item) (cs:List Frame),b.roundOf=ro →
 ∃ e a' w',Q e a' w'∧Arr P (lone (b.atR a (.inRegion ops l::k)) cs w) b k cs e a' w':=by
 induction l with
 | nil=>exact λ a w h b k cs _=>⟨.normal,a,w,h,.one stepR_region_end⟩
 | cons i rest ih =>
  intro a w h b k cs hro
  simp only [U4] at h
  cases ho:ops[i]? with
  | none =>
   simp only [ho] at h
   obtain ⟨e,a',w',hq,harr⟩:=ih a w h b k cs hro
   have hs:=stepR_op_skip (P:=P) (b:=b) (a:=a) (k:=k) (cs:=cs) (w:=w) (ops:=ops) (i:=i) (rest:=rest) (by simp [ho])
   simp only [ho,Option.bind_none,Act.put] at hs
   exact ⟨e,a',w',hq,.from (.one hs) harr⟩
  | some o =>
   simp only [ho] at h
   by_cases hw:Region.wanted o (yielded ops a.tmps)=true
   · simp only [hw,if_true] at h
     have hg:=stepGR_op (P:=P) (b:=b) (k:=k) (cs:=cs) (w:=w) (rest:=rest) ho hw
     rw [hro] at hg
     have hfin:∀ v,(b.atR a (.inRegion ops (i::rest)::k)).finish v=b.atR (a.put o.dst v) (.inRegion ops rest::k):=by
      intro v;rw [Frame.finish_atR,ho];rfl
     cases hr:(o.semAt ro a.eval).run P w with
     | ok n w' =>
      rw [hr] at h
      cases n<;>simp only [yM] at h
      case value v =>
       obtain ⟨e,a',w'',hq,harr⟩:=ih _ _ h b k cs hro
       refine ⟨e,a',w'',hq,.from (.one (step_lone_go ?_)) harr⟩
       rw [hg,← hfin];simp [stepG.apply,hr]
      case skip =>
       obtain ⟨e,a',w'',hq,harr⟩:=ih _ _ h b k cs hro
       refine ⟨e,a',w'',hq,.from (.one (step_lone_go ?_)) harr⟩
       rw [hg,← hfin];simp [stepG.apply,hr]
      case defer d =>
       obtain ⟨e,a',w'',hq,harr⟩:=ih _ _ h b k cs hro
       refine ⟨e,a',w'',hq,.from (.one (step_lone_go ?_)) harr⟩
       have:({ b.atR a (.inRegion ops (i::rest)::k) with defers:=d::a.defers }:Frame).finish undef=b.atR ({ a with defers:=d::a.defers }.put o.dst undef) (.inRegion ops rest::k):=by
        have:=Frame.finish_atR b { a with defers:=d::a.defers } ops i rest k undef
        rw [ho] at this;exact this
       rw [hg];simp only [stepG.apply,Sem.runT_eq,hr,GStep.bare_after]
       exact congrArg (λ fr=>GStep.go { frame:=fr,callers:=cs,status := .running,dying:=none } w') this
      case enter f args =>
       obtain ⟨e,w'',fr,hR,hsteps,_,hleave⟩:=h (b.atR a (.inRegion ops (i::rest)::k)::cs)
       have henter:step P (lone (b.atR a (.inRegion ops (i::rest)::k)) cs w) = .next (lone (Frame.enter P f args .normal) (b.atR a (.inRegion ops (i::rest)::k)::cs) w') :=
        step_lone_go (by rw [hg];simp [stepG.apply,hr,Frame.atR])
       cases e with
       | returned v =>
        obtain ⟨e,a',w₃,hq,harr⟩:=ih _ _ hR b k cs hro
        refine ⟨e,a',w₃,hq,.from (.head henter (Steps.trans hsteps (.one ?_))) harr⟩
        rw [← hfin];exact step_leave_returned hleave
       | panicked chain =>
        refine ⟨.panic chain,a,w'',hR,.inRegion ops (i::rest)::k,.head henter (Steps.trans hsteps (.one ?_))⟩
        rw [← Frame.raise_atR];exact step_leave_panicked hleave
       | outgrown=>exact hR.elim
      case round l f tmps assign body =>
       obtain ⟨e,w'',hR,hsteps⟩:=h (b.atR a (.inRegion ops (i::rest)::k)) cs
       have henter:step P (lone (b.atR a (.inRegion ops (i::rest)::k)) cs w) = .next (lone (Frame.round l f tmps assign body .normal) (b.atR a (.inRegion ops (i::rest)::k)::cs) w') :=
        step_lone_go (by rw [hg];simp [stepG.apply,hr,Frame.atR])
       cases e with
       | returned v =>
        obtain ⟨e,a',w₃,hq,harr⟩:=ih _ _ hR b k cs hro
        refine ⟨e,a',w₃,hq,.from (.head henter ?_) harr⟩
        rw [← hfin];exact hsteps
       | panicked chain =>
        refine ⟨.panic chain,a,w'',hR,.inRegion ops (i::rest)::k,.head henter ?_⟩
        rw [← Frame.raise_atR];exact hsteps
       | outgrown=>exact hR.elim
     | halt x w' =>
      rw [hr] at h
      cases x<;>simp only [yM] at h
      refine ⟨_,a,w',h,.inRegion ops (i::rest)::k,.one (step_lone_go ?_)⟩
      rw [hg,← Frame.raise_atR];simp [stepG.apply,hr]
   · simp only [hw,if_false,Bool.false_eq_true] at h
     obtain ⟨e,a',w',hq,harr⟩:=ih _ _ h b k cs hro
     have hs:=stepR_op_skip (P:=P) (b:=b) (a:=a) (k:=k) (cs:=cs) (w:=w) (ops:=ops) (i:=i) (rest:=rest) (by simp [ho];simpa using hw)
     simp only [ho,Option.bind_some] at hs
     exact ⟨e,a',w',hq,.from (.one hs) harr⟩
theorem Fd {id:Nat} {ops:Array Oper} (h:U4 ro P ops Q (List.range ops.size) a w):wpV ro P (.region id ops false) Q a w :=
 λ b k cs hro _=>let ⟨e,a',w',q,r⟩:=J6 _ a w h b k cs hro; ⟨e,a',w',q,.from (.one stepR_region) r⟩
theorem xM {id:Nat} {ops:Array Oper} (h:∀ t,U4 ro P ops Q (Region.schedule (P.follows .mixedOrders) ops t) a { w with drawn:=w.drawn+1 }):wpV ro P (.region id ops true) Q a w :=
 λ b k cs hro _=>let ⟨e,a',w',q,r⟩:=J6 _ a _ (h _) b k cs hro; ⟨e,a',w',q,.from (.one stepR_region_draw) r⟩
def Zcn (P:Program) (l:Nat) (R:RT):Exit→Act→World→Prop
 | .normal,_,w=>∃ v w',(Instr.endRound l none).run P w = .ok v w'∧R (.returned v) w'
 | .ret,_,w=>∃ v w',(Instr.endRound l (some .ret)).run P w = .ok v w'∧R (.returned v) w'
 | .exit id,_,w=>∃ v w',(Instr.endRound l (some (.exit id))).run P w = .ok v w'∧R (.returned v) w'
 | .panic ch,a,w=>a.defers=[]∧R (.panicked ch) w
 | _,_,_=>False
theorem AH {l:Nat} {f:FuncId} {tmps:Array Value} {assign body:Code} {R:RT} (hf:NI P f)
 (h:wpV (some l) P assign (Exit.then (λ a₁ w₁=>∃ w₂,(Instr.beginRound l).run P w₁ = .ok () w₂∧wpV (some l) P body (Zcn P l R) a₁ w₂) (λ _ _ _=>False)) { tmps:=tmps,defers:=[] } w) :
 KJ P l f tmps assign body w R:=by
 intro c cs
 let b:Frame:={ (default:Frame) with fn:=f,kind := .normal,roundOf:=some l }
 have hb0:Frame.round l f tmps assign body .normal=b.atR { tmps:=tmps,defers:=[] } [.code assign,.beginRound,.code body]:=by simp [Frame.round,Frame.atR,b]
 obtain ⟨e,a₁,w₁,hq,harr⟩:=h b [.beginRound,.code body] (c::cs) rfl hf
 rw [← hb0] at harr
 cases e with
 | normal =>
  obtain ⟨w₂,hbr,hbody⟩:=hq
  have s1:Steps P (lone (b.atR a₁ [.beginRound,.code body]) (c::cs) w₁) (lone (b.atR a₁ [.code body]) (c::cs) w₂) := .one (stepR_beginRound rfl hbr)
  obtain ⟨e₂,a₂,w₃,hq₂,harr₂⟩:=hbody b [] (c::cs) rfl hf
  cases e₂ with
  | normal =>
   obtain ⟨v,w₄,hend,hR⟩:=hq₂
   exact ⟨.returned v,w₄,hR,(Steps.trans harr s1).trans (Steps.trans harr₂ (.one (stepR_round_end rfl rfl hend)))⟩
  | ret =>
   obtain ⟨v,w₄,hend,hR⟩:=hq₂
   obtain ⟨k₁,hs⟩:=harr₂.2 rfl
   exact ⟨.returned v,w₄,hR,(Steps.trans harr s1).trans (Steps.trans hs (.one (stepR_round_ret rfl rfl hend)))⟩
  | exit id =>
   obtain ⟨v,w₄,hend,hR⟩:=hq₂
   obtain ⟨k₁,hk,hs⟩:=harr₂.2 rfl rfl
   exact ⟨.returned v,w₄,hR,(Steps.trans harr s1).trans (Steps.trans hs (.one (stepR_round_exit rfl rfl hk hend)))⟩
  | panic ch =>
   obtain ⟨hd,hR⟩:=hq₂
   obtain ⟨todo,hs⟩:=harr₂
   obtain ⟨fn,hfn⟩:=hf
   refine ⟨.panicked ch,w₃,hR,(Steps.trans harr s1).trans (Steps.trans hs (.one ?_))⟩
   exact step_leave_panicked (P:=P) (fr:={ b.atR a₂ todo with mode := .panicking ch }) ⟨rfl,hd,fn,hfn⟩
  | goto t=>exact hq₂.elim
  | outgrown=>exact hq₂.elim
 | exit id=>exact hq.elim
 | goto t=>exact hq.elim
 | ret=>exact hq.elim
 | panic ch=>exact hq.elim
 | outgrown=>exact hq.elim
def PZ (ro:Option Nat) (P:Program) (l:Nat) (Q:Exit→Act→World→Prop) (a':Act):Ending→World→Prop
 | .returned _,w₃=>∃ jump w₄,(Instr.endLoop l).run P w₃ = .ok jump w₄∧(match jump with
  | none=>Q .normal a' w₄
  | some c=>wpV ro P c Q a' w₄)
 | .panicked ch,w₃=>Q (.panic ch) a' w₃
 | .outgrown,_=>False
theorem AL {g:Operand} {ps:Array Tmp} {assign body:Code}
 (h:∀ fn,NI P fn→∃ (l:Nat) (mark:List Deferred) (w₁:World) (d:Deferred) (w₁':World) (f:FuncId) (args:Array Value) (w₂:World),
  (Instr.enterLoop fn a.tmps ps assign body ro).run P w = .ok (l,mark) w₁∧(resolve a.eval (rangeCall g l) 0).run P w₁ = .ok d w₁'∧(invoke d.target d.args).run P w₁' = .ok (.enter f args) w₂ ∧
  Calls P f args w₂ (PZ ro P l Q { a with defers:=mark++a.defers })):wpV ro P (.rangeFunc g ps assign body) Q a w:=by
 intro b k cs hro hf
 obtain ⟨l,mark,w₁,d,w₁',f,args,w₂,he,hres,hinv,hcall⟩:=h b.fn hf
 rw [← hro] at he
 have henter:=stepR_rangeFunc (P:=P) (b:=b) (a:=a) (k:=k) (cs:=cs) (w:=w) he hres hinv
 obtain ⟨e,w₃,fr,hR,hsteps,_,hleave⟩:=hcall (b.atR { a with defers:=mark++a.defers } (.inRangeFunc l::k)::cs)
 cases e with
 | outgrown=>exact hR.elim
 | returned v =>
  obtain ⟨jump,w₄,hend,hj⟩:=hR
  have sback:Steps P (lone (b.atR a (.code (.rangeFunc g ps assign body)::k)) cs w) (lone (b.atR { a with defers:=mark++a.defers } ((jump.map Item.code).toList++k)) cs w₄):=by
   refine .head henter (Steps.trans hsteps (.head ?_ (.one (stepR_endRangeFunc hend))))
   rw [← finish_atR_inRangeFunc l v];exact step_leave_returned hleave
  cases jump with
  | none=>exact ⟨.normal,_,w₄,hj,sback⟩
  | some c =>
   obtain ⟨e',a'',w₅,hq,harr⟩:=hj b k cs hro hf
   exact ⟨e',a'',w₅,hq,.from sback harr⟩
 | panicked chain =>
  refine ⟨.panic chain,_,w₃,hR,.inRangeFunc l::k,.head henter (Steps.trans hsteps (.one ?_))⟩
  rw [← Frame.raise_atR];exact step_leave_panicked hleave
def Zae (P:Program) (fn:Func) (R:RT):Exit→Act→World→Prop
 | .normal,a,w | .ret,a,w=>LeavesInM Fence.wide 0 P fn a.tmps R a.defers .returning w
 | .panic ch,a,w=>LeavesInM Fence.wide 0 P fn a.tmps R a.defers (.panicking ch) w
 | _,_,_=>False
theorem ze {f:FuncId} {fn:Func} {c:Code} {args:Array Value} {R:RT} (hf:P.funcs[f]?=some fn) (hb:fn.body=some c)
 (h:wpV none P c (Zae P fn R) { tmps:=args++Array.replicate (fn.ntmps - args.size) undef,defers:=[] } w):Calls P f args w R:=by
 refine callsIn_wide (n:=0) |>.1 ⟨trivial,λ cs hr=>?_⟩
 let b:Frame:={ (default:Frame) with fn:=f,kind := .normal,roundOf:=none }
 have henter:Frame.enter P f args .normal=b.atR { tmps:=args++Array.replicate (fn.ntmps - args.size) undef,defers:=[] } [.code c]:=by simp [Frame.enter,Frame.atR,hf,hb,b]
 obtain ⟨e,a',w',hq,harr⟩:=h b [] cs rfl ⟨fn,hf⟩
 rw [← henter] at harr
 cases e with
 | normal =>
  obtain ⟨e',w'',fr',hR,hs,hfn,hl⟩:=leaves_stepsInM (F:=Fence.wide) (n:=0) a'.defers .returning w' { b.atR a' [] with mode := .returning } cs rfl rfl rfl hf rfl trivial (room_wide _) hq
  exact ⟨e',w'',fr',hR,ComesIn.of_steps (stepsIn_wide.2 (Steps.trans harr (.one (stepR_end rfl)))) hs,hfn,hl⟩
 | ret =>
  obtain ⟨todo,hs₀⟩:=harr.1 rfl
  obtain ⟨e',w'',fr',hR,hs,hfn,hl⟩:=leaves_stepsInM (F:=Fence.wide) (n:=0) a'.defers .returning w' { b.atR a' todo with mode := .returning } cs rfl rfl rfl hf rfl trivial (room_wide _) hq
  exact ⟨e',w'',fr',hR,ComesIn.of_steps (stepsIn_wide.2 hs₀) hs,hfn,hl⟩
 | panic chain =>
  obtain ⟨todo,hs₀⟩:=harr
  obtain ⟨e',w'',fr',hR,hs,hfn,hl⟩:=leaves_stepsInM (F:=Fence.wide) (n:=0) a'.defers (.panicking chain) w' { b.atR a' todo with mode := .panicking chain } cs rfl rfl rfl hf rfl trivial (room_wide _) hq
  exact ⟨e',w'',fr',hR,ComesIn.of_steps (stepsIn_wide.2 hs₀) hs,hfn,hl⟩
 | exit id=>exact hq.elim
 | goto l=>exact hq.elim
 | outgrown=>exact hq.elim
end rules
end Go.Sw
namespace Go.Sw
abbrev Env:=Nat→Value
def upd (N:Nat) (ρ:Env) (d:Nat) (v:Value):Env:=λ i=>bif (Nat.beq i d&&Nat.blt d N) then v else ρ i
def put (N:Nat) (ρ:Env) (d:Option Nat) (v:Value):Env:=match d with
 | some d=>upd N ρ d v
 | none=>ρ
def ev (ρ:Env):Operand→Value
 | .tmp t=>ρ t
 | .const v=>v
 | .global g => .pointer (some ⟨g,0,none⟩)
 | .func f => .func (.func f) #[] #[]
def YC (N:Nat) (a:Act) (ρ:Env):Prop:=a.tmps.size=N∧∀ i,a.tmps.getD i undef=ρ i
theorem YC.eval {N:Nat} {a:Act} {ρ:Env} (h:YC N a ρ):a.eval=ev ρ:=by
 funext x
 cases x with
 | tmp t=>exact h.2 t
 | _=>rfl
theorem YC.put {N:Nat} {a:Act} {ρ:Env} (h:YC N a ρ) (d:Option Nat) (v:Value):YC N (a.put d v) (put N ρ d v):=by
 cases d with
 | none=>exact h
 | some d =>
  refine ⟨by simp [Act.put,h.1],λ i=>?_⟩
  have h2:=h.2 i
  simp only [Act.put,Sw.put,upd]
  have h1:=h.1
  by_cases hi:i=d
  · subst hi
    by_cases hn:i < N
    · have:(Nat.beq i i&&Nat.blt i N)=true:=by simp [Nat.blt,hn];omega
      rw [this]
      simp [hn,h1]
    · have:(Nat.beq i i&&Nat.blt i N)=false:=by
       rw [Bool.and_eq_false_iff];right;rw [Bool.eq_false_iff];simp [Nat.blt];omega
      rw [this]
      simp only [cond_false]
      rw [← h2]
      simp [h1,hn]
  · have:Nat.beq i d=false:=by rw [Bool.eq_false_iff];simpa using hi
    rw [this]
    simp only [Bool.false_and,cond_false]
    rw [← h2]
    have hne:d≠i:=λ e=>hi e.symm
    simp [Array.getElem?_setIfInBounds_ne hne]
theorem YC.defers {N:Nat} {a:Act} {ρ:Env} (h:YC N a ρ) (ds:List Deferred):YC N { a with defers:=ds } ρ:=h
theorem Wx {N:Nat} {ρ:Env} {d:Option Nat} {v:Value} {i:Nat} (h:d≠some i):put N ρ d v i=ρ i:=by
 cases d with
 | none=>rfl
 | some d =>
  have:Nat.beq i d=false:=by rw [Bool.eq_false_iff];intro e;simp at e;exact h (by rw [e])
  simp [put,upd,this]
def Xj:Value→Option Bool
 | .bool b=>some b
 | _=>none
def Zl (v:Value) (want:Bool) (p q:Prop):Prop:=match v with
 | .bool b=>match (b == want) with
  | true=>p
  | false=>q
 | _=>q
theorem YO {v:Value} {want:Bool} {p q:Prop} (h:Xj v=some want):Zl v want p q=p:=by
 cases v<;>simp [Xj] at h
 subst h;simp [Zl]
theorem QH {v:Value} {want:Bool} {p q:Prop} (h:Xj v≠some want):Zl v want p q=q:=by
 cases v<;>simp [Xj] at h<;>simp [Zl]
 rename_i b
 have:(b == want)=false:=by simpa using h
 rw [this]
def X4 (ops:Array Oper) (ρ:Env) (j:Nat):Value:=match (ops[j]?).bind (·.dst) with
 | some d=>ρ d
 | none=>undef
theorem qq {N:Nat} {a:Act} {ρ:Env} (h:YC N a ρ) (ops:Array Oper) (j:Nat):yielded ops a.tmps j=Xj (X4 ops ρ j):=by
 unfold yielded X4
 cases hd:(ops[j]?).bind (·.dst) with
 | none=>rfl
 | some d =>
  have h2:=h.2 d
  simp only [Option.bind_some]
  rw [← h2]
  by_cases hlt:d < a.tmps.size
  · rw [Array.getElem?_eq_getElem hlt]
    simp [hlt]
    cases a.tmps[d]<;>rfl
  · have hge:a.tmps.size≤d:=Nat.le_of_not_lt hlt
    simp [Array.getElem?_eq_none hge,Xj,undef]
def YP (ops:Array Oper) (o:Oper) (ρ:Env) (p q:Prop):Prop:=match o.guard with
 | none=>p
 | some (j,want)=>Zl (X4 ops ρ j) want p q
theorem CY {N:Nat} {a:Act} {ρ:Env} (h:YC N a ρ) (ops:Array Oper) (o:Oper) (p q:Prop) :
 YP ops o ρ p q=(if Region.wanted o (yielded ops a.tmps) then p else q):=by
 unfold YP Region.wanted
 cases hg:o.guard with
 | none=>simp
 | some g =>
  obtain ⟨j,want⟩:=g
  simp only [qq h]
  by_cases hb:Xj (X4 ops ρ j)=some want
  · rw [YO hb,if_pos (by rw [hb];simp)]
  · rw [QH hb,if_neg (by simpa using hb)]
def Jb (QP:List PanicEntry→World→Prop) (k:Value→World→Prop):Ending→World→Prop
 | .returned v,w=>k v w
 | .panicked ch,w=>QP ch w
 | .outgrown,_=>False
def V9 (P:Program) (QP:List PanicEntry→World→Prop) (kd:Deferred→World→Prop) (k:Value→World→Prop):Result Next→Prop
 | .ok (.value v) w=>k v w
 | .ok .skip w=>k undef w
 | .ok (.defer d) w=>kd d w
 | .ok (.enter f args) w=>Calls P f args w (Jb QP k)
 | .ok (.round l f tmps assign body) w=>KJ P l f tmps assign body w (Jb QP k)
 | .halt (.panic v) w=>QP [{ v,recovered:=false }] w
 | _=>False
def opD (P:Program) (s:Sem Next) (w:World) (QP:List PanicEntry→World→Prop) (kd:Deferred→World→Prop) (k:Value→World→Prop):Prop :=
 V9 P QP kd k (s.run P w)
theorem JN {QP QP':List PanicEntry→World→Prop} {k k':Value→World→Prop} (hp:∀ ch w,QP ch w→QP' ch w) (hk:∀ v w,k v w→k' v w) :
 ∀ e w,Jb QP k e w→Jb QP' k' e w:=by
 intro e w h
 cases e with
 | returned v=>exact hk _ _ h
 | panicked ch=>exact hp _ _ h
 | outgrown=>exact h
theorem Kv {P:Program} {s:Sem Next} {w:World} {QP QP':List PanicEntry→World→Prop} {kd kd':Deferred→World→Prop} {k k':Value→World→Prop}
 (h:opD P s w QP kd k) (hp:∀ ch w,QP ch w→QP' ch w) (hd:∀ d w,kd d w→kd' d w) (hk:∀ v w,k v w→k' v w):opD P s w QP' kd' k':=by
 unfold opD at *
 cases hr:s.run P w with
 | ok n w' =>
  rw [hr] at h
  cases n<;>simp only [V9] at h ⊢ <;> first
   | exact hk _ _ h
   | exact hd _ _ h
   | exact Calls.mono h (JN hp hk)
   | exact KJ.mono h (JN hp hk)
 | halt x w' =>
  rw [hr] at h
  cases x<;>simp only [V9] at h ⊢ <;> exact hp _ _ h
abbrev K:=Exit→Env→List Deferred→World→Prop
abbrev KP:=List PanicEntry→Env→List Deferred→World→Prop
def Y6:Op→Bool
 | .defer _=>true
 | _=>false
def opE (P:Program) (ro:Option Nat) (QP:KP) (o:Oper) (ρ:Env) (ds:List Deferred) (w:World) (kd:Deferred→World→Prop) (k:Value→World→Prop):Prop :=
 match Y6 o.op&&ro.isSome with
 | true=>False
 | false=>opD P (execOp (ev ρ) o) w (λ ch w=>QP ch ρ ds w) kd k
def Vw (ops:Array Oper) (o:Oper) (st:Option ((Nat×Bool)×Bool)):Option ((Nat×Bool)×Bool):=match st with
 | none=>none
 | some g=>match (ops[g.1.1]?).bind (·.dst),o.dst with
  | some d,some d'=>bif Nat.beq d d' then none else st
  | _,_=>st
def Yb (P:Program) (N:Nat) (ro:Option Nat) (ops:Array Oper) (Q:K) (QP:KP):List Oper→Option ((Nat×Bool)×Bool)→Env→List Deferred→World→Prop
 | [],_,ρ,ds,w=>Q .normal ρ ds w
 | o::rest,st,ρ,ds,w =>
  match o.guard with
  | none=>opE P ro QP o ρ ds w (λ d w=>Yb P N ro ops Q QP rest none (put N ρ o.dst undef) (d::ds) w) (λ v w=>Yb P N ro ops Q QP rest none (put N ρ o.dst v) ds w)
  | some (j,want) =>
   match (match st with
    | some ((j',want'),act)=>bif Nat.beq j j'&&want == want' then some act else none
    | none=>none) with
   | some true=>opE P ro QP o ρ ds w (λ d w=>Yb P N ro ops Q QP rest (Vw ops o (some ((j,want),true))) (put N ρ o.dst undef) (d::ds) w)
    (λ v w=>Yb P N ro ops Q QP rest (Vw ops o (some ((j,want),true))) (put N ρ o.dst v) ds w)
   | some false=>Yb P N ro ops Q QP rest (Vw ops o (some ((j,want),false))) (put N ρ o.dst undef) ds w
   | none=>Zl (X4 ops ρ j) want
    (opE P ro QP o ρ ds w (λ d w=>Yb P N ro ops Q QP rest (Vw ops o (some ((j,want),true))) (put N ρ o.dst undef) (d::ds) w)
     (λ v w=>Yb P N ro ops Q QP rest (Vw ops o (some ((j,want),true))) (put N ρ o.dst v) ds w))
    (Yb P N ro ops Q QP rest (Vw ops o (some ((j,want),false))) (put N ρ o.dst undef) ds w)
def denOp (P:Program) (N:Nat) (ro:Option Nat) (ops:Array Oper) (QP:KP) (i:Nat) (k:Env→List Deferred→World→Prop) (ρ:Env) (ds:List Deferred) (w:World):Prop :=
 match ops[i]? with
 | none=>k ρ ds w
 | some o=>YP ops o ρ (opE P ro QP o ρ ds w (λ d w=>k (put N ρ o.dst undef) (d::ds) w) (λ v w=>k (put N ρ o.dst v) ds w)) (k (put N ρ o.dst undef) ds w)
def jI (P:Program) (N:Nat) (ro:Option Nat) (ops:Array Oper) (Q:Env→List Deferred→World→Prop) (QP:KP):Nat→Array Bool→Env→List Deferred→World→Prop
 | 0,listed,ρ,ds,w=>Region.ready .any ops listed=[]∧Q ρ ds w
 | fuel+1,listed,ρ,ds,w =>
  (Region.ready .any ops listed=[]→Q ρ ds w) ∧
  ∀ i∈Region.ready .any ops listed,denOp P N ro ops QP i (jI P N ro ops Q QP fuel (listed.setIfInBounds i true)) ρ ds w
def Rb (P:Program) (N:Nat) (ro:Option Nat) (ops:Array Oper) (Q:Env→List Deferred→World→Prop) (QP:KP) (ρ:Env) (ds:List Deferred) (w:World):Prop :=
 P.follows .mixedOrders=true∧jI P N ro ops Q QP ops.size (Array.replicate ops.size false) ρ ds { w with drawn:=w.drawn+1 }
def Zr (v:Value) (p q:Prop):Prop:=match v with
 | .bool true=>p
 | .bool false=>q
 | _=>False
def Qv (k:Env→List Deferred→World→Prop) (Q:K):K:=λ e ρ ds w=>match e with
 | .normal=>k ρ ds w
 | e=>Q e ρ ds w
def JU (id:Nat) (Q:K):K:=λ e ρ ds w=>match e with
 | .exit id'=>bif Nat.beq id' id then Q .normal ρ ds w else Q (.exit id') ρ ds w
 | e=>Q e ρ ds w
def mix (W:List Nat) (ρ σ:Env):Env:=λ i=>bif W.contains i then σ i else ρ i
def Y3 (ops:Array Oper):List Nat:=ops.toList.filterMap (·.dst)
def Xi:Code→List Nat
 | .region _ ops _=>Y3 ops
 | .seq a b=>Xi a++Xi b
 | .cond _ a b=>Xi a++Xi b
 | .block _ c=>Xi c
 | .loop c=>Xi c
 | .scope c=>Xi c
 | _=>[]
def xZ (N:Nat) (Q:K) (QP:KP):Exit→Act→World→Prop
 | .panic ch,a,w=>∃ ρ,YC N a ρ∧QP ch ρ a.defers w
 | .outgrown,_,_=>False
 | e,a,w=>∃ ρ,YC N a ρ∧Q e ρ a.defers w
def den (P:Program) (N:Nat) (ro:Option Nat):Code→K→KP→Env→List Deferred→World→Prop
 | .skip,Q,_,ρ,ds,w=>Q .normal ρ ds w
 | .label _,Q,_,ρ,ds,w=>Q .normal ρ ds w
 | .region _ ops draw,Q,QP,ρ,ds,w=>match draw with
  | false=>Yb P N ro ops Q QP ops.toList none ρ ds w
  | true=>Rb P N ro ops (Q .normal) QP ρ ds w
 | .seq a b,Q,QP,ρ,ds,w=>den P N ro a (Qv (λ ρ ds w=>den P N ro b Q QP ρ ds w) Q) QP ρ ds w
 | .cond c a b,Q,QP,ρ,ds,w=>Zr (ev ρ c) (den P N ro a Q QP ρ ds w) (den P N ro b Q QP ρ ds w)
 | .block id c,Q,QP,ρ,ds,w=>den P N ro c (JU id Q) QP ρ ds w
 | .scope c,Q,QP,ρ,ds,w=>den P N ro c Q QP ρ ds w
 | .loop c,Q,QP,ρ,ds,w=>∃ (I:Env→List Deferred→World→Prop) (μ:Env→World→Nat),I ρ ds w∧∀ σ ds w,I σ ds w →
  den P N ro c (Qv (λ ρ' ds' w'=>I ρ' ds' w'∧μ ρ' w' < μ σ w) Q) QP (mix (Xi c) ρ σ) ds w
 | .rangeFunc g ps asg body,Q,QP,ρ,ds,w=>∀ a,YC N a ρ→a.defers=ds→wpV ro P (Code.rangeFunc g ps asg body) (λ e a' w'=>match e with
  | .panic ch=>YC N a' ρ∧QP ch ρ a'.defers w'
  | .outgrown=>False
  | e=>YC N a' ρ∧Q e ρ a'.defers w') a w
 | .exit id,Q,_,ρ,ds,w=>Q (.exit id) ρ ds w
 | .ret,Q,_,ρ,ds,w=>Q .ret ρ ds w
 | _,_,_,_,_,_=>False
section
variable {P:Program} {N:Nat} {ro:Option Nat}
theorem Cd {o:Oper} {a:Act} {next:Act→World→Prop} {Q:Exit→Act→World→Prop} {s:Sem Next} {w:World} {QP:List PanicEntry→World→Prop} {kd:Deferred→World→Prop} {k:Value→World→Prop}
 (h:opD P s w QP kd k) (hp:∀ ch w,QP ch w→Q (.panic ch) a w) (hk:∀ v w,k v w→next (a.put o.dst v) w)
 (hd:∀ d w,kd d w→next ({ a with defers:=d::a.defers }.put o.dst undef) w) :
 yM P o a next Q (s.run P w):=by
 unfold opD at h
 cases hr:s.run P w with
 | ok n w' =>
  rw [hr] at h
  cases n<;>simp only [V9] at h<;>simp only [yM]
  case value v=>exact hk _ _ h
  case skip=>exact hk _ _ h
  case defer d=>exact hd _ _ h
  case enter f args =>
   refine h.mono λ e w'' he=>?_
   cases e with
   | returned v=>exact hk _ _ he
   | panicked ch=>exact hp _ _ he
   | outgrown=>exact he.elim
  case round l f tmps assign body =>
   refine h.mono λ e w'' he=>?_
   cases e with
   | returned v=>exact hk _ _ he
   | panicked ch=>exact hp _ _ he
   | outgrown=>exact he.elim
 | halt x w' =>
  rw [hr] at h
  cases x<;>simp only [V9] at h<;>simp only [yM]
  exact hp _ _ h
theorem G0 {o:Oper} {a:Act} {ρ:Env} {next:Act→World→Prop} {Q:Exit→Act→World→Prop} {QP:KP} {w:World} {kd:Deferred→World→Prop} {k:Value→World→Prop}
 (ha:YC N a ρ) (h:opE P ro QP o ρ a.defers w kd k) (hp:∀ ch w,QP ch ρ a.defers w→Q (.panic ch) a w) (hk:∀ v w,k v w→next (a.put o.dst v) w)
 (hd:∀ d w,kd d w→next ({ a with defers:=d::a.defers }.put o.dst undef) w):yM P o a next Q ((o.semAt ro a.eval).run P w):=by
 unfold opE at h
 have hsem:(Y6 o.op&&ro.isSome)=false→o.semAt ro a.eval=execOp a.eval o:=by
  intro hf
  unfold Oper.semAt
  cases ro with
  | none=>rfl
  | some l=>cases hop:o.op<;>simp [Y6,hop] at hf<;>rfl
 cases hb:(Y6 o.op&&ro.isSome) with
 | true=>rw [hb] at h;exact h.elim
 | false =>
  rw [hb] at h
  rw [hsem hb,ha.eval]
  exact Cd h hp hk hd
theorem GJ {ops:Array Oper} {Q:K} {QP:KP}:∀ (l:List Oper) (k0:Nat),(∀ j,l[j]?=ops[k0+j]?)→∀ (st:Option ((Nat×Bool)×Bool)) (a:Act) (ρ:Env) (w:World),YC N a ρ →
 (∀ g,st=some g→(g.2=true↔Xj (X4 ops ρ g.1.1)=some g.1.2))→Yb P N ro ops Q QP l st ρ a.defers w →
 U4 ro P ops (xZ N (λ e ρ' ds w=>(∀ i,i ∉ Y3 ops→ρ' i=ρ i)∧Q e ρ' ds w) QP) (List.range' k0 l.length) a w:=by
 intro l
 induction l with
 | nil=>intro k0 _ st a ρ w ha _ h;exact ⟨ρ,ha,λ _ _=>rfl,h⟩
 | cons o rest ih =>
  intro k0 hl st a ρ w ha hst h
  have h0:ops[k0]?=some o:=by simpa using (hl 0).symm
  have hw':∀ d,o.dst=some d→d∈Y3 ops:=by
   intro d hd
   have hm:o∈ops.toList:=by rw [← Array.getElem?_toList] at h0;exact List.mem_of_getElem? h0
   exact List.mem_filterMap.2 ⟨o,hm,hd⟩
  have ih':∀ st' (a':Act) (v:Value) (w':World),YC N a' (put N ρ o.dst v)→(∀ g,st'=some g→(g.2=true↔Xj (X4 ops (put N ρ o.dst v) g.1.1)=some g.1.2)) →
   Yb P N ro ops Q QP rest st' (put N ρ o.dst v) a'.defers w' →
   U4 ro P ops (xZ N (λ e ρ' ds w=>(∀ i,i ∉ Y3 ops→ρ' i=ρ i)∧Q e ρ' ds w) QP) (List.range' (k0+1) rest.length) a' w':=by
   intro st' a' v w' ha' hs' hh
   have hrest:=ih (k0+1) (λ j=>by have:=hl (j+1);simpa [Nat.add_assoc,Nat.add_comm 1 j] using this) st' a' _ w' ha' hs' hh
   have hsub:(λ (e:Exit) (ρ':Env) (ds:List Deferred) (w:World)=>(∀ i,i ∉ Y3 ops→ρ' i=put N ρ o.dst v i)∧Q e ρ' ds w) =
    (λ e ρ' ds w=>(∀ i,i ∉ Y3 ops→ρ' i=ρ i)∧Q e ρ' ds w):=by
    funext e ρ' ds w
    have:(∀ i,i ∉ Y3 ops→ρ' i=put N ρ o.dst v i)↔(∀ i,i ∉ Y3 ops→ρ' i=ρ i):=by
     constructor<;>intro hh i hi<;>have:=hh i hi<;>rw [Wx (λ e=>hi (hw' i e))] at * <;> exact this
    rw [this]
   rw [hsub] at hrest
   exact hrest
  have hkeep:∀ (g:(Nat×Bool)×Bool) (v:Value),(g.2=true↔Xj (X4 ops ρ g.1.1)=some g.1.2) →
   ∀ g',Vw ops o (some g)=some g'→(g'.2=true↔Xj (X4 ops (put N ρ o.dst v) g'.1.1)=some g'.1.2):=by
   intro g v hg g' hk
   unfold Vw at hk
   simp only at hk
   have hsame:(∀ d,(ops[g.1.1]?).bind (·.dst)=some d→o.dst≠some d)→X4 ops (put N ρ o.dst v) g.1.1=X4 ops ρ g.1.1:=by
    intro hne
    unfold X4
    cases hd:(ops[g.1.1]?).bind (·.dst) with
    | none=>rfl
    | some d=>exact Wx (hne d hd)
   cases hd:(ops[g.1.1]?).bind (·.dst) with
   | none =>
    rw [hd] at hk;simp at hk;subst hk
    rw [hsame (λ d h'=>by rw [hd] at h';cases h')];exact hg
   | some d =>
    cases hd':o.dst with
    | none =>
     rw [hd,hd'] at hk;simp at hk;subst hk
     have:=hsame (λ d h'=>by rw [hd'];simp)
     rw [hd'] at this
     rw [this];exact hg
    | some d' =>
     rw [hd,hd'] at hk
     simp only at hk
     cases hb:Nat.beq d d' with
     | true=>rw [hb] at hk;simp at hk
     | false =>
      rw [hb] at hk
      simp at hk
      subst hk
      have hne:d≠d':=λ e=>by rw [Bool.eq_false_iff] at hb;exact hb (by rw [e];simp)
      have:=hsame (λ x hx=>by rw [hd] at hx;injection hx with hx;subst hx;rw [hd'];intro e;injection e with e;exact hne e.symm)
      rw [hd'] at this
      rw [this];exact hg
  simp only [List.length_cons,List.range'_succ,U4,h0]
  have exec:∀ st',(∀ v,∀ g',st'=some g'→(g'.2=true↔Xj (X4 ops (put N ρ o.dst v) g'.1.1)=some g'.1.2)) →
   opE P ro QP o ρ a.defers w (λ d w=>Yb P N ro ops Q QP rest st' (put N ρ o.dst undef) (d::a.defers) w) (λ v w=>Yb P N ro ops Q QP rest st' (put N ρ o.dst v) a.defers w) →
   yM P o a (U4 ro P ops (xZ N (λ e ρ' ds w=>(∀ i,i ∉ Y3 ops→ρ' i=ρ i)∧Q e ρ' ds w) QP) (List.range' (k0+1) rest.length)) (xZ N (λ e ρ' ds w=>(∀ i,i ∉ Y3 ops→ρ' i=ρ i)∧Q e ρ' ds w) QP) ((o.semAt ro a.eval).run P w):=by
   intro st' hs' hh
   refine G0 ha hh (λ ch w hq=>⟨_,ha,hq⟩) (λ v w' hv=>?_) (λ d w' hv=>?_)
   · exact ih' st' _ v w' (ha.put _ _) (hs' v) (by
      have:(a.put o.dst v).defers=a.defers:=by cases o.dst<;>rfl
      rw [this];exact hv)
   · exact ih' st' _ undef w' (YC.put (YC.defers ha _) _ _) (hs' undef) (by
      have:(({ a with defers:=d::a.defers }:Act).put o.dst undef).defers=d::a.defers:=by cases o.dst<;>rfl
      rw [this];exact hv)
  have skip:∀ st',(∀ g',st'=some g'→(g'.2=true↔Xj (X4 ops (put N ρ o.dst undef) g'.1.1)=some g'.1.2))→Yb P N ro ops Q QP rest st' (put N ρ o.dst undef) a.defers w →
   U4 ro P ops (xZ N (λ e ρ' ds w=>(∀ i,i ∉ Y3 ops→ρ' i=ρ i)∧Q e ρ' ds w) QP) (List.range' (k0+1) rest.length) (a.put o.dst undef) w:=by
   intro st' hs' hh
   exact ih' st' _ undef w (ha.put _ _) hs' (by
    have:(a.put o.dst undef).defers=a.defers:=by cases o.dst<;>rfl
    rw [this];exact hh)
  unfold Yb at h
  cases hg:o.guard with
  | none =>
   simp only [hg] at h
   have hwant:Region.wanted o (yielded ops a.tmps)=true:=by simp [Region.wanted,hg]
   rw [if_pos hwant]
   exact exec none (λ v g' e=>by cases e) h
  | some g =>
   obtain ⟨j,want⟩:=g
   simp only [hg] at h
   have hiff:Region.wanted o (yielded ops a.tmps)=true↔Xj (X4 ops ρ j)=some want:=by
    simp [Region.wanted,hg,qq ha]
   have hact:∀ act,(match st with
    | some ((j',want'),act)=>bif Nat.beq j j'&&want == want' then some act else none
    | none=>none)=some act→(act=true↔Xj (X4 ops ρ j)=some want):=by
    intro act hm
    cases st with
    | none=>simp at hm
    | some s =>
     obtain ⟨⟨j',want'⟩,act'⟩:=s
     simp only at hm
     cases hc:(Nat.beq j j'&&want == want') with
     | false=>rw [hc] at hm;simp at hm
     | true =>
      rw [hc] at hm
      simp at hm hc
      obtain ⟨rfl,rfl⟩:=hc
      subst hm
      exact hst _ rfl
   generalize (match st with
    | some ((j',want'),act)=>bif Nat.beq j j'&&want == want' then some act else none
    | none=>none)=m at h hact
   cases m with
   | none =>
    simp only at h
    by_cases hb:Xj (X4 ops ρ j)=some want
    · rw [YO hb] at h
      rw [if_pos (hiff.2 hb)]
      exact exec _ (λ v=>hkeep ((j,want),true) v (by simp [hb])) h
    · rw [QH hb] at h
      rw [if_neg (λ hh=>hb (hiff.1 hh))]
      exact skip _ (hkeep ((j,want),false) undef (by simp [hb])) h
   | some act =>
    have ha':=hact act rfl
    cases act with
    | true =>
     simp only at h
     have hb:=ha'.1 rfl
     rw [if_pos (hiff.2 hb)]
     exact exec _ (λ v=>hkeep ((j,want),true) v (by simp [hb])) h
    | false =>
     simp only at h
     have hb:¬ Xj (X4 ops ρ j)=some want:=λ hh=>by have:=ha'.2 hh;cases this
     rw [if_neg (λ hh=>hb (hiff.1 hh))]
     exact skip _ (hkeep ((j,want),false) undef (by simp [hb])) h
end
end Go.Sw
namespace Go.Sw
section
variable {P:Program} {N:Nat} {ro:Option Nat}
def U7 (W:List Nat) (ρ:Env) (Q:K):K:=λ e ρ' ds w=>(∀ i,i ∉ W→ρ' i=ρ i)∧Q e ρ' ds w
theorem Ga (a:Act) (d:Option Nat) (v:Value):(a.put d v).defers=a.defers:=by cases d<;>rfl
theorem F3 {W:List Nat} {ρ:Env} {d:Option Nat} {v:Value} {Q:K} (h:∀ x,d=some x→x∈W):U7 W (put N ρ d v) Q=U7 W ρ Q:=by
 funext e ρ' ds w
 have:(∀ i,i ∉ W→ρ' i=put N ρ d v i)↔(∀ i,i ∉ W→ρ' i=ρ i):=by
  constructor<;>intro hh i hi<;>have:=hh i hi<;>rw [Wx (λ e=>hi (h i e))] at * <;> exact this
 unfold U7
 rw [this]
theorem B9 {ops:Array Oper} {Q:K} {QP:KP}:∀ (fuel t:Nat) (listed:Array Bool) (a:Act) (ρ:Env) (w:World),YC N a ρ →
 jI P N ro ops (Q .normal) QP fuel listed ρ a.defers w →
 U4 ro P ops (xZ N (U7 (Y3 ops) ρ Q) QP) (Region.linearise.go .any ops fuel t listed []) a w:=by
 intro fuel
 induction fuel with
 | zero=>intro t listed a ρ w ha h;simp only [Region.linearise.go,List.reverse_nil,U4];exact ⟨ρ,ha,λ _ _=>rfl,h.2⟩
 | succ fuel ih =>
  intro t listed a ρ w ha h
  obtain ⟨h₀,h₁⟩:=h
  simp only [Region.linearise.go]
  change U4 ro P ops _ (match (Region.ready .any ops listed)[t % (Region.ready .any ops listed).length]? with
   | some i=>Region.linearise.go .any ops fuel (t / (Region.ready .any ops listed).length) (listed.setIfInBounds i true) [i]
   | none=>[].reverse) a w
  cases hi:(Region.ready .any ops listed)[t % (Region.ready .any ops listed).length]? with
  | none =>
   have hnil:Region.ready .any ops listed=[]:=by
    cases hr:Region.ready .any ops listed with
    | nil=>rfl
    | cons x xs =>
     rw [hr] at hi
     have hlt:t % (x::xs).length < (x::xs).length:=Nat.mod_lt _ (by simp)
     simp at hi
     simp at hlt
     omega
   simp only [List.reverse_nil,U4]
   exact ⟨ρ,ha,λ _ _=>rfl,h₀ hnil⟩
  | some i =>
   simp only []
   rw [linearise_go_acc,List.reverse_singleton,List.singleton_append]
   have hh:=h₁ i (List.mem_of_getElem? hi)
   unfold denOp at hh
   simp only [U4]
   cases ho:ops[i]? with
   | none=>simp only [ho] at hh ⊢;exact ih _ _ _ _ _ ha hh
   | some o =>
    simp only [ho] at hh ⊢
    have hd:∀ x,o.dst=some x→x∈Y3 ops:=by
     intro d hd
     have hm:o∈ops.toList:=by rw [← Array.getElem?_toList] at ho;exact List.mem_of_getElem? ho
     exact List.mem_filterMap.2 ⟨o,hm,hd⟩
    have ih':∀ (a':Act) (v:Value) (w':World),YC N a' (put N ρ o.dst v)→jI P N ro ops (Q .normal) QP fuel (listed.setIfInBounds i true) (put N ρ o.dst v) a'.defers w' →
     U4 ro P ops (xZ N (U7 (Y3 ops) ρ Q) QP) (Region.linearise.go .any ops fuel (t / (Region.ready .any ops listed).length) (listed.setIfInBounds i true) []) a' w':=by
     intro a' v w' ha' h'
     have:=ih (t / (Region.ready .any ops listed).length) _ _ _ _ ha' h'
     rw [F3 hd] at this
     exact this
    rw [CY ha] at hh
    split
    · rename_i hw
      rw [if_pos hw] at hh
      refine G0 ha hh (λ ch w hq=>⟨_,ha,hq⟩) (λ v w' hv=>ih' _ v w' (ha.put _ _) ?_) (λ d w' hv=>ih' _ undef w' (YC.put (YC.defers ha _) _ _) ?_)
      · rw [Ga];exact hv
      · rw [Ga];exact hv
    · rename_i hw
      rw [if_neg hw] at hh
      exact ih' _ undef w (ha.put _ _) (by rw [Ga];exact hh)
theorem Mv (W:List Nat) (ρ:Env):mix W ρ ρ=ρ:=by funext i;unfold mix;cases W.contains i<;>rfl
theorem CO {W:List Nat} {ρ σ ρ':Env} (h:∀ i,i ∉ W→ρ' i=mix W ρ σ i):mix W ρ ρ'=ρ':=by
 funext i
 unfold mix at *
 by_cases hi:i∈W
 · have hc:W.contains i=true:=List.contains_iff_mem.2 hi
   rw [hc];rfl
 · have:=h i hi
   have hc:W.contains i=false:=by rw [Bool.eq_false_iff];simpa [List.contains_iff_mem] using hi
   rw [hc] at this ⊢
   simp at this ⊢
   exact this.symm
theorem G7 {W:List Nat} {ρ σ:Env} {i:Nat} (h:i ∉ W):mix W ρ σ i=ρ i:=by
 unfold mix
 have hc:W.contains i=false:=by rw [Bool.eq_false_iff];simpa [List.contains_iff_mem] using h
 rw [hc];rfl
def Ex (a:Act):Env:=λ i=>a.tmps.getD i undef
theorem zG {Q Q':K} {QP:KP} (h:∀ e ρ ds w,Q e ρ ds w→Q' e ρ ds w):∀ e a w,xZ N Q QP e a w→xZ N Q' QP e a w:=by
 intro e a w hl
 cases e<;>first
  | exact hl
  | (obtain ⟨ρ,ha,hq⟩:=hl;exact ⟨ρ,ha,h _ _ _ _ hq⟩)
theorem xm {W W':List Nat} {ρ:Env} {Q:K} (hs:∀ i,i∈W→i∈W'):∀ e ρ' ds w,U7 W ρ Q e ρ' ds w→U7 W' ρ Q e ρ' ds w :=
 λ _ _ _ _ h=>⟨λ i hi=>h.1 i (λ hw=>hi (hs i hw)),h.2⟩
theorem Us:∀ (c:Code) (Q:K) (QP:KP) (a:Act) (ρ:Env) (w:World),YC N a ρ→den P N ro c Q QP ρ a.defers w →
 wpV ro P c (xZ N (U7 (Xi c) ρ Q) QP) a w:=by
 intro c
 induction c with
 | skip=>intro Q QP a ρ w ha h;exact MK ⟨ρ,ha,λ _ _=>rfl,h⟩
 | label l=>intro Q QP a ρ w ha h;exact LZ ⟨ρ,ha,λ _ _=>rfl,h⟩
 | exit id=>intro Q QP a ρ w ha h;exact EK ⟨ρ,ha,λ _ _=>rfl,h⟩
 | ret=>intro Q QP a ρ w ha h;exact IF ⟨ρ,ha,λ _ _=>rfl,h⟩
 | goto l=>intro Q QP a ρ w ha h;exact h.elim
 | scope c ih=>intro Q QP a ρ w ha h;exact Me (ih _ _ _ _ _ ha h)
 | refuse s=>intro Q QP a ρ w ha h;exact h.elim
 | region id ops draw =>
  intro Q QP a ρ w ha h
  cases draw with
  | false =>
   refine Fd ?_
   have:=GJ (N:=N) (ro:=ro) (P:=P) (ops:=ops) (Q:=Q) (QP:=QP) ops.toList 0 (by simp) none a ρ w ha (λ g e=>by cases e) h
   rw [Array.length_toList] at this
   rw [List.range_eq_range']
   exact this
  | true =>
   obtain ⟨hm,hh⟩:=h
   refine xM λ t=>?_
   simp only [Region.schedule,hm,Bool.true_or,if_true]
   exact B9 (Q:=Q) ops.size t _ a ρ _ ha hh
 | seq x y ihx ihy =>
  intro Q QP a ρ w ha h
  refine Rr (Qw (ihx _ _ _ _ _ ha h) ?_)
  intro e a' w' hl
  cases e with
  | normal =>
   obtain ⟨ρ',ha',hf,hq⟩:=hl
   refine Qw (ihy _ _ _ _ _ ha' hq) ?_
   refine zG ?_
   rintro e ρ'' ds w'' ⟨hf',hq'⟩
   refine ⟨λ i hi=>?_,hq'⟩
   simp only [Xi,List.mem_append,not_or] at hi
   exact (hf' i hi.2).trans (hf i hi.1)
  | panic ch=>exact hl
  | outgrown=>exact hl
  | exit id=>obtain ⟨ρ',ha',hf,hq⟩:=hl;exact ⟨ρ',ha',λ i hi=>hf i (λ hw=>hi (List.mem_append_left _ hw)),hq⟩
  | goto l=>obtain ⟨ρ',ha',hf,hq⟩:=hl;exact ⟨ρ',ha',λ i hi=>hf i (λ hw=>hi (List.mem_append_left _ hw)),hq⟩
  | ret=>obtain ⟨ρ',ha',hf,hq⟩:=hl;exact ⟨ρ',ha',λ i hi=>hf i (λ hw=>hi (List.mem_append_left _ hw)),hq⟩
 | cond c x y ihx ihy =>
  intro Q QP a ρ w ha h
  simp only [den] at h
  unfold Zr at h
  have hev:a.eval c=ev ρ c:=by rw [ha.eval]
  split at h
  · rename_i hv
    exact Dv (t:=true) (hev.trans hv) (Qw (ihx _ _ _ _ _ ha h) (zG (xm λ i hi=>List.mem_append_left _ hi)))
  · rename_i hv
    exact Dv (t:=false) (hev.trans hv) (Qw (ihy _ _ _ _ _ ha h) (zG (xm λ i hi=>List.mem_append_right _ hi)))
  · exact h.elim
 | block id c ih =>
  intro Q QP a ρ w ha h
  refine Mk (Qw (ih _ _ _ _ _ ha h) ?_)
  intro e a' w' hl
  cases e with
  | exit id' =>
   obtain ⟨ρ',ha',hf,hq⟩:=hl
   simp only [JU] at hq
   simp only [Exit.inBlock]
   by_cases hid:id'=id
   · have:Nat.beq id' id=true:=by simp [hid]
     rw [this] at hq
     rw [if_pos hid]
     exact ⟨ρ',ha',hf,hq⟩
   · have:Nat.beq id' id=false:=by rw [Bool.eq_false_iff];simpa using hid
     rw [this] at hq
     rw [if_neg hid]
     exact ⟨ρ',ha',hf,hq⟩
  | normal=>exact hl
  | ret=>exact hl
  | goto l=>exact hl
  | panic ch=>exact hl
  | outgrown=>exact hl
 | loop c ih =>
  intro Q QP a ρ w ha h
  simp only [den] at h
  obtain ⟨I,μ,h0,hr⟩:=h
  have he:∀ {a':Act} {σ:Env},YC N a' σ→Ex a'=σ:=λ h'=>funext h'.2
  refine MV (λ a' w'=>YC N a' (mix (Xi c) ρ (Ex a'))∧I (Ex a') a'.defers w') (λ a' w'=>μ (Ex a') w') ?_ ?_
  · refine ⟨?_,?_⟩<;>rw [he ha]
    · rw [Mv];exact ha
    · exact h0
  · rintro a' w' ⟨ha',hI⟩
    have hb:=hr (Ex a') _ w' hI
    refine Qw (ih _ _ _ _ _ ha' hb) ?_
    intro e a'' w'' hl
    cases e with
    | normal =>
     obtain ⟨ρ',ha'',hf,hI',hμ⟩:=hl
     have hm:=CO hf
     refine ⟨⟨?_,?_⟩,?_⟩
     · rw [he ha'',hm];exact ha''
     · rw [he ha''];exact hI'
     · rw [he ha''];exact hμ
    | panic ch=>exact hl
    | outgrown=>exact hl
    | exit id=>obtain ⟨ρ',ha'',hf,hq⟩:=hl;exact ⟨ρ',ha'',λ i hi=>(hf i hi).trans (G7 hi),hq⟩
    | goto l=>obtain ⟨ρ',ha'',hf,hq⟩:=hl;exact ⟨ρ',ha'',λ i hi=>(hf i hi).trans (G7 hi),hq⟩
    | ret=>obtain ⟨ρ',ha'',hf,hq⟩:=hl;exact ⟨ρ',ha'',λ i hi=>(hf i hi).trans (G7 hi),hq⟩
 | rangeFunc g ps asg body _ _ =>
  intro Q QP a ρ w ha h
  refine Qw (h a ha rfl) ?_
  intro e a' w' hq
  cases e with
  | panic ch=>exact ⟨ρ,hq.1,hq.2⟩
  | outgrown=>exact hq
  | normal=>exact ⟨ρ,hq.1,λ _ _=>rfl,hq.2⟩
  | exit id=>exact ⟨ρ,hq.1,λ _ _=>rfl,hq.2⟩
  | goto l=>exact ⟨ρ,hq.1,λ _ _=>rfl,hq.2⟩
  | ret=>exact ⟨ρ,hq.1,λ _ _=>rfl,hq.2⟩
def qu:List Value→Env
 | [],_=>undef
 | v::_,0=>v
 | _::l,n+1=>qu l n
theorem Ew:∀ (l:List Value) (i:Nat),qu l i=(l[i]?).getD undef
 | [],i=>by simp [qu]
 | v::l,0=>by simp [qu]
 | v::l,n+1=>by simp [qu,Ew l n]
theorem CW (N:Nat) (l:List Value) (h:l.length≤N):YC N { tmps:=l.toArray++Array.replicate (N - l.toArray.size) undef,defers:=[] } (qu l):=by
 refine ⟨by simp;omega,λ i=>?_⟩
 rw [Ew]
 simp only [Array.getD_eq_getD_getElem?]
 by_cases hi:i < l.length
 · rw [Array.getElem?_append_left (by simpa using hi)];simp
 · rw [Array.getElem?_append_right (by simpa using hi)]
   rw [List.getElem?_eq_none (by omega)]
   simp only [Array.getElem?_replicate]
   split<;>rfl
def Uq (P:Program) (fn:Func) (R:RT):K:=λ e ρ ds w=>match e with
 | .normal | .ret=>ds=[]∧∀ tmps:Array Value,(∀ i,tmps.getD i undef=ρ i)→∃ v,(results fn tmps).run P w = .ok v w∧R (.returned v) w
 | _=>False
def zM (R:RT):KP:=λ ch _ ds w=>ds=[]∧R (.panicked ch) w
def qe (P:Program) (fn:Func) (R:RT):K:=λ e ρ ds w=>match e with
 | .normal | .ret=>∀ tmps:Array Value,(∀ i,tmps.getD i undef=ρ i)→LeavesInM Fence.wide 0 P fn tmps R ds .returning w
 | _=>False
def xR (P:Program) (fn:Func) (R:RT):KP:=λ ch ρ ds w=>∀ tmps:Array Value,(∀ i,tmps.getD i undef=ρ i)→LeavesInM Fence.wide 0 P fn tmps R ds (.panicking ch) w
theorem Al {f:FuncId} {fn:Func} {c:Code} {args:List Value} {w:World} {R:RT} (hf:P.funcs[f]?=some fn) (hb:fn.body=some c) (hn:args.length≤fn.ntmps)
 (h:den P fn.ntmps none c (qe P fn R) (xR P fn R) (qu args) [] w):Calls P f args.toArray w R:=by
 refine ze hf hb ?_
 refine Qw (Us c _ _ _ _ _ (CW fn.ntmps args hn) h) ?_
 intro e a' w' hl
 cases e with
 | normal=>obtain ⟨ρ,ha,_,hr⟩:=hl;exact hr _ ha.2
 | ret=>obtain ⟨ρ,ha,_,hr⟩:=hl;exact hr _ ha.2
 | panic ch=>obtain ⟨ρ,ha,hq⟩:=hl;exact hq _ ha.2
 | outgrown=>exact hl.elim
 | exit id=>obtain ⟨ρ,ha,_,hq⟩:=hl;exact hq.elim
 | goto l=>obtain ⟨ρ,ha,_,hq⟩:=hl;exact hq.elim
theorem B5 {f:FuncId} {fn:Func} {c:Code} {args:List Value} {w:World} {R:RT} (hf:P.funcs[f]?=some fn) (hb:fn.body=some c) (hn:args.length≤fn.ntmps)
 (h:den P fn.ntmps none c (Uq P fn R) (zM R) (qu args) [] w):Calls P f args.toArray w R:=by
 refine ze hf hb ?_
 refine Qw (Us c _ _ _ _ _ (CW fn.ntmps args hn) h) ?_
 intro e a' w' hl
 cases e with
 | normal =>
  obtain ⟨ρ,ha,_,hd,hr⟩:=hl
  obtain ⟨v,h1,h2⟩:=hr _ ha.2
  show LeavesInM _ _ _ _ _ _ _ _ _
  rw [hd];exact ⟨v,h1,h2⟩
 | ret =>
  obtain ⟨ρ,ha,_,hd,hr⟩:=hl
  obtain ⟨v,h1,h2⟩:=hr _ ha.2
  show LeavesInM _ _ _ _ _ _ _ _ _
  rw [hd];exact ⟨v,h1,h2⟩
 | panic ch =>
  obtain ⟨ρ,_,hd,hr⟩:=hl
  show LeavesInM _ _ _ _ _ _ _ _ _
  rw [hd];exact hr
 | outgrown=>exact hl.elim
 | exit id=>obtain ⟨ρ,ha,_,hq⟩:=hl;exact hq.elim
 | goto l=>obtain ⟨ρ,ha,_,hq⟩:=hl;exact hq.elim
end
end Go.Sw
namespace Go.Sw
def opV (P:Program) (s:Sem Value) (QP:List PanicEntry→World→Prop) (w:World) (k:Value→World→Prop):Prop:=match s.run P w with
 | .ok v w'=>k v w'
 | .halt (.panic v) w'=>QP [{ v,recovered:=false }] w'
 | _=>False
def opU (P:Program) (s:Sem Unit) (QP:List PanicEntry→World→Prop) (w:World) (k:World→Prop):Prop:=match s.run P w with
 | .ok _ w'=>k w'
 | .halt (.panic v) w'=>QP [{ v,recovered:=false }] w'
 | _=>False
def Zu (c a b:Value) (k:Value→Prop):Prop:=match c with
 | .bool true=>k a
 | .bool false=>k b
 | _=>False
def Yq (P:Program) (f:FuncId) (args:Array Value) (QP:List PanicEntry→World→Prop) (w:World) (k:Value→World→Prop):Prop:=Calls P f args w (Jb QP k)
def jy (fv:Value) (args:Array Value):Sem Next:=do let d ← Deferred.ofValue fv args;invoke d.target d.args
def Qi (P:Program) (fv:Value) (args:Array Value) (QP:List PanicEntry→World→Prop) (w:World) (k:Value→World→Prop):Prop:=opD P (jy fv args) w QP (λ _ _=>False) k
def Zq {α:Type} (K:α) (f:α→Prop):Prop:=f K
theorem J0 {α:Type} {K:α} {f:α→Prop} {X:Prop} (h:Zq K f) (hx:∀ K',K'=K→f K'→X):X:=hx K rfl h
def Zd (R:RT):List PanicEntry→World→Prop:=λ ch w=>R (.panicked ch) w
def ZM (op:BinOp) (t:TypeId) (c:Bool) (a b:Value):Sem Value:=do
 (match op with
  | .eql | .neq=>match a,b with
   | .nilIface,.nilIface=>if c then pure () else do
    if ← Op.eqGuardIn Op.maxDepth t a b then unsupported (.noEntry "binop/eql: two nil values of an interface type with methods, neither of them the literal nil")
   | .agg _,.agg _=>do
    if !(← program).eqGuardType (← program).depth t then pure () else
    if ← Op.eqGuardIn Op.maxDepth t a b then unsupported (.noEntry "binop/eql: two nil values of an interface type with methods, in a part of a struct or an array")
   | _,_=>pure ()
  | _=>pure ())
 binOp op t a b
def V2:Operand→Bool
 | .const _=>true
 | _=>false
def Callable (P:Program) (f:FuncId):Prop:=∃ fn,P.funcs[f]?=some fn∧(fn.name == "runtime.NumGoroutine")=false∧fn.body.isNone=false
section
variable {P:Program} {N:Nat} {ro:Option Nat}
theorem Vd {f:FuncId} (h:Callable P f) (args:Array Value) (w:World):(callFunc f args).run P w = .ok (.enter f args) w:=by
 obtain ⟨fn,h1,h2,h3⟩:=h
 unfold callFunc
 simp only [program,bind,Sem.bind,Sem.run,h1]
 rw [if_neg (by rw [h2];simp),if_neg (by rw [h3];simp)]
 rfl
theorem LG {f:FuncId} (h:Callable P f) (first caps args:Array Value) (w:World):(jy (.func (.func f) first caps) args).run P w = .ok (.enter f (first++args++caps)) w:=by
 unfold jy
 simp only [Deferred.ofValue,bind,pure,Sem.bind,invoke]
 exact Vd h _ w
theorem YI {f:FuncId} (h:Callable P f) {first caps args:Array Value} {QP:List PanicEntry→World→Prop} {w:World} {k:Value→World→Prop} :
 Qi P (.func (.func f) first caps) args QP w k=Yq P f (first++args++caps) QP w k:=by
 unfold Qi opD
 rw [LG h]
 rfl
def ZN (P:Program) (N:Nat) (ro:Option Nat) (QP:KP) (T:Env→List Deferred→World→Prop):List Oper→Env→List Deferred→World→Prop
 | [],ρ,ds,w=>T ρ ds w
 | o::rest,ρ,ds,w=>opE P ro QP o ρ ds w (λ d w=>ZN P N ro QP T rest (put N ρ o.dst undef) (d::ds) w) (λ v w=>ZN P N ro QP T rest (put N ρ o.dst v) ds w)
def skipAll (N:Nat):List Oper→Env→Env
 | [],ρ=>ρ
 | o::rest,ρ=>skipAll N rest (put N ρ o.dst undef)
def WF (l:List Oper):Bool:=l.all λ o=>match o.guard with | none=>true | some _=>false
def Q9 (j:Nat) (want:Bool) (o:Oper):Bool:=match o.guard with | none=>false | some (j',want')=>Nat.beq j' j&&want' == want
def KD (ops:Array Oper) (j:Nat):List Oper→Bool
 | []=>true
 | [_]=>true
 | o::rest=>(match (ops[j]?).bind (·.dst),o.dst with | some d,some d'=>!Nat.beq d d' | _,_=>true)&&KD ops j rest
def DP (ops:Array Oper) (j:Nat) (want:Bool) (grp tail:List Oper):Bool :=
 grp.all (Q9 j want)&&KD ops j grp&&!grp.isEmpty&&(match tail with | []=>true | o::_=>!Q9 j want o)
theorem Ug {QP:KP} {o:Oper} {ρ:Env} {ds:List Deferred} {w:World} {kd kd':Deferred→World→Prop} {k k':Value→World→Prop}
 (h:opE P ro QP o ρ ds w kd k) (hd:∀ d w,kd d w→kd' d w) (hk:∀ v w,k v w→k' v w):opE P ro QP o ρ ds w kd' k':=by
 unfold opE at *
 cases hb:(Y6 o.op&&ro.isSome) with
 | true=>rw [hb] at h;exact h.elim
 | false=>rw [hb] at h;exact Kv h (λ _ _ h=>h) hd hk
theorem VF {ops:Array Oper} {Q:K} {QP:KP} {tail:List Oper}:∀ (seg:List Oper) (st:Option ((Nat×Bool)×Bool)) (ρ:Env) (ds:List Deferred) (w:World),WF seg=true→(seg=[]→st=none) →
 ZN P N ro QP (λ ρ ds w=>Yb P N ro ops Q QP tail none ρ ds w) seg ρ ds w→Yb P N ro ops Q QP (seg++tail) st ρ ds w
 | [],st,ρ,ds,w,_,hst,h=>by rw [hst rfl];exact h
 | o::rest,st,ρ,ds,w,hu,_,h=>by
  simp only [WF,List.all_cons,Bool.and_eq_true] at hu
  have hg:o.guard=none:=by
   cases hg:o.guard with
   | none=>rfl
   | some g=>rw [hg] at hu;simp at hu
  simp only [List.cons_append,Yb,hg]
  exact Ug h (λ d w hh=>VF rest none _ _ _ hu.2 (λ _=>rfl) hh) (λ v w hh=>VF rest none _ _ _ hu.2 (λ _=>rfl) hh)
theorem Dl {ops:Array Oper} {Q:K} {QP:KP} {j:Nat} {want act:Bool}:∀ {tail:List Oper} {ρ:Env} {ds:List Deferred} {w:World},(match tail with | []=>true | o::_=>!Q9 j want o)=true →
 Yb P N ro ops Q QP tail none ρ ds w→Yb P N ro ops Q QP tail (some ((j,want),act)) ρ ds w
 | [],_,_,_,_,h=>h
 | o::rest,ρ,ds,w,ht,h=>by
  unfold Yb at h ⊢
  cases hg:o.guard with
  | none=>simpa only [hg] using h
  | some g =>
   obtain ⟨j',want'⟩:=g
   simp only [hg] at h ⊢
   simp only [Q9,hg,Bool.not_eq_true'] at ht
   rw [ht]
   exact h
theorem xn {ops:Array Oper} {j:Nat} {want act:Bool} {o:Oper} {rest:List Oper} (h:KD ops j (o::rest)=true) (hne:rest≠[]) :
 Vw ops o (some ((j,want),act))=some ((j,want),act):=by
 cases rest with
 | nil=>exact absurd rfl hne
 | cons x xs =>
  simp only [KD,Bool.and_eq_true] at h
  unfold Vw
  simp only
  have h1:=h.1
  cases hd:(ops[j]?).bind (·.dst) with
  | none=>rfl
  | some d =>
   cases hd':o.dst with
   | none=>rfl
   | some d' =>
    rw [hd,hd'] at h1
    simp only [Bool.not_eq_true'] at h1
    simp only [h1,cond_false]
theorem DF (ops:Array Oper) (o:Oper) (g:(Nat×Bool)×Bool):Vw ops o (some g)=none∨Vw ops o (some g)=some g:=by
 unfold Vw
 simp only
 split
 · rename_i d d' _ _
   cases Nat.beq d d'<;>simp
 · right;rfl
theorem xD {ops:Array Oper} {Q:K} {QP:KP} {j:Nat} {want act:Bool} {tail:List Oper} {ρ:Env} {ds:List Deferred} {w:World} (o:Oper) (ht:(match tail with | []=>true | o::_=>!Q9 j want o)=true)
 (h:Yb P N ro ops Q QP tail none ρ ds w):Yb P N ro ops Q QP tail (Vw ops o (some ((j,want),act))) ρ ds w:=by
 rcases DF ops o ((j,want),act) with e | e<;>rw [e]
 · exact h
 · exact Dl ht h
theorem jZ {ops:Array Oper} {Q:K} {QP:KP} {j:Nat} {want:Bool} {tail:List Oper} (ht:(match tail with | []=>true | o::_=>!Q9 j want o)=true):∀ (grp:List Oper) (ρ:Env) (ds:List Deferred) (w:World),grp≠[]→grp.all (Q9 j want)=true→KD ops j grp=true →
 ZN P N ro QP (λ ρ ds w=>Yb P N ro ops Q QP tail none ρ ds w) grp ρ ds w→Yb P N ro ops Q QP (grp++tail) (some ((j,want),true)) ρ ds w
 | [],_,_,_,hne,_,_,_=>absurd rfl hne
 | o::rest,ρ,ds,w,_,hall,hap,h=>by
  simp only [List.all_cons,Bool.and_eq_true] at hall
  obtain ⟨ho,hrest⟩:=hall
  unfold Q9 at ho
  cases hg:o.guard with
  | none=>rw [hg] at ho;simp at ho
  | some g =>
   obtain ⟨j',want'⟩:=g
   rw [hg] at ho
   simp only [Bool.and_eq_true] at ho
   have e1:j'=j:=by simpa using ho.1
   have e2:want'=want:=by simpa using ho.2
   subst e1 e2
   simp only [List.cons_append,Yb,hg]
   have hb:(Nat.beq j' j'&&want' == want')=true:=by simp
   rw [hb]
   simp only [cond_true]
   have next:∀ ρ' ds' w',ZN P N ro QP (λ ρ ds w=>Yb P N ro ops Q QP tail none ρ ds w) rest ρ' ds' w'→Yb P N ro ops Q QP (rest++tail) (Vw ops o (some ((j',want'),true))) ρ' ds' w':=by
    intro ρ' ds' w' hh
    cases rest with
    | nil=>exact xD o ht hh
    | cons x xs =>
     rw [xn hap (by simp)]
     refine jZ ht (x::xs) _ _ _ (by simp) hrest ?_ hh
     simp only [KD,Bool.and_eq_true] at hap
     exact hap.2
   exact Ug h (λ d w hh=>next _ _ _ hh) (λ v w hh=>next _ _ _ hh)
theorem xe {ops:Array Oper} {Q:K} {QP:KP} {j:Nat} {want:Bool} {tail:List Oper} (ht:(match tail with | []=>true | o::_=>!Q9 j want o)=true):∀ (grp:List Oper) (ρ:Env) (ds:List Deferred) (w:World),grp≠[]→grp.all (Q9 j want)=true→KD ops j grp=true →
 Yb P N ro ops Q QP tail none (skipAll N grp ρ) ds w→Yb P N ro ops Q QP (grp++tail) (some ((j,want),false)) ρ ds w
 | [],_,_,_,hne,_,_,_=>absurd rfl hne
 | o::rest,ρ,ds,w,_,hall,hap,h=>by
  simp only [List.all_cons,Bool.and_eq_true] at hall
  obtain ⟨ho,hrest⟩:=hall
  unfold Q9 at ho
  cases hg:o.guard with
  | none=>rw [hg] at ho;simp at ho
  | some g =>
   obtain ⟨j',want'⟩:=g
   rw [hg] at ho
   simp only [Bool.and_eq_true] at ho
   have e1:j'=j:=by simpa using ho.1
   have e2:want'=want:=by simpa using ho.2
   subst e1 e2
   simp only [List.cons_append,Yb,hg]
   have hb:(Nat.beq j' j'&&want' == want')=true:=by simp
   rw [hb]
   simp only [cond_true]
   cases rest with
   | nil=>exact xD o ht h
   | cons x xs =>
    rw [xn hap (by simp)]
    refine xe ht (x::xs) _ _ _ (by simp) hrest ?_ h
    simp only [KD,Bool.and_eq_true] at hap
    exact hap.2
theorem CA {ops:Array Oper} {Q:K} {QP:KP} {j:Nat} {want:Bool} {grp tail:List Oper} {ρ:Env} {ds:List Deferred} {w:World} (hok:DP ops j want grp tail=true)
 (h:Zl (X4 ops ρ j) want (ZN P N ro QP (λ ρ ds w=>Yb P N ro ops Q QP tail none ρ ds w) grp ρ ds w) (Yb P N ro ops Q QP tail none (skipAll N grp ρ) ds w)) :
 Yb P N ro ops Q QP (grp++tail) none ρ ds w:=by
 simp only [DP,Bool.and_eq_true] at hok
 obtain ⟨⟨⟨hall,hap⟩,hne⟩,ht⟩:=hok
 cases grp with
 | nil=>simp at hne
 | cons o rest =>
  have hall':=hall
  simp only [List.all_cons,Bool.and_eq_true] at hall'
  have ho:=hall'.1
  unfold Q9 at ho
  cases hg:o.guard with
  | none=>rw [hg] at ho;simp at ho
  | some g =>
   obtain ⟨j',want'⟩:=g
   rw [hg] at ho
   simp only [Bool.and_eq_true] at ho
   have e1:j'=j:=by simpa using ho.1
   have e2:want'=want:=by simpa using ho.2
   subst e1 e2
   have hb:(Nat.beq j' j'&&want' == want')=true:=by simp
   by_cases hv:Xj (X4 ops ρ j')=some want'
   · rw [YO hv] at h
     have:=jZ ht (o::rest) ρ ds w (by simp) hall hap h
     simp only [List.cons_append,Yb,hg,hb,cond_true] at this
     simp only [List.cons_append,Yb,hg]
     rw [YO hv]
     exact this
   · rw [QH hv] at h
     have:=xe ht (o::rest) ρ ds w (by simp) hall hap h
     simp only [List.cons_append,Yb,hg,hb,cond_true] at this
     simp only [List.cons_append,Yb,hg]
     rw [QH hv]
     exact this
theorem Iq {a b:Code} {Q:K} {QP:KP} {ρ:Env} {ds:List Deferred} {w:World} (h:den P N ro a (Qv (λ ρ ds w=>den P N ro b Q QP ρ ds w) Q) QP ρ ds w):den P N ro (.seq a b) Q QP ρ ds w:=h
theorem Zh {Q:K} {QP:KP} {ρ:Env} {ds:List Deferred} {w:World} (h:Q .normal ρ ds w):den P N ro .skip Q QP ρ ds w:=h
theorem Zk {Q:K} {QP:KP} {ρ:Env} {ds:List Deferred} {w:World} (h:Q .ret ρ ds w):den P N ro .ret Q QP ρ ds w:=h
theorem Zy {id:Nat} {Q:K} {QP:KP} {ρ:Env} {ds:List Deferred} {w:World} (h:Q (.exit id) ρ ds w):den P N ro (.exit id) Q QP ρ ds w:=h
theorem Zj {id:Nat} {c:Code} {Q:K} {QP:KP} {ρ:Env} {ds:List Deferred} {w:World} (h:den P N ro c (JU id Q) QP ρ ds w):den P N ro (.block id c) Q QP ρ ds w:=h
theorem Ls {c:Code} {Q:K} {QP:KP} {ρ:Env} {ds:List Deferred} {w:World} (h:den P N ro c Q QP ρ ds w):den P N ro (.scope c) Q QP ρ ds w:=h
theorem Lo {l:Nat} {Q:K} {QP:KP} {ρ:Env} {ds:List Deferred} {w:World} (h:Q .normal ρ ds w):den P N ro (.label l) Q QP ρ ds w:=h
theorem DM {k:Env→List Deferred→World→Prop} {Q:K} {ρ:Env} {ds:List Deferred} {w:World} (h:k ρ ds w):Qv k Q .normal ρ ds w:=h
theorem Zc {k:Env→List Deferred→World→Prop} {Q:K} {id:Nat} {ρ:Env} {ds:List Deferred} {w:World} (h:Q (.exit id) ρ ds w):Qv k Q (.exit id) ρ ds w:=h
theorem Zb {k:Env→List Deferred→World→Prop} {Q:K} {ρ:Env} {ds:List Deferred} {w:World} (h:Q .ret ρ ds w):Qv k Q .ret ρ ds w:=h
theorem Zg {id:Nat} {Q:K} {ρ:Env} {ds:List Deferred} {w:World} (h:Q .normal ρ ds w):JU id Q .normal ρ ds w:=h
theorem Zf {id:Nat} {Q:K} {ρ:Env} {ds:List Deferred} {w:World} (h:Q .ret ρ ds w):JU id Q .ret ρ ds w:=h
theorem Zn {id:Nat} {Q:K} {ρ:Env} {ds:List Deferred} {w:World} (h:Q .normal ρ ds w):JU id Q (.exit id) ρ ds w:=by
 show (bif Nat.beq id id then Q .normal ρ ds w else Q (.exit id) ρ ds w)
 have:Nat.beq id id=true:=by simp
 rw [this];exact h
theorem KN {id id':Nat} {Q:K} {ρ:Env} {ds:List Deferred} {w:World} (hne:Nat.beq id' id=false) (h:Q (.exit id') ρ ds w):JU id Q (.exit id') ρ ds w:=by
 show (bif Nat.beq id' id then Q .normal ρ ds w else Q (.exit id') ρ ds w)
 rw [hne];exact h
theorem Nk {c:Operand} {A B:Code} {Q:K} {QP:KP} {ρ:Env} {ds:List Deferred} {w:World} {v:Value} {p q:Prop} (h:Zr v p q) (hv:ev ρ c=v) (hp:p→den P N ro A Q QP ρ ds w) (hq:q→den P N ro B Q QP ρ ds w):den P N ro (.cond c A B) Q QP ρ ds w:=by
 show Zr (ev ρ c) (den P N ro A Q QP ρ ds w) (den P N ro B Q QP ρ ds w)
 rw [hv]
 unfold Zr at *
 cases v with
 | bool b=>cases b with
  | true=>exact hp h
  | false=>exact hq h
 | _=>exact h.elim
theorem HF {id:Nat} {l:List Oper} {Q:K} {QP:KP} {ρ:Env} {ds:List Deferred} {w:World} (hu:WF l=true) (h:ZN P N ro QP (λ ρ ds w=>Q .normal ρ ds w) l ρ ds w):den P N ro (.region id l.toArray false) Q QP ρ ds w:=by
 show Yb P N ro l.toArray Q QP l none ρ ds w
 have:=VF (P:=P) (N:=N) (ro:=ro) (ops:=l.toArray) (Q:=Q) (QP:=QP) (tail:=[]) l none ρ ds w hu (λ _=>rfl) h
 rwa [List.append_nil] at this
theorem Zs {id:Nat} {l:List Oper} {Q:K} {QP:KP} {ρ:Env} {ds:List Deferred} {w:World} (h:Yb P N ro l.toArray Q QP l none ρ ds w):den P N ro (.region id l.toArray false) Q QP ρ ds w:=h
theorem Ru (n:Nat) {ops:Array Oper} {l:List Oper} {Q:K} {QP:KP} {ρ:Env} {ds:List Deferred} {w:World} (hu:WF (l.take n)=true) (h:ZN P N ro QP (λ ρ ds w=>Yb P N ro ops Q QP (l.drop n) none ρ ds w) (l.take n) ρ ds w) :
 Yb P N ro ops Q QP l none ρ ds w:=by
 have:=VF (P:=P) (N:=N) (ro:=ro) (ops:=ops) (Q:=Q) (QP:=QP) (tail:=l.drop n) (l.take n) none ρ ds w hu (λ _=>rfl) h
 rwa [List.take_append_drop] at this
theorem ZG {ops:Array Oper} {Q:K} {QP:KP} {ρ:Env} {ds:List Deferred} {w:World} (h:Q .normal ρ ds w):Yb P N ro ops Q QP [] none ρ ds w:=h
def Fr (S:List Nat) (ρ ρ':Env):Prop:=∀ i,i ∉ S→ρ' i=ρ i
theorem Fr.refl (S:List Nat) (ρ:Env):Fr S ρ ρ:=λ _ _=>rfl
theorem Fr.put {S:List Nat} {ρ ρ':Env} {d:Nat} {v:Value} (hd:S.contains d=true) (h:Fr S ρ ρ'):Fr S ρ (Sw.put N ρ' (some d) v):=λ i hi =>
 (Wx (λ e=>hi (by injection e with e;subst e;exact List.contains_iff_mem.1 hd))).trans (h i hi)
theorem Fr.put_none {S:List Nat} {ρ ρ':Env} {v:Value} (h:Fr S ρ ρ'):Fr S ρ (Sw.put N ρ' none v):=h
theorem Fr.mix {S W:List Nat} {ρ ρ' σ:Env} (hW:W.all (S.contains ·)=true) (h:Fr S ρ ρ'):Fr S ρ (Sw.mix W ρ' σ):=λ i hi =>
 (G7 (λ hw=>hi (List.contains_iff_mem.1 (List.all_eq_true.1 hW i hw)))).trans (h i hi)
theorem Fr.skipAll {S:List Nat} {ρ:Env}:∀ {l:List Oper} {ρ':Env},(l.filterMap (·.dst)).all (S.contains ·)=true→Fr S ρ ρ'→Fr S ρ (Sw.skipAll N l ρ')
 | [],_,_,h=>h
 | o::rest,ρ',hl,h=>by
  unfold Sw.skipAll
  cases hd:o.dst with
  | none=>simp [hd] at hl;exact Fr.skipAll (by simpa using hl) h
  | some d =>
   rw [List.filterMap_cons,hd] at hl
   simp only [List.all_cons,Bool.and_eq_true] at hl
   exact Fr.skipAll hl.2 (h.put hl.1)
theorem Jo {S:List Nat} {ρ ρ':Env} (h:Fr S ρ ρ'):mix S ρ ρ'=ρ':=by
 funext i
 by_cases hi:i∈S
 · unfold mix;rw [List.contains_iff_mem.2 hi];rfl
 · exact (G7 hi).trans (h i hi).symm
theorem Oy {c:Code} {k:Env→List Deferred→World→Prop} {Q:K} {QP:KP} {ρ:Env} {ds:List Deferred} {w:World} (S:List Nat) (J:Env→World→Prop) (hJ:∀ σ w,J σ w→k (mix S ρ σ) ds w)
 (hc:∀ k':Env→List Deferred→World→Prop,(∀ ρ' w,Fr S ρ ρ'→J ρ' w→k' ρ' ds w)→den P N ro c (Qv k' Q) QP ρ ds w):den P N ro c (Qv k Q) QP ρ ds w :=
 hc k λ ρ' w hf hj=>by rw [← Jo hf];exact hJ ρ' w hj
theorem Ms (n:Nat) (j:Nat) (want:Bool) {ops:Array Oper} {l:List Oper} {Q:K} {QP:KP} {ρ:Env} {ds:List Deferred} {w:World} {v:Value} (S:List Nat) (J:Env→World→Prop) (hok:DP ops j want (l.take n) (l.drop n)=true) (hv:X4 ops ρ j=v)
 (hJ:∀ σ w,J σ w→Yb P N ro ops Q QP (l.drop n) none (mix S ρ σ) ds w)
 (hc:∀ T:Env→List Deferred→World→Prop,(∀ ρ' w,Fr S ρ ρ'→J ρ' w→T ρ' ds w)→Zl v want (ZN P N ro QP T (l.take n) ρ ds w) (T (skipAll N (l.take n) ρ) ds w)):Yb P N ro ops Q QP l none ρ ds w:=by
 have h:=hc (λ ρ ds w=>Yb P N ro ops Q QP (l.drop n) none ρ ds w) (λ ρ' w hf hj=>by rw [← Jo hf];exact hJ ρ' w hj)
 rw [← hv] at h
 have:=CA hok h
 rwa [List.take_append_drop] at this
theorem VT {v:Value} {want:Bool} {p q p' q':Prop} (h:Zl v want p q) (hp:p→p') (hq:q→q'):Zl v want p' q':=by
 unfold Zl at *
 cases v with
 | bool b=>cases hb:(b == want) with
  | true=>simp only [hb] at h ⊢;exact hp h
  | false=>simp only [hb] at h ⊢;exact hq h
 | _=>exact hq h
theorem AY {W W':List Nat} (h:(W'.all (W.contains ·)&&W.all (W'.contains ·))=true) (ρ σ:Env):mix W ρ σ=mix W' ρ σ:=by
 simp only [Bool.and_eq_true,List.all_eq_true,List.contains_iff_mem] at h
 funext i
 unfold mix
 have:W.contains i=W'.contains i:=by
  rw [Bool.eq_iff_iff,List.contains_iff_mem,List.contains_iff_mem]
  exact ⟨λ hi=>h.2 i hi,λ hi=>h.1 i hi⟩
 rw [this]
theorem jU {c:Code} {Q:K} {QP:KP} {ρ:Env} {ds:List Deferred} {w:World} (W:List Nat) (hW:((Xi c).all (W.contains ·)&&W.all ((Xi c).contains ·))=true) (I:Env→World→Prop) (μ:Env→World→Nat) (h0:I ρ w)
 (hr:∀ σ w,I σ w→den P N ro c (Qv (λ ρ' ds' w'=>ds'=ds∧I ρ' w'∧μ ρ' w' < μ σ w) Q) QP (mix W ρ σ) ds w):den P N ro (.loop c) Q QP ρ ds w :=
 ⟨λ ρ ds' w=>ds'=ds∧I ρ w,μ,⟨rfl,h0⟩,λ σ ds' w hI=>by
  obtain ⟨rfl,hI⟩:=hI
  rw [← AY hW]
  have:=hr σ w hI
  have he:(Qv (λ ρ' ds'' w'=>ds''=ds'∧I ρ' w'∧μ ρ' w' < μ σ w) Q)=(Qv (λ ρ' ds'' w'=>(ds''=ds'∧I ρ' w')∧μ ρ' w' < μ σ w) Q):=by
   funext e ρ d w;cases e<;>simp [Qv,and_assoc]
  rw [← he];exact this⟩
section ops
variable {QP:KP} {T:Env→List Deferred→World→Prop} {o:Oper} {rest:List Oper} {ρ:Env} {ds:List Deferred} {w:World}
theorem H9 (h:T ρ ds w):ZN P N ro QP T [] ρ ds w:=h
theorem PD {v:Value} (hd:Y6 o.op=false) (hs:execOp (ev ρ) o=Sem.pure (.value v)) (h:ZN P N ro QP T rest (put N ρ o.dst v) ds w):ZN P N ro QP T (o::rest) ρ ds w:=by
 show opE P ro QP o ρ ds w _ _
 unfold opE
 rw [hd,hs]
 exact h
theorem Ei (s:Sem Value) (w:World):Sem.run P (do pure (.value (← s)):Sem Next) w=match Sem.run P s w with | .ok v w' => .ok (.value v) w' | .halt h w' => .halt h w':=by
 rw [Sem.run_bind]
 cases Sem.run P s w<;>rfl
theorem I3 (s:Sem Unit) (w:World):Sem.run P (do s;pure .skip:Sem Next) w=match Sem.run P s w with | .ok _ w' => .ok .skip w' | .halt h w' => .halt h w':=by
 rw [Sem.run_bind]
 cases Sem.run P s w<;>rfl
theorem Jr {s:Sem Value} {QP':List PanicEntry→World→Prop} {k:Value→World→Prop} (h:opV P s QP' w k) (hd:Y6 o.op=false) (hs:execOp (ev ρ) o=(do pure (.value (← s)))) (hp:∀ ch w,QP' ch w→QP ch ρ ds w)
 (hk:∀ v w',k v w'→ZN P N ro QP T rest (put N ρ o.dst v) ds w'):ZN P N ro QP T (o::rest) ρ ds w:=by
 show opE P ro QP o ρ ds w _ _
 unfold opE
 rw [hd,hs]
 show V9 P _ _ _ (Sem.run P (do pure (.value (← s)):Sem Next) w)
 rw [Ei]
 unfold opV at h
 cases hr:s.run P w with
 | ok v w'=>rw [hr] at h;exact hk _ _ h
 | halt x w'=>rw [hr] at h;cases x<;>simp only at h;exact hp _ _ h
theorem MZ {s:Sem Unit} {QP':List PanicEntry→World→Prop} {k:World→Prop} (h:opU P s QP' w k) (hd:Y6 o.op=false) (hs:execOp (ev ρ) o=(do s;pure .skip)) (hp:∀ ch w,QP' ch w→QP ch ρ ds w)
 (hk:∀ w',k w'→ZN P N ro QP T rest (put N ρ o.dst undef) ds w'):ZN P N ro QP T (o::rest) ρ ds w:=by
 show opE P ro QP o ρ ds w _ _
 unfold opE
 rw [hd,hs]
 show V9 P _ _ _ (Sem.run P (do s;pure .skip:Sem Next) w)
 rw [I3]
 unfold opU at h
 cases hr:s.run P w with
 | ok v w'=>rw [hr] at h;exact hk _ h
 | halt x w'=>rw [hr] at h;cases x<;>simp only at h;exact hp _ _ h
theorem PA {c a b:Operand} {d:Nat} {ty:TypeId} {pos:String} {after:Array Edge} {g:Option (Nat×Bool)} {vc va vb:Value} {k:Value→Prop} (h:Zu vc va vb k) (h1:ev ρ c=vc) (h2:ev ρ a=va) (h3:ev ρ b=vb)
 (hk:∀ v,k v→ZN P N ro QP T rest (put N ρ (some d) v) ds w):ZN P N ro QP T (⟨some d,.pick c a b,ty,pos,after,g⟩::rest) ρ ds w:=by
 subst h1 h2 h3
 show opE P ro QP _ ρ ds w _ _
 unfold opE
 show V9 P _ _ _ (Sem.run P (do pure (.value (if ← asBool (ev ρ c) then ev ρ a else ev ρ b)):Sem Next) w)
 unfold Zu at h
 split at h
 · rename_i hc;rw [hc];exact hk _ h
 · rename_i hc;rw [hc];exact hk _ h
 · exact h.elim
theorem Ih (op:BinOp) (t:TypeId) (x y:Operand) (a b:Value):(do eqGuard op t x y a b;binOp op t a b:Sem Value)=ZM op t (V2 x||V2 y) a b:=by
 unfold ZM eqGuard
 cases op<;>try rfl
 all_goals
  cases a<;>try rfl
  all_goals
   cases b<;>try rfl
   all_goals (cases x<;>cases y<;>rfl)
theorem Ry {op:BinOp} {t ty:TypeId} {x y:Operand} {d:Nat} {t2:TypeId} {pos:String} {after:Array Edge} {g:Option (Nat×Bool)} {c:Bool} {a b:Value} {QP':List PanicEntry→World→Prop} {k:Value→World→Prop}
 (h:opV P (ZM op t c a b) QP' w k) (hc:(V2 x||V2 y)=c) (h1:ev ρ x=a) (h2:ev ρ y=b) (hp:∀ ch w,QP' ch w→QP ch ρ ds w)
 (hk:∀ v w',k v w'→ZN P N ro QP T rest (put N ρ (some d) v) ds w'):ZN P N ro QP T (⟨some d,.binOp op t x y t2,ty,pos,after,g⟩::rest) ρ ds w:=by
 subst hc h1 h2
 rw [← Ih] at h
 exact Jr h rfl rfl hp hk
theorem DD {b:Builtin} {l:List Operand} {ats:Array TypeId} {ty:TypeId} {d:Nat} {pos:String} {after:Array Edge} {g:Option (Nat×Bool)} {s:Sem Value} {QP':List PanicEntry→World→Prop} {k:Value→World→Prop}
 (h:opV P s QP' w k) (hs:builtin b ats ty ((l.map λ | .const _=>true | _=>false).toArray) (l.map (ev ρ)).toArray=(do pure (.value (← s)))) (hp:∀ ch w,QP' ch w→QP ch ρ ds w)
 (hk:∀ v w',k v w'→ZN P N ro QP T rest (put N ρ (some d) v) ds w'):ZN P N ro QP T (⟨some d,.call ⟨.builtin b,l.toArray,ats⟩,ty,pos,after,g⟩::rest) ρ ds w:=by
 refine Jr (o:=⟨some d,.call ⟨.builtin b,l.toArray,ats⟩,ty,pos,after,g⟩) h rfl ?_ hp hk
 rw [← hs]
 simp only [execOp,resolve,List.map_toArray]
 rfl
theorem Ba {fo:Operand} {l:List Operand} {ats:Array TypeId} {ty:TypeId} {dst:Option Nat} {pos:String} {after:Array Edge} {g:Option (Nat×Bool)} {fv:Value} {args:List Value} {QP':List PanicEntry→World→Prop} {k:Value→World→Prop}
 (h:Qi P fv args.toArray QP' w k) (h1:ev ρ fo=fv) (h2:l.map (ev ρ)=args) (hp:∀ ch w,QP' ch w→QP ch ρ ds w)
 (hk:∀ v w',k v w'→ZN P N ro QP T rest (put N ρ dst v) ds w'):ZN P N ro QP T (⟨dst,.call ⟨.value fo,l.toArray,ats⟩,ty,pos,after,g⟩::rest) ρ ds w:=by
 subst h1 h2
 show opE P ro QP _ ρ ds w _ _
 unfold opE
 show opD P (execOp (ev ρ) _) w _ _ _
 have he:execOp (ev ρ) ⟨dst,.call ⟨.value fo,l.toArray,ats⟩,ty,pos,after,g⟩=jy (ev ρ fo) (l.map (ev ρ)).toArray:=by
  simp only [execOp,resolve,List.map_toArray,jy]
 rw [he]
 exact Kv h hp (λ _ _ h=>h.elim) hk
theorem NE {f:FuncId} {l:List Operand} {ats:Array TypeId} {ty:TypeId} {dst:Option Nat} {pos:String} {after:Array Edge} {g:Option (Nat×Bool)} {args:List Value} {QP':List PanicEntry→World→Prop} {k:Value→World→Prop}
 (h:Yq P f args.toArray QP' w k) (hf:Callable P f) (h2:l.map (ev ρ)=args) (hp:∀ ch w,QP' ch w→QP ch ρ ds w)
 (hk:∀ v w',k v w'→ZN P N ro QP T rest (put N ρ dst v) ds w'):ZN P N ro QP T (⟨dst,.call ⟨.value (.func f),l.toArray,ats⟩,ty,pos,after,g⟩::rest) ρ ds w:=by
 refine Ba (fv := .func (.func f) #[] #[]) (args:=args) ?_ rfl h2 hp hk
 rw [YI hf]
 simpa using h
theorem LQ {t ty:TypeId} {ps:List (Nat×Operand)} {d:Nat} {pos:String} {after:Array Edge} {g:Option (Nat×Bool)} {vs:List (Nat×Value)} {QP':List PanicEntry→World→Prop} {k:Value→World→Prop}
 (h:opV P (Instr.build t vs.toArray) QP' w k) (h2:(ps.map λ (i,x)=>(i,ev ρ x))=vs) (hp:∀ ch w,QP' ch w→QP ch ρ ds w)
 (hk:∀ v w',k v w'→ZN P N ro QP T rest (put N ρ (some d) v) ds w'):ZN P N ro QP T (⟨some d,.build t ps.toArray,ty,pos,after,g⟩::rest) ρ ds w:=by
 refine Jr (o:=⟨some d,.build t ps.toArray,ty,pos,after,g⟩) h rfl ?_ hp hk
 subst h2
 simp only [execOp,List.map_toArray]
theorem jY {t ty:TypeId} {n:Nat} {ps:List (Nat×Operand)} {d:Nat} {pos:String} {after:Array Edge} {g:Option (Nat×Bool)} {vs:List (Nat×Value)} {QP':List PanicEntry→World→Prop} {k:Value→World→Prop}
 (h:opV P (Instr.buildSlice t n vs.toArray) QP' w k) (h2:(ps.map λ (i,x)=>(i,ev ρ x))=vs) (hp:∀ ch w,QP' ch w→QP ch ρ ds w)
 (hk:∀ v w',k v w'→ZN P N ro QP T rest (put N ρ (some d) v) ds w'):ZN P N ro QP T (⟨some d,.buildSlice t n ps.toArray,ty,pos,after,g⟩::rest) ρ ds w:=by
 refine Jr (o:=⟨some d,.buildSlice t n ps.toArray,ty,pos,after,g⟩) h rfl ?_ hp hk
 subst h2
 simp only [execOp,List.map_toArray]
theorem BN {fn:Fn} {fs cs:List Operand} {ty:TypeId} {d:Nat} {pos:String} {after:Array Edge} {g:Option (Nat×Bool)} {vf vs:List Value} {QP':List PanicEntry→World→Prop} {k:Value→World→Prop}
 (h:opV P (Instr.makeFunc fn vf.toArray vs.toArray) QP' w k) (h1:fs.map (ev ρ)=vf) (h2:cs.map (ev ρ)=vs) (hp:∀ ch w,QP' ch w→QP ch ρ ds w)
 (hk:∀ v w',k v w'→ZN P N ro QP T rest (put N ρ (some d) v) ds w'):ZN P N ro QP T (⟨some d,.makeFunc fn fs.toArray cs.toArray,ty,pos,after,g⟩::rest) ρ ds w:=by
 refine Jr (o:=⟨some d,.makeFunc fn fs.toArray cs.toArray,ty,pos,after,g⟩) h rfl ?_ hp hk
 subst h1 h2
 simp only [execOp,List.map_toArray]
end ops
end
def RR (body:World→(World→Prop)→Prop) (w:World):Prop:=∃ (I:World→Prop) (μ:World→Nat),I w∧∀ w,I w→body w (λ w'=>I w'∧μ w' < μ w)
def Yi (body:Value→World→(Value→World→Prop)→Prop) (a0:Value) (w:World):Prop:=∃ (I:Value→World→Prop) (μ:Value→World→Nat),I a0 w∧∀ a0 w,I a0 w→body a0 w (λ a0' w'=>I a0' w'∧μ a0' w' < μ a0 w)
theorem ZA {body:Value→World→(Value→World→Prop)→Prop} {a0:Value} {w:World} (I:Value→World→Prop) (μ:Value→World→Nat) (h0:I a0 w) (hr:∀ a0 w,I a0 w→body a0 w (λ a0' w'=>I a0' w'∧μ a0' w' < μ a0 w)):Yi body a0 w:=⟨I,μ,h0,hr⟩
def XP (body:Value→Value→World→(Value→Value→World→Prop)→Prop) (a0 a1:Value) (w:World):Prop:=∃ (I:Value→Value→World→Prop) (μ:Value→Value→World→Nat),I a0 a1 w∧∀ a0 a1 w,I a0 a1 w→body a0 a1 w (λ a0' a1' w'=>I a0' a1' w'∧μ a0' a1' w' < μ a0 a1 w)
theorem Ye {body:Value→Value→World→(Value→Value→World→Prop)→Prop} {a0 a1:Value} {w:World} (I:Value→Value→World→Prop) (μ:Value→Value→World→Nat) (h0:I a0 a1 w) (hr:∀ a0 a1 w,I a0 a1 w→body a0 a1 w (λ a0' a1' w'=>I a0' a1' w'∧μ a0' a1' w' < μ a0 a1 w)):XP body a0 a1 w:=⟨I,μ,h0,hr⟩
def ER (body:Value→Value→Value→World→(Value→Value→Value→World→Prop)→Prop) (a0 a1 a2:Value) (w:World):Prop:=∃ (I:Value→Value→Value→World→Prop) (μ:Value→Value→Value→World→Nat),I a0 a1 a2 w∧∀ a0 a1 a2 w,I a0 a1 a2 w→body a0 a1 a2 w (λ a0' a1' a2' w'=>I a0' a1' a2' w'∧μ a0' a1' a2' w' < μ a0 a1 a2 w)
theorem D0 {body:Value→Value→Value→World→(Value→Value→Value→World→Prop)→Prop} {a0 a1 a2:Value} {w:World} (I:Value→Value→Value→World→Prop) (μ:Value→Value→Value→World→Nat) (h0:I a0 a1 a2 w) (hr:∀ a0 a1 a2 w,I a0 a1 a2 w→body a0 a1 a2 w (λ a0' a1' a2' w'=>I a0' a1' a2' w'∧μ a0' a1' a2' w' < μ a0 a1 a2 w)):ER body a0 a1 a2 w:=⟨I,μ,h0,hr⟩
def R4 (body:Value→Value→Value→Value→World→(Value→Value→Value→Value→World→Prop)→Prop) (a0 a1 a2 a3:Value) (w:World):Prop:=∃ (I:Value→Value→Value→Value→World→Prop) (μ:Value→Value→Value→Value→World→Nat),I a0 a1 a2 a3 w∧∀ a0 a1 a2 a3 w,I a0 a1 a2 a3 w→body a0 a1 a2 a3 w (λ a0' a1' a2' a3' w'=>I a0' a1' a2' a3' w'∧μ a0' a1' a2' a3' w' < μ a0 a1 a2 a3 w)
def Sm (body:Value→Value→Value→Value→Value→World→(Value→Value→Value→Value→Value→World→Prop)→Prop) (a0 a1 a2 a3 a4:Value) (w:World):Prop:=∃ (I:Value→Value→Value→Value→Value→World→Prop) (μ:Value→Value→Value→Value→Value→World→Nat),I a0 a1 a2 a3 a4 w∧∀ a0 a1 a2 a3 a4 w,I a0 a1 a2 a3 a4 w→body a0 a1 a2 a3 a4 w (λ a0' a1' a2' a3' a4' w'=>I a0' a1' a2' a3' a4' w'∧μ a0' a1' a2' a3' a4' w' < μ a0 a1 a2 a3 a4 w)
def SN (body:Value→Value→Value→Value→Value→Value→World→(Value→Value→Value→Value→Value→Value→World→Prop)→Prop) (a0 a1 a2 a3 a4 a5:Value) (w:World):Prop:=∃ (I:Value→Value→Value→Value→Value→Value→World→Prop) (μ:Value→Value→Value→Value→Value→Value→World→Nat),I a0 a1 a2 a3 a4 a5 w∧∀ a0 a1 a2 a3 a4 a5 w,I a0 a1 a2 a3 a4 a5 w→body a0 a1 a2 a3 a4 a5 w (λ a0' a1' a2' a3' a4' a5' w'=>I a0' a1' a2' a3' a4' a5' w'∧μ a0' a1' a2' a3' a4' a5' w' < μ a0 a1 a2 a3 a4 a5 w)
def Tr (body:Value→Value→Value→Value→Value→Value→Value→World→(Value→Value→Value→Value→Value→Value→Value→World→Prop)→Prop) (a0 a1 a2 a3 a4 a5 a6:Value) (w:World):Prop:=∃ (I:Value→Value→Value→Value→Value→Value→Value→World→Prop) (μ:Value→Value→Value→Value→Value→Value→Value→World→Nat),I a0 a1 a2 a3 a4 a5 a6 w∧∀ a0 a1 a2 a3 a4 a5 a6 w,I a0 a1 a2 a3 a4 a5 a6 w→body a0 a1 a2 a3 a4 a5 a6 w (λ a0' a1' a2' a3' a4' a5' a6' w'=>I a0' a1' a2' a3' a4' a5' a6' w'∧μ a0' a1' a2' a3' a4' a5' a6' w' < μ a0 a1 a2 a3 a4 a5 a6 w)
def TG (body:Value→Value→Value→Value→Value→Value→Value→Value→World→(Value→Value→Value→Value→Value→Value→Value→Value→World→Prop)→Prop) (a0 a1 a2 a3 a4 a5 a6 a7:Value) (w:World):Prop:=∃ (I:Value→Value→Value→Value→Value→Value→Value→Value→World→Prop) (μ:Value→Value→Value→Value→Value→Value→Value→Value→World→Nat),I a0 a1 a2 a3 a4 a5 a6 a7 w∧∀ a0 a1 a2 a3 a4 a5 a6 a7 w,I a0 a1 a2 a3 a4 a5 a6 a7 w→body a0 a1 a2 a3 a4 a5 a6 a7 w (λ a0' a1' a2' a3' a4' a5' a6' a7' w'=>I a0' a1' a2' a3' a4' a5' a6' a7' w'∧μ a0' a1' a2' a3' a4' a5' a6' a7' w' < μ a0 a1 a2 a3 a4 a5 a6 a7 w)
end Go.Sw
namespace Go.Sw
def drew (w:World):World:={ w with drawn:=w.drawn+1 }
def Ys (ops:Array Oper) (done:List Nat):List Nat :=
 (List.range ops.size).filter λ i=>!done.contains i&&((ops[i]?).map (·.after.all λ e=>!Region.binds .any e||done.contains e.on)).getD false
def jR (ops:Array Oper) (i:Nat):List Nat:=match ops[i]? with
 | some o=>(o.after.toList.filter (λ e=>Region.binds .any e)).map (·.on)
 | none=>[]
def Zay (l:List Nat) (x:Nat):List Nat:=if l.contains x then l else x::l
def HI (ops:Array Oper):Nat→List Nat→List Nat
 | 0,l=>l
 | n+1,l=>HI ops n ((l.flatMap (jR ops)).foldl Zay l)
def Cy (ops:Array Oper) (d:Nat):Bool:=match ops[d]? with
 | some o=>(match o.op with | .move _=>true | _=>false)&&o.guard.isNone
 | none=>false
def Vc (ops:Array Oper) (n:Nat) (done:List Nat) (i:Nat):Bool:=done.all λ d=>(HI ops n [i]).contains d||Cy ops d
def Vb (ops:Array Oper) (done:List Nat):Prop:=∀ x,done.contains x=true→∀ y∈jR ops x,done.contains y=true
def H5 (ops:Array Oper) (C C':World→Prop) (done:List Nat) (i:Nat):Prop:=(∃ n,Vc ops n done i=true)∨∀ x,C' x→C x
def XS (P:Program) (N:Nat) (ro:Option Nat) (ops:Array Oper) (Q:Env→List Deferred→World→Prop) (QP:KP) (C:World→Prop):Nat→List Nat→Env→List Deferred→World→Prop
 | 0,done,ρ,ds,w=>Ys ops done=[]∧Q ρ ds w
 | fuel+1,done,ρ,ds,w =>
  (Ys ops done=[]→Q ρ ds w) ∧
  ∀ i∈Ys ops done,denOp P N ro ops QP i (λ ρ ds w=>(C w∧XS P N ro ops Q QP C fuel (i::done) ρ ds w)∨∃ C',H5 ops C C' done i∧C' w∧XS P N ro ops Q QP C' fuel (i::done) ρ ds w) ρ ds w
def Xs (P:Program) (N:Nat) (ro:Option Nat) (ops:Array Oper) (Q:Env→List Deferred→World→Prop) (QP:KP) (C:World→Prop) (fuel:Nat) (done:List Nat) (ρ:Env) (ds:List Deferred) (w:World):Prop:=Vb ops done→XS P N ro ops Q QP C fuel done ρ ds w
section
variable {P:Program} {N:Nat} {ro:Option Nat} {ops:Array Oper} {Q:Env→List Deferred→World→Prop} {QP:KP} {QP0:List PanicEntry→List Deferred→World→Prop} {C:World→Prop}
theorem JR {i:Nat} {k k':Env→List Deferred→World→Prop} {ρ:Env} {ds:List Deferred} {w:World} (h:∀ ρ ds w,k ρ ds w→k' ρ ds w) (hh:denOp P N ro ops QP i k ρ ds w):denOp P N ro ops QP i k' ρ ds w:=by
 unfold denOp at *
 cases ho:ops[i]? with
 | none=>rw [ho] at hh;exact h _ _ _ hh
 | some o =>
  rw [ho] at hh
  simp only at hh ⊢
  unfold YP at *
  cases hg:o.guard with
  | none=>rw [hg] at hh;exact Ug hh (λ d w=>h _ _ _) (λ v w=>h _ _ _)
  | some g=>rw [hg] at hh;exact VT hh (λ hh=>Ug hh (λ d w=>h _ _ _) (λ v w=>h _ _ _)) (h _ _ _)
def jz (n:Nat) (listed:Array Bool) (done:List Nat):Prop:=listed.size=n∧∀ i,i < n→listed.getD i true=done.contains i
theorem UR {listed:Array Bool} {done:List Nat} (h:jz ops.size listed done) (hd:∀ i∈done,i < ops.size):Region.ready .any ops listed=Ys ops done:=by
 unfold Region.ready Ys
 apply List.filter_congr
 intro i hi
 have hi':i < ops.size:=List.mem_range.1 hi
 have h1:=h.2 i hi'
 rw [h1]
 have h2:∀ x,listed.getD x false=done.contains x:=by
  intro x
  by_cases hx:x < ops.size
  · have:=h.2 x hx
    have hl:x < listed.size:=by rw [h.1];exact hx
    simp [hl] at this ⊢
    exact this
  · have hl:¬ x < listed.size:=by rw [h.1];exact hx
    have:done.contains x=false:=by rw [Bool.eq_false_iff];intro hc;exact hx (hd x (List.contains_iff_mem.1 hc))
    rw [this]
    simp [hl]
 simp only [h2]
theorem jz.step {n:Nat} {listed:Array Bool} {done:List Nat} (h:jz n listed done) (i:Nat):jz n (listed.setIfInBounds i true) (i::done):=by
 refine ⟨by simp [h.1],λ j hj=>?_⟩
 have:=h.2 j hj
 by_cases hij:i=j
 · subst hij
   have hl:i < listed.size:=by rw [h.1];exact hj
   simp [hl]
 · rw [getD_set_ne true hij,this]
   simp only [List.contains_cons]
   have:(j == i)=false:=by simp;omega
   rw [this];rfl
theorem AA:∀ (fuel:Nat) (C:World→Prop) (listed:Array Bool) (done:List Nat) (ρ:Env) (ds:List Deferred) (w:World),jz ops.size listed done→(∀ i∈done,i < ops.size) →
 XS P N ro ops Q QP C fuel done ρ ds w→jI P N ro ops Q QP fuel listed ρ ds w:=by
 intro fuel
 induction fuel with
 | zero=>intro C listed done ρ ds w ht hd h;exact ⟨by rw [UR ht hd];exact h.1,h.2⟩
 | succ fuel ih =>
  intro C listed done ρ ds w ht hd h
  have hr:=UR ht hd
  refine ⟨λ h0=>h.1 (by rw [← hr];exact h0),λ i hi=>?_⟩
  rw [hr] at hi
  have hi':i < ops.size:=by unfold Ys at hi;exact List.mem_range.1 (List.mem_filter.1 hi).1
  have hd':∀ j∈i::done,j < ops.size:=by intro j hj;cases hj with | head=>exact hi' | tail _ hm=>exact hd j hm
  refine JR (λ ρ ds w hh=>?_) (h.2 i hi)
  rcases hh with hh | ⟨C',_,_,hh⟩
  · exact ih _ _ _ _ _ _ (ht.step i) hd' hh.2
  · exact ih _ _ _ _ _ _ (ht.step i) hd' hh
theorem VD {i:Nat} {done:List Nat}:i∈Ys ops done↔done.contains i=false∧∃ o,ops[i]?=some o∧∀ e∈o.after,Region.binds .any e=true→done.contains e.on=true:=by
 unfold Ys
 rw [List.mem_filter,List.mem_range]
 constructor
 · rintro ⟨hi,hh⟩
   rw [Bool.and_eq_true] at hh
   obtain ⟨h1,h2⟩:=hh
   have ho:ops[i]?=some (ops[i]'hi):=Array.getElem?_eq_getElem hi
   refine ⟨by simpa using h1,_,ho,?_⟩
   rw [ho] at h2
   simp only [Option.map_some,Option.getD_some,Array.all_eq_true_iff_forall_mem,Bool.or_eq_true,Bool.not_eq_true'] at h2
   intro e he hb
   rcases h2 e he with h | h
   · rw [hb] at h;cases h
   · exact h
 · rintro ⟨h1,o,ho,h2⟩
   have hi:i < ops.size:=(Array.getElem?_eq_some_iff.1 ho).1
   refine ⟨hi,?_⟩
   rw [Bool.and_eq_true]
   refine ⟨by simpa using h1,?_⟩
   rw [ho]
   simp only [Option.map_some,Option.getD_some,Array.all_eq_true_iff_forall_mem,Bool.or_eq_true,Bool.not_eq_true']
   intro e he
   cases hb:Region.binds .any e with
   | false=>exact .inl rfl
   | true=>exact .inr (h2 e he hb)
theorem WX {i j:Nat} {done:List Nat} (hj:j∈Ys ops done) (hne:j≠i):j∈Ys ops (i::done):=by
 rw [VD] at hj ⊢
 obtain ⟨h1,o,ho,h2⟩:=hj
 have c:∀ x,(i::done).contains x=(x == i||done.contains x):=λ x=>by rw [List.contains_cons]
 refine ⟨by rw [c,h1];simp;exact hne,o,ho,λ e he hb=>by rw [c,h2 e he hb];simp⟩
theorem KF {done done':List Nat} (h:∀ x,done.contains x=done'.contains x):Ys ops done=Ys ops done':=by
 unfold Ys;simp only [h]
theorem jA (x j:Nat) (done:List Nat):(j::done).contains x=(x == j||done.contains x):=List.contains_cons
theorem CG (f:Nat→Bool) (l:List Nat):l.all f=true↔∀ x,l.contains x=true→f x=true:=by
 rw [List.all_eq_true]
 exact ⟨λ h x hx=>h x (List.contains_iff_mem.1 hx),λ h x hx=>h x (List.contains_iff_mem.2 hx)⟩
theorem CX {n:Nat} {done done':List Nat} {i:Nat} (h:∀ x,done.contains x=done'.contains x) (hm:Vc ops n done i=true):Vc ops n done' i=true:=by
 unfold Vc at *
 rw [CG] at *
 intro x hx;rw [← h x] at hx;exact hm x hx
theorem Wy:∀ (fuel:Nat) {C:World→Prop} {done done':List Nat} {ρ:Env} {ds:List Deferred} {w:World},(∀ x,done.contains x=done'.contains x)→XS P N ro ops Q QP C fuel done ρ ds w→XS P N ro ops Q QP C fuel done' ρ ds w
 | 0,C,done,done',ρ,ds,w,h,hh=>⟨by rw [← KF h];exact hh.1,hh.2⟩
 | fuel+1,C,done,done',ρ,ds,w,h,hh=>by
  refine ⟨λ h0=>hh.1 (by rw [KF h];exact h0),λ i hi=>?_⟩
  rw [← KF h] at hi
  have h':∀ x,(i::done).contains x=(i::done').contains x:=λ x=>by simp only [List.contains_cons,h]
  refine JR (λ ρ ds w hx=>?_) (hh.2 i hi)
  rcases hx with hx | ⟨C',hm,hC,hx⟩
  · exact .inl ⟨hx.1,Wy fuel h' hx.2⟩
  · exact .inr ⟨C',hm.imp (λ ⟨n,hm⟩=>⟨n,CX h hm⟩) id,hC,Wy fuel h' hx⟩
theorem Lt {i y:Nat}:y∈jR ops i↔∃ o,ops[i]?=some o∧∃ e∈o.after,Region.binds .any e=true∧e.on=y:=by
 unfold jR
 cases ho:ops[i]? with
 | none=>simp
 | some o =>
  simp only [List.mem_map,List.mem_filter,Array.mem_toList_iff,Option.some.injEq,exists_eq_left']
  constructor
  · rintro ⟨e,⟨h1,h2⟩,h3⟩;exact ⟨e,h1,h2,h3⟩
  · rintro ⟨e,h1,h2,h3⟩;exact ⟨e,⟨h1,h2⟩,h3⟩
theorem yW {i:Nat} {done:List Nat} (h:i∈Ys ops done):∀ y∈jR ops i,done.contains y=true:=by
 intro y hy
 obtain ⟨o,ho,e,he,hb,rfl⟩:=Lt.1 hy
 obtain ⟨_,o',ho',h2⟩:=VD.1 h
 rw [ho] at ho';injection ho' with ho';subst ho'
 exact h2 e he hb
theorem Vb.nil:Vb ops []:=λ x hx=>by simp at hx
theorem Vb.step {i:Nat} {done:List Nat} (h:Vb ops done) (hi:i∈Ys ops done):Vb ops (i::done):=by
 intro x hx y hy
 rw [jA] at hx ⊢
 cases hxi:(x == i) with
 | true=>rw [beq_iff_eq] at hxi;subst hxi;rw [yW hi y hy];simp
 | false=>rw [hxi,Bool.false_or] at hx;rw [h x hx y hy];simp
theorem Ps {l m:List Nat} {x:Nat}:x∈m.foldl Zay l→x∈l∨x∈m:=by
 induction m generalizing l with
 | nil=>exact .inl
 | cons a m ih =>
  intro h
  rcases ih h with h | h
  · unfold Zay at h
    split at h
    · exact .inl h
    · rcases List.mem_cons.1 h with rfl | h
      · exact .inr (List.mem_cons_self ..)
      · exact .inl h
  · exact .inr (List.mem_cons_of_mem _ h)
theorem yI {done:List Nat} {j:Nat} (hc:Vb ops done) (hj:j∈Ys ops done):∀ (n:Nat) (l:List Nat),(∀ x∈l,x=j∨done.contains x=true)→∀ x∈HI ops n l,x=j∨done.contains x=true
 | 0,_,h=>h
 | n+1,l,h=>yI hc hj n _ λ x hx=>by
  rcases Ps hx with hx | hx
  · exact h x hx
  · obtain ⟨y,hy,hxy⟩:=List.mem_flatMap.1 hx
    rcases h y hy with rfl | hd
    · exact .inr (yW hj x hxy)
    · exact .inr (hc y hd x hxy)
def Qx (P:Program) (ops:Array Oper) (C:World→Prop) (o:Oper) (v:Value) (ρ:Env):Prop :=
 ((∀ p q,YP ops o ρ p q=p)∧Y6 o.op=false∧∀ w,C w→(execOp (ev ρ) o).run P w = .ok (.value v) w)∨((∀ p q,YP ops o ρ p q=q)∧v=undef)
theorem Qx.denOp {i:Nat} {o:Oper} {v:Value} {ρ:Env} {ds:List Deferred} {w:World} {k:Env→List Deferred→World→Prop} (hi:ops[i]?=some o) (h:Qx P ops C o v ρ) (hC:C w) (hk:k (put N ρ o.dst v) ds w):denOp P N ro ops QP i k ρ ds w:=by
 unfold Sw.denOp
 simp only [hi]
 rcases h with ⟨hg,hd,hs⟩ | ⟨hg,rfl⟩
 · rw [hg]
   unfold opE
   rw [hd]
   simp only [Bool.false_and]
   unfold opD
   rw [hs w hC]
   exact hk
 · rw [hg];exact hk
theorem I8 {ρ:Env} {d:Option Nat} {v:Value} {x:Operand} (h:∀ t,d=some t→x ≠ .tmp t):ev (put N ρ d v) x=ev ρ x:=by
 cases x with
 | tmp t=>exact Wx (λ e=>h t e rfl)
 | _=>rfl
theorem xE (o:Oper) (hs:∀ cs b,o.op ≠ .select cs b) (ρ:Env) (d:Option Nat) (v:Value) (h:∀ t,d=some t→t ∉ o.looksAt ops):execOp (ev (put N ρ d v)) o=execOp (ev ρ) o:=by
 refine execOp_congr o hs λ x hx=>I8 λ t ht e=>h t ht ?_
 subst e
 unfold Oper.looksAt
 refine List.mem_append_left _ (List.mem_filterMap.2 ⟨.tmp t,by simpa using hx,rfl⟩)
theorem KZ (o:Oper) (ρ:Env) (d:Option Nat) (v:Value) (h:∀ t,d=some t→t ∉ o.looksAt ops) (p q:Prop):YP ops o (put N ρ d v) p q=YP ops o ρ p q:=by
 unfold YP
 cases hg:o.guard with
 | none=>rfl
 | some g =>
  obtain ⟨j,want⟩:=g
  simp only
  have:X4 ops (put N ρ d v) j=X4 ops ρ j:=by
   unfold X4
   cases hd:(ops[j]?).bind (·.dst) with
   | none=>rfl
   | some t =>
    refine Wx λ e=>h t e ?_
    unfold Oper.looksAt
    refine List.mem_append_right _ ?_
    simp only [hg,hd,Option.toList_some,List.mem_singleton]
  rw [this]
theorem La (ρ:Env) {x y:Option Nat} (v u:Value) (h:∀ t,x=some t→y≠some t):put N (put N ρ x v) y u=put N (put N ρ y u) x v:=by
 funext i
 by_cases hx:x=some i
 · have hy:y≠some i:=h i hx
   rw [Wx hy]
   subst hx
   simp only [put,upd]
   cases Nat.beq i i&&Nat.blt i N with
   | true=>rfl
   | false=>exact (Wx hy).symm
 · by_cases hy:y=some i
   · rw [Wx (d:=x) hx]
     subst hy
     simp only [put,upd]
     cases Nat.beq i i&&Nat.blt i N with
     | true=>rfl
     | false=>exact Wx hx
   · rw [Wx hy,Wx hx,Wx hx,Wx hy]
theorem Qx.put {o oj:Oper} {v u:Value} {ρ:Env} (hs:∀ cs b,o.op ≠ .select cs b) (h:Qx P ops C o v ρ) (hd:∀ t,oj.dst=some t→t ∉ o.looksAt ops):Qx P ops C o v (put N ρ oj.dst u):=by
 rcases h with ⟨hg,hde,hr⟩ | ⟨hg,hv⟩
 · exact .inl ⟨λ p q=>(KZ o ρ _ u hd p q).trans (hg p q),hde,λ w hw=>by rw [xE o hs ρ _ u hd];exact hr w hw⟩
 · exact .inr ⟨λ p q=>(KZ o ρ _ u hd p q).trans (hg p q),hv⟩
theorem FD {j:Nat} {oi oj:Oper} {v:Value} (hj:ops[j]?=some oj) (hap:oi.apart ops oj=true) (hsi:∀ cs b,oi.op ≠ .select cs b) (hsj:∀ cs b,oj.op ≠ .select cs b) {k:Env→List Deferred→World→Prop} {ρ:Env} {ds:List Deferred} {w:World}
 (hy:Qx P ops C oi v ρ) (h:denOp P N ro ops (λ ch _ ds w=>QP0 ch ds w) j k (put N ρ oi.dst v) ds w) :
 denOp P N ro ops (λ ch _ ds w=>QP0 ch ds w) j (λ ρ' ds' w'=>Qx P ops C oi v ρ'∧k (put N ρ' oi.dst v) ds' w') ρ ds w:=by
 obtain ⟨h1,h2,h3⟩:=Oper.apart_spec hap
 unfold denOp at *
 simp only [hj] at *
 rw [KZ oj ρ oi.dst v h1] at h
 have step:∀ u ds' w',k (put N (put N ρ oi.dst v) oj.dst u) ds' w'→Qx P ops C oi v (put N ρ oj.dst u)∧k (put N (put N ρ oj.dst u) oi.dst v) ds' w':=λ u ds' w' hk =>
  ⟨hy.put hsi h3,by rw [← La ρ v u h2];exact hk⟩
 have hE:opE P ro (λ ch _ ds w=>QP0 ch ds w) oj (put N ρ oi.dst v) ds w (λ d w=>k (put N (put N ρ oi.dst v) oj.dst undef) (d::ds) w) (λ u w=>k (put N (put N ρ oi.dst v) oj.dst u) ds w) →
  opE P ro (λ ch _ ds w=>QP0 ch ds w) oj ρ ds w (λ d w=>Qx P ops C oi v (put N ρ oj.dst undef)∧k (put N (put N ρ oj.dst undef) oi.dst v) (d::ds) w) (λ u w=>Qx P ops C oi v (put N ρ oj.dst u)∧k (put N (put N ρ oj.dst u) oi.dst v) ds w):=by
  intro hh
  have:opE P ro (λ ch _ ds w=>QP0 ch ds w) oj ρ ds w (λ d w=>k (put N (put N ρ oi.dst v) oj.dst undef) (d::ds) w) (λ u w=>k (put N (put N ρ oi.dst v) oj.dst u) ds w):=by
   unfold opE at *
   rw [xE oj hsj ρ oi.dst v h1] at hh
   exact hh
  exact Ug this (λ d w hh=>step _ _ _ hh) (λ u w hh=>step _ _ _ hh)
 unfold YP at *
 cases hg:oj.guard with
 | none=>rw [hg] at h;exact hE h
 | some g=>rw [hg] at h;exact VT h hE (step _ _ _)
def Jk (o:Oper):Bool:=match o.op with | .select .. => false | _=>true
theorem Wt {o:Oper} (h:Jk o=true):∀ cs b,o.op ≠ .select cs b:=by
 intro cs b e;simp [Jk,e] at h
def GP (ops:Array Oper) (done:List Nat) (i:Nat):Bool:=match ops[i]? with
 | none=>false
 | some o=>Jk o&&(List.range ops.size).all λ j=>done.contains j||Nat.beq j i||(match ops[j]? with
  | none=>true
  | some oj=>Jk oj&&(oj.after.any (λ e=>Region.binds .any e&&Nat.beq e.on i)||o.apart ops oj))
theorem Qx.turn {C':World→Prop} {i:Nat} {o:Oper} {v:Value} {ρ:Env} {w:World} (hi:ops[i]?=some o) (hm:Cy ops i=true) (hw:C w) (h:Qx P ops C o v ρ):Qx P ops C' o v ρ:=by
 unfold Cy at hm
 rw [hi] at hm
 simp only [Bool.and_eq_true] at hm
 obtain ⟨h1,h2⟩:=hm
 have hg:∀ p q,YP ops o ρ p q=p:=by
  intro p q
  unfold YP
  cases hgd:o.guard with
  | none=>rfl
  | some g=>rw [hgd] at h2;cases h2
 rcases h with ⟨_,hd,hr⟩ | ⟨hg',_⟩
 · refine .inl ⟨hg,hd,λ w' _=>?_⟩
   have:=hr w hw
   cases ho:o.op with
   | move x =>
    have he:execOp (ev ρ) o=Sem.pure (.value (ev ρ x)):=by unfold execOp;rw [ho];rfl
    rw [he] at this ⊢
    have hv:(Sem.pure (.value (ev ρ x)):Sem Next).run P w = .ok (.value (ev ρ x)) w:=rfl
    rw [hv] at this
    injection this with this _
    rw [← this];rfl
   | _=>rw [ho] at h1;cases h1
 · have h3:=hg True False
   rw [hg' True False] at h3
   exact absurd trivial (by rw [← h3];exact id)
theorem Qx.sub {C':World→Prop} {o:Oper} {v:Value} {ρ:Env} (h:Qx P ops C o v ρ) (hs:∀ x,C' x→C x):Qx P ops C' o v ρ:=by
 rcases h with ⟨h1,h2,h3⟩ | h
 · exact .inl ⟨h1,h2,λ w hw=>h3 w (hs w hw)⟩
 · exact .inr h
theorem GY {i:Nat} {oi:Oper} {v:Value} (hi:ops[i]?=some oi) (hsi:∀ cs b,oi.op ≠ .select cs b):∀ (fuel:Nat) (C:World→Prop) (done:List Nat) (ρ:Env) (ds:List Deferred) (w:World),
 (∀ j oj,ops[j]?=some oj→j≠i→done.contains j=false→(∀ cs b,oj.op ≠ .select cs b)∧((∀ e∈oj.after,Region.binds .any e=true→e.on≠i)→oi.apart ops oj=true)) →
 i∈Ys ops done→Vb ops done→C w→Qx P ops C oi v ρ→XS P N ro ops Q (λ ch _ ds w=>QP0 ch ds w) C fuel (i::done) (put N ρ oi.dst v) ds w→XS P N ro ops Q (λ ch _ ds w=>QP0 ch ds w) C (fuel+1) done ρ ds w:=by
 intro fuel
 induction fuel with
 | zero =>
  intro C done ρ ds w _ hr _ hC hy H
  refine ⟨λ h=>(by rw [h] at hr;cases hr),λ j hj=>?_⟩
  by_cases hji:j=i
  · subst hji;exact hy.denOp hi hC (.inl ⟨hC,H⟩)
  · have:=WX hj hji
    rw [H.1] at this
    cases this
 | succ fuel ih =>
  intro C done ρ ds w hfree hr hcl hC hy H
  refine ⟨λ h=>(by rw [h] at hr;cases hr),λ j hj=>?_⟩
  by_cases hji:j=i
  · subst hji;exact hy.denOp hi hC (.inl ⟨hC,H⟩)
  · have h1:=H.2 j (WX hj hji)
    have hj':=VD.1 hj
    obtain ⟨hjun,oj,hoj,hall⟩:=hj'
    have hfr:=hfree j oj hoj hji hjun
    have hnot:∀ e∈oj.after,Region.binds .any e=true→e.on≠i:=λ e he hb heq=>by
     have h1:=hall e he hb
     have h0:=(VD.1 hr).1
     rw [heq] at h1
     rw [h0] at h1;cases h1
    have h2:=FD hoj (hfr.2 hnot) hsi hfr.1 hy h1
    have c:∀ x,(j::done).contains x=(x == j||done.contains x):=λ x=>by rw [List.contains_cons]
    have hperm:∀ x,(j::i::done).contains x=(i::j::done).contains x:=λ x=>by simp only [List.contains_cons];cases (x == i)<;>cases (x == j)<;>rfl
    have hfree':∀ k ok,ops[k]?=some ok→k≠i→(j::done).contains k=false→(∀ cs b,ok.op ≠ .select cs b)∧((∀ e∈ok.after,Region.binds .any e=true→e.on≠i)→oi.apart ops ok=true) :=
     λ k ok hk hki hun=>hfree k ok hk hki (by rw [c] at hun;simp only [Bool.or_eq_false_iff] at hun;exact hun.2)
    refine JR (λ ρ' ds' w' h3=>?_) h2
    rcases h3 with ⟨hs3,⟨hC3,h3⟩ | ⟨C',⟨n,hm⟩ | hsub,hC3,h3⟩⟩
    · exact .inl ⟨hC3,ih C (j::done) ρ' ds' w' hfree' (WX hr (Ne.symm hji)) (hcl.step hj) hC3 hs3 (Wy fuel hperm h3)⟩
    · have hmv:Cy ops i=true:=by
       unfold Vc at hm
       rw [List.all_cons,Bool.and_eq_true,Bool.or_eq_true] at hm
       rcases hm.1 with hm | hm
       · exfalso
         rcases yI hcl hj n [j] (λ x hx => .inl (by simpa using hx)) i (List.contains_iff_mem.1 hm) with h | h
         · exact hji h.symm
         · rw [(VD.1 hr).1] at h;cases h
       · exact hm
      have hm':Vc ops n done j=true:=by
       unfold Vc at hm ⊢
       rw [List.all_cons,Bool.and_eq_true] at hm
       exact hm.2
      exact .inr ⟨C',.inl ⟨n,hm'⟩,hC3,ih C' (j::done) ρ' ds' w' hfree' (WX hr (Ne.symm hji)) (hcl.step hj) hC3 (hs3.turn hi hmv hC) (Wy fuel hperm h3)⟩
    · exact .inr ⟨C',.inr hsub,hC3,ih C' (j::done) ρ' ds' w' hfree' (WX hr (Ne.symm hji)) (hcl.step hj) hC3 (hs3.sub hsub) (Wy fuel hperm h3)⟩
theorem V3 (i:Nat) {fuel:Nat} {done:List Nat} {o:Oper} {v:Value} {ρ:Env} {ds:List Deferred} {w:World} (hC:C w) (hi:ops[i]?=some o) (hr:(Ys ops done).contains i=true) (hf:GP ops done i=true) (hg:∀ p q,YP ops o ρ p q=p) (hd:Y6 o.op=false)
 (hs:∀ w,C w→(execOp (ev ρ) o).run P w = .ok (.value v) w) (h:Xs P N ro ops Q (λ ch _ ds w=>QP0 ch ds w) C fuel (i::done) (put N ρ o.dst v) ds w):Xs P N ro ops Q (λ ch _ ds w=>QP0 ch ds w) C (fuel+1) done ρ ds w:=by
 unfold GP at hf
 rw [hi] at hf
 simp only [Bool.and_eq_true,List.all_eq_true,List.mem_range] at hf
 obtain ⟨hns,hf⟩:=hf
 intro hcl
 refine GY hi (Wt hns) fuel C done ρ ds w (λ j oj hoj hne hun=>?_) (List.contains_iff_mem.1 hr) hcl hC (.inl ⟨hg,hd,hs⟩) (h (hcl.step (List.contains_iff_mem.1 hr)))
 have hj:=hf j (Array.getElem?_eq_some_iff.1 hoj).1
 rw [hoj,hun] at hj
 have hne':Nat.beq j i=false:=by rw [Bool.eq_false_iff];simpa using hne
 rw [hne'] at hj
 simp only [Bool.false_or,Bool.and_eq_true,Bool.or_eq_true] at hj
 refine ⟨Wt hj.1,λ hno=>?_⟩
 rcases hj.2 with h | h
 · rw [Array.any_eq_true'] at h
   obtain ⟨e,he,hb⟩:=h
   simp only [Bool.and_eq_true] at hb
   exact absurd (by simpa using hb.2) (hno e he hb.1)
 · exact h
theorem Ml (i:Nat) {fuel:Nat} {done:List Nat} {o:Oper} {ρ:Env} {ds:List Deferred} {w:World} (hC:C w) (hi:ops[i]?=some o) (hr:(Ys ops done).contains i=true) (hf:GP ops done i=true) (hg:∀ p q,YP ops o ρ p q=q)
 (h:Xs P N ro ops Q (λ ch _ ds w=>QP0 ch ds w) C fuel (i::done) (put N ρ o.dst undef) ds w):Xs P N ro ops Q (λ ch _ ds w=>QP0 ch ds w) C (fuel+1) done ρ ds w:=by
 unfold GP at hf
 rw [hi] at hf
 simp only [Bool.and_eq_true,List.all_eq_true,List.mem_range] at hf
 obtain ⟨hns,hf⟩:=hf
 intro hcl
 refine GY hi (Wt hns) fuel C done ρ ds w (λ j oj hoj hne hun=>?_) (List.contains_iff_mem.1 hr) hcl hC (.inr ⟨hg,rfl⟩) (h (hcl.step (List.contains_iff_mem.1 hr)))
 have hj:=hf j (Array.getElem?_eq_some_iff.1 hoj).1
 rw [hoj,hun] at hj
 have hne':Nat.beq j i=false:=by rw [Bool.eq_false_iff];simpa using hne
 rw [hne'] at hj
 simp only [Bool.false_or,Bool.and_eq_true,Bool.or_eq_true] at hj
 refine ⟨Wt hj.1,λ hno=>?_⟩
 rcases hj.2 with h | h
 · rw [Array.any_eq_true'] at h
   obtain ⟨e,he,hb⟩:=h
   simp only [Bool.and_eq_true] at hb
   exact absurd (by simpa using hb.2) (hno e he hb.1)
 · exact h
abbrev NX (P:Program) (N:Nat) (ro:Option Nat) (ops:Array Oper) (Q:Env→List Deferred→World→Prop) (QP:KP) (C:World→Prop) (fuel:Nat) (done:List Nat) (i:Nat):Env→List Deferred→World→Prop :=
 λ ρ ds w=>(C w∧XS P N ro ops Q QP C fuel (i::done) ρ ds w)∨∃ C',H5 ops C C' done i∧C' w∧XS P N ro ops Q QP C' fuel (i::done) ρ ds w
theorem Vr {o:Oper} {T T':Env→List Deferred→World→Prop} {ρ:Env} {ds:List Deferred} {w:World} (h:ZN P N ro QP T [o] ρ ds w) (hT:∀ ρ ds w,T ρ ds w→T' ρ ds w):ZN P N ro QP T' [o] ρ ds w:=Ug h (λ _ _=>hT _ _ _) (λ _ _=>hT _ _ _)
theorem IW {i:Nat} {done l:List Nat} (hr:Ys ops done=l) (hi:i∈l):i∈Ys ops done:=by rw [hr];exact hi
theorem Lj (i:Nat) {fuel:Nat} {done:List Nat} {o:Oper} {ρ:Env} {ds:List Deferred} {w:World} (hi:ops[i]?=some o) (hr:Ys ops done=[i]) (hg:∀ p q,YP ops o ρ p q=p)
 (h:ZN P N ro QP (λ ρ ds w=>C w∧Xs P N ro ops Q QP C fuel (i::done) ρ ds w) [o] ρ ds w):Xs P N ro ops Q QP C (fuel+1) done ρ ds w:=by
 intro hcl
 refine ⟨λ h0=>(by rw [hr] at h0;cases h0),λ j hj=>?_⟩
 have hj0:=hj
 rw [hr] at hj
 simp only [List.mem_singleton] at hj
 subst hj
 unfold denOp
 rw [hi]
 simp only
 rw [hg]
 exact Vr (T':=NX P N ro ops Q QP C fuel done j) h λ ρ ds w hh => .inl ⟨hh.1,hh.2 (hcl.step hj0)⟩
theorem Di (i:Nat) {fuel:Nat} {done:List Nat} {o:Oper} {ρ:Env} {ds:List Deferred} {w:World} (hi:ops[i]?=some o) (hr:Ys ops done=[i]) (hg:∀ p q,YP ops o ρ p q=p)
 (h:ZN P N ro QP (λ ρ ds w=>∃ C':World→Prop,(∀ x,C' x→C x)∧C' w∧Xs P N ro ops Q QP C' fuel (i::done) ρ ds w) [o] ρ ds w):Xs P N ro ops Q QP C (fuel+1) done ρ ds w:=by
 intro hcl
 refine ⟨λ h0=>(by rw [hr] at h0;cases h0),λ j hj=>?_⟩
 have hj0:=hj
 rw [hr] at hj
 simp only [List.mem_singleton] at hj
 subst hj
 unfold denOp
 rw [hi]
 simp only
 rw [hg]
 exact Vr (T':=NX P N ro ops Q QP C fuel done j) h λ ρ ds w ⟨C',h0,h1,h2⟩ => .inr ⟨C',.inr h0,h1,h2 (hcl.step hj0)⟩
theorem LU (i n:Nat) {fuel:Nat} {done:List Nat} {o:Oper} {ρ:Env} {ds:List Deferred} {w:World} (hi:ops[i]?=some o) (hr:Ys ops done=[i]) (hm:Vc ops n done i=true) (hg:∀ p q,YP ops o ρ p q=p)
 (h:ZN P N ro QP (λ ρ ds w=>∃ C':World→Prop,C' w∧Xs P N ro ops Q QP C' fuel (i::done) ρ ds w) [o] ρ ds w):Xs P N ro ops Q QP C (fuel+1) done ρ ds w:=by
 intro hcl
 refine ⟨λ h0=>(by rw [hr] at h0;cases h0),λ j hj=>?_⟩
 have hj0:=hj
 rw [hr] at hj
 simp only [List.mem_singleton] at hj
 subst hj
 unfold denOp
 rw [hi]
 simp only
 rw [hg]
 exact Vr (T':=NX P N ro ops Q QP C fuel done j) h λ ρ ds w ⟨C',h1,h2⟩ => .inr ⟨C',.inl ⟨n,hm⟩,h1,h2 (hcl.step hj0)⟩
theorem Uw (i i2:Nat) {fuel:Nat} {done:List Nat} {o o2:Oper} {ρ:Env} {ds:List Deferred} {w:World} (hi:ops[i]?=some o) (hi2:ops[i2]?=some o2) (hr:Ys ops done=[i,i2]) (hg:∀ p q,YP ops o ρ p q=p) (hg2:∀ p q,YP ops o2 ρ p q=p)
 (h:ZN P N ro QP (λ ρ ds w=>∃ C':World→Prop,(∀ x,C' x→C x)∧C' w∧Xs P N ro ops Q QP C' fuel (i::done) ρ ds w) [o] ρ ds w)
 (h2:ZN P N ro QP (λ ρ ds w=>∃ C':World→Prop,(∀ x,C' x→C x)∧C' w∧Xs P N ro ops Q QP C' fuel (i2::done) ρ ds w) [o2] ρ ds w):Xs P N ro ops Q QP C (fuel+1) done ρ ds w:=by
 intro hcl
 refine ⟨λ h0=>(by rw [hr] at h0;cases h0),λ j hj=>?_⟩
 rw [hr] at hj
 simp only [List.mem_cons,List.not_mem_nil,or_false] at hj
 rcases hj with rfl | rfl
 · unfold denOp;rw [hi];simp only;rw [hg];exact Vr (T':=NX P N ro ops Q QP C fuel done _) h λ ρ ds w ⟨C',k0,k1,k2⟩ => .inr ⟨C',.inr k0,k1,k2 (hcl.step (IW hr (by simp)))⟩
 · unfold denOp;rw [hi2];simp only;rw [hg2];exact Vr (T':=NX P N ro ops Q QP C fuel done _) h2 λ ρ ds w ⟨C',k0,k1,k2⟩ => .inr ⟨C',.inr k0,k1,k2 (hcl.step (IW hr (by simp)))⟩
theorem Ny {fuel:Nat} {done:List Nat} {ρ:Env} {ds:List Deferred} {w:World} (hr:Ys ops done=[]) (h:Q ρ ds w):Xs P N ro ops Q QP C fuel done ρ ds w:=by
 intro _
 cases fuel with
 | zero=>exact ⟨hr,h⟩
 | succ n=>exact ⟨λ _=>h,λ i hi=>by rw [hr] at hi;cases hi⟩
theorem LH {fuel:Nat} {done:List Nat} {ρ:Env} {ds:List Deferred} {w:World} (fuel':Nat) (done':List Nat) (S:List Nat) (J:Env→World→Prop)
 (hc:∀ T:Nat→List Nat→Env→World→Prop,(∀ ρ' w,Fr S ρ ρ'→C w→J ρ' w→Xs P N ro ops Q QP C fuel' done' ρ' ds w)→Xs P N ro ops Q QP C fuel done ρ ds w)
 (hJ:∀ σ w,C w→J σ w→Xs P N ro ops Q QP C fuel' done' (mix S ρ σ) ds w):Xs P N ro ops Q QP C fuel done ρ ds w :=
 hc (λ _ _ _ _=>True) λ ρ' w hf hC hj=>by rw [← Jo hf];exact hJ ρ' w hC hj
end
def qV (P:Program) (C:World→Prop) (s:Sem Value) (k:Value→Prop):Prop:=∃ v,(∀ w,C w→s.run P w = .ok v w)∧k v
def VS (w:World) (f:(World→Prop)→World→Prop):Prop:=∃ C:World→Prop,C w∧f C w
def Q8 (C:World→Prop) (w:World) (f:(World→Prop)→World→Prop):Prop:=∃ C':World→Prop,(∀ x,C' x→C x)∧C' w∧f C' w
def Yp (w:World) (f:(World→Prop)→World→Prop):Prop:=∃ C:World→Prop,C (drew w)∧f C (drew w)
section
variable {P:Program} {N:Nat} {ro:Option Nat}
theorem VH {ops:Array Oper} {Q:Env→List Deferred→World→Prop} {QP:KP} {S:List Nat} {ρ0:Env} (hS:ops.toList.all (λ o=>match o.dst with | some d=>S.contains d | none=>true)=true):∀ (fuel:Nat) (C:World→Prop) (done:List Nat) (ρ:Env) (ds:List Deferred) (w:World),Fr S ρ0 ρ →
 XS P N ro ops Q (λ ch _ ds w=>∀ ρ',Fr S ρ0 ρ'→QP ch ρ' ds w) C fuel done ρ ds w→XS P N ro ops Q QP C fuel done ρ ds w
 | 0,_,_,_,_,_,_,h=>h
 | fuel+1,C,done,ρ,ds,w,hf,h=>⟨h.1,λ i hi=>by
  have h2:=h.2 i hi
  unfold denOp at *
  cases ho:ops[i]? with
  | none =>
   rw [ho] at h2
   rcases h2 with h2 | ⟨C',hm,hC,h2⟩
   · exact .inl ⟨h2.1,VH hS fuel _ _ _ _ _ hf h2.2⟩
   · exact .inr ⟨C',hm,hC,VH hS fuel _ _ _ _ _ hf h2⟩
  | some o =>
   rw [ho] at h2
   simp only at h2 ⊢
   have hm:o∈ops.toList:=by rw [← Array.getElem?_toList] at ho;exact List.mem_of_getElem? ho
   have hfp:∀ v,Fr S ρ0 (put N ρ o.dst v):=by
    intro v
    have:=List.all_eq_true.1 hS o hm
    cases hd:o.dst with
    | none=>exact hf
    | some d=>rw [hd] at this;exact hf.put this
   have hE:∀ {kd kd':Deferred→World→Prop} {k k':Value→World→Prop},(∀ d w,kd d w→kd' d w)→(∀ v w,k v w→k' v w)→opE P ro (λ ch _ ds w=>∀ ρ',Fr S ρ0 ρ'→QP ch ρ' ds w) o ρ ds w kd k→opE P ro QP o ρ ds w kd' k':=by
    intro kd kd' k k' hkd hk hh
    unfold opE at *
    cases hb:(Y6 o.op&&ro.isSome) with
    | true=>rw [hb] at hh;exact hh.elim
    | false=>rw [hb] at hh;exact Kv hh (λ ch w hq=>hq ρ hf) hkd hk
   have next:∀ v ds w,((C w∧XS P N ro ops Q (λ ch _ ds w=>∀ ρ',Fr S ρ0 ρ'→QP ch ρ' ds w) C fuel (i::done) (put N ρ o.dst v) ds w)∨∃ C',H5 ops C C' done i∧C' w∧XS P N ro ops Q (λ ch _ ds w=>∀ ρ',Fr S ρ0 ρ'→QP ch ρ' ds w) C' fuel (i::done) (put N ρ o.dst v) ds w) →
    ((C w∧XS P N ro ops Q QP C fuel (i::done) (put N ρ o.dst v) ds w)∨∃ C',H5 ops C C' done i∧C' w∧XS P N ro ops Q QP C' fuel (i::done) (put N ρ o.dst v) ds w):=by
    intro v ds w hh
    rcases hh with hh | ⟨C',hm,hC,hh⟩
    · exact .inl ⟨hh.1,VH hS fuel _ _ _ _ _ (hfp v) hh.2⟩
    · exact .inr ⟨C',hm,hC,VH hS fuel _ _ _ _ _ (hfp v) hh⟩
   unfold YP at *
   cases hg:o.guard with
   | none=>rw [hg] at h2;exact hE (λ d w=>next _ _ _) (λ v w=>next _ _ _) h2
   | some g=>rw [hg] at h2;exact VT h2 (λ hh=>hE (λ d w=>next _ _ _) (λ v w=>next _ _ _) hh) (next _ _ _)⟩
theorem NO {id:Nat} {l:List Oper} {Q:K} {QP:KP} {ρ:Env} {ds:List Deferred} {w:World} (S:List Nat) (hm:P.follows .mixedOrders=true) (hS:l.all (λ o=>match o.dst with | some d=>S.contains d | none=>true)=true) (C:World→Prop)
 (h:Xs P N ro l.toArray (Q .normal) (λ ch _ ds w=>∀ ρ',Fr S ρ ρ'→QP ch ρ' ds w) C l.length [] ρ ds (drew w)):den P N ro (.region id l.toArray true) Q QP ρ ds w:=by
 refine ⟨hm,?_⟩
 have:l.toArray.size=l.length:=by simp
 refine AA _ C _ [] _ _ _ ?_ (λ i hi=>by cases hi) (by rw [this];exact VH (by simpa using hS) _ _ _ _ _ _ (Fr.refl _ _) (h Vb.nil))
 refine ⟨by simp,λ i hi=>?_⟩
 simp at hi
 simp [hi]
theorem jl {C:World→Prop} {s:Sem Value} {o:Oper} {ρ:Env} {v:Value} (hs:execOp (ev ρ) o=(do pure (.value (← s)))) (h:∀ w,C w→s.run P w = .ok v w):∀ w,C w→(execOp (ev ρ) o).run P w = .ok (.value v) w:=by
 intro w hw
 rw [hs,Ei,h w hw]
theorem Pd {C:World→Prop} {o:Oper} {ρ:Env} {v:Value} (hs:execOp (ev ρ) o=Sem.pure (.value v)):∀ w,C w→(execOp (ev ρ) o).run P w = .ok (.value v) w:=by
 intro w _;rw [hs];rfl
theorem NQ {C:World→Prop} {c a b:Operand} {d:Nat} {ty:TypeId} {pos:String} {after:Array Edge} {g:Option (Nat×Bool)} {ρ:Env} {va vb:Value} {t:Bool} (h1:ev ρ c = .bool t) (h2:ev ρ a=va) (h3:ev ρ b=vb) :
 ∀ w,C w→(execOp (ev ρ) ⟨some d,.pick c a b,ty,pos,after,g⟩).run P w = .ok (.value (if t then va else vb)) w:=by
 intro w _
 subst h2 h3
 show Sem.run P (do pure (.value (if ← asBool (ev ρ c) then ev ρ a else ev ρ b)):Sem Next) w=_
 rw [h1];rfl
theorem Fl {c a b:Value} {k:Value→Prop} (h:Zu c a b k):∃ t,c = .bool t∧k (if t then a else b):=by
 unfold Zu at h
 split at h
 · exact ⟨true,rfl,h⟩
 · exact ⟨false,rfl,h⟩
 · exact h.elim
theorem Ck {v:Value} {want:Bool} {p q:Prop} (h:Zl v want p q):(Xj v=some want∧p)∨(Xj v≠some want∧q):=by
 by_cases hb:Xj v=some want
 · rw [YO hb] at h;exact .inl ⟨hb,h⟩
 · rw [QH hb] at h;exact .inr ⟨hb,h⟩
end
end Go.Sw
namespace Go.Sw
section
variable {P:Program} {N:Nat} {ro:Option Nat}
theorem FQ (Q:K):Qv (λ ρ ds w=>Q .normal ρ ds w) Q=Q:=by funext e ρ ds w;cases e<;>rfl
theorem Bx {c:Code} {Q:K} {QP:KP} {ρ:Env} {ds:List Deferred} {w:World} (S:List Nat) (J:Env→World→Prop)
 (hc:∀ k':Env→List Deferred→World→Prop,(∀ ρ' w,Fr S ρ ρ'→J ρ' w→k' ρ' ds w)→den P N ro c (Qv k' Q) QP ρ ds w) (hJ:∀ σ w,J σ w→Q .normal (mix S ρ σ) ds w):den P N ro c Q QP ρ ds w:=by
 have:=Oy (k:=λ ρ ds w=>Q .normal ρ ds w) S J hJ hc
 rwa [FQ] at this
theorem FC (n:Nat) (j:Nat) (want:Bool) {ops:Array Oper} {l:List Oper} {Q:K} {QP:KP} {ρ:Env} {ds:List Deferred} {w:World} {v:Value} (S:List Nat) (J:Env→World→Prop) (hok:DP ops j want (l.take n) (l.drop n)=true) (hv:X4 ops ρ j=v)
 (hc:∀ T:Env→List Deferred→World→Prop,(∀ ρ' w,Fr S ρ ρ'→J ρ' w→T ρ' ds w)→Zl v want (ZN P N ro QP T (l.take n) ρ ds w) (T (skipAll N (l.take n) ρ) ds w))
 (hJ:∀ σ w,J σ w→Yb P N ro ops Q QP (l.drop n) none (mix S ρ σ) ds w):Yb P N ro ops Q QP l none ρ ds w:=Ms n j want S J hok hv hJ hc
variable {fn:Func} {R:RT} {ρ:Env} {w:World}
theorem Cq (hf:fn.results = #[]) (tmps:Array Value):(results fn tmps).run P w = .ok (.tuple #[]) w:=by simp [results,hf]
theorem Ct {t:Tmp} (hf:fn.results = #[.tmp t]) (tmps:Array Value):(results fn tmps).run P w = .ok (tmps.getD t undef) w:=by simp [results,hf]
theorem BU {t u:Tmp} (hf:fn.results = #[.tmp t,.tmp u]) (tmps:Array Value):(results fn tmps).run P w = .ok (.tuple #[tmps.getD t undef,tmps.getD u undef]) w:=by simp [results,hf]
theorem Cx {t u x:Tmp} (hf:fn.results = #[.tmp t,.tmp u,.tmp x]) (tmps:Array Value):(results fn tmps).run P w = .ok (.tuple #[tmps.getD t undef,tmps.getD u undef,tmps.getD x undef]) w:=by simp [results,hf]
theorem ZZ (hf:fn.results = #[]) (h:R (.returned (.tuple #[])) w):Uq P fn R .ret ρ [] w:=⟨rfl,λ tmps _=>⟨_,Cq hf tmps,h⟩⟩
theorem Zi {t:Tmp} {a:Value} (hf:fn.results = #[.tmp t]) (h1:ρ t=a) (h:R (.returned a) w):Uq P fn R .ret ρ [] w:=⟨rfl,λ tmps ht=>⟨_,Ct hf tmps,by rw [ht,h1];exact h⟩⟩
theorem Yx {t u:Tmp} {a b:Value} (hf:fn.results = #[.tmp t,.tmp u]) (h1:ρ t=a) (h2:ρ u=b) (h:R (.returned (.tuple #[a,b])) w):Uq P fn R .ret ρ [] w:=⟨rfl,λ tmps ht=>⟨_,BU hf tmps,by rw [ht,ht,h1,h2];exact h⟩⟩
theorem Js {t u x:Tmp} {a b c:Value} (hf:fn.results = #[.tmp t,.tmp u,.tmp x]) (h1:ρ t=a) (h2:ρ u=b) (h3:ρ x=c) (h:R (.returned (.tuple #[a,b,c])) w):Uq P fn R .ret ρ [] w:=⟨rfl,λ tmps ht=>⟨_,Cx hf tmps,by rw [ht,ht,ht,h1,h2,h3];exact h⟩⟩
theorem ZP {ds:List Deferred} (h:Uq P fn R .ret ρ ds w):Uq P fn R .normal ρ ds w:=h
def opN (P:Program) (s:Sem Next) (QP:List PanicEntry→World→Prop) (w:World) (k:Value→World→Prop):Prop:=opD P s w QP (λ _ _=>False) k
theorem Pw {QP:KP} {T:Env→List Deferred→World→Prop} {o:Oper} {rest:List Oper} {ds:List Deferred} {s:Sem Next} {QP':List PanicEntry→World→Prop} {k:Value→World→Prop} (h:opN P s QP' w k) (hd:Y6 o.op=false) (hs:execOp (ev ρ) o=s) (hp:∀ ch w,QP' ch w→QP ch ρ ds w)
 (hk:∀ v w',k v w'→ZN P N ro QP T rest (put N ρ o.dst v) ds w'):ZN P N ro QP T (o::rest) ρ ds w:=by
 show opE P ro QP o ρ ds w _ _
 unfold opE
 rw [hd,hs]
 exact Kv h hp (λ _ _ h=>h.elim) hk
theorem zS {ops:Array Oper} {Q:Env→List Deferred→World→Prop} {QP:KP} {C:World→Prop} {fuel:Nat} {done:List Nat} {ds:List Deferred} (S:List Nat) (J:Env→World→Prop)
 (hc:∀ T:Env→List Deferred→World→Prop,(∀ ρ' w,Fr S ρ ρ'→J ρ' w→T ρ' ds w)→Xs P N ro ops T QP C fuel done ρ ds w) (hJ:∀ σ w,J σ w→Q (mix S ρ σ) ds w):Xs P N ro ops Q QP C fuel done ρ ds w :=
 hc Q λ ρ' w hf hj=>by rw [← Jo hf];exact hJ ρ' w hj
def qW (P:Program) (t:TypeId) (a:Value) (w:World) (k:Value→Prop):Prop:=∃ v,(do loadVar t (← asAddr a):Sem Value).run P w = .ok v w∧k v
theorem Cf {t:Tmp} {c:TypeId} {v:Value} (hf:fn.results = #[.cell t c]) (tmps:Array Value) (h:(do loadVar c (← asAddr (tmps.getD t undef)):Sem Value).run P w = .ok v w):(results fn tmps).run P w = .ok v w:=by
 rw [Sem.run_bind] at h
 simp [results,hf,Sem.run_bind]
 cases hr:(asAddr (tmps.getD t undef)).run P w with
 | ok a w'=>rw [← Array.getD_eq_getD_getElem?,hr];rw [hr] at h;simp [Result.andThen] at h ⊢;rw [h]
 | halt x w'=>rw [hr] at h;simp [Result.andThen] at h
theorem zv {t:Tmp} {c:TypeId} {a:Value} (hf:fn.results = #[.cell t c]) (h1:ρ t=a) (h:qW P c a w λ v=>R (.returned v) w):Uq P fn R .ret ρ [] w:=by
 obtain ⟨v,hv,h⟩:=h
 exact ⟨rfl,λ tmps ht=>⟨_,Cf hf tmps (by rw [ht,h1];exact hv),h⟩⟩
theorem Ay {t u:Tmp} {c:TypeId} {v:Value} (hf:fn.results = #[.cell t c,.tmp u]) (tmps:Array Value) (h:(do loadVar c (← asAddr (tmps.getD t undef)):Sem Value).run P w = .ok v w):(results fn tmps).run P w = .ok (.tuple #[v,tmps.getD u undef]) w:=by
 rw [Sem.run_bind] at h
 simp [results,hf,Sem.run_bind]
 cases hr:(asAddr (tmps.getD t undef)).run P w with
 | ok a w'=>rw [← Array.getD_eq_getD_getElem?,hr];rw [hr] at h;simp [Result.andThen] at h ⊢;rw [h]
 | halt x w'=>rw [hr] at h;simp [Result.andThen] at h
theorem Yr {t u:Tmp} {c:TypeId} {a b:Value} (hf:fn.results = #[.cell t c,.tmp u]) (h1:ρ t=a) (h2:ρ u=b) (h:qW P c a w λ v=>R (.returned (.tuple #[v,b])) w):Uq P fn R .ret ρ [] w:=by
 obtain ⟨v,hv,h⟩:=h
 exact ⟨rfl,λ tmps ht=>⟨_,Ay hf tmps (by rw [ht,h1];exact hv),by rw [ht,h2];exact h⟩⟩
section qs
variable {C:World→Prop} {ty:TypeId} {d:Nat} {pos:String} {after:Array Edge} {g:Option (Nat×Bool)} {v:Value}
theorem T4 {op:BinOp} {t:TypeId} {x y:Operand} {t2:TypeId} {c:Bool} {a b:Value} (hc:(V2 x||V2 y)=c) (h1:ev ρ x=a) (h2:ev ρ y=b) (h:∀ w,C w→(ZM op t c a b).run P w = .ok v w) :
 ∀ w,C w→(execOp (ev ρ) ⟨some d,.binOp op t x y t2,ty,pos,after,g⟩).run P w = .ok (.value v) w:=by
 subst hc h1 h2
 refine jl rfl λ w hw=>?_
 rw [Ih];exact h w hw
theorem Hc {b:Builtin} {l:List Operand} {ats:Array TypeId} {s:Sem Value} (hs:builtin b ats ty ((l.map λ | .const _=>true | _=>false).toArray) (l.map (ev ρ)).toArray=(do pure (.value (← s)))) (h:∀ w,C w→s.run P w = .ok v w) :
 ∀ w,C w→(execOp (ev ρ) ⟨some d,.call ⟨.builtin b,l.toArray,ats⟩,ty,pos,after,g⟩).run P w = .ok (.value v) w:=by
 refine jl ?_ h
 rw [← hs]
 simp only [execOp,resolve,List.map_toArray]
 rfl
theorem NC {t:TypeId} {ps:List (Nat×Operand)} {vs:List (Nat×Value)} (h2:(ps.map λ (i,x)=>(i,ev ρ x))=vs) (h:∀ w,C w→(Instr.build t vs.toArray).run P w = .ok v w) :
 ∀ w,C w→(execOp (ev ρ) ⟨some d,.build t ps.toArray,ty,pos,after,g⟩).run P w = .ok (.value v) w:=by
 subst h2
 refine jl ?_ h
 simp only [execOp,List.map_toArray]
theorem Eo {fn:Fn} {fs cs:List Operand} {vf vs:List Value} (h1:fs.map (ev ρ)=vf) (h2:cs.map (ev ρ)=vs) (h:∀ w,C w→(Instr.makeFunc fn vf.toArray vs.toArray).run P w = .ok v w) :
 ∀ w,C w→(execOp (ev ρ) ⟨some d,.makeFunc fn fs.toArray cs.toArray,ty,pos,after,g⟩).run P w = .ok (.value v) w:=by
 subst h1 h2
 refine jl ?_ h
 simp only [execOp,List.map_toArray]
theorem ZaB {s:Sem Next} {o:Oper} (hs:execOp (ev ρ) o=s) (h:∀ w,C w→s.run P w = .ok (.value v) w):∀ w,C w→(execOp (ev ρ) o).run P w = .ok (.value v) w:=by rw [hs];exact h
end qs
def YM (v:Value):Sem Next:=execOp (λ _=>v) ⟨none,.nilCheck (.tmp 0),0, "", #[],none⟩
def qN (P:Program) (C:World→Prop) (s:Sem Next) (k:Value→Prop):Prop:=∃ v,(∀ w,C w→s.run P w = .ok (.value v) w)∧k v
end
end Go.Sw
namespace Go.Sw
open Go.RowKit (Below)
structure Ext (w w':World):Prop where
 os:w'.os=w.os
 tape:w'.tape=w.tape
 output:w'.output=w.output
 size:w.heap.size≤w'.heap.size
 block:∀ k,k < w.heap.size→w'.heap[k]?=w.heap[k]?
theorem Ext.refl (w:World):Ext w w:=⟨rfl,rfl,rfl,Nat.le_refl _,λ _ _=>rfl⟩
theorem Ext.trans {a b c:World} (h:Ext a b) (k:Ext b c):Ext a c :=
 ⟨k.os.trans h.os,k.tape.trans h.tape,k.output.trans h.output,Nat.le_trans h.size k.size,λ i hi=>(k.block i (Nat.lt_of_lt_of_le hi h.size)).trans (h.block i hi)⟩
theorem Ext.below {w w':World} (h:Ext w w'):Below w.heap.size w w':=⟨h.os,h.tape,h.output,h.size,h.block⟩
theorem Ext.alloc {a w:World} (h:Ext a w) (o:Obj):Ext a (w.alloc o):=h.trans ⟨rfl,rfl,rfl,by simp,λ k hk=>Below.heap_alloc _ _ _ hk⟩
theorem Ext.drew {a w:World} (h:Ext a w):Ext a (Sw.drew w):=⟨h.os,h.tape,h.output,h.size,h.block⟩
theorem Ext.wdrew {a w:World} (h:Ext a w):Ext a w.drew:=⟨h.os,h.tape,h.output,h.size,h.block⟩
theorem Ext.setCell {a w:World} (h:Ext a w) {p:Addr} (hp:a.heap.size≤p.block) (u:Value):Ext a (w.setCell p u) :=
 ⟨h.os,h.tape,h.output,by simpa using h.size,λ k hk=>(Below.heap_setCell _ _ _ _ (by omega)).trans (h.block k hk)⟩
theorem Ext.grown {a w w':World} {row:Option Nat} (h:Ext a w) (hg:w.grownBy w' row) (hr:∀ k,row=some k→a.heap.size≤k):Ext a w' :=
 ⟨hg.os.trans h.os,hg.tape.trans h.tape,hg.output.trans h.output,Nat.le_trans h.size hg.size,
  λ k hk=>(hg.block k (Nat.lt_of_lt_of_le hk h.size) (λ e=>by have:=hr k e.symm;omega)).trans (h.block k hk)⟩
theorem Ext.cell {w w':World} (h:Ext w w') {a:Addr} {v:Value} (hc:w.cell? a=some v):w'.cell? a=some v :=
 (World.cell?_of_block (h.block a.block (World.block_lt_of_cell? w a hc))).trans hc
theorem Ext.cellEq {w w':World} (h:Ext w w') {a:Addr} (hb:a.block < w.heap.size):w'.cell? a=w.cell? a:=World.cell?_of_block (h.block a.block hb)
theorem Ext.frozenEq {w w':World} (h:Ext w w') {a:Addr} (hb:a.block < w.heap.size):w'.frozen? a=w.frozen? a:=World.frozen?_of_block (h.block a.block hb)
theorem Ext.obj {w w':World} (h:Ext w w') {b:Nat} {o:Obj} (hb:w.heap[b]?=some o):w'.heap[b]?=some o :=
 (h.block b (Array.getElem?_eq_some_iff.1 hb).1).trans hb
def Ret (P:Program) (f:FuncId) (args:Array Value) (w:World) (Φ:Value→World→Prop):Prop:=Calls P f args w λ e w'=>∃ v,e = .returned v∧Φ v w'
theorem Ret.mono {P:Program} {f:FuncId} {args:Array Value} {w:World} {Φ Φ':Value→World→Prop} (h:Ret P f args w Φ) (hk:∀ v w',Φ v w'→Φ' v w'):Ret P f args w Φ' :=
 Calls.mono h λ _ _ ⟨v,he,hv⟩=>⟨v,he,hk v _ hv⟩
def ZQ (Φ:Value→World→Prop):Ending→World→Prop:=λ e w'=>∃ v,e = .returned v∧Φ v w'
theorem U6 {Φ:Value→World→Prop} {v:Value} {w:World}:ZQ Φ (.returned v) w=Φ v w:=by
 unfold ZQ
 apply propext
 constructor
 · rintro ⟨v',he,h⟩;cases he;exact h
 · intro h;exact ⟨v,rfl,h⟩
theorem Zt {P:Program} {f:FuncId} {args:Array Value} {QP:List PanicEntry→World→Prop} {w:World} {k:Value→World→Prop} {Φ:Value→World→Prop} (h:Ret P f args w Φ) (hk:∀ v w',Φ v w'→k v w'):Yq P f args QP w k :=
 Calls.mono h λ e w' ⟨v,he,hv⟩=>by subst he;exact hk v w' hv
theorem zcr {P:Program} {f:FuncId} {args:Array Value} {QP:List PanicEntry→World→Prop} {w:World} {k:Value→World→Prop} {v:Value} (h:Ret P f args w λ r w'=>r=v∧Ext w w') (hk:∀ w',Ext w w'→k v w'):Yq P f args QP w k:=Zt h λ _ w' h=>h.1 ▸ hk w' h.2
theorem J1 {P:Program} {fv:Value} {args:Array Value} {QP QP':List PanicEntry→World→Prop} {w:World} {k k':Value→World→Prop} (h:Qi P fv args QP w k) (hp:∀ ch w,QP ch w→QP' ch w) (hk:∀ v w,k v w→k' v w):Qi P fv args QP' w k':=Kv h hp (λ _ _ h=>h.elim) hk
theorem xo {P:Program} {f:FuncId} {args:Array Value} {QP:List PanicEntry→World→Prop} {w:World} {k:Value→World→Prop} {R:RT} (h:Calls P f args w R) (hr:∀ v w',R (.returned v) w'→k v w') (hp:∀ ch w',R (.panicked ch) w'→QP ch w') (ho:∀ w',¬ R .outgrown w'):Yq P f args QP w k :=
 Calls.mono h λ e w' he=>by
  cases e with
  | returned v=>exact hr v w' he
  | panicked ch=>exact hp ch w' he
  | outgrown=>exact (ho w' he).elim
section
variable {P:Program} {QP:List PanicEntry→World→Prop} {w:World} {k:Value→World→Prop} {ku:World→Prop}
theorem Z3 {s:Sem Value} {v:Value} {w':World} (h:s.run P w = .ok v w'):opV P s QP w k=k v w':=by unfold opV;rw [h]
theorem qd {s:Sem Unit} {u:Unit} {w':World} (h:s.run P w = .ok u w'):opU P s QP w ku=ku w':=by unfold opU;rw [h]
theorem Lb {s:Sem Value} {v:Value} {w':World} (h:s.run P w = .halt (.panic v) w'):opV P s QP w k=QP [{ v,recovered:=false }] w':=by unfold opV;rw [h]
theorem Zaa {s:Sem Next} {v:Value} {w':World} (h:s.run P w = .ok (.value v) w'):opN P s QP w k=k v w':=by unfold opN opD;rw [h];rfl
theorem Rq (T:TypeId) (v:Value):(Instr.box T v).run P w = .ok (.pointer (some ⟨w.heap.size,0,none⟩)) (w.alloc (.cells v.cells T)):=by
 simp [Instr.box,newVar,newRow]
theorem Pt (T:TypeId) (v:Value):opV P (Instr.box T v) QP w k=k (.pointer (some ⟨w.heap.size,0,none⟩)) (w.alloc (.cells v.cells T)):=Z3 (Rq T v)
theorem Lv {T:TypeId} {i:TypeInfo} {z:Value} (hi:P.info? T=some i) (hz:i.zero=some z) (u:Value):(Instr.alloc T true u).run P w = .ok (.pointer (some ⟨w.heap.size,0,none⟩)) (w.alloc (.cells z.cells T)):=by
 simp [Instr.alloc,zeroValue,typeInfo,hi,hz,newVar,newRow]
structure ZJ (P:Program) (T:TypeId) (agg:Bool) (size bytes:Nat) (z:Value):Prop where
 info:∃ i,P.info? T=some i∧i.size=size∧i.bytes=bytes∧i.zero=some z
 under:∃ d,P.underlying T=some d∧(match d with | .struct _ | .array _ _=>true | _=>false)=agg
theorem YJ {T:TypeId} {agg:Bool} {n m:Nat} {z:Value} (h:ZJ P T agg n m z) (u:Value):opV P (Instr.alloc T true u) QP w k=k (.pointer (some ⟨w.heap.size,0,none⟩)) (w.alloc (.cells z.cells T)):=by
 obtain ⟨⟨i,hi,_,_,hz⟩,_⟩:=h
 exact Z3 (Lv hi hz u)
theorem zQ {T:TypeId} {agg:Bool} {n m:Nat} {z:Value} (h:ZJ P T agg n m z):(isAgg T).run P w = .ok agg w:=by
 obtain ⟨_,d,hd,ha⟩:=h
 unfold isAgg
 rw [Sem.run_bind]
 have:(underlying T).run P w = .ok d w:=run_underlying hd w
 rw [this]
 simp only [Result.andThen_ok]
 subst ha
 cases d<;>rfl
theorem run_sizeOf {T:TypeId} {agg:Bool} {n m:Nat} {z:Value} (h:ZJ P T agg n m z):(sizeOf T).run P w = .ok n w:=by
 obtain ⟨⟨i,hi,hs,_,_⟩,_⟩:=h
 simp [sizeOf,typeInfo,hi,hs]
theorem V7 (a:Addr):∀ (n i:Nat) (acc:Array Value) (cs:List Value),cs.length=n→(∀ j v,cs[j]?=some v→w.cell? (a.add (i+j))=some v)→(loadCellsFrom a i n acc).run P w = .ok (acc++cs.toArray) w
 | 0,i,acc,cs,hl,_=>by
  have:cs=[]:=List.eq_nil_of_length_eq_zero hl
  subst this;simp [loadCellsFrom]
 | n+1,i,acc,cs,hl,hc=>by
  cases cs with
  | nil=>cases hl
  | cons c cs =>
   have h0:=hc 0 c rfl
   rw [Nat.add_zero] at h0
   simp only [loadCellsFrom,Sem.run_bind,run_load,h0,Result.andThen_ok]
   rw [V7 a n (i+1) _ cs (by simpa using hl) (λ j v hv=>by have:=hc (j+1) v hv;rwa [show i+1+j=i+(j+1) by omega])]
   simp
def Wk (P:Program) (w:World) (T:TypeId) (a:Addr) (v:Value):Prop:=(loadVar T a).run P w = .ok v w
theorem Wk.one {T:TypeId} {n m:Nat} {z v:Value} {a:Addr} (h:ZJ P T false n m z) (hc:w.cell? a=some v):Wk P w T a v:=by
 unfold Wk loadVar
 rw [Sem.run_bind,zQ h]
 simp [hc]
theorem Wk.many {T:TypeId} {n m:Nat} {z:Value} {a:Addr} {cs:List Value} (h:ZJ P T true n m z) (hl:cs.length=n) (hc:∀ j v,cs[j]?=some v→w.cell? (a.add j)=some v):Wk P w T a (.agg cs.toArray):=by
 unfold Wk loadVar
 rw [Sem.run_bind,zQ h]
 have:=V7 (P:=P) (w:=w) a n 0 #[] cs hl (λ j v hv=>by rw [Nat.zero_add];exact hc j v hv)
 simp only [Result.andThen_ok,if_true,Sem.run_bind,run_sizeOf h,loadCells,this,Sem.run_pure,Array.empty_append]
theorem V1 {T:TypeId} {a:Addr} {v:Value} (h:Wk P w T a v):opV P (Instr.loadAt T (.pointer (some a))) QP w k=k v w:=by
 refine Z3 ?_
 simp only [Instr.loadAt,Instr.sureAddr,Sem.run_bind,Sem.run_pure,Result.andThen_ok]
 exact h
theorem jB {T:TypeId} {n m:Nat} {z v:Value} {a:Addr} (h:ZJ P T false n m z) (hc:w.cell? a=some v):opV P (Instr.loadAt T (.pointer (some a))) QP w k=k v w:=V1 (Wk.one h hc)
theorem FI {T:TypeId} {m:Nat} {z v u:Value} {a:Addr} (h:ZJ P T false 1 m z) (hv:v.oneCell'=true) (hc:w.cell? a=some u) (hf:w.frozen? a=false):(Instr.storeAt T (.pointer (some a)) v).run P w = .ok () (w.setCell a v):=by
 have hcells:v.cells = #[v]:=by cases v<;>first | rfl | simp [Value.oneCell'] at hv
 have hadd:a.add 0=a:=by simp [Addr.add]
 simp [Instr.storeAt,Instr.sureAddr,storeVar,run_sizeOf h,hcells,storeCells,hadd,run_store P w a v .plain hv,hc,hf]
theorem Bc {T:TypeId} {m:Nat} {z v u:Value} {a:Addr} (h:ZJ P T false 1 m z) (hv:v.oneCell'=true) (hc:w.cell? a=some u) (hf:w.frozen? a=false):opU P (Instr.storeAt T (.pointer (some a)) v) QP w ku=ku (w.setCell a v):=qd (FI h hv hc hf)
theorem VW (o:Array Value) (T:TypeId) (i:Nat) (v:Value):(w.alloc (.cells o T)).setCell ⟨w.heap.size,i,none⟩ v=w.alloc (.cells (o.setIfInBounds i v) T):=by
 simp only [World.setCell,World.alloc]
 congr 1
 apply Array.ext_getElem?
 intro j
 simp only [Array.getElem?_modify,Array.getElem?_push]
 by_cases hj:w.heap.size=j
 · subst hj;simp
 · by_cases hjs:j=w.heap.size
   · exact absurd hjs.symm hj
   · simp [hj,hjs]
theorem Kr (T:TypeId):∀ (vs:List Value) (i:Nat) (o:Array Value),i+vs.length≤o.size→(∀ v∈vs,v.oneCell'=true) →
 ∃ o':Array Value,(storeCells ⟨w.heap.size,0,none⟩ vs i).run P (w.alloc (.cells o T)) = .ok () (w.alloc (.cells o' T))∧o'.size=o.size∧∀ j,o'[j]?=if i≤j∧j < i+vs.length then vs[j - i]? else o[j]?
 | [],i,o,_,_=>⟨o,by simp [storeCells],rfl,λ j=>by rw [if_neg];simp⟩
 | v::vs,i,o,hl,hv=>by
  simp only [List.length_cons] at hl
  have hadd:(⟨w.heap.size,0,none⟩:Addr).add i=⟨w.heap.size,i,none⟩:=by rw [Addr.add_lit];simp
  have hcell:(w.alloc (.cells o T)).cell? ⟨w.heap.size,i,none⟩=some (o[i]'(by omega)):=by
   simp [World.cell?_alloc_new]
  have hfr:(w.alloc (.cells o T)).frozen? ⟨w.heap.size,i,none⟩=false:=by simp
  obtain ⟨o',h1,h2,h3⟩:=Kr T vs (i+1) (o.setIfInBounds i v) (by simp;omega) (λ u hu=>hv u (List.mem_cons_of_mem _ hu))
  refine ⟨o',?_,by simpa using h2,λ j=>?_⟩
  · simp only [storeCells,Sem.run_bind,hadd,run_store P _ _ v .plain (hv v (List.mem_cons_self ..)),hcell,hfr]
    simp only [Bool.false_eq_true,if_false,Result.andThen_ok,VW]
    exact h1
  · rw [h3 j]
    by_cases h:i+1≤j∧j < i+1+vs.length
    · rw [if_pos h,if_pos (by simp;omega)]
      have:j - i=(j - (i+1))+1:=by omega
      rw [this,List.getElem?_cons_succ]
    · rw [if_neg h]
      by_cases hji:j=i
      · subst hji
        have hlt:j < o.size:=by omega
        rw [if_pos (by simp)];simp [hlt]
      · rw [if_neg (by simp;omega)]
        rw [Array.getElem?_setIfInBounds_ne (by omega)]
theorem DL {s:TypeId} {fs:Array Field} {f:Field} {i:Nat} {agg:Bool} {n m:Nat} {z:Value} (hu:P.underlying s=some (.struct fs)) (hf:fs[i]?=some f) (ht:ZJ P f.type agg n m z) (hn:(n == 0)=false) (b o:Nat) :
 (Instr.fieldAt s (.pointer (some ⟨b,o,none⟩)) i).run P w = .ok (.pointer (some ⟨b,o+f.offset,none⟩)) w:=by
 have hn':n≠0:=by simpa using hn
 simp [Instr.fieldAt,run_underlying hu,hf,Instr.sureAddr,fieldPlace,run_sizeOf ht,hn',Addr.add_lit]
theorem FH {s:TypeId} {fs:Array Field} {f:Field} {i:Nat} {agg:Bool} {n m:Nat} {z:Value} (hu:P.underlying s=some (.struct fs)) (hf:fs[i]?=some f) (ht:ZJ P f.type agg n m z) (hn:(n == 0)=false) (b o:Nat) :
 opV P (Instr.fieldAt s (.pointer (some ⟨b,o,none⟩)) i) QP w k=k (.pointer (some ⟨b,o+f.offset,none⟩)) w:=Z3 (DL hu hf ht hn b o)
theorem Z8 {s:TypeId} {fs:Array Field} {i off ft:Nat} {agg:Bool} {n m:Nat} {z:Value} (hu:P.underlying s=some (.struct fs)) (hf:(fs[i]?).map (λ f=>(f.type,f.offset))=some (ft,off)) (ht:ZJ P ft agg n m z) (hn:(n == 0)=false) (b o:Nat) :
 opV P (Instr.fieldAt s (.pointer (some ⟨b,o,none⟩)) i) QP w k=k (.pointer (some ⟨b,o+off,none⟩)) w:=by
 obtain ⟨f,h1,h2⟩:=Option.map_eq_some_iff.1 hf
 simp only [Prod.mk.injEq] at h2
 obtain ⟨rfl,rfl⟩:=h2
 exact FH hu h1 ht hn b o
theorem QJ {s:TypeId} {fs:Array Field} {i ft:Nat} {agg:Bool} {n m:Nat} {z:Value} (hu:P.underlying s=some (.struct fs)) (hf:(fs[i]?).map (λ f=>(f.type,f.offset))=some (ft,0)) (ht:ZJ P ft agg n m z) (hn:(n == 0)=false) (b o:Nat) :
 opV P (Instr.fieldAt s (.pointer (some ⟨b,o,none⟩)) i) QP w k=k (.pointer (some ⟨b,o,none⟩)) w:=Z8 hu hf ht hn b o
theorem EQ {t e:TypeId} {agg:Bool} {n m:Nat} {z:Value} (hu:P.underlying t=some (.slice e)) (ht:ZJ P e agg n m z) (b o len cap:Nat) (ik:IntKind) (i:Int) (h0:0≤i) (h1:i < len) :
 (Instr.indexAt t (.slice (some ⟨b,o,none⟩) len cap) (.int ik i)).run P w = .ok (.pointer (some ⟨b,o+i.toNat*n,none⟩)) w:=by
 simp [Instr.indexAt,asIntOf,run_underlying hu,run_sizeOf ht,h0,h1,Addr.add_lit]
theorem Hq {t e:TypeId} {agg:Bool} {n m:Nat} {z:Value} (hu:P.underlying t=some (.slice e)) (ht:ZJ P e agg n m z) (b o len cap:Nat) (ik:IntKind) (i:Int) (h0:0≤i) (h1:i < len) :
 opV P (Instr.indexAt t (.slice (some ⟨b,o,none⟩) len cap) (.int ik i)) QP w k=k (.pointer (some ⟨b,o+i.toNat*n,none⟩)) w:=Z3 (EQ hu ht b o len cap ik i h0 h1)
theorem AJ {t e r:TypeId} (hu:P.underlying t=some (.slice e)) (a:Option Addr) (n c:Nat):(Builtin.len_ #[t] r #[.slice a n c]).run P w = .ok (.int .i64 n) w:=by
 simp [Builtin.len_,run_underlying hu,goInt]
theorem YW {t e r:TypeId} (hu:P.underlying t=some (.slice e)) (a:Option Addr) (n c:Nat):opV P (Builtin.len_ #[t] r #[.slice a n c]) QP w k=k (.int .i64 n) w:=Z3 (AJ hu a n c)
theorem qp {t r:TypeId} (hu:P.underlying t=some .string) (s:ByteArray):(Builtin.len_ #[t] r #[.string s]).run P w = .ok (.int .i64 s.size) w:=by
 simp [Builtin.len_,run_underlying hu,goInt]
theorem Aq {t r:TypeId} (hu:P.underlying t=some .string) (s:ByteArray):opV P (Builtin.len_ #[t] r #[.string s]) QP w k=k (.int .i64 s.size) w:=Z3 (qp hu s)
theorem Y9 (op:BinOp) (t:TypeId) (c:Bool) (kd:IntKind) (a b:Int) (hs:(match op with | .shl | .shr=>false | _=>true)=true):(ZM op t c (.int kd a) (.int kd b)).run P w=((match op with
 | .add | .sub | .mul=>Op.intArith op kd a b
 | .quo | .rem=>Op.intDiv op kd a b
 | .and | .or | .xor | .andNot=>Op.intBits op kd a b
 | _=>Op.intCmp op a b:Sem Value)).run P w:=by
 cases op<;>first | (simp at hs;done) | simp [ZM,binOp]
theorem MR (t:TypeId) (c:Bool) (kd:IntKind) (a b:Int):opV P (ZM .add t c (.int kd a) (.int kd b)) QP w k=k (.int kd (kd.wrap (a+b))) w:=Z3 (by rw [Y9 _ _ _ _ _ _ rfl];rfl)
theorem Pj (t:TypeId) (c:Bool) (kd:IntKind) (a b:Int):opV P (ZM .sub t c (.int kd a) (.int kd b)) QP w k=k (.int kd (kd.wrap (a - b))) w:=Z3 (by rw [Y9 _ _ _ _ _ _ rfl];rfl)
theorem Pk (t:TypeId) (c:Bool) (kd:IntKind) (a b:Int):opV P (ZM .mul t c (.int kd a) (.int kd b)) QP w k=k (.int kd (kd.wrap (a*b))) w:=Z3 (by rw [Y9 _ _ _ _ _ _ rfl];rfl)
theorem Og (t:TypeId) (c:Bool) (kd:IntKind) (a b:Int):opV P (ZM .eql t c (.int kd a) (.int kd b)) QP w k=k (.bool (a == b)) w:=Z3 (by rw [Y9 _ _ _ _ _ _ rfl];rfl)
theorem Nr (t:TypeId) (c:Bool) (kd:IntKind) (a b:Int):opV P (ZM .neq t c (.int kd a) (.int kd b)) QP w k=k (.bool (a != b)) w:=Z3 (by rw [Y9 _ _ _ _ _ _ rfl];rfl)
theorem Ov (t:TypeId) (c:Bool) (kd:IntKind) (a b:Int):opV P (ZM .lss t c (.int kd a) (.int kd b)) QP w k=k (.bool (decide (a < b))) w:=Z3 (by rw [Y9 _ _ _ _ _ _ rfl];rfl)
theorem Ok (t:TypeId) (c:Bool) (kd:IntKind) (a b:Int):opV P (ZM .leq t c (.int kd a) (.int kd b)) QP w k=k (.bool (decide (a≤b))) w:=Z3 (by rw [Y9 _ _ _ _ _ _ rfl];rfl)
theorem OX (t:TypeId) (c:Bool) (kd:IntKind) (a b:Int):opV P (ZM .gtr t c (.int kd a) (.int kd b)) QP w k=k (.bool (decide (a > b))) w:=Z3 (by rw [Y9 _ _ _ _ _ _ rfl];rfl)
theorem OS (t:TypeId) (c:Bool) (kd:IntKind) (a b:Int):opV P (ZM .geq t c (.int kd a) (.int kd b)) QP w k=k (.bool (decide (a≥b))) w:=Z3 (by rw [Y9 _ _ _ _ _ _ rfl];rfl)
theorem qP (a b:ByteArray):(a.toList == b.toList)=decide (a=b):=by
 rw [Bool.eq_iff_iff]
 simp only [beq_iff_eq,decide_eq_true_eq]
 constructor
 · intro h
   rw [ByteArray.toList_eq,ByteArray.toList_eq] at h
   exact ByteArray.ext (Array.toList_inj.1 h)
 · intro h;rw [h]
theorem Iz (t:TypeId) (c:Bool) (a b:ByteArray):opV P (ZM .eql t c (.string a) (.string b)) QP w k=k (.bool (decide (a=b))) w:=Z3 (by simp [ZM,binOp,Op.stringOp,qP])
theorem IJ (t:TypeId) (c:Bool) (a b:ByteArray):opV P (ZM .neq t c (.string a) (.string b)) QP w k=k (.bool (!decide (a=b))) w:=Z3 (by simp [ZM,binOp,Op.stringOp,qP])
theorem Kq {t:TypeId} (hu:P.underlying t=some .bool) (a b:Bool):(Op.equal t (.bool a) (.bool b)).run P w = .ok (a == b) w:=run_equalIn_bool w 9999 t a b hu
theorem Rn {t:TypeId} (hu:P.underlying t=some .bool) (c:Bool) (a b:Bool):opV P (ZM .eql t c (.bool a) (.bool b)) QP w k=k (.bool (a == b)) w:=Z3 (by
 show Sem.run P (do pure (.bool (← Op.equal t (.bool a) (.bool b))):Sem Value) w=_
 rw [Sem.run_bind,Kq hu];rfl)
theorem Rp {t:TypeId} (hu:P.underlying t=some .bool) (c:Bool) (a b:Bool):opV P (ZM .neq t c (.bool a) (.bool b)) QP w k=k (.bool (a != b)) w:=Z3 (by
 show Sem.run P (do pure (.bool (!(← Op.equal t (.bool a) (.bool b)))):Sem Value) w=_
 rw [Sem.run_bind,Kq hu];rfl)
theorem M6 (b:Bool):opV P (Op.unary .not (.bool b)) QP w k=k (.bool !b) w:=Z3 rfl
theorem T3 (kd:IntKind) (a:Int):opV P (Op.unary .neg (.int kd a)) QP w k=k (.int kd (kd.wrap (0 - a))) w:=Z3 rfl
theorem NU (ts:Array TypeId) (t:TypeId) (kd:IntKind) (a b:Int):opV P (Builtin.max_ ts t #[.int kd a,.int kd b]) QP w k=k (.int kd (if b > a then b else a)) w:=Z3 (by simp [Builtin.max_,Builtin.max2])
theorem OK (ts:Array TypeId) (t:TypeId) (kd:IntKind) (a b:Int):opV P (Builtin.min_ ts t #[.int kd a,.int kd b]) QP w k=k (.int kd (if b < a then b else a)) w:=Z3 (by simp [Builtin.min_,Builtin.min2])
theorem Vu {vs:Array Value} {i:Nat} {v:Value} (h:vs[i]?=some v):opV P (Instr.extract (.tuple vs) i) QP w k=k v w:=Z3 (by simp [Instr.extract,h])
theorem yj (fn:Fn) (a b:Array Value):opV P (Instr.makeFunc fn a b) QP w k=k (.func fn a b) w:=Z3 rfl
theorem TX (a:Addr):opN P (YM (.pointer (some a))) QP w k=k (.pointer (some a)) w:=Zaa (by simp [YM,execOp])
theorem Ej (want:Bool) (p q:Prop):Zl undef want p q=q:=rfl
end
end Go.Sw
namespace Go.Sw
open Go.RowKit (Below)
def zL (P:Program) (s:Sem Value) (QP:List PanicEntry→World→Prop) (w:World) (k:Value→World→Prop):Prop:=opV P s QP w k
def Vh (P:Program) (s:Sem Unit) (QP:List PanicEntry→World→Prop) (w:World) (k:World→Prop):Prop:=opU P s QP w k
def UH (c:Option Value) (k:Value→Prop) (d:Prop):Prop:=match c with
 | some v=>k v
 | none=>d
def Gc (b:Bool) (p q:Prop):Prop:=match b with
 | true=>p
 | false=>q
theorem V6 (v:Value) (k:Value→Prop) (d:Prop):UH (some v) k d=k v:=rfl
theorem DU (p q:Prop):Gc true p q=p:=rfl
theorem G2 (p q:Prop):Gc false p q=q:=rfl
theorem cond_true (p q:Prop):Zr (.bool true) p q=p:=rfl
theorem cond_false (p q:Prop):Zr (.bool false) p q=q:=rfl
theorem Ll (x y:Value) (kk:Value→Prop):Zu (.bool true) x y kk=kk x:=rfl
theorem Fb (x y:Value) (kk:Value→Prop):Zu (.bool false) x y kk=kk y:=rfl
theorem OM (p q:Prop):Zl (.bool true) true p q=p:=rfl
theorem Mu (p q:Prop):Zl (.bool false) false p q=p:=rfl
theorem NR (p q:Prop):Zl (.bool true) false p q=q:=rfl
theorem Oi (p q:Prop):Zl (.bool false) true p q=q:=rfl
theorem N8 (a b:Bool) (k:Value→Prop):Zl (.bool a) false (Zu (.bool a) (.bool true) (.bool b) k) (Zu (.bool a) (.bool true) undef k)=k (.bool (a||b)):=by cases a<;>rfl
theorem I1 (a b:Bool) (k:Value→Prop):Zl (.bool a) true (Zu (.bool a) (.bool b) (.bool false) k) (Zu (.bool a) undef (.bool false) k)=k (.bool (a&&b)):=by cases a<;>rfl
theorem joinK_eq {α:Type} (K:α) (f:α→Prop):Zq K f=f K:=rfl
def Xd:Nat:=0
theorem PH:Xd=0:=Nat.eq_zero_of_le_zero (Nat.le_of_eq (Nat.add_zero 0))
section
variable {P:Program} {QP:List PanicEntry→World→Prop} {w w':World} {C C':World→Prop} {d:Nat}
@[congr] theorem ZaH {s s':Sem Value} {k:Value→World→Prop} (h:s=s') (hw:w=w') (hd:Xd=d):opV P s QP w k=opV P s' QP w' k:=by rw [h,hw]
@[congr] theorem ZaI {s s':Sem Unit} {k:World→Prop} (h:s=s') (hw:w=w') (hd:Xd=d):opU P s QP w k=opU P s' QP w' k:=by rw [h,hw]
@[congr] theorem Zab {s:Sem Value} {k:Value→World→Prop} (hd:Xd=d):zL P s QP w k=zL P s QP w k:=rfl
@[congr] theorem TP {s:Sem Unit} {k:World→Prop} (hd:Xd=d):Vh P s QP w k=Vh P s QP w k:=rfl
@[congr] theorem ZaF {s s':Sem Next} {k:Value→World→Prop} (h:s=s') (hw:w=w') (hd:Xd=d):opN P s QP w k=opN P s' QP w' k:=by rw [h,hw]
@[congr] theorem PP {c c':Option Value} {k:Value→Prop} {p:Prop} (h:c=c') (hd:Xd=d):UH c k p=UH c' k p:=by rw [h]
@[congr] theorem Rz {b b':Bool} {p q:Prop} (h:b=b') (hd:Xd=d):Gc b p q=Gc b' p q:=by rw [h]
@[congr] theorem TE {v v':Value} {p q:Prop} (h:v=v') (hd:Xd=d):Zr v p q=Zr v' p q:=by rw [h]
@[congr] theorem S3 {c c' a a' b b':Value} {k:Value→Prop} (h:c=c') (ha:a=a') (hb:b=b') (hd:Xd=d):Zu c a b k=Zu c' a' b' k:=by rw [h,ha,hb]
@[congr] theorem Ty {f:FuncId} {args args':Array Value} {k:Value→World→Prop} (h:args=args') (hw:w=w') (hd:Xd=d):Yq P f args QP w k=Yq P f args' QP w' k:=by rw [h,hw]
@[congr] theorem SA {f f':Value} {args args':Array Value} {k:Value→World→Prop} (hf:f=f') (h:args=args') (hw:w=w') (hd:Xd=d):Qi P f args QP w k=Qi P f' args' QP w' k:=by rw [h,hf,hw]
@[congr] theorem Tx {α:Type} {K:α} {f:α→Prop} (hd:Xd=d):Zq K f=Zq K f:=rfl
@[congr] theorem TI {f:(World→Prop)→World→Prop} (hw:w=w') (hd:Xd=d):Yp w f=Yp w' f:=by rw [hw]
@[congr] theorem Zbi {s s':Sem Value} {k:Value→Prop} (hC:C=C') (h:s=s') (hd:Xd=d):qV P C s k=qV P C' s' k:=by rw [h,hC]
@[congr] theorem Za1 {s s':Sem Next} {k:Value→Prop} (hC:C=C') (h:s=s') (hd:Xd=d):qN P C s k=qN P C' s' k:=by rw [h,hC]
@[congr] theorem Sk {body:World→(World→Prop)→Prop} (hw:w=w') (hd:Xd=d):RR body w=RR body w':=by rw [hw]
@[congr] theorem TA {body:Value→World→(Value→World→Prop)→Prop} {a0 b0:Value} (h0:a0=b0) (hw:w=w') (hd:Xd=d):Yi body a0 w=Yi body b0 w':=by rw [h0,hw]
@[congr] theorem S7 {body:Value→Value→World→(Value→Value→World→Prop)→Prop} {a0 a1 b0 b1:Value} (h0:a0=b0) (h1:a1=b1) (hw:w=w') (hd:Xd=d):XP body a0 a1 w=XP body b0 b1 w':=by rw [h0,h1,hw]
@[congr] theorem TJ {body:Value→Value→Value→World→(Value→Value→Value→World→Prop)→Prop} {a0 a1 a2 b0 b1 b2:Value} (h0:a0=b0) (h1:a1=b1) (h2:a2=b2) (hw:w=w') (hd:Xd=d):ER body a0 a1 a2 w=ER body b0 b1 b2 w':=by rw [h0,h1,h2,hw]
@[congr] theorem S5 {body:Value→Value→Value→Value→World→(Value→Value→Value→Value→World→Prop)→Prop} {a0 a1 a2 a3 b0 b1 b2 b3:Value} (h0:a0=b0) (h1:a1=b1) (h2:a2=b2) (h3:a3=b3) (hw:w=w') (hd:Xd=d):R4 body a0 a1 a2 a3 w=R4 body b0 b1 b2 b3 w':=by rw [h0,h1,h2,h3,hw]
@[congr] theorem RI {body:Value→Value→Value→Value→Value→World→(Value→Value→Value→Value→Value→World→Prop)→Prop} {a0 a1 a2 a3 a4 b0 b1 b2 b3 b4:Value} (h0:a0=b0) (h1:a1=b1) (h2:a2=b2) (h3:a3=b3) (h4:a4=b4) (hw:w=w') (hd:Xd=d):Sm body a0 a1 a2 a3 a4 w=Sm body b0 b1 b2 b3 b4 w':=by rw [h0,h1,h2,h3,h4,hw]
@[congr] theorem RJ {body:Value→Value→Value→Value→Value→Value→World→(Value→Value→Value→Value→Value→Value→World→Prop)→Prop} {a0 a1 a2 a3 a4 a5 b0 b1 b2 b3 b4 b5:Value} (h0:a0=b0) (h1:a1=b1) (h2:a2=b2) (h3:a3=b3) (h4:a4=b4) (h5:a5=b5) (hw:w=w') (hd:Xd=d):SN body a0 a1 a2 a3 a4 a5 w=SN body b0 b1 b2 b3 b4 b5 w':=by rw [h0,h1,h2,h3,h4,h5,hw]
@[congr] theorem Tf {body:Value→Value→Value→Value→Value→Value→Value→World→(Value→Value→Value→Value→Value→Value→Value→World→Prop)→Prop} {a0 a1 a2 a3 a4 a5 a6 b0 b1 b2 b3 b4 b5 b6:Value} (h0:a0=b0) (h1:a1=b1) (h2:a2=b2) (h3:a3=b3) (h4:a4=b4) (h5:a5=b5) (h6:a6=b6) (hw:w=w') (hd:Xd=d):Tr body a0 a1 a2 a3 a4 a5 a6 w=Tr body b0 b1 b2 b3 b4 b5 b6 w':=by rw [h0,h1,h2,h3,h4,h5,h6,hw]
@[congr] theorem Sg {body:Value→Value→Value→Value→Value→Value→Value→Value→World→(Value→Value→Value→Value→Value→Value→Value→Value→World→Prop)→Prop} {a0 a1 a2 a3 a4 a5 a6 a7 b0 b1 b2 b3 b4 b5 b6 b7:Value} (h0:a0=b0) (h1:a1=b1) (h2:a2=b2) (h3:a3=b3) (h4:a4=b4) (h5:a5=b5) (h6:a6=b6) (h7:a7=b7) (hw:w=w') (hd:Xd=d):TG body a0 a1 a2 a3 a4 a5 a6 a7 w=TG body b0 b1 b2 b3 b4 b5 b6 b7 w':=by rw [h0,h1,h2,h3,h4,h5,h6,h7,hw]
end
section
variable {P:Program} {QP:List PanicEntry→World→Prop} {w:World} {k:Value→World→Prop} {ku:World→Prop}
theorem YQ {T:TypeId} {n m:Nat} {z:Value} (h:ZJ P T false n m z) (b o:Nat):opV P (Instr.loadAt T (.pointer (some ⟨b,o,none⟩))) QP w k=UH (w.cell? ⟨b,o,none⟩) (λ v=>k v w) (zL P (Instr.loadAt T (.pointer (some ⟨b,o,none⟩))) QP w k):=by
 cases hc:w.cell? ⟨b,o,none⟩ with
 | some v=>exact jB h hc
 | none=>rfl
theorem XW {T:TypeId} {m:Nat} {z:Value} (h:ZJ P T false 1 m z) (b o:Nat) (v:Value) (hv:v.oneCell'=true):opU P (Instr.storeAt T (.pointer (some ⟨b,o,none⟩)) v) QP w ku =
 UH (w.cell? ⟨b,o,none⟩) (λ _=>Gc (w.frozen? ⟨b,o,none⟩) (Vh P (Instr.storeAt T (.pointer (some ⟨b,o,none⟩)) v) QP w ku) (ku (w.setCell ⟨b,o,none⟩ v))) (Vh P (Instr.storeAt T (.pointer (some ⟨b,o,none⟩)) v) QP w ku):=by
 cases hc:w.cell? ⟨b,o,none⟩ with
 | some u =>
  rw [V6]
  cases hf:w.frozen? ⟨b,o,none⟩ with
  | true=>rfl
  | false=>rw [G2];exact Bc h hv hc hf
 | none=>rfl
theorem YT {t e:TypeId} {agg:Bool} {n m:Nat} {z:Value} (hu:P.underlying t=some (.slice e)) (ht:ZJ P e agg n m z) (b o len cap:Nat) (ik:IntKind) (i:Nat) (h:i < len) :
 opV P (Instr.indexAt t (.slice (some ⟨b,o,none⟩) len cap) (.int ik (i:Int))) QP w k=k (.pointer (some ⟨b,o+i*n,none⟩)) w:=by
 try unfold X0
 rw [Hq hu ht b o len cap ik i (by omega) (by omega)];simp
theorem GX (a b:Value):opV P (Instr.extract (.tuple #[a,b]) 0) QP w k=k a w:=Vu rfl
theorem G9 (a b:Value):opV P (Instr.extract (.tuple #[a,b]) 1) QP w k=k b w:=Vu rfl
theorem GD (a b c:Value):opV P (Instr.extract (.tuple #[a,b,c]) 0) QP w k=k a w:=Vu rfl
theorem za (a b c:Value):opV P (Instr.extract (.tuple #[a,b,c]) 1) QP w k=k b w:=Vu rfl
theorem zc (a b c:Value):opV P (Instr.extract (.tuple #[a,b,c]) 2) QP w k=k c w:=Vu rfl
theorem GEN:(∀ T v,opV P (Instr.box T v) QP w k=k (.pointer (some ⟨w.heap.size,0,none⟩)) (w.alloc (.cells v.cells T))) ∧
 (∀ t c kd a b,opV P (ZM .add t c (.int kd a) (.int kd b)) QP w k=k (.int kd (kd.wrap (a+b))) w) ∧
 (∀ t c kd a b,opV P (ZM .sub t c (.int kd a) (.int kd b)) QP w k=k (.int kd (kd.wrap (a - b))) w) ∧
 (∀ t c kd a b,opV P (ZM .mul t c (.int kd a) (.int kd b)) QP w k=k (.int kd (kd.wrap (a*b))) w) ∧
 (∀ t c kd a b,opV P (ZM .eql t c (.int kd a) (.int kd b)) QP w k=k (.bool (a == b)) w) ∧
 (∀ t c kd a b,opV P (ZM .neq t c (.int kd a) (.int kd b)) QP w k=k (.bool (a != b)) w) ∧
 (∀ t c kd a b,opV P (ZM .lss t c (.int kd a) (.int kd b)) QP w k=k (.bool (decide (a < b))) w) ∧
 (∀ t c kd a b,opV P (ZM .leq t c (.int kd a) (.int kd b)) QP w k=k (.bool (decide (a≤b))) w) ∧
 (∀ t c kd a b,opV P (ZM .gtr t c (.int kd a) (.int kd b)) QP w k=k (.bool (decide (b < a))) w) ∧
 (∀ t c kd a b,opV P (ZM .geq t c (.int kd a) (.int kd b)) QP w k=k (.bool (decide (b≤a))) w) ∧
 (∀ t c a b,opV P (ZM .eql t c (.string a) (.string b)) QP w k=k (.bool (decide (a=b))) w) ∧
 (∀ t c a b,opV P (ZM .neq t c (.string a) (.string b)) QP w k=k (.bool (!decide (a=b))) w) ∧
 (∀ b,opV P (Op.unary .not (.bool b)) QP w k=k (.bool !b) w) ∧
 (∀ kd a,opV P (Op.unary .neg (.int kd a)) QP w k=k (.int kd (kd.wrap (0 - a))) w) ∧
 (∀ ts t kd a b,opV P (Builtin.max_ ts t #[.int kd a,.int kd b]) QP w k=k (.int kd (if b > a then b else a)) w) ∧
 (∀ ts t kd a b,opV P (Builtin.min_ ts t #[.int kd a,.int kd b]) QP w k=k (.int kd (if b < a then b else a)) w) ∧
 (∀ a b,opV P (Instr.extract (.tuple #[a,b]) 0) QP w k=k a w)∧(∀ a b,opV P (Instr.extract (.tuple #[a,b]) 1) QP w k=k b w) ∧
 (∀ a b c,opV P (Instr.extract (.tuple #[a,b,c]) 0) QP w k=k a w)∧(∀ a b c,opV P (Instr.extract (.tuple #[a,b,c]) 1) QP w k=k b w)∧(∀ a b c,opV P (Instr.extract (.tuple #[a,b,c]) 2) QP w k=k c w) ∧
 (∀ fn a b,opV P (Instr.makeFunc fn a b) QP w k=k (.func fn a b) w) ∧
 (∀ a,opN P (YM (.pointer (some a))) QP w k=k (.pointer (some a)) w) :=
 ⟨Pt,MR,Pj,Pk,Og,Nr,Ov,Ok,OX,OS,Iz,IJ,M6,T3,NU,OK,GX,G9,GD,za,zc,yj,TX⟩
theorem CTL:(∀ p q,Zr (.bool true) p q=p)∧(∀ p q,Zr (.bool false) p q=q)∧(∀ x y kk,Zu (.bool true) x y kk=kk x)∧(∀ x y kk,Zu (.bool false) x y kk=kk y) ∧
 (∀ p q,Zl (.bool true) true p q=p)∧(∀ p q,Zl (.bool false) false p q=p)∧(∀ p q,Zl (.bool true) false p q=q)∧(∀ p q,Zl (.bool false) true p q=q) ∧
 (∀ v kk d,UH (some v) kk d=kk v)∧(∀ p q,Gc true p q=p)∧(∀ p q,Gc false p q=q) :=
 ⟨cond_true,cond_false,Ll,Fb,OM,Mu,NR,Oi,V6,DU,G2⟩
end
section
variable {w:World}
theorem Uo (c:Array Value) (T:TypeId) (i:Nat):(w.alloc (.cells c T)).cell? ⟨w.heap.size,i,none⟩=c[i]?:=World.cell?_alloc_new w c T i
theorem NB {o:Obj} {b i:Nat} (h:b < w.heap.size):(w.alloc o).cell? ⟨b,i,none⟩=w.cell? ⟨b,i,none⟩:=World.cell?_alloc_lt w o ⟨b,i,none⟩ h
theorem jP (c:Array Value) (T:TypeId) (i:Nat):(w.alloc (.cells c T)).frozen? ⟨w.heap.size,i,none⟩=false:=World.frozen?_alloc_new w c T i
theorem F1 {o:Obj} {b i:Nat} (h:b < w.heap.size):(w.alloc o).frozen? ⟨b,i,none⟩=w.frozen? ⟨b,i,none⟩:=World.frozen?_alloc_old w o ⟨b,i,none⟩ (by simp;omega)
theorem AB {b i:Nat} {u v:Value} (h:w.cell? ⟨b,i,none⟩=some u):(w.setCell ⟨b,i,none⟩ v).cell? ⟨b,i,none⟩=some v:=World.cell?_setCell_same w _ _ h
theorem XV {b i b' i':Nat} {v:Value} (h:b≠b'∨i≠i'):(w.setCell ⟨b',i',none⟩ v).cell? ⟨b,i,none⟩=w.cell? ⟨b,i,none⟩ :=
 World.cell?_setCell_other w _ _ _ (by intro e;injection e with e1 e2;omega)
theorem Gi {b i b' i':Nat} {v:Value}:(w.setCell ⟨b',i',none⟩ v).frozen? ⟨b,i,none⟩=w.frozen? ⟨b,i,none⟩:=by simp
theorem Rw {o:Obj} {p:Addr} {v:Value} (h:p.block < w.heap.size):(w.alloc o).setCell p v=(w.setCell p v).alloc o:=by
 simp only [World.setCell,World.alloc]
 congr 1
 apply Array.ext_getElem?
 intro j
 simp only [Array.getElem?_modify,Array.getElem?_push,Array.size_modify]
 by_cases hj:j=w.heap.size
 · subst hj
   have:¬ p.block=w.heap.size:=by omega
   simp [this]
 · simp [hj]
theorem HN (o:Array Value) (T:TypeId) (i:Nat) (v:Value):(w.alloc (.cells o T)).setCell ⟨w.heap.size,i,none⟩ v=w.alloc (.cells (o.setIfInBounds i v) T):=VW o T i v
theorem JW:Sw.drew w=w.drew:=rfl
end
end Go.Sw
namespace Go.Sw
open Go.RowKit (Below)
theorem STD:(∀ (w:World) (c:Array Value) (T:TypeId) (i:Nat),(w.alloc (.cells c T)).cell? ⟨w.heap.size,i,none⟩=c[i]?)∧(∀ (w:World) (c:Array Value) (T:TypeId) (i:Nat),(w.alloc (.cells c T)).frozen? ⟨w.heap.size,i,none⟩=false) ∧
 (∀ (w:World) (o:Array Value) (T:TypeId) (i:Nat) (v:Value),(w.alloc (.cells o T)).setCell ⟨w.heap.size,i,none⟩ v=w.alloc (.cells (o.setIfInBounds i v) T)) ∧
 (∀ (w:World) (b i b' i':Nat) (v:Value),(w.setCell ⟨b',i',none⟩ v).frozen? ⟨b,i,none⟩=w.frozen? ⟨b,i,none⟩) ∧
 (∀ (w:World) (a:Addr),w.drew.cell? a=w.cell? a)∧(∀ (w:World) (a:Addr),w.drew.frozen? a=w.frozen? a)∧(∀ (w:World),Sw.drew w=w.drew) ∧
 (∀ cs,(Value.agg cs).cells=cs)∧(∀ k n,(Value.int k n).cells = #[.int k n])∧(∀ b,(Value.bool b).cells = #[.bool b])∧(∀ s,(Value.string s).cells = #[.string s])∧(∀ a n c,(Value.slice a n c).cells = #[.slice a n c]) ∧
 (∀ m,(Value.map m).cells = #[.map m])∧(∀ a,(Value.pointer a).cells = #[.pointer a])∧(∀ f a b,(Value.func f a b).cells = #[.func f a b])∧(Value.nilFunc.cells = #[.nilFunc])∧(Value.nilIface.cells = #[.nilIface])∧(∀ t v,(Value.iface t v).cells = #[.iface t v]) ∧
 (∀ (Φ:Value→World→Prop) v w,ZQ Φ (.returned v) w=Φ v w) :=
 ⟨λ _=>Uo,λ _=>jP,λ _=>HN,λ w b i b' i' v=>Gi,λ _ _=>rfl,λ _ _=>rfl,λ _=>rfl,λ _=>rfl,λ _ _=>rfl,λ _=>rfl,λ _=>rfl,λ _ _ _=>rfl,λ _=>rfl,λ _=>rfl,λ _ _ _=>rfl,rfl,rfl,λ _ _=>rfl,λ _ _ _=>U6⟩
theorem ONE:(∀ k n,Value.oneCell' (.int k n)=true)∧(∀ b,Value.oneCell' (.bool b)=true)∧(∀ s,Value.oneCell' (.string s)=true)∧(∀ a n c,Value.oneCell' (.slice a n c)=true)∧(∀ m,Value.oneCell' (.map m)=true)∧(∀ a,Value.oneCell' (.pointer a)=true)∧(∀ f a b,Value.oneCell' (.func f a b)=true)∧(Value.oneCell' .nilFunc=true)∧(Value.oneCell' .nilIface=true)∧(∀ t v,Value.oneCell' (.iface t v)=true) :=
 ⟨λ _ _=>rfl,λ _=>rfl,λ _=>rfl,λ _ _ _=>rfl,λ _=>rfl,λ _=>rfl,λ _ _ _=>rfl,rfl,rfl,λ _ _=>rfl⟩
theorem Yk {x:Int} (h1 : -9223372036854775808≤x) (h2:x≤9223372036854775807):IntKind.i64.wrap x=x:=IntWalk.i64_in x ⟨h1,h2⟩
theorem Ld {k:Nat} (h:k < 9223372036854775807):IntKind.i64.wrap ((k:Int)+1)=((k+1:Nat):Int):=by rw [Yk (by omega) (by omega)];rfl
theorem Ext.cellQ {w w':World} (h:Ext w w') {b o:Nat} (hb:b < w.heap.size):w'.cell? ⟨b,o,none⟩=w.cell? ⟨b,o,none⟩:=h.cellEq hb
theorem Ext.frozenQ {w w':World} (h:Ext w w') {b o:Nat} (hb:b < w.heap.size):w'.frozen? ⟨b,o,none⟩=w.frozen? ⟨b,o,none⟩:=h.frozenEq hb
theorem Ext.heapQ {w w':World} (h:Ext w w') {b:Nat} (hb:b < w.heap.size):w'.heap[b]?=w.heap[b]?:=h.block b hb
theorem LB {w:World} {b:Nat} (h:b=w.heap.size) (o:Obj):(w.alloc o).heap[b]?=some o:=by subst h;exact World.alloc_heap_new w o
theorem Lm {w:World} {o:Obj} {b:Nat} (h:b < w.heap.size):(w.alloc o).heap[b]?=w.heap[b]?:=Below.heap_alloc w o b h
theorem A6 {w:World} {b b' o:Nat} {v:Value} (h:b≠b'):(w.setCell ⟨b',o,none⟩ v).heap[b]?=w.heap[b]?:=Below.heap_setCell w ⟨b',o,none⟩ v b h
theorem BP {w:World} {b i:Nat} {v:Value}:(w.setCell ⟨b,i,none⟩ v).cell? ⟨b,i,none⟩=(w.cell? ⟨b,i,none⟩).map (λ _=>v):=by
 cases hc:w.cell? ⟨b,i,none⟩ with
 | some u=>exact AB hc
 | none =>
  rw [Option.map_none]
  unfold World.cell? at hc ⊢
  simp only [World.setCell,Array.getElem?_modify]
  cases h:w.heap[b]? with
  | none=>simp
  | some o => 
   simp only [h] at hc ⊢
   cases o<;>simp_all
theorem Lq {w:World} {b:Nat} (h:b=w.heap.size) (c:Array Value) (T:TypeId) (i:Nat):(w.alloc (.cells c T)).cell? ⟨b,i,none⟩=c[i]?:=by subst h;exact Uo c T i
theorem Dc {w:World} {b:Nat} (h:b=w.heap.size) (c:Array Value) (T:TypeId) (i:Nat):(w.alloc (.cells c T)).frozen? ⟨b,i,none⟩=false:=by subst h;exact jP c T i
theorem Pi {w:World} {b:Nat} (h:b=w.heap.size) (o:Array Value) (T:TypeId) (i:Nat) (v:Value):(w.alloc (.cells o T)).setCell ⟨b,i,none⟩ v=w.alloc (.cells (o.setIfInBounds i v) T):=by subst h;exact HN o T i v
theorem ZF {k n:Nat} {kd:IntKind} (h:k < n):n - (Go.RowKit.intOf (.int kd ((k+1:Nat):Int))).toNat < n - (Go.RowKit.intOf (.int kd (k:Int))).toNat:=by simp [Go.RowKit.intOf];omega
theorem ZB {α:Type} {l:List α} {k:Nat} (h:k≤l.length):(∃ x,l[k]?=some x∧l.drop k=x::l.drop (k+1)∧k < l.length∧decide ((k:Int) < (l.length:Int))=true)∨(k=l.length∧l.drop k=[]∧decide ((k:Int) < (l.length:Int))=false):=by
 by_cases hk:k < l.length
 · exact .inl ⟨l[k],List.getElem?_eq_getElem hk,List.drop_eq_getElem_cons hk,hk,by simp;omega⟩
 · exact .inr ⟨by omega,by rw [List.drop_eq_nil_iff];omega,by simp;omega⟩
def ZS (w:World) (b o:Nat) (cs:List Value):Prop:=∀ j v,cs[j]?=some v→w.cell? ⟨b,o+j,none⟩=some v
theorem ZS.ext {w w':World} {b o:Nat} {cs:List Value} (h:ZS w b o cs) (e:Ext w w'):ZS w' b o cs:=λ j v hv=>e.cell (h j v hv)
theorem ZS.loads {P:Program} {w:World} {T:TypeId} {n m:Nat} {z:Value} {b o:Nat} {cs:List Value} (h:ZS w b o cs) (ht:ZJ P T true n m z) (hl:cs.length=n):Wk P w T ⟨b,o,none⟩ (.agg cs.toArray) :=
 Wk.many ht hl λ j v hv=>by rw [Addr.add_lit];exact h j v hv
theorem ZS.cell {w:World} {b o:Nat} {cs:List Value} (h:ZS w b o cs) (j:Nat) {v:Value} (hv:cs[j]?=some v):w.cell? ⟨b,o+j,none⟩=some v:=h j v hv
theorem ZS.c1 {w w':World} {b o:Nat} {c0:Value} (h:ZS w b o [c0]) (e:Ext w w'):w'.cell? ⟨b,o,none⟩=some c0:=e.cell (h 0 _ rfl)
theorem ZS.c2 {w w':World} {b o:Nat} {c0 c1:Value} (h:ZS w b o [c0,c1]) (e:Ext w w'):w'.cell? ⟨b,o,none⟩=some c0∧w'.cell? ⟨b,o+1,none⟩=some c1:=⟨e.cell (h 0 _ rfl),e.cell (h 1 _ rfl)⟩
theorem ZS.c3 {w w':World} {b o:Nat} {c0 c1 c2:Value} (h:ZS w b o [c0,c1,c2]) (e:Ext w w'):w'.cell? ⟨b,o,none⟩=some c0∧w'.cell? ⟨b,o+1,none⟩=some c1∧w'.cell? ⟨b,o+2,none⟩=some c2:=⟨e.cell (h 0 _ rfl),e.cell (h 1 _ rfl),e.cell (h 2 _ rfl)⟩
theorem ZS.c4 {w w':World} {b o:Nat} {c0 c1 c2 c3:Value} (h:ZS w b o [c0,c1,c2,c3]) (e:Ext w w'):w'.cell? ⟨b,o,none⟩=some c0∧w'.cell? ⟨b,o+1,none⟩=some c1∧w'.cell? ⟨b,o+2,none⟩=some c2∧w'.cell? ⟨b,o+3,none⟩=some c3:=⟨e.cell (h 0 _ rfl),e.cell (h 1 _ rfl),e.cell (h 2 _ rfl),e.cell (h 3 _ rfl)⟩
theorem ZS.c5 {w w':World} {b o:Nat} {c0 c1 c2 c3 c4:Value} (h:ZS w b o [c0,c1,c2,c3,c4]) (e:Ext w w'):w'.cell? ⟨b,o,none⟩=some c0∧w'.cell? ⟨b,o+1,none⟩=some c1∧w'.cell? ⟨b,o+2,none⟩=some c2∧w'.cell? ⟨b,o+3,none⟩=some c3∧w'.cell? ⟨b,o+4,none⟩=some c4:=⟨e.cell (h 0 _ rfl),e.cell (h 1 _ rfl),e.cell (h 2 _ rfl),e.cell (h 3 _ rfl),e.cell (h 4 _ rfl)⟩
theorem ZS.c6 {w w':World} {b o:Nat} {c0 c1 c2 c3 c4 c5:Value} (h:ZS w b o [c0,c1,c2,c3,c4,c5]) (e:Ext w w'):w'.cell? ⟨b,o,none⟩=some c0∧w'.cell? ⟨b,o+1,none⟩=some c1∧w'.cell? ⟨b,o+2,none⟩=some c2∧w'.cell? ⟨b,o+3,none⟩=some c3∧w'.cell? ⟨b,o+4,none⟩=some c4∧w'.cell? ⟨b,o+5,none⟩=some c5:=⟨e.cell (h 0 _ rfl),e.cell (h 1 _ rfl),e.cell (h 2 _ rfl),e.cell (h 3 _ rfl),e.cell (h 4 _ rfl),e.cell (h 5 _ rfl)⟩
theorem ZS.c7 {w w':World} {b o:Nat} {c0 c1 c2 c3 c4 c5 c6:Value} (h:ZS w b o [c0,c1,c2,c3,c4,c5,c6]) (e:Ext w w'):w'.cell? ⟨b,o,none⟩=some c0∧w'.cell? ⟨b,o+1,none⟩=some c1∧w'.cell? ⟨b,o+2,none⟩=some c2∧w'.cell? ⟨b,o+3,none⟩=some c3∧w'.cell? ⟨b,o+4,none⟩=some c4∧w'.cell? ⟨b,o+5,none⟩=some c5∧w'.cell? ⟨b,o+6,none⟩=some c6:=⟨e.cell (h 0 _ rfl),e.cell (h 1 _ rfl),e.cell (h 2 _ rfl),e.cell (h 3 _ rfl),e.cell (h 4 _ rfl),e.cell (h 5 _ rfl),e.cell (h 6 _ rfl)⟩
theorem ZS.c8 {w w':World} {b o:Nat} {c0 c1 c2 c3 c4 c5 c6 c7:Value} (h:ZS w b o [c0,c1,c2,c3,c4,c5,c6,c7]) (e:Ext w w'):w'.cell? ⟨b,o,none⟩=some c0∧w'.cell? ⟨b,o+1,none⟩=some c1∧w'.cell? ⟨b,o+2,none⟩=some c2∧w'.cell? ⟨b,o+3,none⟩=some c3∧w'.cell? ⟨b,o+4,none⟩=some c4∧w'.cell? ⟨b,o+5,none⟩=some c5∧w'.cell? ⟨b,o+6,none⟩=some c6∧w'.cell? ⟨b,o+7,none⟩=some c7:=⟨e.cell (h 0 _ rfl),e.cell (h 1 _ rfl),e.cell (h 2 _ rfl),e.cell (h 3 _ rfl),e.cell (h 4 _ rfl),e.cell (h 5 _ rfl),e.cell (h 6 _ rfl),e.cell (h 7 _ rfl)⟩
theorem ZS.c13 {w w':World} {b o:Nat} {c0 c1 c2 c3 c4 c5 c6 c7 c8 c9 c10 c11 c12:Value} (h:ZS w b o [c0,c1,c2,c3,c4,c5,c6,c7,c8,c9,c10,c11,c12]) (e:Ext w w'):w'.cell? ⟨b,o,none⟩=some c0∧w'.cell? ⟨b,o+1,none⟩=some c1∧w'.cell? ⟨b,o+2,none⟩=some c2∧w'.cell? ⟨b,o+3,none⟩=some c3∧w'.cell? ⟨b,o+4,none⟩=some c4∧w'.cell? ⟨b,o+5,none⟩=some c5∧w'.cell? ⟨b,o+6,none⟩=some c6∧w'.cell? ⟨b,o+7,none⟩=some c7∧w'.cell? ⟨b,o+8,none⟩=some c8∧w'.cell? ⟨b,o+9,none⟩=some c9∧w'.cell? ⟨b,o+10,none⟩=some c10∧w'.cell? ⟨b,o+11,none⟩=some c11∧w'.cell? ⟨b,o+12,none⟩=some c12:=⟨e.cell (h 0 _ rfl),e.cell (h 1 _ rfl),e.cell (h 2 _ rfl),e.cell (h 3 _ rfl),e.cell (h 4 _ rfl),e.cell (h 5 _ rfl),e.cell (h 6 _ rfl),e.cell (h 7 _ rfl),e.cell (h 8 _ rfl),e.cell (h 9 _ rfl),e.cell (h 10 _ rfl),e.cell (h 11 _ rfl),e.cell (h 12 _ rfl)⟩
theorem ZS.c15 {w w':World} {b o:Nat} {c0 c1 c2 c3 c4 c5 c6 c7 c8 c9 c10 c11 c12 c13 c14:Value} (h:ZS w b o [c0,c1,c2,c3,c4,c5,c6,c7,c8,c9,c10,c11,c12,c13,c14]) (e:Ext w w'):w'.cell? ⟨b,o,none⟩=some c0∧w'.cell? ⟨b,o+1,none⟩=some c1∧w'.cell? ⟨b,o+2,none⟩=some c2∧w'.cell? ⟨b,o+3,none⟩=some c3∧w'.cell? ⟨b,o+4,none⟩=some c4∧w'.cell? ⟨b,o+5,none⟩=some c5∧w'.cell? ⟨b,o+6,none⟩=some c6∧w'.cell? ⟨b,o+7,none⟩=some c7∧w'.cell? ⟨b,o+8,none⟩=some c8∧w'.cell? ⟨b,o+9,none⟩=some c9∧w'.cell? ⟨b,o+10,none⟩=some c10∧w'.cell? ⟨b,o+11,none⟩=some c11∧w'.cell? ⟨b,o+12,none⟩=some c12∧w'.cell? ⟨b,o+13,none⟩=some c13∧w'.cell? ⟨b,o+14,none⟩=some c14:=⟨e.cell (h 0 _ rfl),e.cell (h 1 _ rfl),e.cell (h 2 _ rfl),e.cell (h 3 _ rfl),e.cell (h 4 _ rfl),e.cell (h 5 _ rfl),e.cell (h 6 _ rfl),e.cell (h 7 _ rfl),e.cell (h 8 _ rfl),e.cell (h 9 _ rfl),e.cell (h 10 _ rfl),e.cell (h 11 _ rfl),e.cell (h 12 _ rfl),e.cell (h 13 _ rfl),e.cell (h 14 _ rfl)⟩
theorem ZS.new {w:World} (cs:List Value) (T:TypeId):ZS (w.alloc (.cells cs.toArray T)) w.heap.size 0 cs:=λ j v hv=>by rw [Nat.zero_add,Uo];simpa using hv
def Ze {α:Type} (w:World) (n:Nat) (E:World→List Value→α→Prop) (v:Value) (l:List α):Prop :=
 ∃ A c,v = .slice A l.length c∧l.length≤c∧c≤9223372036854775807∧(l≠[]→∃ b o,A=some ⟨b,o,none⟩∧∀ k x,l[k]?=some x→∃ cs,cs.length=n∧ZS w b (o+k*n) cs∧E w cs x)
def jJ {α:Type} (E:World→List Value→α→Prop):Prop:=∀ w w' cs x,Ext w w'→E w cs x→E w' cs x
theorem Ze.ext {α:Type} {w w':World} {n:Nat} {E:World→List Value→α→Prop} {v:Value} {l:List α} (hk:jJ E) (h:Ze w n E v l) (e:Ext w w'):Ze w' n E v l:=by
 obtain ⟨A,c,h1,h2,h3,h4⟩:=h
 refine ⟨A,c,h1,h2,h3,λ hne=>?_⟩
 obtain ⟨b,o,h5,h6⟩:=h4 hne
 exact ⟨b,o,h5,λ k x hx=>by obtain ⟨cs,a1,a2,a3⟩:=h6 k x hx;exact ⟨cs,a1,a2.ext e,hk _ _ _ _ e a3⟩⟩
theorem Ze.kept {α:Type} {n:Nat} {E:World→List Value→α→Prop} (hk:jJ E) {v:Value} {l:List α} {w w':World} (e:Ext w w') (h:Ze w n E v l):Ze w' n E v l:=h.ext hk e
theorem Ze.open {α:Type} {w:World} {n:Nat} {E:World→List Value→α→Prop} {v:Value} {l:List α} (h:Ze w n E v l) :
 ∃ A c,v = .slice A l.length c∧l.length≤c∧c≤9223372036854775807∧l.length≤9223372036854775807∧∀ k x,l[k]?=some x→∃ b o cs,A=some ⟨b,o,none⟩∧cs.length=n∧ZS w b (o+k*n) cs∧E w cs x:=by
 obtain ⟨A,c,h1,h2,h3,h4⟩:=h
 refine ⟨A,c,h1,h2,h3,by omega,λ k x hx=>?_⟩
 have hne:l≠[]:=by rintro rfl;cases hx
 obtain ⟨b,o,h5,h6⟩:=h4 hne
 obtain ⟨cs,a⟩:=h6 k x hx
 exact ⟨b,o,cs,h5,a⟩
theorem Ze.oneCell {α:Type} {w:World} {n:Nat} {E:World→List Value→α→Prop} {v:Value} {l:List α} (h:Ze w n E v l):v.oneCell'=true:=by
 obtain ⟨A,c,rfl,_⟩:=h;rfl
theorem Ze.setOther {α:Type} {w:World} {n:Nat} {E:World→List Value→α→Prop} {v:Value} {l:List α} (h:Ze w n E v l) {b' o':Nat} (u:Value) (hb:∀ A m c,v = .slice (some A) m c→A.block≠b') (hE:∀ cs x,E w cs x→E (w.setCell ⟨b',o',none⟩ u) cs x):Ze (w.setCell ⟨b',o',none⟩ u) n E v l:=by
 obtain ⟨A,c,h1,h2,h3,h4⟩:=h
 refine ⟨A,c,h1,h2,h3,λ hne=>?_⟩
 obtain ⟨b,o,h5,h6⟩:=h4 hne
 have hbb:b≠b':=hb ⟨b,o,none⟩ _ _ (by rw [h1,h5])
 exact ⟨b,o,h5,λ k x hx=>by obtain ⟨cs,a1,a2,a3⟩:=h6 k x hx;exact ⟨cs,a1,λ j u hu=>by rw [XV (.inl hbb)];exact a2 j u hu,hE _ _ a3⟩⟩
theorem Ze.nil {α:Type} (w:World) (n:Nat) (E:World→List Value→α→Prop):Ze w n E (.slice none 0 0) []:=⟨none,0,rfl,Nat.le_refl _,by omega,λ h=>absurd rfl h⟩
theorem Ze.new1 {α:Type} {E:World→List Value→α→Prop} (enc:α→Value) (hE:∀ w x,E w [enc x] x) (w:World) (l:List α) (T:TypeId) (hl:l.length≤9223372036854775807):Ze (w.alloc (.cells (l.map enc).toArray T)) 1 E (.slice (some ⟨w.heap.size,0,none⟩) l.length l.length) l:=by
 refine ⟨_,_,rfl,Nat.le_refl _,hl,λ _=>⟨_,_,rfl,λ k x hx=>⟨[enc x],rfl,λ j v hv=>?_,hE _ x⟩⟩⟩
 cases j with
 | zero =>
  injection hv with hv;subst hv
  rw [World.cell?_alloc_new]
  simp [hx]
 | succ j=>cases hv
def idx {α:Type} (p:α→Bool) (l:List α):Int:=match l.findIdx? p with
 | some i=>(i:Int)
 | none => -1
theorem Qs {α:Type} {p:α→Bool} {l:List α} {k:Nat} {x:α} (hx:l[k]?=some x) (hp:p x=true) (hb:∀ (j:Nat) (y:α),j < k→l[j]?=some y→p y=false):idx p l=k:=by
 have:l.findIdx? p=some k:=by
  rw [List.findIdx?_eq_some_iff_getElem]
  obtain ⟨hk,he⟩:=List.getElem?_eq_some_iff.1 hx
  refine ⟨hk,by rw [he];exact hp,λ j hj=>?_⟩
  have:=hb j l[j] hj (List.getElem?_eq_getElem (by omega))
  simp [this]
 simp [idx,this]
theorem Wq {α:Type} {p:α→Bool} {l:List α} (hb:∀ (j:Nat) (y:α),l[j]?=some y→p y=false):idx p l = -1:=by
 have:l.findIdx? p=none:=by
  rw [List.findIdx?_eq_none_iff]
  intro x hx
  obtain ⟨j,hj⟩:=List.getElem?_of_mem hx
  exact hb j x hj
 simp [idx,this]
theorem Wi {α:Type} {l:List α} {p:α→Bool} {k:Nat} {x:α} (hb:∀ (j:Nat) (y:α),j < k→l[j]?=some y→p y=false) (hx:l[k]?=some x) (hp:p x=false):∀ (j:Nat) (y:α),j < k+1→l[j]?=some y→p y=false:=by
 intro j y hj hy
 by_cases hjk:j=k
 · subst hjk;rw [hx] at hy;injection hy with hy;subst hy;exact hp
 · exact hb j y (by omega) hy
theorem Y7 {α:Type} {p:α→Bool} {l:List α}:decide (0≤idx p l)=l.any p:=by
 unfold idx
 cases h:l.findIdx? p with
 | none=>rw [List.findIdx?_eq_none_iff] at h;simp;intro x hx;simpa using h x hx
 | some i =>
  have hs:(l.findIdx? p).isSome=true:=by rw [h];rfl
  rw [List.findIdx?_isSome] at hs
  rw [hs];simp
theorem qA {α:Type} (p:α→Bool) (l:List α) : -1≤idx p l∧idx p l < l.length:=by
 unfold idx
 cases h:l.findIdx? p with
 | none=>simp;omega
 | some i =>
  obtain ⟨hi,_⟩:=List.findIdx?_eq_some_iff_getElem.1 h
  simp;omega
theorem getElem?_lt {α:Type} {l:List α} {k:Nat} (h:k < l.length):∃ x,l[k]?=some x:=⟨_,List.getElem?_eq_getElem h⟩
end Go.Sw
namespace Go.Sw
def mark (B:Nat):Deferred:={ target := .collected B,args := #[] }
def Am (P:Program):List Deferred→FrameMode→World→(FrameMode→World→Prop)→Prop
 | [],u,w,k=>k u w
 | d::ds,u,w,k=>u ≠ .run∧((∃ r,d.target = .collected r∧w.heap[r]?=some (.deferred (some []))∧Am P ds u (w.putObj r (.deferred none)) k) ∨
  (∃ fv cap f args,d.target = .fn fv cap∧(invoke d.target d.args).run P w = .ok (.enter f args) w∧CallsDIn Fence.wide 0 P f args u w λ
   | .returned _,u',w'=>Am P ds (settle u') w' k
   | .panicked chain,u',w'=>Am P ds (raised u' chain) w' k
   | .outgrown,_,_=>False))
def jV (ρ:Env):ResultVar→Option TypeId×Value
 | .tmp t=>(none,ρ t)
 | .cell t c=>(some c,ρ t)
def FO:ResultVar→Nat
 | .tmp t=>t
 | .cell t _=>t
def Qf (P:Program) (w:World) (r:Option TypeId×Value) (k:Value→Prop):Prop:=match r with
 | (none,v)=>k v
 | (some T,a)=>qW P T a w k
def jp (P:Program) (l:List (Option TypeId×Value)) (w:World) (k:Value→Prop):Prop:=match l with
 | []=>k (.tuple #[])
 | [a]=>Qf P w a k
 | [a,b]=>Qf P w a λ x=>Qf P w b λ y=>k (.tuple #[x,y])
 | [a,b,c]=>Qf P w a λ x=>Qf P w b λ y=>Qf P w c λ z=>k (.tuple #[x,y,z])
 | [a,b,c,d]=>Qf P w a λ x=>Qf P w b λ y=>Qf P w c λ z=>Qf P w d λ u=>k (.tuple #[x,y,z,u])
 | _=>False
def Nb (P:Program) (l:List (Option TypeId×Value)) (R:RT):FrameMode→World→Prop
 | .returning,w=>jp P l w λ v=>R (.returned v) w
 | .panicking ch,w=>R (.panicked ch) w
 | .run,_=>False
def VP (P:Program) (ds:List Deferred) (l:List (Option TypeId×Value)) (R:RT) (w:World):Prop:=Am P ds .returning w (Nb P l R)
def Zw (P:Program) (ds:List Deferred) (l:List (Option TypeId×Value)) (R:RT):List PanicEntry→World→Prop:=λ ch w=>Am P ds (.panicking ch) w (Nb P l R)
section
variable {P:Program} {N:Nat} {ro:Option Nat} {fn:Func} {R:RT} {ρ:Env}
def IX (tmps:Array Value):ResultVar→Sem Value
 | .tmp t=>pure (tmps.getD t undef)
 | .cell a t=>do loadVar t (← asAddr (tmps.getD a undef))
theorem FV (fn:Func) (tmps:Array Value):results fn tmps=(do let vs ← fn.results.mapM (IX tmps);pure (if h:vs.size=1 then vs[0] else .tuple vs)):=by
 unfold results
 congr 1
theorem Y8 {tmps:Array Value} (ht:∀ i,tmps.getD i undef=ρ i) {r:ResultVar} {w:World} {k:Value→Prop} (h:Qf P w (jV ρ r) k):∃ v,(IX tmps r).run P w = .ok v w∧k v:=by
 cases r with
 | tmp t=>exact ⟨_,rfl,by rw [ht];exact h⟩
 | cell t c =>
  obtain ⟨v,hv,hk⟩:=h
  exact ⟨v,by show Sem.run P (do loadVar c (← asAddr (tmps.getD t undef)):Sem Value) w=_;rw [ht];exact hv,hk⟩
theorem DZ {tmps:Array Value} (ht:∀ i,tmps.getD i undef=ρ i) {w:World} {k:Value→Prop} (h:jp P (fn.results.toList.map (jV ρ)) w k):∃ v,(results fn tmps).run P w = .ok v w∧k v:=by
 rw [FV]
 obtain ⟨l,hl⟩:∃ l,fn.results=List.toArray l:=⟨fn.results.toList,by simp⟩
 rw [hl] at h ⊢
 simp only [List.mapM_toArray] at h ⊢
 match l,h with
 | [],h=>exact ⟨_,rfl,h⟩
 | [a],h =>
  obtain ⟨v,h1,h⟩:=Y8 ht h
  refine ⟨v,?_,h⟩
  simp [Sem.run_bind,h1,Result.andThen]
 | [a,b],h =>
  obtain ⟨v,h1,h⟩:=Y8 ht h
  obtain ⟨v2,h2,h⟩:=Y8 ht h
  refine ⟨_,?_,h⟩
  simp [Sem.run_bind,h1,h2,Result.andThen]
 | [a,b,c],h =>
  obtain ⟨v,h1,h⟩:=Y8 ht h
  obtain ⟨v2,h2,h⟩:=Y8 ht h
  obtain ⟨v3,h3,h⟩:=Y8 ht h
  refine ⟨_,?_,h⟩
  simp [Sem.run_bind,h1,h2,h3,Result.andThen]
 | [a,b,c,d],h =>
  obtain ⟨v,h1,h⟩:=Y8 ht h
  obtain ⟨v2,h2,h⟩:=Y8 ht h
  obtain ⟨v3,h3,h⟩:=Y8 ht h
  obtain ⟨v4,h4,h⟩:=Y8 ht h
  refine ⟨_,?_,h⟩
  simp [Sem.run_bind,h1,h2,h3,h4,Result.andThen]
 | _::_::_::_::_::_,h=>exact h.elim
theorem Qt {tmps:Array Value} {l:List (Option TypeId×Value)} (ht:∀ i,tmps.getD i undef=ρ i) (hl:fn.results.toList.map (jV ρ)=l):∀ (ds:List Deferred) (u:FrameMode) (w:World),Am P ds u w (Nb P l R)→LeavesInM Fence.wide 0 P fn tmps R ds u w
 | [],u,w,h=>by
  subst hl
  cases u with
  | run=>exact h.elim
  | returning=>exact DZ (k:=λ v=>R (.returned v) w) ht h
  | panicking ch=>exact h
 | d::ds,u,w,h=>by
  obtain ⟨hu,h⟩:=h
  refine ⟨hu,?_⟩
  rcases h with ⟨r,h1,h2,h3⟩ | ⟨fv,cap,f,args,h1,h2,h3⟩
  · exact .inl ⟨r,_,h1,run_takeDeferred h2,Qt ht hl ds u _ h3⟩
  · refine .inr ⟨λ hd=>by simp [Fence.wide] at hd,fv,cap,f,args,h1,h2,λ _ _=>trivial,CallsDIn.mono h3 ?_⟩
    intro e u' w' hh
    cases e with
    | returned v=>exact Qt ht hl ds _ _ hh
    | panicked ch=>exact Qt ht hl ds _ _ hh
    | outgrown=>exact hh.elim
theorem XR {ds:List Deferred} {l:List (Option TypeId×Value)} {ch:List PanicEntry} {w:World} (hl:fn.results.toList.map (jV ρ)=l) (h:Zw P ds l R ch w):xR P fn R ch ρ ds w:=λ _ ht=>Qt ht hl ds _ w h
theorem Q2 {S:List Nat} {ds:List Deferred} {l:List (Option TypeId×Value)} {ch:List PanicEntry} {w:World} (hS:fn.results.toList.all (λ r=>!S.contains (FO r))=true) (hl:fn.results.toList.map (jV ρ)=l) (h:Zw P ds l R ch w):∀ ρ',Fr S ρ ρ'→xR P fn R ch ρ' ds w:=by
 intro ρ' hf
 refine XR (ρ:=ρ') ?_ h
 rw [← hl]
 apply List.map_congr_left
 intro r hr
 have:=List.all_eq_true.1 hS r hr
 simp only [Bool.not_eq_true'] at this
 have hn:FO r ∉ S:=λ hm=>by rw [List.contains_iff_mem.2 hm] at this;cases this
 have:=hf _ hn
 cases r<;>simp only [jV,FO] at * <;> rw [this]
theorem Xb {ds:List Deferred} {l:List (Option TypeId×Value)} {w:World} (hl:fn.results.toList.map (jV ρ)=l) (h:VP P ds l R w):qe P fn R .ret ρ ds w:=λ _ ht=>Qt ht hl ds _ w h
theorem zf {ds:List Deferred} {w:World} (h:qe P fn R .ret ρ ds w):qe P fn R .normal ρ ds w:=h
end
def Z6 (B:Nat) (w:World):Prop:=w.heap[B]?=some (.deferred (some []))
def Xa (rec:Loop) (B:Nat) (w:World):Prop:=Z6 B w∧∃ st p,w.heap[B+1]?=some (.loop { rec with state:=st,pending:=p })
def jo (l:Nat) (w w':World):Prop:=∃ r,w.heap[l]?=some (.loop r)∧w'=w.putObj l (.loop { r with state := .busy })
def Im (l:Nat) (w:World):Prop:=∃ r,w.heap[l]?=some (.loop r)∧r.state = .ready
def AU (l:Nat) (w:World) (k:World→Prop):Prop:=Im l w∧∀ w',jo l w w'→k w'
theorem Z6.ext {B:Nat} {w w':World} (h:Z6 B w) (e:Ext w w'):Z6 B w':=e.obj h
theorem Z6.keeps {B:Nat} {w w':World} (h:Z6 B w) (e:KeepsOthers w w'):Z6 B w':=e.same _ _ h rfl
theorem Z6.setCell {B:Nat} {w:World} (h:Z6 B w) (a:Addr) (v:Value):Z6 B (w.setCell a v):=h.keeps (KeepsOthers.setCell w a v)
theorem Z6.alloc {B:Nat} {w:World} (h:Z6 B w) (o:Obj):Z6 B (w.alloc o):=h.ext ((Ext.refl w).alloc o)
theorem Xa.keeps {rec:Loop} {B:Nat} {w w':World} (h:Xa rec B w) (e:KeepsOthers w w'):Xa rec B w':=⟨h.1.keeps e,let ⟨st,p,hp⟩:=h.2; ⟨st,p,e.same _ _ hp rfl⟩⟩
theorem Xa.ext {rec:Loop} {B:Nat} {w w':World} (h:Xa rec B w) (e:Ext w w'):Xa rec B w':=⟨h.1.ext e,let ⟨st,p,hp⟩:=h.2; ⟨st,p,e.obj hp⟩⟩
theorem Xa.setCell {rec:Loop} {B:Nat} {w:World} (h:Xa rec B w) (a:Addr) (v:Value):Xa rec B (w.setCell a v):=h.keeps (KeepsOthers.setCell w a v)
theorem Xa.alloc {rec:Loop} {B:Nat} {w:World} (h:Xa rec B w) (o:Obj):Xa rec B (w.alloc o):=h.ext ((Ext.refl w).alloc o)
theorem Xa.drew {rec:Loop} {B:Nat} {w:World} (h:Xa rec B w):Xa rec B w.drew:=h
structure ZO (B:Nat) (I:World→Prop):Prop where
 ext:∀ w w',I w→Ext w w'→I w'
 loop:∀ w l r r',B≤l→I w→w.heap[l]?=some (.loop r)→I (w.putObj l (.loop r'))
theorem zh {w:World} {l:Nat} {r r':Loop} (h:w.heap[l]?=some (.loop r)) (a:Addr):(w.putObj l (.loop r')).cell? a=w.cell? a:=by
 unfold World.cell?
 by_cases e:a.block=l
 · rw [e,World.putObj_heap_same (Array.getElem?_eq_some_iff.1 h).1,h]
 · rw [World.putObj_heap_other e]
theorem Ext.putLoop {a w:World} (h:Ext a w) {l:Nat} (hl:a.heap.size≤l) (o:Obj):Ext a (w.putObj l o) :=
 ⟨h.os,h.tape,h.output,by simpa using h.size,λ k hk=>(World.putObj_heap_other (by omega)).trans (h.block k hk)⟩
theorem ZO.and {B:Nat} {I J:World→Prop} (h:ZO B I) (k:ZO B J):ZO B (λ w=>I w∧J w):=⟨λ w w' hh e=>⟨h.ext _ _ hh.1 e,k.ext _ _ hh.2 e⟩,λ w l r r' hb hh hl=>⟨h.loop _ _ _ _ hb hh.1 hl,k.loop _ _ _ _ hb hh.2 hl⟩⟩
theorem ZO.ex {B:Nat} {α:Sort _} {I:α→World→Prop} (h:∀ x,ZO B (I x)):ZO B (λ w=>∃ x,I x w):=⟨λ w w' ⟨x,hx⟩ e=>⟨x,(h x).ext _ _ hx e⟩,λ w l r r' hb ⟨x,hx⟩ hl=>⟨x,(h x).loop _ _ _ _ hb hx hl⟩⟩
theorem ZO.const (B:Nat) (p:Prop):ZO B (λ _=>p):=⟨λ _ _ h _=>h,λ _ _ _ _ _ h _=>h⟩
theorem ZO.from {B:Nat} {w0:World} (hb:w0.heap.size≤B):ZO B (Ext w0):=⟨λ _ _ h e=>h.trans e,λ w l r r' hl h _=>Ext.putLoop h (by omega) _⟩
theorem ZO.has (B:Nat) {b:Nat} {o:Obj} (ho:∀ r,o ≠ .loop r):ZO B (λ w=>w.heap[b]?=some o):=⟨λ _ _ h e=>e.obj h,λ w l r r' _ h hl=>by
 rw [World.putObj_heap_other ?_];exact h
 rintro rfl
 rw [h] at hl;injection hl with hl;exact ho _ hl⟩
theorem ZO.cell (B:Nat) {a:Addr} {v:Value}:ZO B (λ w=>w.cell? a=some v):=⟨λ _ _ h e=>e.cell h,λ w l r r' _ h hl=>by rw [zh hl];exact h⟩
theorem Ze.putLoop {α:Type} {n:Nat} {E:World→List Value→α→Prop} {v:Value} {L:List α} {w:World} {l:Nat} {r r':Loop} (hE:∀ cs x,E w cs x→E (w.putObj l (.loop r')) cs x) (hl:w.heap[l]?=some (.loop r)) (h:Ze w n E v L):Ze (w.putObj l (.loop r')) n E v L:=by
 obtain ⟨A,c,h1,h2,h3,h4⟩:=h
 refine ⟨A,c,h1,h2,h3,λ hne=>?_⟩
 obtain ⟨b,o,h5,h6⟩:=h4 hne
 exact ⟨b,o,h5,λ k x hx=>by obtain ⟨cs,a1,a2,a3⟩:=h6 k x hx;exact ⟨cs,a1,λ j u hu=>by rw [zh hl];exact a2 j u hu,hE _ _ a3⟩⟩
def IB (P:Program) (f:FuncId) (caps:Array Value) (n:Nat) (xs:Nat→Value) (FP:World→Prop):Prop :=
 ∀ (yv:Value) (J:Nat→World→Prop) (Jx:World→Prop) (Jp:List PanicEntry→World→Prop) (w:World),(∀ k w,J k w→FP w)→(∀ k w w',J k w→Ext w w'→J k w')→(∀ w w',Jx w→Ext w w'→Jx w') →
  (∀ k,k < n→∀ w,J k w→Qi P yv #[xs k] Jp w (λ v w'=>(v = .bool true∧J (k+1) w')∨(v = .bool false∧Jx w')))→J 0 w →
  Calls P f (#[yv]++caps) w (λ e w'=>match e with
   | .returned _=>J n w'∨Jx w'
   | .panicked ch=>Jp ch w'
   | .outgrown=>False)
def Zac:List (List Deferred→World→Prop)→Nat→List Deferred→World→Prop
 | [],_,_,_=>False
 | k::_,0,ds,w=>k ds w
 | _::l,c+1,ds,w=>Zac l c ds w
def zy (P:Program) (fv:Value) (ds:List Deferred) (body:Nat→Value→World→(World→Prop)→(Nat→World→Prop)→(List PanicEntry→World→Prop)→Prop) (QP:List PanicEntry→List Deferred→World→Prop) (w:World)
 (k:List Deferred→World→Prop) (kx:List (List Deferred→World→Prop)):Prop :=
 ∃ (f:FuncId) (caps:Array Value) (n:Nat) (xs:Nat→Value) (FP:World→Prop) (I:Nat→World→Prop) (Ix:Nat→World→Prop) (Ip:List PanicEntry→World→Prop),
  fv = .func (.func f) #[] caps∧Callable P f∧IB P f caps n xs FP∧I 0 w∧(∀ k w,I k w→FP w)∧(∀ k,ZO w.heap.size (I k))∧(∀ c,ZO w.heap.size (Ix c)) ∧
  (∀ (rec:Loop) (j:Nat) (w':World),j < n→I j w'→Xa rec w.heap.size w'→Im (w.heap.size+1) w' →
   body (w.heap.size+1) (xs j) w' (λ w''=>Xa rec w.heap.size w''∧I (j+1) w'') (λ c w''=>Xa rec w.heap.size w''∧Ix c w'') (λ ch w''=>Xa rec w.heap.size w''∧Ip ch w'')) ∧
  (∀ w',I n w'→Z6 w.heap.size w'→k (mark w.heap.size::ds) w') ∧
  (∀ c w',Ix c w'→Z6 w.heap.size w'→Zac kx c (mark w.heap.size::ds) w') ∧
  (∀ ch w',Ip ch w'→Z6 w.heap.size w'→QP ch (mark w.heap.size::ds) w')
def T5 (js:List Code) (K:World→Prop) (X:Nat→World→Prop):Sw.K:=λ e _ ds w=>match e with
 | .normal=>ds=[]∧K w
 | .ret=>ds=[]∧∃ c,js[c]?=some .ret∧X c w
 | .exit id=>ds=[]∧∃ c,js[c]?=some (.exit id)∧X c w
 | _=>False
def Rf (Q:List PanicEntry→World→Prop):KP:=λ ch _ ds w=>ds=[]∧Q ch w
section
variable {P:Program} {N:Nat}
theorem Xa.putBusy {rec:Loop} {B l:Nat} {w:World} (h:Xa rec B w) (hl:l=B+1) (st:LoopState) (p:Option Code):Xa rec B (w.putObj l (.loop { rec with state:=st,pending:=p })):=by
 obtain ⟨hm,st',p',h2⟩:=h
 subst hl
 refine ⟨?_,st,p,World.putObj_heap_same (Array.getElem?_eq_some_iff.1 h2).1⟩
 unfold Z6
 rw [World.putObj_heap_other (by omega)];exact hm
theorem Xa.busied {rec:Loop} {B:Nat} {w w':World} (h:Xa rec B w) (hb:jo (B+1) w w'):Xa rec B w':=by
 obtain ⟨r,hr,rfl⟩:=hb
 obtain ⟨_,st,p,h2⟩:=id h
 rw [h2] at hr
 injection hr with hr
 injection hr with hr
 subst hr
 exact h.putBusy rfl .busy p
theorem ZO.busied {B l:Nat} {I:World→Prop} {w w':World} (h:ZO B I) (hb:jo l w w') (hl:B≤l) (hI:I w):I w':=by
 obtain ⟨r,hr,rfl⟩:=hb
 exact h.loop _ _ _ _ hl hI hr
theorem Ue {g:Operand} {p:Nat} {asg body:Code} {Q:K} {QP:KP} {ρ:Env} {ds:List Deferred} {w:World} {fv:Value} {nbody:Nat→Value→World→(World→Prop)→(Nat→World→Prop)→(List PanicEntry→World→Prop)→Prop} {QPn:List PanicEntry→List Deferred→World→Prop}
 {k:List Deferred→World→Prop} {kx:List (List Deferred→World→Prop)} (js:List Code) (h:zy P fv ds nbody QPn w k kx) (hg:ev ρ g=fv)
 (hbody:∀ l x w K X QPr,nbody l x w K X QPr→den P N (some l) asg (Qv (λ ρ' ds' w'=>ds'=[]∧AU l w' (λ w''=>den P N (some l) body (T5 js K X) (Rf QPr) ρ' [] w'')) (λ _ _ _ _=>False)) (λ _ _ _ _=>False) (put N ρ (some p) x) [] w)
 (hk:∀ ds w,k ds w→Q .normal ρ ds w) (hx:∀ c ds w,Zac kx c ds w→∃ code,js[c]?=some code∧((code = .ret∧Q .ret ρ ds w)∨(∃ id,code = .exit id∧Q (.exit id) ρ ds w))) (hp:∀ ch ds w,QPn ch ds w→QP ch ρ ds w) :
 den P N none (.rangeFunc g #[p] asg body) Q QP ρ ds w:=by
 intro a ha hds
 subst hds
 obtain ⟨f,caps,n,xs,FP,I,Ix,Ip,hfv,hcal,hseq,h0,hFP,hL,hLx,hround,hend,hjump,hpan⟩:=h
 refine AL λ fn hfn=>?_
 obtain ⟨rec,hrec⟩:∃ rec:Loop,rec={ state := .ready,pending:=none,fn,tmps:=a.tmps,params := #[p],assign:=asg,body,defers:=w.heap.size }:=⟨_,rfl⟩
 obtain ⟨W1,hW1⟩:∃ W1,(w.alloc (.deferred (some []))).alloc (.loop rec)=W1:=⟨_,rfl⟩
 have hE1:Ext w W1:=by rw [← hW1];exact ((Ext.refl w).alloc _).alloc _
 have hL1:W1.heap[w.heap.size+1]?=some (.loop rec):=by
  rw [← hW1];have:=World.alloc_heap_new (w.alloc (.deferred (some []))) (.loop rec);rwa [World.size_alloc] at this
 have hK1:Z6 w.heap.size W1:=by
  rw [← hW1];exact Z6.alloc (World.alloc_heap_new w _) _
 have hev:a.eval g=fv:=by rw [ha.eval];exact hg
 refine ⟨w.heap.size+1,[mark w.heap.size],W1,{ target := .fn (.func f) caps,args := #[.func (.yield (w.heap.size+1)) #[] #[]] },W1,f,#[.func (.yield (w.heap.size+1)) #[] #[]]++caps,W1,?_,?_,?_,?_⟩
 · rw [← hW1,hrec];exact run_enterLoop_outer _ _ _ _ _
 · simp only [resolve,hev,hfv]
   simp [go_sem]
 · simp only [invoke]
   exact Vd hcal _ _
 · refine Calls.mono (hseq (.func (.yield (w.heap.size+1)) #[] #[]) (λ j w'=>I j w'∧Z6 w.heap.size w'∧∃ p,w'.heap[w.heap.size+1]?=some (.loop { rec with state := .ready,pending:=p })∧p=none)
    (λ w'=>Z6 w.heap.size w'∧∃ c code,Ix c w'∧js[c]?=some code∧w'.heap[w.heap.size+1]?=some (.loop { rec with state := .done,pending:=some code }))
    (λ ch w'=>Z6 w.heap.size w'∧Ip ch w') W1 (λ j w' hj=>hFP j w' hj.1) (λ j w1 w2 hj he=>⟨(hL j).ext _ _ hj.1 he,hj.2.1.ext he,hj.2.2.elim λ q hq=>⟨q,he.obj hq.1,hq.2⟩⟩)
    (λ w1 w2 hj he=>⟨hj.1.ext he,hj.2.elim λ c hc=>hc.elim λ code hh=>⟨c,code,(hLx c).ext _ _ hh.1 he,hh.2.1,he.obj hh.2.2⟩⟩) ?_ ⟨(hL 0).ext _ _ h0 hE1,hK1,none,by rw [hL1,hrec],rfl⟩) ?_
   · rintro j hj w' ⟨hi,hm,q,hl,rfl⟩
     have hlt:w.heap.size+1 < w'.heap.size:=(Array.getElem?_eq_some_iff.1 hl).1
     have hy:=run_yield (P:=P) (args := #[xs j]) hl (by rw [hrec];rfl)
     show V9 P _ _ _ _
     have hcs:jy (.func (.yield (w.heap.size+1)) #[] #[]) #[xs j]=Instr.yield (w.heap.size+1) #[xs j]:=by
      simp [jy,Deferred.ofValue,invoke,go_sem,bind,pure,Sem.bind]
     rw [hcs,hy]
     have key:∀ R,wpV (some (w.heap.size+1)) P asg (Exit.then (λ a₁ w₁=>∃ w₂,(Instr.beginRound (w.heap.size+1)).run P w₁ = .ok () w₂∧wpV (some (w.heap.size+1)) P body (Zcn P (w.heap.size+1) R) a₁ w₂) (λ _ _ _=>False)) { tmps:=((#[p].zip #[xs j]).foldl (λ tmps (t,a)=>tmps.setIfInBounds t a) a.tmps),defers:=[] } w' →
      KJ P (w.heap.size+1) rec.fn ((rec.params.zip #[xs j]).foldl (λ tmps (t,a)=>tmps.setIfInBounds t a) rec.tmps) rec.assign rec.body w' R:=by
      intro R h;rw [hrec];exact AH hfn h
     refine key _ ?_
     have hb:=hbody _ _ _ _ _ _ (hround rec j w' hj hi ⟨hm,_,_,hl⟩ ⟨_,hl,rfl⟩)
     have hagr:YC N ({ tmps:=((#[p].zip #[xs j]).foldl (λ tmps (t,a)=>tmps.setIfInBounds t a) a.tmps),defers:=[] }:Act) (put N ρ (some p) (xs j)):=by
      have:=(YC.defers ha []).put (some p) (xs j)
      simpa [Act.put] using this
     refine Qw (Us asg _ _ _ _ _ hagr hb) ?_
     intro e a1 w1 hl1
     cases e with
     | panic ch=>obtain ⟨_,_,hf⟩:=hl1;exact hf.elim
     | outgrown=>exact hl1
     | exit id=>obtain ⟨_,_,_,hf⟩:=hl1;exact hf.elim
     | goto l=>obtain ⟨_,_,_,hf⟩:=hl1;exact hf.elim
     | ret=>obtain ⟨_,_,_,hf⟩:=hl1;exact hf.elim
     | normal =>
      obtain ⟨ρ1,ha1,_,hd1,hbz⟩:=hl1
      obtain ⟨⟨r,hr1,hr2⟩,hbz⟩:=hbz
      refine ⟨_,run_beginRound hr1 hr2,?_⟩
      rw [show a1={ a1 with defers:=[] } by rw [← hd1]]
      refine Qw (Us body _ _ _ _ _ (YC.defers ha1 []) (hbz _ ⟨_,hr1,rfl⟩)) ?_
      have fin:∀ (jump:Option Code) (w2:World),Xa rec w.heap.size w2→(Instr.endRound (w.heap.size+1) jump).run P w2 = .ok (.bool jump.isNone) (w2.putObj (w.heap.size+1) (.loop { rec with state:=if jump.isNone then .ready else .done,pending:=jump })) ∧
       (w2.putObj (w.heap.size+1) (.loop { rec with state:=if jump.isNone then .ready else .done,pending:=jump })).heap[w.heap.size+1]?=some (.loop { rec with state:=if jump.isNone then .ready else .done,pending:=jump }) ∧
       Z6 w.heap.size (w2.putObj (w.heap.size+1) (.loop { rec with state:=if jump.isNone then .ready else .done,pending:=jump })):=by
       rintro jump w2 ⟨hm2,st,q,hq⟩
       refine ⟨by have:=run_endRound (P:=P) jump hq;exact this,World.putObj_heap_same (Array.getElem?_eq_some_iff.1 hq).1,?_⟩
       unfold Z6
       rw [World.putObj_heap_other (by omega)];exact hm2
      intro e a2 w2 hl2
      cases e with
      | normal =>
       obtain ⟨_,_,_,_,hrec2,hi2⟩:=hl2
       obtain ⟨f1,f2,f3⟩:=fin none w2 hrec2
       obtain ⟨_,st,q,hq⟩:=hrec2
       exact ⟨_,_,f1,.inl ⟨rfl,(hL _).loop _ _ _ _ (Nat.le_succ _) hi2 hq,f3,none,f2,rfl⟩⟩
      | ret =>
       obtain ⟨_,_,_,_,c,hc,hrec2,hi2⟩:=hl2
       obtain ⟨f1,f2,f3⟩:=fin (some .ret) w2 hrec2
       obtain ⟨_,st,q,hq⟩:=hrec2
       exact ⟨_,_,f1,.inr ⟨rfl,f3,c,_,(hLx _).loop _ _ _ _ (Nat.le_succ _) hi2 hq,hc,f2⟩⟩
      | exit id =>
       obtain ⟨_,_,_,_,c,hc,hrec2,hi2⟩:=hl2
       obtain ⟨f1,f2,f3⟩:=fin (some (.exit id)) w2 hrec2
       obtain ⟨_,st,q,hq⟩:=hrec2
       exact ⟨_,_,f1,.inr ⟨rfl,f3,c,_,(hLx _).loop _ _ _ _ (Nat.le_succ _) hi2 hq,hc,f2⟩⟩
      | panic ch =>
       obtain ⟨_,_,hd2,hrec2,hi2⟩:=hl2
       exact ⟨hd2,hrec2.1,hi2⟩
      | goto l=>obtain ⟨_,_,_,hf⟩:=hl2;exact hf.elim
      | outgrown=>exact hl2
   · have hagr:YC N ({ a with defers:=[mark w.heap.size]++a.defers }:Act) ρ:=ha
     have exh:∀ (st:LoopState) (q:Option Code) (w':World),w'.heap[w.heap.size+1]?=some (.loop { rec with state:=st,pending:=q })→st ≠ .busy→Z6 w.heap.size w' →
      (Instr.endLoop (w.heap.size+1)).run P w' = .ok q (w'.putObj (w.heap.size+1) (.loop { rec with state := .exhausted,pending:=q }))∧Z6 w.heap.size (w'.putObj (w.heap.size+1) (.loop { rec with state := .exhausted,pending:=q })):=by
      intro st q w' hq hne hm
      refine ⟨by have:=run_endLoop (P:=P) hq hne;exact this,?_⟩
      unfold Z6
      rw [World.putObj_heap_other (by omega)];exact hm
     rintro e w' he
     cases e with
     | returned v =>
      rcases he with ⟨hi,hm,q,hl,rfl⟩ | ⟨hm,c,code,hi,hc,hl⟩
      · obtain ⟨e1,e2⟩:=exh _ _ w' hl (by simp) hm
        exact ⟨none,_,e1,hagr,hk _ _ (hend _ ((hL _).loop _ _ _ _ (Nat.le_succ _) hi hl) e2)⟩
      · obtain ⟨e1,e2⟩:=exh _ _ w' hl (by simp) hm
        refine ⟨some code,_,e1,?_⟩
        obtain ⟨code',hc',hden⟩:=hx c _ _ (hjump c _ ((hLx _).loop _ _ _ _ (Nat.le_succ _) hi hl) e2)
        rw [hc] at hc';cases hc'
        rcases hden with ⟨rfl,hq⟩ | ⟨id,rfl,hq⟩
        · exact IF ⟨hagr,hq⟩
        · exact EK ⟨hagr,hq⟩
     | panicked ch=>exact ⟨hagr,hp _ _ _ (hpan ch _ he.2 he.1)⟩
     | outgrown=>exact he.elim
theorem Mn {ro:Option Nat} {c:Code} {Q:K} {QP:KP} {ρ:Env} {ds:List Deferred} {w:World} (W:List Nat) (hW:((Xi c).all (W.contains ·)&&W.all ((Xi c).contains ·))=true) (I:Env→List Deferred→World→Prop) (μ:Env→World→Nat) (h0:I ρ ds w)
 (hr:∀ σ ds w,I σ ds w→den P N ro c (Qv (λ ρ' ds' w'=>I ρ' ds' w'∧μ ρ' w' < μ σ w) Q) QP (mix W ρ σ) ds w):den P N ro (.loop c) Q QP ρ ds w :=
 ⟨I,μ,h0,λ σ ds' w hI=>by rw [← AY hW];exact hr σ ds' w hI⟩
def Zbt (P:Program) (fv:Value) (args:Array Value) (ds:List Deferred) (w:World) (k:List Deferred→World→Prop):Prop:=∃ d w',(Deferred.ofValue fv args).run P w = .ok d w'∧k (d::ds) w'
theorem LX {QP:KP} {T:Env→List Deferred→World→Prop} {rest:List Oper} {ρ:Env} {ds:List Deferred} {w:World} {fo:Operand} {l:List Operand} {ats:Array TypeId} {ty:TypeId} {dst:Option Nat} {pos:String} {after:Array Edge} {g:Option (Nat×Bool)} {fv:Value} {args:List Value} {k:List Deferred→World→Prop}
 (h:Zbt P fv args.toArray ds w k) (h1:ev ρ fo=fv) (h2:l.map (ev ρ)=args) (hk:∀ ds w',k ds w'→ZN P N none QP T rest (put N ρ dst undef) ds w'):ZN P N none QP T (⟨dst,.defer ⟨.value fo,l.toArray,ats⟩,ty,pos,after,g⟩::rest) ρ ds w:=by
 subst h1 h2
 obtain ⟨d,w',hd,h⟩:=h
 show opE P none QP _ ρ ds w _ _
 unfold opE
 have he:(execOp (ev ρ) ⟨dst,.defer ⟨.value fo,l.toArray,ats⟩,ty,pos,after,g⟩).run P w = .ok (.defer d) w':=by
  simp only [execOp,resolve,List.map_toArray,Sem.run_bind,hd,Result.andThen]
  rfl
 show V9 P _ _ _ _
 rw [he]
 exact hk _ _ h
end
def Fm (body:List Deferred→Value→World→(List Deferred→Value→World→Prop)→Prop) (ds:List Deferred) (a0:Value) (w:World):Prop:=∃ (I:List Deferred→Value→World→Prop) (μ:Value→World→Nat),I ds a0 w∧∀ ds a0 w,I ds a0 w→body ds a0 w (λ ds' a0' w'=>I ds' a0' w'∧μ a0' w' < μ a0 w)
theorem BV {body:List Deferred→Value→World→(List Deferred→Value→World→Prop)→Prop} {ds:List Deferred} {a0:Value} {w:World} (I:List Deferred→Value→World→Prop) (μ:Value→World→Nat) (h0:I ds a0 w) (hr:∀ ds a0 w,I ds a0 w→body ds a0 w (λ ds' a0' w'=>I ds' a0' w'∧μ a0' w' < μ a0 w)):Fm body ds a0 w:=⟨I,μ,h0,hr⟩
theorem Be {P:Program} {B:Nat} {ds:List Deferred} {u:FrameMode} {w:World} {k:FrameMode→World→Prop} (hu:u ≠ .run) (hm:Z6 B w) (h:Am P ds u (w.putObj B (.deferred none)) k):Am P (mark B::ds) u w k:=⟨hu,.inl ⟨B,rfl,hm,h⟩⟩
theorem UM {w:World} {B:Nat} {o:Option (List Deferred)} (h:Z6 B w) (a:Addr):(w.putObj B (.deferred o)).cell? a=w.cell? a:=by
 unfold World.cell?
 by_cases e:a.block=B
 · rw [e,World.putObj_heap_same (Array.getElem?_eq_some_iff.1 h).1,h]
 · rw [World.putObj_heap_other e]
theorem WT {P:Program} {l:List (Option TypeId×Value)} {R:RT} {w:World}:VP P [] l R w=jp P l w (λ v=>R (.returned v) w):=rfl
theorem Vp {P:Program} {l:List (Option TypeId×Value)} {R:RT} {ch:List PanicEntry} {w:World}:Zw P [] l R ch w=R (.panicked ch) w:=rfl
theorem WL {P:Program} {B:Nat} {ds:List Deferred} {l:List (Option TypeId×Value)} {R:RT} {w:World} (hm:Z6 B w) (h:VP P ds l R (w.putObj B (.deferred none))):VP P (mark B::ds) l R w:=Be (by simp) hm h
theorem zP {P:Program} {B:Nat} {ds:List Deferred} {l:List (Option TypeId×Value)} {R:RT} {ch:List PanicEntry} {w:World} (hm:Z6 B w) (h:Zw P ds l R ch (w.putObj B (.deferred none))):Zw P (mark B::ds) l R ch w:=Be (by simp) hm h
end Go.Sw
namespace Go.Sw
def recM:FrameMode→Value×FrameMode
 | .panicking ({ v,recovered:=false,goexit:=false }::older)=>(v,.panicking ({ v,recovered:=true }::older))
 | u=>(.nilIface,u)
theorem Au (c:Frame) (cs:List Frame):(match recoverD (c::cs) with | some (v,cs')=>(v,cs') | none=>(.nilIface,c::cs))=((recM c.mode).1,{ c with mode:=(recM c.mode).2 }::cs):=by
 cases c with
 | mk fn tmps todo defers mode kind ro =>
  cases mode with
  | run=>rfl
  | returning=>rfl
  | panicking chain =>
   cases chain with
   | nil=>rfl
   | cons e older =>
    cases e with
    | mk v r g=>cases r<;>cases g<;>rfl
theorem Aw {P:Program} {f:FuncId} {fn:Func} {id:Nat} {o0:Oper} {l:List Oper} {c2:Code} {d:Nat} {ats:Array TypeId} {args:List Value} {w:World} {u:FrameMode} {R:Ending→FrameMode→World→Prop}
 (hf:P.funcs[f]?=some fn) (hb:fn.body=some (.seq (.region id (o0::l).toArray false) c2)) (hn:args.length≤fn.ntmps) (hg0:o0.guard=none) (hu:WF l=true) (ho:o0.op = .call ⟨.builtin .recover,#[],ats⟩) (hd:o0.dst=some d)
 (h:ZN P fn.ntmps none (zM (λ e w=>R e (recM u).2 w)) (λ ρ ds w=>den P fn.ntmps none c2 (Uq P fn (λ e w=>R e (recM u).2 w)) (zM (λ e w=>R e (recM u).2 w)) ρ ds w) l (put fn.ntmps (qu args) (some d) (recM u).1) [] w) :
 CallsDIn Fence.wide 0 P f args.toArray u w R:=by
 refine ⟨trivial,λ c cs hmode _=>?_⟩
 subst hmode
 let b:Frame:={ (default:Frame) with fn:=f,kind := .deferred,roundOf:=none }
 have henter:Frame.enter P f args.toArray .deferred=b.atR { tmps:=args.toArray++Array.replicate (fn.ntmps - args.toArray.size) undef,defers:=[] } [.code (.seq (.region id (o0::l).toArray false) c2)]:=by simp [Frame.enter,Frame.atR,hf,hb,b]
 have hag:=(CW fn.ntmps args hn).put (some d) (recM c.mode).1
 have hsz:(List.range (o0::l).toArray.size)=0::List.range' 1 l.length:=by simp [List.range_eq_range',List.range'_succ]
 have s1:Steps P (lone (Frame.enter P f args.toArray .deferred) (c::cs) w) (lone (b.atR ({ tmps:=args.toArray++Array.replicate (fn.ntmps - args.toArray.size) undef,defers:=[] }:Act) (.inRegion (o0::l).toArray (0::List.range' 1 l.length)::[.code c2])) (c::cs) w):=by
  rw [henter,← hsz]
  exact .head stepR_seq (.one stepR_region)
 have s2:Steps P (lone (b.atR ({ tmps:=args.toArray++Array.replicate (fn.ntmps - args.toArray.size) undef,defers:=[] }:Act) (.inRegion (o0::l).toArray (0::List.range' 1 l.length)::[.code c2])) (c::cs) w)
  (lone (b.atR (({ tmps:=args.toArray++Array.replicate (fn.ntmps - args.toArray.size) undef,defers:=[] }:Act).put (some d) (recM c.mode).1) (.inRegion (o0::l).toArray (List.range' 1 l.length)::[.code c2])) ({ c with mode:=(recM c.mode).2 }::cs) w):=by
  refine .one (step_lone_go ?_)
  have h0:(o0::l).toArray[0]?=some o0:=by simp
  have hw:Region.wanted o0 (yielded (o0::l).toArray ({ tmps:=args.toArray++Array.replicate (fn.ntmps - args.toArray.size) undef,defers:=[] }:Act).tmps)=true:=by simp [Region.wanted,hg0]
  have hg:=stepGR_op (P:=P) (b:=b) (a:=({ tmps:=args.toArray++Array.replicate (fn.ntmps - args.toArray.size) undef,defers:=[] }:Act)) (k:=[.code c2]) (cs:=c::cs) (w:=w) (rest:=List.range' 1 l.length) h0 hw
  rw [hg]
  have hfin:∀ v,(b.atR ({ tmps:=args.toArray++Array.replicate (fn.ntmps - args.toArray.size) undef,defers:=[] }:Act) (.inRegion (o0::l).toArray (0::List.range' 1 l.length)::[.code c2])).finish v=b.atR (({ tmps:=args.toArray++Array.replicate (fn.ntmps - args.toArray.size) undef,defers:=[] }:Act).put o0.dst v) (.inRegion (o0::l).toArray (List.range' 1 l.length)::[.code c2]):=by
   intro v;rw [Frame.finish_atR,h0];rfl
  have hr:Sem.run P (o0.semAt b.roundOf ({ tmps:=args.toArray++Array.replicate (fn.ntmps - args.toArray.size) undef,defers:=[] }:Act).eval) w = .ok .recover w:=by
   show Sem.run P (o0.semAt none _) w=_
   unfold Oper.semAt
   simp only [ho,execOp,resolve,Sem.run_bind,Array.map_empty,Sem.run_pure,Result.andThen,invoke,builtin]
  have hro0:b.roundOf=none:=rfl
  have hrec:=Au c cs
  have htr:=tryRecover_deferred (fr:=b.atR ({ tmps:=args.toArray++Array.replicate (fn.ntmps - args.toArray.size) undef,defers:=[] }:Act) (.inRegion (o0::l).toArray (0::List.range' 1 l.length)::[.code c2])) rfl (c::cs)
  rw [hd] at hfin
  rw [← hfin]
  simp only [stepG.apply,Sem.runT_eq,hr,GStep.bare_after]
  cases hrd:recoverD (c::cs) with
  | some x =>
   obtain ⟨v,cs'⟩:=x
   rw [hrd] at hrec htr
   simp only [Prod.mk.injEq] at hrec
   obtain ⟨rfl,rfl⟩:=hrec
   simp only [Frame.atR,hro0] at htr ⊢
   simp only [ite_true,htr]
   rfl
  | none =>
   rw [hrd] at hrec htr
   simp only [Prod.mk.injEq] at hrec
   obtain ⟨h1,h2⟩:=hrec
   rw [← h1,← h2]
   simp only [Frame.atR,hro0] at htr ⊢
   simp only [ite_true,htr]
   rfl
 have hro:b.roundOf=none:=rfl
 have hden:=VF (ro:=none) (P:=P) (ops:=(o0::l).toArray) (Q:=Qv (λ ρ ds w=>den P fn.ntmps none c2 (Uq P fn (λ e w=>R e (recM c.mode).2 w)) (zM (λ e w=>R e (recM c.mode).2 w)) ρ ds w) (λ _ _ _ _=>False)) (tail:=[]) l none _ _ _ hu (λ _=>rfl) h
 rw [List.append_nil] at hden
 have hops:=GJ (P:=P) (ro:=none) l 1 (by intro j;simp [Nat.add_comm 1 j]) none _ _ w hag (λ g hg=>by cases hg) hden
 obtain ⟨e,a',w',hq,harr⟩:=J6 _ _ _ hops b [.code c2] ({ c with mode:=(recM c.mode).2 }::cs) hro
 have s12:=Steps.trans s1 s2
 have fin:∀ (e:Ending) (w':World) (fr:Frame),R e (recM c.mode).2 w'→Steps P (lone (Frame.enter P f args.toArray .deferred) (c::cs) w) (lone fr ({ c with mode:=(recM c.mode).2 }::cs) w')→fr.kind = .deferred→fr.fn=f→fr.going P w' e→e ≠ .outgrown→(∃ e u' w' fr,R e u' w' ∧
  ComesIn (Machine.fenced P Fence.wide) P (lone (Frame.enter P f args.toArray .deferred) (c::cs) w) (lone fr ({ c with mode:=u' }::cs) w') e∧fr.kind = .deferred∧fr.fn=f∧fr.going P w' e) :=
  λ e w' fr hR hs h1 h2 h3 hne=>⟨e,_,w',fr,hR,by cases e<;>first | exact stepsIn_wide.2 hs | exact absurd rfl hne,h1,h2,h3⟩
 have ends:∀ (e:Exit) (a':Act) (w':World),xZ fn.ntmps (Uq P fn (λ e w=>R e (recM c.mode).2 w)) (zM (λ e w=>R e (recM c.mode).2 w)) e a' w'→Arr P (lone (Frame.enter P f args.toArray .deferred) (c::cs) w) b [] ({ c with mode:=(recM c.mode).2 }::cs) e a' w'→(∃ e u' w' fr,R e u' w' ∧
  ComesIn (Machine.fenced P Fence.wide) P (lone (Frame.enter P f args.toArray .deferred) (c::cs) w) (lone fr ({ c with mode:=u' }::cs) w') e∧fr.kind = .deferred∧fr.fn=f∧fr.going P w' e):=by
  intro e a' w' hq harr
  cases e with
  | normal =>
   obtain ⟨ρ,ha,hd',hr⟩:=hq
   obtain ⟨v,h1,h2⟩:=hr _ ha.2
   exact fin _ _ { b.atR a' [] with mode := .returning } h2 (Steps.trans harr (.one (stepR_end rfl))) rfl rfl ⟨rfl,hd',fn,hf,h1⟩ (by simp)
  | ret =>
   obtain ⟨ρ,ha,hd',hr⟩:=hq
   obtain ⟨v,h1,h2⟩:=hr _ ha.2
   obtain ⟨todo,hs⟩:=harr.1 rfl
   exact fin _ _ { b.atR a' todo with mode := .returning } h2 hs rfl rfl ⟨rfl,hd',fn,hf,h1⟩ (by simp)
  | panic ch =>
   obtain ⟨ρ,ha,hd',hr⟩:=hq
   obtain ⟨todo,hs⟩:=harr
   exact fin _ _ { b.atR a' todo with mode := .panicking ch } hr hs rfl rfl ⟨rfl,hd',fn,hf⟩ (by simp)
  | exit id=>obtain ⟨_,_,hq⟩:=hq;exact hq.elim
  | goto l=>exact harr.elim
  | outgrown=>exact hq.elim
 cases e with
 | normal =>
  obtain ⟨ρ1,ha1,_,hq1⟩:=hq
  obtain ⟨e2,a2,w2,hq2,harr2⟩:=Us c2 _ _ a' ρ1 w' ha1 hq1 b [] ({ c with mode:=(recM c.mode).2 }::cs) hro ⟨fn,hf⟩
  refine ends e2 a2 w2 ?_ (.from (Steps.trans s12 harr) harr2)
  cases e2 with
  | panic ch=>exact hq2
  | outgrown=>exact hq2
  | normal=>obtain ⟨ρ,ha,_,hq⟩:=hq2;exact ⟨ρ,ha,hq⟩
  | exit id=>obtain ⟨ρ,ha,_,hq⟩:=hq2;exact ⟨ρ,ha,hq⟩
  | ret=>obtain ⟨ρ,ha,_,hq⟩:=hq2;exact ⟨ρ,ha,hq⟩
  | goto l=>exact harr2.elim
 | panic ch=>exact ends (.panic ch) a' w' hq (.from s12 harr)
 | ret=>obtain ⟨_,_,_,hq⟩:=hq;exact hq.elim
 | exit id=>obtain ⟨_,_,_,hq⟩:=hq;exact hq.elim
 | goto l=>exact harr.elim
 | outgrown=>exact hq.elim
end Go.Sw
namespace Go.Sw
section
variable {α:Type}
def mkE (enc:α→Value) (x:α×Value×Nat):MapEntry:={ key:=enc x.1,val:=x.2.1,born:=x.2.2 }
structure Y1 (w:World) (r:Nat) (enc:α→Value) (L:List (α×Value×Nat)) (c:Nat):Prop where
 obj:w.heap[r]?=some (.map (L.map (mkE enc)).toArray c)
 lt:∀ x∈L,x.2.2 < c
 births:L.Pairwise (λ x y=>x.2.2≠y.2.2)
 keys:L.Pairwise (λ x y=>x.1≠y.1)
section dec
variable [DecidableEq α]
def look (L:List (α×Value×Nat)) (k:α):Option Value:=(L.find? (λ x=>decide (x.1=k))).map (·.2.1)
def Wp (L:List (α×Value×Nat)) (k:α):Nat:=((L.find? (λ x=>decide (x.1=k))).map (·.2.2)).getD 0
def Wl (L:List (α×Value×Nat)) (k:α):Bool:=L.any (λ x=>decide (x.1=k))
def GF (L:List (α×Value×Nat)) (k:α) (v:Value):List (α×Value×Nat):=L.map λ x=>if x.1=k then (x.1,v,x.2.2) else x
def Ub (L:List (α×Value×Nat)) (c:Nat) (k:α) (v:Value):List (α×Value×Nat):=if Wl L k then GF L k v else L++[(k,v,c)]
def Ul (L:List (α×Value×Nat)) (c:Nat) (k:α):Nat:=if Wl L k then c else c+1
def JT (L:List (α×Value×Nat)) (c:Nat) (k:α) (z:Value):List (α×Value×Nat):=if Wl L k then L else L++[(k,z,c)]
end dec
theorem Y1.ext {w w':World} {r:Nat} {enc:α→Value} {L:List (α×Value×Nat)} {c:Nat} (h:Y1 w r enc L c) (e:Ext w w'):Y1 w' r enc L c:=⟨e.obj h.obj,h.lt,h.births,h.keys⟩
theorem Y1.setCell {w:World} {r:Nat} {enc:α→Value} {L:List (α×Value×Nat)} {c:Nat} (h:Y1 w r enc L c) (a:Addr) (v:Value):Y1 (w.setCell a v) r enc L c:=⟨(KeepsOthers.setCell w a v).same _ _ h.obj rfl,h.lt,h.births,h.keys⟩
theorem Y1.keeps {w w':World} {r:Nat} {enc:α→Value} {L:List (α×Value×Nat)} {c:Nat} (h:Y1 w r enc L c) (e:KeepsOthers w w'):Y1 w' r enc L c:=⟨e.same _ _ h.obj rfl,h.lt,h.births,h.keys⟩
theorem Y1.new (w:World) (enc:α→Value):Y1 (w.alloc (.map #[] 0)) w.heap.size enc [] 0:=⟨World.alloc_heap_new w _,by simp,by simp,by simp⟩
theorem Y1.putOther {w:World} {r r':Nat} {enc:α→Value} {L:List (α×Value×Nat)} {c:Nat} (h:Y1 w r enc L c) (hne:r≠r') (o:Obj):Y1 (w.putObj r' o) r enc L c:=⟨(World.putObj_heap_other hne).trans h.obj,h.lt,h.births,h.keys⟩
variable [DecidableEq α]
theorem QF (x:α×Value×Nat) (L:List (α×Value×Nat)) (k:α):look (x::L) k=if x.1=k then some x.2.1 else look L k:=by
 unfold look
 by_cases h:x.1=k<;>simp [h]
theorem LC (L:List (α×Value×Nat)) (k:α):Wl L k=(look L k).isSome:=by
 induction L with
 | nil=>rfl
 | cons x L ih =>
  rw [QF]
  unfold Wl at *
  simp only [List.any_cons,ih]
  by_cases h:x.1=k<;>simp [h]
theorem Ey (L:List (α×Value×Nat)) (k k':α) (v:Value) (c:Nat):look (L++[(k,v,c)]) k'=(look L k').or (if k=k' then some v else none):=by
 induction L with
 | nil=>rw [List.nil_append,QF];by_cases h:k=k'<;>simp [h,look]
 | cons x L ih =>
  rw [List.cons_append,QF,QF,ih]
  by_cases h:x.1=k'<;>simp [h]
theorem PF (L:List (α×Value×Nat)) (k k':α) (v:Value):look (GF L k v) k'=if k'=k then (if Wl L k then some v else none) else look L k':=by
 induction L with
 | nil=>by_cases h:k'=k<;>simp [h,look,GF,Wl]
 | cons x L ih =>
  have e:GF (x::L) k v=(if x.1=k then (x.1,v,x.2.2) else x)::GF L k v:=rfl
  rw [e,QF,ih,QF]
  by_cases h:x.1=k
  · by_cases h':k'=k
    · subst h;subst h';simp [Wl]
    · simp only [h,if_true,h',if_false]
      by_cases h2:k=k'
      · exact absurd h2.symm h'
      · simp [h2]
  · by_cases h':k'=k
    · subst h';simp only [h,if_false,if_true,Wl,List.any_cons,decide_false,Bool.false_or];congr
    · simp [h,h']
theorem GO (L:List (α×Value×Nat)) (c:Nat) (k k':α) (v:Value):look (Ub L c k v) k'=if k'=k then some v else look L k':=by
 unfold Ub
 by_cases h:Wl L k=true
 · rw [if_pos h,PF,if_pos h]
 · rw [if_neg h,Ey]
   have hn:look L k=none:=by rw [LC] at h;simpa using h
   by_cases h':k'=k
   · subst h';simp [hn]
   · have:¬ k=k':=λ e=>h' e.symm
     simp [h',this]
structure Wg (P:Program) (kt:TypeId) (enc:α→Value):Prop where
 find:∃ d,P.underlying kt=some d∧∀ a b,Instr.sameNow d (enc a) (enc b)=some (decide (a=b))
 check:∀ e a w,(Instr.checkKey e 10000 kt (enc a)).run P w = .ok () w
 bits:∀ a,Instr.sameBits 10000 (enc a) (enc a)=true
theorem qi (a b:ByteArray):(a == b)=decide (a=b):=by
 rw [Bool.eq_iff_iff,decide_eq_true_iff]
 cases a with
 | mk x=>cases b with
  | mk y =>
   show (x == y)=true↔_
   rw [beq_iff_eq]
   simp
theorem Wg.string {P:Program} {kt:TypeId} (h:P.underlying kt=some .string):Wg P kt (λ s:ByteArray=>Value.string s):=by
 refine ⟨⟨_,h,λ a b=>?_⟩,λ e a w=>?_,λ a=>by simp [Instr.sameBits,qi]⟩
 · simp [Instr.sameNow,qi]
 · unfold Instr.checkKey
   simp only [Sem.run_bind,run_underlying h,Result.andThen_ok]
   rfl
theorem Wg.int {P:Program} {kt:TypeId} {kd:IntKind} (h:P.underlying kt=some (.int kd)):Wg P kt (λ s:Int=>Value.int kd s):=by
 refine ⟨⟨_,h,λ a b=>?_⟩,λ e a w=>?_,λ a=>by simp [Instr.sameBits]⟩
 · simp only [Instr.sameNow,if_true];congr 1
 · unfold Instr.checkKey
   simp only [Sem.run_bind,run_underlying h,Result.andThen_ok]
   rfl
theorem yQ {d:TypeDesc} {enc:α→Value} (hs:∀ a b,Instr.sameNow d (enc a) (enc b)=some (decide (a=b))) (k:α):∀ (L:List (α×Value×Nat)) (i:Nat),
 (∃ j x,L[j]?=some x∧x.1=k∧look L k=some x.2.1∧Wp L k=x.2.2∧Wl L k=true∧Instr.findNow d (enc k) (L.map (mkE enc)) i=some (some (i+j,x.2.1))) ∨
 (Wl L k=false∧look L k=none∧Instr.findNow d (enc k) (L.map (mkE enc)) i=some none)
 | [],i => .inr ⟨rfl,rfl,rfl⟩
 | x::L,i=>by
  by_cases h:x.1=k
  · refine .inl ⟨0,x,rfl,h,by rw [QF,if_pos h],by simp [Wp,h],by simp [Wl,h],?_⟩
    simp only [List.map_cons,Instr.findNow,mkE,hs,h,decide_true,Nat.add_zero]
  · have hne:¬ k=x.1:=λ e=>h e.symm
    rcases yQ hs k L (i+1) with ⟨j,y,h1,h2,h3,h4,h5,h6⟩ | ⟨h1,h2,h3⟩
    · refine .inl ⟨j+1,y,by simpa using h1,h2,by rw [QF,if_neg h];exact h3,by rw [← h4];simp [Wp,h],by unfold Wl at *;simp only [List.any_cons,h5,Bool.or_true],?_⟩
      simp only [List.map_cons,Instr.findNow,mkE,hs,hne,decide_false]
      rw [show i+(j+1)=i+1+j by omega]
      exact h6
    · refine .inr ⟨by unfold Wl at *;simp only [List.any_cons,h1,h,decide_false,Bool.or_self],by rw [QF,if_neg h];exact h2,?_⟩
      simp only [List.map_cons,Instr.findNow,mkE,hs,hne,decide_false]
      exact h3
variable {P:Program} {QP:List PanicEntry→World→Prop} {w:World} {k':Value→World→Prop} {ku:World→Prop} {enc:α→Value} {r:Nat} {L:List (α×Value×Nat)} {c:Nat}
theorem VX {kt:TypeId} (K:Wg P kt enc) (k:α) (L:List (α×Value×Nat)) :
 (∃ j x,L[j]?=some x∧x.1=k∧look L k=some x.2.1∧Wp L k=x.2.2∧Wl L k=true∧(Instr.findKey kt (enc k) (L.map (mkE enc))).run P w = .ok (some (j,x.2.1)) w) ∨
 (Wl L k=false∧look L k=none∧(Instr.findKey kt (enc k) (L.map (mkE enc))).run P w = .ok none w):=by
 obtain ⟨d,hd,hs⟩:=K.find
 rcases yQ hs k L 0 with ⟨j,x,h1,h2,h3,h4,h5,h6⟩ | ⟨h1,h2,h3⟩
 · refine .inl ⟨j,x,h1,h2,h3,h4,h5,?_⟩
   unfold Instr.findKey
   simp only [Sem.run_bind,run_underlying hd,Result.andThen_ok,h6,Nat.zero_add,Sem.run_pure]
 · refine .inr ⟨h1,h2,?_⟩
   unfold Instr.findKey
   simp only [Sem.run_bind,run_underlying hd,Result.andThen_ok,h3,Sem.run_pure]
theorem VI (h:Y1 w r enc L c):(getObj r).run P w = .ok (.map (L.map (mkE enc)).toArray c) w:=by simp [getObj,Sem.run,h.obj]
theorem A7 {mt kt et:TypeId} {agg:Bool} {n m:Nat} {z:Value} (hm:P.underlying mt=some (.map kt et)) (K:Wg P kt enc) (hz:ZJ P et agg n m z) (h:Y1 w r enc L c) (k:α) :
 opV P (Instr.lookup mt (.map (some r)) (enc k) true) QP w k'=k' (.tuple #[(look L k).getD z,.bool (look L k).isSome]) w:=by
 obtain ⟨⟨i,hi,_,_,hzz⟩,_⟩:=hz
 refine Z3 ?_
 unfold Instr.lookup
 simp only [Sem.run_bind,run_underlying hm,Result.andThen_ok,VI h,Sem.run_pure,K.check]
 rcases VX (P:=P) (w:=w) K k L with ⟨j,x,h1,h2,h3,h4,h5,h6⟩ | ⟨h1,h2,h3⟩
 · simp only [h6,Result.andThen_ok,h3,Sem.run_pure];rfl
 · simp only [h3,Result.andThen_ok,h2,Sem.run_pure,Sem.run_bind,zeroValue,typeInfo]
   simp [hi,hzz]
theorem Hm {mt kt et:TypeId} {agg:Bool} {n m:Nat} {z:Value} (hm:P.underlying mt=some (.map kt et)) (K:Wg P kt enc) (hz:ZJ P et agg n m z) (h:Y1 w r enc L c) (k:α) :
 opV P (Instr.lookup mt (.map (some r)) (enc k) false) QP w k'=k' ((look L k).getD z) w:=by
 obtain ⟨⟨i,hi,_,_,hzz⟩,_⟩:=hz
 refine Z3 ?_
 unfold Instr.lookup
 simp only [Sem.run_bind,run_underlying hm,Result.andThen_ok,VI h,Sem.run_pure,K.check]
 rcases VX (P:=P) (w:=w) K k L with ⟨j,x,h1,h2,h3,h4,h5,h6⟩ | ⟨h1,h2,h3⟩
 · simp only [h6,Result.andThen_ok,h3,Sem.run_pure];rfl
 · simp only [h3,Result.andThen_ok,h2,Sem.run_pure,Sem.run_bind,zeroValue,typeInfo]
   simp [hi,hzz]
theorem FA (t:TypeId):opV P (Instr.makeMap t none) QP w k'=k' (.map (some w.heap.size)) (w.alloc (.map #[] 0)):=Z3 rfl
def WC (enc:α→Value) (L:List (α×Value×Nat)) (c:Nat):Obj := .map (L.map (mkE enc)).toArray c
theorem Y1.put (h:Y1 w r enc L c) (k:α) (v:Value):Y1 (w.putObj r (WC enc (Ub L c k v) (Ul L c k))) r enc (Ub L c k v) (Ul L c k):=by
 refine ⟨World.putObj_heap_same (Array.getElem?_eq_some_iff.1 h.obj).1,?_,?_,?_⟩
 · intro x hx
   unfold Ub at hx
   unfold Ul
   by_cases hh:Wl L k=true
   · rw [if_pos hh] at hx ⊢
     unfold GF at hx
     obtain ⟨y,hy,rfl⟩:=List.mem_map.1 hx
     have:=h.lt y hy
     split<;>exact this
   · rw [if_neg hh] at hx ⊢
     rcases List.mem_append.1 hx with hx | hx
     · have:=h.lt x hx;omega
     · simp at hx;subst hx;simp
 · unfold Ub
   by_cases hh:Wl L k=true
   · rw [if_pos hh]
     unfold GF
     rw [List.pairwise_map]
     refine h.births.imp λ {a b} hab=>?_
     split<;>split<;>exact hab
   · rw [if_neg hh]
     refine List.pairwise_append.2 ⟨h.births,by simp,λ x hx y hy=>?_⟩
     simp at hy;subst hy
     have:=h.lt x hx
     simp;omega
 · unfold Ub
   by_cases hh:Wl L k=true
   · rw [if_pos hh]
     unfold GF
     rw [List.pairwise_map]
     refine h.keys.imp λ {a b} hab=>?_
     split<;>split<;>exact hab
   · rw [if_neg hh]
     refine List.pairwise_append.2 ⟨h.keys,by simp,λ x hx y hy=>?_⟩
     simp at hy;subst hy
     intro e
     apply hh
     unfold Wl
     rw [List.any_eq_true]
     exact ⟨x,hx,by simpa using e⟩
theorem Eh (hk:L.Pairwise (λ x y=>x.1≠y.1)) {k:α} {j:Nat} {x:α×Value×Nat} (hj:L[j]?=some x) (hx:x.1=k) {i:Nat} {y:α×Value×Nat} (hi:L[i]?=some y) (hy:y.1=k):i=j:=by
 rw [List.pairwise_iff_getElem] at hk
 obtain ⟨hj',rfl⟩:=List.getElem?_eq_some_iff.1 hj
 obtain ⟨hi',rfl⟩:=List.getElem?_eq_some_iff.1 hi
 rcases Nat.lt_trichotomy i j with h | h | h
 · exact absurd (hy.trans hx.symm) (hk i j hi' hj' h)
 · exact h
 · exact absurd (hx.trans hy.symm) (hk j i hj' hi' h)
theorem jO (h:Y1 w r enc L c) {k:α} {j:Nat} {x:α×Value×Nat} (hj:L[j]?=some x) (hx:x.1=k) (v:Value) :
 ((L.map (mkE enc)).toArray.modify j λ e=>{ e with key:=enc k,val:=v })=((GF L k v).map (mkE enc)).toArray:=by
 apply Array.ext_getElem?
 intro i
 simp only [Array.getElem?_modify,List.getElem?_toArray,List.getElem?_map,GF]
 by_cases hij:j=i
 · subst hij
   simp only [if_true,hj,Option.map_some,hx,mkE]
 · simp only [hij,if_false]
   cases hi:L[i]? with
   | none=>rfl
   | some y =>
    have:y.1≠k:=λ e=>hij (Eh h.keys hi e hj hx)
    simp only [Option.map_some,this,if_false]
theorem BA {kt:TypeId} (K:Wg P kt enc) (k:α):(Instr.keyThatStays (enc k) (enc k)).run P w = .ok (enc k) w:=by
 unfold Instr.keyThatStays
 rw [K.bits];rfl
theorem Uu {mt kt et:TypeId} (hm:P.underlying mt=some (.map kt et)) (K:Wg P kt enc) (h:Y1 w r enc L c) (k:α) (v:Value) :
 opU P (Instr.mapUpdate mt (.map (some r)) (enc k) v) QP w ku=ku (w.putObj r (WC enc (Ub L c k v) (Ul L c k))):=by
 refine qd (u:=()) ?_
 unfold Instr.mapUpdate
 simp only [Sem.run_bind,run_underlying hm,Result.andThen_ok,VI h,K.check]
 have hset:∀ o,(setObj r o).run P w = .ok () (w.putObj r o):=λ o=>by simp [setObj,Sem.run,h.obj,World.putObj]
 rcases VX (P:=P) (w:=w) K k L with ⟨j,x,h1,h2,h3,h4,h5,h6⟩ | ⟨h1,h2,h3⟩
 · have hke:(((L.map (mkE enc)).toArray[j]?.map (·.key)).getD (enc k))=enc k:=by simp [h1,mkE,h2]
   simp only [h6,Result.andThen_ok,Sem.run_bind,hke,BA K,hset]
   rw [jO h h1 h2]
   simp only [WC,Ub,Ul,h5,if_true]
 · simp only [h3,Result.andThen_ok,hset]
   have:(L.map (mkE enc)).toArray.push { key:=enc k,val:=v,born:=c }=((L++[(k,v,c)]).map (mkE enc)).toArray:=by simp [mkE]
   rw [this]
   simp only [WC,Ub,Ul,h1,Bool.false_eq_true,if_false]
theorem Dw {mt kt et:TypeId} {agg:Bool} {n m:Nat} {z:Value} (hm:P.underlying mt=some (.map kt et)) (K:Wg P kt enc) (hz:ZJ P et agg n m z) (h:Y1 w r enc L c) (k:α) :
 opV P (Instr.mapEntry mt (.map (some r)) (enc k)) QP w k'=k' (.tuple #[(look L k).getD z,goInt (Wp (JT L c k z) k)]) (w.putObj r (WC enc (JT L c k z) (Ul L c k))):=by
 obtain ⟨⟨i,hi,_,_,hzz⟩,_⟩:=hz
 refine Z3 ?_
 unfold Instr.mapEntry
 simp only [Sem.run_bind,run_underlying hm,Result.andThen_ok,VI h,K.check]
 have hset:∀ o,(setObj r o).run P w = .ok () (w.putObj r o):=λ o=>by simp [setObj,Sem.run,h.obj,World.putObj]
 rcases VX (P:=P) (w:=w) K k L with ⟨j,x,h1,h2,h3,h4,h5,h6⟩ | ⟨h1,h2,h3⟩
 · have hke:(((L.map (mkE enc)).toArray[j]?.map (·.key)).getD (enc k))=enc k:=by simp [h1,mkE,h2]
   have hbo:((Option.map (λ x:MapEntry=>(x.born:Int)) (L.map (mkE enc)).toArray[j]?).getD 0)=(x.2.2:Int):=by simp [h1,mkE]
   have hmo:((L.map (mkE enc)).toArray.modify j λ e=>{ e with key:=enc k })=(L.map (mkE enc)).toArray:=by
    apply Array.ext_getElem?
    intro i
    simp only [Array.getElem?_modify,List.getElem?_toArray,List.getElem?_map]
    by_cases hij:j=i
    · subst hij;simp [h1,mkE,h2]
    · simp [hij]
   simp only [h6,Result.andThen_ok,Sem.run_bind,hke,BA K,hset,hbo,hmo,Sem.run_pure]
   simp only [WC,JT,Ul,h5,if_true,h3,Option.getD_some,h4]
 · have hzr:(zeroValue et).run P w = .ok z w:=by simp [zeroValue,typeInfo,hi,hzz]
   have hn:(L.map (mkE enc)).toArray.push { key:=enc k,val:=z,born:=c }=((L++[(k,z,c)]).map (mkE enc)).toArray:=by simp [mkE]
   simp only [h3,Result.andThen_ok,hset,Sem.run_bind,hzr,Sem.run_pure,hn]
   have hb:Wp (L++[(k,z,c)]) k=c:=by
    unfold Wp
    have:L.find? (λ x=>decide (x.1=k))=none:=by
     rw [List.find?_eq_none]
     intro x hx e
     unfold Wl at h1
     rw [List.any_eq_false] at h1
     exact h1 x hx e
    simp [List.find?_append,this]
   simp only [WC,JT,Ul,h1,Bool.false_eq_true,if_false,h2,Option.getD_none,hb]
theorem Y1.ent (h:Y1 w r enc L c) (k:α) (z:Value):Y1 (w.putObj r (WC enc (JT L c k z) (Ul L c k))) r enc (JT L c k z) (Ul L c k):=by
 by_cases hh:Wl L k=true
 · have e1:JT L c k z=L:=if_pos hh
   have e2:Ul L c k=c:=if_pos hh
   rw [e1,e2]
   exact ⟨World.putObj_heap_same (Array.getElem?_eq_some_iff.1 h.obj).1,h.lt,h.births,h.keys⟩
 · have:=h.put k z
   have e1:JT L c k z=Ub L c k z:=by unfold JT Ub;rw [if_neg hh,if_neg hh]
   rw [e1];exact this
theorem H4 (k:α) (v z:Value):GF (JT L c k z) k v=Ub L c k v:=by
 unfold JT Ub
 by_cases hh:Wl L k=true
 · rw [if_pos hh,if_pos hh]
 · rw [if_neg hh,if_neg hh]
   unfold GF
   rw [List.map_append]
   congr 1
   · conv=>rhs;rw [← List.map_id L]
     apply List.map_congr_left
     intro x hx
     have:x.1≠k:=by
      intro e;apply hh;unfold Wl;rw [List.any_eq_true];exact ⟨x,hx,by simpa using e⟩
     simp [this]
   · simp
theorem De (k:α) (z:Value):Wl (JT L c k z) k=true:=by
 unfold JT
 by_cases hh:Wl L k=true
 · rw [if_pos hh];exact hh
 · rw [if_neg hh];simp [Wl]
theorem Jv {mt:TypeId} (h:Y1 w r enc L c) {k:α} (hk:Wl L k=true) (v:Value) :
 opU P (Instr.entryStore mt (.map (some r)) (goInt (Wp L k)) v) QP w ku=ku (w.putObj r (WC enc (GF L k v) c)):=by
 refine qd (u:=()) ?_
 unfold Instr.entryStore
 have hset:∀ o,(setObj r o).run P w = .ok () (w.putObj r o):=λ o=>by simp [setObj,Sem.run,h.obj,World.putObj]
 have hai:(asInt (goInt (Wp L k))).run P w = .ok ((Wp L k:Nat):Int) w:=rfl
 simp only [Sem.run_bind,VI h,Result.andThen_ok,hai]
 obtain ⟨x,hx⟩:∃ x,L.find? (λ x=>decide (x.1=k))=some x:=by
  unfold Wl at hk
  rw [List.any_eq_true] at hk
  obtain ⟨x,h1,h2⟩:=hk
  cases hf:L.find? (λ x=>decide (x.1=k)) with
  | some y=>exact ⟨y,rfl⟩
  | none=>rw [List.find?_eq_none] at hf;exact absurd h2 (hf x h1)
 have hxk:x.1=k:=by simpa using List.find?_some hx
 have hxm:=List.mem_of_find?_eq_some hx
 obtain ⟨j,hj⟩:=List.getElem?_of_mem hxm
 have hb:Wp L k=x.2.2:=by simp [Wp,hx]
 have hidx:(L.map (mkE enc)).toArray.findIdx? (λ e=>(e.born:Int) == ((Wp L k:Nat):Int))=some j:=by
  rw [Array.findIdx?_eq_some_iff_getElem]
  obtain ⟨hjl,hje⟩:=List.getElem?_eq_some_iff.1 hj
  refine ⟨by simpa using hjl,?_,?_⟩
  · simp [mkE,hje,hb]
  · intro i hi
    have hbi:=List.pairwise_iff_getElem.1 h.births i j (by omega) hjl hi
    simp only [List.getElem_toArray,List.getElem_map,mkE,hb,Bool.not_eq_true]
    rw [hje] at hbi
    rw [beq_eq_false_iff_ne];intro e;exact hbi (Int.ofNat.inj e)
 simp only [hidx,hset]
 have hm2:((L.map (mkE enc)).toArray.modify j λ e=>{ e with val:=v })=((GF L k v).map (mkE enc)).toArray:=by
  rw [← jO h hj hxk v]
  apply Array.ext_getElem?
  intro i
  simp only [Array.getElem?_modify,List.getElem?_toArray,List.getElem?_map]
  by_cases hij:j=i
  · subst hij;simp [hj,mkE,hxk]
  · simp [hij]
 rw [hm2];rfl
theorem Ju (o o':Obj):(w.putObj r o).putObj r o'=w.putObj r o':=by
 simp only [World.putObj,Array.setIfInBounds_setIfInBounds]
theorem Ext.putObj {a w:World} (h:Ext a w) {l:Nat} (hl:a.heap.size≤l) (o:Obj):Ext a (w.putObj l o) :=
 ⟨h.os,h.tape,h.output,by simpa using h.size,λ k hk=>(World.putObj_heap_other (by omega)).trans (h.block k hk)⟩
theorem U8 (h:Y1 w r enc L c) {L':List (α×Value×Nat)} {c':Nat} (a:Addr):(w.putObj r (WC enc L' c')).cell? a=w.cell? a:=by
 unfold World.cell?
 by_cases e:a.block=r
 · rw [e,World.putObj_heap_same (Array.getElem?_eq_some_iff.1 h.obj).1,h.obj];rfl
 · rw [World.putObj_heap_other e]
end
section
variable {P:Program} {QP:List PanicEntry→World→Prop} {w:World} {k':Value→World→Prop} {ku:World→Prop} {r:Nat} {c:Nat}
abbrev jb (w:World) (r:Nat) (L:List (ByteArray×Value×Nat)) (c:Nat):Prop:=Y1 w r (λ s:ByteArray=>Value.string s) L c
abbrev Jf (L:List (ByteArray×Value×Nat)) (c:Nat):Obj:=WC (λ s:ByteArray=>Value.string s) L c
variable {L:List (ByteArray×Value×Nat)} {mt kt et:TypeId} {agg:Bool} {n m:Nat} {z:Value}
theorem Hl (hm:P.underlying mt=some (.map kt et)) (hk:P.underlying kt=some .string) (hz:ZJ P et agg n m z) (h:jb w r L c) (k:ByteArray) :
 opV P (Instr.lookup mt (.map (some r)) (.string k) true) QP w k'=k' (.tuple #[(look L k).getD z,.bool (look L k).isSome]) w:=A7 hm (Wg.string hk) hz h k
theorem yy (hm:P.underlying mt=some (.map kt et)) (hk:P.underlying kt=some .string) (hz:ZJ P et agg n m z) (h:jb w r L c) (k:ByteArray) :
 opV P (Instr.lookup mt (.map (some r)) (.string k) false) QP w k'=k' ((look L k).getD z) w:=Hm hm (Wg.string hk) hz h k
theorem JB (hm:P.underlying mt=some (.map kt et)) (hk:P.underlying kt=some .string) (h:jb w r L c) (k:ByteArray) (v:Value) :
 opU P (Instr.mapUpdate mt (.map (some r)) (.string k) v) QP w ku=ku (w.putObj r (Jf (Ub L c k v) (Ul L c k))):=Uu hm (Wg.string hk) h k v
theorem zd (hm:P.underlying mt=some (.map kt et)) (hk:P.underlying kt=some .string) (hz:ZJ P et agg n m z) (h:jb w r L c) (k:ByteArray) :
 opV P (Instr.mapEntry mt (.map (some r)) (.string k)) QP w k'=k' (.tuple #[(look L k).getD z,goInt (Wp (JT L c k z) k)]) (w.putObj r (Jf (JT L c k z) (Ul L c k))):=Dw hm (Wg.string hk) hz h k
theorem jb.new (w:World):jb (w.alloc (.map #[] 0)) w.heap.size [] 0:=Y1.new w _
def Un (names:List ByteArray) (s:ByteArray):Bool:=names.any (λ u=>decide (u=s))
theorem D9 (a:List ByteArray) (k s:ByteArray):Un (a++[k]) s=(Un a s||decide (k=s)):=by simp [Un]
def UV (w:World) (r:Nat) (names:List ByteArray):Prop:=∃ L c,jb w r L c∧∀ s,look L s=if Un names s=true then some (Value.bool true) else none
theorem UV.ext {w w':World} {names:List ByteArray} (h:UV w r names) (e:Ext w w'):UV w' r names:=let ⟨L,c,h1,h2⟩:=h; ⟨L,c,h1.ext e,h2⟩
theorem UV.put {names:List ByteArray} (h:jb w r L c) (hl:∀ s,look L s=if Un names s=true then some (Value.bool true) else none) (k:ByteArray) :
 UV (w.putObj r (Jf (Ub L c k (.bool true)) (Ul L c k))) r (names++[k]):=by
 refine ⟨_,_,h.put k _,λ s=>?_⟩
 rw [GO,hl]
 rw [D9]
 by_cases hs:s=k
 · subst hs;simp
 · have hs':¬ k=s:=λ e=>hs e.symm
   simp [hs,hs']
def bld (ps:List (ByteArray×Value)):List (ByteArray×Value×Nat)×Nat:=ps.foldl (λ s p=>(Ub s.1 s.2 p.1 p.2,Ul s.1 s.2 p.1)) ([],0)
theorem Ut (ps:List (ByteArray×Value)) (p:ByteArray×Value):bld (ps++[p])=(Ub (bld ps).1 (bld ps).2 p.1 p.2,Ul (bld ps).1 (bld ps).2 p.1):=by simp [bld,List.foldl_append]
def Yh (ps:List (ByteArray×Value)) (s:ByteArray):Option Value:=(ps.reverse.find? (λ p=>decide (p.1=s))).map (·.2)
theorem Dr (ps:List (ByteArray×Value)) (p:ByteArray×Value) (s:ByteArray):Yh (ps++[p]) s=if p.1=s then some p.2 else Yh ps s:=by
 unfold Yh
 rw [List.reverse_append,List.reverse_singleton,List.singleton_append,List.find?_cons]
 by_cases h:p.1=s<;>simp [h]
theorem xp {α:Type} {motive:List α→Prop} (h0:motive []) (h1:∀ l a,motive l→motive (l++[a])) (l:List α):motive l:=by
 have:∀ l:List α,motive l.reverse:=by
  intro l
  induction l with
  | nil=>exact h0
  | cons a l ih=>rw [List.reverse_cons];exact h1 _ _ ih
 have h:=this l.reverse
 rwa [List.reverse_reverse] at h
theorem EN (ps:List (ByteArray×Value)) (s:ByteArray):look (bld ps).1 s=Yh ps s:=by
 revert s
 refine xp (motive:=λ ps=>∀ s,look (bld ps).1 s=Yh ps s) ?_ ?_ ps
 · intro s;rfl
 · intro l a ih s
   rw [Ut,Dr,GO,ih]
   by_cases h:a.1=s
   · subst h;simp
   · have h':¬ s=a.1:=λ e=>h e.symm
     simp [h,h']
def YG (w:World) (r:Nat) (ps:List (ByteArray×Value)):Prop:=jb w r (bld ps).1 (bld ps).2
theorem YG.ext {w w':World} {r:Nat} {ps:List (ByteArray×Value)} (h:YG w r ps) (e:Ext w w'):YG w' r ps:=Y1.ext h e
theorem YG.new (w:World):YG (w.alloc (.map #[] 0)) w.heap.size []:=jb.new w
theorem YG.setCell {w:World} {r:Nat} {ps:List (ByteArray×Value)} (h:YG w r ps) (a:Addr) (v:Value):YG (w.setCell a v) r ps:=Y1.setCell h a v
theorem YG.lt {w:World} {r:Nat} {ps:List (ByteArray×Value)} (h:YG w r ps):r < w.heap.size:=(Array.getElem?_eq_some_iff.1 h.obj).1
def putW (w:World) (r:Nat) (ps:List (ByteArray×Value)) (k:ByteArray) (v:Value):World:=w.putObj r (Jf (bld (ps++[(k,v)])).1 (bld (ps++[(k,v)])).2)
theorem YG.put {w:World} {r:Nat} {ps:List (ByteArray×Value)} (h:YG w r ps) (k:ByteArray) (v:Value):YG (putW w r ps k v) r (ps++[(k,v)]):=by
 unfold YG putW
 rw [Ut]
 exact Y1.put h k v
theorem FX {w:World} {ps:List (ByteArray×Value)} (hm:P.underlying mt=some (.map kt et)) (hk:P.underlying kt=some .string) (h:YG w r ps) (k:ByteArray) (v:Value) :
 opU P (Instr.mapUpdate mt (.map (some r)) (.string k) v) QP w ku=ku (putW w r ps k v):=by
 unfold putW
 rw [Ut]
 exact JB hm hk h k v
theorem Vn {w:World} {ps:List (ByteArray×Value)} (hm:P.underlying mt=some (.map kt et)) (hk:P.underlying kt=some .string) (hz:ZJ P et agg n m z) (h:YG w r ps) (k:ByteArray) :
 opV P (Instr.lookup mt (.map (some r)) (.string k) true) QP w k'=k' (.tuple #[(Yh ps k).getD z,.bool (Yh ps k).isSome]) w:=by
 rw [Hl hm hk hz h,EN]
theorem WZ {w:World} {ps:List (ByteArray×Value)} (hm:P.underlying mt=some (.map kt et)) (hk:P.underlying kt=some .string) (hz:ZJ P et agg n m z) (h:YG w r ps) (k:ByteArray) :
 opV P (Instr.lookup mt (.map (some r)) (.string k) false) QP w k'=k' ((Yh ps k).getD z) w:=by
 rw [yy hm hk hz h,EN]
theorem Ext.putW {a w:World} {ps:List (ByteArray×Value)} (h:Ext a w) (hr:a.heap.size≤r) (k:ByteArray) (v:Value):Ext a (putW w r ps k v):=h.putObj hr _
theorem putW_size {w:World} {ps:List (ByteArray×Value)} {k:ByteArray} {v:Value}:(putW w r ps k v).heap.size=w.heap.size:=World.putObj_size
end
end Go.Sw
namespace Go.Sw
open Go.RowKit (Below)
section
variable {P:Program} {QP:List PanicEntry→World→Prop} {w:World} {k:Value→World→Prop} {ku:World→Prop}
theorem zV {t:TypeId} (hu:P.underlying t=some .string) (s:ByteArray) (kd:IntKind) (i:Nat) {b:UInt8} (hb:s.data.toList[i]?=some b) :
 opV P (Instr.index t (.string s) (.int kd (i:Int))) QP w k=k (.int .u8 b.toNat) w:=by
 refine Z3 ?_
 have hs:s[i]?=some b:=by
  obtain ⟨h1,h2⟩:=List.getElem?_eq_some_iff.1 hb
  have h3:i < s.data.size:=by simpa using h1
  rw [getElem?_pos s i h3]
  exact congrArg some h2
 unfold Instr.index
 have hai:(asIntOf (.int kd (i:Int))).run P w = .ok (kd,(i:Int)) w:=rfl
 simp only [Sem.run_bind,hai,Result.andThen_ok,run_underlying hu]
 have:(if (0:Int)≤(i:Int) then s[(i:Int).toNat]? else none)=some b:=by rw [if_pos (by omega),Int.toNat_natCast];exact hs
 rw [this];rfl
theorem qt {t:TypeId} (hu:P.underlying t=some .string) (s:ByteArray) (kd:IntKind) {b:UInt8} (hb:s.data.toList[0]?=some b) :
 opV P (Instr.index t (.string s) (.int kd 0)) QP w k=k (.int .u8 b.toNat) w:=zV hu s kd 0 hb
theorem MQ (t:TypeId) (c:Bool) (x:Int) (yk:IntKind) (y:Int) (h0:0≤y) (h1:y≤64):opV P (ZM .shl t c (.int .i64 x) (.int yk y)) QP w k=k (.int .i64 (IntKind.i64.wrap (x*2 ^ y.toNat))) w:=Z3 (by
 simp [ZM,go_sem,h0,h1])
theorem JZ {t e:TypeId} {agg:Bool} {n m:Nat} {z:Value} (hu:P.underlying t=some (.slice e)) (ht:ZJ P e agg n m z) (b o len cap:Nat) (kd:IntKind) (h:Nat) (hh:h≤cap) :
 opV P (Instr.sliceAt t (.slice (some ⟨b,o,none⟩) len cap) none (some (.int kd (h:Int))) none) QP w k=k (.slice (some ⟨b,o,none⟩) h cap) w:=by
 refine Z3 ?_
 have h1:(h:Int)≤(cap:Int):=by omega
 have h2:(0:Int)≤(h:Int):=by omega
 simp [Instr.sliceAt,run_underlying hu,Instr.slice,Instr.sliceBounds,run_sliceBound,h1,h2,run_sizeOf ht,Addr.add_lit]
theorem Zad (t:TypeId) (c:Bool) (kd:IntKind) (a b:Int) (hb:b≠0):opV P (ZM .rem t c (.int kd a) (.int kd b)) QP w k=k (.int kd (a.tmod b)) w:=Z3 (by
 rw [Y9 _ _ _ _ _ _ rfl]
 show Sem.run P (Op.intDiv .rem kd a b) w=_
 unfold Op.intDiv
 rw [if_neg hb];rfl)
theorem Cg {t:TypeId} {a b:Value} {r:Bool} (h:(Op.equalIn (9999+1) t a b).run P w = .ok r w):(do pure (.bool (← Op.equal t a b)):Sem Value).run P w = .ok (.bool r) w:=by
 have h':(Op.equal t a b).run P w = .ok r w:=h
 rw [Sem.run_bind,h'];rfl
theorem Ch {t:TypeId} {a b:Value} {r:Bool} (h:(Op.equalIn (9999+1) t a b).run P w = .ok r w):(do pure (.bool (!(← Op.equal t a b))):Sem Value).run P w = .ok (.bool (!r)) w:=by
 have h':(Op.equal t a b).run P w = .ok r w:=h
 rw [Sem.run_bind,h'];rfl
theorem NM {t:TypeId} {d:TypeDesc} (hu:P.underlying t=some d) (hn:(match d with | .interface _=>false | _=>true)=true) (v:Value):opV P (Instr.makeInterface t v) QP w k=k (.iface t v) w:=by
 refine Z3 ?_
 unfold Instr.makeInterface
 simp only [Sem.run_bind,run_underlying hu,Result.andThen_ok]
 cases d<;>simp at hn<;>rfl
theorem BL {xt t:TypeId} {d:TypeDesc} (hu:P.underlying t=some d) (hn:(match d with | .interface _=>false | _=>true)=true) (v:Value):opV P (Instr.typeAssert (.iface t v) xt t true) QP w k=k (.tuple #[v,.bool true]) w:=by
 refine Z3 ?_
 unfold Instr.typeAssert
 simp only [Sem.run_bind,run_underlying hu,Result.andThen_ok]
 cases d<;>simp at hn<;>simp
theorem ML (t:TypeId) (v:Value):opV P (Instr.panic (.iface t v)) QP w k=QP [{ v := .iface t v,recovered:=false }] w:=Lb rfl
theorem P4 (d0:Nat) {t:TypeId} {m:Array (String×TypeId)} (hu:P.underlying t=some (.interface m)) (d:TypeId) (v:Value):(Op.equalIn (d0+1) t (.iface d v) .nilIface).run P w = .ok false w:=by simp [Op.equalIn,run_underlying hu]
theorem Rk (d0:Nat) {t:TypeId} {m:Array (String×TypeId)} (hu:P.underlying t=some (.interface m)):(Op.equalIn (d0+1) t .nilIface .nilIface).run P w = .ok true w:=by simp [Op.equalIn,run_underlying hu]
theorem PW (d0:Nat) {t:TypeId} {a b:Array TypeId} {vr:Bool} (hu:P.underlying t=some (.func a b vr)) (f:Fn) (x y:Array Value):(Op.equalIn (d0+1) t (.func f x y) .nilFunc).run P w = .ok false w:=by simp [Op.equalIn,run_underlying hu]
theorem P7 (d0:Nat) {t e:TypeId} (hu:P.underlying t=some (.slice e)) (A:Option Addr) (n m:Nat):(Op.equalIn (d0+1) t (.slice A n m) (.slice none 0 0)).run P w = .ok A.isNone w:=by cases A<;>simp [Op.equalIn,run_underlying hu]
theorem qw {t:TypeId} {m:Array (String×TypeId)} (hu:P.underlying t=some (.interface m)) (d:TypeId) (v:Value):opV P (ZM .neq t true (.iface d v) .nilIface) QP w k=k (.bool true) w :=
 Z3 (Ch (r:=false) (P4 9999 hu d v))
theorem qx {t:TypeId} {m:Array (String×TypeId)} (hu:P.underlying t=some (.interface m)):opV P (ZM .neq t true .nilIface .nilIface) QP w k=k (.bool false) w :=
 Z3 (Ch (r:=true) (Rk 9999 hu))
theorem LO {t:TypeId} {a b:Array TypeId} {vr:Bool} (hu:P.underlying t=some (.func a b vr)) (c:Bool) (f:Fn) (x y:Array Value):opV P (ZM .eql t c (.func f x y) .nilFunc) QP w k=k (.bool false) w :=
 Z3 (Cg (PW 9999 hu f x y))
theorem Ji {t e:TypeId} (hu:P.underlying t=some (.slice e)) (c:Bool) (A:Option Addr) (n m:Nat):opV P (ZM .eql t c (.slice A n m) (.slice none 0 0)) QP w k=k (.bool A.isNone) w :=
 Z3 (Cg (P7 9999 hu A n m))
theorem O4 {t:TypeId} {xs ys:Array Value} {r:Bool} (hm:P.eqGuardType P.depth t=false) (h:∀ w,(Op.equalIn (9999+1) t (.agg xs) (.agg ys)).run P w = .ok r w) (c:Bool):opV P (ZM .eql t c (.agg xs) (.agg ys)) QP w k=k (.bool r) w:=by
 refine Z3 ?_
 show Sem.run P (do (do if !(← program).eqGuardType (← program).depth t then pure () else if ← Op.eqGuardIn Op.maxDepth t (.agg xs) (.agg ys) then unsupported (.noEntry "binop/eql: two nil values of an interface type with methods, in a part of a struct or an array")); (do pure (.bool (← Op.equal t (.agg xs) (.agg ys)))):Sem Value) w=_
 simp only [Sem.run_bind,run_program,Result.andThen_ok,hm,Bool.not_false,if_true,Sem.run_pure]
 have h':=Cg (h w)
 simp only [Sem.run_bind,Sem.run_pure] at h'
 exact h'
theorem DW {t:TypeId} {xs ys:Array Value} {r:Bool} (hm:P.eqGuardType P.depth t=false) (h:∀ w,(Op.equalIn (9999+1) t (.agg xs) (.agg ys)).run P w = .ok r w) (c:Bool):opV P (ZM .neq t c (.agg xs) (.agg ys)) QP w k=k (.bool (!r)) w:=by
 refine Z3 ?_
 show Sem.run P (do (do if !(← program).eqGuardType (← program).depth t then pure () else if ← Op.eqGuardIn Op.maxDepth t (.agg xs) (.agg ys) then unsupported (.noEntry "binop/eql: two nil values of an interface type with methods, in a part of a struct or an array")); (do pure (.bool (!(← Op.equal t (.agg xs) (.agg ys))))):Sem Value) w=_
 simp only [Sem.run_bind,run_program,Result.andThen_ok,hm,Bool.not_false,if_true,Sem.run_pure]
 have h':=Ch (h w)
 simp only [Sem.run_bind,Sem.run_pure] at h'
 exact h'
theorem O1 {src dst e:TypeId} (hs:P.underlying src=some .string) (hd:P.underlying dst=some (.slice e)) (he:P.underlying e=some (.int .u8)) (s:ByteArray) (hlen:s.size≤9223372036854775807)
 (h:∀ v w',Ext w w'→(∃ A c,v = .slice A s.size c∧s.size≤c∧c≤9223372036854775807∧∃ b,A=some ⟨b,0,none⟩∧∀ j x,s.data.toList[j]?=some x→w'.cell? ⟨b,j,none⟩=some (.int .u8 (x.toNat:Int)))→k v w'):opV P (Go.convert src dst (.string s)) QP w k:=by
 have:=run_bytes_of_string (P:=P) w src dst e s hs hd he
 rw [Z3 this]
 refine h _ _ ((Ext.refl w).wdrew.alloc _) ⟨_,_,rfl,grownCap_ge _ _ _ _,?_,?_⟩
 · have:=grownCap_le_maxLen w s.size 0 e (by simp only [maxLen];omega)
   simp only [maxLen] at this;omega
 · refine ⟨_,rfl,λ j x hx=>?_⟩
   obtain ⟨h1,h2⟩:=List.getElem?_eq_some_iff.1 hx
   have h3:j < s.data.size:=by simpa using h1
   have h4:=bytesRow_at s (grownCap w s.size 0 e) j h3
   show World.cell? _ ⟨w.drew.heap.size,j,none⟩=_
   unfold World.cell?
   rw [World.alloc_heap_new]
   show (if (none:Option _).isSome then none else (bytesRow s (grownCap w s.size 0 e))[j]?)=_
   rw [h4,← h2]
   rfl
theorem ZH (cs:Array Value):(Value.agg cs).cells=cs:=rfl
theorem Vy {d:Nat} {t:TypeId} {fs:Array Field} {xs ys:Array Value} {r:Bool} (hu:P.underlying t=some (.struct fs)) (hs:P.stoodInHeld t=false) (h:(Op.eqFields d xs ys fs.toList).run P w = .ok r w) :
 (Op.equalIn (d+1) t (.agg xs) (.agg ys)).run P w = .ok r w:=by
 have hf:P.fieldsOf t=fs:=by simp [Program.fieldsOf,hu]
 rw [run_equalIn_agg w d t xs ys (by rw [hf];exact hu) hs,hf]
 exact h
theorem Ux {d:Nat} {xs ys:Array Value}:(Op.eqFields d xs ys []).run P w = .ok true w:=rfl
theorem Yd {d:Nat} {xs ys:Array Value} {f:Field} {fs:List Field} {x y:Value} {b r:Bool} (hn:(f.name == "_")=false) (hx:(part f.type xs f.offset).run P w = .ok x w) (hy:(part f.type ys f.offset).run P w = .ok y w)
 (he:(Op.equalIn d f.type x y).run P w = .ok b w) (hr:(Op.eqFields d xs ys fs).run P w = .ok r w):(Op.eqFields d xs ys (f::fs)).run P w = .ok (b&&r) w:=by
 have hn':f.name ≠ "_" := by simpa using hn
 simp only [Op.eqFields]
 rw [if_pos hn']
 simp only [Sem.run_bind,hx,hy,he,Result.andThen_ok]
 cases b with
 | true=>simpa using hr
 | false=>rfl
theorem YR {T:TypeId} {n m:Nat} {z v:Value} {cs:Array Value} {off:Nat} (h:ZJ P T false n m z) (hc:cs[off]?=some v):(part T cs off).run P w = .ok v w:=by
 unfold part
 rw [Sem.run_bind,zQ h]
 simp [hc]
theorem Hb {s:TypeId} {fs:Array Field} {i off ft:Nat} {n m:Nat} {z v:Value} {cs:Array Value} {k:Value→World→Prop} (hu:P.underlying s=some (.struct fs)) (hf:(fs[i]?).map (λ f=>(f.type,f.offset))=some (ft,off)) (ht:ZJ P ft false n m z) (hc:cs[off]?=some v) :
 opV P (Instr.field s (.agg cs) i) QP w k=k v w:=by
 obtain ⟨f,h1,h2⟩:=Option.map_eq_some_iff.1 hf
 simp only [Prod.mk.injEq] at h2
 obtain ⟨rfl,rfl⟩:=h2
 refine Z3 ?_
 have ha:(asAgg (.agg cs)).run P w = .ok cs w:=rfl
 simp [Instr.field,run_underlying hu,h1,ha,YR (w:=w) ht hc]
theorem Jy {d:Nat} {t:TypeId} {q:IntKind} (hu:P.underlying t=some (.int q)) {kd:IntKind} {a b:Int}:(Op.equalIn (d+1) t (.int kd a) (.int kd b)).run P w = .ok (decide (a=b)) w:=by
 rw [run_equalIn_int w d t kd q a b hu];congr 1
theorem N4 {d:Nat} {t:TypeId} (hu:P.underlying t=some .bool) {a b:Bool}:(Op.equalIn (d+1) t (.bool a) (.bool b)).run P w = .ok (decide (a=b)) w:=by
 rw [run_equalIn_bool w d t a b hu];congr 1
theorem Up {d:Nat} {t:TypeId} (hu:P.underlying t=some .string) {a b:ByteArray}:(Op.equalIn (d+1) t (.string a) (.string b)).run P w = .ok (decide (a=b)) w:=by
 rw [run_equalIn_string w d t a b hu,qP]
theorem Zp {v:Value} (h:v.oneCell'=true):v.cells = #[v]:=by cases v<;>first | rfl | simp [Value.oneCell'] at h
theorem Yo {T:TypeId} {fs:Array Field} {n m:Nat} {z cs:Array Value} {parts:Array (Nat×Value)} {places:Array (Nat×Nat)} (hu:P.underlying T=some (.struct fs)) (hz:ZJ P T true n m (.agg z))
 (hp:∀ w:World,(fs.mapM (m:=Sem) (λ f=>do pure (f.offset,← sizeOf f.type))).run P w = .ok places w) (hf:Instr.fill (places[·]?) z parts.toList=some cs):opV P (Instr.build T parts) QP w k=k (.agg cs) w:=by
 obtain ⟨⟨i,hi,_,_,hzz⟩,_⟩:=hz
 refine Z3 ?_
 unfold Instr.build
 have hz0:(zeroValue T).run P w = .ok (.agg z) w:=by simp [zeroValue,typeInfo,hi,hzz]
 simp only [Sem.run_bind,hz0,Result.andThen_ok,run_underlying hu,hp]
 have:(Value.agg z).cells=z:=rfl
 rw [this,hf]
 rfl
theorem ZY {T e:TypeId} {agg:Bool} {n m:Nat} {z:Value} {len:Nat} {cs:Array Value} {parts:Array (Nat×Value)} (hu:P.underlying T=some (.slice e)) (hz:ZJ P e agg n m z) (hl:len*n≤16777216)
 {base:Array Value} (hb:(Array.range (len*n)).map ((if len*n=0 then #[] else z.cells)[· % (if len*n=0 then #[] else z.cells).size]!)=base) (hf:Instr.fill (λ i=>some (i*n,n)) base parts.toList=some cs) :
 opV P (Instr.buildSlice T len parts) QP w k=k (.slice (some ⟨w.heap.size,0,none⟩) len len) (w.alloc (.cells cs e)):=by
 subst hb
 have hsz:=run_sizeOf (w:=w) hz
 obtain ⟨⟨i,hi,_,_,hzz⟩,_⟩:=hz
 refine Z3 ?_
 unfold Instr.buildSlice
 have hl':¬ (2 ^ 24 < len*n):=by omega
 simp only [Sem.run_bind,run_underlying hu,hsz,Result.andThen_ok,gt_iff_lt,hl',if_false]
 have hz0:(zeroValue e).run P w = .ok z w:=by simp [zeroValue,typeInfo,hi,hzz]
 by_cases h0:len*n=0
 · rw [if_pos h0] at hf
   rw [if_pos h0]
   simp only [Sem.run_bind,Sem.run_pure,Result.andThen_ok]
   rw [hf]
   simp [newRow]
 · rw [if_neg h0] at hf
   rw [if_neg h0]
   simp only [Sem.run_bind,hz0,Sem.run_pure,Result.andThen_ok]
   rw [hf]
   simp [newRow]
def EC (w:World):World→Prop:=λ w'=>Ext w w'
class YV (C:World→Prop):Prop where
 ne:∃ w,C w
instance (w:World):YV (EC w):=⟨⟨w,Ext.refl w⟩⟩
def KB (w:World) (b1 b2:Nat):World→Prop:=λ w'=>∀ b,b < w.heap.size→b≠b1→b≠b2→w'.heap[b]?=w.heap[b]?
instance (w:World) (b1 b2:Nat):YV (KB w b1 b2):=⟨⟨w,λ _ _ _ _=>rfl⟩⟩
theorem KB.cell {w w':World} {b1 b2 b o:Nat} {v:Value} (h:KB w b1 b2 w') (h1:b≠b1) (h2:b≠b2) (hc:w.cell? ⟨b,o,none⟩=some v):w'.cell? ⟨b,o,none⟩=some v :=
 (World.cell?_of_block (h b (World.block_lt_of_cell? w _ hc) h1 h2)).trans hc
theorem XX {s:Sem Value} {v:Value} (h:∀ (QP:List PanicEntry→World→Prop) (k:Value→World→Prop),opV P s QP w k=k v w):s.run P w = .ok v w:=by
 have h1:=h (λ _ _=>False) (λ u x=>u=v∧x=w)
 simp only [and_self] at h1
 have h2:opV P s (λ _ _=>False) w (λ u x=>u=v∧x=w):=by rw [h1];trivial
 unfold opV at h2
 split at h2
 · rename_i a b he;obtain ⟨rfl,rfl⟩:=h2;exact he
 · exact h2.elim
 · exact h2.elim
theorem Sf {s:Sem Value} {v:Value} {k:Value→Prop} (h:∀ w',Ext w w'→s.run P w' = .ok v w'):qV P (EC w) s k=k v:=by
 apply propext
 constructor
 · rintro ⟨v',h1,h2⟩
   have a:=h1 w (Ext.refl w)
   rw [h w (Ext.refl w)] at a
   injection a with a _
   rw [a];exact h2
 · exact λ hk=>⟨v,h,hk⟩
theorem UI {C:World→Prop} [hne:YV C] {s:Sem Value} {v:Value} {k:Value→Prop} (h:∀ w',C w'→s.run P w' = .ok v w'):qV P C s k=k v:=by
 apply propext
 obtain ⟨w0,hw0⟩:=hne.ne
 constructor
 · rintro ⟨v',h1,h2⟩
   have a:=h1 w0 hw0
   rw [h w0 hw0] at a
   injection a with a _
   rw [a];exact h2
 · exact λ hk=>⟨v,h,hk⟩
theorem YN {C:World→Prop} [YV C] {s:Sem Value} {v:Value} {k:Value→Prop} (h:∀ (QP:List PanicEntry→World→Prop) (w':World) (k:Value→World→Prop),opV P s QP w' k=k v w'):qV P C s k=k v:=UI λ w' _=>XX λ QP k=>h QP w' k
theorem TU {C:World→Prop} [hne:YV C] {s:Sem Next} {v:Value} {k:Value→Prop} (h:∀ w',C w'→s.run P w' = .ok (.value v) w'):qN P C s k=k v:=by
 apply propext
 obtain ⟨w0,hw0⟩:=hne.ne
 constructor
 · rintro ⟨v',h1,h2⟩
   have a:=h1 w0 hw0
   rw [h w0 hw0] at a
   injection a with a _
   injection a with a
   rw [a];exact h2
 · exact λ hk=>⟨v,h,hk⟩
theorem Zaj {C:World→Prop} [YV C] {k:Value→Prop} (a:Addr):qN P C (YM (.pointer (some a))) k=k (.pointer (some a)):=TU λ w' _=>by simp [YM,execOp]
def qVx (P:Program) (C:World→Prop) (s:Sem Value) (k:Value→Prop):Prop:=qV P C s k
theorem Qy {T:TypeId} {n m:Nat} {z:Value} {k:Value→Prop} (h:ZJ P T false n m z) (b o:Nat):qV P (EC w) (Instr.loadAt T (.pointer (some ⟨b,o,none⟩))) k=UH (w.cell? ⟨b,o,none⟩) k (qVx P (EC w) (Instr.loadAt T (.pointer (some ⟨b,o,none⟩))) k):=by
 cases hc:w.cell? ⟨b,o,none⟩ with
 | some v =>
  rw [V6]
  refine Sf λ w' e=>?_
  have:=XX (P:=P) (w:=w') (s:=Instr.loadAt T (.pointer (some ⟨b,o,none⟩))) (v:=v) (λ QP k=>jB h (e.cell hc))
  exact this
 | none=>rfl
theorem WG {T:TypeId} {n m:Nat} {z:Value} {k:Value→Prop} (h:ZJ P T false n m z) (b1 b2 b o:Nat) (h1:b≠b1) (h2:b≠b2):qV P (KB w b1 b2) (Instr.loadAt T (.pointer (some ⟨b,o,none⟩))) k=UH (w.cell? ⟨b,o,none⟩) k (qVx P (KB w b1 b2) (Instr.loadAt T (.pointer (some ⟨b,o,none⟩))) k):=by
 cases hc:w.cell? ⟨b,o,none⟩ with
 | some v =>
  rw [V6]
  exact UI λ w' e=>XX (P:=P) (w:=w') (s:=Instr.loadAt T (.pointer (some ⟨b,o,none⟩))) (v:=v) (λ QP k=>jB h (e.cell h1 h2 hc))
 | none=>rfl
theorem PU {T:TypeId} {a:Addr} {v:Value} {k:Value→Prop} (h:∀ w',Ext w w'→Wk P w' T a v):qV P (EC w) (Instr.loadAt T (.pointer (some a))) k=k v :=
 Sf λ w' e=>XX λ QP k=>V1 (h w' e)
def Yf:List (Option Value)→(List Value→Prop)→Prop→Prop
 | [],k,_=>k []
 | some v::l,k,d=>Yf l (λ vs=>k (v::vs)) d
 | none::_,_,d=>d
theorem DJ (k:List Value→Prop) (d:Prop):Yf [] k d=k []:=rfl
theorem B2 (v:Value) (l:List (Option Value)) (k:List Value→Prop) (d:Prop):Yf (some v::l) k d=Yf l (λ vs=>k (v::vs)) d:=rfl
theorem WU:∀ (vs:List Value) (k:List Value→Prop) (d:Prop),Yf (vs.map some) k d=k vs
 | [],_,_=>rfl
 | v::vs,k,d=>WU vs (λ l=>k (v::l)) d
theorem WS (l:List (Option Value)):(∃ vs:List Value,l=vs.map some)∨∀ k d,Yf l k d=d:=by
 induction l with
 | nil=>exact .inl ⟨[],rfl⟩
 | cons a l ih =>
  cases a with
  | none=>exact .inr λ k d=>rfl
  | some v =>
   rcases ih with ⟨vs,rfl⟩ | h
   · exact .inl ⟨v::vs,rfl⟩
   · exact .inr λ k d=>h _ d
@[congr] theorem PM {l l':List (Option Value)} {k:List Value→Prop} {p:Prop} {d:Nat} (h:l=l') (hd:Xd=d):Yf l k p=Yf l' k p:=by rw [h]
theorem KS {T:TypeId} {n m:Nat} {z:Value} (h:ZJ P T true n m z) (b o:Nat) {vs:List Value} (hc:(List.range n).map (λ j=>w.cell? ⟨b,o+j,none⟩)=vs.map some):Wk P w T ⟨b,o,none⟩ (.agg vs.toArray):=by
 have hl:vs.length=n:=by have:=congrArg List.length hc;simpa using this.symm
 refine Wk.many h hl λ j v hv=>?_
 have hj:j < n:=by have:=(List.getElem?_eq_some_iff.1 hv).1;omega
 have:=congrArg (λ l=>l[j]?) hc
 simp only [List.getElem?_map,List.getElem?_range hj,hv,Option.map_some] at this
 rw [Addr.add_lit]
 exact Option.some.inj this
theorem Wu {T:TypeId} {n m:Nat} {z:Value} {k:Value→World→Prop} (h:ZJ P T true n m z) (b o:Nat) (l:List (Option Value)) (hl:l=(List.range n).map (λ j=>w.cell? ⟨b,o+j,none⟩)) :
 opV P (Instr.loadAt T (.pointer (some ⟨b,o,none⟩))) QP w k=Yf l (λ vs=>k (.agg vs.toArray) w) (zL P (Instr.loadAt T (.pointer (some ⟨b,o,none⟩))) QP w k):=by
 rcases WS l with ⟨vs,hv⟩ | hd
 · rw [hv,WU]
   exact V1 (KS h b o (by rw [← hl,hv]))
 · rw [hd];rfl
theorem Uj {T:TypeId} {n m:Nat} {z:Value} {k:Value→Prop} (h:ZJ P T true n m z) (b o:Nat) (l:List (Option Value)) (hl:l=(List.range n).map (λ j=>w.cell? ⟨b,o+j,none⟩)) :
 qV P (EC w) (Instr.loadAt T (.pointer (some ⟨b,o,none⟩))) k=Yf l (λ vs=>k (.agg vs.toArray)) (qVx P (EC w) (Instr.loadAt T (.pointer (some ⟨b,o,none⟩))) k):=by
 rcases WS l with ⟨vs,hv⟩ | hd
 · rw [hv,WU]
   refine PU λ w' e=>KS h b o ?_
   rw [← hv,hl]
   have hm:∀ j,j∈List.range n→∃ v,w.cell? ⟨b,o+j,none⟩=some v:=by
    intro j hj
    have:w.cell? ⟨b,o+j,none⟩∈l:=by rw [hl];exact List.mem_map_of_mem hj
    rw [hv] at this
    obtain ⟨v,_,hv⟩:=List.mem_map.1 this
    exact ⟨v,hv.symm⟩
   apply List.map_congr_left
   intro j hj
   obtain ⟨v,hv⟩:=hm j hj
   rw [hv];exact e.cell hv
 · rw [hd];rfl
def qWx (P:Program) (t:TypeId) (a:Value) (w:World) (k:Value→Prop):Prop:=qW P t a w k
theorem Iu {T:TypeId} {a:Addr} {v:Value} {k:Value→Prop} (h:Wk P w T a v):qW P T (.pointer (some a)) w k=k v:=by
 have hr:(do loadVar T (← asAddr (.pointer (some a))):Sem Value).run P w = .ok v w:=h
 unfold qW
 rw [hr]
 apply propext
 constructor
 · rintro ⟨v',h1,h2⟩;injection h1 with h1 _;rw [h1];exact h2
 · exact λ hk=>⟨v,rfl,hk⟩
theorem Ev {T:TypeId} {n m:Nat} {z:Value} {k:Value→Prop} (h:ZJ P T false n m z) (b o:Nat):qW P T (.pointer (some ⟨b,o,none⟩)) w k=UH (w.cell? ⟨b,o,none⟩) k (qWx P T (.pointer (some ⟨b,o,none⟩)) w k):=by
 cases hc:w.cell? ⟨b,o,none⟩ with
 | some v=>exact Iu (Wk.one h hc)
 | none=>rfl
theorem zg {T:TypeId} {n m:Nat} {z:Value} {k:Value→Prop} (h:ZJ P T true n m z) (b o:Nat) (l:List (Option Value)) (hl:l=(List.range n).map (λ j=>w.cell? ⟨b,o+j,none⟩)) :
 qW P T (.pointer (some ⟨b,o,none⟩)) w k=Yf l (λ vs=>k (.agg vs.toArray)) (qWx P T (.pointer (some ⟨b,o,none⟩)) w k):=by
 rcases WS l with ⟨vs,hv⟩ | hd
 · rw [hv,WU]
   exact Iu (KS h b o (by rw [← hl,hv]))
 · rw [hd];rfl
@[congr] theorem ZbY {T:TypeId} {a a':Value} {w':World} {k:Value→Prop} {d:Nat} (h:a=a') (hw:w=w') (hd:Xd=d):qW P T a w k=qW P T a' w' k:=by rw [h,hw]
def Qn:List Bool→Prop→Prop→Prop
 | [],p,_=>p
 | false::l,p,d=>Qn l p d
 | true::_,_,d=>d
theorem Fv (p d:Prop):Qn [] p d=p:=rfl
theorem Cm (l:List Bool) (p d:Prop):Qn (false::l) p d=Qn l p d:=rfl
theorem B3 (l:List Bool):(∀ b∈l,b=false)∧(∀ p d,Qn l p d=p)∨∀ p d,Qn l p d=d:=by
 induction l with
 | nil=>exact .inl ⟨by simp,λ _ _=>rfl⟩
 | cons a l ih =>
  cases a with
  | true=>exact .inr λ _ _=>rfl
  | false =>
   rcases ih with ⟨h1,h2⟩ | h
   · exact .inl ⟨by simpa using h1,h2⟩
   · exact .inr h
@[congr] theorem Ro {l l':List Bool} {p q:Prop} {d:Nat} (h:l=l') (hd:Xd=d):Qn l p q=Qn l' p q:=by rw [h]
@[congr] theorem ZaG {s:Sem Value} {C:World→Prop} {k:Value→Prop} {d:Nat} (hd:Xd=d):qVx P C s k=qVx P C s k:=rfl
@[congr] theorem ZaJ {T:TypeId} {a:Value} {k:Value→Prop} {d:Nat} (hd:Xd=d):qWx P T a w k=qWx P T a w k:=rfl
def GH (w:World) (b o:Nat):List Value→World
 | []=>w
 | v::vs=>GH (w.setCell ⟨b,o,none⟩ v) b (o+1) vs
theorem UZ (b o:Nat):∀ (vs:List Value) (i:Nat) (w:World),(∀ j,j < vs.length→∃ u,w.cell? ⟨b,o+(i+j),none⟩=some u)→(∀ j,j < vs.length→w.frozen? ⟨b,o+(i+j),none⟩=false)→(∀ v∈vs,v.oneCell'=true) →
 (storeCells ⟨b,o,none⟩ vs i).run P w = .ok () (GH w b (o+i) vs)
 | [],_,_,_,_,_=>rfl
 | v::vs,i,w,hc,hf,hv=>by
  obtain ⟨u,hu⟩:=hc 0 (by simp)
  have hf':w.frozen? ⟨b,o+i,none⟩=false:=hf 0 (by simp)
  simp only [Nat.add_zero] at hu
  simp only [storeCells,Sem.run_bind,Addr.add_lit,run_store P _ _ v .plain (hv v (List.mem_cons_self ..)),hu,hf',Nat.add_zero,Bool.false_eq_true,if_false,Result.andThen_ok]
  have hs:∀ j,j < vs.length→∃ u,(w.setCell ⟨b,o+i,none⟩ v).cell? ⟨b,o+(i+1+j),none⟩=some u:=by
   intro j hj
   obtain ⟨u,hu⟩:=hc (j+1) (by simp;omega)
   refine ⟨u,?_⟩
   rw [XV (by omega)]
   rw [← hu];congr 2;omega
  have:=UZ b o vs (i+1) (w.setCell ⟨b,o+i,none⟩ v) hs (λ j hj=>by rw [Gi];have:=hf (j+1) (by simp;omega);rw [← this];congr 2;omega) (λ u hu=>hv u (List.mem_cons_of_mem _ hu))
  simpa [hf',hu,GH,Nat.add_assoc] using this
theorem QI {T:TypeId} {n m:Nat} {z:Value} {ku:World→Prop} (h:ZJ P T true n m z) (b o:Nat) (vs:List Value) (hn:vs.length=n) (hv:∀ v∈vs,v.oneCell'=true) (l:List (Option Value)) (hl:l=(List.range n).map (λ j=>w.cell? ⟨b,o+j,none⟩))
 (lf:List Bool) (hlf:lf=(List.range n).map (λ j=>w.frozen? ⟨b,o+j,none⟩)) :
 opU P (Instr.storeAt T (.pointer (some ⟨b,o,none⟩)) (.agg vs.toArray)) QP w ku=Yf l (λ _=>Qn lf (ku (GH w b o vs)) (Vh P (Instr.storeAt T (.pointer (some ⟨b,o,none⟩)) (.agg vs.toArray)) QP w ku)) (Vh P (Instr.storeAt T (.pointer (some ⟨b,o,none⟩)) (.agg vs.toArray)) QP w ku):=by
 rcases WS l with ⟨us,hu⟩ | hd
 · rw [hu,WU]
   rcases B3 lf with ⟨h1,h2⟩ | h2
   · rw [h2]
     refine qd (u:=()) ?_
     have hc:∀ j,j < vs.length→∃ u,w.cell? ⟨b,o+(0+j),none⟩=some u:=by
      intro j hj
      have:w.cell? ⟨b,o+j,none⟩∈l:=by rw [hl];exact List.mem_map_of_mem (List.mem_range.2 (by omega))
      rw [hu] at this
      obtain ⟨v,_,hv⟩:=List.mem_map.1 this
      exact ⟨v,by rw [Nat.zero_add,hv]⟩
     have hf:∀ j,j < vs.length→w.frozen? ⟨b,o+(0+j),none⟩=false:=by
      intro j hj
      refine h1 _ ?_
      rw [hlf,Nat.zero_add]
      exact List.mem_map_of_mem (f:=λ j=>w.frozen? ⟨b,o+j,none⟩) (List.mem_range.2 (by omega))
     have:=UZ (P:=P) b o vs 0 w hc hf hv
     simp [Instr.storeAt,Instr.sureAddr,storeVar,run_sizeOf h,ZH,hn,this]
   · rw [h2];rfl
 · rw [hd];rfl
theorem AN {T:TypeId} {n m:Nat} {z:Value} {ku:World→Prop} (h:ZJ P T true n m z) (b:Nat) (hb:b=w.heap.size) (o:Array Value) (T':TypeId) (vs:List Value) (ho:o.size=n) (hn:vs.length=n) (hv:∀ v∈vs,v.oneCell'=true) :
 opU P (Instr.storeAt T (.pointer (some ⟨b,0,none⟩)) (.agg vs.toArray)) QP (w.alloc (.cells o T')) ku=ku (w.alloc (.cells vs.toArray T')):=by
 subst hb
 refine qd (u:=()) ?_
 obtain ⟨o',h1,h2,h3⟩:=Kr (P:=P) (w:=w) T' vs 0 o (by simp;omega) hv
 have he:o'=vs.toArray:=by
  apply Array.ext_getElem?
  intro j
  rw [h3 j]
  by_cases hj:j < vs.length
  · rw [if_pos (by omega)];simp
  · rw [if_neg (by omega)]
    rw [Array.getElem?_eq_none (by omega),Array.getElem?_eq_none (by simp;omega)]
 subst he
 simp [Instr.storeAt,Instr.sureAddr,storeVar,run_sizeOf h,ZH,hn,h1]
theorem GENQ {C:World→Prop} [YV C] {k:Value→Prop}:(∀ t c kd a b,qV P C (ZM .add t c (.int kd a) (.int kd b)) k=k (.int kd (kd.wrap (a+b)))) ∧
 (∀ t c kd a b,qV P C (ZM .sub t c (.int kd a) (.int kd b)) k=k (.int kd (kd.wrap (a - b)))) ∧
 (∀ t c kd a b,qV P C (ZM .mul t c (.int kd a) (.int kd b)) k=k (.int kd (kd.wrap (a*b)))) ∧
 (∀ t c kd a b,qV P C (ZM .eql t c (.int kd a) (.int kd b)) k=k (.bool (a == b))) ∧
 (∀ t c kd a b,qV P C (ZM .neq t c (.int kd a) (.int kd b)) k=k (.bool (a != b))) ∧
 (∀ t c kd a b,qV P C (ZM .lss t c (.int kd a) (.int kd b)) k=k (.bool (decide (a < b)))) ∧
 (∀ t c kd a b,qV P C (ZM .leq t c (.int kd a) (.int kd b)) k=k (.bool (decide (a≤b)))) ∧
 (∀ t c kd a b,qV P C (ZM .gtr t c (.int kd a) (.int kd b)) k=k (.bool (decide (b < a)))) ∧
 (∀ t c kd a b,qV P C (ZM .geq t c (.int kd a) (.int kd b)) k=k (.bool (decide (b≤a)))) ∧
 (∀ t c a b,qV P C (ZM .eql t c (.string a) (.string b)) k=k (.bool (decide (a=b)))) ∧
 (∀ t c a b,qV P C (ZM .neq t c (.string a) (.string b)) k=k (.bool (!decide (a=b)))) ∧
 (∀ b,qV P C (Op.unary .not (.bool b)) k=k (.bool !b)) ∧
 (∀ ts t kd a b,qV P C (Builtin.max_ ts t #[.int kd a,.int kd b]) k=k (.int kd (if b > a then b else a))) ∧
 (∀ ts t kd a b,qV P C (Builtin.min_ ts t #[.int kd a,.int kd b]) k=k (.int kd (if b < a then b else a))) ∧
 (∀ a b,qV P C (Instr.extract (.tuple #[a,b]) 0) k=k a)∧(∀ a b,qV P C (Instr.extract (.tuple #[a,b]) 1) k=k b) ∧
 (∀ a b c,qV P C (Instr.extract (.tuple #[a,b,c]) 0) k=k a)∧(∀ a b c,qV P C (Instr.extract (.tuple #[a,b,c]) 1) k=k b)∧(∀ a b c,qV P C (Instr.extract (.tuple #[a,b,c]) 2) k=k c) ∧
 (∀ fn a b,qV P C (Instr.makeFunc fn a b) k=k (.func fn a b)) ∧
 (∀ a,qN P C (YM (.pointer (some a))) k=k (.pointer (some a))) :=
 ⟨λ t c kd a b=>YN λ _ _ _=>MR t c kd a b,λ t c kd a b=>YN λ _ _ _=>Pj t c kd a b,λ t c kd a b=>YN λ _ _ _=>Pk t c kd a b,λ t c kd a b=>YN λ _ _ _=>Og t c kd a b,λ t c kd a b=>YN λ _ _ _=>Nr t c kd a b,
  λ t c kd a b=>YN λ _ _ _=>Ov t c kd a b,λ t c kd a b=>YN λ _ _ _=>Ok t c kd a b,λ t c kd a b=>YN λ _ _ _=>OX t c kd a b,λ t c kd a b=>YN λ _ _ _=>OS t c kd a b,
  λ t c a b=>YN λ _ _ _=>Iz t c a b,λ t c a b=>YN λ _ _ _=>IJ t c a b,λ b=>YN λ _ _ _=>M6 b,λ ts t kd a b=>YN λ _ _ _=>NU ts t kd a b,λ ts t kd a b=>YN λ _ _ _=>OK ts t kd a b,
  λ a b=>YN λ _ _ _=>GX a b,λ a b=>YN λ _ _ _=>G9 a b,λ a b c=>YN λ _ _ _=>GD a b c,λ a b c=>YN λ _ _ _=>za a b c,λ a b c=>YN λ _ _ _=>zc a b c,λ fn a b=>YN λ _ _ _=>yj fn a b,Zaj⟩
def KL (w:World) (r:Nat) (ps:List (ByteArray×Value)):World→Prop:=λ x=>Ext w x∧YG x r ps
theorem KO {mt kt et r:TypeId} {agg:Bool} {n m:Nat} {z:Value} {ps:List (ByteArray×Value)} {k:Value→Prop} (hm:P.underlying mt=some (.map kt et)) (hk:P.underlying kt=some .string) (hz:ZJ P et agg n m z) (hne:∃ x,KL w r ps x) (s:ByteArray) :
 qV P (KL w r ps) (Instr.lookup mt (.map (some r)) (.string s) true) k=k (.tuple #[(Yh ps s).getD z,.bool (Yh ps s).isSome]):=by
 haveI:YV (KL w r ps):=⟨hne⟩
 exact UI λ w' e=>XX λ QP k=>Vn hm hk hz e.2 s
theorem yO {mt kt et r:TypeId} {agg:Bool} {n m:Nat} {z:Value} {ps:List (ByteArray×Value)} {k:Value→Prop} (hm:P.underlying mt=some (.map kt et)) (hk:P.underlying kt=some .string) (hz:ZJ P et agg n m z) (h:YG w r ps) (s:ByteArray) :
 qV P (EC w) (Instr.lookup mt (.map (some r)) (.string s) false) k=k ((Yh ps s).getD z):=UI λ w' e=>XX λ QP k=>WZ hm hk hz (h.ext e) s
theorem jW {mt kt et r:TypeId} {agg:Bool} {n m:Nat} {z:Value} {ps:List (ByteArray×Value)} {k:Value→Prop} (hm:P.underlying mt=some (.map kt et)) (hk:P.underlying kt=some .string) (hz:ZJ P et agg n m z) (h:YG w r ps) (s:ByteArray) :
 qV P (EC w) (Instr.lookup mt (.map (some r)) (.string s) true) k=k (.tuple #[(Yh ps s).getD z,.bool (Yh ps s).isSome]):=UI λ w' e=>XX λ QP k=>Vn hm hk hz (h.ext e) s
theorem UL {C:World→Prop} {f:(World→Prop)→World→Prop} (hC:C w) (h:f C w):Q8 C w f:=⟨C,λ _ h=>h,hC,h⟩
theorem Gb {w1:World} {r:Nat} {ps:List (ByteArray×Value)} {f:(World→Prop)→World→Prop} (e:Ext w1 w) (hm:YG w r ps) (h:f (KL w1 r ps) w):Q8 (EC w1) w f:=⟨KL w1 r ps,λ _ h=>h.1,⟨e,hm⟩,h⟩
theorem TW {C:World→Prop} [YV C] {k:Value→Prop} (t:TypeId) (c:Bool) (x:Int) (yk:IntKind) (y:Int) (h0:0≤y) (h1:y≤64):qV P C (ZM .shl t c (.int .i64 x) (.int yk y)) k=k (.int .i64 (IntKind.i64.wrap (x*2 ^ y.toNat))):=YN λ _ _ _=>MQ t c x yk y h0 h1
def KM {α:Type} [DecidableEq α] (w:World) (r:Nat) (enc:α→Value) (L:List (α×Value×Nat)) (c:Nat):World→Prop:=λ x=>Ext w x∧Y1 x r enc L c
theorem Ko {α:Type} [DecidableEq α] {mt kt et r c:TypeId} {agg:Bool} {n m:Nat} {z:Value} {enc:α→Value} {L:List (α×Value×Nat)} {k:Value→Prop} (hm:P.underlying mt=some (.map kt et)) (K:Wg P kt enc) (hz:ZJ P et agg n m z) (hne:∃ x,KM w r enc L c x) (s:α) :
 qV P (KM w r enc L c) (Instr.lookup mt (.map (some r)) (enc s) true) k=k (.tuple #[(look L s).getD z,.bool (look L s).isSome]):=by
 haveI:YV (KM w r enc L c):=⟨hne⟩
 exact UI λ w' e=>XX λ QP k=>A7 hm K hz e.2 s
theorem J7 {α:Type} [DecidableEq α] {w1:World} {r c:Nat} {enc:α→Value} {L:List (α×Value×Nat)} {f:(World→Prop)→World→Prop} (e:Ext w1 w) (hm:Y1 w r enc L c) (h:f (KM w1 r enc L c) w):Q8 (EC w1) w f:=⟨KM w1 r enc L c,λ _ h=>h.1,⟨e,hm⟩,h⟩
theorem ZI {f:(World→Prop)→World→Prop} (h:f (EC (drew w)) (drew w)):Yp w f:=⟨EC (drew w),Ext.refl _,h⟩
theorem CJ {w1:World} {f:(World→Prop)→World→Prop} (e:Ext w1 w) (h:f (EC w1) (drew w)):Yp w f:=⟨EC w1,e.drew,h⟩
theorem Ve {w1:World} (b1 b2:Nat) {f:(World→Prop)→World→Prop} (e:KB w1 b1 b2 w) (h:f (KB w1 b1 b2) (drew w)):Yp w f:=⟨KB w1 b1 b2,e,h⟩
theorem YZ {f:(World→Prop)→World→Prop} (h:f (EC w) w):VS w f:=⟨EC w,Ext.refl _,h⟩
@[congr] theorem S1 {w':World} {f:(World→Prop)→World→Prop} {d:Nat} (hw:w=w') (hd:Xd=d):VS w f=VS w' f:=by rw [hw]
end
end Go.Sw
