/-
  Lemmas for the claim.
-/
import Derived.RangeFuncLeaves
import Derived.RangeFuncNested
import Derived.Orders
import Derived.WalkKit
import Derived.Below
import Derived.RangeFuncOwn
import Derived.Laws.IdiomStrings
import Derived.Laws.StructEq
import Derived.Laws.AppendOwn
import Derived.Test.YtgalpdihjbinjaaGreatDoorProg
import Derived.KernelRfl
import Derived.Laws.IdiomRangeMap
import Derived.Deep.AppendLies
import Derived.Lib.ItoaMem
import Derived.Lib.ItoaLen
import Derived.Lib.Join
import Derived.Lib.AtoiErrMem
import Derived.Lib.AtoiAllCases
import Derived.Lib.SplitLaws
import Derived.Shelf.Strings.OnBuilder
import Derived.Shelf.Small.Wraps
import Derived.Shelf.LaysM
import Derived.Shelf.Strconv.Itoa3
import Derived.Shelf.LaysC
import Derived.Shelf.Strconv.AtoiAll
import Derived.Shelf.Strconv.ErrVarAll
import Derived.Shelf.Strings.Prefix
import Derived.Shelf.Strings.Split
import Derived.Laws.BytesString
import Derived.Shelf.Strings.Builder1
import Derived.Shelf.Strconv.ToError
import Derived.JoinedOf
import Derived.SizedLaws
import Derived.Carry
import Derived.OpenShut
import Derived.Deep.Slices
import Derived.RowKit
import Derived.ProofKit
import Derived.Test.YtgalpdihjbinjaaGreatDoorRows
import Derived.SevenTiedAt
import Derived.LaidMore
import Derived.Lib.LaidTab
import Derived.Stop.LaidErr
import Derived.Stop.Joined
import Derived.Shelf.Vars
import Derived.HandedShaped
import Derived.Lay
import Derived.Handed
import Derived.Test.YtgalpdihjbinjaaGreatDoorTie
import Derived.Test.YtgalpdihjbinjaaGreatDoorCards
set_option linter.all false
set_option maxHeartbeats 40000000
set_option maxRecDepth 100000
open Go.Instr (loadAt storeAt fieldAt indexAt buildSlice mapUpdate makeFunc alloc build box extract fill sliceAt lookup makeInterface)
namespace Go
def K5 {p:Prop} (h:p:=by kernel_rfl):p:=h
def K7 {p:Prop} (h:p:=by decide):p:=h
def C1 {p:Prop} (h:p:=by omega):p:=h
def Qqq {a b c:Prop} (h:a∧b) (k:a→b→c):a∧c:=⟨h.1,k h.1 h.2⟩
def Qqj {α} {x:Array α} {i:Nat} {b:α}:x[i]?=some b→∃ h:i < x.size,x[i]=b:=Array.getElem?_eq_some_iff.1
def Qqx {α} {x:List α} {i:Nat} {b:α}:x[i]?=some b→∃ h:i < x.length,x[i]=b:=List.getElem?_eq_some_iff.1
def Qqz {a b:Prop} (x:a) (y:b):a∧b:=⟨x,y⟩
abbrev Qqk:=ByteArray.empty
abbrev Qq5 (n:Nat):Value:=.pointer (some ⟨n,0,none⟩)
end Go
namespace Go.Sw
abbrev RT:=Ending→World→Prop
abbrev KV:=Value→World→Prop
abbrev KW:=Value→Value→World→Prop
abbrev PEn := List PanicEntry → World → Prop
abbrev LDf := List Deferred
abbrev WPr := World → Prop
abbrev AVl := Array Value
abbrev BAr := ByteArray
abbrev Wd := World
abbrev Vl := Value
def Arr (P:Program) (m:Machine) (b:Frame) (k:List Item) (cs:List Frame):Exit→Act→Wd→Prop
 | .normal,a,w=>Steps P m (lone (b.atR a k) cs w)
 | .exit id,a,w=>(∀ k',exitTo id k=some k'→Steps P m (lone (b.atR a k') cs w)) ∧
  (b.roundOf.isSome=true→exitTo id k=none→∃ k₁,exitTo id k₁=none∧Steps P m (lone (b.atR a (.code (.exit id)::k₁)) cs w))
 | .ret,a,w=>(b.roundOf=none→∃ todo,Steps P m (lone { b.atR a todo with mode := .returning } cs w)) ∧
  (b.roundOf.isSome=true→∃ k₁,Steps P m (lone (b.atR a (.code .ret::k₁)) cs w))
 | .panic ch,a,w=>∃ todo,Steps P m (lone { b.atR a todo with mode := .panicking ch } cs w)
 | _,_,_=>False
section
variable {P:Program} {m m₁:Machine} {b:Frame} {k:List Item} {cs:List Frame} {e:Exit} {a:Act} {w:Wd}
def Arr.from (h:Steps P m m₁) (h':Arr P m₁ b k cs e a w):Arr P m b k cs e a w:=by
 cases e with
 | normal=>exact h.trans h'
 | exit id=>exact ⟨λ k' hk=>h.trans (h'.1 k' hk),λ hr hk=>let ⟨k₁,h1,h2⟩:=h'.2 hr hk; ⟨k₁,h1,h.trans h2⟩⟩
 | ret=>exact ⟨λ hr=>let ⟨t,hs⟩:=h'.1 hr; ⟨t,h.trans hs⟩,λ hr=>let ⟨k₁,hs⟩:=h'.2 hr; ⟨k₁,h.trans hs⟩⟩
 | panic ch=>obtain ⟨t,hs⟩:=h';exact ⟨t,h.trans hs⟩
 | goto l=>exact h'
 | outgrown=>exact h'
def Arr.past {x:Item} (hx:x.plain=true) (hn:e ≠ .normal) (h:Arr P m b (x::k) cs e a w):Arr P m b k cs e a w:=by
 cases e with
 | normal=>exact absurd rfl hn
 | exit id=>exact ⟨λ k' hk=>h.1 k' (by rw [exitTo_plain hx];exact hk),λ hr hk=>h.2 hr (by rw [exitTo_plain hx];exact hk)⟩
 | ret=>exact h
 | panic ch=>exact h
 | goto l=>exact h
 | outgrown=>exact h
end
def Pe (P:Program) (f:FuncId):Prop:=∃ fn,P.funcs[f]?=some fn
def wpV (ro:Option Nat) (P:Program) (c:Code) (Q:Exit→Act→Wd→Prop) (a:Act) (w:Wd):Prop:=
 ∀ (b:Frame) (k:List Item) (cs:List Frame),b.roundOf=ro→Pe P b.fn→∃ e a' w',Q e a' w'∧Arr P (lone (b.atR a (.code c::k)) cs w) b k cs e a' w'
def Ka (P:Program) (l:Nat) (f:FuncId) (tmps:AVl) (assign body:Code) (w:Wd) (R:RT):Prop:=
 ∀ (c:Frame) (cs:List Frame),∃ e w',R e w'∧(match e with
  | .returned v=>Steps P (lone (Frame.round l f tmps assign body .normal) (c::cs) w) (lone (c.finish v) cs w')
  | .panicked ch=>Steps P (lone (Frame.round l f tmps assign body .normal) (c::cs) w) (lone (c.raise ch) cs w')
  | .outgrown=>False)
def Ka.mono {P:Program} {l:Nat} {f:FuncId} {tmps:AVl} {assign body:Code} {w:Wd} {R R':Ending→Wd→Prop} (h:Ka P l f tmps assign body w R) (hr:∀ e w',R e w'→R' e w'):Ka P l f tmps assign body w R':=
 λ c cs=>let ⟨e,w',h1,h2⟩:=h c cs; ⟨e,w',hr _ _ h1,h2⟩
section rules
variable {ro:Option Nat} {P:Program} {Q:Exit→Act→Wd→Prop} {a:Act} {w:Wd}
def Qc {c:Code} {Q':Exit→Act→Wd→Prop} (h:wpV ro P c Q a w) (hq:∀ e a w,Q e a w→Q' e a w):wpV ro P c Q' a w:=
 λ b k cs hro hf=>let ⟨e,a',w',q,r⟩:=h b k cs hro hf; ⟨e,a',w',hq _ _ _ q,r⟩
def Zal (h:Q .normal a w):wpV ro P .skip Q a w:=λ _ _ _ _ _=>⟨.normal,a,w,h,.one stepR_skip⟩
def O8 {l:Nat} (h:Q .normal a w):wpV ro P (.label l) Q a w:=λ _ _ _ _ _=>⟨.normal,a,w,h,.one stepR_label⟩
def Ca {id:Nat} (h:Q (.exit id) a w):wpV ro P (.exit id) Q a w:=
 λ _ k _ _ _=>⟨.exit id,a,w,h,λ _ hk => .one (stepR_exit hk),λ _ hk=>⟨k,hk,.refl _ _⟩⟩
def Fz (h:Q .ret a w):wpV ro P .ret Q a w:=
 λ _ k _ _ _=>⟨.ret,a,w,h,λ hn=>⟨_,.one (stepR_ret hn)⟩,λ _=>⟨k,.refl _ _⟩⟩
def ZbE {x y:Code} (h:wpV ro P x (Exit.then (wpV ro P y Q) Q) a w):wpV ro P (.seq x y) Q a w:=by
 intro b k cs hro hf
 obtain ⟨e,a₁,w₁,hq,YS⟩:=h b (.code y::k) cs hro hf
 cases e with
 | normal=>
  obtain ⟨e₂,a₂,w₂,hq₂,harr₂⟩:=hq b k cs hro hf
  exact ⟨e₂,a₂,w₂,hq₂,.from (.head stepR_seq YS) harr₂⟩
 | exit id=>exact ⟨_,a₁,w₁,hq,.from (.one stepR_seq) (.past (x := .code y) rfl (by simp) YS)⟩
 | goto l=>exact YS.elim
 | ret=>exact ⟨_,a₁,w₁,hq,.from (.one stepR_seq) (.past (x := .code y) rfl (by simp) YS)⟩
 | panic ch=>exact ⟨_,a₁,w₁,hq,.from (.one stepR_seq) (.past (x := .code y) rfl (by simp) YS)⟩
 | outgrown=>exact YS.elim
def It {c:Operand} {x y:Code} {t:Bool} (hc:a.eval c = .bool t) (h:wpV ro P (if t then x else y) Q a w):wpV ro P (.cond c x y) Q a w:=
 λ b k cs hro hf=>let ⟨e,a',w',q,r⟩:=h b k cs hro hf; ⟨e,a',w',q,.from (.one (stepR_cond hc)) r⟩
def O7 {id:Nat} {c:Code} (h:wpV ro P c (Exit.inBlock id Q) a w):wpV ro P (.block id c) Q a w:=by
 intro b k cs hro hf
 obtain ⟨e,a₁,w₁,hq,YS⟩:=h b (.inBlock id::k) cs hro hf
 cases e with
 | normal=>exact ⟨.normal,a₁,w₁,hq,.head stepR_block (Steps.trans YS (.one stepR_inBlock))⟩
 | exit id'=>
  by_cases hid:id'=id
  · simp only [Exit.inBlock,hid,if_true] at hq
    exact ⟨.normal,a₁,w₁,hq,.head stepR_block (YS.1 k (by simp [exitTo,hid]))⟩
  · simp only [Exit.inBlock,hid,if_false] at hq
    have hb:(id == id')=false:=by simp;exact λ h=>hid h.symm
    have hx:exitTo id' (.inBlock id::k)=exitTo id' k:=by simp [exitTo,hb]
    exact ⟨.exit id',a₁,w₁,hq,λ k' hk => .head stepR_block (YS.1 k' (by rw [hx];exact hk)),
     λ hr' hk=>let ⟨k₁,h1,h2⟩:=YS.2 hr' (by rw [hx];exact hk); ⟨k₁,h1,.head stepR_block h2⟩⟩
 | goto l=>exact YS.elim
 | ret=>exact ⟨_,a₁,w₁,hq,Arr.from (k:=k) (e := .ret) (.one stepR_block) YS⟩
 | panic ch=>exact ⟨_,a₁,w₁,hq,Arr.from (k:=k) (e := .panic ch) (.one stepR_block) YS⟩
 | outgrown=>exact YS.elim
def Vp {b:Frame} {k:List Item} {cs:List Frame} {c:Code}:step P (lone (b.atR a (.code (.scope c)::k)) cs w) = .next (lone (b.atR a (.code c :: .inScope c::k)) cs w):=step_lone_go (by simp [stepG,stepG.exec,Frame.atR])
def CA {b:Frame} {k:List Item} {cs:List Frame} {c:Code}:step P (lone (b.atR a (.inScope c::k)) cs w) = .next (lone (b.atR a k) cs w):=step_lone_go (by simp [stepG,stepG.exec,Frame.atR])
def O9 {c:Code} (h:wpV ro P c Q a w):wpV ro P (.scope c) Q a w:=by
 intro b k cs hro hf
 obtain ⟨e,a₁,w₁,hq,YS⟩:=h b (.inScope c::k) cs hro hf
 have hx:∀ id,exitTo id (.inScope c::k)=exitTo id k:=λ _=>rfl
 cases e with
 | normal=>exact ⟨.normal,a₁,w₁,hq,.head Vp (Steps.trans YS (.one CA))⟩
 | exit id=>exact ⟨.exit id,a₁,w₁,hq,λ k' hk => .head Vp (YS.1 k' (by rw [hx];exact hk)),λ hr' hk=>let ⟨k₁,h1,h2⟩:=YS.2 hr' (by rw [hx];exact hk); ⟨k₁,h1,.head Vp h2⟩⟩
 | goto l=>exact YS.elim
 | ret=>exact ⟨_,a₁,w₁,hq,Arr.from (k:=k) (e := .ret) (.one Vp) YS⟩
 | panic ch=>exact ⟨_,a₁,w₁,hq,Arr.from (k:=k) (e := .panic ch) (.one Vp) YS⟩
 | outgrown=>exact YS.elim
def Zak {c:Code} (I:Act→Wd→Prop) (μ:Act→Wd→Nat) (h₀:I a w)
 (round:∀ a w,I a w→wpV ro P c (Exit.then (λ a' w'=>I a' w'∧μ a' w' < μ a w) Q) a w):wpV ro P (.loop c) Q a w:=by
 intro b k cs hro hf
 have key:∀ j a w,μ a w=j→I a w→∃ e a' w',Q e a' w'∧Arr P (lone (b.atR a (.code c :: .inLoop c::k)) cs w) b k cs e a' w':=by
  intro j
  induction j using Nat.strongRecOn with
  | _ j ih=>
   intro a w hn hI
   obtain ⟨e,a₁,w₁,hq,YS⟩:=round a w hI b (.inLoop c::k) cs hro hf
   cases e with
   | normal=>
    obtain ⟨hI₁,Yo⟩:=hq
    obtain ⟨e₂,a₂,w₂,hq₂,harr₂⟩:=ih (μ a₁ w₁) (hn ▸ Yo) a₁ w₁ rfl hI₁
    exact ⟨e₂,a₂,w₂,hq₂,.from (Steps.trans YS (.one stepR_inLoop)) harr₂⟩
   | exit id=>exact ⟨_,a₁,w₁,hq,.past (x := .inLoop c) rfl (by simp) YS⟩
   | goto l=>exact YS.elim
   | ret=>exact ⟨_,a₁,w₁,hq,.past (x := .inLoop c) rfl (by simp) YS⟩
   | panic ch=>exact ⟨_,a₁,w₁,hq,.past (x := .inLoop c) rfl (by simp) YS⟩
   | outgrown=>exact YS.elim
 obtain ⟨e,a',w',hq,YS⟩:=key _ a w rfl h₀
 exact ⟨e,a',w',hq,.from (.one stepR_loop) YS⟩
def jr (P:Program) (o:Oper) (a:Act) (next:Act→Wd→Prop) (Q:Exit→Act→Wd→Prop):Result Next→Prop
 | .ok (.value v) w'=>next (a.put o.dst v) w'
 | .ok .skip w'=>next (a.put o.dst undef) w'
 | .ok (.defer d) w'=>next ({ a with defers:=d::a.defers }.put o.dst undef) w'
 | .ok (.enter f args) w'=>Calls P f args w' λ
  | .returned v,w''=>next (a.put o.dst v) w''
  | .panicked ch,w''=>Q (.panic ch) a w''
  | .outgrown,_=>False
 | .ok (.round l f tmps assign body) w'=>Ka P l f tmps assign body w' λ
  | .returned v,w''=>next (a.put o.dst v) w''
  | .panicked ch,w''=>Q (.panic ch) a w''
  | .outgrown,_=>False
 | .halt (.panic v) w'=>Q (.panic [{ v,recovered:=false }]) a w'
 | _=>False
def KJ (ro:Option Nat) (P:Program) (ops:Array Oper) (Q:Exit→Act→Wd→Prop):List Nat→Act→Wd→Prop
 | [],a,w=>Q .normal a w
 | i::rest,a,w=>
  match ops[i]? with
  | none=>KJ ro P ops Q rest a w
  | some o=>
   if Region.wanted o (yielded ops a.tmps) then jr P o a (KJ ro P ops Q rest) Q ((o.semAt ro a.eval).run P w)
   else KJ ro P ops Q rest (a.put o.dst undef) w
def zA {ops:Array Oper} (l:List Nat):∀ (a:Act) (w:Wd),KJ ro P ops Q l a w→∀ (b:Frame) (k:List Item) (cs:List Frame),b.roundOf=ro →
 ∃ e a' w',Q e a' w'∧Arr P (lone (b.atR a (.inRegion ops l::k)) cs w) b k cs e a' w':=by
 induction l with
 | nil=>exact λ a w h b k cs _=>⟨.normal,a,w,h,.one stepR_region_end⟩
 | cons i rest ih=>
  intro a w h b k cs hro
  simp only [KJ] at h
  cases ho:ops[i]? with
  | none=>
   simp only [ho] at h
   obtain ⟨e,a',w',hq,YS⟩:=ih a w h b k cs hro
   have hs:=stepR_op_skip (P:=P) (b:=b) (a:=a) (k:=k) (cs:=cs) (w:=w) (ops:=ops) (i:=i) (rest:=rest) (by simp [ho])
   simp only [ho,Option.bind_none,Act.put] at hs
   exact ⟨e,a',w',hq,.from (.one hs) YS⟩
  | some o=>
   simp only [ho] at h
   by_cases hw:Region.wanted o (yielded ops a.tmps)=true
   · simp only [hw,if_true] at h
     have hg:=stepGR_op (P:=P) (b:=b) (k:=k) (cs:=cs) (w:=w) (rest:=rest) ho hw
     rw [hro] at hg
     have hfin:∀ v,(b.atR a (.inRegion ops (i::rest)::k)).finish v=b.atR (a.put o.dst v) (.inRegion ops rest::k):=by
      intro v;rw [Frame.finish_atR,ho];rfl
     cases hr:(o.semAt ro a.eval).run P w with
     | ok n w'=>
      rw [hr] at h
      cases n<;>simp only [jr] at h
      case value v=>
       obtain ⟨e,a',w'',hq,YS⟩:=ih _ _ h b k cs hro
       refine ⟨e,a',w'',hq,.from (.one (step_lone_go ?_)) YS⟩
       rw [hg,← hfin];simp [stepG.apply,hr]
      case skip=>
       obtain ⟨e,a',w'',hq,YS⟩:=ih _ _ h b k cs hro
       refine ⟨e,a',w'',hq,.from (.one (step_lone_go ?_)) YS⟩
       rw [hg,← hfin];simp [stepG.apply,hr]
      case defer d=>
       obtain ⟨e,a',w'',hq,YS⟩:=ih _ _ h b k cs hro
       refine ⟨e,a',w'',hq,.from (.one (step_lone_go ?_)) YS⟩
       have:({ b.atR a (.inRegion ops (i::rest)::k) with defers:=d::a.defers }:Frame).finish undef=b.atR ({ a with defers:=d::a.defers }.put o.dst undef) (.inRegion ops rest::k):=by
        have:=Frame.finish_atR b { a with defers:=d::a.defers } ops i rest k undef
        rw [ho] at this;exact this
       rw [hg];simp only [stepG.apply,Sem.runT_eq,hr,GStep.bare_after]
       exact congrArg (λ fr=>GStep.go { frame:=fr,callers:=cs,status := .running,dying:=none } w') this
      case enter f args=>
       obtain ⟨e,w'',fr,hR,hsteps,_,hleave⟩:=h (b.atR a (.inRegion ops (i::rest)::k)::cs)
       have henter:step P (lone (b.atR a (.inRegion ops (i::rest)::k)) cs w) = .next (lone (Frame.enter P f args .normal) (b.atR a (.inRegion ops (i::rest)::k)::cs) w'):=
        step_lone_go (by rw [hg];simp [stepG.apply,hr,Frame.atR])
       cases e with
       | returned v=>
        obtain ⟨e,a',w₃,hq,YS⟩:=ih _ _ hR b k cs hro
        refine ⟨e,a',w₃,hq,.from (.head henter (Steps.trans hsteps (.one ?_))) YS⟩
        rw [← hfin];exact step_leave_returned hleave
       | panicked chain=>
        refine ⟨.panic chain,a,w'',hR,.inRegion ops (i::rest)::k,.head henter (Steps.trans hsteps (.one ?_))⟩
        rw [← Frame.raise_atR];exact step_leave_panicked hleave
       | outgrown=>exact hR.elim
      case round l f tmps assign body=>
       obtain ⟨e,w'',hR,hsteps⟩:=h (b.atR a (.inRegion ops (i::rest)::k)) cs
       have henter:step P (lone (b.atR a (.inRegion ops (i::rest)::k)) cs w) = .next (lone (Frame.round l f tmps assign body .normal) (b.atR a (.inRegion ops (i::rest)::k)::cs) w'):=
        step_lone_go (by rw [hg];simp [stepG.apply,hr,Frame.atR])
       cases e with
       | returned v=>
        obtain ⟨e,a',w₃,hq,YS⟩:=ih _ _ hR b k cs hro
        refine ⟨e,a',w₃,hq,.from (.head henter ?_) YS⟩
        rw [← hfin];exact hsteps
       | panicked chain=>
        refine ⟨.panic chain,a,w'',hR,.inRegion ops (i::rest)::k,.head henter ?_⟩
        rw [← Frame.raise_atR];exact hsteps
       | outgrown=>exact hR.elim
     | halt x w'=>
      rw [hr] at h
      cases x<;>simp only [jr] at h
      refine ⟨_,a,w',h,.inRegion ops (i::rest)::k,.one (step_lone_go ?_)⟩
      rw [hg,← Frame.raise_atR];simp [stepG.apply,hr]
   · simp only [hw,if_false,Bool.false_eq_true] at h
     obtain ⟨e,a',w',hq,YS⟩:=ih _ _ h b k cs hro
     have hs:=stepR_op_skip (P:=P) (b:=b) (a:=a) (k:=k) (cs:=cs) (w:=w) (ops:=ops) (i:=i) (rest:=rest) (by simp [ho];simpa using hw)
     simp only [ho,Option.bind_some] at hs
     exact ⟨e,a',w',hq,.from (.one hs) YS⟩
def MN {id:Nat} {ops:Array Oper} (h:KJ ro P ops Q (List.range ops.size) a w):wpV ro P (.region id ops false) Q a w:=
 λ b k cs hro _=>let ⟨e,a',w',q,r⟩:=zA _ a w h b k cs hro; ⟨e,a',w',q,.from (.one stepR_region) r⟩
def jD {id:Nat} {ops:Array Oper} (h:∀ t,KJ ro P ops Q (Region.schedule (P.follows .mixedOrders) ops t) a { w with drawn:=w.drawn+1 }):wpV ro P (.region id ops true) Q a w:=
 λ b k cs hro _=>let ⟨e,a',w',q,r⟩:=zA _ a _ (h _) b k cs hro; ⟨e,a',w',q,.from (.one stepR_region_draw) r⟩
def Zeq (P:Program) (l:Nat) (R:RT):Exit→Act→Wd→Prop
 | .normal,_,w=>∃ v w',(Instr.endRound l none).run P w = .ok v w'∧R (.returned v) w'
 | .ret,_,w=>∃ v w',(Instr.endRound l (some .ret)).run P w = .ok v w'∧R (.returned v) w'
 | .exit id,_,w=>∃ v w',(Instr.endRound l (some (.exit id))).run P w = .ok v w'∧R (.returned v) w'
 | .panic ch,a,w=>a.defers=[]∧R (.panicked ch) w
 | _,_,_=>False
def GK {l:Nat} {f:FuncId} {tmps:AVl} {assign body:Code} {R:RT} (hf:Pe P f)
 (h:wpV (some l) P assign (Exit.then (λ a₁ w₁=>∃ w₂,(Instr.beginRound l).run P w₁ = .ok () w₂∧wpV (some l) P body (Zeq P l R) a₁ w₂) (λ _ _ _=>False)) { tmps:=tmps,defers:=[] } w) :
 Ka P l f tmps assign body w R:=by
 intro c cs
 let b:Frame:={ (default:Frame) with fn:=f,kind := .normal,roundOf:=some l }
 have hb0:Frame.round l f tmps assign body .normal=b.atR { tmps:=tmps,defers:=[] } [.code assign,.beginRound,.code body]:=by simp [Frame.round,Frame.atR,b]
 obtain ⟨e,a₁,w₁,hq,YS⟩:=h b [.beginRound,.code body] (c::cs) rfl hf
 rw [← hb0] at YS
 cases e with
 | normal=>
  obtain ⟨w₂,hbr,hbody⟩:=hq
  have s1:Steps P (lone (b.atR a₁ [.beginRound,.code body]) (c::cs) w₁) (lone (b.atR a₁ [.code body]) (c::cs) w₂) := .one (stepR_beginRound rfl hbr)
  obtain ⟨e₂,a₂,w₃,hq₂,harr₂⟩:=hbody b [] (c::cs) rfl hf
  cases e₂ with
  | normal=>
   obtain ⟨v,w₄,hend,hR⟩:=hq₂
   exact ⟨.returned v,w₄,hR,(Steps.trans YS s1).trans (Steps.trans harr₂ (.one (stepR_round_end rfl rfl hend)))⟩
  | ret=>
   obtain ⟨v,w₄,hend,hR⟩:=hq₂
   obtain ⟨k₁,hs⟩:=harr₂.2 rfl
   exact ⟨.returned v,w₄,hR,(Steps.trans YS s1).trans (Steps.trans hs (.one (stepR_round_ret rfl rfl hend)))⟩
  | exit id=>
   obtain ⟨v,w₄,hend,hR⟩:=hq₂
   obtain ⟨k₁,hk,hs⟩:=harr₂.2 rfl rfl
   exact ⟨.returned v,w₄,hR,(Steps.trans YS s1).trans (Steps.trans hs (.one (stepR_round_exit rfl rfl hk hend)))⟩
  | panic ch=>
   obtain ⟨hd,hR⟩:=hq₂
   obtain ⟨todo,hs⟩:=harr₂
   obtain ⟨fn,hfn⟩:=hf
   refine ⟨.panicked ch,w₃,hR,(Steps.trans YS s1).trans (Steps.trans hs (.one ?_))⟩
   exact step_leave_panicked (P:=P) (fr:={ b.atR a₂ todo with mode := .panicking ch }) ⟨rfl,hd,fn,hfn⟩
  | goto t=>exact hq₂.elim
  | outgrown=>exact hq₂.elim
 | exit id=>exact hq.elim
 | goto t=>exact hq.elim
 | ret=>exact hq.elim
 | panic ch=>exact hq.elim
 | outgrown=>exact hq.elim
def Zat (ro:Option Nat) (P:Program) (l:Nat) (Q:Exit→Act→Wd→Prop) (a':Act):Ending→Wd→Prop
 | .returned _,w₃=>∃ jump w₄,(Instr.endLoop l).run P w₃ = .ok jump w₄∧(match jump with
  | none=>Q .normal a' w₄
  | some c=>wpV ro P c Q a' w₄)
 | .panicked ch,w₃=>Q (.panic ch) a' w₃
 | .outgrown,_=>False
def GS {g:Operand} {ps:Array Tmp} {assign body:Code}
 (h:∀ fn,Pe P fn→∃ (l:Nat) (mark:LDf) (w₁:Wd) (d:Deferred) (w₁':Wd) (f:FuncId) (args:AVl) (w₂:Wd),
  (Instr.enterLoop fn a.tmps ps assign body ro).run P w = .ok (l,mark) w₁∧(resolve a.eval (rangeCall g l) 0).run P w₁ = .ok d w₁'∧(invoke d.target d.args).run P w₁' = .ok (.enter f args) w₂ ∧
  Calls P f args w₂ (Zat ro P l Q { a with defers:=mark++a.defers })):wpV ro P (.rangeFunc g ps assign body) Q a w:=by
 intro b k cs hro hf
 obtain ⟨l,mark,w₁,d,w₁',f,args,w₂,he,hres,hinv,hcall⟩:=h b.fn hf
 rw [← hro] at he
 have henter:=stepR_rangeFunc (P:=P) (b:=b) (a:=a) (k:=k) (cs:=cs) (w:=w) he hres hinv
 obtain ⟨e,w₃,fr,hR,hsteps,_,hleave⟩:=hcall (b.atR { a with defers:=mark++a.defers } (.inRangeFunc l::k)::cs)
 cases e with
 | outgrown=>exact hR.elim
 | returned v=>
  obtain ⟨jump,w₄,hend,hj⟩:=hR
  have sback:Steps P (lone (b.atR a (.code (.rangeFunc g ps assign body)::k)) cs w) (lone (b.atR { a with defers:=mark++a.defers } ((jump.map Item.code).toList++k)) cs w₄):=by
   refine .head henter (Steps.trans hsteps (.head ?_ (.one (stepR_endRangeFunc hend))))
   rw [← finish_atR_inRangeFunc l v];exact step_leave_returned hleave
  cases jump with
  | none=>exact ⟨.normal,_,w₄,hj,sback⟩
  | some c=>
   obtain ⟨e',a'',w₅,hq,YS⟩:=hj b k cs hro hf
   exact ⟨e',a'',w₅,hq,.from sback YS⟩
 | panicked chain=>
  refine ⟨.panic chain,_,w₃,hR,.inRangeFunc l::k,.head henter (Steps.trans hsteps (.one ?_))⟩
  rw [← Frame.raise_atR];exact step_leave_panicked hleave
def ZeG (P:Program) (fn:Func) (R:RT):Exit→Act→Wd→Prop
 | .normal,a,w | .ret,a,w=>LeavesInM Fence.wide 0 P fn a.tmps R a.defers .returning w
 | .panic ch,a,w=>LeavesInM Fence.wide 0 P fn a.tmps R a.defers (.panicking ch) w
 | _,_,_=>False
def zS {f:FuncId} {fn:Func} {c:Code} {args:AVl} {R:RT} (hf:P.funcs[f]?=some fn) (hb:fn.body=some c)
 (h:wpV none P c (ZeG P fn R) { tmps:=args++Array.replicate (fn.ntmps - args.size) undef,defers:=[] } w):Calls P f args w R:=by
 refine callsIn_wide (n:=0) |>.1 ⟨trivial,λ cs hr=>?_⟩
 let b:Frame:={ (default:Frame) with fn:=f,kind := .normal,roundOf:=none }
 have henter:Frame.enter P f args .normal=b.atR { tmps:=args++Array.replicate (fn.ntmps - args.size) undef,defers:=[] } [.code c]:=by simp [Frame.enter,Frame.atR,hf,hb,b]
 obtain ⟨e,a',w',hq,YS⟩:=h b [] cs rfl ⟨fn,hf⟩
 rw [← henter] at YS
 cases e with
 | normal=>
  obtain ⟨e',w'',fr',hR,hs,hfn,hl⟩:=leaves_stepsInM (F:=Fence.wide) (n:=0) a'.defers .returning w' { b.atR a' [] with mode := .returning } cs rfl rfl rfl hf rfl trivial (room_wide _) hq
  exact ⟨e',w'',fr',hR,ComesIn.of_steps (stepsIn_wide.2 (Steps.trans YS (.one (stepR_end rfl)))) hs,hfn,hl⟩
 | ret=>
  obtain ⟨todo,hs₀⟩:=YS.1 rfl
  obtain ⟨e',w'',fr',hR,hs,hfn,hl⟩:=leaves_stepsInM (F:=Fence.wide) (n:=0) a'.defers .returning w' { b.atR a' todo with mode := .returning } cs rfl rfl rfl hf rfl trivial (room_wide _) hq
  exact ⟨e',w'',fr',hR,ComesIn.of_steps (stepsIn_wide.2 hs₀) hs,hfn,hl⟩
 | panic chain=>
  obtain ⟨todo,hs₀⟩:=YS
  obtain ⟨e',w'',fr',hR,hs,hfn,hl⟩:=leaves_stepsInM (F:=Fence.wide) (n:=0) a'.defers (.panicking chain) w' { b.atR a' todo with mode := .panicking chain } cs rfl rfl rfl hf rfl trivial (room_wide _) hq
  exact ⟨e',w'',fr',hR,ComesIn.of_steps (stepsIn_wide.2 hs₀) hs,hfn,hl⟩
 | exit id=>exact hq.elim
 | goto l=>exact hq.elim
 | outgrown=>exact hq.elim
end rules
end Go.Sw
namespace Go.Sw
abbrev Env:=Nat→Vl
def upd (N:Nat) (ρ:Env) (d:Nat) (v:Vl):Env:=λ i=>bif (Nat.beq i d&&Nat.blt d N) then v else ρ i
def put (N:Nat) (ρ:Env) (d:Option Nat) (v:Vl):Env:=match d with
 | some d=>upd N ρ d v
 | none=>ρ
def ev (ρ:Env):Operand→Vl
 | .tmp t=>ρ t
 | .const v=>v
 | .global g => .pointer (some ⟨g,0,none⟩)
 | .func f => .func (.func f) #[] #[]
def YG (N:Nat) (a:Act) (ρ:Env):Prop:=a.tmps.size=N∧∀ i,a.tmps.getD i undef=ρ i
def YG.eval {N:Nat} {a:Act} {ρ:Env} (h:YG N a ρ):a.eval=ev ρ:=by
 funext x
 cases x with
 | tmp t=>exact h.2 t
 | _=>rfl
def YG.put {N:Nat} {a:Act} {ρ:Env} (h:YG N a ρ) (d:Option Nat) (v:Vl):YG N (a.put d v) (put N ρ d v):=by
 cases d with
 | none=>exact h
 | some d=>
  refine ⟨by simp [Act.put,h.1],λ i=>?_⟩
  have h2:=h.2 i
  simp only [Act.put,Sw.put,upd]
  have h1:=h.1
  by_cases hi:i=d
  · subst hi
    by_cases hn:i < N
    · have:(Nat.beq i i&&Nat.blt i N)=true:=by simp [Nat.blt,hn];omega
      rw [this]
      simp [hn,h1]
    · have:(Nat.beq i i&&Nat.blt i N)=false:=by
       rw [Bool.and_eq_false_iff];right;rw [Bool.eq_false_iff];simp [Nat.blt];omega
      rw [this]
      simp only [cond_false]
      rw [← h2]
      simp [h1,hn]
  · have:Nat.beq i d=false:=by rw [Bool.eq_false_iff];simpa using hi
    rw [this]
    simp only [Bool.false_and,cond_false]
    rw [← h2]
    have Y7:d≠i:=λ e=>hi e.symm
    simp [Array.getElem?_setIfInBounds_ne Y7]
def YG.defers {N:Nat} {a:Act} {ρ:Env} (h:YG N a ρ) (ds:LDf):YG N { a with defers:=ds } ρ:=h
def WO {N:Nat} {ρ:Env} {d:Option Nat} {v:Vl} {i:Nat} (h:d≠some i):put N ρ d v i=ρ i:=by
 cases d with
 | none=>rfl
 | some d=>
  have:Nat.beq i d=false:=by rw [Bool.eq_false_iff];intro e;simp at e;exact h (by rw [e])
  simp [put,upd,this]
def XK:Vl→Option Bool
 | .bool b=>some b
 | _=>none
def Zm (v:Vl) (want:Bool) (p q:Prop):Prop:=match v with
 | .bool b=>match (b == want) with
  | true=>p
  | false=>q
 | _=>q
def Xl {v:Vl} {want:Bool} {p q:Prop} (h:XK v=some want):Zm v want p q=p:=by
 cases v<;>simp [XK] at h
 subst h;simp [Zm]
def Q2 {v:Vl} {want:Bool} {p q:Prop} (h:XK v≠some want):Zm v want p q=q:=by
 cases v<;>simp [XK] at h<;>simp [Zm]
 rename_i b
 have:(b == want)=false:=by simpa using h
 rw [this]
def Qe (ops:Array Oper) (ρ:Env) (j:Nat):Vl:=match (ops[j]?).bind (·.dst) with
 | some d=>ρ d
 | none=>undef
def Cc {N:Nat} {a:Act} {ρ:Env} (h:YG N a ρ) (ops:Array Oper) (j:Nat):yielded ops a.tmps j=XK (Qe ops ρ j):=by
 unfold yielded Qe
 cases hd:(ops[j]?).bind (·.dst) with
 | none=>rfl
 | some d=>
  have h2:=h.2 d
  simp only [Option.bind_some]
  rw [← h2]
  by_cases Yo:d < a.tmps.size
  · rw [Array.getElem?_eq_getElem Yo]
    simp [Yo]
    cases a.tmps[d]<;>rfl
  · have hge:a.tmps.size≤d:=Nat.le_of_not_lt Yo
    simp [Array.getElem?_eq_none hge,XK,undef]
def Xm (ops:Array Oper) (o:Oper) (ρ:Env) (p q:Prop):Prop:=match o.guard with
 | none=>p
 | some (j,want)=>Zm (Qe ops ρ j) want p q
def Fy {N:Nat} {a:Act} {ρ:Env} (h:YG N a ρ) (ops:Array Oper) (o:Oper) (p q:Prop) :
 Xm ops o ρ p q=(if Region.wanted o (yielded ops a.tmps) then p else q):=by
 unfold Xm Region.wanted
 cases hg:o.guard with
 | none=>simp
 | some g=>
  obtain ⟨j,want⟩:=g
  simp only [Cc h]
  by_cases hb:XK (Qe ops ρ j)=some want
  · rw [Xl hb,if_pos (by rw [hb];simp)]
  · rw [Q2 hb,if_neg (by simpa using hb)]
def KY (QP:PEn) (k:KV):Ending→Wd→Prop
 | .returned v,w=>k v w
 | .panicked ch,w=>QP ch w
 | .outgrown,_=>False
def V9 (P:Program) (QP:PEn) (kd:Deferred→Wd→Prop) (k:KV):Result Next→Prop
 | .ok (.value v) w=>k v w
 | .ok .skip w=>k undef w
 | .ok (.defer d) w=>kd d w
 | .ok (.enter f args) w=>Calls P f args w (KY QP k)
 | .ok (.round l f tmps assign body) w=>Ka P l f tmps assign body w (KY QP k)
 | .halt (.panic v) w=>QP [{ v,recovered:=false }] w
 | _=>False
def opD (P:Program) (s:Sem Next) (w:Wd) (QP:PEn) (kd:Deferred→Wd→Prop) (k:KV):Prop:=
 V9 P QP kd k (s.run P w)
def GA {QP QP':PEn} {k k':KV} (hp:∀ ch w,QP ch w→QP' ch w) (hk:∀ v w,k v w→k' v w) :
 ∀ e w,KY QP k e w→KY QP' k' e w:=by
 intro e w h
 cases e with
 | returned v=>exact hk _ _ h
 | panicked ch=>exact hp _ _ h
 | outgrown=>exact h
def JP {P:Program} {s:Sem Next} {w:Wd} {QP QP':PEn} {kd kd':Deferred→Wd→Prop} {k k':KV}
 (h:opD P s w QP kd k) (hp:∀ ch w,QP ch w→QP' ch w) (hd:∀ d w,kd d w→kd' d w) (hk:∀ v w,k v w→k' v w):opD P s w QP' kd' k':=by
 unfold opD at *
 cases hr:s.run P w with
 | ok n w'=>
  rw [hr] at h
  cases n<;>simp only [V9] at h ⊢ <;> first
   | exact hk _ _ h
   | exact hd _ _ h
   | exact Calls.mono h (GA hp hk)
   | exact Ka.mono h (GA hp hk)
 | halt x w'=>
  rw [hr] at h
  cases x<;>simp only [V9] at h ⊢ <;> exact hp _ _ h
abbrev K:=Exit→Env→LDf→Wd→Prop
abbrev KP:=List PanicEntry→Env→LDf→Wd→Prop
def XD:Op→Bool
 | .defer _=>true
 | _=>false
def opE (P:Program) (ro:Option Nat) (QP:KP) (o:Oper) (ρ:Env) (ds:LDf) (w:Wd) (kd:Deferred→Wd→Prop) (k:KV):Prop:=
 match XD o.op&&ro.isSome with
 | true=>False
 | false=>opD P (execOp (ev ρ) o) w (λ ch w=>QP ch ρ ds w) kd k
def VW (ops:Array Oper) (o:Oper) (st:Option ((Nat×Bool)×Bool)):Option ((Nat×Bool)×Bool):=match st with
 | none=>none
 | some g=>match (ops[g.1.1]?).bind (·.dst),o.dst with
  | some d,some d'=>bif Nat.beq d d' then none else st
  | _,_=>st
def Yf (P:Program) (N:Nat) (ro:Option Nat) (ops:Array Oper) (Q:K) (QP:KP):List Oper→Option ((Nat×Bool)×Bool)→Env→LDf→Wd→Prop
 | [],_,ρ,ds,w=>Q .normal ρ ds w
 | o::rest,st,ρ,ds,w=>
  match o.guard with
  | none=>opE P ro QP o ρ ds w (λ d w=>Yf P N ro ops Q QP rest none (put N ρ o.dst undef) (d::ds) w) (λ v w=>Yf P N ro ops Q QP rest none (put N ρ o.dst v) ds w)
  | some (j,want)=>
   match (match st with
    | some ((j',want'),act)=>bif Nat.beq j j'&&want == want' then some act else none
    | none=>none) with
   | some true=>opE P ro QP o ρ ds w (λ d w=>Yf P N ro ops Q QP rest (VW ops o (some ((j,want),true))) (put N ρ o.dst undef) (d::ds) w)
    (λ v w=>Yf P N ro ops Q QP rest (VW ops o (some ((j,want),true))) (put N ρ o.dst v) ds w)
   | some false=>Yf P N ro ops Q QP rest (VW ops o (some ((j,want),false))) (put N ρ o.dst undef) ds w
   | none=>Zm (Qe ops ρ j) want
    (opE P ro QP o ρ ds w (λ d w=>Yf P N ro ops Q QP rest (VW ops o (some ((j,want),true))) (put N ρ o.dst undef) (d::ds) w)
     (λ v w=>Yf P N ro ops Q QP rest (VW ops o (some ((j,want),true))) (put N ρ o.dst v) ds w))
    (Yf P N ro ops Q QP rest (VW ops o (some ((j,want),false))) (put N ρ o.dst undef) ds w)
def denOp (P:Program) (N:Nat) (ro:Option Nat) (ops:Array Oper) (QP:KP) (i:Nat) (k:Env→LDf→Wd→Prop) (ρ:Env) (ds:LDf) (w:Wd):Prop:=
 match ops[i]? with
 | none=>k ρ ds w
 | some o=>Xm ops o ρ (opE P ro QP o ρ ds w (λ d w=>k (put N ρ o.dst undef) (d::ds) w) (λ v w=>k (put N ρ o.dst v) ds w)) (k (put N ρ o.dst undef) ds w)
def Am (P:Program) (N:Nat) (ro:Option Nat) (ops:Array Oper) (Q:Env→LDf→Wd→Prop) (QP:KP):Nat→Array Bool→Env→LDf→Wd→Prop
 | 0,listed,ρ,ds,w=>Region.ready .any ops listed=[]∧Q ρ ds w
 | fuel+1,listed,ρ,ds,w=>
  (Region.ready .any ops listed=[]→Q ρ ds w) ∧
  ∀ i∈Region.ready .any ops listed,denOp P N ro ops QP i (Am P N ro ops Q QP fuel (listed.setIfInBounds i true)) ρ ds w
def ZaL (P:Program) (N:Nat) (ro:Option Nat) (ops:Array Oper) (Q:Env→LDf→Wd→Prop) (QP:KP) (ρ:Env) (ds:LDf) (w:Wd):Prop:=
 P.follows .mixedOrders=true∧Am P N ro ops Q QP ops.size (Array.replicate ops.size false) ρ ds { w with drawn:=w.drawn+1 }
def Zr (v:Vl) (p q:Prop):Prop:=match v with
 | .bool true=>p
 | .bool false=>q
 | _=>False
def QZ (k:Env→LDf→Wd→Prop) (Q:K):K:=λ e ρ ds w=>match e with
 | .normal=>k ρ ds w
 | e=>Q e ρ ds w
def GX (id:Nat) (Q:K):K:=λ e ρ ds w=>match e with
 | .exit id'=>bif Nat.beq id' id then Q .normal ρ ds w else Q (.exit id') ρ ds w
 | e=>Q e ρ ds w
def mix (W:List Nat) (ρ σ:Env):Env:=λ i=>bif W.contains i then σ i else ρ i
def Xw (ops:Array Oper):List Nat:=ops.toList.filterMap (·.dst)
def Qp:Code→List Nat
 | .region _ ops _=>Xw ops
 | .seq a b=>Qp a++Qp b
 | .cond _ a b=>Qp a++Qp b
 | .block _ c=>Qp c
 | .loop c=>Qp c
 | .scope c=>Qp c
 | _=>[]
def AB (N:Nat) (Q:K) (QP:KP):Exit→Act→Wd→Prop
 | .panic ch,a,w=>∃ ρ,YG N a ρ∧QP ch ρ a.defers w
 | .outgrown,_,_=>False
 | e,a,w=>∃ ρ,YG N a ρ∧Q e ρ a.defers w
def den (P:Program) (N:Nat) (ro:Option Nat):Code→K→KP→Env→LDf→Wd→Prop
 | .skip,Q,_,ρ,ds,w=>Q .normal ρ ds w
 | .label _,Q,_,ρ,ds,w=>Q .normal ρ ds w
 | .region _ ops draw,Q,QP,ρ,ds,w=>match draw with
  | false=>Yf P N ro ops Q QP ops.toList none ρ ds w
  | true=>ZaL P N ro ops (Q .normal) QP ρ ds w
 | .seq a b,Q,QP,ρ,ds,w=>den P N ro a (QZ (λ ρ ds w=>den P N ro b Q QP ρ ds w) Q) QP ρ ds w
 | .cond c a b,Q,QP,ρ,ds,w=>Zr (ev ρ c) (den P N ro a Q QP ρ ds w) (den P N ro b Q QP ρ ds w)
 | .block id c,Q,QP,ρ,ds,w=>den P N ro c (GX id Q) QP ρ ds w
 | .scope c,Q,QP,ρ,ds,w=>den P N ro c Q QP ρ ds w
 | .loop c,Q,QP,ρ,ds,w=>∃ (I:Env→LDf→Wd→Prop) (μ:Env→Wd→Nat),I ρ ds w∧∀ σ ds w,I σ ds w →
  den P N ro c (QZ (λ ρ' ds' w'=>I ρ' ds' w'∧μ ρ' w' < μ σ w) Q) QP (mix (Qp c) ρ σ) ds w
 | .rangeFunc g ps asg body,Q,QP,ρ,ds,w=>∀ a,YG N a ρ→a.defers=ds→wpV ro P (Code.rangeFunc g ps asg body) (λ e a' w'=>match e with
  | .panic ch=>YG N a' ρ∧QP ch ρ a'.defers w'
  | .outgrown=>False
  | e=>YG N a' ρ∧Q e ρ a'.defers w') a w
 | .exit id,Q,_,ρ,ds,w=>Q (.exit id) ρ ds w
 | .ret,Q,_,ρ,ds,w=>Q .ret ρ ds w
 | _,_,_,_,_,_=>False
section
variable {P:Program} {N:Nat} {ro:Option Nat}
def Fw {o:Oper} {a:Act} {next:Act→Wd→Prop} {Q:Exit→Act→Wd→Prop} {s:Sem Next} {w:Wd} {QP:PEn} {kd:Deferred→Wd→Prop} {k:KV}
 (h:opD P s w QP kd k) (hp:∀ ch w,QP ch w→Q (.panic ch) a w) (hk:∀ v w,k v w→next (a.put o.dst v) w)
 (hd:∀ d w,kd d w→next ({ a with defers:=d::a.defers }.put o.dst undef) w) :
 jr P o a next Q (s.run P w):=by
 unfold opD at h
 cases hr:s.run P w with
 | ok n w'=>
  rw [hr] at h
  cases n<;>simp only [V9] at h<;>simp only [jr]
  case value v=>exact hk _ _ h
  case skip=>exact hk _ _ h
  case defer d=>exact hd _ _ h
  case enter f args=>
   refine h.mono λ e w'' he=>?_
   cases e with
   | returned v=>exact hk _ _ he
   | panicked ch=>exact hp _ _ he
   | outgrown=>exact he.elim
  case round l f tmps assign body=>
   refine h.mono λ e w'' he=>?_
   cases e with
   | returned v=>exact hk _ _ he
   | panicked ch=>exact hp _ _ he
   | outgrown=>exact he.elim
 | halt x w'=>
  rw [hr] at h
  cases x<;>simp only [V9] at h<;>simp only [jr]
  exact hp _ _ h
def y8 {o:Oper} {a:Act} {ρ:Env} {next:Act→Wd→Prop} {Q:Exit→Act→Wd→Prop} {QP:KP} {w:Wd} {kd:Deferred→Wd→Prop} {k:KV}
 (ha:YG N a ρ) (h:opE P ro QP o ρ a.defers w kd k) (hp:∀ ch w,QP ch ρ a.defers w→Q (.panic ch) a w) (hk:∀ v w,k v w→next (a.put o.dst v) w)
 (hd:∀ d w,kd d w→next ({ a with defers:=d::a.defers }.put o.dst undef) w):jr P o a next Q ((o.semAt ro a.eval).run P w):=by
 unfold opE at h
 have hsem:(XD o.op&&ro.isSome)=false→o.semAt ro a.eval=execOp a.eval o:=by
  intro hf
  unfold Oper.semAt
  cases ro with
  | none=>rfl
  | some l=>cases hop:o.op<;>simp [XD,hop] at hf<;>rfl
 cases hb:(XD o.op&&ro.isSome) with
 | true=>rw [hb] at h;exact h.elim
 | false=>
  rw [hb] at h
  rw [hsem hb,ha.eval]
  exact Fw h hp hk hd
def zW {ops:Array Oper} {Q:K} {QP:KP}:∀ (l:List Oper) (k0:Nat),(∀ j,l[j]?=ops[k0+j]?)→∀ (st:Option ((Nat×Bool)×Bool)) (a:Act) (ρ:Env) (w:Wd),YG N a ρ →
 (∀ g,st=some g→(g.2=true↔XK (Qe ops ρ g.1.1)=some g.1.2))→Yf P N ro ops Q QP l st ρ a.defers w →
 KJ ro P ops (AB N (λ e ρ' ds w=>(∀ i,i ∉ Xw ops→ρ' i=ρ i)∧Q e ρ' ds w) QP) (List.range' k0 l.length) a w:=by
 intro l
 induction l with
 | nil=>intro k0 _ st a ρ w ha _ h;exact ⟨ρ,ha,λ _ _=>rfl,h⟩
 | cons o rest ih=>
  intro k0 hl st a ρ w ha hst h
  have h0:ops[k0]?=some o:=by simpa using (hl 0).symm
  have hw':∀ d,o.dst=some d→d∈Xw ops:=by
   intro d hd
   have hm:o∈ops.toList:=by rw [← Array.getElem?_toList] at h0;exact List.mem_of_getElem? h0
   exact List.mem_filterMap.2 ⟨o,hm,hd⟩
  have ih':∀ st' (a':Act) (v:Vl) (w':Wd),YG N a' (put N ρ o.dst v)→(∀ g,st'=some g→(g.2=true↔XK (Qe ops (put N ρ o.dst v) g.1.1)=some g.1.2)) →
   Yf P N ro ops Q QP rest st' (put N ρ o.dst v) a'.defers w' →
   KJ ro P ops (AB N (λ e ρ' ds w=>(∀ i,i ∉ Xw ops→ρ' i=ρ i)∧Q e ρ' ds w) QP) (List.range' (k0+1) rest.length) a' w':=by
   intro st' a' v w' ha' hs' hh
   have hrest:=ih (k0+1) (λ j=>by have:=hl (j+1);simpa [Nat.add_assoc,Nat.add_comm 1 j] using this) st' a' _ w' ha' hs' hh
   have hsub:(λ (e:Exit) (ρ':Env) (ds:LDf) (w:Wd)=>(∀ i,i ∉ Xw ops→ρ' i=put N ρ o.dst v i)∧Q e ρ' ds w) =
    (λ e ρ' ds w=>(∀ i,i ∉ Xw ops→ρ' i=ρ i)∧Q e ρ' ds w):=by
    funext e ρ' ds w
    have:(∀ i,i ∉ Xw ops→ρ' i=put N ρ o.dst v i)↔(∀ i,i ∉ Xw ops→ρ' i=ρ i):=by
     constructor<;>intro hh i hi<;>have:=hh i hi<;>rw [WO (λ e=>hi (hw' i e))] at * <;> exact this
    rw [this]
   rw [hsub] at hrest
   exact hrest
  have hkeep:∀ (g:(Nat×Bool)×Bool) (v:Vl),(g.2=true↔XK (Qe ops ρ g.1.1)=some g.1.2) →
   ∀ g',VW ops o (some g)=some g'→(g'.2=true↔XK (Qe ops (put N ρ o.dst v) g'.1.1)=some g'.1.2):=by
   intro g v hg g' hk
   unfold VW at hk
   simp only at hk
   have hsame:(∀ d,(ops[g.1.1]?).bind (·.dst)=some d→o.dst≠some d)→Qe ops (put N ρ o.dst v) g.1.1=Qe ops ρ g.1.1:=by
    intro Y7
    unfold Qe
    cases hd:(ops[g.1.1]?).bind (·.dst) with
    | none=>rfl
    | some d=>exact WO (Y7 d hd)
   cases hd:(ops[g.1.1]?).bind (·.dst) with
   | none=>
    rw [hd] at hk;simp at hk;subst hk
    rw [hsame (λ d h'=>by rw [hd] at h';cases h')];exact hg
   | some d=>
    cases hd':o.dst with
    | none=>
     rw [hd,hd'] at hk;simp at hk;subst hk
     have:=hsame (λ d h'=>by rw [hd'];simp)
     rw [hd'] at this
     rw [this];exact hg
    | some d'=>
     rw [hd,hd'] at hk
     simp only at hk
     cases hb:Nat.beq d d' with
     | true=>rw [hb] at hk;simp at hk
     | false=>
      rw [hb] at hk
      simp at hk
      subst hk
      have Y7:d≠d':=λ e=>by rw [Bool.eq_false_iff] at hb;exact hb (by rw [e];simp)
      have:=hsame (λ x hx=>by rw [hd] at hx;injection hx with hx;subst hx;rw [hd'];intro e;injection e with e;exact Y7 e.symm)
      rw [hd'] at this
      rw [this];exact hg
  simp only [List.length_cons,List.range'_succ,KJ,h0]
  have exec:∀ st',(∀ v,∀ g',st'=some g'→(g'.2=true↔XK (Qe ops (put N ρ o.dst v) g'.1.1)=some g'.1.2)) →
   opE P ro QP o ρ a.defers w (λ d w=>Yf P N ro ops Q QP rest st' (put N ρ o.dst undef) (d::a.defers) w) (λ v w=>Yf P N ro ops Q QP rest st' (put N ρ o.dst v) a.defers w) →
   jr P o a (KJ ro P ops (AB N (λ e ρ' ds w=>(∀ i,i ∉ Xw ops→ρ' i=ρ i)∧Q e ρ' ds w) QP) (List.range' (k0+1) rest.length)) (AB N (λ e ρ' ds w=>(∀ i,i ∉ Xw ops→ρ' i=ρ i)∧Q e ρ' ds w) QP) ((o.semAt ro a.eval).run P w):=by
   intro st' hs' hh
   refine y8 ha hh (λ ch w hq=>⟨_,ha,hq⟩) (λ v w' hv=>?_) (λ d w' hv=>?_)
   · exact ih' st' _ v w' (ha.put _ _) (hs' v) (by
      have:(a.put o.dst v).defers=a.defers:=by cases o.dst<;>rfl
      rw [this];exact hv)
   · exact ih' st' _ undef w' (YG.put (YG.defers ha _) _ _) (hs' undef) (by
      have:(({ a with defers:=d::a.defers }:Act).put o.dst undef).defers=d::a.defers:=by cases o.dst<;>rfl
      rw [this];exact hv)
  have skip:∀ st',(∀ g',st'=some g'→(g'.2=true↔XK (Qe ops (put N ρ o.dst undef) g'.1.1)=some g'.1.2))→Yf P N ro ops Q QP rest st' (put N ρ o.dst undef) a.defers w →
   KJ ro P ops (AB N (λ e ρ' ds w=>(∀ i,i ∉ Xw ops→ρ' i=ρ i)∧Q e ρ' ds w) QP) (List.range' (k0+1) rest.length) (a.put o.dst undef) w:=by
   intro st' hs' hh
   exact ih' st' _ undef w (ha.put _ _) hs' (by
    have:(a.put o.dst undef).defers=a.defers:=by cases o.dst<;>rfl
    rw [this];exact hh)
  unfold Yf at h
  cases hg:o.guard with
  | none=>
   simp only [hg] at h
   have hwant:Region.wanted o (yielded ops a.tmps)=true:=by simp [Region.wanted,hg]
   rw [if_pos hwant]
   exact exec none (λ v g' e=>by cases e) h
  | some g=>
   obtain ⟨j,want⟩:=g
   simp only [hg] at h
   have hiff:Region.wanted o (yielded ops a.tmps)=true↔XK (Qe ops ρ j)=some want:=by
    simp [Region.wanted,hg,Cc ha]
   have hact:∀ act,(match st with
    | some ((j',want'),act)=>bif Nat.beq j j'&&want == want' then some act else none
    | none=>none)=some act→(act=true↔XK (Qe ops ρ j)=some want):=by
    intro act hm
    cases st with
    | none=>simp at hm
    | some s=>
     obtain ⟨⟨j',want'⟩,act'⟩:=s
     simp only at hm
     cases hc:(Nat.beq j j'&&want == want') with
     | false=>rw [hc] at hm;simp at hm
     | true=>
      rw [hc] at hm
      simp at hm hc
      obtain ⟨rfl,rfl⟩:=hc
      subst hm
      exact hst _ rfl
   generalize (match st with
    | some ((j',want'),act)=>bif Nat.beq j j'&&want == want' then some act else none
    | none=>none)=m at h hact
   cases m with
   | none=>
    simp only at h
    by_cases hb:XK (Qe ops ρ j)=some want
    · rw [Xl hb] at h
      rw [if_pos (hiff.2 hb)]
      exact exec _ (λ v=>hkeep ((j,want),true) v (by simp [hb])) h
    · rw [Q2 hb] at h
      rw [if_neg (λ hh=>hb (hiff.1 hh))]
      exact skip _ (hkeep ((j,want),false) undef (by simp [hb])) h
   | some act=>
    have ha':=hact act rfl
    cases act with
    | true=>
     simp only at h
     have hb:=ha'.1 rfl
     rw [if_pos (hiff.2 hb)]
     exact exec _ (λ v=>hkeep ((j,want),true) v (by simp [hb])) h
    | false=>
     simp only at h
     have hb:¬ XK (Qe ops ρ j)=some want:=λ hh=>by have:=ha'.2 hh;cases this
     rw [if_neg (λ hh=>hb (hiff.1 hh))]
     exact skip _ (hkeep ((j,want),false) undef (by simp [hb])) h
end
end Go.Sw
namespace Go.Sw
section
variable {P:Program} {N:Nat} {ro:Option Nat}
def Jc (W:List Nat) (ρ:Env) (Q:K):K:=λ e ρ' ds w=>(∀ i,i ∉ W→ρ' i=ρ i)∧Q e ρ' ds w
def zC (a:Act) (d:Option Nat) (v:Vl):(a.put d v).defers=a.defers:=by cases d<;>rfl
def IS {W:List Nat} {ρ:Env} {d:Option Nat} {v:Vl} {Q:K} (h:∀ x,d=some x→x∈W):Jc W (put N ρ d v) Q=Jc W ρ Q:=by
 funext e ρ' ds w
 have:(∀ i,i ∉ W→ρ' i=put N ρ d v i)↔(∀ i,i ∉ W→ρ' i=ρ i):=by
  constructor<;>intro hh i hi<;>have:=hh i hi<;>rw [WO (λ e=>hi (h i e))] at * <;> exact this
 unfold Jc
 rw [this]
def Ek {ops:Array Oper} {Q:K} {QP:KP}:∀ (fuel t:Nat) (listed:Array Bool) (a:Act) (ρ:Env) (w:Wd),YG N a ρ →
 Am P N ro ops (Q .normal) QP fuel listed ρ a.defers w →
 KJ ro P ops (AB N (Jc (Xw ops) ρ Q) QP) (Region.linearise.go .any ops fuel t listed []) a w:=by
 intro fuel
 induction fuel with
 | zero=>intro t listed a ρ w ha h;simp only [Region.linearise.go,List.reverse_nil,KJ];exact ⟨ρ,ha,λ _ _=>rfl,h.2⟩
 | succ fuel ih=>
  intro t listed a ρ w ha h
  obtain ⟨h₀,h₁⟩:=h
  simp only [Region.linearise.go]
  change KJ ro P ops _ (match (Region.ready .any ops listed)[t % (Region.ready .any ops listed).length]? with
   | some i=>Region.linearise.go .any ops fuel (t / (Region.ready .any ops listed).length) (listed.setIfInBounds i true) [i]
   | none=>[].reverse) a w
  cases hi:(Region.ready .any ops listed)[t % (Region.ready .any ops listed).length]? with
  | none=>
   have hnil:Region.ready .any ops listed=[]:=by
    cases hr:Region.ready .any ops listed with
    | nil=>rfl
    | cons x xs=>
     rw [hr] at hi
     have Yo:t % (x::xs).length < (x::xs).length:=Nat.mod_lt _ (by simp)
     simp at hi
     simp at Yo
     omega
   simp only [List.reverse_nil,KJ]
   exact ⟨ρ,ha,λ _ _=>rfl,h₀ hnil⟩
  | some i=>
   simp only []
   rw [linearise_go_acc,List.reverse_singleton,List.singleton_append]
   have hh:=h₁ i (List.mem_of_getElem? hi)
   unfold denOp at hh
   simp only [KJ]
   cases ho:ops[i]? with
   | none=>simp only [ho] at hh ⊢;exact ih _ _ _ _ _ ha hh
   | some o=>
    simp only [ho] at hh ⊢
    have hd:∀ x,o.dst=some x→x∈Xw ops:=by
     intro d hd
     have hm:o∈ops.toList:=by rw [← Array.getElem?_toList] at ho;exact List.mem_of_getElem? ho
     exact List.mem_filterMap.2 ⟨o,hm,hd⟩
    have ih':∀ (a':Act) (v:Vl) (w':Wd),YG N a' (put N ρ o.dst v)→Am P N ro ops (Q .normal) QP fuel (listed.setIfInBounds i true) (put N ρ o.dst v) a'.defers w' →
     KJ ro P ops (AB N (Jc (Xw ops) ρ Q) QP) (Region.linearise.go .any ops fuel (t / (Region.ready .any ops listed).length) (listed.setIfInBounds i true) []) a' w':=by
     intro a' v w' ha' h'
     have:=ih (t / (Region.ready .any ops listed).length) _ _ _ _ ha' h'
     rw [IS hd] at this
     exact this
    rw [Fy ha] at hh
    split
    · rename_i hw
      rw [if_pos hw] at hh
      refine y8 ha hh (λ ch w hq=>⟨_,ha,hq⟩) (λ v w' hv=>ih' _ v w' (ha.put _ _) ?_) (λ d w' hv=>ih' _ undef w' (YG.put (YG.defers ha _) _ _) ?_)
      · rw [zC];exact hv
      · rw [zC];exact hv
    · rename_i hw
      rw [if_neg hw] at hh
      exact ih' _ undef w (ha.put _ _) (by rw [zC];exact hh)
def Ra (W:List Nat) (ρ:Env):mix W ρ ρ=ρ:=by funext i;unfold mix;cases W.contains i<;>rfl
def Ey {W:List Nat} {ρ σ ρ':Env} (h:∀ i,i ∉ W→ρ' i=mix W ρ σ i):mix W ρ ρ'=ρ':=by
 funext i
 unfold mix at *
 by_cases hi:i∈W
 · have hc:W.contains i=true:=List.contains_iff_mem.2 hi
   rw [hc];rfl
 · have:=h i hi
   have hc:W.contains i=false:=by rw [Bool.eq_false_iff];simpa [List.contains_iff_mem] using hi
   rw [hc] at this ⊢
   simp at this ⊢
   exact this.symm
def ym {W:List Nat} {ρ σ:Env} {i:Nat} (h:i ∉ W):mix W ρ σ i=ρ i:=by
 unfold mix
 have hc:W.contains i=false:=by rw [Bool.eq_false_iff];simpa [List.contains_iff_mem] using h
 rw [hc];rfl
def FW (a:Act):Env:=λ i=>a.tmps.getD i undef
def xr {Q Q':K} {QP:KP} (h:∀ e ρ ds w,Q e ρ ds w→Q' e ρ ds w):∀ e a w,AB N Q QP e a w→AB N Q' QP e a w:=by
 intro e a w hl
 cases e<;>first
  | exact hl
  | (obtain ⟨ρ,ha,hq⟩:=hl;exact ⟨ρ,ha,h _ _ _ _ hq⟩)
def qH {W W':List Nat} {ρ:Env} {Q:K} (hs:∀ i,i∈W→i∈W'):∀ e ρ' ds w,Jc W ρ Q e ρ' ds w→Jc W' ρ Q e ρ' ds w:=
 λ _ _ _ _ h=>⟨λ i hi=>h.1 i (λ hw=>hi (hs i hw)),h.2⟩
def WY:∀ (c:Code) (Q:K) (QP:KP) (a:Act) (ρ:Env) (w:Wd),YG N a ρ→den P N ro c Q QP ρ a.defers w →
 wpV ro P c (AB N (Jc (Qp c) ρ Q) QP) a w:=by
 intro c
 induction c with
 | skip=>intro Q QP a ρ w ha h;exact Zal ⟨ρ,ha,λ _ _=>rfl,h⟩
 | label l=>intro Q QP a ρ w ha h;exact O8 ⟨ρ,ha,λ _ _=>rfl,h⟩
 | exit id=>intro Q QP a ρ w ha h;exact Ca ⟨ρ,ha,λ _ _=>rfl,h⟩
 | ret=>intro Q QP a ρ w ha h;exact Fz ⟨ρ,ha,λ _ _=>rfl,h⟩
 | goto l=>intro Q QP a ρ w ha h;exact h.elim
 | scope c ih=>intro Q QP a ρ w ha h;exact O9 (ih _ _ _ _ _ ha h)
 | refuse s=>intro Q QP a ρ w ha h;exact h.elim
 | region id ops draw=>
  intro Q QP a ρ w ha h
  cases draw with
  | false=>
   refine MN ?_
   have:=zW (N:=N) (ro:=ro) (P:=P) (ops:=ops) (Q:=Q) (QP:=QP) ops.toList 0 (by simp) none a ρ w ha (λ g e=>by cases e) h
   rw [Array.length_toList] at this
   rw [List.range_eq_range']
   exact this
  | true=>
   obtain ⟨hm,hh⟩:=h
   refine jD λ t=>?_
   simp only [Region.schedule,hm,Bool.true_or,if_true]
   exact Ek (Q:=Q) ops.size t _ a ρ _ ha hh
 | seq x y ihx ihy=>
  intro Q QP a ρ w ha h
  refine ZbE (Qc (ihx _ _ _ _ _ ha h) ?_)
  intro e a' w' hl
  cases e with
  | normal=>
   obtain ⟨ρ',ha',hf,hq⟩:=hl
   refine Qc (ihy _ _ _ _ _ ha' hq) ?_
   refine xr ?_
   rintro e ρ'' ds w'' ⟨hf',hq'⟩
   refine ⟨λ i hi=>?_,hq'⟩
   simp only [Qp,List.mem_append,not_or] at hi
   exact (hf' i hi.2).trans (hf i hi.1)
  | panic ch=>exact hl
  | outgrown=>exact hl
  | exit id=>obtain ⟨ρ',ha',hf,hq⟩:=hl;exact ⟨ρ',ha',λ i hi=>hf i (λ hw=>hi (List.mem_append_left _ hw)),hq⟩
  | goto l=>obtain ⟨ρ',ha',hf,hq⟩:=hl;exact ⟨ρ',ha',λ i hi=>hf i (λ hw=>hi (List.mem_append_left _ hw)),hq⟩
  | ret=>obtain ⟨ρ',ha',hf,hq⟩:=hl;exact ⟨ρ',ha',λ i hi=>hf i (λ hw=>hi (List.mem_append_left _ hw)),hq⟩
 | cond c x y ihx ihy=>
  intro Q QP a ρ w ha h
  simp only [den] at h
  unfold Zr at h
  have hev:a.eval c=ev ρ c:=by rw [ha.eval]
  split at h
  · rename_i hv
    exact It (t:=true) (hev.trans hv) (Qc (ihx _ _ _ _ _ ha h) (xr (qH λ i hi=>List.mem_append_left _ hi)))
  · rename_i hv
    exact It (t:=false) (hev.trans hv) (Qc (ihy _ _ _ _ _ ha h) (xr (qH λ i hi=>List.mem_append_right _ hi)))
  · exact h.elim
 | block id c ih=>
  intro Q QP a ρ w ha h
  refine O7 (Qc (ih _ _ _ _ _ ha h) ?_)
  intro e a' w' hl
  cases e with
  | exit id'=>
   obtain ⟨ρ',ha',hf,hq⟩:=hl
   simp only [GX] at hq
   simp only [Exit.inBlock]
   by_cases hid:id'=id
   · have:Nat.beq id' id=true:=by simp [hid]
     rw [this] at hq
     rw [if_pos hid]
     exact ⟨ρ',ha',hf,hq⟩
   · have:Nat.beq id' id=false:=by rw [Bool.eq_false_iff];simpa using hid
     rw [this] at hq
     rw [if_neg hid]
     exact ⟨ρ',ha',hf,hq⟩
  | normal=>exact hl
  | ret=>exact hl
  | goto l=>exact hl
  | panic ch=>exact hl
  | outgrown=>exact hl
 | loop c ih=>
  intro Q QP a ρ w ha h
  simp only [den] at h
  obtain ⟨I,μ,h0,hr⟩:=h
  have he:∀ {a':Act} {σ:Env},YG N a' σ→FW a'=σ:=λ h'=>funext h'.2
  refine Zak (λ a' w'=>YG N a' (mix (Qp c) ρ (FW a'))∧I (FW a') a'.defers w') (λ a' w'=>μ (FW a') w') ?_ ?_
  · refine ⟨?_,?_⟩<;>rw [he ha]
    · rw [Ra];exact ha
    · exact h0
  · rintro a' w' ⟨ha',hI⟩
    have hb:=hr (FW a') _ w' hI
    refine Qc (ih _ _ _ _ _ ha' hb) ?_
    intro e a'' w'' hl
    cases e with
    | normal=>
     obtain ⟨ρ',ha'',hf,hI',hμ⟩:=hl
     have hm:=Ey hf
     refine ⟨⟨?_,?_⟩,?_⟩
     · rw [he ha'',hm];exact ha''
     · rw [he ha''];exact hI'
     · rw [he ha''];exact hμ
    | panic ch=>exact hl
    | outgrown=>exact hl
    | exit id=>obtain ⟨ρ',ha'',hf,hq⟩:=hl;exact ⟨ρ',ha'',λ i hi=>(hf i hi).trans (ym hi),hq⟩
    | goto l=>obtain ⟨ρ',ha'',hf,hq⟩:=hl;exact ⟨ρ',ha'',λ i hi=>(hf i hi).trans (ym hi),hq⟩
    | ret=>obtain ⟨ρ',ha'',hf,hq⟩:=hl;exact ⟨ρ',ha'',λ i hi=>(hf i hi).trans (ym hi),hq⟩
 | rangeFunc g ps asg body _ _=>
  intro Q QP a ρ w ha h
  refine Qc (h a ha rfl) ?_
  intro e a' w' hq
  cases e with
  | panic ch=>exact ⟨ρ,hq.1,hq.2⟩
  | outgrown=>exact hq
  | normal=>exact ⟨ρ,hq.1,λ _ _=>rfl,hq.2⟩
  | exit id=>exact ⟨ρ,hq.1,λ _ _=>rfl,hq.2⟩
  | goto l=>exact ⟨ρ,hq.1,λ _ _=>rfl,hq.2⟩
  | ret=>exact ⟨ρ,hq.1,λ _ _=>rfl,hq.2⟩
def Ao:List Vl→Env
 | [],_=>undef
 | v::_,0=>v
 | _::l,n+1=>Ao l n
def FV:∀ (l:List Vl) (i:Nat),Ao l i=(l[i]?).getD undef
 | [],i=>by simp [Ao]
 | v::l,0=>by simp [Ao]
 | v::l,n+1=>by simp [Ao,FV l n]
def D2 (N:Nat) (l:List Vl) (h:l.length≤N):YG N { tmps:=l.toArray++Array.replicate (N - l.toArray.size) undef,defers:=[] } (Ao l):=by
 refine ⟨by simp;omega,λ i=>?_⟩
 rw [FV]
 simp only [Array.getD_eq_getD_getElem?]
 by_cases hi:i < l.length
 · rw [Array.getElem?_append_left (by simpa using hi)];simp
 · rw [Array.getElem?_append_right (by simpa using hi)]
   rw [List.getElem?_eq_none C1]
   simp only [Array.getElem?_replicate]
   split<;>rfl
def Un (P:Program) (fn:Func) (R:RT):K:=λ e ρ ds w=>match e with
 | .normal | .ret=>ds=[]∧∀ tmps:AVl,(∀ i,tmps.getD i undef=ρ i)→∃ v,(results fn tmps).run P w = .ok v w∧R (.returned v) w
 | _=>False
def xh (R:RT):KP:=λ ch _ ds w=>ds=[]∧R (.panicked ch) w
def Aa (P:Program) (fn:Func) (R:RT):K:=λ e ρ ds w=>match e with
 | .normal | .ret=>∀ tmps:AVl,(∀ i,tmps.getD i undef=ρ i)→LeavesInM Fence.wide 0 P fn tmps R ds .returning w
 | _=>False
def jF (P:Program) (fn:Func) (R:RT):KP:=λ ch ρ ds w=>∀ tmps:AVl,(∀ i,tmps.getD i undef=ρ i)→LeavesInM Fence.wide 0 P fn tmps R ds (.panicking ch) w
def Ch {f:FuncId} {fn:Func} {c:Code} {args:List Vl} {w:Wd} {R:RT} (hf:P.funcs[f]?=some fn) (hb:fn.body=some c) (hn:args.length≤fn.ntmps)
 (h:den P fn.ntmps none c (Aa P fn R) (jF P fn R) (Ao args) [] w):Calls P f args.toArray w R:=by
 refine zS hf hb ?_
 refine Qc (WY c _ _ _ _ _ (D2 fn.ntmps args hn) h) ?_
 intro e a' w' hl
 cases e with
 | normal=>obtain ⟨ρ,ha,_,hr⟩:=hl;exact hr _ ha.2
 | ret=>obtain ⟨ρ,ha,_,hr⟩:=hl;exact hr _ ha.2
 | panic ch=>obtain ⟨ρ,ha,hq⟩:=hl;exact hq _ ha.2
 | outgrown=>exact hl.elim
 | exit id=>obtain ⟨ρ,ha,_,hq⟩:=hl;exact hq.elim
 | goto l=>obtain ⟨ρ,ha,_,hq⟩:=hl;exact hq.elim
def D7 {f:FuncId} {fn:Func} {c:Code} {args:List Vl} {w:Wd} {R:RT} (hf:P.funcs[f]?=some fn) (hb:fn.body=some c) (hn:args.length≤fn.ntmps)
 (h:den P fn.ntmps none c (Un P fn R) (xh R) (Ao args) [] w):Calls P f args.toArray w R:=by
 refine zS hf hb ?_
 refine Qc (WY c _ _ _ _ _ (D2 fn.ntmps args hn) h) ?_
 intro e a' w' hl
 cases e with
 | normal=>
  obtain ⟨ρ,ha,_,hd,hr⟩:=hl
  obtain ⟨v,h1,h2⟩:=hr _ ha.2
  show LeavesInM _ _ _ _ _ _ _ _ _
  rw [hd];exact ⟨v,h1,h2⟩
 | ret=>
  obtain ⟨ρ,ha,_,hd,hr⟩:=hl
  obtain ⟨v,h1,h2⟩:=hr _ ha.2
  show LeavesInM _ _ _ _ _ _ _ _ _
  rw [hd];exact ⟨v,h1,h2⟩
 | panic ch=>
  obtain ⟨ρ,_,hd,hr⟩:=hl
  show LeavesInM _ _ _ _ _ _ _ _ _
  rw [hd];exact hr
 | outgrown=>exact hl.elim
 | exit id=>obtain ⟨ρ,ha,_,hq⟩:=hl;exact hq.elim
 | goto l=>obtain ⟨ρ,ha,_,hq⟩:=hl;exact hq.elim
end
end Go.Sw
namespace Go.Sw
def opV (P:Program) (s:Sem Vl) (QP:PEn) (w:Wd) (k:KV):Prop:=match s.run P w with
 | .ok v w'=>k v w'
 | .halt (.panic v) w'=>QP [{ v,recovered:=false }] w'
 | _=>False
def opU (P:Program) (s:Sem Unit) (QP:PEn) (w:Wd) (k:WPr):Prop:=match s.run P w with
 | .ok _ w'=>k w'
 | .halt (.panic v) w'=>QP [{ v,recovered:=false }] w'
 | _=>False
def Zx (c a b:Vl) (k:Vl→Prop):Prop:=match c with
 | .bool true=>k a
 | .bool false=>k b
 | _=>False
def ZU (P:Program) (f:FuncId) (args:AVl) (QP:PEn) (w:Wd) (k:KV):Prop:=Calls P f args w (KY QP k)
def zR (fv:Vl) (args:AVl):Sem Next:=do let d ← Deferred.ofValue fv args;invoke d.target d.args
def X9 (P:Program) (fv:Vl) (args:AVl) (QP:PEn) (w:Wd) (k:KV):Prop:=opD P (zR fv args) w QP (λ _ _=>False) k
def Zp {α:Type} (K:α) (f:α→Prop):Prop:=f K
def X1 {α:Type} {K:α} {f:α→Prop} {X:Prop} (h:Zp K f) (hx:∀ K',K'=K→f K'→X):X:=hx K rfl h
def Zc (R:RT):List PanicEntry→Wd→Prop:=λ ch w=>R (.panicked ch) w
def ZA (op:BinOp) (t:TypeId) (c:Bool) (a b:Vl):Sem Vl:=do
 (match op with
  | .eql | .neq=>match a,b with
   | .nilIface,.nilIface=>if c then pure () else do
    if ← Op.eqGuardIn Op.maxDepth t a b then unsupported (.noEntry "binop/eql: two nil values of an interface type with methods, neither of them the literal nil")
   | .agg _,.agg _=>do
    if !(← program).eqGuardType (← program).depth t then pure () else
    if ← Op.eqGuardIn Op.maxDepth t a b then unsupported (.noEntry "binop/eql: two nil values of an interface type with methods, in a part of a struct or an array")
   | _,_=>pure ()
  | _=>pure ())
 binOp op t a b
def Uq:Operand→Bool
 | .const _=>true
 | _=>false
def Callable (P:Program) (f:FuncId):Prop:=∃ fn,P.funcs[f]?=some fn∧(fn.name == "runtime.NumGoroutine")=false∧fn.body.isNone=false
def Qqy {P:Program} {f:FuncId} {fn} (h:P.funcs[f]?=some fn) (h1:(fn.name == "runtime.NumGoroutine")=false:=by kernel_rfl) (h2:fn.body.isNone=false:=by exact rfl):Callable P f:=⟨fn,h,h1,h2⟩
section
variable {P:Program} {N:Nat} {ro:Option Nat}
def Qi {f:FuncId} (h:Callable P f) (args:AVl) (w:Wd):(callFunc f args).run P w = .ok (.enter f args) w:=by
 obtain ⟨fn,h1,h2,h3⟩:=h
 unfold callFunc
 simp only [program,bind,Sem.bind,Sem.run,h1]
 rw [if_neg (by rw [h2];simp),if_neg (by rw [h3];simp)]
 rfl
def NS {f:FuncId} (h:Callable P f) (first caps args:AVl) (w:Wd):(zR (.func (.func f) first caps) args).run P w = .ok (.enter f (first++args++caps)) w:=by
 unfold zR
 simp only [Deferred.ofValue,bind,pure,Sem.bind,invoke]
 exact Qi h _ w
def Y3 {f:FuncId} (h:Callable P f) {first caps args:AVl} {QP:PEn} {w:Wd} {k:KV} :
 X9 P (.func (.func f) first caps) args QP w k=ZU P f (first++args++caps) QP w k:=by
 unfold X9 opD
 rw [NS h]
 rfl
def ZP (P:Program) (N:Nat) (ro:Option Nat) (QP:KP) (T:Env→LDf→Wd→Prop):List Oper→Env→LDf→Wd→Prop
 | [],ρ,ds,w=>T ρ ds w
 | o::rest,ρ,ds,w=>opE P ro QP o ρ ds w (λ d w=>ZP P N ro QP T rest (put N ρ o.dst undef) (d::ds) w) (λ v w=>ZP P N ro QP T rest (put N ρ o.dst v) ds w)
def skipAll (N:Nat):List Oper→Env→Env
 | [],ρ=>ρ
 | o::rest,ρ=>skipAll N rest (put N ρ o.dst undef)
def Vc (l:List Oper):Bool:=l.all λ o=>match o.guard with | none=>true | some _=>false
def Wn (j:Nat) (want:Bool) (o:Oper):Bool:=match o.guard with | none=>false | some (j',want')=>Nat.beq j' j&&want' == want
def KU (ops:Array Oper) (j:Nat):List Oper→Bool
 | []=>true
 | [_]=>true
 | o::rest=>(match (ops[j]?).bind (·.dst),o.dst with | some d,some d'=>!Nat.beq d d' | _,_=>true)&&KU ops j rest
def F2 (ops:Array Oper) (j:Nat) (want:Bool) (grp tail:List Oper):Bool:=
 grp.all (Wn j want)&&KU ops j grp&&!grp.isEmpty&&(match tail with | []=>true | o::_=>!Wn j want o)
def U3 {QP:KP} {o:Oper} {ρ:Env} {ds:LDf} {w:Wd} {kd kd':Deferred→Wd→Prop} {k k':KV}
 (h:opE P ro QP o ρ ds w kd k) (hd:∀ d w,kd d w→kd' d w) (hk:∀ v w,k v w→k' v w):opE P ro QP o ρ ds w kd' k':=by
 unfold opE at *
 cases hb:(XD o.op&&ro.isSome) with
 | true=>rw [hb] at h;exact h.elim
 | false=>rw [hb] at h;exact JP h (λ _ _ h=>h) hd hk
def VU {ops:Array Oper} {Q:K} {QP:KP} {tail:List Oper}:∀ (seg:List Oper) (st:Option ((Nat×Bool)×Bool)) (ρ:Env) (ds:LDf) (w:Wd),Vc seg=true→(seg=[]→st=none) →
 ZP P N ro QP (λ ρ ds w=>Yf P N ro ops Q QP tail none ρ ds w) seg ρ ds w→Yf P N ro ops Q QP (seg++tail) st ρ ds w
 | [],st,ρ,ds,w,_,hst,h=>by rw [hst rfl];exact h
 | o::rest,st,ρ,ds,w,hu,_,h=>by
  simp only [Vc,List.all_cons,Bool.and_eq_true] at hu
  have hg:o.guard=none:=by
   cases hg:o.guard with
   | none=>rfl
   | some g=>rw [hg] at hu;simp at hu
  simp only [List.cons_append,Yf,hg]
  exact U3 h (λ d w hh=>VU rest none _ _ _ hu.2 (λ _=>rfl) hh) (λ v w hh=>VU rest none _ _ _ hu.2 (λ _=>rfl) hh)
def FS {ops:Array Oper} {Q:K} {QP:KP} {j:Nat} {want act:Bool}:∀ {tail:List Oper} {ρ:Env} {ds:LDf} {w:Wd},(match tail with | []=>true | o::_=>!Wn j want o)=true →
 Yf P N ro ops Q QP tail none ρ ds w→Yf P N ro ops Q QP tail (some ((j,want),act)) ρ ds w
 | [],_,_,_,_,h=>h
 | o::rest,ρ,ds,w,ht,h=>by
  unfold Yf at h ⊢
  cases hg:o.guard with
  | none=>simpa only [hg] using h
  | some g=>
   obtain ⟨j',want'⟩:=g
   simp only [hg] at h ⊢
   simp only [Wn,hg,Bool.not_eq_true'] at ht
   rw [ht]
   exact h
def qI {ops:Array Oper} {j:Nat} {want act:Bool} {o:Oper} {rest:List Oper} (h:KU ops j (o::rest)=true) (Y7:rest≠[]) :
 VW ops o (some ((j,want),act))=some ((j,want),act):=by
 cases rest with
 | nil=>exact absurd rfl Y7
 | cons x xs=>
  simp only [KU,Bool.and_eq_true] at h
  unfold VW
  simp only
  have h1:=h.1
  cases hd:(ops[j]?).bind (·.dst) with
  | none=>rfl
  | some d=>
   cases hd':o.dst with
   | none=>rfl
   | some d'=>
    rw [hd,hd'] at h1
    simp only [Bool.not_eq_true'] at h1
    simp only [h1,cond_false]
def F1 (ops:Array Oper) (o:Oper) (g:(Nat×Bool)×Bool):VW ops o (some g)=none∨VW ops o (some g)=some g:=by
 unfold VW
 simp only
 split
 · rename_i d d' _ _
   cases Nat.beq d d'<;>simp
 · right;rfl
def qD {ops:Array Oper} {Q:K} {QP:KP} {j:Nat} {want act:Bool} {tail:List Oper} {ρ:Env} {ds:LDf} {w:Wd} (o:Oper) (ht:(match tail with | []=>true | o::_=>!Wn j want o)=true)
 (h:Yf P N ro ops Q QP tail none ρ ds w):Yf P N ro ops Q QP tail (VW ops o (some ((j,want),act))) ρ ds w:=by
 rcases F1 ops o ((j,want),act) with e | e<;>rw [e]
 · exact h
 · exact FS ht h
def An {ops:Array Oper} {Q:K} {QP:KP} {j:Nat} {want:Bool} {tail:List Oper} (ht:(match tail with | []=>true | o::_=>!Wn j want o)=true):∀ (grp:List Oper) (ρ:Env) (ds:LDf) (w:Wd),grp≠[]→grp.all (Wn j want)=true→KU ops j grp=true →
 ZP P N ro QP (λ ρ ds w=>Yf P N ro ops Q QP tail none ρ ds w) grp ρ ds w→Yf P N ro ops Q QP (grp++tail) (some ((j,want),true)) ρ ds w
 | [],_,_,_,Y7,_,_,_=>absurd rfl Y7
 | o::rest,ρ,ds,w,_,hall,hap,h=>by
  simp only [List.all_cons,Bool.and_eq_true] at hall
  obtain ⟨ho,hrest⟩:=hall
  unfold Wn at ho
  cases hg:o.guard with
  | none=>rw [hg] at ho;simp at ho
  | some g=>
   obtain ⟨j',want'⟩:=g
   rw [hg] at ho
   simp only [Bool.and_eq_true] at ho
   have e1:j'=j:=by simpa using ho.1
   have e2:want'=want:=by simpa using ho.2
   subst e1 e2
   simp only [List.cons_append,Yf,hg]
   have hb:(Nat.beq j' j'&&want' == want')=true:=by simp
   rw [hb]
   simp only [cond_true]
   have next:∀ ρ' ds' w',ZP P N ro QP (λ ρ ds w=>Yf P N ro ops Q QP tail none ρ ds w) rest ρ' ds' w'→Yf P N ro ops Q QP (rest++tail) (VW ops o (some ((j',want'),true))) ρ' ds' w':=by
    intro ρ' ds' w' hh
    cases rest with
    | nil=>exact qD o ht hh
    | cons x xs=>
     rw [qI hap (by simp)]
     refine An ht (x::xs) _ _ _ (by simp) hrest ?_ hh
     simp only [KU,Bool.and_eq_true] at hap
     exact hap.2
   exact U3 h (λ d w hh=>next _ _ _ hh) (λ v w hh=>next _ _ _ hh)
def qC {ops:Array Oper} {Q:K} {QP:KP} {j:Nat} {want:Bool} {tail:List Oper} (ht:(match tail with | []=>true | o::_=>!Wn j want o)=true):∀ (grp:List Oper) (ρ:Env) (ds:LDf) (w:Wd),grp≠[]→grp.all (Wn j want)=true→KU ops j grp=true →
 Yf P N ro ops Q QP tail none (skipAll N grp ρ) ds w→Yf P N ro ops Q QP (grp++tail) (some ((j,want),false)) ρ ds w
 | [],_,_,_,Y7,_,_,_=>absurd rfl Y7
 | o::rest,ρ,ds,w,_,hall,hap,h=>by
  simp only [List.all_cons,Bool.and_eq_true] at hall
  obtain ⟨ho,hrest⟩:=hall
  unfold Wn at ho
  cases hg:o.guard with
  | none=>rw [hg] at ho;simp at ho
  | some g=>
   obtain ⟨j',want'⟩:=g
   rw [hg] at ho
   simp only [Bool.and_eq_true] at ho
   have e1:j'=j:=by simpa using ho.1
   have e2:want'=want:=by simpa using ho.2
   subst e1 e2
   simp only [List.cons_append,Yf,hg]
   have hb:(Nat.beq j' j'&&want' == want')=true:=by simp
   rw [hb]
   simp only [cond_true]
   cases rest with
   | nil=>exact qD o ht h
   | cons x xs=>
    rw [qI hap (by simp)]
    refine qC ht (x::xs) _ _ _ (by simp) hrest ?_ h
    simp only [KU,Bool.and_eq_true] at hap
    exact hap.2
def El {ops:Array Oper} {Q:K} {QP:KP} {j:Nat} {want:Bool} {grp tail:List Oper} {ρ:Env} {ds:LDf} {w:Wd} (hok:F2 ops j want grp tail=true)
 (h:Zm (Qe ops ρ j) want (ZP P N ro QP (λ ρ ds w=>Yf P N ro ops Q QP tail none ρ ds w) grp ρ ds w) (Yf P N ro ops Q QP tail none (skipAll N grp ρ) ds w)) :
 Yf P N ro ops Q QP (grp++tail) none ρ ds w:=by
 simp only [F2,Bool.and_eq_true] at hok
 obtain ⟨⟨⟨hall,hap⟩,Y7⟩,ht⟩:=hok
 cases grp with
 | nil=>simp at Y7
 | cons o rest=>
  have hall':=hall
  simp only [List.all_cons,Bool.and_eq_true] at hall'
  have ho:=hall'.1
  unfold Wn at ho
  cases hg:o.guard with
  | none=>rw [hg] at ho;simp at ho
  | some g=>
   obtain ⟨j',want'⟩:=g
   rw [hg] at ho
   simp only [Bool.and_eq_true] at ho
   have e1:j'=j:=by simpa using ho.1
   have e2:want'=want:=by simpa using ho.2
   subst e1 e2
   have hb:(Nat.beq j' j'&&want' == want')=true:=by simp
   by_cases hv:XK (Qe ops ρ j')=some want'
   · rw [Xl hv] at h
     have:=An ht (o::rest) ρ ds w (by simp) hall hap h
     simp only [List.cons_append,Yf,hg,hb,cond_true] at this
     simp only [List.cons_append,Yf,hg]
     rw [Xl hv]
     exact this
   · rw [Q2 hv] at h
     have:=qC ht (o::rest) ρ ds w (by simp) hall hap h
     simp only [List.cons_append,Yf,hg,hb,cond_true] at this
     simp only [List.cons_append,Yf,hg]
     rw [Q2 hv]
     exact this
def NA {a b:Code} {Q:K} {QP:KP} {ρ:Env} {ds:LDf} {w:Wd} (h:den P N ro a (QZ (λ ρ ds w=>den P N ro b Q QP ρ ds w) Q) QP ρ ds w):den P N ro (.seq a b) Q QP ρ ds w:=h
def Zk {Q:K} {QP:KP} {ρ:Env} {ds:LDf} {w:Wd} (h:Q .normal ρ ds w):den P N ro .skip Q QP ρ ds w:=h
def Zg {Q:K} {QP:KP} {ρ:Env} {ds:LDf} {w:Wd} (h:Q .ret ρ ds w):den P N ro .ret Q QP ρ ds w:=h
def ZN {id:Nat} {Q:K} {QP:KP} {ρ:Env} {ds:LDf} {w:Wd} (h:Q (.exit id) ρ ds w):den P N ro (.exit id) Q QP ρ ds w:=h
def Zl {id:Nat} {c:Code} {Q:K} {QP:KP} {ρ:Env} {ds:LDf} {w:Wd} (h:den P N ro c (GX id Q) QP ρ ds w):den P N ro (.block id c) Q QP ρ ds w:=h
def OU {c:Code} {Q:K} {QP:KP} {ρ:Env} {ds:LDf} {w:Wd} (h:den P N ro c Q QP ρ ds w):den P N ro (.scope c) Q QP ρ ds w:=h
def OT {l:Nat} {Q:K} {QP:KP} {ρ:Env} {ds:LDf} {w:Wd} (h:Q .normal ρ ds w):den P N ro (.label l) Q QP ρ ds w:=h
def Ii {k:Env→LDf→Wd→Prop} {Q:K} {ρ:Env} {ds:LDf} {w:Wd} (h:k ρ ds w):QZ k Q .normal ρ ds w:=h
def Ze {k:Env→LDf→Wd→Prop} {Q:K} {id:Nat} {ρ:Env} {ds:LDf} {w:Wd} (h:Q (.exit id) ρ ds w):QZ k Q (.exit id) ρ ds w:=h
def Zb {k:Env→LDf→Wd→Prop} {Q:K} {ρ:Env} {ds:LDf} {w:Wd} (h:Q .ret ρ ds w):QZ k Q .ret ρ ds w:=h
def Zf {id:Nat} {Q:K} {ρ:Env} {ds:LDf} {w:Wd} (h:Q .normal ρ ds w):GX id Q .normal ρ ds w:=h
def Zh {id:Nat} {Q:K} {ρ:Env} {ds:LDf} {w:Wd} (h:Q .ret ρ ds w):GX id Q .ret ρ ds w:=h
def Zs {id:Nat} {Q:K} {ρ:Env} {ds:LDf} {w:Wd} (h:Q .normal ρ ds w):GX id Q (.exit id) ρ ds w:=by
 show (bif Nat.beq id id then Q .normal ρ ds w else Q (.exit id) ρ ds w)
 have:Nat.beq id id=true:=by simp
 rw [this];exact h
def QY {id id':Nat} {Q:K} {ρ:Env} {ds:LDf} {w:Wd} (Y7:Nat.beq id' id=false) (h:Q (.exit id') ρ ds w):GX id Q (.exit id') ρ ds w:=by
 show (bif Nat.beq id' id then Q .normal ρ ds w else Q (.exit id') ρ ds w)
 rw [Y7];exact h
def TV {c:Operand} {A B:Code} {Q:K} {QP:KP} {ρ:Env} {ds:LDf} {w:Wd} {v:Vl} {p q:Prop} (h:Zr v p q) (hv:ev ρ c=v) (hp:p→den P N ro A Q QP ρ ds w) (hq:q→den P N ro B Q QP ρ ds w):den P N ro (.cond c A B) Q QP ρ ds w:=by
 show Zr (ev ρ c) (den P N ro A Q QP ρ ds w) (den P N ro B Q QP ρ ds w)
 rw [hv]
 unfold Zr at *
 cases v with
 | bool b=>cases b with
  | true=>exact hp h
  | false=>exact hq h
 | _=>exact h.elim
def MF {id:Nat} {l:List Oper} {Q:K} {QP:KP} {ρ:Env} {ds:LDf} {w:Wd} (hu:Vc l=true) (h:ZP P N ro QP (λ ρ ds w=>Q .normal ρ ds w) l ρ ds w):den P N ro (.region id l.toArray false) Q QP ρ ds w:=by
 show Yf P N ro l.toArray Q QP l none ρ ds w
 have:=VU (P:=P) (N:=N) (ro:=ro) (ops:=l.toArray) (Q:=Q) (QP:=QP) (tail:=[]) l none ρ ds w hu (λ _=>rfl) h
 rwa [List.append_nil] at this
def Zq {id:Nat} {l:List Oper} {Q:K} {QP:KP} {ρ:Env} {ds:LDf} {w:Wd} (h:Yf P N ro l.toArray Q QP l none ρ ds w):den P N ro (.region id l.toArray false) Q QP ρ ds w:=h
def Zby (n:Nat) {ops:Array Oper} {l:List Oper} {Q:K} {QP:KP} {ρ:Env} {ds:LDf} {w:Wd} (hu:Vc (l.take n)=true) (h:ZP P N ro QP (λ ρ ds w=>Yf P N ro ops Q QP (l.drop n) none ρ ds w) (l.take n) ρ ds w) :
 Yf P N ro ops Q QP l none ρ ds w:=by
 have:=VU (P:=P) (N:=N) (ro:=ro) (ops:=ops) (Q:=Q) (QP:=QP) (tail:=l.drop n) (l.take n) none ρ ds w hu (λ _=>rfl) h
 rwa [List.take_append_drop] at this
def ZG {ops:Array Oper} {Q:K} {QP:KP} {ρ:Env} {ds:LDf} {w:Wd} (h:Q .normal ρ ds w):Yf P N ro ops Q QP [] none ρ ds w:=h
def Fr (S:List Nat) (ρ ρ':Env):Prop:=∀ i,i ∉ S→ρ' i=ρ i
def Fr.refl (S:List Nat) (ρ:Env):Fr S ρ ρ:=λ _ _=>rfl
def Fr.put {S:List Nat} {ρ ρ':Env} {d:Nat} {v:Vl} (hd:S.contains d=true) (h:Fr S ρ ρ'):Fr S ρ (Sw.put N ρ' (some d) v):=λ i hi=>
 (WO (λ e=>hi (by injection e with e;subst e;exact List.contains_iff_mem.1 hd))).trans (h i hi)
def Fr.put_none {S:List Nat} {ρ ρ':Env} {v:Vl} (h:Fr S ρ ρ'):Fr S ρ (Sw.put N ρ' none v):=h
def Fr.mix {S W:List Nat} {ρ ρ' σ:Env} (hW:W.all (S.contains ·)=true) (h:Fr S ρ ρ'):Fr S ρ (Sw.mix W ρ' σ):=λ i hi=>
 (ym (λ hw=>hi (List.contains_iff_mem.1 (List.all_eq_true.1 hW i hw)))).trans (h i hi)
def Fr.skipAll {S:List Nat} {ρ:Env}:∀ {l:List Oper} {ρ':Env},(l.filterMap (·.dst)).all (S.contains ·)=true→Fr S ρ ρ'→Fr S ρ (Sw.skipAll N l ρ')
 | [],_,_,h=>h
 | o::rest,ρ',hl,h=>by
  unfold Sw.skipAll
  cases hd:o.dst with
  | none=>simp [hd] at hl;exact Fr.skipAll (by simpa using hl) h
  | some d=>
   rw [List.filterMap_cons,hd] at hl
   simp only [List.all_cons,Bool.and_eq_true] at hl
   exact Fr.skipAll hl.2 (h.put hl.1)
def Gl {S:List Nat} {ρ ρ':Env} (h:Fr S ρ ρ'):mix S ρ ρ'=ρ':=by
 funext i
 by_cases hi:i∈S
 · unfold mix;rw [List.contains_iff_mem.2 hi];rfl
 · exact (ym hi).trans (h i hi).symm
def TY {c:Code} {k:Env→LDf→Wd→Prop} {Q:K} {QP:KP} {ρ:Env} {ds:LDf} {w:Wd} (S:List Nat) (J:Env→Wd→Prop) (hJ:∀ σ w,J σ w→k (mix S ρ σ) ds w)
 (hc:∀ k':Env→LDf→Wd→Prop,(∀ ρ' w,Fr S ρ ρ'→J ρ' w→k' ρ' ds w)→den P N ro c (QZ k' Q) QP ρ ds w):den P N ro c (QZ k Q) QP ρ ds w:=
 hc k λ ρ' w hf hj=>by rw [← Gl hf];exact hJ ρ' w hj
def OS (n:Nat) (j:Nat) (want:Bool) {ops:Array Oper} {l:List Oper} {Q:K} {QP:KP} {ρ:Env} {ds:LDf} {w:Wd} {v:Vl} (S:List Nat) (J:Env→Wd→Prop) (hok:F2 ops j want (l.take n) (l.drop n)=true) (hv:Qe ops ρ j=v)
 (hJ:∀ σ w,J σ w→Yf P N ro ops Q QP (l.drop n) none (mix S ρ σ) ds w)
 (hc:∀ T:Env→LDf→Wd→Prop,(∀ ρ' w,Fr S ρ ρ'→J ρ' w→T ρ' ds w)→Zm v want (ZP P N ro QP T (l.take n) ρ ds w) (T (skipAll N (l.take n) ρ) ds w)):Yf P N ro ops Q QP l none ρ ds w:=by
 have h:=hc (λ ρ ds w=>Yf P N ro ops Q QP (l.drop n) none ρ ds w) (λ ρ' w hf hj=>by rw [← Gl hf];exact hJ ρ' w hj)
 rw [← hv] at h
 have:=El hok h
 rwa [List.take_append_drop] at this
def Up {v:Vl} {want:Bool} {p q p' q':Prop} (h:Zm v want p q) (hp:p→p') (hq:q→q'):Zm v want p' q':=by
 unfold Zm at *
 cases v with
 | bool b=>cases hb:(b == want) with
  | true=>simp only [hb] at h ⊢;exact hp h
  | false=>simp only [hb] at h ⊢;exact hq h
 | _=>exact hq h
def Om {W W':List Nat} (h:(W'.all (W.contains ·)&&W.all (W'.contains ·))=true) (ρ σ:Env):mix W ρ σ=mix W' ρ σ:=by
 simp only [Bool.and_eq_true,List.all_eq_true,List.contains_iff_mem] at h
 funext i
 unfold mix
 have:W.contains i=W'.contains i:=by
  rw [Bool.eq_iff_iff,List.contains_iff_mem,List.contains_iff_mem]
  exact ⟨λ hi=>h.2 i hi,λ hi=>h.1 i hi⟩
 rw [this]
def BS {c:Code} {Q:K} {QP:KP} {ρ:Env} {ds:LDf} {w:Wd} (W:List Nat) (hW:((Qp c).all (W.contains ·)&&W.all ((Qp c).contains ·))=true) (I:Env→Wd→Prop) (μ:Env→Wd→Nat) (h0:I ρ w)
 (hr:∀ σ w,I σ w→den P N ro c (QZ (λ ρ' ds' w'=>ds'=ds∧I ρ' w'∧μ ρ' w' < μ σ w) Q) QP (mix W ρ σ) ds w):den P N ro (.loop c) Q QP ρ ds w:=
 ⟨λ ρ ds' w=>ds'=ds∧I ρ w,μ,⟨rfl,h0⟩,λ σ ds' w hI=>by
  obtain ⟨rfl,hI⟩:=hI
  rw [← Om hW]
  have:=hr σ w hI
  have he:(QZ (λ ρ' ds'' w'=>ds''=ds'∧I ρ' w'∧μ ρ' w' < μ σ w) Q)=(QZ (λ ρ' ds'' w'=>(ds''=ds'∧I ρ' w')∧μ ρ' w' < μ σ w) Q):=by
   funext e ρ d w;cases e<;>simp [QZ,and_assoc]
  rw [← he];exact this⟩
section ops
variable {QP:KP} {T:Env→LDf→Wd→Prop} {o:Oper} {rest:List Oper} {ρ:Env} {ds:LDf} {w:Wd}
def Nz (h:T ρ ds w):ZP P N ro QP T [] ρ ds w:=h
def TZ {v:Vl} (hd:XD o.op=false) (hs:execOp (ev ρ) o=Sem.pure (.value v)) (h:ZP P N ro QP T rest (put N ρ o.dst v) ds w):ZP P N ro QP T (o::rest) ρ ds w:=by
 show opE P ro QP o ρ ds w _ _
 unfold opE
 rw [hd,hs]
 exact h
def Ic (s:Sem Vl) (w:Wd):Sem.run P (do pure (.value (← s)):Sem Next) w=match Sem.run P s w with | .ok v w' => .ok (.value v) w' | .halt h w' => .halt h w':=by
 rw [Sem.run_bind]
 cases Sem.run P s w<;>rfl
def OM (s:Sem Unit) (w:Wd):Sem.run P (do s;pure .skip:Sem Next) w=match Sem.run P s w with | .ok _ w' => .ok .skip w' | .halt h w' => .halt h w':=by
 rw [Sem.run_bind]
 cases Sem.run P s w<;>rfl
def Gs {s:Sem Vl} {QP':PEn} {k:KV} (h:opV P s QP' w k) (hd:XD o.op=false) (hs:execOp (ev ρ) o=(do pure (.value (← s)))) (hp:∀ ch w,QP' ch w→QP ch ρ ds w)
 (hk:∀ v w',k v w'→ZP P N ro QP T rest (put N ρ o.dst v) ds w'):ZP P N ro QP T (o::rest) ρ ds w:=by
 show opE P ro QP o ρ ds w _ _
 unfold opE
 rw [hd,hs]
 show V9 P _ _ _ (Sem.run P (do pure (.value (← s)):Sem Next) w)
 rw [Ic]
 unfold opV at h
 cases hr:s.run P w with
 | ok v w'=>rw [hr] at h;exact hk _ _ h
 | halt x w'=>rw [hr] at h;cases x<;>simp only at h;exact hp _ _ h
def T3 {s:Sem Unit} {QP':PEn} {k:WPr} (h:opU P s QP' w k) (hd:XD o.op=false) (hs:execOp (ev ρ) o=(do s;pure .skip)) (hp:∀ ch w,QP' ch w→QP ch ρ ds w)
 (hk:∀ w',k w'→ZP P N ro QP T rest (put N ρ o.dst undef) ds w'):ZP P N ro QP T (o::rest) ρ ds w:=by
 show opE P ro QP o ρ ds w _ _
 unfold opE
 rw [hd,hs]
 show V9 P _ _ _ (Sem.run P (do s;pure .skip:Sem Next) w)
 rw [OM]
 unfold opU at h
 cases hr:s.run P w with
 | ok v w'=>rw [hr] at h;exact hk _ h
 | halt x w'=>rw [hr] at h;cases x<;>simp only at h;exact hp _ _ h
def T1 {c a b:Operand} {d:Nat} {ty:TypeId} {pos:String} {after:Array Edge} {g:Option (Nat×Bool)} {vc va vb:Vl} {k:Vl→Prop} (h:Zx vc va vb k) (h1:ev ρ c=vc) (h2:ev ρ a=va) (h3:ev ρ b=vb)
 (hk:∀ v,k v→ZP P N ro QP T rest (put N ρ (some d) v) ds w):ZP P N ro QP T (⟨some d,.pick c a b,ty,pos,after,g⟩::rest) ρ ds w:=by
 subst h1 h2 h3
 show opE P ro QP _ ρ ds w _ _
 unfold opE
 show V9 P _ _ _ (Sem.run P (do pure (.value (if ← asBool (ev ρ c) then ev ρ a else ev ρ b)):Sem Next) w)
 unfold Zx at h
 split at h
 · rename_i hc;rw [hc];exact hk _ h
 · rename_i hc;rw [hc];exact hk _ h
 · exact h.elim
def MR (op:BinOp) (t:TypeId) (x y:Operand) (a b:Vl):(do eqGuard op t x y a b;binOp op t a b:Sem Vl)=ZA op t (Uq x||Uq y) a b:=by
 unfold ZA eqGuard
 cases op<;>try rfl
 all_goals
  cases a<;>try rfl
  all_goals
   cases b<;>try rfl
   all_goals (cases x<;>cases y<;>rfl)
def Zbx {op:BinOp} {t ty:TypeId} {x y:Operand} {d:Nat} {t2:TypeId} {pos:String} {after:Array Edge} {g:Option (Nat×Bool)} {c:Bool} {a b:Vl} {QP':PEn} {k:KV}
 (h:opV P (ZA op t c a b) QP' w k) (hc:(Uq x||Uq y)=c) (h1:ev ρ x=a) (h2:ev ρ y=b) (hp:∀ ch w,QP' ch w→QP ch ρ ds w)
 (hk:∀ v w',k v w'→ZP P N ro QP T rest (put N ρ (some d) v) ds w'):ZP P N ro QP T (⟨some d,.binOp op t x y t2,ty,pos,after,g⟩::rest) ρ ds w:=by
 subst hc h1 h2
 rw [← MR] at h
 exact Gs h rfl rfl hp hk
def Ig {b:Builtin} {l:List Operand} {ats:Array TypeId} {ty:TypeId} {d:Nat} {pos:String} {after:Array Edge} {g:Option (Nat×Bool)} {s:Sem Vl} {QP':PEn} {k:KV}
 (h:opV P s QP' w k) (hs:builtin b ats ty ((l.map λ | .const _=>true | _=>false).toArray) (l.map (ev ρ)).toArray=(do pure (.value (← s)))) (hp:∀ ch w,QP' ch w→QP ch ρ ds w)
 (hk:∀ v w',k v w'→ZP P N ro QP T rest (put N ρ (some d) v) ds w'):ZP P N ro QP T (⟨some d,.call ⟨.builtin b,l.toArray,ats⟩,ty,pos,after,g⟩::rest) ρ ds w:=by
 refine Gs (o:=⟨some d,.call ⟨.builtin b,l.toArray,ats⟩,ty,pos,after,g⟩) h rfl ?_ hp hk
 rw [← hs]
 simp only [execOp,resolve,List.map_toArray]
 rfl
def DQ {fo:Operand} {l:List Operand} {ats:Array TypeId} {ty:TypeId} {dst:Option Nat} {pos:String} {after:Array Edge} {g:Option (Nat×Bool)} {fv:Vl} {args:List Vl} {QP':PEn} {k:KV}
 (h:X9 P fv args.toArray QP' w k) (h1:ev ρ fo=fv) (h2:l.map (ev ρ)=args) (hp:∀ ch w,QP' ch w→QP ch ρ ds w)
 (hk:∀ v w',k v w'→ZP P N ro QP T rest (put N ρ dst v) ds w'):ZP P N ro QP T (⟨dst,.call ⟨.value fo,l.toArray,ats⟩,ty,pos,after,g⟩::rest) ρ ds w:=by
 subst h1 h2
 show opE P ro QP _ ρ ds w _ _
 unfold opE
 show opD P (execOp (ev ρ) _) w _ _ _
 have he:execOp (ev ρ) ⟨dst,.call ⟨.value fo,l.toArray,ats⟩,ty,pos,after,g⟩=zR (ev ρ fo) (l.map (ev ρ)).toArray:=by
  simp only [execOp,resolve,List.map_toArray,zR]
 rw [he]
 exact JP h hp (λ _ _ h=>h.elim) hk
def TU {f:FuncId} {l:List Operand} {ats:Array TypeId} {ty:TypeId} {dst:Option Nat} {pos:String} {after:Array Edge} {g:Option (Nat×Bool)} {args:List Vl} {QP':PEn} {k:KV}
 (h:ZU P f args.toArray QP' w k) (hf:Callable P f) (h2:l.map (ev ρ)=args) (hp:∀ ch w,QP' ch w→QP ch ρ ds w)
 (hk:∀ v w',k v w'→ZP P N ro QP T rest (put N ρ dst v) ds w'):ZP P N ro QP T (⟨dst,.call ⟨.value (.func f),l.toArray,ats⟩,ty,pos,after,g⟩::rest) ρ ds w:=by
 refine DQ (fv := .func (.func f) #[] #[]) (args:=args) ?_ rfl h2 hp hk
 rw [Y3 hf]
 simpa using h
def ON {t ty:TypeId} {ps:List (Nat×Operand)} {d:Nat} {pos:String} {after:Array Edge} {g:Option (Nat×Bool)} {vs:List (Nat×Vl)} {QP':PEn} {k:KV}
 (h:opV P (build t vs.toArray) QP' w k) (h2:(ps.map λ (i,x)=>(i,ev ρ x))=vs) (hp:∀ ch w,QP' ch w→QP ch ρ ds w)
 (hk:∀ v w',k v w'→ZP P N ro QP T rest (put N ρ (some d) v) ds w'):ZP P N ro QP T (⟨some d,.build t ps.toArray,ty,pos,after,g⟩::rest) ρ ds w:=by
 refine Gs (o:=⟨some d,.build t ps.toArray,ty,pos,after,g⟩) h rfl ?_ hp hk
 subst h2
 simp only [execOp,List.map_toArray]
def BR {t ty:TypeId} {n:Nat} {ps:List (Nat×Operand)} {d:Nat} {pos:String} {after:Array Edge} {g:Option (Nat×Bool)} {vs:List (Nat×Vl)} {QP':PEn} {k:KV}
 (h:opV P (buildSlice t n vs.toArray) QP' w k) (h2:(ps.map λ (i,x)=>(i,ev ρ x))=vs) (hp:∀ ch w,QP' ch w→QP ch ρ ds w)
 (hk:∀ v w',k v w'→ZP P N ro QP T rest (put N ρ (some d) v) ds w'):ZP P N ro QP T (⟨some d,.buildSlice t n ps.toArray,ty,pos,after,g⟩::rest) ρ ds w:=by
 refine Gs (o:=⟨some d,.buildSlice t n ps.toArray,ty,pos,after,g⟩) h rfl ?_ hp hk
 subst h2
 simp only [execOp,List.map_toArray]
def Ft {fn:Fn} {fs cs:List Operand} {ty:TypeId} {d:Nat} {pos:String} {after:Array Edge} {g:Option (Nat×Bool)} {vf vs:List Vl} {QP':PEn} {k:KV}
 (h:opV P (makeFunc fn vf.toArray vs.toArray) QP' w k) (h1:fs.map (ev ρ)=vf) (h2:cs.map (ev ρ)=vs) (hp:∀ ch w,QP' ch w→QP ch ρ ds w)
 (hk:∀ v w',k v w'→ZP P N ro QP T rest (put N ρ (some d) v) ds w'):ZP P N ro QP T (⟨some d,.makeFunc fn fs.toArray cs.toArray,ty,pos,after,g⟩::rest) ρ ds w:=by
 refine Gs (o:=⟨some d,.makeFunc fn fs.toArray cs.toArray,ty,pos,after,g⟩) h rfl ?_ hp hk
 subst h1 h2
 simp only [execOp,List.map_toArray]
end ops
end
def YW (body:Vl→Wd→(Vl→Wd→Prop)→Prop) (a0:Vl) (w:Wd):Prop:=∃ (I:KV) (μ:Vl→Wd→Nat),I a0 w∧∀ a0 w,I a0 w→body a0 w (λ a0' w'=>I a0' w'∧μ a0' w' < μ a0 w)
def ZL {body:Vl→Wd→(Vl→Wd→Prop)→Prop} {a0:Vl} {w:Wd} (I:KV) (μ:Vl→Wd→Nat) (h0:I a0 w) (hr:∀ a0 w,I a0 w→body a0 w (λ a0' w'=>I a0' w'∧μ a0' w' < μ a0 w)):YW body a0 w:=⟨I,μ,h0,hr⟩
def Wy (body:Vl→Vl→Wd→(Vl→Vl→Wd→Prop)→Prop) (a0 a1:Vl) (w:Wd):Prop:=∃ (I:KW) (μ:Vl→Vl→Wd→Nat),I a0 a1 w∧∀ a0 a1 w,I a0 a1 w→body a0 a1 w (λ a0' a1' w'=>I a0' a1' w'∧μ a0' a1' w' < μ a0 a1 w)
def Xu {body:Vl→Vl→Wd→(Vl→Vl→Wd→Prop)→Prop} {a0 a1:Vl} {w:Wd} (I:KW) (μ:Vl→Vl→Wd→Nat) (h0:I a0 a1 w) (hr:∀ a0 a1 w,I a0 a1 w→body a0 a1 w (λ a0' a1' w'=>I a0' a1' w'∧μ a0' a1' w' < μ a0 a1 w)):Wy body a0 a1 w:=⟨I,μ,h0,hr⟩
def GC (body:Vl→Vl→Vl→Wd→(Vl→Vl→Vl→Wd→Prop)→Prop) (a0 a1 a2:Vl) (w:Wd):Prop:=∃ (I:Vl→Vl→Vl→Wd→Prop) (μ:Vl→Vl→Vl→Wd→Nat),I a0 a1 a2 w∧∀ a0 a1 a2 w,I a0 a1 a2 w→body a0 a1 a2 w (λ a0' a1' a2' w'=>I a0' a1' a2' w'∧μ a0' a1' a2' w' < μ a0 a1 a2 w)
def Ur {body:Vl→Vl→Vl→Wd→(Vl→Vl→Vl→Wd→Prop)→Prop} {a0 a1 a2:Vl} {w:Wd} (I:Vl→Vl→Vl→Wd→Prop) (μ:Vl→Vl→Vl→Wd→Nat) (h0:I a0 a1 a2 w) (hr:∀ a0 a1 a2 w,I a0 a1 a2 w→body a0 a1 a2 w (λ a0' a1' a2' w'=>I a0' a1' a2' w'∧μ a0' a1' a2' w' < μ a0 a1 a2 w)):GC body a0 a1 a2 w:=⟨I,μ,h0,hr⟩
end Go.Sw
namespace Go.Sw
def drew (w:Wd):Wd:={ w with drawn:=w.drawn+1 }
def YM (ops:Array Oper) (done:List Nat):List Nat:=
 (List.range ops.size).filter λ i=>!done.contains i&&((ops[i]?).map (·.after.all λ e=>!Region.binds .any e||done.contains e.on)).getD false
def BA (ops:Array Oper) (i:Nat):List Nat:=match ops[i]? with
 | some o=>(o.after.toList.filter (λ e=>Region.binds .any e)).map (·.on)
 | none=>[]
def addL (l:List Nat) (x:Nat):List Nat:=if l.contains x then l else x::l
def II (ops:Array Oper):Nat→List Nat→List Nat
 | 0,l=>l
 | n+1,l=>II ops n ((l.flatMap (BA ops)).foldl addL l)
def Es (ops:Array Oper) (d:Nat):Bool:=match ops[d]? with
 | some o=>(match o.op with | .move _=>true | _=>false)&&o.guard.isNone
 | none=>false
def VH (ops:Array Oper) (n:Nat) (done:List Nat) (i:Nat):Bool:=done.all λ d=>(II ops n [i]).contains d||Es ops d
def VD (ops:Array Oper) (done:List Nat):Prop:=∀ x,done.contains x=true→∀ y∈BA ops x,done.contains y=true
def MQ (ops:Array Oper) (C C':WPr) (done:List Nat) (i:Nat):Prop:=(∃ n,VH ops n done i=true)∨∀ x,C' x→C x
def X6 (P:Program) (N:Nat) (ro:Option Nat) (ops:Array Oper) (Q:Env→LDf→Wd→Prop) (QP:KP) (C:WPr):Nat→List Nat→Env→LDf→Wd→Prop
 | 0,done,ρ,ds,w=>YM ops done=[]∧Q ρ ds w
 | fuel+1,done,ρ,ds,w=>
  (YM ops done=[]→Q ρ ds w) ∧
  ∀ i∈YM ops done,denOp P N ro ops QP i (λ ρ ds w=>(C w∧X6 P N ro ops Q QP C fuel (i::done) ρ ds w)∨∃ C',MQ ops C C' done i∧C' w∧X6 P N ro ops Q QP C' fuel (i::done) ρ ds w) ρ ds w
def XU (P:Program) (N:Nat) (ro:Option Nat) (ops:Array Oper) (Q:Env→LDf→Wd→Prop) (QP:KP) (C:WPr) (fuel:Nat) (done:List Nat) (ρ:Env) (ds:LDf) (w:Wd):Prop:=VD ops done→X6 P N ro ops Q QP C fuel done ρ ds w
section
variable {P:Program} {N:Nat} {ro:Option Nat} {ops:Array Oper} {Q:Env→LDf→Wd→Prop} {QP:KP} {QP0:List PanicEntry→LDf→Wd→Prop} {C:WPr}
def GZ {i:Nat} {k k':Env→LDf→Wd→Prop} {ρ:Env} {ds:LDf} {w:Wd} (h:∀ ρ ds w,k ρ ds w→k' ρ ds w) (hh:denOp P N ro ops QP i k ρ ds w):denOp P N ro ops QP i k' ρ ds w:=by
 unfold denOp at *
 cases ho:ops[i]? with
 | none=>rw [ho] at hh;exact h _ _ _ hh
 | some o=>
  rw [ho] at hh
  simp only at hh ⊢
  unfold Xm at *
  cases hg:o.guard with
  | none=>rw [hg] at hh;exact U3 hh (λ d w=>h _ _ _) (λ v w=>h _ _ _)
  | some g=>rw [hg] at hh;exact Up hh (λ hh=>U3 hh (λ d w=>h _ _ _) (λ v w=>h _ _ _)) (h _ _ _)
def j7 (n:Nat) (listed:Array Bool) (done:List Nat):Prop:=listed.size=n∧∀ i,i < n→listed.getD i true=done.contains i
def KC {listed:Array Bool} {done:List Nat} (h:j7 ops.size listed done) (hd:∀ i∈done,i < ops.size):Region.ready .any ops listed=YM ops done:=by
 unfold Region.ready YM
 apply List.filter_congr
 intro i hi
 have hi':i < ops.size:=List.mem_range.1 hi
 have h1:=h.2 i hi'
 rw [h1]
 have h2:∀ x,listed.getD x false=done.contains x:=by
  intro x
  by_cases hx:x < ops.size
  · have:=h.2 x hx
    have hl:x < listed.size:=by rw [h.1];exact hx
    simp [hl] at this ⊢
    exact this
  · have hl:¬ x < listed.size:=by rw [h.1];exact hx
    have:done.contains x=false:=by rw [Bool.eq_false_iff];intro hc;exact hx (hd x (List.contains_iff_mem.1 hc))
    rw [this]
    simp [hl]
 simp only [h2]
def j7.step {n:Nat} {listed:Array Bool} {done:List Nat} (h:j7 n listed done) (i:Nat):j7 n (listed.setIfInBounds i true) (i::done):=by
 refine ⟨by simp [h.1],λ j hj=>?_⟩
 have:=h.2 j hj
 by_cases hij:i=j
 · subst hij
   have hl:i < listed.size:=by rw [h.1];exact hj
   simp [hl]
 · rw [getD_set_ne true hij,this]
   simp only [List.contains_cons]
   have:(j == i)=false:=by simp;omega
   rw [this];rfl
def Cj:∀ (fuel:Nat) (C:WPr) (listed:Array Bool) (done:List Nat) (ρ:Env) (ds:LDf) (w:Wd),j7 ops.size listed done→(∀ i∈done,i < ops.size) →
 X6 P N ro ops Q QP C fuel done ρ ds w→Am P N ro ops Q QP fuel listed ρ ds w:=by
 intro fuel
 induction fuel with
 | zero=>intro C listed done ρ ds w ht hd h;exact ⟨by rw [KC ht hd];exact h.1,h.2⟩
 | succ fuel ih=>
  intro C listed done ρ ds w ht hd h
  have hr:=KC ht hd
  refine ⟨λ h0=>h.1 (by rw [← hr];exact h0),λ i hi=>?_⟩
  rw [hr] at hi
  have hi':i < ops.size:=by unfold YM at hi;exact List.mem_range.1 (List.mem_filter.1 hi).1
  have hd':∀ j∈i::done,j < ops.size:=by intro j hj;cases hj with | head=>exact hi' | tail _ hm=>exact hd j hm
  refine GZ (λ ρ ds w hh=>?_) (h.2 i hi)
  rcases hh with hh | ⟨C',_,_,hh⟩
  · exact ih _ _ _ _ _ _ (ht.step i) hd' hh.2
  · exact ih _ _ _ _ _ _ (ht.step i) hd' hh
def V4 {i:Nat} {done:List Nat}:i∈YM ops done↔done.contains i=false∧∃ o,ops[i]?=some o∧∀ e∈o.after,Region.binds .any e=true→done.contains e.on=true:=by
 unfold YM
 rw [List.mem_filter,List.mem_range]
 constructor
 · rintro ⟨hi,hh⟩
   rw [Bool.and_eq_true] at hh
   obtain ⟨h1,h2⟩:=hh
   have ho:ops[i]?=some (ops[i]'hi):=Array.getElem?_eq_getElem hi
   refine ⟨by simpa using h1,_,ho,?_⟩
   rw [ho] at h2
   simp only [Option.map_some,Option.getD_some,Array.all_eq_true_iff_forall_mem,Bool.or_eq_true,Bool.not_eq_true'] at h2
   intro e he hb
   rcases h2 e he with h | h
   · rw [hb] at h;cases h
   · exact h
 · rintro ⟨h1,o,ho,h2⟩
   have hi:i < ops.size:=(Qqj ho).1
   refine ⟨hi,?_⟩
   rw [Bool.and_eq_true]
   refine ⟨by simpa using h1,?_⟩
   rw [ho]
   simp only [Option.map_some,Option.getD_some,Array.all_eq_true_iff_forall_mem,Bool.or_eq_true,Bool.not_eq_true']
   intro e he
   cases hb:Region.binds .any e with
   | false=>exact .inl rfl
   | true=>exact .inr (h2 e he hb)
def Vn {i j:Nat} {done:List Nat} (hj:j∈YM ops done) (Y7:j≠i):j∈YM ops (i::done):=by
 rw [V4] at hj ⊢
 obtain ⟨h1,o,ho,h2⟩:=hj
 have c:∀ x,(i::done).contains x=(x == i||done.contains x):=λ x=>by rw [List.contains_cons]
 refine ⟨by rw [c,h1];simp;exact Y7,o,ho,λ e he hb=>by rw [c,h2 e he hb];simp⟩
def JT {done done':List Nat} (h:∀ x,done.contains x=done'.contains x):YM ops done=YM ops done':=by
 unfold YM;simp only [h]
def Aj (x j:Nat) (done:List Nat):(j::done).contains x=(x == j||done.contains x):=List.contains_cons
def D3 (f:Nat→Bool) (l:List Nat):l.all f=true↔∀ x,l.contains x=true→f x=true:=by
 rw [List.all_eq_true]
 exact ⟨λ h x hx=>h x (List.contains_iff_mem.1 hx),λ h x hx=>h x (List.contains_iff_mem.2 hx)⟩
def Ex {n:Nat} {done done':List Nat} {i:Nat} (h:∀ x,done.contains x=done'.contains x) (hm:VH ops n done i=true):VH ops n done' i=true:=by
 unfold VH at *
 rw [D3] at *
 intro x hx;rw [← h x] at hx;exact hm x hx
def WH:∀ (fuel:Nat) {C:WPr} {done done':List Nat} {ρ:Env} {ds:LDf} {w:Wd},(∀ x,done.contains x=done'.contains x)→X6 P N ro ops Q QP C fuel done ρ ds w→X6 P N ro ops Q QP C fuel done' ρ ds w
 | 0,C,done,done',ρ,ds,w,h,hh=>⟨by rw [← JT h];exact hh.1,hh.2⟩
 | fuel+1,C,done,done',ρ,ds,w,h,hh=>by
  refine ⟨λ h0=>hh.1 (by rw [JT h];exact h0),λ i hi=>?_⟩
  rw [← JT h] at hi
  have h':∀ x,(i::done).contains x=(i::done').contains x:=λ x=>by simp only [List.contains_cons,h]
  refine GZ (λ ρ ds w hx=>?_) (hh.2 i hi)
  rcases hx with hx | ⟨C',hm,hC,hx⟩
  · exact .inl ⟨hx.1,WH fuel h' hx.2⟩
  · exact .inr ⟨C',hm.imp (λ ⟨n,hm⟩=>⟨n,Ex h hm⟩) id,hC,WH fuel h' hx⟩
def Ok {i y:Nat}:y∈BA ops i↔∃ o,ops[i]?=some o∧∃ e∈o.after,Region.binds .any e=true∧e.on=y:=by
 unfold BA
 cases ho:ops[i]? with
 | none=>simp
 | some o=>
  simp only [List.mem_map,List.mem_filter,Array.mem_toList_iff,Option.some.injEq,exists_eq_left']
  constructor
  · rintro ⟨e,⟨h1,h2⟩,h3⟩;exact ⟨e,h1,h2,h3⟩
  · rintro ⟨e,h1,h2,h3⟩;exact ⟨e,⟨h1,h2⟩,h3⟩
def jl {i:Nat} {done:List Nat} (h:i∈YM ops done):∀ y∈BA ops i,done.contains y=true:=by
 intro y hy
 obtain ⟨o,ho,e,he,hb,rfl⟩:=Ok.1 hy
 obtain ⟨_,o',ho',h2⟩:=V4.1 h
 rw [ho] at ho';injection ho' with ho';subst ho'
 exact h2 e he hb
def VD.nil:VD ops []:=λ x hx=>by simp at hx
def VD.step {i:Nat} {done:List Nat} (h:VD ops done) (hi:i∈YM ops done):VD ops (i::done):=by
 intro x hx y hy
 rw [Aj] at hx ⊢
 cases hxi:(x == i) with
 | true=>rw [beq_iff_eq] at hxi;subst hxi;rw [jl hi y hy];simp
 | false=>rw [hxi,Bool.false_or] at hx;rw [h x hx y hy];simp
def P9 {l m:List Nat} {x:Nat}:x∈m.foldl addL l→x∈l∨x∈m:=by
 induction m generalizing l with
 | nil=>exact .inl
 | cons a m ih=>
  intro h
  rcases ih h with h | h
  · unfold addL at h
    split at h
    · exact .inl h
    · rcases List.mem_cons.1 h with rfl | h
      · exact .inr (List.mem_cons_self ..)
      · exact .inl h
  · exact .inr (List.mem_cons_of_mem _ h)
def qB {done:List Nat} {j:Nat} (hc:VD ops done) (hj:j∈YM ops done):∀ (n:Nat) (l:List Nat),(∀ x∈l,x=j∨done.contains x=true)→∀ x∈II ops n l,x=j∨done.contains x=true
 | 0,_,h=>h
 | n+1,l,h=>qB hc hj n _ λ x hx=>by
  rcases P9 hx with hx | hx
  · exact h x hx
  · obtain ⟨y,hy,hxy⟩:=List.mem_flatMap.1 hx
    rcases h y hy with rfl | hd
    · exact .inr (jl hj x hxy)
    · exact .inr (hc y hd x hxy)
def QL (P:Program) (ops:Array Oper) (C:WPr) (o:Oper) (v:Vl) (ρ:Env):Prop:=
 ((∀ p q,Xm ops o ρ p q=p)∧XD o.op=false∧∀ w,C w→(execOp (ev ρ) o).run P w = .ok (.value v) w)∨((∀ p q,Xm ops o ρ p q=q)∧v=undef)
def QL.denOp {i:Nat} {o:Oper} {v:Vl} {ρ:Env} {ds:LDf} {w:Wd} {k:Env→LDf→Wd→Prop} (hi:ops[i]?=some o) (h:QL P ops C o v ρ) (hC:C w) (hk:k (put N ρ o.dst v) ds w):denOp P N ro ops QP i k ρ ds w:=by
 unfold Sw.denOp
 simp only [hi]
 rcases h with ⟨hg,hd,hs⟩ | ⟨hg,rfl⟩
 · rw [hg]
   unfold opE
   rw [hd]
   simp only [Bool.false_and]
   unfold opD
   rw [hs w hC]
   exact hk
 · rw [hg];exact hk
def N7 {ρ:Env} {d:Option Nat} {v:Vl} {x:Operand} (h:∀ t,d=some t→x ≠ .tmp t):ev (put N ρ d v) x=ev ρ x:=by
 cases x with
 | tmp t=>exact WO (λ e=>h t e rfl)
 | _=>rfl
def qF (o:Oper) (hs:∀ cs b,o.op ≠ .select cs b) (ρ:Env) (d:Option Nat) (v:Vl) (h:∀ t,d=some t→t ∉ o.looksAt ops):execOp (ev (put N ρ d v)) o=execOp (ev ρ) o:=by
 refine execOp_congr o hs λ x hx=>N7 λ t ht e=>h t ht ?_
 subst e
 unfold Oper.looksAt
 refine List.mem_append_left _ (List.mem_filterMap.2 ⟨.tmp t,by simpa using hx,rfl⟩)
def Jd (o:Oper) (ρ:Env) (d:Option Nat) (v:Vl) (h:∀ t,d=some t→t ∉ o.looksAt ops) (p q:Prop):Xm ops o (put N ρ d v) p q=Xm ops o ρ p q:=by
 unfold Xm
 cases hg:o.guard with
 | none=>rfl
 | some g=>
  obtain ⟨j,want⟩:=g
  simp only
  have:Qe ops (put N ρ d v) j=Qe ops ρ j:=by
   unfold Qe
   cases hd:(ops[j]?).bind (·.dst) with
   | none=>rfl
   | some t=>
    refine WO λ e=>h t e ?_
    unfold Oper.looksAt
    refine List.mem_append_right _ ?_
    simp only [hg,hd,Option.toList_some,List.mem_singleton]
  rw [this]
def OE (ρ:Env) {x y:Option Nat} (v u:Vl) (h:∀ t,x=some t→y≠some t):put N (put N ρ x v) y u=put N (put N ρ y u) x v:=by
 funext i
 by_cases hx:x=some i
 · have hy:y≠some i:=h i hx
   rw [WO hy]
   subst hx
   simp only [put,upd]
   cases Nat.beq i i&&Nat.blt i N with
   | true=>rfl
   | false=>exact (WO hy).symm
 · by_cases hy:y=some i
   · rw [WO (d:=x) hx]
     subst hy
     simp only [put,upd]
     cases Nat.beq i i&&Nat.blt i N with
     | true=>rfl
     | false=>exact WO hx
   · rw [WO hy,WO hx,WO hx,WO hy]
def QL.put {o oj:Oper} {v u:Vl} {ρ:Env} (hs:∀ cs b,o.op ≠ .select cs b) (h:QL P ops C o v ρ) (hd:∀ t,oj.dst=some t→t ∉ o.looksAt ops):QL P ops C o v (put N ρ oj.dst u):=by
 rcases h with ⟨hg,hde,hr⟩ | ⟨hg,hv⟩
 · exact .inl ⟨λ p q=>(Jd o ρ _ u hd p q).trans (hg p q),hde,λ w hw=>by rw [qF o hs ρ _ u hd];exact hr w hw⟩
 · exact .inr ⟨λ p q=>(Jd o ρ _ u hd p q).trans (hg p q),hv⟩
def IJ {j:Nat} {oi oj:Oper} {v:Vl} (hj:ops[j]?=some oj) (hap:oi.apart ops oj=true) (hsi:∀ cs b,oi.op ≠ .select cs b) (hsj:∀ cs b,oj.op ≠ .select cs b) {k:Env→LDf→Wd→Prop} {ρ:Env} {ds:LDf} {w:Wd}
 (hy:QL P ops C oi v ρ) (h:denOp P N ro ops (λ ch _ ds w=>QP0 ch ds w) j k (put N ρ oi.dst v) ds w) :
 denOp P N ro ops (λ ch _ ds w=>QP0 ch ds w) j (λ ρ' ds' w'=>QL P ops C oi v ρ'∧k (put N ρ' oi.dst v) ds' w') ρ ds w:=by
 obtain ⟨h1,h2,h3⟩:=Oper.apart_spec hap
 unfold denOp at *
 simp only [hj] at *
 rw [Jd oj ρ oi.dst v h1] at h
 have step:∀ u ds' w',k (put N (put N ρ oi.dst v) oj.dst u) ds' w'→QL P ops C oi v (put N ρ oj.dst u)∧k (put N (put N ρ oj.dst u) oi.dst v) ds' w':=λ u ds' w' hk=>
  ⟨hy.put hsi h3,by rw [← OE ρ v u h2];exact hk⟩
 have hE:opE P ro (λ ch _ ds w=>QP0 ch ds w) oj (put N ρ oi.dst v) ds w (λ d w=>k (put N (put N ρ oi.dst v) oj.dst undef) (d::ds) w) (λ u w=>k (put N (put N ρ oi.dst v) oj.dst u) ds w) →
  opE P ro (λ ch _ ds w=>QP0 ch ds w) oj ρ ds w (λ d w=>QL P ops C oi v (put N ρ oj.dst undef)∧k (put N (put N ρ oj.dst undef) oi.dst v) (d::ds) w) (λ u w=>QL P ops C oi v (put N ρ oj.dst u)∧k (put N (put N ρ oj.dst u) oi.dst v) ds w):=by
  intro hh
  have:opE P ro (λ ch _ ds w=>QP0 ch ds w) oj ρ ds w (λ d w=>k (put N (put N ρ oi.dst v) oj.dst undef) (d::ds) w) (λ u w=>k (put N (put N ρ oi.dst v) oj.dst u) ds w):=by
   unfold opE at *
   rw [qF oj hsj ρ oi.dst v h1] at hh
   exact hh
  exact U3 this (λ d w hh=>step _ _ _ hh) (λ u w hh=>step _ _ _ hh)
 unfold Xm at *
 cases hg:oj.guard with
 | none=>rw [hg] at h;exact hE h
 | some g=>rw [hg] at h;exact Up h hE (step _ _ _)
def Gn (o:Oper):Bool:=match o.op with | .select .. => false | _=>true
def WK {o:Oper} (h:Gn o=true):∀ cs b,o.op ≠ .select cs b:=by
 intro cs b e;simp [Gn,e] at h
def zZ (ops:Array Oper) (done:List Nat) (i:Nat):Bool:=match ops[i]? with
 | none=>false
 | some o=>Gn o&&(List.range ops.size).all λ j=>done.contains j||Nat.beq j i||(match ops[j]? with
  | none=>true
  | some oj=>Gn oj&&(oj.after.any (λ e=>Region.binds .any e&&Nat.beq e.on i)||o.apart ops oj))
def QL.turn {C':WPr} {i:Nat} {o:Oper} {v:Vl} {ρ:Env} {w:Wd} (hi:ops[i]?=some o) (hm:Es ops i=true) (hw:C w) (h:QL P ops C o v ρ):QL P ops C' o v ρ:=by
 unfold Es at hm
 rw [hi] at hm
 simp only [Bool.and_eq_true] at hm
 obtain ⟨h1,h2⟩:=hm
 have hg:∀ p q,Xm ops o ρ p q=p:=by
  intro p q
  unfold Xm
  cases hgd:o.guard with
  | none=>rfl
  | some g=>rw [hgd] at h2;cases h2
 rcases h with ⟨_,hd,hr⟩ | ⟨hg',_⟩
 · refine .inl ⟨hg,hd,λ w' _=>?_⟩
   have:=hr w hw
   cases ho:o.op with
   | move x=>
    have he:execOp (ev ρ) o=Sem.pure (.value (ev ρ x)):=by unfold execOp;rw [ho];rfl
    rw [he] at this ⊢
    have hv:(Sem.pure (.value (ev ρ x)):Sem Next).run P w = .ok (.value (ev ρ x)) w:=rfl
    rw [hv] at this
    injection this with this _
    rw [← this];rfl
   | _=>rw [ho] at h1;cases h1
 · have h3:=hg True False
   rw [hg' True False] at h3
   exact absurd trivial (by rw [← h3];exact id)
def QL.sub {C':WPr} {o:Oper} {v:Vl} {ρ:Env} (h:QL P ops C o v ρ) (hs:∀ x,C' x→C x):QL P ops C' o v ρ:=by
 rcases h with ⟨h1,h2,h3⟩ | h
 · exact .inl ⟨h1,h2,λ w hw=>h3 w (hs w hw)⟩
 · exact .inr h
def zX {i:Nat} {oi:Oper} {v:Vl} (hi:ops[i]?=some oi) (hsi:∀ cs b,oi.op ≠ .select cs b):∀ (fuel:Nat) (C:WPr) (done:List Nat) (ρ:Env) (ds:LDf) (w:Wd),
 (∀ j oj,ops[j]?=some oj→j≠i→done.contains j=false→(∀ cs b,oj.op ≠ .select cs b)∧((∀ e∈oj.after,Region.binds .any e=true→e.on≠i)→oi.apart ops oj=true)) →
 i∈YM ops done→VD ops done→C w→QL P ops C oi v ρ→X6 P N ro ops Q (λ ch _ ds w=>QP0 ch ds w) C fuel (i::done) (put N ρ oi.dst v) ds w→X6 P N ro ops Q (λ ch _ ds w=>QP0 ch ds w) C (fuel+1) done ρ ds w:=by
 intro fuel
 induction fuel with
 | zero=>
  intro C done ρ ds w _ hr _ hC hy H
  refine ⟨λ h=>(by rw [h] at hr;cases hr),λ j hj=>?_⟩
  by_cases hji:j=i
  · subst hji;exact hy.denOp hi hC (.inl ⟨hC,H⟩)
  · have:=Vn hj hji
    rw [H.1] at this
    cases this
 | succ fuel ih=>
  intro C done ρ ds w hfree hr hcl hC hy H
  refine ⟨λ h=>(by rw [h] at hr;cases hr),λ j hj=>?_⟩
  by_cases hji:j=i
  · subst hji;exact hy.denOp hi hC (.inl ⟨hC,H⟩)
  · have h1:=H.2 j (Vn hj hji)
    have hj':=V4.1 hj
    obtain ⟨hjun,oj,hoj,hall⟩:=hj'
    have hfr:=hfree j oj hoj hji hjun
    have hnot:∀ e∈oj.after,Region.binds .any e=true→e.on≠i:=λ e he hb heq=>by
     have h1:=hall e he hb
     have h0:=(V4.1 hr).1
     rw [heq] at h1
     rw [h0] at h1;cases h1
    have h2:=IJ hoj (hfr.2 hnot) hsi hfr.1 hy h1
    have c:∀ x,(j::done).contains x=(x == j||done.contains x):=λ x=>by rw [List.contains_cons]
    have hperm:∀ x,(j::i::done).contains x=(i::j::done).contains x:=λ x=>by simp only [List.contains_cons];cases (x == i)<;>cases (x == j)<;>rfl
    have hfree':∀ k ok,ops[k]?=some ok→k≠i→(j::done).contains k=false→(∀ cs b,ok.op ≠ .select cs b)∧((∀ e∈ok.after,Region.binds .any e=true→e.on≠i)→oi.apart ops ok=true):=
     λ k ok hk hki hun=>hfree k ok hk hki (by rw [c] at hun;simp only [Bool.or_eq_false_iff] at hun;exact hun.2)
    refine GZ (λ ρ' ds' w' h3=>?_) h2
    rcases h3 with ⟨hs3,⟨hC3,h3⟩ | ⟨C',⟨n,hm⟩ | hsub,hC3,h3⟩⟩
    · exact .inl ⟨hC3,ih C (j::done) ρ' ds' w' hfree' (Vn hr (Ne.symm hji)) (hcl.step hj) hC3 hs3 (WH fuel hperm h3)⟩
    · have hmv:Es ops i=true:=by
       unfold VH at hm
       rw [List.all_cons,Bool.and_eq_true,Bool.or_eq_true] at hm
       rcases hm.1 with hm | hm
       · exfalso
         rcases qB hcl hj n [j] (λ x hx => .inl (by simpa using hx)) i (List.contains_iff_mem.1 hm) with h | h
         · exact hji h.symm
         · rw [(V4.1 hr).1] at h;cases h
       · exact hm
      have hm':VH ops n done j=true:=by
       unfold VH at hm ⊢
       rw [List.all_cons,Bool.and_eq_true] at hm
       exact hm.2
      exact .inr ⟨C',.inl ⟨n,hm'⟩,hC3,ih C' (j::done) ρ' ds' w' hfree' (Vn hr (Ne.symm hji)) (hcl.step hj) hC3 (hs3.turn hi hmv hC) (WH fuel hperm h3)⟩
    · exact .inr ⟨C',.inr hsub,hC3,ih C' (j::done) ρ' ds' w' hfree' (Vn hr (Ne.symm hji)) (hcl.step hj) hC3 (hs3.sub hsub) (WH fuel hperm h3)⟩
def UA (i:Nat) {fuel:Nat} {done:List Nat} {o:Oper} {v:Vl} {ρ:Env} {ds:LDf} {w:Wd} (hC:C w) (hi:ops[i]?=some o) (hr:(YM ops done).contains i=true) (hf:zZ ops done i=true) (hg:∀ p q,Xm ops o ρ p q=p) (hd:XD o.op=false)
 (hs:∀ w,C w→(execOp (ev ρ) o).run P w = .ok (.value v) w) (h:XU P N ro ops Q (λ ch _ ds w=>QP0 ch ds w) C fuel (i::done) (put N ρ o.dst v) ds w):XU P N ro ops Q (λ ch _ ds w=>QP0 ch ds w) C (fuel+1) done ρ ds w:=by
 unfold zZ at hf
 rw [hi] at hf
 simp only [Bool.and_eq_true,List.all_eq_true,List.mem_range] at hf
 obtain ⟨hns,hf⟩:=hf
 intro hcl
 refine zX hi (WK hns) fuel C done ρ ds w (λ j oj hoj Y7 hun=>?_) (List.contains_iff_mem.1 hr) hcl hC (.inl ⟨hg,hd,hs⟩) (h (hcl.step (List.contains_iff_mem.1 hr)))
 have hj:=hf j (Qqj hoj).1
 rw [hoj,hun] at hj
 have hne':Nat.beq j i=false:=by rw [Bool.eq_false_iff];simpa using Y7
 rw [hne'] at hj
 simp only [Bool.false_or,Bool.and_eq_true,Bool.or_eq_true] at hj
 refine ⟨WK hj.1,λ hno=>?_⟩
 rcases hj.2 with h | h
 · rw [Array.any_eq_true'] at h
   obtain ⟨e,he,hb⟩:=h
   simp only [Bool.and_eq_true] at hb
   exact absurd (by simpa using hb.2) (hno e he hb.1)
 · exact h
def OQ (i:Nat) {fuel:Nat} {done:List Nat} {o:Oper} {ρ:Env} {ds:LDf} {w:Wd} (hC:C w) (hi:ops[i]?=some o) (hr:(YM ops done).contains i=true) (hf:zZ ops done i=true) (hg:∀ p q,Xm ops o ρ p q=q)
 (h:XU P N ro ops Q (λ ch _ ds w=>QP0 ch ds w) C fuel (i::done) (put N ρ o.dst undef) ds w):XU P N ro ops Q (λ ch _ ds w=>QP0 ch ds w) C (fuel+1) done ρ ds w:=by
 unfold zZ at hf
 rw [hi] at hf
 simp only [Bool.and_eq_true,List.all_eq_true,List.mem_range] at hf
 obtain ⟨hns,hf⟩:=hf
 intro hcl
 refine zX hi (WK hns) fuel C done ρ ds w (λ j oj hoj Y7 hun=>?_) (List.contains_iff_mem.1 hr) hcl hC (.inr ⟨hg,rfl⟩) (h (hcl.step (List.contains_iff_mem.1 hr)))
 have hj:=hf j (Qqj hoj).1
 rw [hoj,hun] at hj
 have hne':Nat.beq j i=false:=by rw [Bool.eq_false_iff];simpa using Y7
 rw [hne'] at hj
 simp only [Bool.false_or,Bool.and_eq_true,Bool.or_eq_true] at hj
 refine ⟨WK hj.1,λ hno=>?_⟩
 rcases hj.2 with h | h
 · rw [Array.any_eq_true'] at h
   obtain ⟨e,he,hb⟩:=h
   simp only [Bool.and_eq_true] at hb
   exact absurd (by simpa using hb.2) (hno e he hb.1)
 · exact h
abbrev NX (P:Program) (N:Nat) (ro:Option Nat) (ops:Array Oper) (Q:Env→LDf→Wd→Prop) (QP:KP) (C:WPr) (fuel:Nat) (done:List Nat) (i:Nat):Env→LDf→Wd→Prop:=
 λ ρ ds w=>(C w∧X6 P N ro ops Q QP C fuel (i::done) ρ ds w)∨∃ C',MQ ops C C' done i∧C' w∧X6 P N ro ops Q QP C' fuel (i::done) ρ ds w
def VV {o:Oper} {T T':Env→LDf→Wd→Prop} {ρ:Env} {ds:LDf} {w:Wd} (h:ZP P N ro QP T [o] ρ ds w) (hT:∀ ρ ds w,T ρ ds w→T' ρ ds w):ZP P N ro QP T' [o] ρ ds w:=U3 h (λ _ _=>hT _ _ _) (λ _ _=>hT _ _ _)
def M3 {i:Nat} {done l:List Nat} (hr:YM ops done=l) (hi:i∈l):i∈YM ops done:=by rw [hr];exact hi
def OP (i:Nat) {fuel:Nat} {done:List Nat} {o:Oper} {ρ:Env} {ds:LDf} {w:Wd} (hi:ops[i]?=some o) (hr:YM ops done=[i]) (hg:∀ p q,Xm ops o ρ p q=p)
 (h:ZP P N ro QP (λ ρ ds w=>C w∧XU P N ro ops Q QP C fuel (i::done) ρ ds w) [o] ρ ds w):XU P N ro ops Q QP C (fuel+1) done ρ ds w:=by
 intro hcl
 refine ⟨λ h0=>(by rw [hr] at h0;cases h0),λ j hj=>?_⟩
 have hj0:=hj
 rw [hr] at hj
 simp only [List.mem_singleton] at hj
 subst hj
 unfold denOp
 rw [hi]
 simp only
 rw [hg]
 exact VV (T':=NX P N ro ops Q QP C fuel done j) h λ ρ ds w hh => .inl ⟨hh.1,hh.2 (hcl.step hj0)⟩
def Ih (i:Nat) {fuel:Nat} {done:List Nat} {o:Oper} {ρ:Env} {ds:LDf} {w:Wd} (hi:ops[i]?=some o) (hr:YM ops done=[i]) (hg:∀ p q,Xm ops o ρ p q=p)
 (h:ZP P N ro QP (λ ρ ds w=>∃ C':Wd→Prop,(∀ x,C' x→C x)∧C' w∧XU P N ro ops Q QP C' fuel (i::done) ρ ds w) [o] ρ ds w):XU P N ro ops Q QP C (fuel+1) done ρ ds w:=by
 intro hcl
 refine ⟨λ h0=>(by rw [hr] at h0;cases h0),λ j hj=>?_⟩
 have hj0:=hj
 rw [hr] at hj
 simp only [List.mem_singleton] at hj
 subst hj
 unfold denOp
 rw [hi]
 simp only
 rw [hg]
 exact VV (T':=NX P N ro ops Q QP C fuel done j) h λ ρ ds w ⟨C',h0,h1,h2⟩ => .inr ⟨C',.inr h0,h1,h2 (hcl.step hj0)⟩
def OR (i n:Nat) {fuel:Nat} {done:List Nat} {o:Oper} {ρ:Env} {ds:LDf} {w:Wd} (hi:ops[i]?=some o) (hr:YM ops done=[i]) (hm:VH ops n done i=true) (hg:∀ p q,Xm ops o ρ p q=p)
 (h:ZP P N ro QP (λ ρ ds w=>∃ C':Wd→Prop,C' w∧XU P N ro ops Q QP C' fuel (i::done) ρ ds w) [o] ρ ds w):XU P N ro ops Q QP C (fuel+1) done ρ ds w:=by
 intro hcl
 refine ⟨λ h0=>(by rw [hr] at h0;cases h0),λ j hj=>?_⟩
 have hj0:=hj
 rw [hr] at hj
 simp only [List.mem_singleton] at hj
 subst hj
 unfold denOp
 rw [hi]
 simp only
 rw [hg]
 exact VV (T':=NX P N ro ops Q QP C fuel done j) h λ ρ ds w ⟨C',h1,h2⟩ => .inr ⟨C',.inl ⟨n,hm⟩,h1,h2 (hcl.step hj0)⟩
def Y5 (i i2:Nat) {fuel:Nat} {done:List Nat} {o o2:Oper} {ρ:Env} {ds:LDf} {w:Wd} (hi:ops[i]?=some o) (hi2:ops[i2]?=some o2) (hr:YM ops done=[i,i2]) (hg:∀ p q,Xm ops o ρ p q=p) (hg2:∀ p q,Xm ops o2 ρ p q=p)
 (h:ZP P N ro QP (λ ρ ds w=>∃ C':Wd→Prop,(∀ x,C' x→C x)∧C' w∧XU P N ro ops Q QP C' fuel (i::done) ρ ds w) [o] ρ ds w)
 (h2:ZP P N ro QP (λ ρ ds w=>∃ C':Wd→Prop,(∀ x,C' x→C x)∧C' w∧XU P N ro ops Q QP C' fuel (i2::done) ρ ds w) [o2] ρ ds w):XU P N ro ops Q QP C (fuel+1) done ρ ds w:=by
 intro hcl
 refine ⟨λ h0=>(by rw [hr] at h0;cases h0),λ j hj=>?_⟩
 rw [hr] at hj
 simp only [List.mem_cons,List.not_mem_nil,or_false] at hj
 rcases hj with rfl | rfl
 · unfold denOp;rw [hi];simp only;rw [hg];exact VV (T':=NX P N ro ops Q QP C fuel done _) h λ ρ ds w ⟨C',k0,k1,k2⟩ => .inr ⟨C',.inr k0,k1,k2 (hcl.step (M3 hr (by simp)))⟩
 · unfold denOp;rw [hi2];simp only;rw [hg2];exact VV (T':=NX P N ro ops Q QP C fuel done _) h2 λ ρ ds w ⟨C',k0,k1,k2⟩ => .inr ⟨C',.inr k0,k1,k2 (hcl.step (M3 hr (by simp)))⟩
def TW {fuel:Nat} {done:List Nat} {ρ:Env} {ds:LDf} {w:Wd} (hr:YM ops done=[]) (h:Q ρ ds w):XU P N ro ops Q QP C fuel done ρ ds w:=by
 intro _
 cases fuel with
 | zero=>exact ⟨hr,h⟩
 | succ n=>exact ⟨λ _=>h,λ i hi=>by rw [hr] at hi;cases hi⟩
def OO {fuel:Nat} {done:List Nat} {ρ:Env} {ds:LDf} {w:Wd} (fuel':Nat) (done':List Nat) (S:List Nat) (J:Env→Wd→Prop)
 (hc:∀ T:Nat→List Nat→Env→Wd→Prop,(∀ ρ' w,Fr S ρ ρ'→C w→J ρ' w→XU P N ro ops Q QP C fuel' done' ρ' ds w)→XU P N ro ops Q QP C fuel done ρ ds w)
 (hJ:∀ σ w,C w→J σ w→XU P N ro ops Q QP C fuel' done' (mix S ρ σ) ds w):XU P N ro ops Q QP C fuel done ρ ds w:=
 hc (λ _ _ _ _=>True) λ ρ' w hf hC hj=>by rw [← Gl hf];exact hJ ρ' w hC hj
end
def qV (P:Program) (C:WPr) (s:Sem Vl) (k:Vl→Prop):Prop:=∃ v,(∀ w,C w→s.run P w = .ok v w)∧k v
def WB (w:Wd) (f:(Wd→Prop)→Wd→Prop):Prop:=∃ C:Wd→Prop,C w∧f C w
def XS (C:WPr) (w:Wd) (f:(Wd→Prop)→Wd→Prop):Prop:=∃ C':Wd→Prop,(∀ x,C' x→C x)∧C' w∧f C' w
def Z4 (w:Wd) (f:(Wd→Prop)→Wd→Prop):Prop:=∃ C:Wd→Prop,C (drew w)∧f C (drew w)
section
variable {P:Program} {N:Nat} {ro:Option Nat}
def VT {ops:Array Oper} {Q:Env→LDf→Wd→Prop} {QP:KP} {S:List Nat} {ρ0:Env} (hS:ops.toList.all (λ o=>match o.dst with | some d=>S.contains d | none=>true)=true):∀ (fuel:Nat) (C:WPr) (done:List Nat) (ρ:Env) (ds:LDf) (w:Wd),Fr S ρ0 ρ →
 X6 P N ro ops Q (λ ch _ ds w=>∀ ρ',Fr S ρ0 ρ'→QP ch ρ' ds w) C fuel done ρ ds w→X6 P N ro ops Q QP C fuel done ρ ds w
 | 0,_,_,_,_,_,_,h=>h
 | fuel+1,C,done,ρ,ds,w,hf,h=>⟨h.1,λ i hi=>by
  have h2:=h.2 i hi
  unfold denOp at *
  cases ho:ops[i]? with
  | none=>
   rw [ho] at h2
   rcases h2 with h2 | ⟨C',hm,hC,h2⟩
   · exact .inl ⟨h2.1,VT hS fuel _ _ _ _ _ hf h2.2⟩
   · exact .inr ⟨C',hm,hC,VT hS fuel _ _ _ _ _ hf h2⟩
  | some o=>
   rw [ho] at h2
   simp only at h2 ⊢
   have hm:o∈ops.toList:=by rw [← Array.getElem?_toList] at ho;exact List.mem_of_getElem? ho
   have hfp:∀ v,Fr S ρ0 (put N ρ o.dst v):=by
    intro v
    have:=List.all_eq_true.1 hS o hm
    cases hd:o.dst with
    | none=>exact hf
    | some d=>rw [hd] at this;exact hf.put this
   have hE:∀ {kd kd':Deferred→Wd→Prop} {k k':KV},(∀ d w,kd d w→kd' d w)→(∀ v w,k v w→k' v w)→opE P ro (λ ch _ ds w=>∀ ρ',Fr S ρ0 ρ'→QP ch ρ' ds w) o ρ ds w kd k→opE P ro QP o ρ ds w kd' k':=by
    intro kd kd' k k' hkd hk hh
    unfold opE at *
    cases hb:(XD o.op&&ro.isSome) with
    | true=>rw [hb] at hh;exact hh.elim
    | false=>rw [hb] at hh;exact JP hh (λ ch w hq=>hq ρ hf) hkd hk
   have next:∀ v ds w,((C w∧X6 P N ro ops Q (λ ch _ ds w=>∀ ρ',Fr S ρ0 ρ'→QP ch ρ' ds w) C fuel (i::done) (put N ρ o.dst v) ds w)∨∃ C',MQ ops C C' done i∧C' w∧X6 P N ro ops Q (λ ch _ ds w=>∀ ρ',Fr S ρ0 ρ'→QP ch ρ' ds w) C' fuel (i::done) (put N ρ o.dst v) ds w) →
    ((C w∧X6 P N ro ops Q QP C fuel (i::done) (put N ρ o.dst v) ds w)∨∃ C',MQ ops C C' done i∧C' w∧X6 P N ro ops Q QP C' fuel (i::done) (put N ρ o.dst v) ds w):=by
    intro v ds w hh
    rcases hh with hh | ⟨C',hm,hC,hh⟩
    · exact .inl ⟨hh.1,VT hS fuel _ _ _ _ _ (hfp v) hh.2⟩
    · exact .inr ⟨C',hm,hC,VT hS fuel _ _ _ _ _ (hfp v) hh⟩
   unfold Xm at *
   cases hg:o.guard with
   | none=>rw [hg] at h2;exact hE (λ d w=>next _ _ _) (λ v w=>next _ _ _) h2
   | some g=>rw [hg] at h2;exact Up h2 (λ hh=>hE (λ d w=>next _ _ _) (λ v w=>next _ _ _) hh) (next _ _ _)⟩
def TX {id:Nat} {l:List Oper} {Q:K} {QP:KP} {ρ:Env} {ds:LDf} {w:Wd} (S:List Nat) (hm:P.follows .mixedOrders=true) (hS:l.all (λ o=>match o.dst with | some d=>S.contains d | none=>true)=true) (C:WPr)
 (h:XU P N ro l.toArray (Q .normal) (λ ch _ ds w=>∀ ρ',Fr S ρ ρ'→QP ch ρ' ds w) C l.length [] ρ ds (drew w)):den P N ro (.region id l.toArray true) Q QP ρ ds w:=by
 refine ⟨hm,?_⟩
 have:l.toArray.size=l.length:=by simp
 refine Cj _ C _ [] _ _ _ ?_ (λ i hi=>by cases hi) (by rw [this];exact VT (by simpa using hS) _ _ _ _ _ _ (Fr.refl _ _) (h VD.nil))
 refine ⟨by simp,λ i hi=>?_⟩
 simp at hi
 simp [hi]
def BD {C:WPr} {s:Sem Vl} {o:Oper} {ρ:Env} {v:Vl} (hs:execOp (ev ρ) o=(do pure (.value (← s)))) (h:∀ w,C w→s.run P w = .ok v w):∀ w,C w→(execOp (ev ρ) o).run P w = .ok (.value v) w:=by
 intro w hw
 rw [hs,Ic,h w hw]
def Rb {C:WPr} {o:Oper} {ρ:Env} {v:Vl} (hs:execOp (ev ρ) o=Sem.pure (.value v)):∀ w,C w→(execOp (ev ρ) o).run P w = .ok (.value v) w:=by
 intro w _;rw [hs];rfl
def Tz {C:WPr} {c a b:Operand} {d:Nat} {ty:TypeId} {pos:String} {after:Array Edge} {g:Option (Nat×Bool)} {ρ:Env} {va vb:Vl} {t:Bool} (h1:ev ρ c = .bool t) (h2:ev ρ a=va) (h3:ev ρ b=vb) :
 ∀ w,C w→(execOp (ev ρ) ⟨some d,.pick c a b,ty,pos,after,g⟩).run P w = .ok (.value (if t then va else vb)) w:=by
 intro w _
 subst h2 h3
 show Sem.run P (do pure (.value (if ← asBool (ev ρ c) then ev ρ a else ev ρ b)):Sem Next) w=_
 rw [h1];rfl
def Mh {c a b:Vl} {k:Vl→Prop} (h:Zx c a b k):∃ t,c = .bool t∧k (if t then a else b):=by
 unfold Zx at h
 split at h
 · exact ⟨true,rfl,h⟩
 · exact ⟨false,rfl,h⟩
 · exact h.elim
def Ep {v:Vl} {want:Bool} {p q:Prop} (h:Zm v want p q):(XK v=some want∧p)∨(XK v≠some want∧q):=by
 by_cases hb:XK v=some want
 · rw [Xl hb] at h;exact .inl ⟨hb,h⟩
 · rw [Q2 hb] at h;exact .inr ⟨hb,h⟩
end
end Go.Sw
namespace Go.Sw
section
variable {P:Program} {N:Nat} {ro:Option Nat}
def MI (Q:K):QZ (λ ρ ds w=>Q .normal ρ ds w) Q=Q:=by funext e ρ ds w;cases e<;>rfl
def qm {c:Code} {Q:K} {QP:KP} {ρ:Env} {ds:LDf} {w:Wd} (S:List Nat) (J:Env→Wd→Prop)
 (hc:∀ k':Env→LDf→Wd→Prop,(∀ ρ' w,Fr S ρ ρ'→J ρ' w→k' ρ' ds w)→den P N ro c (QZ k' Q) QP ρ ds w) (hJ:∀ σ w,J σ w→Q .normal (mix S ρ σ) ds w):den P N ro c Q QP ρ ds w:=by
 have:=TY (k:=λ ρ ds w=>Q .normal ρ ds w) S J hJ hc
 rwa [MI] at this
def MD (n:Nat) (j:Nat) (want:Bool) {ops:Array Oper} {l:List Oper} {Q:K} {QP:KP} {ρ:Env} {ds:LDf} {w:Wd} {v:Vl} (S:List Nat) (J:Env→Wd→Prop) (hok:F2 ops j want (l.take n) (l.drop n)=true) (hv:Qe ops ρ j=v)
 (hc:∀ T:Env→LDf→Wd→Prop,(∀ ρ' w,Fr S ρ ρ'→J ρ' w→T ρ' ds w)→Zm v want (ZP P N ro QP T (l.take n) ρ ds w) (T (skipAll N (l.take n) ρ) ds w))
 (hJ:∀ σ w,J σ w→Yf P N ro ops Q QP (l.drop n) none (mix S ρ σ) ds w):Yf P N ro ops Q QP l none ρ ds w:=OS n j want S J hok hv hJ hc
variable {fn:Func} {R:RT} {ρ:Env} {w:Wd}
def Fk (hf:fn.results = #[]) (tmps:AVl):(results fn tmps).run P w = .ok (.tuple #[]) w:=by simp [results,hf]
def Fl {t:Tmp} (hf:fn.results = #[.tmp t]) (tmps:AVl):(results fn tmps).run P w = .ok (tmps.getD t undef) w:=by simp [results,hf]
def Fm {t u:Tmp} (hf:fn.results = #[.tmp t,.tmp u]) (tmps:AVl):(results fn tmps).run P w = .ok (.tuple #[tmps.getD t undef,tmps.getD u undef]) w:=by simp [results,hf]
def Fo {t u x:Tmp} (hf:fn.results = #[.tmp t,.tmp u,.tmp x]) (tmps:AVl):(results fn tmps).run P w = .ok (.tuple #[tmps.getD t undef,tmps.getD u undef,tmps.getD x undef]) w:=by simp [results,hf]
def ZR (hf:fn.results = #[]) (h:R (.returned (.tuple #[])) w):Un P fn R .ret ρ [] w:=⟨rfl,λ tmps _=>⟨_,Fk hf tmps,h⟩⟩
def Zj {t:Tmp} {a:Vl} (hf:fn.results = #[.tmp t]) (h1:ρ t=a) (h:R (.returned a) w):Un P fn R .ret ρ [] w:=⟨rfl,λ tmps ht=>⟨_,Fl hf tmps,by rw [ht,h1];exact h⟩⟩
def Yg {t u:Tmp} {a b:Vl} (hf:fn.results = #[.tmp t,.tmp u]) (h1:ρ t=a) (h2:ρ u=b) (h:R (.returned (.tuple #[a,b])) w):Un P fn R .ret ρ [] w:=⟨rfl,λ tmps ht=>⟨_,Fm hf tmps,by rw [ht,ht,h1,h2];exact h⟩⟩
def NN {t u x:Tmp} {a b c:Vl} (hf:fn.results = #[.tmp t,.tmp u,.tmp x]) (h1:ρ t=a) (h2:ρ u=b) (h3:ρ x=c) (h:R (.returned (.tuple #[a,b,c])) w):Un P fn R .ret ρ [] w:=⟨rfl,λ tmps ht=>⟨_,Fo hf tmps,by rw [ht,ht,ht,h1,h2,h3];exact h⟩⟩
def ZJ {ds:LDf} (h:Un P fn R .ret ρ ds w):Un P fn R .normal ρ ds w:=h
def opN (P:Program) (s:Sem Next) (QP:PEn) (w:Wd) (k:KV):Prop:=opD P s w QP (λ _ _=>False) k
def T0 {QP:KP} {T:Env→LDf→Wd→Prop} {o:Oper} {rest:List Oper} {ds:LDf} {s:Sem Next} {QP':PEn} {k:KV} (h:opN P s QP' w k) (hd:XD o.op=false) (hs:execOp (ev ρ) o=s) (hp:∀ ch w,QP' ch w→QP ch ρ ds w)
 (hk:∀ v w',k v w'→ZP P N ro QP T rest (put N ρ o.dst v) ds w'):ZP P N ro QP T (o::rest) ρ ds w:=by
 show opE P ro QP o ρ ds w _ _
 unfold opE
 rw [hd,hs]
 exact JP h hp (λ _ _ h=>h.elim) hk
def Qx {ops:Array Oper} {Q:Env→LDf→Wd→Prop} {QP:KP} {C:WPr} {fuel:Nat} {done:List Nat} {ds:LDf} (S:List Nat) (J:Env→Wd→Prop)
 (hc:∀ T:Env→LDf→Wd→Prop,(∀ ρ' w,Fr S ρ ρ'→J ρ' w→T ρ' ds w)→XU P N ro ops T QP C fuel done ρ ds w) (hJ:∀ σ w,J σ w→Q (mix S ρ σ) ds w):XU P N ro ops Q QP C fuel done ρ ds w:=
 hc Q λ ρ' w hf hj=>by rw [← Gl hf];exact hJ ρ' w hj
def qW (P:Program) (t:TypeId) (a:Vl) (w:Wd) (k:Vl→Prop):Prop:=∃ v,(do loadVar t (← asAddr a):Sem Vl).run P w = .ok v w∧k v
def Fp {t:Tmp} {c:TypeId} {v:Vl} (hf:fn.results = #[.cell t c]) (tmps:AVl) (h:(do loadVar c (← asAddr (tmps.getD t undef)):Sem Vl).run P w = .ok v w):(results fn tmps).run P w = .ok v w:=by
 rw [Sem.run_bind] at h
 simp [results,hf,Sem.run_bind]
 cases hr:(asAddr (tmps.getD t undef)).run P w with
 | ok a w'=>rw [← Array.getD_eq_getD_getElem?,hr];rw [hr] at h;simp [Result.andThen] at h ⊢;rw [h]
 | halt x w'=>rw [hr] at h;simp [Result.andThen] at h
def Gb {t:Tmp} {c:TypeId} {a:Vl} (hf:fn.results = #[.cell t c]) (h1:ρ t=a) (h:qW P c a w λ v=>R (.returned v) w):Un P fn R .ret ρ [] w:=by
 obtain ⟨v,hv,h⟩:=h
 exact ⟨rfl,λ tmps ht=>⟨_,Fp hf tmps (by rw [ht,h1];exact hv),h⟩⟩
def Cw {t u:Tmp} {c:TypeId} {v:Vl} (hf:fn.results = #[.cell t c,.tmp u]) (tmps:AVl) (h:(do loadVar c (← asAddr (tmps.getD t undef)):Sem Vl).run P w = .ok v w):(results fn tmps).run P w = .ok (.tuple #[v,tmps.getD u undef]) w:=by
 rw [Sem.run_bind] at h
 simp [results,hf,Sem.run_bind]
 cases hr:(asAddr (tmps.getD t undef)).run P w with
 | ok a w'=>rw [← Array.getD_eq_getD_getElem?,hr];rw [hr] at h;simp [Result.andThen] at h ⊢;rw [h]
 | halt x w'=>rw [hr] at h;simp [Result.andThen] at h
def YD {t u:Tmp} {c:TypeId} {a b:Vl} (hf:fn.results = #[.cell t c,.tmp u]) (h1:ρ t=a) (h2:ρ u=b) (h:qW P c a w λ v=>R (.returned (.tuple #[v,b])) w):Un P fn R .ret ρ [] w:=by
 obtain ⟨v,hv,h⟩:=h
 exact ⟨rfl,λ tmps ht=>⟨_,Cw hf tmps (by rw [ht,h1];exact hv),by rw [ht,h2];exact h⟩⟩
section qs
variable {C:WPr} {ty:TypeId} {d:Nat} {pos:String} {after:Array Edge} {g:Option (Nat×Bool)} {v:Vl}
def Ze1 {op:BinOp} {t:TypeId} {x y:Operand} {t2:TypeId} {c:Bool} {a b:Vl} (hc:(Uq x||Uq y)=c) (h1:ev ρ x=a) (h2:ev ρ y=b) (h:∀ w,C w→(ZA op t c a b).run P w = .ok v w) :
 ∀ w,C w→(execOp (ev ρ) ⟨some d,.binOp op t x y t2,ty,pos,after,g⟩).run P w = .ok (.value v) w:=by
 subst hc h1 h2
 refine BD rfl λ w hw=>?_
 rw [MR];exact h w hw
def Mk {b:Builtin} {l:List Operand} {ats:Array TypeId} {s:Sem Vl} (hs:builtin b ats ty ((l.map λ | .const _=>true | _=>false).toArray) (l.map (ev ρ)).toArray=(do pure (.value (← s)))) (h:∀ w,C w→s.run P w = .ok v w) :
 ∀ w,C w→(execOp (ev ρ) ⟨some d,.call ⟨.builtin b,l.toArray,ats⟩,ty,pos,after,g⟩).run P w = .ok (.value v) w:=by
 refine BD ?_ h
 rw [← hs]
 simp only [execOp,resolve,List.map_toArray]
 rfl
def TC {t:TypeId} {ps:List (Nat×Operand)} {vs:List (Nat×Vl)} (h2:(ps.map λ (i,x)=>(i,ev ρ x))=vs) (h:∀ w,C w→(build t vs.toArray).run P w = .ok v w) :
 ∀ w,C w→(execOp (ev ρ) ⟨some d,.build t ps.toArray,ty,pos,after,g⟩).run P w = .ok (.value v) w:=by
 subst h2
 refine BD ?_ h
 simp only [execOp,List.map_toArray]
def H1 {fn:Fn} {fs cs:List Operand} {vf vs:List Vl} (h1:fs.map (ev ρ)=vf) (h2:cs.map (ev ρ)=vs) (h:∀ w,C w→(makeFunc fn vf.toArray vs.toArray).run P w = .ok v w) :
 ∀ w,C w→(execOp (ev ρ) ⟨some d,.makeFunc fn fs.toArray cs.toArray,ty,pos,after,g⟩).run P w = .ok (.value v) w:=by
 subst h1 h2
 refine BD ?_ h
 simp only [execOp,List.map_toArray]
def Ze0 {s:Sem Next} {o:Oper} (hs:execOp (ev ρ) o=s) (h:∀ w,C w→s.run P w = .ok (.value v) w):∀ w,C w→(execOp (ev ρ) o).run P w = .ok (.value v) w:=by rw [hs];exact h
end qs
def Y0 (v:Vl):Sem Next:=execOp (λ _=>v) ⟨none,.nilCheck (.tmp 0),0, "", #[],none⟩
def qN (P:Program) (C:WPr) (s:Sem Next) (k:Vl→Prop):Prop:=∃ v,(∀ w,C w→s.run P w = .ok (.value v) w)∧k v
end
end Go.Sw
namespace Go.Sw
open Go.RowKit (Below)
structure Ext (w w':Wd):Prop where
 os:w'.os=w.os
 tape:w'.tape=w.tape
 output:w'.output=w.output
 size:w.heap.size≤w'.heap.size
 block:∀ k,k < w.heap.size→w'.heap[k]?=w.heap[k]?
def Ext.refl (w:Wd):Ext w w:=⟨rfl,rfl,rfl,Nat.le_refl _,λ _ _=>rfl⟩
def Ext.trans {a b c:Wd} (h:Ext a b) (k:Ext b c):Ext a c:=
 ⟨k.os.trans h.os,k.tape.trans h.tape,k.output.trans h.output,Nat.le_trans h.size k.size,λ i hi=>(k.block i (Nat.lt_of_lt_of_le hi h.size)).trans (h.block i hi)⟩
def Ext.of_below {w w':Wd} (h:Below w.heap.size w w'):Ext w w':=⟨h.os,h.tape,h.output,h.size,h.block⟩
def Ext.alloc {a w:Wd} (h:Ext a w) (o:Obj):Ext a (w.alloc o):=h.trans ⟨rfl,rfl,rfl,by simp,λ k hk=>Below.heap_alloc _ _ _ hk⟩
def Ext.drew {a w:Wd} (h:Ext a w):Ext a (drew w):=⟨h.os,h.tape,h.output,h.size,h.block⟩
def Ext.wdrew {a w:Wd} (h:Ext a w):Ext a w.drew:=⟨h.os,h.tape,h.output,h.size,h.block⟩
def Ext.setCell {a w:Wd} (h:Ext a w) {p:Addr} (hp:a.heap.size≤p.block) (u:Vl):Ext a (w.setCell p u):=
 ⟨h.os,h.tape,h.output,by simpa using h.size,λ k hk=>(Below.heap_setCell _ _ _ _ C1).trans (h.block k hk)⟩
def Ext.grown {a w w':Wd} {row:Option Nat} (h:Ext a w) (hg:w.grownBy w' row) (hr:∀ k,row=some k→a.heap.size≤k):Ext a w':=
 ⟨hg.os.trans h.os,hg.tape.trans h.tape,hg.output.trans h.output,Nat.le_trans h.size hg.size,
  λ k hk=>(hg.block k (Nat.lt_of_lt_of_le hk h.size) (λ e=>by have:=hr k e.symm;omega)).trans (h.block k hk)⟩
def Ext.cell {w w':Wd} (h:Ext w w') {a:Addr} {v:Vl} (hc:w.cell? a=some v):w'.cell? a=some v:=
 (World.cell?_of_block (h.block a.block (World.block_lt_of_cell? w a hc))).trans hc
def Ext.cellEq {w w':Wd} (h:Ext w w') {a:Addr} (hb:a.block < w.heap.size):w'.cell? a=w.cell? a:=World.cell?_of_block (h.block a.block hb)
def Ext.frozenEq {w w':Wd} (h:Ext w w') {a:Addr} (hb:a.block < w.heap.size):w'.frozen? a=w.frozen? a:=World.frozen?_of_block (h.block a.block hb)
def Ext.obj {w w':Wd} (h:Ext w w') {b:Nat} {o:Obj} (hb:w.heap[b]?=some o):w'.heap[b]?=some o:=
 (h.block b (Qqj hb).1).trans hb
def Ret (P:Program) (f:FuncId) (args:AVl) (w:Wd) (Φ:KV):Prop:=Calls P f args w λ e w'=>∃ v,e = .returned v∧Φ v w'
def Ret.mono {P:Program} {f:FuncId} {args:AVl} {w:Wd} {Φ Φ':KV} (h:Ret P f args w Φ) (hk:∀ v w',Φ v w'→Φ' v w'):Ret P f args w Φ':=
 Calls.mono h λ _ _ ⟨v,he,hv⟩=>⟨v,he,hk v _ hv⟩
def ZE (Φ:KV):Ending→Wd→Prop:=λ e w'=>∃ v,e = .returned v∧Φ v w'
def TH {Φ:KV} {v:Vl} {w:Wd}:ZE Φ (.returned v) w=Φ v w:=by
 unfold ZE
 apply propext
 constructor
 · rintro ⟨v',he,h⟩;cases he;exact h
 · intro h;exact ⟨v,rfl,h⟩
def Zi {P:Program} {f:FuncId} {args:AVl} {QP:PEn} {w:Wd} {k:KV} {Φ:KV} (h:Ret P f args w Φ) (hk:∀ v w',Φ v w'→k v w'):ZU P f args QP w k:=
 Calls.mono h λ e w' ⟨v,he,hv⟩=>by subst he;exact hk v w' hv
def zcr {P:Program} {f:FuncId} {args:AVl} {QP:PEn} {w:Wd} {k:KV} {v:Vl} (h:Ret P f args w λ r w'=>r=v∧Ext w w') (hk:∀ w',Ext w w'→k v w'):ZU P f args QP w k:=Zi h λ _ w' h=>h.1 ▸ hk w' h.2
def Kc {P:Program} {fv:Vl} {args:AVl} {QP QP':PEn} {w:Wd} {k k':KV} (h:X9 P fv args QP w k) (hp:∀ ch w,QP ch w→QP' ch w) (hk:∀ v w,k v w→k' v w):X9 P fv args QP' w k':=JP h hp (λ _ _ h=>h.elim) hk
def Uo {P:Program} {f:FuncId} {args:AVl} {QP:PEn} {w:Wd} {k:KV} {R:RT} (h:Calls P f args w R) (hr:∀ v w',R (.returned v) w'→k v w') (hp:∀ ch w',R (.panicked ch) w'→QP ch w') (ho:∀ w',¬ R .outgrown w'):ZU P f args QP w k:=
 Calls.mono h λ e w' he=>by
  cases e with
  | returned v=>exact hr v w' he
  | panicked ch=>exact hp ch w' he
  | outgrown=>exact (ho w' he).elim
section
variable {P:Program} {QP:PEn} {w:Wd} {k:KV} {ku:WPr}
def ZV {s:Sem Vl} {v:Vl} {w':Wd} (h:s.run P w = .ok v w'):opV P s QP w k=k v w':=by unfold opV;rw [h]
def qb {s:Sem Unit} {u:Unit} {w':Wd} (h:s.run P w = .ok u w'):opU P s QP w ku=ku w':=by unfold opU;rw [h]
def Ow {s:Sem Vl} {v:Vl} {w':Wd} (h:s.run P w = .halt (.panic v) w'):opV P s QP w k=QP [{ v,recovered:=false }] w':=by unfold opV;rw [h]
def ZeR {s:Sem Next} {v:Vl} {w':Wd} (h:s.run P w = .ok (.value v) w'):opN P s QP w k=k v w':=by unfold opN opD;rw [h];rfl
def Zbv (T:TypeId) (v:Vl):(box T v).run P w = .ok (.pointer (some ⟨w.heap.size,0,none⟩)) (w.alloc (.cells v.cells T)):=by
 simp [box,newVar,newRow]
def Tk (T:TypeId) (v:Vl):opV P (box T v) QP w k=k (.pointer (some ⟨w.heap.size,0,none⟩)) (w.alloc (.cells v.cells T)):=ZV (Zbv T v)
def OL {T:TypeId} {i:TypeInfo} {z:Vl} (hi:P.info? T=some i) (hz:i.zero=some z) (u:Vl):(alloc T true u).run P w = .ok (.pointer (some ⟨w.heap.size,0,none⟩)) (w.alloc (.cells z.cells T)):=by
 simp [alloc,zeroValue,typeInfo,hi,hz,newVar,newRow]
structure ZF (P:Program) (T:TypeId) (agg:Bool) (size bytes:Nat) (z:Vl):Prop where
 info:∃ i,P.info? T=some i∧i.size=size∧i.bytes=bytes∧i.zero=some z
 under:∃ d,P.underlying T=some d∧(match d with | .struct _ | .array _ _=>true | _=>false)=agg
def Yv {T:TypeId} {agg:Bool} {n m:Nat} {z:Vl} (h:ZF P T agg n m z) (u:Vl):opV P (alloc T true u) QP w k=k (.pointer (some ⟨w.heap.size,0,none⟩)) (w.alloc (.cells z.cells T)):=by
 obtain ⟨⟨i,hi,_,_,hz⟩,_⟩:=h
 exact ZV (OL hi hz u)
def qk {T:TypeId} {agg:Bool} {n m:Nat} {z:Vl} (h:ZF P T agg n m z):(isAgg T).run P w = .ok agg w:=by
 obtain ⟨_,d,hd,ha⟩:=h
 unfold isAgg
 rw [Sem.run_bind]
 have:(underlying T).run P w = .ok d w:=run_underlying hd w
 rw [this]
 simp only [Result.andThen_ok]
 subst ha
 cases d<;>rfl
def run_sizeOf {T:TypeId} {agg:Bool} {n m:Nat} {z:Vl} (h:ZF P T agg n m z):(sizeOf T).run P w = .ok n w:=by
 obtain ⟨⟨i,hi,hs,_,_⟩,_⟩:=h
 simp [sizeOf,typeInfo,hi,hs]
def Uw (a:Addr):∀ (n i:Nat) (acc:AVl) (cs:List Vl),cs.length=n→(∀ j v,cs[j]?=some v→w.cell? (a.add (i+j))=some v)→(loadCellsFrom a i n acc).run P w = .ok (acc++cs.toArray) w
 | 0,i,acc,cs,hl,_=>by
  have:cs=[]:=List.eq_nil_of_length_eq_zero hl
  subst this;simp [loadCellsFrom]
 | n+1,i,acc,cs,hl,hc=>by
  cases cs with
  | nil=>cases hl
  | cons c cs=>
   have h0:=hc 0 c rfl
   rw [Nat.add_zero] at h0
   simp only [loadCellsFrom,Sem.run_bind,run_load,h0,Result.andThen_ok]
   rw [Uw a n (i+1) _ cs (by simpa using hl) (λ j v hv=>by have:=hc (j+1) v hv;rwa [show i+1+j=i+(j+1) by omega])]
   simp
def QC (P:Program) (w:Wd) (T:TypeId) (a:Addr) (v:Vl):Prop:=(loadVar T a).run P w = .ok v w
def QC.one {T:TypeId} {n m:Nat} {z v:Vl} {a:Addr} (h:ZF P T false n m z) (hc:w.cell? a=some v):QC P w T a v:=by
 unfold QC loadVar
 rw [Sem.run_bind,qk h]
 simp [hc]
def QC.many {T:TypeId} {n m:Nat} {z:Vl} {a:Addr} {cs:List Vl} (h:ZF P T true n m z) (hl:cs.length=n) (hc:∀ j v,cs[j]?=some v→w.cell? (a.add j)=some v):QC P w T a (.agg cs.toArray):=by
 unfold QC loadVar
 rw [Sem.run_bind,qk h]
 have:=Uw (P:=P) (w:=w) a n 0 #[] cs hl (λ j v hv=>by rw [Nat.zero_add];exact hc j v hv)
 simp only [Result.andThen_ok,if_true,Sem.run_bind,run_sizeOf h,loadCells,this,Sem.run_pure,Array.empty_append]
def Gp {T:TypeId} {a:Addr} {v:Vl} (h:QC P w T a v):opV P (loadAt T (.pointer (some a))) QP w k=k v w:=by
 refine ZV ?_
 simp only [loadAt,Instr.sureAddr,Sem.run_bind,Sem.run_pure,Result.andThen_ok]
 exact h
def By {T:TypeId} {n m:Nat} {z v:Vl} {a:Addr} (h:ZF P T false n m z) (hc:w.cell? a=some v):opV P (loadAt T (.pointer (some a))) QP w k=k v w:=Gp (QC.one h hc)
def Mw {T:TypeId} {m:Nat} {z v u:Vl} {a:Addr} (h:ZF P T false 1 m z) (hv:v.oneCell'=true) (hc:w.cell? a=some u) (hf:w.frozen? a=false):(storeAt T (.pointer (some a)) v).run P w = .ok () (w.setCell a v):=by
 have hcells:v.cells = #[v]:=by cases v<;>first | rfl | simp [Value.oneCell'] at hv
 have hadd:a.add 0=a:=by simp [Addr.add]
 simp [storeAt,Instr.sureAddr,storeVar,run_sizeOf h,hcells,storeCells,hadd,run_store P w a v .plain hv,hc,hf]
def DH {T:TypeId} {m:Nat} {z v u:Vl} {a:Addr} (h:ZF P T false 1 m z) (hv:v.oneCell'=true) (hc:w.cell? a=some u) (hf:w.frozen? a=false):opU P (storeAt T (.pointer (some a)) v) QP w ku=ku (w.setCell a v):=qb (Mw h hv hc hf)
def Ux (o:AVl) (T:TypeId) (i:Nat) (v:Vl):(w.alloc (.cells o T)).setCell ⟨w.heap.size,i,none⟩ v=w.alloc (.cells (o.setIfInBounds i v) T):=by
 simp only [World.setCell,World.alloc]
 congr 1
 apply Array.ext_getElem?
 intro j
 simp only [Array.getElem?_modify,Array.getElem?_push]
 by_cases hj:w.heap.size=j
 · subst hj;simp
 · by_cases hjs:j=w.heap.size
   · exact absurd hjs.symm hj
   · simp [hj,hjs]
def J5 (T:TypeId):∀ (vs:List Vl) (i:Nat) (o:AVl),i+vs.length≤o.size→(∀ v∈vs,v.oneCell'=true) →
 ∃ o':AVl,(storeCells ⟨w.heap.size,0,none⟩ vs i).run P (w.alloc (.cells o T)) = .ok () (w.alloc (.cells o' T))∧o'.size=o.size∧∀ j,o'[j]?=if i≤j∧j < i+vs.length then vs[j - i]? else o[j]?
 | [],i,o,_,_=>⟨o,by simp [storeCells],rfl,λ j=>by rw [if_neg];simp⟩
 | v::vs,i,o,hl,hv=>by
  simp only [List.length_cons] at hl
  have hadd:(⟨w.heap.size,0,none⟩:Addr).add i=⟨w.heap.size,i,none⟩:=by rw [Addr.add_lit];simp
  have X4:(w.alloc (.cells o T)).cell? ⟨w.heap.size,i,none⟩=some (o[i]'C1):=by
   simp [World.cell?_alloc_new]
  have hfr:(w.alloc (.cells o T)).frozen? ⟨w.heap.size,i,none⟩=false:=by simp
  obtain ⟨o',h1,h2,h3⟩:=J5 T vs (i+1) (o.setIfInBounds i v) (by simp;omega) (λ u hu=>hv u (List.mem_cons_of_mem _ hu))
  refine ⟨o',?_,by simpa using h2,λ j=>?_⟩
  · simp only [storeCells,Sem.run_bind,hadd,run_store P _ _ v .plain (hv v (List.mem_cons_self ..)),X4,hfr]
    simp only [Bool.false_eq_true,if_false,Result.andThen_ok,Ux]
    exact h1
  · rw [h3 j]
    by_cases h:i+1≤j∧j < i+1+vs.length
    · rw [if_pos h,if_pos (by simp;omega)]
      have:j - i=(j - (i+1))+1:=C1
      rw [this,List.getElem?_cons_succ]
    · rw [if_neg h]
      by_cases hji:j=i
      · subst hji
        have Yo:j < o.size:=C1
        rw [if_pos (by simp)];simp [Yo]
      · rw [if_neg (by simp;omega)]
        rw [Array.getElem?_setIfInBounds_ne C1]
def H9 {s:TypeId} {fs:Array Field} {f:Field} {i:Nat} {agg:Bool} {n m:Nat} {z:Vl} (hu:P.underlying s=some (.struct fs)) (hf:fs[i]?=some f) (ht:ZF P f.type agg n m z) (hn:(n == 0)=false) (b o:Nat) :
 (fieldAt s (.pointer (some ⟨b,o,none⟩)) i).run P w = .ok (.pointer (some ⟨b,o+f.offset,none⟩)) w:=by
 have hn':n≠0:=by simpa using hn
 simp [fieldAt,run_underlying hu,hf,Instr.sureAddr,fieldPlace,run_sizeOf ht,hn',Addr.add_lit]
def LS {s:TypeId} {fs:Array Field} {f:Field} {i:Nat} {agg:Bool} {n m:Nat} {z:Vl} (hu:P.underlying s=some (.struct fs)) (hf:fs[i]?=some f) (ht:ZF P f.type agg n m z) (hn:(n == 0)=false) (b o:Nat) :
 opV P (fieldAt s (.pointer (some ⟨b,o,none⟩)) i) QP w k=k (.pointer (some ⟨b,o+f.offset,none⟩)) w:=ZV (H9 hu hf ht hn b o)
def ZK {s:TypeId} {fs:Array Field} {i off ft:Nat} {agg:Bool} {n m:Nat} {z:Vl} (hu:P.underlying s=some (.struct fs)) (hf:(fs[i]?).map (λ f=>(f.type,f.offset))=some (ft,off)) (ht:ZF P ft agg n m z) (hn:(n == 0)=false) (b o:Nat) :
 opV P (fieldAt s (.pointer (some ⟨b,o,none⟩)) i) QP w k=k (.pointer (some ⟨b,o+off,none⟩)) w:=by
 obtain ⟨f,h1,h2⟩:=Option.map_eq_some_iff.1 hf
 simp only [Prod.mk.injEq] at h2
 obtain ⟨rfl,rfl⟩:=h2
 exact LS hu h1 ht hn b o
def Xo {s:TypeId} {fs:Array Field} {i ft:Nat} {agg:Bool} {n m:Nat} {z:Vl} (hu:P.underlying s=some (.struct fs)) (hf:(fs[i]?).map (λ f=>(f.type,f.offset))=some (ft,0)) (ht:ZF P ft agg n m z) (hn:(n == 0)=false) (b o:Nat) :
 opV P (fieldAt s (.pointer (some ⟨b,o,none⟩)) i) QP w k=k (.pointer (some ⟨b,o,none⟩)) w:=ZK hu hf ht hn b o
def Ia {t e:TypeId} {agg:Bool} {n m:Nat} {z:Vl} (hu:P.underlying t=some (.slice e)) (ht:ZF P e agg n m z) (b o len cap:Nat) (ik:IntKind) (i:Int) (h0:0≤i) (h1:i < len) :
 (indexAt t (.slice (some ⟨b,o,none⟩) len cap) (.int ik i)).run P w = .ok (.pointer (some ⟨b,o+i.toNat*n,none⟩)) w:=by
 simp [indexAt,asIntOf,run_underlying hu,run_sizeOf ht,h0,h1,Addr.add_lit]
def ZZ {t e:TypeId} {agg:Bool} {n m:Nat} {z:Vl} (hu:P.underlying t=some (.slice e)) (ht:ZF P e agg n m z) (b o len cap:Nat) (ik:IntKind) (i:Int) (h0:0≤i) (h1:i < len) :
 opV P (indexAt t (.slice (some ⟨b,o,none⟩) len cap) (.int ik i)) QP w k=k (.pointer (some ⟨b,o+i.toNat*n,none⟩)) w:=ZV (Ia hu ht b o len cap ik i h0 h1)
def Cx {t e r:TypeId} (hu:P.underlying t=some (.slice e)) (a:Option Addr) (n c:Nat):(Builtin.len_ #[t] r #[.slice a n c]).run P w = .ok (.int .i64 n) w:=by
 simp [Builtin.len_,run_underlying hu,goInt]
def Y1 {t e r:TypeId} (hu:P.underlying t=some (.slice e)) (a:Option Addr) (n c:Nat):opV P (Builtin.len_ #[t] r #[.slice a n c]) QP w k=k (.int .i64 n) w:=ZV (Cx hu a n c)
def BL {t r:TypeId} (hu:P.underlying t=some .string) (s:BAr):(Builtin.len_ #[t] r #[.string s]).run P w = .ok (.int .i64 s.size) w:=by
 simp [Builtin.len_,run_underlying hu,goInt]
def Cu {t r:TypeId} (hu:P.underlying t=some .string) (s:BAr):opV P (Builtin.len_ #[t] r #[.string s]) QP w k=k (.int .i64 s.size) w:=ZV (BL hu s)
def Y8 (op:BinOp) (t:TypeId) (c:Bool) (kd:IntKind) (a b:Int) (hs:(match op with | .shl | .shr=>false | _=>true)=true):(ZA op t c (.int kd a) (.int kd b)).run P w=((match op with
 | .add | .sub | .mul=>Op.intArith op kd a b
 | .quo | .rem=>Op.intDiv op kd a b
 | .and | .or | .xor | .andNot=>Op.intBits op kd a b
 | _=>Op.intCmp op a b:Sem Vl)).run P w:=by
 cases op<;>first | (simp at hs;done) | simp [ZA,binOp]
def Ti (t:TypeId) (c:Bool) (kd:IntKind) (a b:Int):opV P (ZA .add t c (.int kd a) (.int kd b)) QP w k=k (.int kd (kd.wrap (a+b))) w:=ZV (by rw [Y8 _ _ _ _ _ _ rfl];rfl)
def Ff (t:TypeId) (c:Bool) (kd:IntKind) (a b:Int):opV P (ZA .sub t c (.int kd a) (.int kd b)) QP w k=k (.int kd (kd.wrap (a - b))) w:=ZV (by rw [Y8 _ _ _ _ _ _ rfl];rfl)
def Ts (t:TypeId) (c:Bool) (kd:IntKind) (a b:Int):opV P (ZA .mul t c (.int kd a) (.int kd b)) QP w k=k (.int kd (kd.wrap (a*b))) w:=ZV (by rw [Y8 _ _ _ _ _ _ rfl];rfl)
def Tl (t:TypeId) (c:Bool) (kd:IntKind) (a b:Int):opV P (ZA .eql t c (.int kd a) (.int kd b)) QP w k=k (.bool (a == b)) w:=ZV (by rw [Y8 _ _ _ _ _ _ rfl];rfl)
def Tt (t:TypeId) (c:Bool) (kd:IntKind) (a b:Int):opV P (ZA .neq t c (.int kd a) (.int kd b)) QP w k=k (.bool (a != b)) w:=ZV (by rw [Y8 _ _ _ _ _ _ rfl];rfl)
def Tp (t:TypeId) (c:Bool) (kd:IntKind) (a b:Int):opV P (ZA .lss t c (.int kd a) (.int kd b)) QP w k=k (.bool (decide (a < b))) w:=ZV (by rw [Y8 _ _ _ _ _ _ rfl];rfl)
def To (t:TypeId) (c:Bool) (kd:IntKind) (a b:Int):opV P (ZA .leq t c (.int kd a) (.int kd b)) QP w k=k (.bool (decide (a≤b))) w:=ZV (by rw [Y8 _ _ _ _ _ _ rfl];rfl)
def Tn (t:TypeId) (c:Bool) (kd:IntKind) (a b:Int):opV P (ZA .gtr t c (.int kd a) (.int kd b)) QP w k=k (.bool (decide (a > b))) w:=ZV (by rw [Y8 _ _ _ _ _ _ rfl];rfl)
def Tm (t:TypeId) (c:Bool) (kd:IntKind) (a b:Int):opV P (ZA .geq t c (.int kd a) (.int kd b)) QP w k=k (.bool (decide (a≥b))) w:=ZV (by rw [Y8 _ _ _ _ _ _ rfl];rfl)
def Af (a b:BAr):(a.toList == b.toList)=decide (a=b):=by
 rw [Bool.eq_iff_iff]
 simp only [beq_iff_eq,decide_eq_true_eq]
 constructor
 · intro h
   rw [ByteArray.toList_eq,ByteArray.toList_eq] at h
   exact ByteArray.ext (Array.toList_inj.1 h)
 · intro h;rw [h]
def Np (t:TypeId) (c:Bool) (a b:BAr):opV P (ZA .eql t c (.string a) (.string b)) QP w k=k (.bool (decide (a=b))) w:=ZV (by simp [ZA,binOp,Op.stringOp,Af])
def Nr (t:TypeId) (c:Bool) (a b:BAr):opV P (ZA .neq t c (.string a) (.string b)) QP w k=k (.bool (!decide (a=b))) w:=ZV (by simp [ZA,binOp,Op.stringOp,Af])
def JV {t:TypeId} (hu:P.underlying t=some .bool) (a b:Bool):(Op.equal t (.bool a) (.bool b)).run P w = .ok (a == b) w:=run_equalIn_bool w 9999 t a b hu
def Zbc {t:TypeId} (hu:P.underlying t=some .bool) (c:Bool) (a b:Bool):opV P (ZA .eql t c (.bool a) (.bool b)) QP w k=k (.bool (a == b)) w:=ZV (by
 show Sem.run P (do pure (.bool (← Op.equal t (.bool a) (.bool b))):Sem Vl) w=_
 rw [Sem.run_bind,JV hu];rfl)
def Zbd {t:TypeId} (hu:P.underlying t=some .bool) (c:Bool) (a b:Bool):opV P (ZA .neq t c (.bool a) (.bool b)) QP w k=k (.bool (a != b)) w:=ZV (by
 show Sem.run P (do pure (.bool (!(← Op.equal t (.bool a) (.bool b)))):Sem Vl) w=_
 rw [Sem.run_bind,JV hu];rfl)
def LZ (b:Bool):opV P (Op.unary .not (.bool b)) QP w k=k (.bool !b) w:=ZV rfl
def ZeU (kd:IntKind) (a:Int):opV P (Op.unary .neg (.int kd a)) QP w k=k (.int kd (kd.wrap (0 - a))) w:=ZV rfl
def Tq (ts:Array TypeId) (t:TypeId) (kd:IntKind) (a b:Int):opV P (Builtin.max_ ts t #[.int kd a,.int kd b]) QP w k=k (.int kd (if b > a then b else a)) w:=ZV (by simp [Builtin.max_,Builtin.max2])
def Tr (ts:Array TypeId) (t:TypeId) (kd:IntKind) (a b:Int):opV P (Builtin.min_ ts t #[.int kd a,.int kd b]) QP w k=k (.int kd (if b < a then b else a)) w:=ZV (by simp [Builtin.min_,Builtin.min2])
def Ua {vs:AVl} {i:Nat} {v:Vl} (h:vs[i]?=some v):opV P (extract (.tuple vs) i) QP w k=k v w:=ZV (by simp [extract,h])
def ji (fn:Fn) (a b:AVl):opV P (makeFunc fn a b) QP w k=k (.func fn a b) w:=ZV rfl
def ZeV (a:Addr):opN P (Y0 (.pointer (some a))) QP w k=k (.pointer (some a)) w:=ZeR (by simp [Y0,execOp])
def F3 (want:Bool) (p q:Prop):Zm undef want p q=q:=rfl
end
end Go.Sw
namespace Go.Sw
open Go.RowKit (Below)
def Ko (P:Program) (s:Sem Vl) (QP:PEn) (w:Wd) (k:KV):Prop:=opV P s QP w k
def Q5 (P:Program) (s:Sem Unit) (QP:PEn) (w:Wd) (k:WPr):Prop:=opU P s QP w k
def UG (c:Option Vl) (k:Vl→Prop) (d:Prop):Prop:=match c with
 | some v=>k v
 | none=>d
def zz (b:Bool) (p q:Prop):Prop:=match b with
 | true=>p
 | false=>q
def Uu (v:Vl) (k:Vl→Prop) (d:Prop):UG (some v) k d=k v:=rfl
def HP (p q:Prop):zz true p q=p:=rfl
def yM (p q:Prop):zz false p q=q:=rfl
def cond_true (p q:Prop):Zr (.bool true) p q=p:=rfl
def cond_false (p q:Prop):Zr (.bool false) p q=q:=rfl
def OD (x y:Vl) (kk:Vl→Prop):Zx (.bool true) x y kk=kk x:=rfl
def Mi (x y:Vl) (kk:Vl→Prop):Zx (.bool false) x y kk=kk y:=rfl
def PI (p q:Prop):Zm (.bool true) true p q=p:=rfl
def PE (p q:Prop):Zm (.bool false) false p q=p:=rfl
def PH (p q:Prop):Zm (.bool true) false p q=q:=rfl
def PF (p q:Prop):Zm (.bool false) true p q=q:=rfl
def PG (a b:Bool) (k:Vl→Prop):Zm (.bool a) false (Zx (.bool a) (.bool true) (.bool b) k) (Zx (.bool a) (.bool true) undef k)=k (.bool (a||b)):=by cases a<;>rfl
def N8 (a b:Bool) (k:Vl→Prop):Zm (.bool a) true (Zx (.bool a) (.bool b) (.bool false) k) (Zx (.bool a) undef (.bool false) k)=k (.bool (a&&b)):=by cases a<;>rfl
def joinK_eq {α:Type} (K:α) (f:α→Prop):Zp K f=f K:=rfl
def Qr:Nat:=0
def Pw:Qr=0:=Nat.eq_zero_of_le_zero (Nat.le_of_eq (Nat.add_zero 0))
section
variable {P:Program} {QP:PEn} {w w':Wd} {C C':WPr} {d:Nat}
@[congr] theorem Zfd {s s':Sem Vl} {k:KV} (h:s=s') (hw:w=w') (hd:Qr=d):opV P s QP w k=opV P s' QP w' k:=by rw [h,hw]
@[congr] theorem Zfc {s s':Sem Unit} {k:WPr} (h:s=s') (hw:w=w') (hd:Qr=d):opU P s QP w k=opU P s' QP w' k:=by rw [h,hw]
@[congr] theorem ZeT {s:Sem Vl} {k:KV} (hd:Qr=d):Ko P s QP w k=Ko P s QP w k:=rfl
@[congr] theorem ZeS {s:Sem Unit} {k:WPr} (hd:Qr=d):Q5 P s QP w k=Q5 P s QP w k:=rfl
@[congr] theorem Zfb {s s':Sem Next} {k:KV} (h:s=s') (hw:w=w') (hd:Qr=d):opN P s QP w k=opN P s' QP w' k:=by rw [h,hw]
@[congr] theorem Zba {c c':Option Vl} {k:Vl→Prop} {p:Prop} (h:c=c') (hd:Qr=d):UG c k p=UG c' k p:=by rw [h]
@[congr] theorem Za9 {b b':Bool} {p q:Prop} (h:b=b') (hd:Qr=d):zz b p q=zz b' p q:=by rw [h]
@[congr] theorem ZbK {v v':Vl} {p q:Prop} (h:v=v') (hd:Qr=d):Zr v p q=Zr v' p q:=by rw [h]
@[congr] theorem Zeb {c c' a a' b b':Vl} {k:Vl→Prop} (h:c=c') (ha:a=a') (hb:b=b') (hd:Qr=d):Zx c a b k=Zx c' a' b' k:=by rw [h,ha,hb]
@[congr] theorem ZbI {f:FuncId} {args args':AVl} {k:KV} (h:args=args') (hw:w=w') (hd:Qr=d):ZU P f args QP w k=ZU P f args' QP w' k:=by rw [h,hw]
@[congr] theorem ZbJ {f f':Vl} {args args':AVl} {k:KV} (hf:f=f') (h:args=args') (hw:w=w') (hd:Qr=d):X9 P f args QP w k=X9 P f' args' QP w' k:=by rw [h,hf,hw]
@[congr] theorem ZbN {α:Type} {K:α} {f:α→Prop} (hd:Qr=d):Zp K f=Zp K f:=rfl
@[congr] theorem ZbL {f:(Wd→Prop)→Wd→Prop} (hw:w=w') (hd:Qr=d):Z4 w f=Z4 w' f:=by rw [hw]
@[congr] theorem ZiU {s s':Sem Vl} {k:Vl→Prop} (hC:C=C') (h:s=s') (hd:Qr=d):qV P C s k=qV P C' s' k:=by rw [h,hC]
@[congr] theorem ZiT {s s':Sem Next} {k:Vl→Prop} (hC:C=C') (h:s=s') (hd:Qr=d):qN P C s k=qN P C' s' k:=by rw [h,hC]
@[congr] theorem ZbP {body:Vl→Wd→(Vl→Wd→Prop)→Prop} {a0 b0:Vl} (h0:a0=b0) (hw:w=w') (hd:Qr=d):YW body a0 w=YW body b0 w':=by rw [h0,hw]
@[congr] theorem ZbQ {body:Vl→Vl→Wd→(Vl→Vl→Wd→Prop)→Prop} {a0 a1 b0 b1:Vl} (h0:a0=b0) (h1:a1=b1) (hw:w=w') (hd:Qr=d):Wy body a0 a1 w=Wy body b0 b1 w':=by rw [h0,h1,hw]
@[congr] theorem ZbR {body:Vl→Vl→Vl→Wd→(Vl→Vl→Vl→Wd→Prop)→Prop} {a0 a1 a2 b0 b1 b2:Vl} (h0:a0=b0) (h1:a1=b1) (h2:a2=b2) (hw:w=w') (hd:Qr=d):GC body a0 a1 a2 w=GC body b0 b1 b2 w':=by rw [h0,h1,h2,hw]
end
section
variable {P:Program} {QP:PEn} {w:Wd} {k:KV} {ku:WPr}
def YL {T:TypeId} {n m:Nat} {z:Vl} (h:ZF P T false n m z) (b o:Nat):opV P (loadAt T (.pointer (some ⟨b,o,none⟩))) QP w k=UG (w.cell? ⟨b,o,none⟩) (λ v=>k v w) (Ko P (loadAt T (.pointer (some ⟨b,o,none⟩))) QP w k):=by
 cases hc:w.cell? ⟨b,o,none⟩ with
 | some v=>exact By h hc
 | none=>rfl
def Xi {T:TypeId} {m:Nat} {z:Vl} (h:ZF P T false 1 m z) (b o:Nat) (v:Vl) (hv:v.oneCell'=true):opU P (storeAt T (.pointer (some ⟨b,o,none⟩)) v) QP w ku =
 UG (w.cell? ⟨b,o,none⟩) (λ _=>zz (w.frozen? ⟨b,o,none⟩) (Q5 P (storeAt T (.pointer (some ⟨b,o,none⟩)) v) QP w ku) (ku (w.setCell ⟨b,o,none⟩ v))) (Q5 P (storeAt T (.pointer (some ⟨b,o,none⟩)) v) QP w ku):=by
 cases hc:w.cell? ⟨b,o,none⟩ with
 | some u=>
  rw [Uu]
  cases hf:w.frozen? ⟨b,o,none⟩ with
  | true=>rfl
  | false=>rw [yM];exact DH h hv hc hf
 | none=>rfl
def XI {t e:TypeId} {agg:Bool} {n m:Nat} {z:Vl} (hu:P.underlying t=some (.slice e)) (ht:ZF P e agg n m z) (b o len cap:Nat) (ik:IntKind) (i:Nat) (h:i < len) :
 opV P (indexAt t (.slice (some ⟨b,o,none⟩) len cap) (.int ik (i:Int))) QP w k=k (.pointer (some ⟨b,o+i*n,none⟩)) w:=by
 try unfold X0
 rw [ZZ hu ht b o len cap ik i C1 C1];simp
def yR (a b:Vl):opV P (extract (.tuple #[a,b]) 0) QP w k=k a w:=Ua rfl
def yT (a b:Vl):opV P (extract (.tuple #[a,b]) 1) QP w k=k b w:=Ua rfl
def yU (a b c:Vl):opV P (extract (.tuple #[a,b,c]) 0) QP w k=k a w:=Ua rfl
def yW (a b c:Vl):opV P (extract (.tuple #[a,b,c]) 1) QP w k=k b w:=Ua rfl
def yX (a b c:Vl):opV P (extract (.tuple #[a,b,c]) 2) QP w k=k c w:=Ua rfl
def GEN:(∀ T v,opV P (box T v) QP w k=k (.pointer (some ⟨w.heap.size,0,none⟩)) (w.alloc (.cells v.cells T))) ∧
 (∀ t c kd a b,opV P (ZA .add t c (.int kd a) (.int kd b)) QP w k=k (.int kd (kd.wrap (a+b))) w) ∧
 (∀ t c kd a b,opV P (ZA .sub t c (.int kd a) (.int kd b)) QP w k=k (.int kd (kd.wrap (a - b))) w) ∧
 (∀ t c kd a b,opV P (ZA .mul t c (.int kd a) (.int kd b)) QP w k=k (.int kd (kd.wrap (a*b))) w) ∧
 (∀ t c kd a b,opV P (ZA .eql t c (.int kd a) (.int kd b)) QP w k=k (.bool (a == b)) w) ∧
 (∀ t c kd a b,opV P (ZA .neq t c (.int kd a) (.int kd b)) QP w k=k (.bool (a != b)) w) ∧
 (∀ t c kd a b,opV P (ZA .lss t c (.int kd a) (.int kd b)) QP w k=k (.bool (decide (a < b))) w) ∧
 (∀ t c kd a b,opV P (ZA .leq t c (.int kd a) (.int kd b)) QP w k=k (.bool (decide (a≤b))) w) ∧
 (∀ t c kd a b,opV P (ZA .gtr t c (.int kd a) (.int kd b)) QP w k=k (.bool (decide (b < a))) w) ∧
 (∀ t c kd a b,opV P (ZA .geq t c (.int kd a) (.int kd b)) QP w k=k (.bool (decide (b≤a))) w) ∧
 (∀ t c a b,opV P (ZA .eql t c (.string a) (.string b)) QP w k=k (.bool (decide (a=b))) w) ∧
 (∀ t c a b,opV P (ZA .neq t c (.string a) (.string b)) QP w k=k (.bool (!decide (a=b))) w) ∧
 (∀ b,opV P (Op.unary .not (.bool b)) QP w k=k (.bool !b) w) ∧
 (∀ kd a,opV P (Op.unary .neg (.int kd a)) QP w k=k (.int kd (kd.wrap (0 - a))) w) ∧
 (∀ ts t kd a b,opV P (Builtin.max_ ts t #[.int kd a,.int kd b]) QP w k=k (.int kd (if b > a then b else a)) w) ∧
 (∀ ts t kd a b,opV P (Builtin.min_ ts t #[.int kd a,.int kd b]) QP w k=k (.int kd (if b < a then b else a)) w) ∧
 (∀ a b,opV P (extract (.tuple #[a,b]) 0) QP w k=k a w)∧(∀ a b,opV P (extract (.tuple #[a,b]) 1) QP w k=k b w) ∧
 (∀ a b c,opV P (extract (.tuple #[a,b,c]) 0) QP w k=k a w)∧(∀ a b c,opV P (extract (.tuple #[a,b,c]) 1) QP w k=k b w)∧(∀ a b c,opV P (extract (.tuple #[a,b,c]) 2) QP w k=k c w) ∧
 (∀ fn a b,opV P (makeFunc fn a b) QP w k=k (.func fn a b) w) ∧
 (∀ a,opN P (Y0 (.pointer (some a))) QP w k=k (.pointer (some a)) w):=
 ⟨Tk,Ti,Ff,Ts,Tl,Tt,Tp,To,Tn,Tm,Np,Nr,LZ,ZeU,Tq,Tr,yR,yT,yU,yW,yX,ji,ZeV⟩
def CTL:(∀ p q,Zr (.bool true) p q=p)∧(∀ p q,Zr (.bool false) p q=q)∧(∀ x y kk,Zx (.bool true) x y kk=kk x)∧(∀ x y kk,Zx (.bool false) x y kk=kk y) ∧
 (∀ p q,Zm (.bool true) true p q=p)∧(∀ p q,Zm (.bool false) false p q=p)∧(∀ p q,Zm (.bool true) false p q=q)∧(∀ p q,Zm (.bool false) true p q=q) ∧
 (∀ v kk d,UG (some v) kk d=kk v)∧(∀ p q,zz true p q=p)∧(∀ p q,zz false p q=q):=
 ⟨cond_true,cond_false,OD,Mi,PI,PE,PH,PF,Uu,HP,yM⟩
end
section
variable {w:Wd}
def QN (c:AVl) (T:TypeId) (i:Nat):(w.alloc (.cells c T)).cell? ⟨w.heap.size,i,none⟩=c[i]?:=World.cell?_alloc_new w c T i
def Pp {o:Obj} {b i:Nat} (h:b < w.heap.size):(w.alloc o).cell? ⟨b,i,none⟩=w.cell? ⟨b,i,none⟩:=World.cell?_alloc_lt w o ⟨b,i,none⟩ h
def Au (c:AVl) (T:TypeId) (i:Nat):(w.alloc (.cells c T)).frozen? ⟨w.heap.size,i,none⟩=false:=World.frozen?_alloc_new w c T i
def IT {o:Obj} {b i:Nat} (h:b < w.heap.size):(w.alloc o).frozen? ⟨b,i,none⟩=w.frozen? ⟨b,i,none⟩:=World.frozen?_alloc_old w o ⟨b,i,none⟩ (by simp;omega)
def Ci {b i:Nat} {u v:Vl} (h:w.cell? ⟨b,i,none⟩=some u):(w.setCell ⟨b,i,none⟩ v).cell? ⟨b,i,none⟩=some v:=World.cell?_setCell_same w _ _ h
def Xd {b i b' i':Nat} {v:Vl} (h:b≠b'∨i≠i'):(w.setCell ⟨b',i',none⟩ v).cell? ⟨b,i,none⟩=w.cell? ⟨b,i,none⟩:=
 World.cell?_setCell_other w _ _ _ (by intro e;injection e with e1 e2;omega)
def Av {b i b' i':Nat} {v:Vl}:(w.setCell ⟨b',i',none⟩ v).frozen? ⟨b,i,none⟩=w.frozen? ⟨b,i,none⟩:=by simp
def Zbw {o:Obj} {p:Addr} {v:Vl} (h:p.block < w.heap.size):(w.alloc o).setCell p v=(w.setCell p v).alloc o:=by
 simp only [World.setCell,World.alloc]
 congr 1
 apply Array.ext_getElem?
 intro j
 simp only [Array.getElem?_modify,Array.getElem?_push,Array.size_modify]
 by_cases hj:j=w.heap.size
 · subst hj
   have:¬ p.block=w.heap.size:=C1
   simp [this]
 · simp [hj]
def Ny (o:AVl) (T:TypeId) (i:Nat) (v:Vl):(w.alloc (.cells o T)).setCell ⟨w.heap.size,i,none⟩ v=w.alloc (.cells (o.setIfInBounds i v) T):=Ux o T i v
def Ke:drew w=w.drew:=rfl
end
end Go.Sw
namespace Go.Sw
open Go.RowKit (Below)
def STD:(∀ (w:Wd) (c:AVl) (T:TypeId) (i:Nat),(w.alloc (.cells c T)).cell? ⟨w.heap.size,i,none⟩=c[i]?)∧(∀ (w:Wd) (c:AVl) (T:TypeId) (i:Nat),(w.alloc (.cells c T)).frozen? ⟨w.heap.size,i,none⟩=false) ∧
 (∀ (w:Wd) (o:AVl) (T:TypeId) (i:Nat) (v:Vl),(w.alloc (.cells o T)).setCell ⟨w.heap.size,i,none⟩ v=w.alloc (.cells (o.setIfInBounds i v) T)) ∧
 (∀ (w:Wd) (b i b' i':Nat) (v:Vl),(w.setCell ⟨b',i',none⟩ v).frozen? ⟨b,i,none⟩=w.frozen? ⟨b,i,none⟩) ∧
 (∀ (w:Wd) (a:Addr),w.drew.cell? a=w.cell? a)∧(∀ (w:Wd) (a:Addr),w.drew.frozen? a=w.frozen? a)∧(∀ (w:Wd),drew w=w.drew) ∧
 (∀ cs,(Value.agg cs).cells=cs)∧(∀ k n,(Value.int k n).cells = #[.int k n])∧(∀ b,(Value.bool b).cells = #[.bool b])∧(∀ s,(Value.string s).cells = #[.string s])∧(∀ a n c,(Value.slice a n c).cells = #[.slice a n c]) ∧
 (∀ m,(Value.map m).cells = #[.map m])∧(∀ a,(Value.pointer a).cells = #[.pointer a])∧(∀ f a b,(Value.func f a b).cells = #[.func f a b])∧(Value.nilFunc.cells = #[.nilFunc])∧(Value.nilIface.cells = #[.nilIface])∧(∀ t v,(Value.iface t v).cells = #[.iface t v]) ∧
 (∀ (Φ:KV) v w,ZE Φ (.returned v) w=Φ v w):=
 ⟨λ _=>QN,λ _=>Au,λ _=>Ny,λ w b i b' i' v=>Av,λ _ _=>rfl,λ _ _=>rfl,λ _=>rfl,λ _=>rfl,λ _ _=>rfl,λ _=>rfl,λ _=>rfl,λ _ _ _=>rfl,λ _=>rfl,λ _=>rfl,λ _ _ _=>rfl,rfl,rfl,λ _ _=>rfl,λ _ _ _=>TH⟩
def ONE:(∀ k n,Value.oneCell' (.int k n)=true)∧(∀ b,Value.oneCell' (.bool b)=true)∧(∀ s,Value.oneCell' (.string s)=true)∧(∀ a n c,Value.oneCell' (.slice a n c)=true)∧(∀ m,Value.oneCell' (.map m)=true)∧(∀ a,Value.oneCell' (.pointer a)=true)∧(∀ f a b,Value.oneCell' (.func f a b)=true)∧(Value.oneCell' .nilFunc=true)∧(Value.oneCell' .nilIface=true)∧(∀ t v,Value.oneCell' (.iface t v)=true):=
 ⟨λ _ _=>rfl,λ _=>rfl,λ _=>rfl,λ _ _ _=>rfl,λ _=>rfl,λ _=>rfl,λ _ _ _=>rfl,rfl,rfl,λ _ _=>rfl⟩
def Z0 {x:Int} (h1 : -9223372036854775808≤x) (h2:x≤9223372036854775807):IntKind.i64.wrap x=x:=IntWalk.i64_in x ⟨h1,h2⟩
def Pa {k:Nat} (h:k < 9223372036854775807):IntKind.i64.wrap ((k:Int)+1)=((k+1:Nat):Int):=by rw [Z0 C1 C1];rfl
def Ext.cellQ {w w':Wd} (h:Ext w w') {b o:Nat} (hb:b < w.heap.size):w'.cell? ⟨b,o,none⟩=w.cell? ⟨b,o,none⟩:=h.cellEq hb
def Ext.frozenQ {w w':Wd} (h:Ext w w') {b o:Nat} (hb:b < w.heap.size):w'.frozen? ⟨b,o,none⟩=w.frozen? ⟨b,o,none⟩:=h.frozenEq hb
def Ext.heapQ {w w':Wd} (h:Ext w w') {b:Nat} (hb:b < w.heap.size):w'.heap[b]?=w.heap[b]?:=h.block b hb
def CX {w:Wd} {b:Nat} (h:b=w.heap.size) (o:Obj):(w.alloc o).heap[b]?=some o:=by subst h;exact World.alloc_heap_new w o
def CY {w:Wd} {o:Obj} {b:Nat} (h:b < w.heap.size):(w.alloc o).heap[b]?=w.heap[b]?:=Below.heap_alloc w o b h
def CZ {w:Wd} {b b' o:Nat} {v:Vl} (h:b≠b'):(w.setCell ⟨b',o,none⟩ v).heap[b]?=w.heap[b]?:=Below.heap_setCell w ⟨b',o,none⟩ v b h
def D8 {w:Wd} {b i:Nat} {v:Vl}:(w.setCell ⟨b,i,none⟩ v).cell? ⟨b,i,none⟩=(w.cell? ⟨b,i,none⟩).map (λ _=>v):=by
 cases hc:w.cell? ⟨b,i,none⟩ with
 | some u=>exact Ci hc
 | none=>
  rw [Option.map_none]
  unfold World.cell? at hc ⊢
  simp only [World.setCell,Array.getElem?_modify]
  cases h:w.heap[b]? with
  | none=>simp
  | some o => 
   simp only [h] at hc ⊢
   cases o<;>simp_all
def NZ {w:Wd} {b:Nat} (h:b=w.heap.size) (c:AVl) (T:TypeId) (i:Nat):(w.alloc (.cells c T)).cell? ⟨b,i,none⟩=c[i]?:=by subst h;exact QN c T i
def FZ {w:Wd} {b:Nat} (h:b=w.heap.size) (c:AVl) (T:TypeId) (i:Nat):(w.alloc (.cells c T)).frozen? ⟨b,i,none⟩=false:=by subst h;exact Au c T i
def TS {w:Wd} {b:Nat} (h:b=w.heap.size) (o:AVl) (T:TypeId) (i:Nat) (v:Vl):(w.alloc (.cells o T)).setCell ⟨b,i,none⟩ v=w.alloc (.cells (o.setIfInBounds i v) T):=by subst h;exact Ny o T i v
def Yh {k n:Nat} {kd:IntKind} (h:k < n):n - (Go.RowKit.intOf (.int kd ((k+1:Nat):Int))).toNat < n - (Go.RowKit.intOf (.int kd (k:Int))).toNat:=by simp [Go.RowKit.intOf];omega
def ZY {α:Type} {l:List α} {k:Nat} (h:k≤l.length):(∃ x,l[k]?=some x∧l.drop k=x::l.drop (k+1)∧k < l.length∧decide ((k:Int) < (l.length:Int))=true)∨(k=l.length∧l.drop k=[]∧decide ((k:Int) < (l.length:Int))=false):=by
 by_cases hk:k < l.length
 · exact .inl ⟨l[k],List.getElem?_eq_getElem hk,List.drop_eq_getElem_cons hk,hk,by simp;omega⟩
 · exact .inr ⟨by omega,by rw [List.drop_eq_nil_iff];omega,by simp;omega⟩
def Yr (w:Wd) (b o:Nat) (cs:List Vl):Prop:=∀ j v,cs[j]?=some v→w.cell? ⟨b,o+j,none⟩=some v
def Yr.ext {w w':Wd} {b o:Nat} {cs:List Vl} (h:Yr w b o cs) (e:Ext w w'):Yr w' b o cs:=λ j v hv=>e.cell (h j v hv)
def Yr.loads {P:Program} {w:Wd} {T:TypeId} {n m:Nat} {z:Vl} {b o:Nat} {cs:List Vl} (h:Yr w b o cs) (ht:ZF P T true n m z) (hl:cs.length=n):QC P w T ⟨b,o,none⟩ (.agg cs.toArray):=
 QC.many ht hl λ j v hv=>by rw [Addr.add_lit];exact h j v hv
def Yr.cell {w:Wd} {b o:Nat} {cs:List Vl} (h:Yr w b o cs) (j:Nat) {v:Vl} (hv:cs[j]?=some v):w.cell? ⟨b,o+j,none⟩=some v:=h j v hv
def Yr.c1 {w w':Wd} {b o:Nat} {c0:Vl} (h:Yr w b o [c0]) (e:Ext w w'):w'.cell? ⟨b,o,none⟩=some c0:=e.cell (h 0 _ rfl)
def Yr.c2 {w w':Wd} {b o:Nat} {c0 c1:Vl} (h:Yr w b o [c0,c1]) (e:Ext w w'):w'.cell? ⟨b,o,none⟩=some c0∧w'.cell? ⟨b,o+1,none⟩=some c1:=⟨e.cell (h 0 _ rfl),e.cell (h 1 _ rfl)⟩
def Yr.c3 {w w':Wd} {b o:Nat} {c0 c1 c2:Vl} (h:Yr w b o [c0,c1,c2]) (e:Ext w w'):w'.cell? ⟨b,o,none⟩=some c0∧w'.cell? ⟨b,o+1,none⟩=some c1∧w'.cell? ⟨b,o+2,none⟩=some c2:=⟨e.cell (h 0 _ rfl),e.cell (h 1 _ rfl),e.cell (h 2 _ rfl)⟩
def Yr.c7 {w w':Wd} {b o:Nat} {c0 c1 c2 c3 c4 c5 c6:Vl} (h:Yr w b o [c0,c1,c2,c3,c4,c5,c6]) (e:Ext w w'):w'.cell? ⟨b,o,none⟩=some c0∧w'.cell? ⟨b,o+1,none⟩=some c1∧w'.cell? ⟨b,o+2,none⟩=some c2∧w'.cell? ⟨b,o+3,none⟩=some c3∧w'.cell? ⟨b,o+4,none⟩=some c4∧w'.cell? ⟨b,o+5,none⟩=some c5∧w'.cell? ⟨b,o+6,none⟩=some c6:=⟨e.cell (h 0 _ rfl),e.cell (h 1 _ rfl),e.cell (h 2 _ rfl),e.cell (h 3 _ rfl),e.cell (h 4 _ rfl),e.cell (h 5 _ rfl),e.cell (h 6 _ rfl)⟩
def Yr.c15 {w w':Wd} {b o:Nat} {c0 c1 c2 c3 c4 c5 c6 c7 c8 c9 c10 c11 c12 c13 c14:Vl} (h:Yr w b o [c0,c1,c2,c3,c4,c5,c6,c7,c8,c9,c10,c11,c12,c13,c14]) (e:Ext w w'):w'.cell? ⟨b,o,none⟩=some c0∧w'.cell? ⟨b,o+1,none⟩=some c1∧w'.cell? ⟨b,o+2,none⟩=some c2∧w'.cell? ⟨b,o+3,none⟩=some c3∧w'.cell? ⟨b,o+4,none⟩=some c4∧w'.cell? ⟨b,o+5,none⟩=some c5∧w'.cell? ⟨b,o+6,none⟩=some c6∧w'.cell? ⟨b,o+7,none⟩=some c7∧w'.cell? ⟨b,o+8,none⟩=some c8∧w'.cell? ⟨b,o+9,none⟩=some c9∧w'.cell? ⟨b,o+10,none⟩=some c10∧w'.cell? ⟨b,o+11,none⟩=some c11∧w'.cell? ⟨b,o+12,none⟩=some c12∧w'.cell? ⟨b,o+13,none⟩=some c13∧w'.cell? ⟨b,o+14,none⟩=some c14:=⟨e.cell (h 0 _ rfl),e.cell (h 1 _ rfl),e.cell (h 2 _ rfl),e.cell (h 3 _ rfl),e.cell (h 4 _ rfl),e.cell (h 5 _ rfl),e.cell (h 6 _ rfl),e.cell (h 7 _ rfl),e.cell (h 8 _ rfl),e.cell (h 9 _ rfl),e.cell (h 10 _ rfl),e.cell (h 11 _ rfl),e.cell (h 12 _ rfl),e.cell (h 13 _ rfl),e.cell (h 14 _ rfl)⟩
def Yr.new {w:Wd} (cs:List Vl) (T:TypeId):Yr (w.alloc (.cells cs.toArray T)) w.heap.size 0 cs:=λ j v hv=>by rw [Nat.zero_add,QN];simpa using hv
def Zd {α:Type} (w:Wd) (n:Nat) (E:Wd→List Vl→α→Prop) (v:Vl) (l:List α):Prop:=
 ∃ A c,v = .slice A l.length c∧l.length≤c∧c≤9223372036854775807∧(l≠[]→∃ b o,A=some ⟨b,o,none⟩∧∀ k x,l[k]?=some x→∃ cs,cs.length=n∧Yr w b (o+k*n) cs∧E w cs x)
def jX {α:Type} (E:Wd→List Vl→α→Prop):Prop:=∀ w w' cs x,Ext w w'→E w cs x→E w' cs x
def Zd.ext {α:Type} {w w':Wd} {n:Nat} {E:Wd→List Vl→α→Prop} {v:Vl} {l:List α} (hk:jX E) (h:Zd w n E v l) (e:Ext w w'):Zd w' n E v l:=by
 obtain ⟨A,c,h1,h2,h3,h4⟩:=h
 refine ⟨A,c,h1,h2,h3,λ Y7=>?_⟩
 obtain ⟨b,o,h5,h6⟩:=h4 Y7
 exact ⟨b,o,h5,λ k x hx=>by obtain ⟨cs,a1,a2,a3⟩:=h6 k x hx;exact ⟨cs,a1,a2.ext e,hk _ _ _ _ e a3⟩⟩
def Zd.open {α:Type} {w:Wd} {n:Nat} {E:Wd→List Vl→α→Prop} {v:Vl} {l:List α} (h:Zd w n E v l) :
 ∃ A c,v = .slice A l.length c∧l.length≤c∧c≤9223372036854775807∧l.length≤9223372036854775807∧∀ k x,l[k]?=some x→∃ b o cs,A=some ⟨b,o,none⟩∧cs.length=n∧Yr w b (o+k*n) cs∧E w cs x:=by
 obtain ⟨A,c,h1,h2,h3,h4⟩:=h
 refine ⟨A,c,h1,h2,h3,by omega,λ k x hx=>?_⟩
 have Y7:l≠[]:=by rintro rfl;cases hx
 obtain ⟨b,o,h5,h6⟩:=h4 Y7
 obtain ⟨cs,a⟩:=h6 k x hx
 exact ⟨b,o,cs,h5,a⟩
def Zd.oneCell {α:Type} {w:Wd} {n:Nat} {E:Wd→List Vl→α→Prop} {v:Vl} {l:List α} (h:Zd w n E v l):v.oneCell'=true:=by
 obtain ⟨A,c,rfl,_⟩:=h;rfl
def Zd.setOther {α:Type} {w:Wd} {n:Nat} {E:Wd→List Vl→α→Prop} {v:Vl} {l:List α} (h:Zd w n E v l) {b' o':Nat} (u:Vl) (hb:∀ A m c,v = .slice (some A) m c→A.block≠b') (hE:∀ cs x,E w cs x→E (w.setCell ⟨b',o',none⟩ u) cs x):Zd (w.setCell ⟨b',o',none⟩ u) n E v l:=by
 obtain ⟨A,c,h1,h2,h3,h4⟩:=h
 refine ⟨A,c,h1,h2,h3,λ Y7=>?_⟩
 obtain ⟨b,o,h5,h6⟩:=h4 Y7
 have hbb:b≠b':=hb ⟨b,o,none⟩ _ _ (by rw [h1,h5])
 exact ⟨b,o,h5,λ k x hx=>by obtain ⟨cs,a1,a2,a3⟩:=h6 k x hx;exact ⟨cs,a1,λ j u hu=>by rw [Xd (.inl hbb)];exact a2 j u hu,hE _ _ a3⟩⟩
def Zd.nil {α:Type} (w:Wd) (n:Nat) (E:Wd→List Vl→α→Prop):Zd w n E (.slice none 0 0) []:=⟨none,0,rfl,Nat.le_refl _,by omega,λ h=>absurd rfl h⟩
def Zd.new1 {α:Type} {E:Wd→List Vl→α→Prop} (enc:α→Vl) (hE:∀ w x,E w [enc x] x) (w:Wd) (l:List α) (T:TypeId) (hl:l.length≤9223372036854775807):Zd (w.alloc (.cells (l.map enc).toArray T)) 1 E (.slice (some ⟨w.heap.size,0,none⟩) l.length l.length) l:=by
 refine ⟨_,_,rfl,Nat.le_refl _,hl,λ _=>⟨_,_,rfl,λ k x hx=>⟨[enc x],rfl,λ j v hv=>?_,hE _ x⟩⟩⟩
 cases j with
 | zero=>
  injection hv with hv;subst hv
  rw [World.cell?_alloc_new]
  simp [hx]
 | succ j=>cases hv
def idx {α:Type} (p:α→Bool) (l:List α):Int:=match l.findIdx? p with
 | some i=>(i:Int)
 | none => -1
def We {α:Type} {p:α→Bool} {l:List α} {k:Nat} {x:α} (hx:l[k]?=some x) (hp:p x=true) (hb:∀ (j:Nat) (y:α),j < k→l[j]?=some y→p y=false):idx p l=k:=by
 have:l.findIdx? p=some k:=by
  rw [List.findIdx?_eq_some_iff_getElem]
  obtain ⟨hk,he⟩:=Qqx hx
  refine ⟨hk,by rw [he];exact hp,λ j hj=>?_⟩
  have:=hb j l[j] hj (List.getElem?_eq_getElem C1)
  simp [this]
 simp [idx,this]
def Wf {α:Type} {p:α→Bool} {l:List α} (hb:∀ (j:Nat) (y:α),l[j]?=some y→p y=false):idx p l = -1:=by
 have:l.findIdx? p=none:=by
  rw [List.findIdx?_eq_none_iff]
  intro x hx
  obtain ⟨j,hj⟩:=List.getElem?_of_mem hx
  exact hb j x hj
 simp [idx,this]
def before_succ {α:Type} {l:List α} {p:α→Bool} {k:Nat} {x:α} (hb:∀ (j:Nat) (y:α),j < k→l[j]?=some y→p y=false) (hx:l[k]?=some x) (hp:p x=false):∀ (j:Nat) (y:α),j < k+1→l[j]?=some y→p y=false:=by
 intro j y hj hy
 by_cases hjk:j=k
 · subst hjk;rw [hx] at hy;injection hy with hy;subst hy;exact hp
 · exact hb j y C1 hy
def VG {α:Type} {p:α→Bool} {l:List α}:decide (0≤idx p l)=l.any p:=by
 unfold idx
 cases h:l.findIdx? p with
 | none=>rw [List.findIdx?_eq_none_iff] at h;simp;intro x hx;simpa using h x hx
 | some i=>
  have hs:(l.findIdx? p).isSome=true:=by rw [h];rfl
  rw [List.findIdx?_isSome] at hs
  rw [hs];simp
def getElem?_lt {α:Type} {l:List α} {k:Nat} (h:k < l.length):∃ x,l[k]?=some x:=⟨_,List.getElem?_eq_getElem h⟩
end Go.Sw
namespace Go.Sw
def mark (B:Nat):Deferred:={ target := .collected B,args := #[] }
def jy (P:Program):LDf→FrameMode→Wd→(FrameMode→Wd→Prop)→Prop
 | [],u,w,k=>k u w
 | d::ds,u,w,k=>u ≠ .run∧((∃ r,d.target = .collected r∧w.heap[r]?=some (.deferred (some []))∧jy P ds u (w.putObj r (.deferred none)) k) ∨
  (∃ fv cap f args,d.target = .fn fv cap∧(invoke d.target d.args).run P w = .ok (.enter f args) w∧CallsDIn Fence.wide 0 P f args u w λ
   | .returned _,u',w'=>jy P ds (settle u') w' k
   | .panicked chain,u',w'=>jy P ds (raised u' chain) w' k
   | .outgrown,_,_=>False))
def BH (ρ:Env):ResultVar→Option TypeId×Vl
 | .tmp t=>(none,ρ t)
 | .cell t c=>(some c,ρ t)
def Mp:ResultVar→Nat
 | .tmp t=>t
 | .cell t _=>t
def XV (P:Program) (w:Wd) (r:Option TypeId×Vl) (k:Vl→Prop):Prop:=match r with
 | (none,v)=>k v
 | (some T,a)=>qW P T a w k
def y1 (P:Program) (l:List (Option TypeId×Vl)) (w:Wd) (k:Vl→Prop):Prop:=match l with
 | []=>k (.tuple #[])
 | [a]=>XV P w a k
 | [a,b]=>XV P w a λ x=>XV P w b λ y=>k (.tuple #[x,y])
 | [a,b,c]=>XV P w a λ x=>XV P w b λ y=>XV P w c λ z=>k (.tuple #[x,y,z])
 | [a,b,c,d]=>XV P w a λ x=>XV P w b λ y=>XV P w c λ z=>XV P w d λ u=>k (.tuple #[x,y,z,u])
 | _=>False
def endM (P:Program) (l:List (Option TypeId×Vl)) (R:RT):FrameMode→Wd→Prop
 | .returning,w=>y1 P l w λ v=>R (.returned v) w
 | .panicking ch,w=>R (.panicked ch) w
 | .run,_=>False
def Ul (P:Program) (ds:LDf) (l:List (Option TypeId×Vl)) (R:RT) (w:Wd):Prop:=jy P ds .returning w (endM P l R)
def ZD (P:Program) (ds:LDf) (l:List (Option TypeId×Vl)) (R:RT):List PanicEntry→Wd→Prop:=λ ch w=>jy P ds (.panicking ch) w (endM P l R)
section
variable {P:Program} {N:Nat} {ro:Option Nat} {fn:Func} {R:RT} {ρ:Env}
def Nu (tmps:AVl):ResultVar→Sem Vl
 | .tmp t=>pure (tmps.getD t undef)
 | .cell a t=>do loadVar t (← asAddr (tmps.getD a undef))
def Mq (fn:Func) (tmps:AVl):results fn tmps=(do let vs ← fn.results.mapM (Nu tmps);pure (if h:vs.size=1 then vs[0] else .tuple vs)):=by
 unfold results
 congr 1
def XG {tmps:AVl} (ht:∀ i,tmps.getD i undef=ρ i) {r:ResultVar} {w:Wd} {k:Vl→Prop} (h:XV P w (BH ρ r) k):∃ v,(Nu tmps r).run P w = .ok v w∧k v:=by
 cases r with
 | tmp t=>exact ⟨_,rfl,by rw [ht];exact h⟩
 | cell t c=>
  obtain ⟨v,hv,hk⟩:=h
  exact ⟨v,by show Sem.run P (do loadVar c (← asAddr (tmps.getD t undef)):Sem Vl) w=_;rw [ht];exact hv,hk⟩
def Ib {tmps:AVl} (ht:∀ i,tmps.getD i undef=ρ i) {w:Wd} {k:Vl→Prop} (h:y1 P (fn.results.toList.map (BH ρ)) w k):∃ v,(results fn tmps).run P w = .ok v w∧k v:=by
 rw [Mq]
 obtain ⟨l,hl⟩:∃ l,fn.results=List.toArray l:=⟨fn.results.toList,by simp⟩
 rw [hl] at h ⊢
 simp only [List.mapM_toArray] at h ⊢
 match l,h with
 | [],h=>exact ⟨_,rfl,h⟩
 | [a],h=>
  obtain ⟨v,h1,h⟩:=XG ht h
  refine ⟨v,?_,h⟩
  simp [Sem.run_bind,h1,Result.andThen]
 | [a,b],h=>
  obtain ⟨v,h1,h⟩:=XG ht h
  obtain ⟨v2,h2,h⟩:=XG ht h
  refine ⟨_,?_,h⟩
  simp [Sem.run_bind,h1,h2,Result.andThen]
 | [a,b,c],h=>
  obtain ⟨v,h1,h⟩:=XG ht h
  obtain ⟨v2,h2,h⟩:=XG ht h
  obtain ⟨v3,h3,h⟩:=XG ht h
  refine ⟨_,?_,h⟩
  simp [Sem.run_bind,h1,h2,h3,Result.andThen]
 | [a,b,c,d],h=>
  obtain ⟨v,h1,h⟩:=XG ht h
  obtain ⟨v2,h2,h⟩:=XG ht h
  obtain ⟨v3,h3,h⟩:=XG ht h
  obtain ⟨v4,h4,h⟩:=XG ht h
  refine ⟨_,?_,h⟩
  simp [Sem.run_bind,h1,h2,h3,h4,Result.andThen]
 | _::_::_::_::_::_,h=>exact h.elim
def QT {tmps:AVl} {l:List (Option TypeId×Vl)} (ht:∀ i,tmps.getD i undef=ρ i) (hl:fn.results.toList.map (BH ρ)=l):∀ (ds:LDf) (u:FrameMode) (w:Wd),jy P ds u w (endM P l R)→LeavesInM Fence.wide 0 P fn tmps R ds u w
 | [],u,w,h=>by
  subst hl
  cases u with
  | run=>exact h.elim
  | returning=>exact Ib (k:=λ v=>R (.returned v) w) ht h
  | panicking ch=>exact h
 | d::ds,u,w,h=>by
  obtain ⟨hu,h⟩:=h
  refine ⟨hu,?_⟩
  rcases h with ⟨r,h1,h2,h3⟩ | ⟨fv,cap,f,args,h1,h2,h3⟩
  · exact .inl ⟨r,_,h1,run_takeDeferred h2,QT ht hl ds u _ h3⟩
  · refine .inr ⟨λ hd=>by simp [Fence.wide] at hd,fv,cap,f,args,h1,h2,λ _ _=>trivial,CallsDIn.mono h3 ?_⟩
    intro e u' w' hh
    cases e with
    | returned v=>exact QT ht hl ds _ _ hh
    | panicked ch=>exact QT ht hl ds _ _ hh
    | outgrown=>exact hh.elim
def X7 {ds:LDf} {l:List (Option TypeId×Vl)} {ch:List PanicEntry} {w:Wd} (hl:fn.results.toList.map (BH ρ)=l) (h:ZD P ds l R ch w):jF P fn R ch ρ ds w:=λ _ ht=>QT ht hl ds _ w h
def Wi {S:List Nat} {ds:LDf} {l:List (Option TypeId×Vl)} {ch:List PanicEntry} {w:Wd} (hS:fn.results.toList.all (λ r=>!S.contains (Mp r))=true) (hl:fn.results.toList.map (BH ρ)=l) (h:ZD P ds l R ch w):∀ ρ',Fr S ρ ρ'→jF P fn R ch ρ' ds w:=by
 intro ρ' hf
 refine X7 (ρ:=ρ') ?_ h
 rw [← hl]
 apply List.map_congr_left
 intro r hr
 have:=List.all_eq_true.1 hS r hr
 simp only [Bool.not_eq_true'] at this
 have hn:Mp r ∉ S:=λ hm=>by rw [List.contains_iff_mem.2 hm] at this;cases this
 have:=hf _ hn
 cases r<;>simp only [BH,Mp] at * <;> rw [this]
def X8 {ds:LDf} {l:List (Option TypeId×Vl)} {w:Wd} (hl:fn.results.toList.map (BH ρ)=l) (h:Ul P ds l R w):Aa P fn R .ret ρ ds w:=λ _ ht=>QT ht hl ds _ w h
def zQ {ds:LDf} {w:Wd} (h:Aa P fn R .ret ρ ds w):Aa P fn R .normal ρ ds w:=h
end
def Z9 (B:Nat) (w:Wd):Prop:=w.heap[B]?=some (.deferred (some []))
def Xk (rec:Loop) (B:Nat) (w:Wd):Prop:=Z9 B w∧∃ st p,w.heap[B+1]?=some (.loop { rec with state:=st,pending:=p })
def jP (l:Nat) (w w':Wd):Prop:=∃ r,w.heap[l]?=some (.loop r)∧w'=w.putObj l (.loop { r with state := .busy })
def D1 (l:Nat) (w:Wd):Prop:=∃ r,w.heap[l]?=some (.loop r)∧r.state = .ready
def Ad (l:Nat) (w:Wd) (k:WPr):Prop:=D1 l w∧∀ w',jP l w w'→k w'
def Z9.ext {B:Nat} {w w':Wd} (h:Z9 B w) (e:Ext w w'):Z9 B w':=e.obj h
def Z9.keeps {B:Nat} {w w':Wd} (h:Z9 B w) (e:KeepsOthers w w'):Z9 B w':=e.same _ _ h rfl
def Z9.setCell {B:Nat} {w:Wd} (h:Z9 B w) (a:Addr) (v:Vl):Z9 B (w.setCell a v):=h.keeps (KeepsOthers.setCell w a v)
def Z9.alloc {B:Nat} {w:Wd} (h:Z9 B w) (o:Obj):Z9 B (w.alloc o):=h.ext ((Ext.refl w).alloc o)
def Xk.keeps {rec:Loop} {B:Nat} {w w':Wd} (h:Xk rec B w) (e:KeepsOthers w w'):Xk rec B w':=⟨h.1.keeps e,let ⟨st,p,hp⟩:=h.2; ⟨st,p,e.same _ _ hp rfl⟩⟩
def Xk.ext {rec:Loop} {B:Nat} {w w':Wd} (h:Xk rec B w) (e:Ext w w'):Xk rec B w':=⟨h.1.ext e,let ⟨st,p,hp⟩:=h.2; ⟨st,p,e.obj hp⟩⟩
def Xk.setCell {rec:Loop} {B:Nat} {w:Wd} (h:Xk rec B w) (a:Addr) (v:Vl):Xk rec B (w.setCell a v):=h.keeps (KeepsOthers.setCell w a v)
def Xk.alloc {rec:Loop} {B:Nat} {w:Wd} (h:Xk rec B w) (o:Obj):Xk rec B (w.alloc o):=h.ext ((Ext.refl w).alloc o)
def Xk.drew {rec:Loop} {B:Nat} {w:Wd} (h:Xk rec B w):Xk rec B w.drew:=h
structure ZQ (B:Nat) (I:WPr):Prop where
 ext:∀ w w',I w→Ext w w'→I w'
 loop:∀ w l r r',B≤l→I w→w.heap[l]?=some (.loop r)→I (w.putObj l (.loop r'))
def zT {w:Wd} {l:Nat} {r r':Loop} (h:w.heap[l]?=some (.loop r)) (a:Addr):(w.putObj l (.loop r')).cell? a=w.cell? a:=by
 unfold World.cell?
 by_cases e:a.block=l
 · rw [e,World.putObj_heap_same (Qqj h).1,h]
 · rw [World.putObj_heap_other e]
def Ext.putLoop {a w:Wd} (h:Ext a w) {l:Nat} (hl:a.heap.size≤l) (o:Obj):Ext a (w.putObj l o):=
 ⟨h.os,h.tape,h.output,by simpa using h.size,λ k hk=>(World.putObj_heap_other C1).trans (h.block k hk)⟩
def ZQ.and {B:Nat} {I J:WPr} (h:ZQ B I) (k:ZQ B J):ZQ B (λ w=>I w∧J w):=⟨λ w w' hh e=>⟨h.ext _ _ hh.1 e,k.ext _ _ hh.2 e⟩,λ w l r r' hb hh hl=>⟨h.loop _ _ _ _ hb hh.1 hl,k.loop _ _ _ _ hb hh.2 hl⟩⟩
def ZQ.ex {B:Nat} {α:Sort _} {I:α→Wd→Prop} (h:∀ x,ZQ B (I x)):ZQ B (λ w=>∃ x,I x w):=⟨λ w w' ⟨x,hx⟩ e=>⟨x,(h x).ext _ _ hx e⟩,λ w l r r' hb ⟨x,hx⟩ hl=>⟨x,(h x).loop _ _ _ _ hb hx hl⟩⟩
def ZQ.const (B:Nat) (p:Prop):ZQ B (λ _=>p):=⟨λ _ _ h _=>h,λ _ _ _ _ _ h _=>h⟩
def ZQ.from {B:Nat} {w0:Wd} (hb:w0.heap.size≤B):ZQ B (Ext w0):=⟨λ _ _ h e=>h.trans e,λ w l r r' hl h _=>Ext.putLoop h C1 _⟩
def ZQ.has (B:Nat) {b:Nat} {o:Obj} (ho:∀ r,o ≠ .loop r):ZQ B (λ w=>w.heap[b]?=some o):=⟨λ _ _ h e=>e.obj h,λ w l r r' _ h hl=>by
 rw [World.putObj_heap_other ?_];exact h
 rintro rfl
 rw [h] at hl;injection hl with hl;exact ho _ hl⟩
def ZQ.cell (B:Nat) {a:Addr} {v:Vl}:ZQ B (λ w=>w.cell? a=some v):=⟨λ _ _ h e=>e.cell h,λ w l r r' _ h hl=>by rw [zT hl];exact h⟩
def Zd.putLoop {α:Type} {n:Nat} {E:Wd→List Vl→α→Prop} {v:Vl} {L:List α} {w:Wd} {l:Nat} {r r':Loop} (hE:∀ cs x,E w cs x→E (w.putObj l (.loop r')) cs x) (hl:w.heap[l]?=some (.loop r)) (h:Zd w n E v L):Zd (w.putObj l (.loop r')) n E v L:=by
 obtain ⟨A,c,h1,h2,h3,h4⟩:=h
 refine ⟨A,c,h1,h2,h3,λ Y7=>?_⟩
 obtain ⟨b,o,h5,h6⟩:=h4 Y7
 exact ⟨b,o,h5,λ k x hx=>by obtain ⟨cs,a1,a2,a3⟩:=h6 k x hx;exact ⟨cs,a1,λ j u hu=>by rw [zT hl];exact a2 j u hu,hE _ _ a3⟩⟩
def MP (P:Program) (f:FuncId) (caps:AVl) (n:Nat) (xs:Nat→Vl) (FP:WPr):Prop:=
 ∀ (yv:Vl) (J:Nat→Wd→Prop) (Jx:WPr) (Jp:PEn) (w:Wd),(∀ k w,J k w→FP w)→(∀ k w w',J k w→Ext w w'→J k w')→(∀ w w',Jx w→Ext w w'→Jx w') →
  (∀ k,k < n→∀ w,J k w→X9 P yv #[xs k] Jp w (λ v w'=>(v = .bool true∧J (k+1) w')∨(v = .bool false∧Jx w')))→J 0 w →
  Calls P f (#[yv]++caps) w (λ e w'=>match e with
   | .returned _=>J n w'∨Jx w'
   | .panicked ch=>Jp ch w'
   | .outgrown=>False)
def Te:List (LDf→Wd→Prop)→Nat→LDf→Wd→Prop
 | [],_,_,_=>False
 | k::_,0,ds,w=>k ds w
 | _::l,c+1,ds,w=>Te l c ds w
def BF (P:Program) (fv:Vl) (ds:LDf) (body:Nat→Vl→Wd→(Wd→Prop)→(Nat→Wd→Prop)→(List PanicEntry→Wd→Prop)→Prop) (QP:List PanicEntry→LDf→Wd→Prop) (w:Wd)
 (k:LDf→Wd→Prop) (kx:List (LDf→Wd→Prop)):Prop:=
 ∃ (f:FuncId) (caps:AVl) (n:Nat) (xs:Nat→Vl) (FP:WPr) (I:Nat→Wd→Prop) (Ix:Nat→Wd→Prop) (Ip:PEn),
  fv = .func (.func f) #[] caps∧Callable P f∧MP P f caps n xs FP∧I 0 w∧(∀ k w,I k w→FP w)∧(∀ k,ZQ w.heap.size (I k))∧(∀ c,ZQ w.heap.size (Ix c)) ∧
  (∀ (rec:Loop) (j:Nat) (w':Wd),j < n→I j w'→Xk rec w.heap.size w'→D1 (w.heap.size+1) w' →
   body (w.heap.size+1) (xs j) w' (λ w''=>Xk rec w.heap.size w''∧I (j+1) w'') (λ c w''=>Xk rec w.heap.size w''∧Ix c w'') (λ ch w''=>Xk rec w.heap.size w''∧Ip ch w'')) ∧
  (∀ w',I n w'→Z9 w.heap.size w'→k (mark w.heap.size::ds) w') ∧
  (∀ c w',Ix c w'→Z9 w.heap.size w'→Te kx c (mark w.heap.size::ds) w') ∧
  (∀ ch w',Ip ch w'→Z9 w.heap.size w'→QP ch (mark w.heap.size::ds) w')
def TL (js:List Code) (K:WPr) (X:Nat→Wd→Prop):Sw.K:=λ e _ ds w=>match e with
 | .normal=>ds=[]∧K w
 | .ret=>ds=[]∧∃ c,js[c]?=some .ret∧X c w
 | .exit id=>ds=[]∧∃ c,js[c]?=some (.exit id)∧X c w
 | _=>False
def Nx (Q:PEn):KP:=λ ch _ ds w=>ds=[]∧Q ch w
section
variable {P:Program} {N:Nat}
def Xk.putBusy {rec:Loop} {B l:Nat} {w:Wd} (h:Xk rec B w) (hl:l=B+1) (st:LoopState) (p:Option Code):Xk rec B (w.putObj l (.loop { rec with state:=st,pending:=p })):=by
 obtain ⟨hm,st',p',h2⟩:=h
 subst hl
 refine ⟨?_,st,p,World.putObj_heap_same (Qqj h2).1⟩
 unfold Z9
 rw [World.putObj_heap_other C1];exact hm
def Xk.busied {rec:Loop} {B:Nat} {w w':Wd} (h:Xk rec B w) (hb:jP (B+1) w w'):Xk rec B w':=by
 obtain ⟨r,hr,rfl⟩:=hb
 obtain ⟨_,st,p,h2⟩:=id h
 rw [h2] at hr
 injection hr with hr
 injection hr with hr
 subst hr
 exact h.putBusy rfl .busy p
def ZQ.busied {B l:Nat} {I:WPr} {w w':Wd} (h:ZQ B I) (hb:jP l w w') (hl:B≤l) (hI:I w):I w':=by
 obtain ⟨r,hr,rfl⟩:=hb
 exact h.loop _ _ _ _ hl hI hr
def Gr {g:Operand} {p:Nat} {asg body:Code} {Q:K} {QP:KP} {ρ:Env} {ds:LDf} {w:Wd} {fv:Vl} {nbody:Nat→Vl→Wd→(Wd→Prop)→(Nat→Wd→Prop)→(List PanicEntry→Wd→Prop)→Prop} {QPn:List PanicEntry→LDf→Wd→Prop}
 {k:LDf→Wd→Prop} {kx:List (LDf→Wd→Prop)} (js:List Code) (h:BF P fv ds nbody QPn w k kx) (hg:ev ρ g=fv)
 (hbody:∀ l x w K X QPr,nbody l x w K X QPr→den P N (some l) asg (QZ (λ ρ' ds' w'=>ds'=[]∧Ad l w' (λ w''=>den P N (some l) body (TL js K X) (Nx QPr) ρ' [] w'')) (λ _ _ _ _=>False)) (λ _ _ _ _=>False) (put N ρ (some p) x) [] w)
 (hk:∀ ds w,k ds w→Q .normal ρ ds w) (hx:∀ c ds w,Te kx c ds w→∃ code,js[c]?=some code∧((code = .ret∧Q .ret ρ ds w)∨(∃ id,code = .exit id∧Q (.exit id) ρ ds w))) (hp:∀ ch ds w,QPn ch ds w→QP ch ρ ds w) :
 den P N none (.rangeFunc g #[p] asg body) Q QP ρ ds w:=by
 intro a ha hds
 subst hds
 obtain ⟨f,caps,n,xs,FP,I,Ix,Ip,hfv,hcal,hseq,h0,hFP,hL,hLx,hround,hend,hjump,hpan⟩:=h
 refine GS λ fn hfn=>?_
 obtain ⟨rec,hrec⟩:∃ rec:Loop,rec={ state := .ready,pending:=none,fn,tmps:=a.tmps,params := #[p],assign:=asg,body,defers:=w.heap.size }:=⟨_,rfl⟩
 obtain ⟨W1,hW1⟩:∃ W1,(w.alloc (.deferred (some []))).alloc (.loop rec)=W1:=⟨_,rfl⟩
 have hE1:Ext w W1:=by rw [← hW1];exact ((Ext.refl w).alloc _).alloc _
 have hL1:W1.heap[w.heap.size+1]?=some (.loop rec):=by
  rw [← hW1];have:=World.alloc_heap_new (w.alloc (.deferred (some []))) (.loop rec);rwa [World.size_alloc] at this
 have hK1:Z9 w.heap.size W1:=by
  rw [← hW1];exact Z9.alloc (World.alloc_heap_new w _) _
 have hev:a.eval g=fv:=by rw [ha.eval];exact hg
 refine ⟨w.heap.size+1,[mark w.heap.size],W1,{ target := .fn (.func f) caps,args := #[.func (.yield (w.heap.size+1)) #[] #[]] },W1,f,#[.func (.yield (w.heap.size+1)) #[] #[]]++caps,W1,?_,?_,?_,?_⟩
 · rw [← hW1,hrec];exact run_enterLoop_outer _ _ _ _ _
 · simp only [resolve,hev,hfv]
   simp [go_sem]
 · simp only [invoke]
   exact Qi hcal _ _
 · refine Calls.mono (hseq (.func (.yield (w.heap.size+1)) #[] #[]) (λ j w'=>I j w'∧Z9 w.heap.size w'∧∃ p,w'.heap[w.heap.size+1]?=some (.loop { rec with state := .ready,pending:=p })∧p=none)
    (λ w'=>Z9 w.heap.size w'∧∃ c code,Ix c w'∧js[c]?=some code∧w'.heap[w.heap.size+1]?=some (.loop { rec with state := .done,pending:=some code }))
    (λ ch w'=>Z9 w.heap.size w'∧Ip ch w') W1 (λ j w' hj=>hFP j w' hj.1) (λ j w1 w2 hj he=>⟨(hL j).ext _ _ hj.1 he,hj.2.1.ext he,hj.2.2.elim λ q hq=>⟨q,he.obj hq.1,hq.2⟩⟩)
    (λ w1 w2 hj he=>⟨hj.1.ext he,hj.2.elim λ c hc=>hc.elim λ code hh=>⟨c,code,(hLx c).ext _ _ hh.1 he,hh.2.1,he.obj hh.2.2⟩⟩) ?_ ⟨(hL 0).ext _ _ h0 hE1,hK1,none,by rw [hL1,hrec],rfl⟩) ?_
   · rintro j hj w' ⟨hi,hm,q,hl,rfl⟩
     have Yo:w.heap.size+1 < w'.heap.size:=(Qqj hl).1
     have hy:=run_yield (P:=P) (args := #[xs j]) hl (by rw [hrec];rfl)
     show V9 P _ _ _ _
     have hcs:zR (.func (.yield (w.heap.size+1)) #[] #[]) #[xs j]=Instr.yield (w.heap.size+1) #[xs j]:=by
      simp [zR,Deferred.ofValue,invoke,go_sem,bind,pure,Sem.bind]
     rw [hcs,hy]
     have key:∀ R,wpV (some (w.heap.size+1)) P asg (Exit.then (λ a₁ w₁=>∃ w₂,(Instr.beginRound (w.heap.size+1)).run P w₁ = .ok () w₂∧wpV (some (w.heap.size+1)) P body (Zeq P (w.heap.size+1) R) a₁ w₂) (λ _ _ _=>False)) { tmps:=((#[p].zip #[xs j]).foldl (λ tmps (t,a)=>tmps.setIfInBounds t a) a.tmps),defers:=[] } w' →
      Ka P (w.heap.size+1) rec.fn ((rec.params.zip #[xs j]).foldl (λ tmps (t,a)=>tmps.setIfInBounds t a) rec.tmps) rec.assign rec.body w' R:=by
      intro R h;rw [hrec];exact GK hfn h
     refine key _ ?_
     have hb:=hbody _ _ _ _ _ _ (hround rec j w' hj hi ⟨hm,_,_,hl⟩ ⟨_,hl,rfl⟩)
     have hagr:YG N ({ tmps:=((#[p].zip #[xs j]).foldl (λ tmps (t,a)=>tmps.setIfInBounds t a) a.tmps),defers:=[] }:Act) (put N ρ (some p) (xs j)):=by
      have:=(YG.defers ha []).put (some p) (xs j)
      simpa [Act.put] using this
     refine Qc (WY asg _ _ _ _ _ hagr hb) ?_
     intro e a1 w1 hl1
     cases e with
     | panic ch=>obtain ⟨_,_,hf⟩:=hl1;exact hf.elim
     | outgrown=>exact hl1
     | exit id=>obtain ⟨_,_,_,hf⟩:=hl1;exact hf.elim
     | goto l=>obtain ⟨_,_,_,hf⟩:=hl1;exact hf.elim
     | ret=>obtain ⟨_,_,_,hf⟩:=hl1;exact hf.elim
     | normal=>
      obtain ⟨ρ1,ha1,_,hd1,hbz⟩:=hl1
      obtain ⟨⟨r,hr1,hr2⟩,hbz⟩:=hbz
      refine ⟨_,run_beginRound hr1 hr2,?_⟩
      rw [show a1={ a1 with defers:=[] } by rw [← hd1]]
      refine Qc (WY body _ _ _ _ _ (YG.defers ha1 []) (hbz _ ⟨_,hr1,rfl⟩)) ?_
      have fin:∀ (jump:Option Code) (w2:Wd),Xk rec w.heap.size w2→(Instr.endRound (w.heap.size+1) jump).run P w2 = .ok (.bool jump.isNone) (w2.putObj (w.heap.size+1) (.loop { rec with state:=if jump.isNone then .ready else .done,pending:=jump })) ∧
       (w2.putObj (w.heap.size+1) (.loop { rec with state:=if jump.isNone then .ready else .done,pending:=jump })).heap[w.heap.size+1]?=some (.loop { rec with state:=if jump.isNone then .ready else .done,pending:=jump }) ∧
       Z9 w.heap.size (w2.putObj (w.heap.size+1) (.loop { rec with state:=if jump.isNone then .ready else .done,pending:=jump })):=by
       rintro jump w2 ⟨hm2,st,q,hq⟩
       refine ⟨by have:=run_endRound (P:=P) jump hq;exact this,World.putObj_heap_same (Qqj hq).1,?_⟩
       unfold Z9
       rw [World.putObj_heap_other C1];exact hm2
      intro e a2 w2 hl2
      cases e with
      | normal=>
       obtain ⟨_,_,_,_,Wc,hi2⟩:=hl2
       obtain ⟨f1,f2,f3⟩:=fin none w2 Wc
       obtain ⟨_,st,q,hq⟩:=Wc
       exact ⟨_,_,f1,.inl ⟨rfl,(hL _).loop _ _ _ _ (Nat.le_succ _) hi2 hq,f3,none,f2,rfl⟩⟩
      | ret=>
       obtain ⟨_,_,_,_,c,hc,Wc,hi2⟩:=hl2
       obtain ⟨f1,f2,f3⟩:=fin (some .ret) w2 Wc
       obtain ⟨_,st,q,hq⟩:=Wc
       exact ⟨_,_,f1,.inr ⟨rfl,f3,c,_,(hLx _).loop _ _ _ _ (Nat.le_succ _) hi2 hq,hc,f2⟩⟩
      | exit id=>
       obtain ⟨_,_,_,_,c,hc,Wc,hi2⟩:=hl2
       obtain ⟨f1,f2,f3⟩:=fin (some (.exit id)) w2 Wc
       obtain ⟨_,st,q,hq⟩:=Wc
       exact ⟨_,_,f1,.inr ⟨rfl,f3,c,_,(hLx _).loop _ _ _ _ (Nat.le_succ _) hi2 hq,hc,f2⟩⟩
      | panic ch=>
       obtain ⟨_,_,hd2,Wc,hi2⟩:=hl2
       exact ⟨hd2,Wc.1,hi2⟩
      | goto l=>obtain ⟨_,_,_,hf⟩:=hl2;exact hf.elim
      | outgrown=>exact hl2
   · have hagr:YG N ({ a with defers:=[mark w.heap.size]++a.defers }:Act) ρ:=ha
     have exh:∀ (st:LoopState) (q:Option Code) (w':Wd),w'.heap[w.heap.size+1]?=some (.loop { rec with state:=st,pending:=q })→st ≠ .busy→Z9 w.heap.size w' →
      (Instr.endLoop (w.heap.size+1)).run P w' = .ok q (w'.putObj (w.heap.size+1) (.loop { rec with state := .exhausted,pending:=q }))∧Z9 w.heap.size (w'.putObj (w.heap.size+1) (.loop { rec with state := .exhausted,pending:=q })):=by
      intro st q w' hq Y7 hm
      refine ⟨by have:=run_endLoop (P:=P) hq Y7;exact this,?_⟩
      unfold Z9
      rw [World.putObj_heap_other C1];exact hm
     rintro e w' he
     cases e with
     | returned v=>
      rcases he with ⟨hi,hm,q,hl,rfl⟩ | ⟨hm,c,code,hi,hc,hl⟩
      · obtain ⟨e1,e2⟩:=exh _ _ w' hl (by simp) hm
        exact ⟨none,_,e1,hagr,hk _ _ (hend _ ((hL _).loop _ _ _ _ (Nat.le_succ _) hi hl) e2)⟩
      · obtain ⟨e1,e2⟩:=exh _ _ w' hl (by simp) hm
        refine ⟨some code,_,e1,?_⟩
        obtain ⟨code',hc',hden⟩:=hx c _ _ (hjump c _ ((hLx _).loop _ _ _ _ (Nat.le_succ _) hi hl) e2)
        rw [hc] at hc';cases hc'
        rcases hden with ⟨rfl,hq⟩ | ⟨id,rfl,hq⟩
        · exact Fz ⟨hagr,hq⟩
        · exact Ca ⟨hagr,hq⟩
     | panicked ch=>exact ⟨hagr,hp _ _ _ (hpan ch _ he.2 he.1)⟩
     | outgrown=>exact he.elim
def Zep (P:Program) (fv:Vl) (args:AVl) (ds:LDf) (w:Wd) (k:LDf→Wd→Prop):Prop:=∃ d w',(Deferred.ofValue fv args).run P w = .ok d w'∧k (d::ds) w'
def DR {QP:KP} {T:Env→LDf→Wd→Prop} {rest:List Oper} {ρ:Env} {ds:LDf} {w:Wd} {fo:Operand} {l:List Operand} {ats:Array TypeId} {ty:TypeId} {dst:Option Nat} {pos:String} {after:Array Edge} {g:Option (Nat×Bool)} {fv:Vl} {args:List Vl} {k:LDf→Wd→Prop}
 (h:Zep P fv args.toArray ds w k) (h1:ev ρ fo=fv) (h2:l.map (ev ρ)=args) (hk:∀ ds w',k ds w'→ZP P N none QP T rest (put N ρ dst undef) ds w'):ZP P N none QP T (⟨dst,.defer ⟨.value fo,l.toArray,ats⟩,ty,pos,after,g⟩::rest) ρ ds w:=by
 subst h1 h2
 obtain ⟨d,w',hd,h⟩:=h
 show opE P none QP _ ρ ds w _ _
 unfold opE
 have he:(execOp (ev ρ) ⟨dst,.defer ⟨.value fo,l.toArray,ats⟩,ty,pos,after,g⟩).run P w = .ok (.defer d) w':=by
  simp only [execOp,resolve,List.map_toArray,Sem.run_bind,hd,Result.andThen]
  rfl
 show V9 P _ _ _ _
 rw [he]
 exact hk _ _ h
end
def DJ {P:Program} {B:Nat} {ds:LDf} {u:FrameMode} {w:Wd} {k:FrameMode→Wd→Prop} (hu:u ≠ .run) (hm:Z9 B w) (h:jy P ds u (w.putObj B (.deferred none)) k):jy P (mark B::ds) u w k:=⟨hu,.inl ⟨B,rfl,hm,h⟩⟩
def Kd {w:Wd} {B:Nat} {o:Option (LDf)} (h:Z9 B w) (a:Addr):(w.putObj B (.deferred o)).cell? a=w.cell? a:=by
 unfold World.cell?
 by_cases e:a.block=B
 · rw [e,World.putObj_heap_same (Qqj h).1,h]
 · rw [World.putObj_heap_other e]
def WM {P:Program} {l:List (Option TypeId×Vl)} {R:RT} {w:Wd}:Ul P [] l R w=y1 P l w (λ v=>R (.returned v) w):=rfl
def Ug {P:Program} {l:List (Option TypeId×Vl)} {R:RT} {ch:List PanicEntry} {w:Wd}:ZD P [] l R ch w=R (.panicked ch) w:=rfl
def WA {P:Program} {B:Nat} {ds:LDf} {l:List (Option TypeId×Vl)} {R:RT} {w:Wd} (hm:Z9 B w) (h:Ul P ds l R (w.putObj B (.deferred none))):Ul P (mark B::ds) l R w:=DJ (by simp) hm h
def qe {P:Program} {B:Nat} {ds:LDf} {l:List (Option TypeId×Vl)} {R:RT} {ch:List PanicEntry} {w:Wd} (hm:Z9 B w) (h:ZD P ds l R ch (w.putObj B (.deferred none))):ZD P (mark B::ds) l R ch w:=DJ (by simp) hm h
end Go.Sw
namespace Go.Sw
def recM:FrameMode→Vl×FrameMode
 | .panicking ({ v,recovered:=false,goexit:=false }::older)=>(v,.panicking ({ v,recovered:=true }::older))
 | u=>(.nilIface,u)
def Cv (c:Frame) (cs:List Frame):(match recoverD (c::cs) with | some (v,cs')=>(v,cs') | none=>(.nilIface,c::cs))=((recM c.mode).1,{ c with mode:=(recM c.mode).2 }::cs):=by
 cases c with
 | mk fn tmps todo defers mode kind ro=>
  cases mode with
  | run=>rfl
  | returning=>rfl
  | panicking chain=>
   cases chain with
   | nil=>rfl
   | cons e older=>
    cases e with
    | mk v r g=>cases r<;>cases g<;>rfl
def GB {P:Program} {f:FuncId} {fn:Func} {id:Nat} {o0:Oper} {l:List Oper} {c2:Code} {d:Nat} {ats:Array TypeId} {args:List Vl} {w:Wd} {u:FrameMode} {R:Ending→FrameMode→Wd→Prop}
 (hf:P.funcs[f]?=some fn) (hb:fn.body=some (.seq (.region id (o0::l).toArray false) c2)) (hn:args.length≤fn.ntmps) (hg0:o0.guard=none) (hu:Vc l=true) (ho:o0.op = .call ⟨.builtin .recover,#[],ats⟩) (hd:o0.dst=some d)
 (h:ZP P fn.ntmps none (xh (λ e w=>R e (recM u).2 w)) (λ ρ ds w=>den P fn.ntmps none c2 (Un P fn (λ e w=>R e (recM u).2 w)) (xh (λ e w=>R e (recM u).2 w)) ρ ds w) l (put fn.ntmps (Ao args) (some d) (recM u).1) [] w) :
 CallsDIn Fence.wide 0 P f args.toArray u w R:=by
 refine ⟨trivial,λ c cs hmode _=>?_⟩
 subst hmode
 let b:Frame:={ (default:Frame) with fn:=f,kind := .deferred,roundOf:=none }
 have henter:Frame.enter P f args.toArray .deferred=b.atR { tmps:=args.toArray++Array.replicate (fn.ntmps - args.toArray.size) undef,defers:=[] } [.code (.seq (.region id (o0::l).toArray false) c2)]:=by simp [Frame.enter,Frame.atR,hf,hb,b]
 have hag:=(D2 fn.ntmps args hn).put (some d) (recM c.mode).1
 have Vs:(List.range (o0::l).toArray.size)=0::List.range' 1 l.length:=by simp [List.range_eq_range',List.range'_succ]
 have s1:Steps P (lone (Frame.enter P f args.toArray .deferred) (c::cs) w) (lone (b.atR ({ tmps:=args.toArray++Array.replicate (fn.ntmps - args.toArray.size) undef,defers:=[] }:Act) (.inRegion (o0::l).toArray (0::List.range' 1 l.length)::[.code c2])) (c::cs) w):=by
  rw [henter,← Vs]
  exact .head stepR_seq (.one stepR_region)
 have s2:Steps P (lone (b.atR ({ tmps:=args.toArray++Array.replicate (fn.ntmps - args.toArray.size) undef,defers:=[] }:Act) (.inRegion (o0::l).toArray (0::List.range' 1 l.length)::[.code c2])) (c::cs) w)
  (lone (b.atR (({ tmps:=args.toArray++Array.replicate (fn.ntmps - args.toArray.size) undef,defers:=[] }:Act).put (some d) (recM c.mode).1) (.inRegion (o0::l).toArray (List.range' 1 l.length)::[.code c2])) ({ c with mode:=(recM c.mode).2 }::cs) w):=by
  refine .one (step_lone_go ?_)
  have h0:(o0::l).toArray[0]?=some o0:=by simp
  have hw:Region.wanted o0 (yielded (o0::l).toArray ({ tmps:=args.toArray++Array.replicate (fn.ntmps - args.toArray.size) undef,defers:=[] }:Act).tmps)=true:=by simp [Region.wanted,hg0]
  have hg:=stepGR_op (P:=P) (b:=b) (a:=({ tmps:=args.toArray++Array.replicate (fn.ntmps - args.toArray.size) undef,defers:=[] }:Act)) (k:=[.code c2]) (cs:=c::cs) (w:=w) (rest:=List.range' 1 l.length) h0 hw
  rw [hg]
  have hfin:∀ v,(b.atR ({ tmps:=args.toArray++Array.replicate (fn.ntmps - args.toArray.size) undef,defers:=[] }:Act) (.inRegion (o0::l).toArray (0::List.range' 1 l.length)::[.code c2])).finish v=b.atR (({ tmps:=args.toArray++Array.replicate (fn.ntmps - args.toArray.size) undef,defers:=[] }:Act).put o0.dst v) (.inRegion (o0::l).toArray (List.range' 1 l.length)::[.code c2]):=by
   intro v;rw [Frame.finish_atR,h0];rfl
  have hr:Sem.run P (o0.semAt b.roundOf ({ tmps:=args.toArray++Array.replicate (fn.ntmps - args.toArray.size) undef,defers:=[] }:Act).eval) w = .ok .recover w:=by
   show Sem.run P (o0.semAt none _) w=_
   unfold Oper.semAt
   simp only [ho,execOp,resolve,Sem.run_bind,Array.map_empty,Sem.run_pure,Result.andThen,invoke,builtin]
  have hro0:b.roundOf=none:=rfl
  have hrec:=Cv c cs
  have htr:=tryRecover_deferred (fr:=b.atR ({ tmps:=args.toArray++Array.replicate (fn.ntmps - args.toArray.size) undef,defers:=[] }:Act) (.inRegion (o0::l).toArray (0::List.range' 1 l.length)::[.code c2])) rfl (c::cs)
  rw [hd] at hfin
  rw [← hfin]
  simp only [stepG.apply,Sem.runT_eq,hr,GStep.bare_after]
  cases hrd:recoverD (c::cs) with
  | some x=>
   obtain ⟨v,cs'⟩:=x
   rw [hrd] at hrec htr
   simp only [Prod.mk.injEq] at hrec
   obtain ⟨rfl,rfl⟩:=hrec
   simp only [Frame.atR,hro0] at htr ⊢
   simp only [ite_true,htr]
   rfl
  | none=>
   rw [hrd] at hrec htr
   simp only [Prod.mk.injEq] at hrec
   obtain ⟨h1,h2⟩:=hrec
   rw [← h1,← h2]
   simp only [Frame.atR,hro0] at htr ⊢
   simp only [ite_true,htr]
   rfl
 have hro:b.roundOf=none:=rfl
 have hden:=VU (ro:=none) (P:=P) (ops:=(o0::l).toArray) (Q:=QZ (λ ρ ds w=>den P fn.ntmps none c2 (Un P fn (λ e w=>R e (recM c.mode).2 w)) (xh (λ e w=>R e (recM c.mode).2 w)) ρ ds w) (λ _ _ _ _=>False)) (tail:=[]) l none _ _ _ hu (λ _=>rfl) h
 rw [List.append_nil] at hden
 have hops:=zW (P:=P) (ro:=none) l 1 (by intro j;simp [Nat.add_comm 1 j]) none _ _ w hag (λ g hg=>by cases hg) hden
 obtain ⟨e,a',w',hq,YS⟩:=zA _ _ _ hops b [.code c2] ({ c with mode:=(recM c.mode).2 }::cs) hro
 have s12:=Steps.trans s1 s2
 have fin:∀ (e:Ending) (w':Wd) (fr:Frame),R e (recM c.mode).2 w'→Steps P (lone (Frame.enter P f args.toArray .deferred) (c::cs) w) (lone fr ({ c with mode:=(recM c.mode).2 }::cs) w')→fr.kind = .deferred→fr.fn=f→fr.going P w' e→e ≠ .outgrown→(∃ e u' w' fr,R e u' w' ∧
  ComesIn (Machine.fenced P Fence.wide) P (lone (Frame.enter P f args.toArray .deferred) (c::cs) w) (lone fr ({ c with mode:=u' }::cs) w') e∧fr.kind = .deferred∧fr.fn=f∧fr.going P w' e):=
  λ e w' fr hR hs h1 h2 h3 Y7=>⟨e,_,w',fr,hR,by cases e<;>first | exact stepsIn_wide.2 hs | exact absurd rfl Y7,h1,h2,h3⟩
 have ends:∀ (e:Exit) (a':Act) (w':Wd),AB fn.ntmps (Un P fn (λ e w=>R e (recM c.mode).2 w)) (xh (λ e w=>R e (recM c.mode).2 w)) e a' w'→Arr P (lone (Frame.enter P f args.toArray .deferred) (c::cs) w) b [] ({ c with mode:=(recM c.mode).2 }::cs) e a' w'→(∃ e u' w' fr,R e u' w' ∧
  ComesIn (Machine.fenced P Fence.wide) P (lone (Frame.enter P f args.toArray .deferred) (c::cs) w) (lone fr ({ c with mode:=u' }::cs) w') e∧fr.kind = .deferred∧fr.fn=f∧fr.going P w' e):=by
  intro e a' w' hq YS
  cases e with
  | normal=>
   obtain ⟨ρ,ha,hd',hr⟩:=hq
   obtain ⟨v,h1,h2⟩:=hr _ ha.2
   exact fin _ _ { b.atR a' [] with mode := .returning } h2 (Steps.trans YS (.one (stepR_end rfl))) rfl rfl ⟨rfl,hd',fn,hf,h1⟩ (by simp)
  | ret=>
   obtain ⟨ρ,ha,hd',hr⟩:=hq
   obtain ⟨v,h1,h2⟩:=hr _ ha.2
   obtain ⟨todo,hs⟩:=YS.1 rfl
   exact fin _ _ { b.atR a' todo with mode := .returning } h2 hs rfl rfl ⟨rfl,hd',fn,hf,h1⟩ (by simp)
  | panic ch=>
   obtain ⟨ρ,ha,hd',hr⟩:=hq
   obtain ⟨todo,hs⟩:=YS
   exact fin _ _ { b.atR a' todo with mode := .panicking ch } hr hs rfl rfl ⟨rfl,hd',fn,hf⟩ (by simp)
  | exit id=>obtain ⟨_,_,hq⟩:=hq;exact hq.elim
  | goto l=>exact YS.elim
  | outgrown=>exact hq.elim
 cases e with
 | normal=>
  obtain ⟨ρ1,ha1,_,hq1⟩:=hq
  obtain ⟨e2,a2,w2,hq2,harr2⟩:=WY c2 _ _ a' ρ1 w' ha1 hq1 b [] ({ c with mode:=(recM c.mode).2 }::cs) hro ⟨fn,hf⟩
  refine ends e2 a2 w2 ?_ (.from (Steps.trans s12 YS) harr2)
  cases e2 with
  | panic ch=>exact hq2
  | outgrown=>exact hq2
  | normal=>obtain ⟨ρ,ha,_,hq⟩:=hq2;exact ⟨ρ,ha,hq⟩
  | exit id=>obtain ⟨ρ,ha,_,hq⟩:=hq2;exact ⟨ρ,ha,hq⟩
  | ret=>obtain ⟨ρ,ha,_,hq⟩:=hq2;exact ⟨ρ,ha,hq⟩
  | goto l=>exact harr2.elim
 | panic ch=>exact ends (.panic ch) a' w' hq (.from s12 YS)
 | ret=>obtain ⟨_,_,_,hq⟩:=hq;exact hq.elim
 | exit id=>obtain ⟨_,_,_,hq⟩:=hq;exact hq.elim
 | goto l=>exact YS.elim
 | outgrown=>exact hq.elim
end Go.Sw
namespace Go.Sw
section
variable {α:Type}
def mkE (enc:α→Vl) (x:α×Vl×Nat):MapEntry:={ key:=enc x.1,val:=x.2.1,born:=x.2.2 }
structure XA (w:Wd) (r:Nat) (enc:α→Vl) (L:List (α×Vl×Nat)) (c:Nat):Prop where
 obj:w.heap[r]?=some (.map (L.map (mkE enc)).toArray c)
 lt:∀ x∈L,x.2.2 < c
 births:L.Pairwise (λ x y=>x.2.2≠y.2.2)
 keys:L.Pairwise (λ x y=>x.1≠y.1)
section dec
variable [DecidableEq α]
def look (L:List (α×Vl×Nat)) (k:α):Option Vl:=(L.find? (λ x=>decide (x.1=k))).map (·.2.1)
def WE (L:List (α×Vl×Nat)) (k:α):Nat:=((L.find? (λ x=>decide (x.1=k))).map (·.2.2)).getD 0
def WC (L:List (α×Vl×Nat)) (k:α):Bool:=L.any (λ x=>decide (x.1=k))
def y7 (L:List (α×Vl×Nat)) (k:α) (v:Vl):List (α×Vl×Nat):=L.map λ x=>if x.1=k then (x.1,v,x.2.2) else x
def UH (L:List (α×Vl×Nat)) (c:Nat) (k:α) (v:Vl):List (α×Vl×Nat):=if WC L k then y7 L k v else L++[(k,v,c)]
def U5 (L:List (α×Vl×Nat)) (c:Nat) (k:α):Nat:=if WC L k then c else c+1
def G2 (L:List (α×Vl×Nat)) (c:Nat) (k:α) (z:Vl):List (α×Vl×Nat):=if WC L k then L else L++[(k,z,c)]
end dec
def XA.ext {w w':Wd} {r:Nat} {enc:α→Vl} {L:List (α×Vl×Nat)} {c:Nat} (h:XA w r enc L c) (e:Ext w w'):XA w' r enc L c:=⟨e.obj h.obj,h.lt,h.births,h.keys⟩
def XA.setCell {w:Wd} {r:Nat} {enc:α→Vl} {L:List (α×Vl×Nat)} {c:Nat} (h:XA w r enc L c) (a:Addr) (v:Vl):XA (w.setCell a v) r enc L c:=⟨(KeepsOthers.setCell w a v).same _ _ h.obj rfl,h.lt,h.births,h.keys⟩
def XA.new (w:Wd) (enc:α→Vl):XA (w.alloc (.map #[] 0)) w.heap.size enc [] 0:=⟨World.alloc_heap_new w _,by simp,by simp,by simp⟩
def XA.putOther {w:Wd} {r r':Nat} {enc:α→Vl} {L:List (α×Vl×Nat)} {c:Nat} (h:XA w r enc L c) (Y7:r≠r') (o:Obj):XA (w.putObj r' o) r enc L c:=⟨(World.putObj_heap_other Y7).trans h.obj,h.lt,h.births,h.keys⟩
variable [DecidableEq α]
def Q4 (x:α×Vl×Nat) (L:List (α×Vl×Nat)) (k:α):look (x::L) k=if x.1=k then some x.2.1 else look L k:=by
 unfold look
 by_cases h:x.1=k<;>simp [h]
def N9 (L:List (α×Vl×Nat)) (k:α):WC L k=(look L k).isSome:=by
 induction L with
 | nil=>rfl
 | cons x L ih=>
  rw [Q4]
  unfold WC at *
  simp only [List.any_cons,ih]
  by_cases h:x.1=k<;>simp [h]
def Hi (L:List (α×Vl×Nat)) (k k':α) (v:Vl) (c:Nat):look (L++[(k,v,c)]) k'=(look L k').or (if k=k' then some v else none):=by
 induction L with
 | nil=>rw [List.nil_append,Q4];by_cases h:k=k'<;>simp [h,look]
 | cons x L ih=>
  rw [List.cons_append,Q4,Q4,ih]
  by_cases h:x.1=k'<;>simp [h]
def P6 (L:List (α×Vl×Nat)) (k k':α) (v:Vl):look (y7 L k v) k'=if k'=k then (if WC L k then some v else none) else look L k':=by
 induction L with
 | nil=>by_cases h:k'=k<;>simp [h,look,y7,WC]
 | cons x L ih=>
  have e:y7 (x::L) k v=(if x.1=k then (x.1,v,x.2.2) else x)::y7 L k v:=rfl
  rw [e,Q4,ih,Q4]
  by_cases h:x.1=k
  · by_cases h':k'=k
    · subst h;subst h';simp [WC]
    · simp only [h,if_true,h',if_false]
      by_cases h2:k=k'
      · exact absurd h2.symm h'
      · simp [h2]
  · by_cases h':k'=k
    · subst h';simp only [h,if_false,if_true,WC,List.any_cons,decide_false,Bool.false_or];congr
    · simp [h,h']
def yj (L:List (α×Vl×Nat)) (c:Nat) (k k':α) (v:Vl):look (UH L c k v) k'=if k'=k then some v else look L k':=by
 unfold UH
 by_cases h:WC L k=true
 · rw [if_pos h,P6,if_pos h]
 · rw [if_neg h,Hi]
   have hn:look L k=none:=by rw [N9] at h;simpa using h
   by_cases h':k'=k
   · subst h';simp [hn]
   · have:¬ k=k':=λ e=>h' e.symm
     simp [h',this]
structure QJ (P:Program) (kt:TypeId) (enc:α→Vl):Prop where
 find:∃ d,P.underlying kt=some d∧∀ a b,Instr.sameNow d (enc a) (enc b)=some (decide (a=b))
 check:∀ e a w,(Instr.checkKey e 10000 kt (enc a)).run P w = .ok () w
 bits:∀ a,Instr.sameBits 10000 (enc a) (enc a)=true
def Ae (a b:BAr):(a == b)=decide (a=b):=by
 rw [Bool.eq_iff_iff,decide_eq_true_iff]
 cases a with
 | mk x=>cases b with
  | mk y=>
   show (x == y)=true↔_
   rw [beq_iff_eq]
   simp
def QJ.string {P:Program} {kt:TypeId} (h:P.underlying kt=some .string):QJ P kt (λ s:BAr=>Value.string s):=by
 refine ⟨⟨_,h,λ a b=>?_⟩,λ e a w=>?_,λ a=>by simp [Instr.sameBits,Ae]⟩
 · simp [Instr.sameNow,Ae]
 · unfold Instr.checkKey
   simp only [Sem.run_bind,run_underlying h,Result.andThen_ok]
   rfl
def QJ.int {P:Program} {kt:TypeId} {kd:IntKind} (h:P.underlying kt=some (.int kd)):QJ P kt (λ s:Int=>Value.int kd s):=by
 refine ⟨⟨_,h,λ a b=>?_⟩,λ e a w=>?_,λ a=>by simp [Instr.sameBits]⟩
 · simp only [Instr.sameNow,if_true];congr 1
 · unfold Instr.checkKey
   simp only [Sem.run_bind,run_underlying h,Result.andThen_ok]
   rfl
def qG {d:TypeDesc} {enc:α→Vl} (hs:∀ a b,Instr.sameNow d (enc a) (enc b)=some (decide (a=b))) (k:α):∀ (L:List (α×Vl×Nat)) (i:Nat),
 (∃ j x,L[j]?=some x∧x.1=k∧look L k=some x.2.1∧WE L k=x.2.2∧WC L k=true∧Instr.findNow d (enc k) (L.map (mkE enc)) i=some (some (i+j,x.2.1))) ∨
 (WC L k=false∧look L k=none∧Instr.findNow d (enc k) (L.map (mkE enc)) i=some none)
 | [],i => .inr ⟨rfl,rfl,rfl⟩
 | x::L,i=>by
  by_cases h:x.1=k
  · refine .inl ⟨0,x,rfl,h,by rw [Q4,if_pos h],by simp [WE,h],by simp [WC,h],?_⟩
    simp only [List.map_cons,Instr.findNow,mkE,hs,h,decide_true,Nat.add_zero]
  · have Y7:¬ k=x.1:=λ e=>h e.symm
    rcases qG hs k L (i+1) with ⟨j,y,h1,h2,h3,h4,h5,h6⟩ | ⟨h1,h2,h3⟩
    · refine .inl ⟨j+1,y,by simpa using h1,h2,by rw [Q4,if_neg h];exact h3,by rw [← h4];simp [WE,h],by unfold WC at *;simp only [List.any_cons,h5,Bool.or_true],?_⟩
      simp only [List.map_cons,Instr.findNow,mkE,hs,Y7,decide_false]
      rw [show i+(j+1)=i+1+j by omega]
      exact h6
    · refine .inr ⟨by unfold WC at *;simp only [List.any_cons,h1,h,decide_false,Bool.or_self],by rw [Q4,if_neg h];exact h2,?_⟩
      simp only [List.map_cons,Instr.findNow,mkE,hs,Y7,decide_false]
      exact h3
variable {P:Program} {QP:PEn} {w:Wd} {k':KV} {ku:WPr} {enc:α→Vl} {r:Nat} {L:List (α×Vl×Nat)} {c:Nat}
def Uv {kt:TypeId} (K:QJ P kt enc) (k:α) (L:List (α×Vl×Nat)) :
 (∃ j x,L[j]?=some x∧x.1=k∧look L k=some x.2.1∧WE L k=x.2.2∧WC L k=true∧(Instr.findKey kt (enc k) (L.map (mkE enc))).run P w = .ok (some (j,x.2.1)) w) ∨
 (WC L k=false∧look L k=none∧(Instr.findKey kt (enc k) (L.map (mkE enc))).run P w = .ok none w):=by
 obtain ⟨d,hd,hs⟩:=K.find
 rcases qG hs k L 0 with ⟨j,x,h1,h2,h3,h4,h5,h6⟩ | ⟨h1,h2,h3⟩
 · refine .inl ⟨j,x,h1,h2,h3,h4,h5,?_⟩
   unfold Instr.findKey
   simp only [Sem.run_bind,run_underlying hd,Result.andThen_ok,h6,Nat.zero_add,Sem.run_pure]
 · refine .inr ⟨h1,h2,?_⟩
   unfold Instr.findKey
   simp only [Sem.run_bind,run_underlying hd,Result.andThen_ok,h3,Sem.run_pure]
def Ui (h:XA w r enc L c):(getObj r).run P w = .ok (.map (L.map (mkE enc)).toArray c) w:=by simp [getObj,Sem.run,h.obj]
def qc {mt kt et:TypeId} {agg:Bool} {n m:Nat} {z:Vl} (hm:P.underlying mt=some (.map kt et)) (K:QJ P kt enc) (hz:ZF P et agg n m z) (h:XA w r enc L c) (k:α) :
 opV P (lookup mt (.map (some r)) (enc k) true) QP w k'=k' (.tuple #[(look L k).getD z,.bool (look L k).isSome]) w:=by
 obtain ⟨⟨i,hi,_,_,hzz⟩,_⟩:=hz
 refine ZV ?_
 unfold lookup
 simp only [Sem.run_bind,run_underlying hm,Result.andThen_ok,Ui h,Sem.run_pure,K.check]
 rcases Uv (P:=P) (w:=w) K k L with ⟨j,x,h1,h2,h3,h4,h5,h6⟩ | ⟨h1,h2,h3⟩
 · simp only [h6,Result.andThen_ok,h3,Sem.run_pure];rfl
 · simp only [h3,Result.andThen_ok,h2,Sem.run_pure,Sem.run_bind,zeroValue,typeInfo]
   simp [hi,hzz]
def LV {mt kt et:TypeId} {agg:Bool} {n m:Nat} {z:Vl} (hm:P.underlying mt=some (.map kt et)) (K:QJ P kt enc) (hz:ZF P et agg n m z) (h:XA w r enc L c) (k:α) :
 opV P (lookup mt (.map (some r)) (enc k) false) QP w k'=k' ((look L k).getD z) w:=by
 obtain ⟨⟨i,hi,_,_,hzz⟩,_⟩:=hz
 refine ZV ?_
 unfold lookup
 simp only [Sem.run_bind,run_underlying hm,Result.andThen_ok,Ui h,Sem.run_pure,K.check]
 rcases Uv (P:=P) (w:=w) K k L with ⟨j,x,h1,h2,h3,h4,h5,h6⟩ | ⟨h1,h2,h3⟩
 · simp only [h6,Result.andThen_ok,h3,Sem.run_pure];rfl
 · simp only [h3,Result.andThen_ok,h2,Sem.run_pure,Sem.run_bind,zeroValue,typeInfo]
   simp [hi,hzz]
def LY (t:TypeId):opV P (Instr.makeMap t none) QP w k'=k' (.map (some w.heap.size)) (w.alloc (.map #[] 0)):=ZV rfl
def W0 (enc:α→Vl) (L:List (α×Vl×Nat)) (c:Nat):Obj := .map (L.map (mkE enc)).toArray c
def XA.put (h:XA w r enc L c) (k:α) (v:Vl):XA (w.putObj r (W0 enc (UH L c k v) (U5 L c k))) r enc (UH L c k v) (U5 L c k):=by
 refine ⟨World.putObj_heap_same (Qqj h.obj).1,?_,?_,?_⟩
 · intro x hx
   unfold UH at hx
   unfold U5
   by_cases hh:WC L k=true
   · rw [if_pos hh] at hx ⊢
     unfold y7 at hx
     obtain ⟨y,hy,rfl⟩:=List.mem_map.1 hx
     have:=h.lt y hy
     split<;>exact this
   · rw [if_neg hh] at hx ⊢
     rcases List.mem_append.1 hx with hx | hx
     · have:=h.lt x hx;omega
     · simp at hx;subst hx;simp
 · unfold UH
   by_cases hh:WC L k=true
   · rw [if_pos hh]
     unfold y7
     rw [List.pairwise_map]
     refine h.births.imp λ {a b} hab=>?_
     split<;>split<;>exact hab
   · rw [if_neg hh]
     refine List.pairwise_append.2 ⟨h.births,by simp,λ x hx y hy=>?_⟩
     simp at hy;subst hy
     have:=h.lt x hx
     simp;omega
 · unfold UH
   by_cases hh:WC L k=true
   · rw [if_pos hh]
     unfold y7
     rw [List.pairwise_map]
     refine h.keys.imp λ {a b} hab=>?_
     split<;>split<;>exact hab
   · rw [if_neg hh]
     refine List.pairwise_append.2 ⟨h.keys,by simp,λ x hx y hy=>?_⟩
     simp at hy;subst hy
     intro e
     apply hh
     unfold WC
     rw [List.any_eq_true]
     exact ⟨x,hx,by simpa using e⟩
def HY (hk:L.Pairwise (λ x y=>x.1≠y.1)) {k:α} {j:Nat} {x:α×Vl×Nat} (hj:L[j]?=some x) (hx:x.1=k) {i:Nat} {y:α×Vl×Nat} (hi:L[i]?=some y) (hy:y.1=k):i=j:=by
 rw [List.pairwise_iff_getElem] at hk
 obtain ⟨hj',rfl⟩:=Qqx hj
 obtain ⟨hi',rfl⟩:=Qqx hi
 rcases Nat.lt_trichotomy i j with h | h | h
 · exact absurd (hy.trans hx.symm) (hk i j hi' hj' h)
 · exact h
 · exact absurd (hx.trans hy.symm) (hk j i hj' hi' h)
def AH (h:XA w r enc L c) {k:α} {j:Nat} {x:α×Vl×Nat} (hj:L[j]?=some x) (hx:x.1=k) (v:Vl) :
 ((L.map (mkE enc)).toArray.modify j λ e=>{ e with key:=enc k,val:=v })=((y7 L k v).map (mkE enc)).toArray:=by
 apply Array.ext_getElem?
 intro i
 simp only [Array.getElem?_modify,List.getElem?_toArray,List.getElem?_map,y7]
 by_cases hij:j=i
 · subst hij
   simp only [if_true,hj,Option.map_some,hx,mkE]
 · simp only [hij,if_false]
   cases hi:L[i]? with
   | none=>rfl
   | some y=>
    have:y.1≠k:=λ e=>hij (HY h.keys hi e hj hx)
    simp only [Option.map_some,this,if_false]
def DP {kt:TypeId} (K:QJ P kt enc) (k:α):(Instr.keyThatStays (enc k) (enc k)).run P w = .ok (enc k) w:=by
 unfold Instr.keyThatStays
 rw [K.bits];rfl
def Kp {mt kt et:TypeId} (hm:P.underlying mt=some (.map kt et)) (K:QJ P kt enc) (h:XA w r enc L c) (k:α) (v:Vl) :
 opU P (mapUpdate mt (.map (some r)) (enc k) v) QP w ku=ku (w.putObj r (W0 enc (UH L c k v) (U5 L c k))):=by
 refine qb (u:=()) ?_
 unfold mapUpdate
 simp only [Sem.run_bind,run_underlying hm,Result.andThen_ok,Ui h,K.check]
 have hset:∀ o,(setObj r o).run P w = .ok () (w.putObj r o):=λ o=>by simp [setObj,Sem.run,h.obj,World.putObj]
 rcases Uv (P:=P) (w:=w) K k L with ⟨j,x,h1,h2,h3,h4,h5,h6⟩ | ⟨h1,h2,h3⟩
 · have hke:(((L.map (mkE enc)).toArray[j]?.map (·.key)).getD (enc k))=enc k:=by simp [h1,mkE,h2]
   simp only [h6,Result.andThen_ok,Sem.run_bind,hke,DP K,hset]
   rw [AH h h1 h2]
   simp only [W0,UH,U5,h5,if_true]
 · simp only [h3,Result.andThen_ok,hset]
   have:(L.map (mkE enc)).toArray.push { key:=enc k,val:=v,born:=c }=((L++[(k,v,c)]).map (mkE enc)).toArray:=by simp [mkE]
   rw [this]
   simp only [W0,UH,U5,h1,Bool.false_eq_true,if_false]
def HS {mt kt et:TypeId} {agg:Bool} {n m:Nat} {z:Vl} (hm:P.underlying mt=some (.map kt et)) (K:QJ P kt enc) (hz:ZF P et agg n m z) (h:XA w r enc L c) (k:α) :
 opV P (Instr.mapEntry mt (.map (some r)) (enc k)) QP w k'=k' (.tuple #[(look L k).getD z,goInt (WE (G2 L c k z) k)]) (w.putObj r (W0 enc (G2 L c k z) (U5 L c k))):=by
 obtain ⟨⟨i,hi,_,_,hzz⟩,_⟩:=hz
 refine ZV ?_
 unfold Instr.mapEntry
 simp only [Sem.run_bind,run_underlying hm,Result.andThen_ok,Ui h,K.check]
 have hset:∀ o,(setObj r o).run P w = .ok () (w.putObj r o):=λ o=>by simp [setObj,Sem.run,h.obj,World.putObj]
 rcases Uv (P:=P) (w:=w) K k L with ⟨j,x,h1,h2,h3,h4,h5,h6⟩ | ⟨h1,h2,h3⟩
 · have hke:(((L.map (mkE enc)).toArray[j]?.map (·.key)).getD (enc k))=enc k:=by simp [h1,mkE,h2]
   have hbo:((Option.map (λ x:MapEntry=>(x.born:Int)) (L.map (mkE enc)).toArray[j]?).getD 0)=(x.2.2:Int):=by simp [h1,mkE]
   have hmo:((L.map (mkE enc)).toArray.modify j λ e=>{ e with key:=enc k })=(L.map (mkE enc)).toArray:=by
    apply Array.ext_getElem?
    intro i
    simp only [Array.getElem?_modify,List.getElem?_toArray,List.getElem?_map]
    by_cases hij:j=i
    · subst hij;simp [h1,mkE,h2]
    · simp [hij]
   simp only [h6,Result.andThen_ok,Sem.run_bind,hke,DP K,hset,hbo,hmo,Sem.run_pure]
   simp only [W0,G2,U5,h5,if_true,h3,Option.getD_some,h4]
 · have hzr:(zeroValue et).run P w = .ok z w:=by simp [zeroValue,typeInfo,hi,hzz]
   have hn:(L.map (mkE enc)).toArray.push { key:=enc k,val:=z,born:=c }=((L++[(k,z,c)]).map (mkE enc)).toArray:=by simp [mkE]
   simp only [h3,Result.andThen_ok,hset,Sem.run_bind,hzr,Sem.run_pure,hn]
   have hb:WE (L++[(k,z,c)]) k=c:=by
    unfold WE
    have:L.find? (λ x=>decide (x.1=k))=none:=by
     rw [List.find?_eq_none]
     intro x hx e
     unfold WC at h1
     rw [List.any_eq_false] at h1
     exact h1 x hx e
    simp [List.find?_append,this]
   simp only [W0,G2,U5,h1,Bool.false_eq_true,if_false,h2,Option.getD_none,hb]
def XA.ent (h:XA w r enc L c) (k:α) (z:Vl):XA (w.putObj r (W0 enc (G2 L c k z) (U5 L c k))) r enc (G2 L c k z) (U5 L c k):=by
 by_cases hh:WC L k=true
 · have e1:G2 L c k z=L:=if_pos hh
   have e2:U5 L c k=c:=if_pos hh
   rw [e1,e2]
   exact ⟨World.putObj_heap_same (Qqj h.obj).1,h.lt,h.births,h.keys⟩
 · have:=h.put k z
   have e1:G2 L c k z=UH L c k z:=by unfold G2 UH;rw [if_neg hh,if_neg hh]
   rw [e1];exact this
def MT (k:α) (v z:Vl):y7 (G2 L c k z) k v=UH L c k v:=by
 unfold G2 UH
 by_cases hh:WC L k=true
 · rw [if_pos hh,if_pos hh]
 · rw [if_neg hh,if_neg hh]
   unfold y7
   rw [List.map_append]
   congr 1
   · conv=>rhs;rw [← List.map_id L]
     apply List.map_congr_left
     intro x hx
     have:x.1≠k:=by
      intro e;apply hh;unfold WC;rw [List.any_eq_true];exact ⟨x,hx,by simpa using e⟩
     simp [this]
   · simp
def F4 (k:α) (z:Vl):WC (G2 L c k z) k=true:=by
 unfold G2
 by_cases hh:WC L k=true
 · rw [if_pos hh];exact hh
 · rw [if_neg hh];simp [WC]
def GG {mt:TypeId} (h:XA w r enc L c) {k:α} (hk:WC L k=true) (v:Vl) :
 opU P (Instr.entryStore mt (.map (some r)) (goInt (WE L k)) v) QP w ku=ku (w.putObj r (W0 enc (y7 L k v) c)):=by
 refine qb (u:=()) ?_
 unfold Instr.entryStore
 have hset:∀ o,(setObj r o).run P w = .ok () (w.putObj r o):=λ o=>by simp [setObj,Sem.run,h.obj,World.putObj]
 have hai:(asInt (goInt (WE L k))).run P w = .ok ((WE L k:Nat):Int) w:=rfl
 simp only [Sem.run_bind,Ui h,Result.andThen_ok,hai]
 obtain ⟨x,hx⟩:∃ x,L.find? (λ x=>decide (x.1=k))=some x:=by
  unfold WC at hk
  rw [List.any_eq_true] at hk
  obtain ⟨x,h1,h2⟩:=hk
  cases hf:L.find? (λ x=>decide (x.1=k)) with
  | some y=>exact ⟨y,rfl⟩
  | none=>rw [List.find?_eq_none] at hf;exact absurd h2 (hf x h1)
 have hxk:x.1=k:=by simpa using List.find?_some hx
 have hxm:=List.mem_of_find?_eq_some hx
 obtain ⟨j,hj⟩:=List.getElem?_of_mem hxm
 have hb:WE L k=x.2.2:=by simp [WE,hx]
 have hidx:(L.map (mkE enc)).toArray.findIdx? (λ e=>(e.born:Int) == ((WE L k:Nat):Int))=some j:=by
  rw [Array.findIdx?_eq_some_iff_getElem]
  obtain ⟨Oc,hje⟩:=Qqx hj
  refine ⟨by simpa using Oc,?_,?_⟩
  · simp [mkE,hje,hb]
  · intro i hi
    have hbi:=List.pairwise_iff_getElem.1 h.births i j C1 Oc hi
    simp only [List.getElem_toArray,List.getElem_map,mkE,hb,Bool.not_eq_true]
    rw [hje] at hbi
    rw [beq_eq_false_iff_ne];intro e;exact hbi (Int.ofNat.inj e)
 simp only [hidx,hset]
 have hm2:((L.map (mkE enc)).toArray.modify j λ e=>{ e with val:=v })=((y7 L k v).map (mkE enc)).toArray:=by
  rw [← AH h hj hxk v]
  apply Array.ext_getElem?
  intro i
  simp only [Array.getElem?_modify,List.getElem?_toArray,List.getElem?_map]
  by_cases hij:j=i
  · subst hij;simp [hj,mkE,hxk]
  · simp [hij]
 rw [hm2];rfl
def GJ (o o':Obj):(w.putObj r o).putObj r o'=w.putObj r o':=by
 simp only [World.putObj,Array.setIfInBounds_setIfInBounds]
def Ext.putObj {a w:Wd} (h:Ext a w) {l:Nat} (hl:a.heap.size≤l) (o:Obj):Ext a (w.putObj l o):=
 ⟨h.os,h.tape,h.output,by simpa using h.size,λ k hk=>(World.putObj_heap_other C1).trans (h.block k hk)⟩
def KZ (h:XA w r enc L c) {L':List (α×Vl×Nat)} {c':Nat} (a:Addr):(w.putObj r (W0 enc L' c')).cell? a=w.cell? a:=by
 unfold World.cell?
 by_cases e:a.block=r
 · rw [e,World.putObj_heap_same (Qqj h.obj).1,h.obj];rfl
 · rw [World.putObj_heap_other e]
end
section
variable {P:Program} {QP:PEn} {w:Wd} {k':KV} {ku:WPr} {r:Nat} {c:Nat}
abbrev jZ (w:Wd) (r:Nat) (L:List (BAr×Vl×Nat)) (c:Nat):Prop:=XA w r (λ s:BAr=>Value.string s) L c
abbrev Gj (L:List (BAr×Vl×Nat)) (c:Nat):Obj:=W0 (λ s:BAr=>Value.string s) L c
variable {L:List (BAr×Vl×Nat)} {mt kt et:TypeId} {agg:Bool} {n m:Nat} {z:Vl}
def LX (hm:P.underlying mt=some (.map kt et)) (hk:P.underlying kt=some .string) (hz:ZF P et agg n m z) (h:jZ w r L c) (k:BAr) :
 opV P (lookup mt (.map (some r)) (.string k) true) QP w k'=k' (.tuple #[(look L k).getD z,.bool (look L k).isSome]) w:=qc hm (QJ.string hk) hz h k
def jh (hm:P.underlying mt=some (.map kt et)) (hk:P.underlying kt=some .string) (hz:ZF P et agg n m z) (h:jZ w r L c) (k:BAr) :
 opV P (lookup mt (.map (some r)) (.string k) false) QP w k'=k' ((look L k).getD z) w:=LV hm (QJ.string hk) hz h k
def GH (hm:P.underlying mt=some (.map kt et)) (hk:P.underlying kt=some .string) (h:jZ w r L c) (k:BAr) (v:Vl) :
 opU P (mapUpdate mt (.map (some r)) (.string k) v) QP w ku=ku (w.putObj r (Gj (UH L c k v) (U5 L c k))):=Kp hm (QJ.string hk) h k v
def yY (hm:P.underlying mt=some (.map kt et)) (hk:P.underlying kt=some .string) (hz:ZF P et agg n m z) (h:jZ w r L c) (k:BAr) :
 opV P (Instr.mapEntry mt (.map (some r)) (.string k)) QP w k'=k' (.tuple #[(look L k).getD z,goInt (WE (G2 L c k z) k)]) (w.putObj r (Gj (G2 L c k z) (U5 L c k))):=HS hm (QJ.string hk) hz h k
def jZ.new (w:Wd):jZ (w.alloc (.map #[] 0)) w.heap.size [] 0:=XA.new w _
def yl (names:List BAr) (s:BAr):Bool:=names.any (λ u=>decide (u=s))
def Hl (a:List BAr) (k s:BAr):yl (a++[k]) s=(yl a s||decide (k=s)):=by simp [yl]
def Kv (w:Wd) (r:Nat) (names:List BAr):Prop:=∃ L c,jZ w r L c∧∀ s,look L s=if yl names s=true then some (Value.bool true) else none
def Kv.ext {w w':Wd} {names:List BAr} (h:Kv w r names) (e:Ext w w'):Kv w' r names:=let ⟨L,c,h1,h2⟩:=h; ⟨L,c,h1.ext e,h2⟩
def Kv.put {names:List BAr} (h:jZ w r L c) (hl:∀ s,look L s=if yl names s=true then some (Value.bool true) else none) (k:BAr) :
 Kv (w.putObj r (Gj (UH L c k (.bool true)) (U5 L c k))) r (names++[k]):=by
 refine ⟨_,_,h.put k _,λ s=>?_⟩
 rw [yj,hl]
 rw [Hl]
 by_cases hs:s=k
 · subst hs;simp
 · have hs':¬ k=s:=λ e=>hs e.symm
   simp [hs,hs']
def bld (ps:List (BAr×Vl)):List (BAr×Vl×Nat)×Nat:=ps.foldl (λ s p=>(UH s.1 s.2 p.1 p.2,U5 s.1 s.2 p.1)) ([],0)
def UV (ps:List (BAr×Vl)) (p:BAr×Vl):bld (ps++[p])=(UH (bld ps).1 (bld ps).2 p.1 p.2,U5 (bld ps).1 (bld ps).2 p.1):=by simp [bld,List.foldl_append]
def Yy (ps:List (BAr×Vl)) (s:BAr):Option Vl:=(ps.reverse.find? (λ p=>decide (p.1=s))).map (·.2)
def Hg (ps:List (BAr×Vl)) (p:BAr×Vl) (s:BAr):Yy (ps++[p]) s=if p.1=s then some p.2 else Yy ps s:=by
 unfold Yy
 rw [List.reverse_append,List.reverse_singleton,List.singleton_append,List.find?_cons]
 by_cases h:p.1=s<;>simp [h]
def J3 {α:Type} {motive:List α→Prop} (h0:motive []) (h1:∀ l a,motive l→motive (l++[a])) (l:List α):motive l:=by
 have:∀ l:List α,motive l.reverse:=by
  intro l
  induction l with
  | nil=>exact h0
  | cons a l ih=>rw [List.reverse_cons];exact h1 _ _ ih
 have h:=this l.reverse
 rwa [List.reverse_reverse] at h
def Hj (ps:List (BAr×Vl)) (s:BAr):look (bld ps).1 s=Yy ps s:=by
 revert s
 refine J3 (motive:=λ ps=>∀ s,look (bld ps).1 s=Yy ps s) ?_ ?_ ps
 · intro s;rfl
 · intro l a ih s
   rw [UV,Hg,yj,ih]
   by_cases h:a.1=s
   · subst h;simp
   · have h':¬ s=a.1:=λ e=>h e.symm
     simp [h,h']
def Y6 (w:Wd) (r:Nat) (ps:List (BAr×Vl)):Prop:=jZ w r (bld ps).1 (bld ps).2
def Y6.ext {w w':Wd} {r:Nat} {ps:List (BAr×Vl)} (h:Y6 w r ps) (e:Ext w w'):Y6 w' r ps:=XA.ext h e
def Y6.new (w:Wd):Y6 (w.alloc (.map #[] 0)) w.heap.size []:=jZ.new w
def Y6.setCell {w:Wd} {r:Nat} {ps:List (BAr×Vl)} (h:Y6 w r ps) (a:Addr) (v:Vl):Y6 (w.setCell a v) r ps:=XA.setCell h a v
def Y6.lt {w:Wd} {r:Nat} {ps:List (BAr×Vl)} (h:Y6 w r ps):r < w.heap.size:=(Qqj h.obj).1
def putW (w:Wd) (r:Nat) (ps:List (BAr×Vl)) (k:BAr) (v:Vl):Wd:=w.putObj r (Gj (bld (ps++[(k,v)])).1 (bld (ps++[(k,v)])).2)
def Y6.put {w:Wd} {r:Nat} {ps:List (BAr×Vl)} (h:Y6 w r ps) (k:BAr) (v:Vl):Y6 (putW w r ps k v) r (ps++[(k,v)]):=by
 unfold Y6 putW
 rw [UV]
 exact XA.put h k v
def Ma {w:Wd} {ps:List (BAr×Vl)} (hm:P.underlying mt=some (.map kt et)) (hk:P.underlying kt=some .string) (h:Y6 w r ps) (k:BAr) (v:Vl) :
 opU P (mapUpdate mt (.map (some r)) (.string k) v) QP w ku=ku (putW w r ps k v):=by
 unfold putW
 rw [UV]
 exact GH hm hk h k v
def Uc {w:Wd} {ps:List (BAr×Vl)} (hm:P.underlying mt=some (.map kt et)) (hk:P.underlying kt=some .string) (hz:ZF P et agg n m z) (h:Y6 w r ps) (k:BAr) :
 opV P (lookup mt (.map (some r)) (.string k) true) QP w k'=k' (.tuple #[(Yy ps k).getD z,.bool (Yy ps k).isSome]) w:=by
 rw [LX hm hk hz h,Hj]
def Vk {w:Wd} {ps:List (BAr×Vl)} (hm:P.underlying mt=some (.map kt et)) (hk:P.underlying kt=some .string) (hz:ZF P et agg n m z) (h:Y6 w r ps) (k:BAr) :
 opV P (lookup mt (.map (some r)) (.string k) false) QP w k'=k' ((Yy ps k).getD z) w:=by
 rw [jh hm hk hz h,Hj]
def Ext.putW {a w:Wd} {ps:List (BAr×Vl)} (h:Ext a w) (hr:a.heap.size≤r) (k:BAr) (v:Vl):Ext a (putW w r ps k v):=h.putObj hr _
def putW_size {w:Wd} {ps:List (BAr×Vl)} {k:BAr} {v:Vl}:(putW w r ps k v).heap.size=w.heap.size:=World.putObj_size
end
end Go.Sw
namespace Go.Sw
open Go.RowKit (Below)
section
variable {P:Program} {QP:PEn} {w:Wd} {k:KV} {ku:WPr}
def YP {t:TypeId} (hu:P.underlying t=some .string) (s:BAr) (kd:IntKind) (i:Nat) {b:UInt8} (hb:s.data.toList[i]?=some b) :
 opV P (Instr.index t (.string s) (.int kd (i:Int))) QP w k=k (.int .u8 b.toNat) w:=by
 refine ZV ?_
 have hs:s[i]?=some b:=by
  obtain ⟨h1,h2⟩:=Qqx hb
  have h3:i < s.data.size:=by simpa using h1
  rw [getElem?_pos s i h3]
  exact congrArg some h2
 unfold Instr.index
 have hai:(asIntOf (.int kd (i:Int))).run P w = .ok (kd,(i:Int)) w:=rfl
 simp only [Sem.run_bind,hai,Result.andThen_ok,run_underlying hu]
 have:(if (0:Int)≤(i:Int) then s[(i:Int).toNat]? else none)=some b:=by rw [if_pos C1,Int.toNat_natCast];exact hs
 rw [this];rfl
def Ub {t:TypeId} (hu:P.underlying t=some .string) (s:BAr) (kd:IntKind) {b:UInt8} (hb:s.data.toList[0]?=some b) :
 opV P (Instr.index t (.string s) (.int kd 0)) QP w k=k (.int .u8 b.toNat) w:=YP hu s kd 0 hb
def Tv (t:TypeId) (c:Bool) (x:Int) (yk:IntKind) (y:Int) (h0:0≤y) (h1:y≤64):opV P (ZA .shl t c (.int .i64 x) (.int yk y)) QP w k=k (.int .i64 (IntKind.i64.wrap (x*2 ^ y.toNat))) w:=ZV (by
 simp [ZA,go_sem,h0,h1])
def Uf {t e:TypeId} {agg:Bool} {n m:Nat} {z:Vl} (hu:P.underlying t=some (.slice e)) (ht:ZF P e agg n m z) (b o len cap:Nat) (kd:IntKind) (h:Nat) (hh:h≤cap) :
 opV P (sliceAt t (.slice (some ⟨b,o,none⟩) len cap) none (some (.int kd (h:Int))) none) QP w k=k (.slice (some ⟨b,o,none⟩) h cap) w:=by
 refine ZV ?_
 have h1:(h:Int)≤(cap:Int):=C1
 have h2:(0:Int)≤(h:Int):=C1
 simp [sliceAt,run_underlying hu,Instr.slice,Instr.sliceBounds,run_sliceBound,h1,h2,run_sizeOf ht,Addr.add_lit]
def W9 {src dst:TypeId} {kd:IntKind} (hs:(P.underlying src).isSome=true) (hd:P.underlying dst=some (.int kd)) (q:IntKind) (n:Int) :
 opV P (Go.convert src dst (.int q n)) QP w k=k (.int kd (kd.wrap n)) w:=ZV (by
 have hk:P.intKind dst=kd:=by simp [Program.intKind,hd]
 have:=run_convert_int (P:=P) w src dst q n hs (by rw [hk];exact hd)
 rw [hk] at this;exact this)
def Tu (t:TypeId) (c:Bool) (kd:IntKind) (a b:Int) (hb:b≠0):opV P (ZA .rem t c (.int kd a) (.int kd b)) QP w k=k (.int kd (a.tmod b)) w:=ZV (by
 rw [Y8 _ _ _ _ _ _ rfl]
 show Sem.run P (Op.intDiv .rem kd a b) w=_
 unfold Op.intDiv
 rw [if_neg hb];rfl)
def jL {t:TypeId} {a b:Vl} {r:Bool} (h:(Op.equalIn (9999+1) t a b).run P w = .ok r w):(do pure (.bool (← Op.equal t a b)):Sem Vl).run P w = .ok (.bool r) w:=by
 have h':(Op.equal t a b).run P w = .ok r w:=h
 rw [Sem.run_bind,h'];rfl
def Fq {t:TypeId} {a b:Vl} {r:Bool} (h:(Op.equalIn (9999+1) t a b).run P w = .ok r w):(do pure (.bool (!(← Op.equal t a b))):Sem Vl).run P w = .ok (.bool (!r)) w:=by
 have h':(Op.equal t a b).run P w = .ok r w:=h
 rw [Sem.run_bind,h'];rfl
def Bx {t:TypeId} {d:TypeDesc} (hu:P.underlying t=some d) (hn:(match d with | .interface _=>false | _=>true)=true) (v:Vl):opV P (makeInterface t v) QP w k=k (.iface t v) w:=by
 refine ZV ?_
 unfold makeInterface
 simp only [Sem.run_bind,run_underlying hu,Result.andThen_ok]
 cases d<;>simp at hn<;>rfl
def Fc {xt t:TypeId} {d:TypeDesc} (hu:P.underlying t=some d) (hn:(match d with | .interface _=>false | _=>true)=true) (v:Vl):opV P (Instr.typeAssert (.iface t v) xt t true) QP w k=k (.tuple #[v,.bool true]) w:=by
 refine ZV ?_
 unfold Instr.typeAssert
 simp only [Sem.run_bind,run_underlying hu,Result.andThen_ok]
 cases d<;>simp at hn<;>simp
def HT (t:TypeId) (v:Vl):opV P (Instr.panic (.iface t v)) QP w k=QP [{ v := .iface t v,recovered:=false }] w:=Ow rfl
def MU (d0:Nat) {t:TypeId} {m:Array (String×TypeId)} (hu:P.underlying t=some (.interface m)) (d:TypeId) (v:Vl):(Op.equalIn (d0+1) t (.iface d v) .nilIface).run P w = .ok false w:=by simp [Op.equalIn,run_underlying hu]
def MV (d0:Nat) {t:TypeId} {m:Array (String×TypeId)} (hu:P.underlying t=some (.interface m)):(Op.equalIn (d0+1) t .nilIface .nilIface).run P w = .ok true w:=by simp [Op.equalIn,run_underlying hu]
def ZaN (d0:Nat) {t e:TypeId} (hu:P.underlying t=some (.slice e)) (A:Option Addr) (n m:Nat):(Op.equalIn (d0+1) t (.slice A n m) (.slice none 0 0)).run P w = .ok A.isNone w:=by cases A<;>simp [Op.equalIn,run_underlying hu]
def Ue {t:TypeId} {m:Array (String×TypeId)} (hu:P.underlying t=some (.interface m)) (d:TypeId) (v:Vl):opV P (ZA .neq t true (.iface d v) .nilIface) QP w k=k (.bool true) w:=
 ZV (Fq (r:=false) (MU 9999 hu d v))
def Ud {t:TypeId} {m:Array (String×TypeId)} (hu:P.underlying t=some (.interface m)):opV P (ZA .neq t true .nilIface .nilIface) QP w k=k (.bool false) w:=
 ZV (Fq (r:=true) (MV 9999 hu))
def Oy {t e:TypeId} (hu:P.underlying t=some (.slice e)) (c:Bool) (A:Option Addr) (n m:Nat):opV P (ZA .eql t c (.slice A n m) (.slice none 0 0)) QP w k=k (.bool A.isNone) w:=
 ZV (jL (ZaN 9999 hu A n m))
def Tj {t:TypeId} {xs ys:AVl} {r:Bool} (hm:P.eqGuardType P.depth t=false) (h:∀ w,(Op.equalIn (9999+1) t (.agg xs) (.agg ys)).run P w = .ok r w) (c:Bool):opV P (ZA .eql t c (.agg xs) (.agg ys)) QP w k=k (.bool r) w:=by
 refine ZV ?_
 show Sem.run P (do (do if !(← program).eqGuardType (← program).depth t then pure () else if ← Op.eqGuardIn Op.maxDepth t (.agg xs) (.agg ys) then unsupported (.noEntry "binop/eql: two nil values of an interface type with methods, in a part of a struct or an array")); (do pure (.bool (← Op.equal t (.agg xs) (.agg ys)))):Sem Vl) w=_
 simp only [Sem.run_bind,run_program,Result.andThen_ok,hm,Bool.not_false,if_true,Sem.run_pure]
 have h':=jL (h w)
 simp only [Sem.run_bind,Sem.run_pure] at h'
 exact h'
def yQ {t:TypeId} {xs ys:AVl} {r:Bool} (hm:P.eqGuardType P.depth t=false) (h:∀ w,(Op.equalIn (9999+1) t (.agg xs) (.agg ys)).run P w = .ok r w) (c:Bool):opV P (ZA .neq t c (.agg xs) (.agg ys)) QP w k=k (.bool (!r)) w:=by
 refine ZV ?_
 show Sem.run P (do (do if !(← program).eqGuardType (← program).depth t then pure () else if ← Op.eqGuardIn Op.maxDepth t (.agg xs) (.agg ys) then unsupported (.noEntry "binop/eql: two nil values of an interface type with methods, in a part of a struct or an array")); (do pure (.bool (!(← Op.equal t (.agg xs) (.agg ys))))):Sem Vl) w=_
 simp only [Sem.run_bind,run_program,Result.andThen_ok,hm,Bool.not_false,if_true,Sem.run_pure]
 have h':=Fq (h w)
 simp only [Sem.run_bind,Sem.run_pure] at h'
 exact h'
def Bw {src dst e:TypeId} (hs:P.underlying src=some .string) (hd:P.underlying dst=some (.slice e)) (he:P.underlying e=some (.int .u8)) (s:BAr) (YJ:s.size≤9223372036854775807)
 (h:∀ v w',Ext w w'→(∃ A c,v = .slice A s.size c∧s.size≤c∧c≤9223372036854775807∧∃ b,A=some ⟨b,0,none⟩∧∀ j x,s.data.toList[j]?=some x→w'.cell? ⟨b,j,none⟩=some (.int .u8 (x.toNat:Int)))→k v w'):opV P (Go.convert src dst (.string s)) QP w k:=by
 have:=run_bytes_of_string (P:=P) w src dst e s hs hd he
 rw [ZV this]
 refine h _ _ ((Ext.refl w).wdrew.alloc _) ⟨_,_,rfl,grownCap_ge _ _ _ _,?_,?_⟩
 · have:=grownCap_le_maxLen w s.size 0 e (by simp only [maxLen];omega)
   simp only [maxLen] at this;omega
 · refine ⟨_,rfl,λ j x hx=>?_⟩
   obtain ⟨h1,h2⟩:=Qqx hx
   have h3:j < s.data.size:=by simpa using h1
   have h4:=bytesRow_at s (grownCap w s.size 0 e) j h3
   show World.cell? _ ⟨w.drew.heap.size,j,none⟩=_
   unfold World.cell?
   rw [World.alloc_heap_new]
   show (if (none:Option _).isSome then none else (bytesRow s (grownCap w s.size 0 e))[j]?)=_
   rw [h4,← h2]
   rfl
def ZC (cs:AVl):(Value.agg cs).cells=cs:=rfl
def QS {d:Nat} {t:TypeId} {fs:Array Field} {xs ys:AVl} {r:Bool} (hu:P.underlying t=some (.struct fs)) (hs:P.stoodInHeld t=false) (h:(Op.eqFields d xs ys fs.toList).run P w = .ok r w) :
 (Op.equalIn (d+1) t (.agg xs) (.agg ys)).run P w = .ok r w:=by
 have hf:P.fieldsOf t=fs:=by simp [Program.fieldsOf,hu]
 rw [run_equalIn_agg w d t xs ys (by rw [hf];exact hu) hs,hf]
 exact h
def WI {d:Nat} {xs ys:AVl}:(Op.eqFields d xs ys []).run P w = .ok true w:=rfl
def ZX {d:Nat} {xs ys:AVl} {f:Field} {fs:List Field} {x y:Vl} {b r:Bool} (hn:(f.name == "_")=false) (hx:(part f.type xs f.offset).run P w = .ok x w) (hy:(part f.type ys f.offset).run P w = .ok y w)
 (he:(Op.equalIn d f.type x y).run P w = .ok b w) (hr:(Op.eqFields d xs ys fs).run P w = .ok r w):(Op.eqFields d xs ys (f::fs)).run P w = .ok (b&&r) w:=by
 have hn':f.name ≠ "_" := by simpa using hn
 simp only [Op.eqFields]
 rw [if_pos hn']
 simp only [Sem.run_bind,hx,hy,he,Result.andThen_ok]
 cases b with
 | true=>simpa using hr
 | false=>rfl
def YF {T:TypeId} {n m:Nat} {z v:Vl} {cs:AVl} {off:Nat} (h:ZF P T false n m z) (hc:cs[off]?=some v):(part T cs off).run P w = .ok v w:=by
 unfold part
 rw [Sem.run_bind,qk h]
 simp [hc]
def LU {s:TypeId} {fs:Array Field} {i off ft:Nat} {n m:Nat} {z v:Vl} {cs:AVl} {k:KV} (hu:P.underlying s=some (.struct fs)) (hf:(fs[i]?).map (λ f=>(f.type,f.offset))=some (ft,off)) (ht:ZF P ft false n m z) (hc:cs[off]?=some v) :
 opV P (Instr.field s (.agg cs) i) QP w k=k v w:=by
 obtain ⟨f,h1,h2⟩:=Option.map_eq_some_iff.1 hf
 simp only [Prod.mk.injEq] at h2
 obtain ⟨rfl,rfl⟩:=h2
 refine ZV ?_
 have ha:(asAgg (.agg cs)).run P w = .ok cs w:=rfl
 simp [Instr.field,run_underlying hu,h1,ha,YF (w:=w) ht hc]
def VB {d:Nat} {t:TypeId} {q:IntKind} (hu:P.underlying t=some (.int q)) {kd:IntKind} {a b:Int}:(Op.equalIn (d+1) t (.int kd a) (.int kd b)).run P w = .ok (decide (a=b)) w:=by
 rw [run_equalIn_int w d t kd q a b hu];congr 1
def Px {d:Nat} {t:TypeId} (hu:P.underlying t=some .bool) {a b:Bool}:(Op.equalIn (d+1) t (.bool a) (.bool b)).run P w = .ok (decide (a=b)) w:=by
 rw [run_equalIn_bool w d t a b hu];congr 1
def UX {d:Nat} {t:TypeId} (hu:P.underlying t=some .string) {a b:BAr}:(Op.equalIn (d+1) t (.string a) (.string b)).run P w = .ok (decide (a=b)) w:=by
 rw [run_equalIn_string w d t a b hu,Af]
def Zn {v:Vl} (h:v.oneCell'=true):v.cells = #[v]:=by cases v<;>first | rfl | simp [Value.oneCell'] at h
def Z3 {T:TypeId} {fs:Array Field} {n m:Nat} {z cs:AVl} {parts:Array (Nat×Vl)} {places:Array (Nat×Nat)} (hu:P.underlying T=some (.struct fs)) (hz:ZF P T true n m (.agg z))
 (hp:∀ w:Wd,(fs.mapM (m:=Sem) (λ f=>do pure (f.offset,← sizeOf f.type))).run P w = .ok places w) (hf:fill (places[·]?) z parts.toList=some cs):opV P (build T parts) QP w k=k (.agg cs) w:=by
 obtain ⟨⟨i,hi,_,_,hzz⟩,_⟩:=hz
 refine ZV ?_
 unfold build
 have hz0:(zeroValue T).run P w = .ok (.agg z) w:=by simp [zeroValue,typeInfo,hi,hzz]
 simp only [Sem.run_bind,hz0,Result.andThen_ok,run_underlying hu,hp]
 have:(Value.agg z).cells=z:=rfl
 rw [this,hf]
 rfl
def Z7 {T e:TypeId} {agg:Bool} {n m:Nat} {z:Vl} {len:Nat} {cs:AVl} {parts:Array (Nat×Vl)} (hu:P.underlying T=some (.slice e)) (hz:ZF P e agg n m z) (hl:len*n≤16777216)
 {base:AVl} (hb:(Array.range (len*n)).map ((if len*n=0 then #[] else z.cells)[· % (if len*n=0 then #[] else z.cells).size]!)=base) (hf:fill (λ i=>some (i*n,n)) base parts.toList=some cs) :
 opV P (buildSlice T len parts) QP w k=k (.slice (some ⟨w.heap.size,0,none⟩) len len) (w.alloc (.cells cs e)):=by
 subst hb
 have Vs:=run_sizeOf (w:=w) hz
 obtain ⟨⟨i,hi,_,_,hzz⟩,_⟩:=hz
 refine ZV ?_
 unfold buildSlice
 have hl':¬ (2 ^ 24 < len*n):=C1
 simp only [Sem.run_bind,run_underlying hu,Vs,Result.andThen_ok,gt_iff_lt,hl',if_false]
 have hz0:(zeroValue e).run P w = .ok z w:=by simp [zeroValue,typeInfo,hi,hzz]
 by_cases h0:len*n=0
 · rw [if_pos h0] at hf
   rw [if_pos h0]
   simp only [Sem.run_bind,Sem.run_pure,Result.andThen_ok]
   rw [hf]
   simp [newRow]
 · rw [if_neg h0] at hf
   rw [if_neg h0]
   simp only [Sem.run_bind,hz0,Sem.run_pure,Result.andThen_ok]
   rw [hf]
   simp [newRow]
def EC (w:Wd):Wd→Prop:=λ w'=>Ext w w'
class Yk (C:WPr):Prop where
 ne:∃ w,C w
instance (w:Wd):Yk (EC w):=⟨⟨w,Ext.refl w⟩⟩
def KB (w:Wd) (b1 b2:Nat):Wd→Prop:=λ w'=>∀ b,b < w.heap.size→b≠b1→b≠b2→w'.heap[b]?=w.heap[b]?
instance (w:Wd) (b1 b2:Nat):Yk (KB w b1 b2):=⟨⟨w,λ _ _ _ _=>rfl⟩⟩
def KB.cell {w w':Wd} {b1 b2 b o:Nat} {v:Vl} (h:KB w b1 b2 w') (h1:b≠b1) (h2:b≠b2) (hc:w.cell? ⟨b,o,none⟩=some v):w'.cell? ⟨b,o,none⟩=some v:=
 (World.cell?_of_block (h b (World.block_lt_of_cell? w _ hc) h1 h2)).trans hc
def XX {s:Sem Vl} {v:Vl} (h:∀ (QP:PEn) (k:KV),opV P s QP w k=k v w):s.run P w = .ok v w:=by
 have h1:=h (λ _ _=>False) (λ u x=>u=v∧x=w)
 simp only [and_self] at h1
 have h2:opV P s (λ _ _=>False) w (λ u x=>u=v∧x=w):=by rw [h1];trivial
 unfold opV at h2
 split at h2
 · rename_i a b he;obtain ⟨rfl,rfl⟩:=h2;exact he
 · exact h2.elim
 · exact h2.elim
def Zec {s:Sem Vl} {v:Vl} {k:Vl→Prop} (h:∀ w',Ext w w'→s.run P w' = .ok v w'):qV P (EC w) s k=k v:=by
 apply propext
 constructor
 · rintro ⟨v',h1,h2⟩
   have a:=h1 w (Ext.refl w)
   rw [h w (Ext.refl w)] at a
   injection a with a _
   rw [a];exact h2
 · exact λ hk=>⟨v,h,hk⟩
def UI {C:WPr} [Y7:Yk C] {s:Sem Vl} {v:Vl} {k:Vl→Prop} (h:∀ w',C w'→s.run P w' = .ok v w'):qV P C s k=k v:=by
 apply propext
 obtain ⟨w0,hw0⟩:=Y7.ne
 constructor
 · rintro ⟨v',h1,h2⟩
   have a:=h1 w0 hw0
   rw [h w0 hw0] at a
   injection a with a _
   rw [a];exact h2
 · exact λ hk=>⟨v,h,hk⟩
def Yc {C:WPr} [Yk C] {s:Sem Vl} {v:Vl} {k:Vl→Prop} (h:∀ (QP:PEn) (w':Wd) (k:KV),opV P s QP w' k=k v w'):qV P C s k=k v:=UI λ w' _=>XX λ QP k=>h QP w' k
def ZeY {C:WPr} [Y7:Yk C] {s:Sem Next} {v:Vl} {k:Vl→Prop} (h:∀ w',C w'→s.run P w' = .ok (.value v) w'):qN P C s k=k v:=by
 apply propext
 obtain ⟨w0,hw0⟩:=Y7.ne
 constructor
 · rintro ⟨v',h1,h2⟩
   have a:=h1 w0 hw0
   rw [h w0 hw0] at a
   injection a with a _
   injection a with a
   rw [a];exact h2
 · exact λ hk=>⟨v,h,hk⟩
def ZeZ {C:WPr} [Yk C] {k:Vl→Prop} (a:Addr):qN P C (Y0 (.pointer (some a))) k=k (.pointer (some a)):=ZeY λ w' _=>by simp [Y0,execOp]
def qVx (P:Program) (C:WPr) (s:Sem Vl) (k:Vl→Prop):Prop:=qV P C s k
def XP {T:TypeId} {n m:Nat} {z:Vl} {k:Vl→Prop} (h:ZF P T false n m z) (b o:Nat):qV P (EC w) (loadAt T (.pointer (some ⟨b,o,none⟩))) k=UG (w.cell? ⟨b,o,none⟩) k (qVx P (EC w) (loadAt T (.pointer (some ⟨b,o,none⟩))) k):=by
 cases hc:w.cell? ⟨b,o,none⟩ with
 | some v=>
  rw [Uu]
  refine Zec λ w' e=>?_
  have:=XX (P:=P) (w:=w') (s:=loadAt T (.pointer (some ⟨b,o,none⟩))) (v:=v) (λ QP k=>By h (e.cell hc))
  exact this
 | none=>rfl
def Q6 {T:TypeId} {n m:Nat} {z:Vl} {k:Vl→Prop} (h:ZF P T false n m z) (b1 b2 b o:Nat) (h1:b≠b1) (h2:b≠b2):qV P (KB w b1 b2) (loadAt T (.pointer (some ⟨b,o,none⟩))) k=UG (w.cell? ⟨b,o,none⟩) k (qVx P (KB w b1 b2) (loadAt T (.pointer (some ⟨b,o,none⟩))) k):=by
 cases hc:w.cell? ⟨b,o,none⟩ with
 | some v=>
  rw [Uu]
  exact UI λ w' e=>XX (P:=P) (w:=w') (s:=loadAt T (.pointer (some ⟨b,o,none⟩))) (v:=v) (λ QP k=>By h (e.cell h1 h2 hc))
 | none=>rfl
def Zbl {T:TypeId} {a:Addr} {v:Vl} {k:Vl→Prop} (h:∀ w',Ext w w'→QC P w' T a v):qV P (EC w) (loadAt T (.pointer (some a))) k=k v:=
 Zec λ w' e=>XX λ QP k=>Gp (h w' e)
def ZO:List (Option Vl)→(List Vl→Prop)→Prop→Prop
 | [],k,_=>k []
 | some v::l,k,d=>ZO l (λ vs=>k (v::vs)) d
 | none::_,_,d=>d
def HQ (k:List Vl→Prop) (d:Prop):ZO [] k d=k []:=rfl
def EZ (v:Vl) (l:List (Option Vl)) (k:List Vl→Prop) (d:Prop):ZO (some v::l) k d=ZO l (λ vs=>k (v::vs)) d:=rfl
def Vj:∀ (vs:List Vl) (k:List Vl→Prop) (d:Prop),ZO (vs.map some) k d=k vs
 | [],_,_=>rfl
 | v::vs,k,d=>Vj vs (λ l=>k (v::l)) d
def Vd (l:List (Option Vl)):(∃ vs:List Vl,l=vs.map some)∨∀ k d,ZO l k d=d:=by
 induction l with
 | nil=>exact .inl ⟨[],rfl⟩
 | cons a l ih=>
  cases a with
  | none=>exact .inr λ k d=>rfl
  | some v=>
   rcases ih with ⟨vs,rfl⟩ | h
   · exact .inl ⟨v::vs,rfl⟩
   · exact .inr λ k d=>h _ d
@[congr] theorem Zam {l l':List (Option Vl)} {k:List Vl→Prop} {p:Prop} {d:Nat} (h:l=l') (hd:Qr=d):ZO l k p=ZO l' k p:=by rw [h]
def Jg {T:TypeId} {n m:Nat} {z:Vl} (h:ZF P T true n m z) (b o:Nat) {vs:List Vl} (hc:(List.range n).map (λ j=>w.cell? ⟨b,o+j,none⟩)=vs.map some):QC P w T ⟨b,o,none⟩ (.agg vs.toArray):=by
 have hl:vs.length=n:=by have:=congrArg List.length hc;simpa using this.symm
 refine QC.many h hl λ j v hv=>?_
 have hj:j < n:=by have:=(Qqx hv).1;omega
 have:=congrArg (λ l=>l[j]?) hc
 simp only [List.getElem?_map,List.getElem?_range hj,hv,Option.map_some] at this
 rw [Addr.add_lit]
 exact Option.some.inj this
def XN {T:TypeId} {n m:Nat} {z:Vl} {k:KV} (h:ZF P T true n m z) (b o:Nat) (l:List (Option Vl)) (hl:l=(List.range n).map (λ j=>w.cell? ⟨b,o+j,none⟩)) :
 opV P (loadAt T (.pointer (some ⟨b,o,none⟩))) QP w k=ZO l (λ vs=>k (.agg vs.toArray) w) (Ko P (loadAt T (.pointer (some ⟨b,o,none⟩))) QP w k):=by
 rcases Vd l with ⟨vs,hv⟩ | hd
 · rw [hv,Vj]
   exact Gp (Jg h b o (by rw [← hl,hv]))
 · rw [hd];rfl
def Wj {T:TypeId} {n m:Nat} {z:Vl} {k:Vl→Prop} (h:ZF P T true n m z) (b o:Nat) (l:List (Option Vl)) (hl:l=(List.range n).map (λ j=>w.cell? ⟨b,o+j,none⟩)) :
 qV P (EC w) (loadAt T (.pointer (some ⟨b,o,none⟩))) k=ZO l (λ vs=>k (.agg vs.toArray)) (qVx P (EC w) (loadAt T (.pointer (some ⟨b,o,none⟩))) k):=by
 rcases Vd l with ⟨vs,hv⟩ | hd
 · rw [hv,Vj]
   refine Zbl λ w' e=>Jg h b o ?_
   rw [← hv,hl]
   have hm:∀ j,j∈List.range n→∃ v,w.cell? ⟨b,o+j,none⟩=some v:=by
    intro j hj
    have:w.cell? ⟨b,o+j,none⟩∈l:=by rw [hl];exact List.mem_map_of_mem hj
    rw [hv] at this
    obtain ⟨v,_,hv⟩:=List.mem_map.1 this
    exact ⟨v,hv.symm⟩
   apply List.map_congr_left
   intro j hj
   obtain ⟨v,hv⟩:=hm j hj
   rw [hv];exact e.cell hv
 · rw [hd];rfl
def qWx (P:Program) (t:TypeId) (a:Vl) (w:Wd) (k:Vl→Prop):Prop:=qW P t a w k
def Ns {T:TypeId} {a:Addr} {v:Vl} {k:Vl→Prop} (h:QC P w T a v):qW P T (.pointer (some a)) w k=k v:=by
 have hr:(do loadVar T (← asAddr (.pointer (some a))):Sem Vl).run P w = .ok v w:=h
 unfold qW
 rw [hr]
 apply propext
 constructor
 · rintro ⟨v',h1,h2⟩;injection h1 with h1 _;rw [h1];exact h2
 · exact λ hk=>⟨v,rfl,hk⟩
def BE {T:TypeId} {n m:Nat} {z:Vl} {k:Vl→Prop} (h:ZF P T false n m z) (b o:Nat):qW P T (.pointer (some ⟨b,o,none⟩)) w k=UG (w.cell? ⟨b,o,none⟩) k (qWx P T (.pointer (some ⟨b,o,none⟩)) w k):=by
 cases hc:w.cell? ⟨b,o,none⟩ with
 | some v=>exact Ns (QC.one h hc)
 | none=>rfl
def Wk {T:TypeId} {n m:Nat} {z:Vl} {k:Vl→Prop} (h:ZF P T true n m z) (b o:Nat) (l:List (Option Vl)) (hl:l=(List.range n).map (λ j=>w.cell? ⟨b,o+j,none⟩)) :
 qW P T (.pointer (some ⟨b,o,none⟩)) w k=ZO l (λ vs=>k (.agg vs.toArray)) (qWx P T (.pointer (some ⟨b,o,none⟩)) w k):=by
 rcases Vd l with ⟨vs,hv⟩ | hd
 · rw [hv,Vj]
   exact Ns (Jg h b o (by rw [← hl,hv]))
 · rw [hd];rfl
@[congr] theorem ZiV {T:TypeId} {a a':Vl} {w':Wd} {k:Vl→Prop} {d:Nat} (h:a=a') (hw:w=w') (hd:Qr=d):qW P T a w k=qW P T a' w' k:=by rw [h,hw]
def XM:List Bool→Prop→Prop→Prop
 | [],p,_=>p
 | false::l,p,d=>XM l p d
 | true::_,_,d=>d
def LO (p d:Prop):XM [] p d=p:=rfl
def Fb (l:List Bool) (p d:Prop):XM (false::l) p d=XM l p d:=rfl
def Fa (l:List Bool):(∀ b∈l,b=false)∧(∀ p d,XM l p d=p)∨∀ p d,XM l p d=d:=by
 induction l with
 | nil=>exact .inl ⟨by simp,λ _ _=>rfl⟩
 | cons a l ih=>
  cases a with
  | true=>exact .inr λ _ _=>rfl
  | false=>
   rcases ih with ⟨h1,h2⟩ | h
   · exact .inl ⟨by simpa using h1,h2⟩
   · exact .inr h
@[congr] theorem Zbb {l l':List Bool} {p q:Prop} {d:Nat} (h:l=l') (hd:Qr=d):XM l p q=XM l' p q:=by rw [h]
@[congr] theorem Zfe {s:Sem Vl} {C:WPr} {k:Vl→Prop} {d:Nat} (hd:Qr=d):qVx P C s k=qVx P C s k:=rfl
@[congr] theorem Zff {T:TypeId} {a:Vl} {k:Vl→Prop} {d:Nat} (hd:Qr=d):qWx P T a w k=qWx P T a w k:=rfl
def Yn (w:Wd) (b o:Nat):List Vl→Wd
 | []=>w
 | v::vs=>Yn (w.setCell ⟨b,o,none⟩ v) b (o+1) vs
def Vz (b o:Nat):∀ (vs:List Vl) (i:Nat) (w:Wd),(∀ j,j < vs.length→∃ u,w.cell? ⟨b,o+(i+j),none⟩=some u)→(∀ j,j < vs.length→w.frozen? ⟨b,o+(i+j),none⟩=false)→(∀ v∈vs,v.oneCell'=true) →
 (storeCells ⟨b,o,none⟩ vs i).run P w = .ok () (Yn w b (o+i) vs)
 | [],_,_,_,_,_=>rfl
 | v::vs,i,w,hc,hf,hv=>by
  obtain ⟨u,hu⟩:=hc 0 (by simp)
  have hf':w.frozen? ⟨b,o+i,none⟩=false:=hf 0 (by simp)
  simp only [Nat.add_zero] at hu
  simp only [storeCells,Sem.run_bind,Addr.add_lit,run_store P _ _ v .plain (hv v (List.mem_cons_self ..)),hu,hf',Nat.add_zero,Bool.false_eq_true,if_false,Result.andThen_ok]
  have hs:∀ j,j < vs.length→∃ u,(w.setCell ⟨b,o+i,none⟩ v).cell? ⟨b,o+(i+1+j),none⟩=some u:=by
   intro j hj
   obtain ⟨u,hu⟩:=hc (j+1) (by simp;omega)
   refine ⟨u,?_⟩
   rw [Xd C1]
   rw [← hu];congr 2;omega
  have:=Vz b o vs (i+1) (w.setCell ⟨b,o+i,none⟩ v) hs (λ j hj=>by rw [Av];have:=hf (j+1) (by simp;omega);rw [← this];congr 2;omega) (λ u hu=>hv u (List.mem_cons_of_mem _ hu))
  simpa [hf',hu,Yn,Nat.add_assoc] using this
def Xv {T:TypeId} {n m:Nat} {z:Vl} {ku:WPr} (h:ZF P T true n m z) (b o:Nat) (vs:List Vl) (hn:vs.length=n) (hv:∀ v∈vs,v.oneCell'=true) (l:List (Option Vl)) (hl:l=(List.range n).map (λ j=>w.cell? ⟨b,o+j,none⟩))
 (lf:List Bool) (hlf:lf=(List.range n).map (λ j=>w.frozen? ⟨b,o+j,none⟩)) :
 opU P (storeAt T (.pointer (some ⟨b,o,none⟩)) (.agg vs.toArray)) QP w ku=ZO l (λ _=>XM lf (ku (Yn w b o vs)) (Q5 P (storeAt T (.pointer (some ⟨b,o,none⟩)) (.agg vs.toArray)) QP w ku)) (Q5 P (storeAt T (.pointer (some ⟨b,o,none⟩)) (.agg vs.toArray)) QP w ku):=by
 rcases Vd l with ⟨us,hu⟩ | hd
 · rw [hu,Vj]
   rcases Fa lf with ⟨h1,h2⟩ | h2
   · rw [h2]
     refine qb (u:=()) ?_
     have hc:∀ j,j < vs.length→∃ u,w.cell? ⟨b,o+(0+j),none⟩=some u:=by
      intro j hj
      have:w.cell? ⟨b,o+j,none⟩∈l:=by rw [hl];exact List.mem_map_of_mem (List.mem_range.2 C1)
      rw [hu] at this
      obtain ⟨v,_,hv⟩:=List.mem_map.1 this
      exact ⟨v,by rw [Nat.zero_add,hv]⟩
     have hf:∀ j,j < vs.length→w.frozen? ⟨b,o+(0+j),none⟩=false:=by
      intro j hj
      refine h1 _ ?_
      rw [hlf,Nat.zero_add]
      exact List.mem_map_of_mem (f:=λ j=>w.frozen? ⟨b,o+j,none⟩) (List.mem_range.2 C1)
     have:=Vz (P:=P) b o vs 0 w hc hf hv
     simp [storeAt,Instr.sureAddr,storeVar,run_sizeOf h,ZC,hn,this]
   · rw [h2];rfl
 · rw [hd];rfl
def qd {T:TypeId} {n m:Nat} {z:Vl} {ku:WPr} (h:ZF P T true n m z) (b:Nat) (hb:b=w.heap.size) (o:AVl) (T':TypeId) (vs:List Vl) (ho:o.size=n) (hn:vs.length=n) (hv:∀ v∈vs,v.oneCell'=true) :
 opU P (storeAt T (.pointer (some ⟨b,0,none⟩)) (.agg vs.toArray)) QP (w.alloc (.cells o T')) ku=ku (w.alloc (.cells vs.toArray T')):=by
 subst hb
 refine qb (u:=()) ?_
 obtain ⟨o',h1,h2,h3⟩:=J5 (P:=P) (w:=w) T' vs 0 o (by simp;omega) hv
 have he:o'=vs.toArray:=by
  apply Array.ext_getElem?
  intro j
  rw [h3 j]
  by_cases hj:j < vs.length
  · rw [if_pos C1];simp
  · rw [if_neg C1]
    rw [Array.getElem?_eq_none C1,Array.getElem?_eq_none (by simp;omega)]
 subst he
 simp [storeAt,Instr.sureAddr,storeVar,run_sizeOf h,ZC,hn,h1]
def GENQ {C:WPr} [Yk C] {k:Vl→Prop}:(∀ t c kd a b,qV P C (ZA .add t c (.int kd a) (.int kd b)) k=k (.int kd (kd.wrap (a+b)))) ∧
 (∀ t c kd a b,qV P C (ZA .sub t c (.int kd a) (.int kd b)) k=k (.int kd (kd.wrap (a - b)))) ∧
 (∀ t c kd a b,qV P C (ZA .mul t c (.int kd a) (.int kd b)) k=k (.int kd (kd.wrap (a*b)))) ∧
 (∀ t c kd a b,qV P C (ZA .eql t c (.int kd a) (.int kd b)) k=k (.bool (a == b))) ∧
 (∀ t c kd a b,qV P C (ZA .neq t c (.int kd a) (.int kd b)) k=k (.bool (a != b))) ∧
 (∀ t c kd a b,qV P C (ZA .lss t c (.int kd a) (.int kd b)) k=k (.bool (decide (a < b)))) ∧
 (∀ t c kd a b,qV P C (ZA .leq t c (.int kd a) (.int kd b)) k=k (.bool (decide (a≤b)))) ∧
 (∀ t c kd a b,qV P C (ZA .gtr t c (.int kd a) (.int kd b)) k=k (.bool (decide (b < a)))) ∧
 (∀ t c kd a b,qV P C (ZA .geq t c (.int kd a) (.int kd b)) k=k (.bool (decide (b≤a)))) ∧
 (∀ t c a b,qV P C (ZA .eql t c (.string a) (.string b)) k=k (.bool (decide (a=b)))) ∧
 (∀ t c a b,qV P C (ZA .neq t c (.string a) (.string b)) k=k (.bool (!decide (a=b)))) ∧
 (∀ b,qV P C (Op.unary .not (.bool b)) k=k (.bool !b)) ∧
 (∀ ts t kd a b,qV P C (Builtin.max_ ts t #[.int kd a,.int kd b]) k=k (.int kd (if b > a then b else a))) ∧
 (∀ ts t kd a b,qV P C (Builtin.min_ ts t #[.int kd a,.int kd b]) k=k (.int kd (if b < a then b else a))) ∧
 (∀ a b,qV P C (extract (.tuple #[a,b]) 0) k=k a)∧(∀ a b,qV P C (extract (.tuple #[a,b]) 1) k=k b) ∧
 (∀ a b c,qV P C (extract (.tuple #[a,b,c]) 0) k=k a)∧(∀ a b c,qV P C (extract (.tuple #[a,b,c]) 1) k=k b)∧(∀ a b c,qV P C (extract (.tuple #[a,b,c]) 2) k=k c) ∧
 (∀ fn a b,qV P C (makeFunc fn a b) k=k (.func fn a b)) ∧
 (∀ a,qN P C (Y0 (.pointer (some a))) k=k (.pointer (some a))):=
 ⟨λ t c kd a b=>Yc λ _ _ _=>Ti t c kd a b,λ t c kd a b=>Yc λ _ _ _=>Ff t c kd a b,λ t c kd a b=>Yc λ _ _ _=>Ts t c kd a b,λ t c kd a b=>Yc λ _ _ _=>Tl t c kd a b,λ t c kd a b=>Yc λ _ _ _=>Tt t c kd a b,
  λ t c kd a b=>Yc λ _ _ _=>Tp t c kd a b,λ t c kd a b=>Yc λ _ _ _=>To t c kd a b,λ t c kd a b=>Yc λ _ _ _=>Tn t c kd a b,λ t c kd a b=>Yc λ _ _ _=>Tm t c kd a b,
  λ t c a b=>Yc λ _ _ _=>Np t c a b,λ t c a b=>Yc λ _ _ _=>Nr t c a b,λ b=>Yc λ _ _ _=>LZ b,λ ts t kd a b=>Yc λ _ _ _=>Tq ts t kd a b,λ ts t kd a b=>Yc λ _ _ _=>Tr ts t kd a b,
  λ a b=>Yc λ _ _ _=>yR a b,λ a b=>Yc λ _ _ _=>yT a b,λ a b c=>Yc λ _ _ _=>yU a b c,λ a b c=>Yc λ _ _ _=>yW a b c,λ a b c=>Yc λ _ _ _=>yX a b c,λ fn a b=>Yc λ _ _ _=>ji fn a b,ZeZ⟩
def KL (w:Wd) (r:Nat) (ps:List (BAr×Vl)):Wd→Prop:=λ x=>Ext w x∧Y6 x r ps
def JS {mt kt et r:TypeId} {agg:Bool} {n m:Nat} {z:Vl} {ps:List (BAr×Vl)} {k:Vl→Prop} (hm:P.underlying mt=some (.map kt et)) (hk:P.underlying kt=some .string) (hz:ZF P et agg n m z) (Y7:∃ x,KL w r ps x) (s:BAr) :
 qV P (KL w r ps) (lookup mt (.map (some r)) (.string s) true) k=k (.tuple #[(Yy ps s).getD z,.bool (Yy ps s).isSome]):=by
 haveI:Yk (KL w r ps):=⟨Y7⟩
 exact UI λ w' e=>XX λ QP k=>Uc hm hk hz e.2 s
def jk {mt kt et r:TypeId} {agg:Bool} {n m:Nat} {z:Vl} {ps:List (BAr×Vl)} {k:Vl→Prop} (hm:P.underlying mt=some (.map kt et)) (hk:P.underlying kt=some .string) (hz:ZF P et agg n m z) (h:Y6 w r ps) (s:BAr) :
 qV P (EC w) (lookup mt (.map (some r)) (.string s) false) k=k ((Yy ps s).getD z):=UI λ w' e=>XX λ QP k=>Vk hm hk hz (h.ext e) s
def BC {mt kt et r:TypeId} {agg:Bool} {n m:Nat} {z:Vl} {ps:List (BAr×Vl)} {k:Vl→Prop} (hm:P.underlying mt=some (.map kt et)) (hk:P.underlying kt=some .string) (hz:ZF P et agg n m z) (h:Y6 w r ps) (s:BAr) :
 qV P (EC w) (lookup mt (.map (some r)) (.string s) true) k=k (.tuple #[(Yy ps s).getD z,.bool (Yy ps s).isSome]):=UI λ w' e=>XX λ QP k=>Uc hm hk hz (h.ext e) s
def yK {C:WPr} {f:(Wd→Prop)→Wd→Prop} (hC:C w) (h:f C w):XS C w f:=⟨C,λ _ h=>h,hC,h⟩
def zx {w1:Wd} {r:Nat} {ps:List (BAr×Vl)} {f:(Wd→Prop)→Wd→Prop} (e:Ext w1 w) (hm:Y6 w r ps) (h:f (KL w1 r ps) w):XS (EC w1) w f:=⟨KL w1 r ps,λ _ h=>h.1,⟨e,hm⟩,h⟩
def Kn {w1:Wd} {f:(Wd→Prop)→Wd→Prop} (e:Ext w1 w) (h:f (EC w) w):XS (EC w1) w f:=⟨EC w,λ _ h=>e.trans h,Ext.refl _,h⟩
def Ze3 {C:WPr} [Yk C] {k:Vl→Prop} (t:TypeId) (c:Bool) (x:Int) (yk:IntKind) (y:Int) (h0:0≤y) (h1:y≤64):qV P C (ZA .shl t c (.int .i64 x) (.int yk y)) k=k (.int .i64 (IntKind.i64.wrap (x*2 ^ y.toNat))):=Yc λ _ _ _=>Tv t c x yk y h0 h1
def Ze2 {C:WPr} [Yk C] {k:Vl→Prop} (t:TypeId) (c:Bool) (kd:IntKind) (a b:Int) (hb:b≠0):qV P C (ZA .rem t c (.int kd a) (.int kd b)) k=k (.int kd (a.tmod b)):=Yc λ _ _ _=>Tu t c kd a b hb
def KM {α:Type} [DecidableEq α] (w:Wd) (r:Nat) (enc:α→Vl) (L:List (α×Vl×Nat)) (c:Nat):Wd→Prop:=λ x=>Ext w x∧XA x r enc L c
def Vm {α:Type} [DecidableEq α] {mt kt et r c:TypeId} {agg:Bool} {n m:Nat} {z:Vl} {enc:α→Vl} {L:List (α×Vl×Nat)} {k:Vl→Prop} (hm:P.underlying mt=some (.map kt et)) (K:QJ P kt enc) (hz:ZF P et agg n m z) (Y7:∃ x,KM w r enc L c x) (s:α) :
 qV P (KM w r enc L c) (lookup mt (.map (some r)) (enc s) true) k=k (.tuple #[(look L s).getD z,.bool (look L s).isSome]):=by
 haveI:Yk (KM w r enc L c):=⟨Y7⟩
 exact UI λ w' e=>XX λ QP k=>qc hm K hz e.2 s
def V6 {α:Type} [DecidableEq α] {w1:Wd} {r c:Nat} {enc:α→Vl} {L:List (α×Vl×Nat)} {f:(Wd→Prop)→Wd→Prop} (e:Ext w1 w) (hm:XA w r enc L c) (h:f (KM w1 r enc L c) w):XS (EC w1) w f:=⟨KM w1 r enc L c,λ _ h=>h.1,⟨e,hm⟩,h⟩
def ZB {f:(Wd→Prop)→Wd→Prop} (h:f (EC (drew w)) (drew w)):Z4 w f:=⟨EC (drew w),Ext.refl _,h⟩
def Em {w1:Wd} {f:(Wd→Prop)→Wd→Prop} (e:Ext w1 w) (h:f (EC w1) (drew w)):Z4 w f:=⟨EC w1,e.drew,h⟩
def YX {w1:Wd} (b1 b2:Nat) {f:(Wd→Prop)→Wd→Prop} (e:KB w1 b1 b2 w) (h:f (KB w1 b1 b2) (drew w)):Z4 w f:=⟨KB w1 b1 b2,e,h⟩
def Yx {f:(Wd→Prop)→Wd→Prop} (h:f (EC w) w):WB w f:=⟨EC w,Ext.refl _,h⟩
@[congr] theorem Zed {w':Wd} {f:(Wd→Prop)→Wd→Prop} {d:Nat} (hw:w=w') (hd:Qr=d):WB w f=WB w' f:=by rw [hw]
end
end Go.Sw
namespace Go.Sw
open Go.RowKit (Below)
def ZM {α:Type} (w:Wd) (base:Nat) (T:TypeId) (n:Nat) (enc:α→List Vl) (v:Vl) (l:List α):Prop:=
 w.ownsRow base T n v l.length (l.flatMap enc)
def jj {w w':Wd} {base n m:Nat} {T:TypeId} {v:Vl} {xs:List Vl} (h:w.ownsRow base T n v m xs) (e:Ext w w'):w'.ownsRow base T n v m xs:=
 h.kept (row:=none) ⟨e.os,e.tape,e.output,e.size,λ k hk _=>e.block k hk⟩ (by cases hv:v.ownBlock<;>simp)
def Fg {w:Wd} {base base' n m:Nat} {T:TypeId} {v:Vl} {xs:List Vl} (h:w.ownsRow base T n v m xs) (hb:base'≤base):w.ownsRow base' T n v m xs:=by
 refine ⟨h.1,?_⟩
 rcases h.2 with h2 | ⟨g,cap,cur,h1,h2,h3⟩
 · exact .inl h2
 · exact .inr ⟨g,cap,cur,h1,Nat.le_trans hb h2,h3⟩
def ZM.ext {α:Type} {w w':Wd} {base n:Nat} {T:TypeId} {enc:α→List Vl} {v:Vl} {l:List α} (h:ZM w base T n enc v l) (e:Ext w w'):ZM w' base T n enc v l:=jj h e
def ZM.base {α:Type} {w:Wd} {base base' n:Nat} {T:TypeId} {enc:α→List Vl} {v:Vl} {l:List α} (h:ZM w base T n enc v l) (hb:base'≤base):ZM w base' T n enc v l:=Fg h hb
def ZM.nil {α:Type} (w:Wd) (base n:Nat) (T:TypeId) (enc:α→List Vl):ZM w base T n enc (.slice none 0 0) []:=w.ownsRow_nil base T n
def Wv {α:Type} {enc:α→List Vl} {n:Nat} (hn:∀ x,(enc x).length=n):∀ (l:List α) (k:Nat) (x:α) (j:Nat) (v:Vl),l[k]?=some x→(enc x)[j]?=some v→(l.flatMap enc)[k*n+j]?=some v
 | [],k,x,j,v,h,_=>by simp at h
 | y::l,0,x,j,v,h,hv=>by
  simp only [List.getElem?_cons_zero,Option.some.injEq] at h
  subst h
  have hj:j < (enc y).length:=(Qqx hv).1
  rw [List.flatMap_cons,Nat.zero_mul,Nat.zero_add,List.getElem?_append_left hj];exact hv
 | y::l,k+1,x,j,v,h,hv=>by
  rw [List.flatMap_cons,List.getElem?_append_right (by rw [hn,Nat.add_mul];omega)]
  have:=Wv hn l k x j v (by simpa using h) hv
  rw [hn,Nat.add_mul]
  rw [show k*n+1*n+j - n=k*n+j by omega]
  exact this
def ZM.slice {α:Type} {w:Wd} {base n:Nat} {T:TypeId} {enc:α→List Vl} {v:Vl} {l:List α} {E:Wd→List Vl→α→Prop} (h:ZM w base T n enc v l) (hn:∀ x,(enc x).length=n) (hE:∀ x,x∈l→E w (enc x) x):Zd w n E v l:=by
 obtain ⟨h1,h2⟩:=h
 rcases h2 with ⟨rfl,h0⟩ | ⟨g,cap,cur,rfl,hb,hg,hc,hm,hs,ht⟩
 · have:l=[]:=List.eq_nil_of_length_eq_zero h0
   subst this;exact Zd.nil w n E
 · refine ⟨_,cap,rfl,hc,by simp only [maxLen] at hm;omega,λ _=>⟨g,0,rfl,λ k x hx=>⟨enc x,hn x,λ j v hv=>?_,hE x (List.mem_of_getElem? hx)⟩⟩⟩
   have hk:k < l.length:=(Qqx hx).1
   have hj:j < n:=by have:=(Qqx hv).1;rwa [hn] at this
   have:=Wv hn l k x j v hx hv
   rw [← ht,List.getElem?_take] at this
   split at this
   · rw [cell_of_row w g _ cur T (0,0) hg,Nat.zero_add]
     simpa using this
   · cases this
def ZM.new {α:Type} (w:Wd) (T:TypeId) (n:Nat) (enc:α→List Vl) (l:List α) (hn:∀ x,(enc x).length=n) (hl:l.length≤9223372036854775807):ZM (w.alloc (.cells (l.flatMap enc).toArray T)) w.heap.size T n enc (.slice (some ⟨w.heap.size,0,none⟩) l.length l.length) l:=by
 have YJ:(l.flatMap enc).length=l.length*n:=by
  clear hl
  induction l with
  | nil=>simp
  | cons a l ih=>rw [List.flatMap_cons,List.length_append,hn,ih,List.length_cons,Nat.add_mul];omega
 exact ⟨YJ,.inr ⟨_,_,_,rfl,Nat.le_refl _,World.alloc_heap_new w _,Nat.le_refl _,by simp only [maxLen];omega,by simpa using YJ,by rw [← YJ];exact List.take_length⟩⟩
abbrev Cs (n:Nat):Type:={cs:List Vl // cs.length=n}
def VM {α:Type} (n:Nat) (E:List Vl→α→Prop) (css:List (Cs n)) (l:List α):Prop:=css.length=l.length∧∀ (k:Nat) (x:α) (cs:Cs n),l[k]?=some x→css[k]?=some cs→E cs.1 x
def VM.imp {α:Type} {n:Nat} {E E':List Vl→α→Prop} {css:List (Cs n)} {l:List α} (h:VM n E css l) (hE:∀ cs x,E cs x→E' cs x):VM n E' css l:=⟨h.1,λ k x cs hx hc=>hE _ _ (h.2 k x cs hx hc)⟩
def VM.mem {α:Type} {n:Nat} {E:List Vl→α→Prop} {css:List (Cs n)} {l:List α} (h:VM n E css l) {cs:Cs n} (hc:cs∈css):∃ x∈l,E cs.1 x:=by
 obtain ⟨k,hk⟩:=List.getElem?_of_mem hc
 obtain ⟨x,hx⟩:=getElem?_lt (l:=l) (k:=k) (by rw [← h.1];exact (Qqx hk).1)
 exact ⟨x,List.mem_of_getElem? hx,h.2 k x cs hx hk⟩
def ZaW {n:Nat}:jX (λ (_:Wd) (cs:List Vl) (x:Cs n)=>cs=x.1):=λ _ _ _ _ _ h=>h
def Zd.raw {α:Type} {w:Wd} {n:Nat} {E:Wd→List Vl→α→Prop} {v:Vl} {l:List α} (h:Zd w n E v l) :
 ∃ css:List (Cs n),Zd w n (λ _ cs x=>cs=x.1) v css∧VM n (E w) css l:=by
 obtain ⟨A,c,rfl,hlc,hcm,hlm,Xj⟩:=Zd.open h
 have hex:∀ k,∃ cs:Cs n,∀ x,l[k]?=some x→∃ b o,A=some ⟨b,o,none⟩∧Yr w b (o+k*n) cs.1∧E w cs.1 x:=by
  intro k
  cases hx:l[k]? with
  | none=>exact ⟨⟨List.replicate n .nilIface,by simp⟩,λ x h=>by cases h⟩
  | some x=>
   obtain ⟨b,o,cs,h1,h2,h3,h4⟩:=Xj k x hx
   exact ⟨⟨cs,h2⟩,λ y hy=>by injection hy with hy;subst hy;exact ⟨b,o,h1,h3,h4⟩⟩
 let f:=λ k=>Classical.choose (hex k)
 have hf:∀ k x,l[k]?=some x→∃ b o,A=some ⟨b,o,none⟩∧Yr w b (o+k*n) (f k).1∧E w (f k).1 x:=λ k=>Classical.choose_spec (hex k)
 refine ⟨(List.range l.length).map f,⟨A,c,by simp,by simpa using hlc,hcm,λ Y7=>?_⟩,by simp,λ k x cs hx hcs=>?_⟩
 · have hl0:0 < l.length:=by
    cases hl:l with
    | nil=>rw [hl] at Y7;simp at Y7
    | cons=>simp
   obtain ⟨x,hx⟩:=getElem?_lt hl0
   obtain ⟨b,o,hA,_⟩:=hf 0 x hx
   refine ⟨b,o,hA,λ k cs hcs=>?_⟩
   simp only [List.getElem?_map,Option.map_eq_some_iff] at hcs
   obtain ⟨i,hi,rfl⟩:=hcs
   obtain ⟨hk,he⟩:=Qqx hi
   simp only [List.length_range] at hk
   rw [List.getElem_range] at he
   subst he
   obtain ⟨y,hy⟩:=getElem?_lt hk
   obtain ⟨b',o',hA',h3,h4⟩:=hf k y hy
   rw [hA] at hA'
   injection hA' with hA'
   injection hA' with h5 h6
   subst h5 h6
   exact ⟨(f k).1,(f k).2,h3,rfl⟩
 · obtain ⟨_,_,_,_,h4⟩:=hf k x hx
   have hk:k < l.length:=(Qqx hx).1
   simp only [List.getElem?_map,List.getElem?_range hk,Option.map_some,Option.some.injEq] at hcs
   rw [← hcs];exact h4
def ZM.reads {α:Type} {w:Wd} {base n:Nat} {T:TypeId} {v:Vl} {css:List (Cs n)} {l:List α} {E:Wd→List Vl→α→Prop} (h:ZM w base T n Subtype.val v css) (hm:VM n (E w) css l):Zd w n E v l:=by
 have hs:Zd w n (λ _ cs (x:Cs n)=>cs=x.1) v css:=h.slice (λ x=>x.2) (λ _ _=>rfl)
 obtain ⟨A,c,h1,h2,h3,h4⟩:=hs
 rw [hm.1] at h1 h2
 refine ⟨A,c,h1,h2,h3,λ Y7=>?_⟩
 have hne':css≠[]:=by
  rintro rfl
  have:=hm.1
  exact Y7 (List.eq_nil_of_length_eq_zero (by simpa using this.symm))
 obtain ⟨b,o,hA,h5⟩:=h4 hne'
 refine ⟨b,o,hA,λ k x hx=>?_⟩
 obtain ⟨cs,hcs⟩:=getElem?_lt (l:=css) (k:=k) (by rw [hm.1];exact (Qqx hx).1)
 obtain ⟨cs',h6,h7,rfl⟩:=h5 k cs hcs
 exact ⟨cs.1,cs.2,h7,hm.2 k x cs hx hcs⟩
def Za {w:Wd} {b:Nat} {cs:AVl} {T:TypeId} (h:w.heap[b]?=some (.cells cs T (0,0))):(∀ o,w.cell? ⟨b,o,none⟩=cs[o]?)∧∀ o,w.frozen? ⟨b,o,none⟩=false:=
 ⟨λ o=>cell_of_row w b o cs T (0,0) h,λ o=>by unfold World.frozen?;rw [h];simp⟩
def Zy {w:Wd} {b o:Nat} {cs:AVl} {T:TypeId} {fr:Nat×Nat} (h:w.heap[b]?=some (.cells cs T fr)) (v:Vl):(w.setCell ⟨b,o,none⟩ v).heap[b]?=some (.cells (cs.setIfInBounds o v) T fr):=by
 simp only [World.setCell,Array.getElem?_modify,h]
 simp
def setObj (o:Nat) (v:Vl):Obj→Obj
 | .cells cs T fr => .cells (cs.setIfInBounds o v) T fr
 | x=>x
def Y2 (o:Nat) (v:Vl) (cs:AVl) (T:TypeId) (fr:Nat×Nat):setObj o v (.cells cs T fr) = .cells (cs.setIfInBounds o v) T fr:=rfl
def YY {w:Wd} {b o:Nat} {v:Vl}:(w.setCell ⟨b,o,none⟩ v).heap[b]?=(w.heap[b]?).map (setObj o v):=by
 simp only [World.setCell,Array.getElem?_modify]
 cases w.heap[b]? with
 | none=>simp
 | some x=>simp;cases x<;>rfl
def Zt (w:Wd) (cs:AVl) (T:TypeId):(w.alloc (.cells cs T)).heap[w.heap.size]?=some (.cells cs T (0,0)):=World.alloc_heap_new w _
def GV (w:Wd) (b:Nat) (T:TypeId):Prop:=∃ cur fr,w.heap[b]?=some (.cells cur T fr)
def YA (b:Nat) (w w':Wd):Prop:=∀ g,g≠b→w'.heap[g]?=w.heap[g]?
def YA.setCell (w:Wd) (b o:Nat) (v:Vl):YA b w (w.setCell ⟨b,o,none⟩ v):=λ g hg=>Below.heap_setCell w ⟨b,o,none⟩ v g hg
def Zan {α:Type} (w:Wd) (lo hi:Nat) (T:TypeId) (n:Nat) (enc:α→List Vl) (v:Vl) (l:List α):Prop:=ZM w lo T n enc v l∧∀ b,v.ownBlock=some b→b < hi
def ZM.range {α:Type} {w:Wd} {lo n:Nat} {T:TypeId} {enc:α→List Vl} {v:Vl} {l:List α} (h:ZM w lo T n enc v l):Zan w lo w.heap.size T n enc v l:=⟨h,λ b hb=>(h.lt b hb).2⟩
def Zan.only {α:Type} {w w':Wd} {lo hi n b:Nat} {T:TypeId} {enc:α→List Vl} {v:Vl} {l:List α} (h:Zan w lo hi T n enc v l) (ho:YA b w w') (hb:hi≤b∨b < lo∨∃ T',GV w b T'∧T'≠T):Zan w' lo hi T n enc v l:=by
 refine ⟨⟨h.1.1,?_⟩,h.2⟩
 rcases h.1.2 with h2 | ⟨g,cap,cur,h1,h2,h3,h4⟩
 · exact .inl h2
 · refine .inr ⟨g,cap,cur,h1,h2,?_,h4⟩
   rw [ho g ?_];exact h3
   rintro rfl
   rcases hb with hb | hb | ⟨T',⟨cur',fr,hc⟩,hT⟩
   · have:=h.2 g (by rw [h1];rfl)
     omega
   · omega
   · rw [h3] at hc;injection hc with hc;injection hc with _ hc _;exact hT hc.symm
def ZM.row {α:Type} {w:Wd} {lo n:Nat} {T:TypeId} {enc:α→List Vl} {v:Vl} {l:List α} (h:ZM w lo T n enc v l) (hn:∀ x,(enc x).length=n) (hl:0 < l.length) :
 ∃ g cap,v = .slice (some ⟨g,0,none⟩) l.length cap∧lo≤g∧g < w.heap.size∧GV w g T∧(∀ o,w.frozen? ⟨g,o,none⟩=false)∧∀ k x,l[k]?=some x→Yr w g (k*n) (enc x):=by
 rcases h.2 with ⟨rfl,h0⟩ | ⟨g,cap,cur,rfl,hb,hg,hc,hm,hs,ht⟩
 · omega
 · refine ⟨g,cap,rfl,hb,(Qqj hg).1,⟨_,_,hg⟩,λ o=>by unfold World.frozen?;rw [hg];simp,λ k x hx j v hv=>?_⟩
   have:=Wv hn l k x j v hx hv
   rw [← ht,List.getElem?_take] at this
   split at this
   · rw [cell_of_row w g _ cur T (0,0) hg]
     simpa using this
   · cases this
def Jb {n:Nat}:∀ (css:List (Cs n)) (k:Nat) (cs:Cs n) (j:Nat) (u:Vl),css[k]?=some cs→j < n→(css.flatMap Subtype.val).set (k*n+j) u=(css.set k ⟨cs.1.set j u,by simp [cs.2]⟩).flatMap Subtype.val
 | [],k,cs,j,u,h,_=>by simp at h
 | y::l,0,cs,j,u,h,hj=>by
  simp only [List.getElem?_cons_zero,Option.some.injEq] at h
  subst h
  rw [List.set_cons_zero,List.flatMap_cons,List.flatMap_cons,Nat.zero_mul,Nat.zero_add,List.set_append_left _ _ (by rw [y.2];exact hj)]
 | y::l,k+1,cs,j,u,h,hj=>by
  have hk:(k+1)*n=k*n+n:=by rw [Nat.add_mul,Nat.one_mul]
  rw [List.set_cons_succ,List.flatMap_cons,List.flatMap_cons,List.set_append_right _ _ (by rw [y.2,hk];omega),y.2,hk,show k*n+n+j - n=k*n+j by omega]
  rw [Jb l k cs j u (by simpa using h) hj]
def ZM.set {w:Wd} {lo n g cap len:Nat} {T:TypeId} {css:List (Cs n)} (h:ZM w lo T n Subtype.val (.slice (some ⟨g,0,none⟩) len cap) css) {k:Nat} {cs:Cs n} (hk:css[k]?=some cs) {j:Nat} (hj:j < n) (u:Vl) :
 ZM (w.setCell ⟨g,k*n+j,none⟩ u) lo T n Subtype.val (.slice (some ⟨g,0,none⟩) len cap) (css.set k ⟨cs.1.set j u,by simp [cs.2]⟩):=by
 have hkl:k < css.length:=(Qqx hk).1
 refine ⟨?_,?_⟩
 · rw [← Jb css k cs j u hk hj,List.length_set,List.length_set];exact h.1
 rcases h.2 with ⟨h0,_⟩ | ⟨g',cap',cur,h1,hb,hg,hc,hm,hs,ht⟩
 · cases h0
 · injection h1 with h1 h1' h1''
   injection h1 with h1
   injection h1 with h1
   subst h1 h1''
   refine .inr ⟨g,cap,cur.setIfInBounds (k*n+j) u,by rw [List.length_set,← h1'],hb,?_,by rw [List.length_set];exact hc,hm,by simpa using hs,?_⟩
   · simp only [World.setCell,Array.getElem?_modify,hg]
     simp
   · rw [List.length_set,← Jb css k cs j u hk hj,← ht,Array.toList_setIfInBounds,List.take_set]
def GV.ext {w w':Wd} {b:Nat} {T:TypeId} (h:GV w b T) (e:Ext w w'):GV w' b T:=by
 obtain ⟨cur,fr,h⟩:=h
 exact ⟨cur,fr,e.obj h⟩
def ZM.mates {α:Type} {w:Wd} {lo n:Nat} {T:TypeId} {enc:α→List Vl} {v:Vl} {css:List (Cs n)} {l:List α} (h:ZM w lo T n Subtype.val v css) (hm:VM n (λ cs x=>cs=enc x) css l):ZM w lo T n enc v l:=by
 have he:css.flatMap Subtype.val=l.flatMap enc:=by
  have:css.map Subtype.val=l.map enc:=by
   apply List.ext_getElem?
   intro i
   rw [List.getElem?_map,List.getElem?_map]
   cases hc:css[i]? with
   | none=>
    have:l[i]?=none:=by rw [List.getElem?_eq_none_iff] at hc ⊢;rw [← hm.1];exact hc
    rw [this];rfl
   | some cs=>
    obtain ⟨x,hx⟩:=getElem?_lt (l:=l) (k:=i) (by rw [← hm.1];exact (Qqx hc).1)
    rw [hx]
    simp only [Option.map_some,Option.some.injEq]
    exact hm.2 i x cs hx hc
  rw [List.flatMap_def,List.flatMap_def,this]
 unfold ZM at *
 rw [← he,← hm.1];exact h
section
variable {P:Program} {QP:PEn} {w:Wd}
def LP {t ty T n m:Nat} {z:Vl} {agg:Bool} {k:KV} (ht:P.underlying t=some (.slice T)) (hT:ZF P T agg n m z) (B A:Option Addr) (len cap c:Nat) (hc:len≤cap) :
 opV P (Builtin.append_ #[t,t] ty #[.slice B len cap,.slice A 0 c]) QP w k=k (.slice B len cap) w:=by
 obtain ⟨⟨i,hi,hs,hby,hzz⟩,_⟩:=hT
 refine ZV ?_
 cases A with
 | none=>cases B<;>simp [Builtin.append_,run_underlying ht,sizeOf,typeInfo,hi,Builtin.lenOf,Builtin.firstCells,hc,storeCells]
 | some a=>cases B<;>simp [Builtin.append_,run_underlying ht,sizeOf,typeInfo,hi,Builtin.lenOf,Builtin.firstCells,hc,storeCells,loadCells,loadCellsFrom]
def W8 {α:Type} {t ty T n m:Nat} {z:Vl} {agg:Bool} {enc:α→List Vl} {v:Vl} {l l':List α} {base:Nat} {k:KV}
 (ht:P.underlying t=some (.slice T)) (hT:ZF P T agg n m z) (hz:z.cells.size=n) (h0:0 < n) (hn:∀ x,(enc x).length=n) (h1:∀ x,x∈l'→∀ u∈enc x,u.oneCell'=true)
 (G4:ZM w base T n enc v l) {b o c:Nat} (hc:∀ j x,l'[j]?=some x→Yr w b (o+j*n) (enc x)) (VX:base≤w.heap.size) (hm:(l.length+l'.length)*m≤140737488355328) (hb:l.length+l'.length≤140737488355328)
 (hk:∀ v' w',ZM w' base T n enc v' (l++l')→w.grownBy w' v.ownBlock→k v' w') :
 opV P (Builtin.append_ #[t,t] ty #[v,.slice (some ⟨b,o,none⟩) l'.length c]) QP w k:=by
 obtain ⟨⟨i,hi,hs,hby,hzz⟩,_⟩:=hT
 have hfl:(l'.flatMap enc).length=l'.length*n:=by
  clear hm hb hc h1 hk
  induction l' with
  | nil=>simp
  | cons a l ih=>rw [List.flatMap_cons,List.length_append,hn,ih,List.length_cons,Nat.add_mul];omega
 have hcells:∀ j u,(l'.flatMap enc)[j]?=some u→w.cell? ((⟨b,o,none⟩:Addr).add j)=some u:=by
  intro j u hu
  have hj:j < l'.length*n:=by have:=(Qqx hu).1;rwa [hfl] at this
  have hq:j / n < l'.length:=Nat.div_lt_of_lt_mul (by rw [Nat.mul_comm];exact hj)
  obtain ⟨x,hx⟩:=getElem?_lt hq
  have hjn:j % n < (enc x).length:=by rw [hn];exact Nat.mod_lt _ h0
  have hdm:j / n*n+j % n=j:=by rw [Nat.mul_comm];exact Nat.div_add_mod j n
  have hg:=Wv hn l' (j / n) x (j % n) _ hx (List.getElem?_eq_getElem hjn)
  rw [hdm,hu] at hg
  injection hg with hg
  rw [Addr.add_lit]
  have:=hc _ _ hx (j % n) _ (List.getElem?_eq_getElem hjn)
  rw [hg,← this]
  congr 2;omega
 obtain ⟨v',w',hr,ho,hg,_⟩:=run_append_own (P:=P) w base t ty T i z n m ht hi hzz hs hby hz h0 v l.length (l.flatMap enc) G4 ⟨b,o,none⟩ l'.length c (l'.flatMap enc) hfl hcells
  (by intro u hu;obtain ⟨x,hx,hux⟩:=List.mem_flatMap.1 hu;exact h1 x hx u hux) (by simp only [maxLen];omega) hm VX
 rw [ZV hr]
 refine hk v' w' ?_ hg
 unfold ZM
 rw [List.flatMap_append,List.length_append];exact ho
end
end Go.Sw
