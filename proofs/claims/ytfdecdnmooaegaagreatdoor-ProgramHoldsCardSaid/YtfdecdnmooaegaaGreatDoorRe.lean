/-
  phrasebooklaw18.ProgramHolds returns true for every definition, and leaves its arguments as they were; no condition is asked but that the tables of the library lie as the program lays them (the card ties them).
-/
import Derived.Test.YtfdecdnmooaegaaGreatDoorRe5
set_option linter.all false
set_option maxHeartbeats 4000000
set_option maxRecDepth 100000
namespace Go.Proofs.YtfdecdnmooaegaaGreatDoor
open Sw
open Go.RowKit (intOf Below)
def EachP (P:List InsD→InsD→Prop):List InsD→List InsD→Prop
 | _,[]=>True
 | pre,x::l=>P pre x∧EachP P (pre++[x]) l
theorem each_append {P:List InsD→InsD→Prop}:∀ {l1 pre l2:List InsD},EachP P pre l1→EachP P (pre++l1) l2→EachP P pre (l1++l2)
 | [],pre,l2,_,h=>by rw [List.append_nil] at h;exact h
 | x::l1,pre,l2,h,h2=>⟨h.1,each_append h.2 (by rw [List.append_assoc];exact h2)⟩
theorem each_get {P:List InsD→InsD→Prop}:∀ {l pre:List InsD} {i:Nat} {x:InsD},EachP P pre l→l[i]?=some x→P (pre++l.take i) x
 | y::l,pre,0,x,h,hx=>by
  injection hx with hx
  subst hx
  rw [List.take_zero,List.append_nil]
  exact h.1
 | y::l,pre,i+1,x,h,hx=>by
  have:=each_get (i:=i) h.2 hx
  rw [List.append_assoc] at this
  exact this
theorem each_one {P:List InsD→InsD→Prop} {pre:List InsD} {x:InsD} (h:P pre x):EachP P pre [x]:=⟨h,trivial⟩
def isQ (k f:Int) (x:InsD):Bool:=decide (x.code≠3)&&(decide (0≤x.field)&&(decide (x.code≠8)&&(decide (x.msg=k)&&decide (x.field=f))))
def cntQ (A:List InsD) (k f:Int):Nat:=A.countP (isQ k f)
def isG (k:Int) (x:InsD):Bool:=decide (0≤x.reg)&&decide (x.msg=k)
def regQ (A:List InsD) (k:Int):Nat:=A.countP (isG k)
def entX (x:InsD):Option Int:=if x.code=3 then some x.msg else none
def entQ (A:List InsD):List Int:=A.filterMap entX
theorem cntQ_append (A B:List InsD) (k f:Int):cntQ (A++B) k f=cntQ A k f+cntQ B k f:=List.countP_append
theorem regQ_append (A B:List InsD) (k:Int):regQ (A++B) k=regQ A k+regQ B k:=List.countP_append
theorem entQ_append (A B:List InsD):entQ (A++B)=entQ A++entQ B:=List.filterMap_append
theorem cntQ_one (x:InsD) (k f:Int):cntQ [x] k f=if isQ k f x then 1 else 0:=by unfold cntQ;rw [List.countP_singleton]
theorem regQ_one (x:InsD) (k:Int):regQ [x] k=if isG k x then 1 else 0:=by unfold regQ;rw [List.countP_singleton]
structure GoodX (d:DefD) (L A:List InsD) (x:InsD):Prop where
 to:0≤x.to→∃ y,L[x.to.toNat]?=some y∧y.code=3
 own:x.code=3∨x.code=10→∃ (k:Nat) (m:MsgD),x.msg=k∧d.msgs[k]?=some m∧reachD d k=true∧x.field = -1∧x.reg = -1
 ret:x.code=10→∀ (k:Nat) (m:MsgD),x.msg=k→d.msgs[k]?=some m→regQ A k=cntR m.fields m.fields.length∧∀ f:Nat,f < m.fields.length→cntQ A k f=1
 reg:0≤x.reg→x.reg=regQ A x.msg
section
variable {d:DefD} {L:List InsD} {rt:ByteArray→Int}
theorem good_plain {A:List InsD} {x:InsD} (h3:x.code≠3) (h10:x.code≠10) (hg:x.reg < 0) (ht:0≤x.to→∃ y,L[x.to.toNat]?=some y∧y.code=3):GoodX d L A x :=
 ⟨ht,fun h=>(h.elim h3 h10).elim,fun h=>absurd h h10,fun h=>absurd h (Int.not_le.2 hg)⟩
theorem casI_good {i k:Int} {l:List CaseD} (ht:∀ c∈l,0≤rt c.of→∃ y,L[(rt c.of).toNat]?=some y∧y.code=3):∀ {n:Nat} {A:List InsD},EachP (GoodX d L) A (casI rt i k l n)
 | 0,_=>trivial
 | n+1,A=>by
  unfold casI
  refine each_append (casI_good ht) ?_
  cases hc:l[n]? with
  | none=>trivial
  | some c=>exact each_one (good_plain (by simp) (by simp) (by simp) (ht c (List.mem_of_getElem? hc)))
theorem cas_none {i k a b:Int} {l:List CaseD}:∀ n,cntQ (casI rt i k l n) a b=0∧regQ (casI rt i k l n) a=0∧entQ (casI rt i k l n)=[]
 | 0=>⟨rfl,rfl,rfl⟩
 | n+1=>by
  obtain ⟨h1,h2,h3⟩:=cas_none (i:=i) (k:=k) (a:=a) (b:=b) (l:=l) n
  unfold casI
  rw [cntQ_append,regQ_append,entQ_append,h1,h2,h3]
  cases l[n]? with
  | none=>exact ⟨rfl,rfl,rfl⟩
  | some c=>exact ⟨by simp [cntQ_one,isQ],by simp [regQ_one,isG],rfl⟩
theorem fieldC_good {i k g:Int} {f:FieldD} {A:List InsD} (ht:∀ s∈refsF f,0≤rt s→∃ y,L[(rt s).toNat]?=some y∧y.code=3) (hg:0≤g→g=regQ A i):EachP (GoodX d L) A (fieldC rt i k g f):=by
 unfold fieldC
 by_cases h9:f.kind=9
 · rw [if_pos h9]
   refine ⟨good_plain (by simp) (by simp) (by simp) (fun h=>by simp at h),?_⟩
   refine casI_good fun c hc=>ht _ ?_
   unfold refsF
   rw [if_neg (by omega),if_pos h9]
   exact List.mem_map.2 ⟨c,hc,rfl⟩
 rw [if_neg h9]
 have href:f.kind=7∨f.kind=8∨f.kind=12→0≤rt f.of→∃ y,L[(rt f.of).toNat]?=some y∧y.code=3:=fun h=>ht _ (by unfold refsF;rw [if_pos h];exact List.mem_singleton.2 rfl)
 by_cases h8:f.kind=8
 · rw [if_pos h8];exact each_one (good_plain (by simp) (by simp) (by simp) (href (by omega)))
 rw [if_neg h8]
 by_cases h7:f.kind=7
 · rw [if_pos h7];exact each_one (good_plain (by simp) (by simp) (by simp) (href (by omega)))
 rw [if_neg h7]
 by_cases h12:f.kind=12
 · rw [if_pos h12];exact each_one (good_plain (by simp) (by simp) (by simp) (href (by omega)))
 rw [if_neg h12]
 exact each_one ⟨fun h=>by simp at h,fun h=>by simp at h,fun h=>by simp at h,hg⟩
theorem reg_kind {l:List FieldD} {f:FieldD} (h:regB l f=true):f.kind≠9∧f.kind≠8∧f.kind≠7∧f.kind≠12:=by
 unfold regB numberB at h
 simp only [Bool.and_eq_true,Bool.or_eq_true,beq_iff_eq,decide_eq_true_eq] at h
 omega
theorem fieldC_counts {i k b:Int} {l:List FieldD} {f:FieldD} {n:Nat} (hk:0≤k):cntQ (fieldC rt i k (gR l n f) f) i b=(if b=k then 1 else 0)∧regQ (fieldC rt i k (gR l n f) f) i=(if regB l f then 1 else 0)∧entQ (fieldC rt i k (gR l n f) f)=[]:=by
 have hone:∀ c g s t:Int,c≠3→c≠8→cntQ [⟨c,i,k,g,s,t⟩] i b=if b=k then 1 else 0:=fun c g s t h3 h8=>by
  rw [cntQ_one]
  unfold isQ
  simp only [h3,h8,hk,ne_eq,not_false_eq_true,decide_true,Bool.true_and]
  by_cases hb:b=k
  · simp [hb]
  · have:¬ k=b:=fun e=>hb e.symm
    simp [hb,this]
 have hreg:∀ c s t:Int,regQ [⟨c,i,k,-1,s,t⟩] i=0:=fun c s t=>by rw [regQ_one];simp [isG]
 have hent:∀ c g s t:Int,c≠3→entQ [⟨c,i,k,g,s,t⟩]=[]:=fun c g s t h3=>by
  unfold entQ
  rw [List.filterMap_cons,show entX ⟨c,i,k,g,s,t⟩=none from if_neg h3]
  rfl
 have hnr:(f.kind=9∨f.kind=8∨f.kind=7∨f.kind=12)→regB l f=false:=fun h=>by
  cases hr:regB l f with
  | false=>rfl
  | true=>have:=reg_kind hr;omega
 unfold fieldC
 by_cases h9:f.kind=9
 · rw [if_pos h9,hnr (.inl h9)]
   obtain ⟨c1,c2,c3⟩:=cas_none (rt:=rt) (i:=i) (k:=k) (a:=i) (b:=b) (l:=f.cases) f.cases.length
   rw [show (⟨7,i,k,-1,-1,-1⟩:InsD)::casI rt i k f.cases f.cases.length=[⟨7,i,k,-1,-1,-1⟩]++casI rt i k f.cases f.cases.length from rfl,cntQ_append,regQ_append,entQ_append,c1,c2,c3]
   exact ⟨by rw [hone 7 (-1) (-1) (-1) (by decide) (by decide)];rfl,by rw [hreg 7 (-1) (-1)];rfl,by rw [hent 7 (-1) (-1) (-1) (by decide)];rfl⟩
 rw [if_neg h9]
 by_cases h8:f.kind=8
 · rw [if_pos h8,hnr (by omega)]
   exact ⟨hone _ _ _ _ (by decide) (by decide),hreg _ _ _,hent _ _ _ _ (by decide)⟩
 rw [if_neg h8]
 by_cases h7:f.kind=7
 · rw [if_pos h7,hnr (by omega)]
   exact ⟨hone _ _ _ _ (by decide) (by decide),hreg _ _ _,hent _ _ _ _ (by decide)⟩
 rw [if_neg h7]
 by_cases h12:f.kind=12
 · rw [if_pos h12,hnr (by omega)]
   exact ⟨hone _ _ _ _ (by decide) (by decide),hreg _ _ _,hent _ _ _ _ (by decide)⟩
 rw [if_neg h12]
 refine ⟨hone _ _ _ _ (by decide) (by decide),?_,hent _ _ _ _ (by decide)⟩
 rw [regQ_one]
 unfold isG gR
 cases hr:regB l f with
 | false=>simp
 | true=>simp
theorem fieldsC_counts {i:Int} {l:List FieldD}:∀ n,n≤l.length→(∀ b:Nat,cntQ (fieldsC rt i l n) i b=if b < n then 1 else 0)∧regQ (fieldsC rt i l n) i=cntR l n∧entQ (fieldsC rt i l n)=[]
 | 0,_=>⟨fun b=>rfl,rfl,rfl⟩
 | n+1,hn=>by
  obtain ⟨h1,h2,h3⟩:=fieldsC_counts (i:=i) (l:=l) n (by omega)
  obtain ⟨f,hf⟩:=getElem?_lt (show n < l.length by omega)
  unfold fieldsC cntR
  rw [hf]
  refine ⟨fun b=>?_,?_,?_⟩
  · obtain ⟨c1,_,_⟩:=fieldC_counts (rt:=rt) (i:=i) (k:=(n:Int)) (b:=(b:Int)) (l:=l) (f:=f) (n:=n) (by omega)
    rw [cntQ_append,h1,c1]
    by_cases hb:b=n
    · subst hb;simp
    · have:¬ ((b:Int)=n):=by omega
      rw [if_neg this]
      by_cases hlt:b < n
      · rw [if_pos hlt,if_pos (by omega)]
      · rw [if_neg hlt,if_neg (by omega)]
  · obtain ⟨_,c2,_⟩:=fieldC_counts (rt:=rt) (i:=i) (k:=(n:Int)) (b:=0) (l:=l) (f:=f) (n:=n) (by omega)
    rw [regQ_append,h2,c2]
  · obtain ⟨_,_,c3⟩:=fieldC_counts (rt:=rt) (i:=i) (k:=(n:Int)) (b:=0) (l:=l) (f:=f) (n:=n) (by omega)
    rw [entQ_append,h3,c3]
    rfl
theorem fieldsC_good {i:Int} {l:List FieldD} (ht:∀ s∈allRefs l,0≤rt s→∃ y,L[(rt s).toNat]?=some y∧y.code=3) {A:List InsD} (hA:regQ A i=0):∀ n,n≤l.length→EachP (GoodX d L) A (fieldsC rt i l n)
 | 0,_=>trivial
 | n+1,hn=>by
  obtain ⟨f,hf⟩:=getElem?_lt (show n < l.length by omega)
  unfold fieldsC
  rw [hf]
  refine each_append (fieldsC_good ht hA n (by omega)) ?_
  refine fieldC_good (fun s hs=>ht s (List.mem_flatMap.2 ⟨f,List.mem_of_getElem? hf,hs⟩)) fun hg=>?_
  have:=(fieldsC_counts (rt:=rt) (i:=i) (l:=l) n (by omega)).2.1
  rw [regQ_append,hA,this]
  unfold gR at hg ⊢
  split at hg
  · rename_i hr;rw [if_pos hr];omega
  · omega
theorem msgC_good {k:Nat} {m:MsgD} (hm:d.msgs[k]?=some m) (hr:reachD d k=true) (ht:∀ s∈allRefs m.fields,0≤rt s→∃ y,L[(rt s).toNat]?=some y∧y.code=3) {A:List InsD} (hA:regQ A k=0) (hQ:∀ b,cntQ A k b=0):EachP (GoodX d L) A (msgC rt k m):=by
 unfold msgC
 have hx:∀ c:Int,regQ [⟨c,(k:Int),-1,-1,-1,-1⟩] (k:Int)=0∧∀ b,cntQ [⟨c,(k:Int),-1,-1,-1,-1⟩] (k:Int) b=0:=fun c=>⟨by rw [regQ_one];simp [isG],fun b=>by rw [cntQ_one];simp [isQ]⟩
 have hown:∀ c:Int,c=3∨c=10→∃ (k':Nat) (m':MsgD),(k:Int)=k'∧d.msgs[k']?=some m'∧reachD d k'=true∧(-1:Int) = -1∧(-1:Int) = -1:=fun c _=>⟨k,m,rfl,hm,hr,rfl,rfl⟩
 obtain ⟨c1,c2,_⟩:=fieldsC_counts (rt:=rt) (i:=(k:Int)) (l:=m.fields) m.fields.length (Nat.le_refl _)
 refine each_append ⟨⟨fun h=>by simp at h,fun h=>hown 3 (.inl rfl),fun h=>by simp at h,fun h=>by simp at h⟩,fieldsC_good ht (by rw [regQ_append,hA,(hx 3).1]) _ (Nat.le_refl _)⟩ ?_
 refine each_one ⟨fun h=>by simp at h,fun h=>hown 10 (.inr rfl),fun _ k' m' hk' hm'=>?_,fun h=>by simp at h⟩
 have hk':(k:Int)=k':=hk'
 obtain rfl:k=k':=by omega
 rw [hm] at hm'
 injection hm' with hm'
 subst hm'
 rw [show (⟨3,(k:Int),-1,-1,-1,-1⟩:InsD)::fieldsC rt k m.fields m.fields.length=[⟨3,(k:Int),-1,-1,-1,-1⟩]++fieldsC rt k m.fields m.fields.length from rfl]
 refine ⟨?_,fun f hf=>?_⟩
 · rw [regQ_append,regQ_append,hA,(hx 3).1,c2];omega
 · rw [cntQ_append,cntQ_append,hQ,(hx 3).2,c1,if_pos hf]
theorem fieldC_msg {i k g:Int} {f:FieldD} {x:InsD} (h:x∈fieldC rt i k g f):x.msg=i:=by
 unfold fieldC at h
 split at h
 · rcases List.mem_cons.1 h with rfl | h
   · rfl
   · obtain ⟨j,c,_,rfl⟩:=casI_mem h;rfl
 · repeat' split at h
   all_goals (simp only [List.mem_singleton] at h;subst h;rfl)
theorem msgC_msg {i:Int} {m:MsgD} {x:InsD} (h:x∈msgC rt i m):x.msg=i:=by
 unfold msgC at h
 simp only [List.cons_append,List.mem_cons,List.mem_append,List.not_mem_nil,or_false] at h
 rcases h with rfl | h | rfl
 · rfl
 · obtain ⟨k,f,_,_,h⟩:=fieldsC_mem h
   exact fieldC_msg h
 · rfl
theorem head_none (t:Int) (k:Nat):regQ (headC t) k=0∧(∀ b,cntQ (headC t) k b=0)∧entQ (headC t)=[]:=by
 refine ⟨?_,fun b=>?_,rfl⟩
 · unfold regQ headC
   rw [List.countP_eq_zero]
   intro x hx
   simp only [List.mem_cons,List.not_mem_nil,or_false] at hx
   rcases hx with rfl | rfl<;>simp [isG]
 · unfold cntQ headC
   rw [List.countP_eq_zero]
   intro x hx
   simp only [List.mem_cons,List.not_mem_nil,or_false] at hx
   rcases hx with rfl | rfl<;>simp [isQ]
theorem codeN_none {l:List MsgD} {r:Nat→Bool} {n k:Nat} (hk:n≤k):regQ (codeN rt l r n) k=0∧∀ b,cntQ (codeN rt l r n) k b=0:=by
 have hm:∀ x∈codeN rt l r n,x.msg≠(k:Int):=fun x hx=>by
  obtain ⟨i,m,hi,_,_,h⟩:=codeN_mem hx
  rw [msgC_msg h]
  omega
 refine ⟨?_,fun b=>?_⟩
 · unfold regQ
   rw [List.countP_eq_zero]
   intro x hx
   simp [isG,hm x hx]
 · unfold cntQ
   rw [List.countP_eq_zero]
   intro x hx
   simp [isQ,hm x hx]
theorem codeN_good {t:Int} (ht:∀ (k:Nat) (m:MsgD),d.msgs[k]?=some m→reachD d k=true→∀ s∈allRefs m.fields,0≤rt s→∃ y,L[(rt s).toNat]?=some y∧y.code=3):∀ n,EachP (GoodX d L) (headC t) (codeN rt d.msgs (reachD d) n)
 | 0=>trivial
 | n+1=>by
  unfold codeN
  refine each_append (codeN_good ht n) ?_
  cases hm:d.msgs[n]? with
  | none=>trivial
  | some m =>
   simp only
   split
   · rename_i hr
     refine msgC_good hm hr (ht n m hm hr) ?_ fun b=>?_
     · rw [regQ_append,(head_none t n).1,(codeN_none (Nat.le_refl n)).1]
     · rw [cntQ_append,(head_none t n).2.1,(codeN_none (Nat.le_refl n)).2]
   · trivial
theorem msgC_ent {i:Int} {m:MsgD}:entQ (msgC rt i m)=[i]:=by
 unfold msgC
 rw [show (⟨3,i,-1,-1,-1,-1⟩:InsD)::fieldsC rt i m.fields m.fields.length=[⟨3,i,-1,-1,-1,-1⟩]++fieldsC rt i m.fields m.fields.length from rfl,entQ_append,entQ_append,(fieldsC_counts _ (Nat.le_refl _)).2.2]
 rfl
theorem codeN_ent {l:List MsgD} {r:Nat→Bool}:∀ n,n≤l.length→entQ (codeN rt l r n)=selP n r
 | 0,_=>rfl
 | n+1,hn=>by
  obtain ⟨m,hm⟩:=getElem?_lt (show n < l.length by omega)
  unfold codeN
  rw [hm,entQ_append,codeN_ent n (by omega),sel_succ]
  simp only
  split
  · rw [msgC_ent]
  · rfl
theorem code_enter {l:List MsgD} {r:Nat→Bool} {j:Nat} {m:MsgD} (hm:l[j]?=some m) (hr:r j=true):∀ n,j < n→(codeN rt l r n)[(codeN rt l r j).length]?=some ⟨3,j,-1,-1,-1,-1⟩
 | 0,h=>by omega
 | n+1,h=>by
  show (codeN rt l r n++_)[_]?=_
  by_cases hj:j=n
  · subst hj
    rw [List.getElem?_append_right (Nat.le_refl _),Nat.sub_self,hm]
    simp only [hr,if_true]
    rfl
  · have ih:=code_enter hm hr n (by omega)
    rw [List.getElem?_append_left (List.getElem?_eq_some_iff.1 ih).1]
    exact ih
end
section
variable {d:DefD}
theorem codeP_enter {j:Nat} {m:MsgD} (hm:d.msgs[j]?=some m) (hr:reachD d j=true):(codeP d)[routN d.msgs (reachD d) j]?=some ⟨3,j,-1,-1,-1,-1⟩:=by
 unfold codeP
 rw [← codeN_len (rt:=toR d.msgs (reachD d)),List.getElem?_append_right (by show 2≤_;omega)]
 have:(codeN (toR d.msgs (reachD d)) d.msgs (reachD d) j).length+2 - (headC (toR d.msgs (reachD d) d.start)).length=(codeN (toR d.msgs (reachD d)) d.msgs (reachD d) j).length:=by
  show _ - 2=_
  omega
 rw [this]
 exact code_enter hm hr _ (List.getElem?_eq_some_iff.1 hm).1
theorem toR_at (hf:Fine d.msgs) {j:Nat} {m:MsgD} (hm:d.msgs[j]?=some m):toR d.msgs (reachD d) m.name=(routN d.msgs (reachD d) j:Int):=by
 have:=idN_at hf hm
 unfold idN at this
 unfold toR
 rw [this]
 rfl
theorem refs_reached (hf:Fine d.msgs) {k:Nat} {m:MsgD} (hm:d.msgs[k]?=some m) (hr:reachD d k=true) {s:ByteArray} (hs:s∈allRefs m.fields):∃ (i:Nat) (m':MsgD),d.msgs[i]?=some m'∧m'.name=s∧reachD d i=true:=by
 obtain ⟨i,m',_,h2,h3,h4⟩:=refs_to hf hm hs
 exact ⟨i,m',h2,h3,reach_closed hf _ _ hr h4⟩
theorem start_reached (hc:(checkP d).2.2=0):∃ (i:Nat) (m':MsgD),d.msgs[i]?=some m'∧m'.name=d.start∧reachD d i=true:=by
 obtain ⟨m,hm,hn⟩:=start_at hc
 exact ⟨startI d,m,hm,hn,reach_start (start_spec hc).1⟩
theorem code_good (hc:(checkP d).2.2=0):EachP (GoodX d (codeP d)) [] (codeP d):=by
 have hf:=(check_fine hc).2.2.1
 have hto:∀ s,(∃ (i:Nat) (m':MsgD),d.msgs[i]?=some m'∧m'.name=s∧reachD d i=true)→0≤toR d.msgs (reachD d) s→∃ y,(codeP d)[(toR d.msgs (reachD d) s).toNat]?=some y∧y.code=3:=by
  rintro _ ⟨i,m',h1,rfl,h3⟩ _
  rw [toR_at hf h1,Int.toNat_natCast]
  exact ⟨_,codeP_enter h1 h3,rfl⟩
 have hs:=hto _ (start_reached hc)
 show EachP _ [] (headC _++codeN _ _ _ _)
 refine each_append ⟨good_plain (by simp) (by simp) (by simp) hs,good_plain (by simp) (by simp) (by simp) (fun h=>by simp at h),trivial⟩ ?_
 rw [List.nil_append]
 exact codeN_good (fun k m hm hr s hs'=>hto s (refs_reached hf hm hr hs')) _
theorem code_ent:entQ (codeP d)=reachP d.msgs (startI d):=by
 unfold codeP
 rw [entQ_append,(head_none _ 0).2.2,codeN_ent _ (Nat.le_refl _)]
 rfl
end
def ren (r:Nat→Bool) (x:InsD):InsD:=if x.msg < 0 then x else { x with msg:=(posn r x.msg.toNat:Int) }
theorem posn_succ (r:Nat→Bool) (n:Nat):posn r (n+1)=posn r n+(if r n then 1 else 0):=by
 unfold posn
 rw [sel_succ,List.length_append]
 split<;>rfl
theorem ren_at (r:Nat→Bool) (c:Int) (n:Nat) (f g s t:Int):ren r ⟨c,n,f,g,s,t⟩=⟨c,posn r n,f,g,s,t⟩:=by
 unfold ren
 rw [if_neg (by show ¬ (n:Int) < 0;omega)]
 simp
section
variable {rt rt':ByteArray→Int} {r:Nat→Bool}
theorem casI_ren {n:Nat} {k:Int} {l:List CaseD} (h:∀ c∈l,rt' c.of=rt c.of):∀ j,casI rt' (posn r n) k l j=(casI rt n k l j).map (ren r)
 | 0=>rfl
 | j+1=>by
  unfold casI
  rw [List.map_append,casI_ren h j]
  cases hc:l[j]? with
  | none=>rfl
  | some c =>
   simp only [List.map_cons,List.map_nil,ren_at]
   rw [h c (List.mem_of_getElem? hc)]
theorem fieldC_ren {n:Nat} {k g:Int} {f:FieldD} (h:∀ s∈refsF f,rt' s=rt s):fieldC rt' (posn r n) k g f=(fieldC rt n k g f).map (ren r):=by
 have href:f.kind=7∨f.kind=8∨f.kind=12→rt' f.of=rt f.of:=fun hk=>h _ (by unfold refsF;rw [if_pos hk];exact List.mem_singleton.2 rfl)
 unfold fieldC
 by_cases h9:f.kind=9
 · rw [if_pos h9,if_pos h9,List.map_cons,ren_at,casI_ren fun c hc=>h _ (by unfold refsF;rw [if_neg (by omega),if_pos h9];exact List.mem_map.2 ⟨c,hc,rfl⟩)]
 rw [if_neg h9,if_neg h9]
 by_cases h8:f.kind=8
 · rw [if_pos h8,if_pos h8,List.map_cons,ren_at,href (by omega)];rfl
 rw [if_neg h8,if_neg h8]
 by_cases h7:f.kind=7
 · rw [if_pos h7,if_pos h7,List.map_cons,ren_at,href (by omega)];rfl
 rw [if_neg h7,if_neg h7]
 by_cases h12:f.kind=12
 · rw [if_pos h12,if_pos h12,List.map_cons,ren_at,href (by omega)];rfl
 rw [if_neg h12,if_neg h12,List.map_cons,ren_at]
 rfl
theorem fieldsC_ren {n:Nat} {l:List FieldD} (h:∀ s∈allRefs l,rt' s=rt s):∀ j,fieldsC rt' (posn r n) l j=(fieldsC rt n l j).map (ren r)
 | 0=>rfl
 | j+1=>by
  unfold fieldsC
  rw [List.map_append,fieldsC_ren h j]
  cases hf:l[j]? with
  | none=>rfl
  | some f=>simp only [fieldC_ren fun s hs=>h s (List.mem_flatMap.2 ⟨f,List.mem_of_getElem? hf,hs⟩)]
theorem msgC_ren {n:Nat} {m:MsgD} (h:∀ s∈allRefs m.fields,rt' s=rt s):msgC rt' (posn r n) m=(msgC rt n m).map (ren r):=by
 unfold msgC
 rw [List.cons_append,List.cons_append,List.map_cons,List.map_append,List.map_cons,List.map_nil,ren_at,ren_at,fieldsC_ren h]
theorem codeN_congr {l:List MsgD} {r':Nat→Bool}:∀ n,(∀ i,i < n→i < l.length→r' i=r i)→codeN rt l r' n=codeN rt l r n
 | 0,_=>rfl
 | n+1,h=>by
  unfold codeN
  rw [codeN_congr n fun i h1 h2=>h i (by omega) h2]
  cases hm:l[n]? with
  | none=>rfl
  | some m=>simp only [h n (Nat.lt_succ_self n) (List.getElem?_eq_some_iff.1 hm).1]
theorem codeN_ren {l:List MsgD} (h:∀ (k:Nat) (m:MsgD),l[k]?=some m→r k=true→∀ s∈allRefs m.fields,rt' s=rt s):∀ n,n≤l.length→codeN rt' (pick l (selP l.length r)) (fun _=>true) (posn r n)=(codeN rt l r n).map (ren r)
 | 0,_=>rfl
 | n+1,hn=>by
  obtain ⟨m,hm⟩:=getElem?_lt (show n < l.length by omega)
  have ih:=codeN_ren h n (by omega)
  rw [posn_succ,codeN_succ hm,List.map_append,← ih]
  cases hr:r n with
  | false=>simp
  | true =>
   simp only [if_true]
   rw [codeN_succ (m:=m) (by rw [kept_at (by omega) hr,hm]),if_pos rfl,msgC_ren (h n m hm hr)]
end
section
variable {d:DefD}
theorem prune_msgs (hc:(checkP d).2.2=0):(pruneP d).msgs=pick d.msgs (selP d.msgs.length (reachD d))∧(pruneP d).name=d.name∧(pruneP d).start=d.start:=by
 rw [show pruneP d=_ from if_pos hc]
 exact ⟨rfl,rfl,rfl⟩
theorem prune_len (hc:(checkP d).2.2=0):(pruneP d).msgs.length=posn (reachD d) d.msgs.length:=by
 rw [(prune_msgs hc).1,pick_len (sel_low (Nat.le_refl _))]
 rfl
theorem prune_routs (hc:(checkP d).2.2=0) {n:Nat} (hn:n≤d.msgs.length):routN (pruneP d).msgs (reachD (pruneP d)) (posn (reachD d) n)=routN d.msgs (reachD d) n:=by
 have h2:∀ i,i < (pruneP d).msgs.length→reachD (pruneP d) i=true:=(prune_valid hc).2
 rw [← codeN_len (rt:=fun _=>0),← codeN_len (rt:=fun _=>0),codeN_congr (r:=fun _=>true) _ fun i _ hi=>h2 i hi,(prune_msgs hc).1,codeN_ren (fun _ _ _ _ _ _=>rfl) n hn,List.length_map]
theorem prune_toR (hc:(checkP d).2.2=0) {i:Nat} {m:MsgD} (hi:d.msgs[i]?=some m) (hr:reachD d i=true):toR (pruneP d).msgs (reachD (pruneP d)) m.name=toR d.msgs (reachD d) m.name:=by
 have hf:=(check_fine hc).2.2.1
 have hf':=(check_fine (prune_valid hc).1).2.2.1
 have hlt:=(List.getElem?_eq_some_iff.1 hi).1
 have hk:(pruneP d).msgs[posn (reachD d) i]?=some m:=by rw [(prune_msgs hc).1,kept_at hlt hr,hi]
 rw [toR_at hf hi,toR_at hf' hk,prune_routs hc (by omega)]
theorem prune_code (hc:(checkP d).2.2=0):codeP (pruneP d)=(codeP d).map (ren (reachD d)):=by
 have hf:=(check_fine hc).2.2.1
 have h2:∀ i,i < (pruneP d).msgs.length→reachD (pruneP d) i=true:=(prune_valid hc).2
 obtain ⟨i,m,h3,h4,h5⟩:=start_reached hc
 unfold codeP
 rw [List.map_append,(prune_msgs hc).2.2,← h4,prune_toR hc h3 h5]
 congr 1
 rw [prune_len hc,codeN_congr (r:=fun _=>true) _ fun i _ hi=>h2 i hi]
 generalize hrt:toR (pruneP d).msgs (reachD (pruneP d))=rt'
 rw [(prune_msgs hc).1]
 refine codeN_ren (fun k m hm hr s hs=>?_) _ (Nat.le_refl _)
 obtain ⟨j,m',e1,rfl,e3⟩:=refs_reached hf hm hr hs
 rw [← hrt]
 exact prune_toR hc e1 e3
theorem prune_size (hc:(checkP d).2.2=0):sizeP (pruneP d)=sizeP d:=by rw [← codeP_len,← codeP_len,prune_code hc,List.length_map]
theorem code_msg {x:InsD} (h:x∈codeP d):x.msg = -1∨∃ (i:Nat) (m:MsgD),x.msg=i∧d.msgs[i]?=some m∧reachD d i=true:=by
 unfold codeP at h
 rcases List.mem_append.1 h with h | h
 · simp only [headC,List.mem_cons,List.not_mem_nil,or_false] at h
   rcases h with rfl | rfl<;>exact .inl rfl
 · obtain ⟨i,m,_,hm,hr,hx⟩:=codeN_mem h
   exact .inr ⟨i,m,msgC_msg hx,hm,hr⟩
theorem prune_line (hc:(checkP d).2.2=0) {x:InsD} (h:x∈codeP d) (k:Int):lineB (pruneP d) k (ren (reachD d) x)=lineB d k x:=by
 rcases code_msg h with h1 | ⟨i,m,h1,h2,h3⟩
 · have:ren (reachD d) x=x:=if_pos (by omega)
   rw [this]
   have hneg:¬ 0≤x.msg:=by omega
   unfold lineB words4 words3 words2
   simp only [if_neg hneg]
 · obtain ⟨c,msg,f,g,s,t⟩:=x
   have h1:msg=i:=h1
   subst h1
   have hlt:=(List.getElem?_eq_some_iff.1 h2).1
   have hk:(pruneP d).msgs[posn (reachD d) i]?=some m:=by rw [(prune_msgs hc).1,kept_at hlt h3,h2]
   rw [ren_at]
   have hn:nameX (pruneP d) ⟨c,(posn (reachD d) i:Nat),f,g,s,t⟩=nameX d ⟨c,(i:Int),f,g,s,t⟩:=by
    unfold nameX
    simp only [Int.toNat_natCast,hk,h2]
   unfold lineB words4 words3 words2 words1
   rw [hn,if_pos (show (0:Int)≤(posn (reachD d) i:Nat) by omega),if_pos (show (0:Int)≤(i:Nat) by omega)]
theorem prune_text (hc:(checkP d).2.2=0) (k:Nat):textN (pruneP d) (codeP (pruneP d)) k=textN d (codeP d) k:=by
 have:∀ k,linesN (pruneP d) (codeP (pruneP d)) k=linesN d (codeP d) k:=by
  intro k
  induction k with
  | zero=>rfl
  | succ k ih =>
   unfold linesN
   rw [ih,prune_code hc,List.getElem?_map]
   cases hx:(codeP d)[k]? with
   | none=>rfl
   | some x=>simp only [Option.map_some,prune_line hc (List.mem_of_getElem? hx)]
 unfold textN
 rw [this]
theorem alignM_clean:∀ {l:List MsgD} {k:Nat},(alignM k l).2.2=0↔∀ m∈l,firstW m.fields=none
 | [],k=>by simp [alignM]
 | m::l,k=>by
  unfold alignM
  cases h:firstW m.fields with
  | some i=>simp [h]
  | none=>simp only [List.forall_mem_cons,h,true_and];exact alignM_clean
theorem prune_flawed (h:flawedA d=false):flawedA (pruneP d)=false:=by
 have hc:=aligned_valid h
 have hv:=(prune_valid hc).1
 unfold flawedA at h ⊢
 simp only [decide_eq_false_iff_not,ne_eq,Decidable.not_not] at h ⊢
 rw [alignP_valid hc] at h
 rw [alignP_valid hv]
 rw [alignM_clean] at h ⊢
 intro m hm
 rw [(prune_msgs hc).1] at hm
 obtain ⟨i,_,h2⟩:=List.mem_filterMap.1 hm
 exact h m (List.mem_of_getElem? h2)
theorem prune_sub (hc:(checkP d).2.2=0):∀ m∈(pruneP d).msgs,m∈d.msgs:=fun m hm=>by
 rw [(prune_msgs hc).1] at hm
 obtain ⟨i,_,h2⟩:=List.mem_filterMap.1 hm
 exact List.mem_of_getElem? h2
end
end Go.Proofs.YtfdecdnmooaegaaGreatDoor
namespace Go.Sw
open Go.RowKit (Below)
structure LW3 (B:Nat) (w w':World):Prop where
 os:w'.os=w.os
 tape:w'.tape=w.tape
 output:w'.output=w.output
 size:w.heap.size≤w'.heap.size
 block:∀ b,b < B→b < w.heap.size→w'.heap[b]?=w.heap[b]?
end Go.Sw
namespace Go.Sw
open Go.RowKit (Below)
def KR5 (_B:Nat) (w w':World):Prop:=w.heap.size≤w'.heap.size∧(∀ (b:Nat) (r:Loop),w.heap[b]?=some (.loop r)→∃ st p,w'.heap[b]?=some (.loop { r with state:=st,pending:=p })) ∧
 (∀ (b:Nat),w.heap[b]?=some (.deferred (some []))→w'.heap[b]?=some (.deferred (some [])))
section
variable {B:Nat} {w w1 w2:World}
theorem KR5.of2 (h:KR B w w1):KR5 B w w1:=⟨h.1,h.2.1,h.2.2.1⟩
theorem KR5.trans (h:KR5 B w w1) (k:KR5 B w1 w2):KR5 B w w2:=⟨Nat.le_trans h.1 k.1,fun b r hb=>by
 obtain ⟨st,p,h1⟩:=h.2.1 b r hb
 obtain ⟨st',p',h2⟩:=k.2.1 b _ h1
 exact ⟨st',p',h2⟩,fun b hb=>k.2.2 b (h.2.2 b hb)⟩
theorem KR5.of (e:Ext w w1):KR5 B w w1 := .of2 (.of e)
theorem KR5.setCell (h:KR5 B w w1) (b o:Nat) (v:Value):KR5 B w (w1.setCell ⟨b,o,none⟩ v):=h.trans ⟨by simp,fun b r hb=>⟨r.state,r.pending,(KeepsOthers.setCell w1 _ v).same _ _ hb rfl⟩,fun b hb=>(KeepsOthers.setCell w1 _ v).same _ _ hb rfl⟩
theorem KR5.busied {l:Nat} (h:Busied l w w1):KR5 B w w1 := .of2 (.busied h)
theorem KR5.turn {l:Nat} {r:Loop} (hl:w.heap[l]?=some (.loop r)) (st:LoopState) (p:Option Code):KR5 B w (w.putObj l (.loop { r with state:=st,pending:=p })) := .of2 (.turn hl st p)
theorem KR5.grown {row:Option Nat} (h:KR5 B w w1) (hg:w1.grownBy w2 row) (hr:∀ g,row=some g→∃ cs T f,w1.heap[g]?=some (.cells cs T f)):KR5 B w w2:=h.trans ⟨hg.size,fun b r hb=>⟨r.state,r.pending,(hg.block b (Array.getElem?_eq_some_iff.1 hb).1 (fun e=>by
 obtain ⟨cs,T,f,hc⟩:=hr b e.symm
 rw [hb] at hc;cases hc)).trans hb⟩,fun b hb=>(hg.block b (Array.getElem?_eq_some_iff.1 hb).1 (fun e=>by
 obtain ⟨cs,T,f,hc⟩:=hr b e.symm
 rw [hb] at hc;cases hc)).trans hb⟩
end
def Firm5 (B:Nat) (R:World→Prop):Prop:=∀ w w',KR5 B w w'→R w→R w'
theorem RecAt.firm5 (rec:Loop) (B b:Nat):Firm5 B (RecAt rec b):=fun w w' h ⟨h1,st,p,h2⟩=>by
 obtain ⟨st',p',h3⟩:=h.2.1 _ _ h2
 exact ⟨h.2.2 _ h1,st',p',h3⟩
theorem Firm5.and {B:Nat} {R S:World→Prop} (h:Firm5 B R) (k:Firm5 B S):Firm5 B (fun w=>R w∧S w):=fun w w' e hh=>⟨h _ _ e hh.1,k _ _ e hh.2⟩
def SeqIt5 (P:Program) (f:FuncId) (caps:Array Value) (n:Nat) (xs ys:Nat→Value) (FP:World→Prop):Prop :=
 ∀ (yv:Value) (J:Nat→World→Prop) (Jx:World→Prop) (Jp:List PanicEntry→World→Prop) (w:World),yv.oneCell'=true→(∀ k w,J k w→FP w)→(∀ k,Lasts2 w.heap.size (J k))→Lasts2 w.heap.size Jx→(∀ ch,Lasts2 w.heap.size (Jp ch)) →
  (∀ k,k < n→∀ Rk,Firm5 w.heap.size Rk→∀ w,J k w→Rk w→callV P yv #[xs k,ys k] (fun ch w'=>Rk w'∧Jp ch w') w (fun v w'=>Rk w'∧((v = .bool true∧J (k+1) w')∨(v = .bool false∧Jx w'))))→J 0 w →
  Calls P f (#[yv]++caps) w (fun e w'=>match e with
   | .returned _=>J n w'∨Jx w'
   | .panicked ch=>Jp ch w'
   | .outgrown=>False)
def rangeN5 (P:Program) (fv:Value) (ds:List Deferred) (body:Nat→Value→Value→World→(World→Prop)→(Nat→World→Prop)→(List PanicEntry→World→Prop)→Prop) (QP:List PanicEntry→List Deferred→World→Prop) (w:World)
 (k:List Deferred→World→Prop) (kx:List (List Deferred→World→Prop)):Prop :=
 ∃ (f:FuncId) (caps:Array Value) (n:Nat) (xs ys:Nat→Value) (FP:World→Prop) (I:Nat→World→Prop) (Ix:Nat→World→Prop) (Ip:List PanicEntry→World→Prop),
  fv = .func (.func f) #[] caps∧Callable P f∧SeqIt5 P f caps n xs ys FP∧I 0 w∧(∀ k w,I k w→FP w)∧(∀ k,Lasts2 w.heap.size (I k))∧(∀ c,Lasts2 w.heap.size (Ix c))∧(∀ ch,Lasts2 w.heap.size (Ip ch)) ∧
  (∀ (Rk:World→Prop),Firm5 (w.heap.size+1+1) Rk→∀ (j:Nat) (w':World),j < n→I j w'→Rk w'→w.heap.size+1 < w'.heap.size→ReadyAt (w.heap.size+1) w' →
   body (w.heap.size+1) (xs j) (ys j) w' (fun w''=>Rk w''∧I (j+1) w'') (fun c w''=>Rk w''∧Ix c w'') (fun ch w''=>Rk w''∧Ip ch w'')) ∧
  (∀ w',I n w'→MarkAt w.heap.size w'→k (mark w.heap.size::ds) w') ∧
  (∀ c w',Ix c w'→MarkAt w.heap.size w'→nthK kx c (mark w.heap.size::ds) w') ∧
  (∀ ch w',Ip ch w'→MarkAt w.heap.size w'→QP ch (mark w.heap.size::ds) w')
section
variable {P:Program} {N:Nat}
theorem sim_range5 {g:Operand} {p p2:Nat} {asg body:Code} {Q:K} {QP:KP} {ρ:Env} {ds:List Deferred} {w:World} {fv:Value} {nbody:Nat→Value→Value→World→(World→Prop)→(Nat→World→Prop)→(List PanicEntry→World→Prop)→Prop} {QPn:List PanicEntry→List Deferred→World→Prop}
 {k:List Deferred→World→Prop} {kx:List (List Deferred→World→Prop)} (js:List Code) (h:rangeN5 P fv ds nbody QPn w k kx) (hg:ev ρ g=fv)
 (hbody:∀ l x y w K X QPr,nbody l x y w K X QPr→den P N (some l) asg (thenK (fun ρ' ds' w'=>ds'=[]∧busyK l w' (fun w''=>den P N (some l) body (roundK js K X) (roundQP QPr) ρ' [] w'')) (fun _ _ _ _=>False)) (fun _ _ _ _=>False) (put N (put N ρ (some p) x) (some p2) y) [] w)
 (hk:∀ ds w,k ds w→Q .normal ρ ds w) (hx:∀ c ds w,nthK kx c ds w→∃ code,js[c]?=some code∧((code = .ret∧Q .ret ρ ds w)∨(∃ id,code = .exit id∧Q (.exit id) ρ ds w))) (hp:∀ ch ds w,QPn ch ds w→QP ch ρ ds w) :
 den P N none (.rangeFunc g #[p,p2] asg body) Q QP ρ ds w:=by
 intro a ha hds
 subst hds
 obtain ⟨f,caps,n,xs,ys,FP,I,Ix,Ip,hfv,hcal,hseq,h0,hFP,hL,hLx,hLp,hround,hend,hjump,hpan⟩:=h
 refine wpV_rangeFunc fun fn hfn=>?_
 obtain ⟨rec,hrec⟩:∃ rec:Loop,rec={ state := .ready,pending:=none,fn,tmps:=a.tmps,params := #[p,p2],assign:=asg,body,defers:=w.heap.size }:=⟨_,rfl⟩
 obtain ⟨W1,hW1⟩:∃ W1,(w.alloc (.deferred (some []))).alloc (.loop rec)=W1:=⟨_,rfl⟩
 have hE1:Ext w W1:=by rw [← hW1];exact ((Ext.refl w).alloc _).alloc _
 have hW1s:W1.heap.size=w.heap.size+1+1:=by rw [← hW1];simp
 have hL1:W1.heap[w.heap.size+1]?=some (.loop rec):=by
  rw [← hW1];have:=World.alloc_heap_new (w.alloc (.deferred (some []))) (.loop rec);rwa [World.size_alloc] at this
 have hK1:MarkAt w.heap.size W1:=by
  rw [← hW1];exact MarkAt.alloc (World.alloc_heap_new w _) _
 have hev:a.eval g=fv:=by rw [ha.eval];exact hg
 refine ⟨w.heap.size+1,[mark w.heap.size],W1,{ target := .fn (.func f) caps,args := #[.func (.yield (w.heap.size+1)) #[] #[]] },W1,f,#[.func (.yield (w.heap.size+1)) #[] #[]]++caps,W1,?_,?_,?_,?_⟩
 · rw [← hW1,hrec];exact run_enterLoop_outer _ _ _ _ _
 · simp only [resolve,hev,hfv]
   simp [go_sem]
 · simp only [invoke]
   exact callFunc_run hcal _ _
 · refine Calls.mono (hseq (.func (.yield (w.heap.size+1)) #[] #[]) (fun j w'=>I j w'∧MarkAt w.heap.size w'∧∃ p,w'.heap[w.heap.size+1]?=some (.loop { rec with state := .ready,pending:=p })∧p=none)
    (fun w'=>MarkAt w.heap.size w'∧∃ c code,Ix c w'∧js[c]?=some code∧w'.heap[w.heap.size+1]?=some (.loop { rec with state := .done,pending:=some code }))
    (fun ch w'=>MarkAt w.heap.size w'∧Ip ch w') W1 rfl (fun j w' hj=>hFP j w' hj.1) (fun j=>((hL j).mono (by omega)).and ((Lasts2.low (by omega) _).and (.ex fun q=>(Lasts2.low (by omega) _).and (.const _ _))))
    ((Lasts2.low (by omega) _).and (.ex fun c => .ex fun code=>((hLx c).mono (by omega)).and ((Lasts2.const _ _).and (Lasts2.low (by omega) _)))) (fun ch=>(Lasts2.low (by omega) _).and ((hLp ch).mono (by omega))) ?_ ⟨(hL 0).ext h0 hE1,hK1,none,by rw [hL1,hrec],rfl⟩) ?_
   · rintro j hj Rk hF w' ⟨hi,hm,q,hl,rfl⟩ hR
     have hlt:w.heap.size+1 < w'.heap.size:=(Array.getElem?_eq_some_iff.1 hl).1
     have hy:=run_yield (P:=P) (args := #[xs j,ys j]) hl (by rw [hrec];rfl)
     show onNext P _ _ _ _
     have hcs:callS (.func (.yield (w.heap.size+1)) #[] #[]) #[xs j,ys j]=Instr.yield (w.heap.size+1) #[xs j,ys j]:=by
      simp [callS,Deferred.ofValue,invoke,go_sem,bind,pure,Sem.bind]
     rw [hcs,hy]
     have key:∀ R,wpV (some (w.heap.size+1)) P asg (Exit.then (fun a₁ w₁=>∃ w₂,(Instr.beginRound (w.heap.size+1)).run P w₁ = .ok () w₂∧wpV (some (w.heap.size+1)) P body (endV P (w.heap.size+1) R) a₁ w₂) (fun _ _ _=>False)) { tmps:=((#[p,p2].zip #[xs j,ys j]).foldl (fun tmps (t,a)=>tmps.setIfInBounds t a) a.tmps),defers:=[] } w' →
      RoundV P (w.heap.size+1) rec.fn ((rec.params.zip #[xs j,ys j]).foldl (fun tmps (t,a)=>tmps.setIfInBounds t a) rec.tmps) rec.assign rec.body w' R:=by
      intro R h;rw [hrec];exact roundV_of_wpV hfn h
     refine key _ ?_
     have hb:=hbody _ _ _ _ _ _ _ (hround _ ((RecAt.firm5 rec _ w.heap.size).and (hW1s ▸ hF)) j w' hj hi ⟨⟨hm,_,_,hl⟩,hR⟩ hlt ⟨_,hl,rfl⟩)
     have hagr:Agrees N ({ tmps:=((#[p,p2].zip #[xs j,ys j]).foldl (fun tmps (t,a)=>tmps.setIfInBounds t a) a.tmps),defers:=[] }:Act) (put N (put N ρ (some p) (xs j)) (some p2) (ys j)):=by
      have:=((Agrees.defers ha []).put (some p) (xs j)).put (some p2) (ys j)
      simpa [Act.put] using this
     refine wpV_mono (den_sound asg _ _ _ _ _ hagr hb) ?_
     intro e a1 w1 hl1
     cases e with
     | panic ch=>obtain ⟨_,_,hf⟩:=hl1;exact hf.elim
     | outgrown=>exact hl1
     | exit id=>obtain ⟨_,_,_,hf⟩:=hl1;exact hf.elim
     | goto l=>obtain ⟨_,_,_,hf⟩:=hl1;exact hf.elim
     | ret=>obtain ⟨_,_,_,hf⟩:=hl1;exact hf.elim
     | normal =>
      obtain ⟨ρ1,ha1,_,hd1,hbz⟩:=hl1
      obtain ⟨⟨r,hr1,hr2⟩,hbz⟩:=hbz
      refine ⟨_,run_beginRound hr1 hr2,?_⟩
      rw [show a1={ a1 with defers:=[] } by rw [← hd1]]
      refine wpV_mono (den_sound body _ _ _ _ _ (Agrees.defers ha1 []) (hbz _ ⟨_,hr1,rfl⟩)) ?_
      have fin:∀ (jump:Option Code) (w2:World),RecAt rec w.heap.size w2→(Instr.endRound (w.heap.size+1) jump).run P w2 = .ok (.bool jump.isNone) (w2.putObj (w.heap.size+1) (.loop { rec with state:=if jump.isNone then .ready else .done,pending:=jump })) ∧
       (w2.putObj (w.heap.size+1) (.loop { rec with state:=if jump.isNone then .ready else .done,pending:=jump })).heap[w.heap.size+1]?=some (.loop { rec with state:=if jump.isNone then .ready else .done,pending:=jump }) ∧
       MarkAt w.heap.size (w2.putObj (w.heap.size+1) (.loop { rec with state:=if jump.isNone then .ready else .done,pending:=jump })):=by
       rintro jump w2 ⟨hm2,st,q,hq⟩
       refine ⟨by have:=run_endRound (P:=P) jump hq;exact this,World.putObj_heap_same (Array.getElem?_eq_some_iff.1 hq).1,?_⟩
       unfold MarkAt
       rw [World.putObj_heap_other (by omega)];exact hm2
      intro e a2 w2 hl2
      cases e with
      | normal =>
       obtain ⟨_,_,_,_,⟨hrec2,hR2⟩,hi2⟩:=hl2
       obtain ⟨f1,f2,f3⟩:=fin none w2 hrec2
       obtain ⟨_,st,q,hq⟩:=hrec2
       exact ⟨_,_,f1,hF _ _ (KR5.turn hq _ _) hR2,.inl ⟨rfl,(hL _).loop (Nat.le_succ _) hi2 hq _,f3,none,f2,rfl⟩⟩
      | ret =>
       obtain ⟨_,_,_,_,c,hc,⟨hrec2,hR2⟩,hi2⟩:=hl2
       obtain ⟨f1,f2,f3⟩:=fin (some .ret) w2 hrec2
       obtain ⟨_,st,q,hq⟩:=hrec2
       exact ⟨_,_,f1,hF _ _ (KR5.turn hq _ _) hR2,.inr ⟨rfl,f3,c,_,(hLx _).loop (Nat.le_succ _) hi2 hq _,hc,f2⟩⟩
      | exit id =>
       obtain ⟨_,_,_,_,c,hc,⟨hrec2,hR2⟩,hi2⟩:=hl2
       obtain ⟨f1,f2,f3⟩:=fin (some (.exit id)) w2 hrec2
       obtain ⟨_,st,q,hq⟩:=hrec2
       exact ⟨_,_,f1,hF _ _ (KR5.turn hq _ _) hR2,.inr ⟨rfl,f3,c,_,(hLx _).loop (Nat.le_succ _) hi2 hq _,hc,f2⟩⟩
      | panic ch =>
       obtain ⟨_,_,hd2,⟨hrec2,hR2⟩,hi2⟩:=hl2
       exact ⟨hd2,hR2,hrec2.1,hi2⟩
      | goto l=>obtain ⟨_,_,_,hf⟩:=hl2;exact hf.elim
      | outgrown=>exact hl2
   · have hagr:Agrees N ({ a with defers:=[mark w.heap.size]++a.defers }:Act) ρ:=ha
     have exh:∀ (st:LoopState) (q:Option Code) (w':World),w'.heap[w.heap.size+1]?=some (.loop { rec with state:=st,pending:=q })→st ≠ .busy→MarkAt w.heap.size w' →
      (Instr.endLoop (w.heap.size+1)).run P w' = .ok q (w'.putObj (w.heap.size+1) (.loop { rec with state := .exhausted,pending:=q }))∧MarkAt w.heap.size (w'.putObj (w.heap.size+1) (.loop { rec with state := .exhausted,pending:=q })):=by
      intro st q w' hq hne hm
      refine ⟨by have:=run_endLoop (P:=P) hq hne;exact this,?_⟩
      unfold MarkAt
      rw [World.putObj_heap_other (by omega)];exact hm
     rintro e w' he
     cases e with
     | returned v =>
      rcases he with ⟨hi,hm,q,hl,rfl⟩ | ⟨hm,c,code,hi,hc,hl⟩
      · obtain ⟨e1,e2⟩:=exh _ _ w' hl (by simp) hm
        exact ⟨none,_,e1,hagr,hk _ _ (hend _ ((hL _).loop (Nat.le_succ _) hi hl _) e2)⟩
      · obtain ⟨e1,e2⟩:=exh _ _ w' hl (by simp) hm
        refine ⟨some code,_,e1,?_⟩
        obtain ⟨code',hc',hden⟩:=hx c _ _ (hjump c _ ((hLx _).loop (Nat.le_succ _) hi hl _) e2)
        rw [hc] at hc';cases hc'
        rcases hden with ⟨rfl,hq⟩ | ⟨id,rfl,hq⟩
        · exact wpV_ret ⟨hagr,hq⟩
        · exact wpV_exit ⟨hagr,hq⟩
     | panicked ch=>exact ⟨hagr,hp _ _ _ (hpan ch _ he.2 he.1)⟩
     | outgrown=>exact he.elim
end
end Go.Sw
namespace Go.Proofs.YtfdecdnmooaegaaGreatDoor
open Sw
open Go.RowKit (intOf Below)
abbrev EIns:World→List Value→InsD→Prop:=fun _ cs x=>cs=insCells x
def InsAt (e:Nat) (v:Value) (l:List InsD) (w:World):Prop:=w.heap[e]?=some (.cells #[v] 32 (0,0))∧SliceOf w 6 EIns v l
section
variable {w:World} {lo pb:Nat} {d:DefD}
theorem clone_ret (w0:World) (l:List InsD) (g cap n:Nat) (hn:n=l.length) (hE:∀ k x,l[k]?=some x→ElemAt w0 g (k*6) (insCells x)) (hl:l.length≤100000):Ret Pg 37 #[.slice (some ⟨g,0,none⟩) n cap] w0 fun r w'=>OwnE w' w0.heap.size TI 6 insCells r l∧Ext w0 w':=by
 subst hn
 refine n39s (R:=retR _) ?_;unfold n39
 simp (disch:=try exact DI) only [↓PR,QR,simprocAttr]
 have hO:=OwnE.new w0 TI 6 insCells [] (fun _=>rfl) (by simp)
 have eW:Ext w0 (w0.alloc (.cells ([]:List Value).toArray TI)):=ee
 simp only [List.flatMap_nil,List.length_nil] at hO
 generalize (w0.alloc (.cells ([]:List Value).toArray TI))=W at hO eW ⊢
 refine op_appendE (l':=l) (o:=0) Tryz.underlying32 ty36 rfl (by decide) (fun x=>rfl) (fun x hx u hu=>?_) hO (fun j x hx=>?_) eW.size (Nat.le_trans (Nat.mul_le_mul (show ([]:List InsD).length+l.length≤100001 by simp;omega) by36) (by decide)) (by simp;omega) ?_
 · simp only [insCells,List.mem_cons,List.not_mem_nil,or_false] at hu
   rcases hu with rfl | rfl | rfl | rfl | rfl | rfl<;>rfl
 · rw [Nat.zero_add]
   intro j' u hu
   exact eW.cell (hE j x hx j' u hu)
 · intro v' w' hO' hg
   simp (disch:=try exact DI) only [↓PR,QR,simprocAttr]
   exact ⟨hO',eW.grown hg fun b hb=>(hO.lt b hb).1⟩
theorem Each_ret (h:ProgAt w lo pb d) (hz:sizeP d≤100000):Ret Pg 16 #[.pointer (some ⟨pb,0,none⟩)] w fun r w'=>(∃ e v,r = .func (.func 38) #[] #[.pointer (some ⟨e,0,none⟩)]∧w.heap.size≤e∧w'.heap[e]?=some (.cells #[v] 32 (0,0))∧OwnE w' w.heap.size TI 6 insCells v (codeP d))∧Ext w w':=by
 refine n28s (R:=retR _) ?_;unfold n28
 simp (disch:=try exact DI) only [↓PR,QR,simprocAttr]
 generalize hV:World.alloc w _=W
 have eW:Ext w W:=by rw [← hV];exact ee
 have oW:W.heap[w.heap.size]?=some (.cells #[.slice none 0 0] 32 (0,0)):=by rw [← hV];exact heap_new _ _ _
 clear hV
 refine zcr (none_ret (h.ext eW)) fun w1 e1=>?_
 obtain ⟨mc,rm,gm,g,cap,h1,hO,hE,hcap⟩:=(h.ext (eW.trans e1)).code
 simp (disch:=try exact DI) only [↓PR,QR,simprocAttr,↓n28c2,↓n28c1,(cells_of_heap h1).1]
 refine callK_ret (clone_ret w1 (codeP d) g cap _ (codeP_len d).symm hE (by rw [codeP_len];exact hz)) ?_
 rintro v w2 ⟨hO2,e2⟩
 have E2:=eW.trans (e1.trans e2)
 have q2:=(e1.trans e2).obj oW
 have hS2:=hO2.slice (E:=EIns) (fun _=>rfl) (fun _ _=>rfl)
 have hv1:=SliceOf.oneCell hS2
 have l1:=(Array.getElem?_eq_some_iff.1 (e1.obj oW)).1
 have ho:=Only.setCell w2 w.heap.size 0 v
 generalize hp:w.heap.size=p at *
 simp (disch:=try exact DI) only [↓PR,QR,simprocAttr,(cells_of_heap q2).1,(cells_of_heap q2).2]
 refine ⟨⟨p,v,rfl,by omega,by simpa using heap_set (o:=0) q2 v,((hO2.range.only ho (.inr (.inl l1))).1).base (by have:=e1.size;have:=eW.size;omega)⟩,E2.setCell (p:=⟨p,0,none⟩) (by show w.heap.size≤p;omega) _⟩
theorem ins_at {e B:Nat} {v:Value} {l:List InsD} {w:World} (h:w.heap[e]?=some (.cells #[v] 32 (0,0))∧OwnE w B TI 6 insCells v l):InsAt e v l w:=⟨h.1,h.2.slice (fun _=>rfl) (fun _ _=>rfl)⟩
theorem Each_seq (e:Nat) (v:Value) (l:List InsD) (hl:l.length≤100000) :
 SeqIt5 Pg 38 #[.pointer (some ⟨e,0,none⟩)] l.length (fun k => .int .i64 k) (fun k=>insVal ((l[k]?).getD zeroI)) (InsAt e v l):=by
 intro yv J Jx Jp w hy hFP hJl hJx hJp hstep h0
 obtain ⟨ho,hF⟩:=hFP 0 w h0
 obtain ⟨A,c,rfl,hlc,hcm,hlm,_⟩:=SliceOf.open hF
 refine n29s (t0:=yv) (t1 := .pointer (some ⟨e,0,none⟩)) ?_
 unfold n29
 simp (disch:=try exact DI) only [↓PR,QR,simprocAttr,(cells_of_heap ho).1]
 refine loop1_intro (fun i w'=>∃ k:Nat,i = .int .i64 k∧k≤l.length∧J k w'∧w.heap.size≤w'.heap.size) (fun i _=>l.length - (intOf i).toNat) ⟨0,rfl,by omega,h0,Nat.le_refl _⟩ ?_
 rintro _ w' ⟨k,rfl,hk,hJ,hsz⟩
 obtain ⟨ho',hF'⟩:=hFP k w' hJ
 rcases drop_cases hk with ⟨x,hx,hd,hlt,hdec⟩ | ⟨hk,hd,hdec⟩
 · obtain ⟨A',c',hv,_,_,_,hel⟩:=SliceOf.open hF'
   injection hv with hv1 _ hv2
   subst hv1 hv2
   obtain ⟨b,o,cs,rfl,hl',hA,rfl⟩:=hel k x hx
   have hwr:IntKind.i64.wrap ((k:Int)+1)=(k:Int)+1:=wrap_ok (by omega) (by omega)
   simp (disch:=try exact DI) only [↓PR,QR,simprocAttr,hdec]
   unfold n29c1
   simp (disch:=try exact DI) only [↓PR,QR,simprocAttr,hA.c6 (Ext.refl _)]
   generalize hV:World.alloc w' _=W
   have eW:Ext w' W:=by rw [← hV];exact ee
   clear hV
   have hs:=hstep k (by omega) (fun u=>w.heap.size≤u.heap.size) (fun u u' h hh=>Nat.le_trans hh h.1) W ((hJl k).ext hJ eW) (Nat.le_trans hsz eW.size)
   simp only [hx,Option.getD_some] at hs
   refine callV_mono hs (fun ch w h=>h.2) ?_
   rintro v w2 ⟨hs2,⟨rfl,h2⟩ | ⟨rfl,h2⟩⟩
   · simp (disch:=try exact DI) only [↓PR,QR,simprocAttr,hwr]
     exact ⟨⟨k+1,rfl,by omega,h2,hs2⟩,meas_lt (kd := .i64) hlt⟩
   · simp (disch:=try exact DI) only [↓PR,QR,simprocAttr]
     exact .inr h2
 · subst hk
   simp (disch:=try exact DI) only [↓PR,QR,simprocAttr,hdec]
   exact .inl hJ
end
def n25c1 (t4 t5:Value) (K7:KV) (R:RT) (w:World):Prop :=
 opV Pg (Instr.fieldAt 53 t4 1) (panK R) w fun t70 w =>
 opV Pg (Instr.loadAt 51 t70) (panK R) w fun t71 w =>
 opV Pg (Instr.indexAt 51 t71 t5) (panK R) w fun t73 w =>
 opV Pg (Instr.fieldAt 71 t73 7) (panK R) w fun t74 w =>
 opV Pg (Instr.fieldAt 68 t74 1) (panK R) w fun t75 w =>
 opV Pg (Instr.loadAt 66 t75) (panK R) w fun t76 w =>
 opV Pg (Builtin.len_ #[66] 3 #[t76]) (panK R) w fun t77 w =>
 opV Pg (binS .gtr 3 true t77 (.int .i64 6)) (panK R) w fun t78 w =>
 K7 t78 w
def n25c2 (t4 t5 t58 t67:Value) (next5:KV) (R:RT) (w:World):Prop :=
 pickK t58 (.bool true) t67 fun t68 =>
 joinK (fun (t78:Value) (w:World) =>
 pickK t68 (.bool true) t78 fun t79 =>
 condP t79 (
 R (.returned (.bool false)) w) (
 opV Pg (binS .add 3 true t5 (.int .i64 1)) (panK R) w fun t50 w =>
 next5 t50 w)) fun K7 =>
 guardP t68 false (
 n25c1 t4 t5 K7 R w) (
 K7 undef w)
def n25c3 (t4 t5:Value) (K6:KV) (R:RT) (w:World):Prop :=
 opV Pg (Instr.fieldAt 53 t4 1) (panK R) w fun t60 w =>
 opV Pg (Instr.loadAt 51 t60) (panK R) w fun t61 w =>
 opV Pg (Instr.indexAt 51 t61 t5) (panK R) w fun t63 w =>
 opV Pg (Instr.fieldAt 71 t63 11) (panK R) w fun t64 w =>
 opV Pg (Instr.loadAt 69 t64) (panK R) w fun t65 w =>
 opV Pg (Builtin.len_ #[69] 3 #[t65]) (panK R) w fun t66 w =>
 opV Pg (binS .gtr 3 true t66 (.int .i64 20)) (panK R) w fun t67 w =>
 K6 t67 w
def n25c4 (t4 t5:Value) (next5:KV) (R:RT) (w:World):Prop :=
 opV Pg (Instr.fieldAt 53 t4 1) (panK R) w fun t51 w =>
 opV Pg (Instr.loadAt 51 t51) (panK R) w fun t52 w =>
 opV Pg (Instr.indexAt 51 t52 t5) (panK R) w fun t54 w =>
 opV Pg (Instr.fieldAt 71 t54 0) (panK R) w fun t55 w =>
 opV Pg (Instr.loadAt 9 t55) (panK R) w fun t56 w =>
 opV Pg (Builtin.len_ #[9] 3 #[t56]) (panK R) w fun t57 w =>
 opV Pg (binS .gtr 3 true t57 (.int .i64 100)) (panK R) w fun t58 w =>
 joinK (fun (t67:Value) (w:World) =>
 n25c2 t4 t5 t58 t67 next5 R w) fun K6 =>
 guardP t58 false (
 n25c3 t4 t5 K6 R w) (
 K6 undef w)
def n25c5 (t3 t4 t5:Value) (next3:KV) (next5:KV) (R:RT) (w:World):Prop :=
 opV Pg (Instr.fieldAt 53 t4 1) (panK R) w fun t45 w =>
 opV Pg (Instr.loadAt 51 t45) (panK R) w fun t46 w =>
 opV Pg (Builtin.len_ #[51] 3 #[t46]) (panK R) w fun t47 w =>
 opV Pg (binS .lss 3 false t5 t47) (panK R) w fun t48 w =>
 condP t48 (
 n25c4 t4 t5 next5 R w) (
 opV Pg (binS .add 3 true t3 (.int .i64 1)) (panK R) w fun t28 w =>
 next3 t28 w)
def n25c6 (t1 t3:Value) (next3:KV) (R:RT) (w:World):Prop :=
 opV Pg (Instr.fieldAt 24 t1 1) (panK R) w fun t29 w =>
 opV Pg (Instr.loadAt 22 t29) (panK R) w fun t30 w =>
 opV Pg (Instr.indexAt 22 t30 t3) (panK R) w fun t32 w =>
 opV Pg (Instr.loadAt 53 t32) (panK R) w fun t33 w =>
 opV Pg (Instr.alloc 53 true (.tuple #[])) (panK R) w fun t4 w =>
 opU Pg (Instr.storeAt 53 t4 t33) (panK R) w fun w =>
 opV Pg (Instr.fieldAt 53 t4 1) (panK R) w fun t34 w =>
 opV Pg (Instr.loadAt 51 t34) (panK R) w fun t35 w =>
 opV Pg (Builtin.len_ #[51] 3 #[t35]) (panK R) w fun t36 w =>
 opV Pg (binS .gtr 3 true t36 (.int .i64 20)) (panK R) w fun t37 w =>
 joinK (fun (t42:Value) (w:World) =>
 pickK t37 (.bool true) t42 fun t43 =>
 condP t43 (
 R (.returned (.bool false)) w) (
 loop1 (fun t5 w next5 =>
 n25c5 t3 t4 t5 next3 next5 R w) (.int .i64 0) w)) fun K4 =>
 guardP t37 false (
 opV Pg (Instr.fieldAt 53 t4 0) (panK R) w fun t39 w =>
 opV Pg (Instr.loadAt 9 t39) (panK R) w fun t40 w =>
 opV Pg (Builtin.len_ #[9] 3 #[t40]) (panK R) w fun t41 w =>
 opV Pg (binS .gtr 3 true t41 (.int .i64 100)) (panK R) w fun t42 w =>
 K4 t42 w) (
 K4 undef w)
def n25c7 (t1 t3:Value) (next3:KV) (R:RT) (w:World):Prop :=
 opV Pg (Instr.fieldAt 24 t1 1) (panK R) w fun t23 w =>
 opV Pg (Instr.loadAt 22 t23) (panK R) w fun t24 w =>
 opV Pg (Builtin.len_ #[22] 3 #[t24]) (panK R) w fun t25 w =>
 opV Pg (binS .lss 3 false t3 t25) (panK R) w fun t26 w =>
 condP t26 (
 n25c6 t1 t3 next3 R w) (
 R (.returned (.bool true)) w)
def n25c8 (t1 t9 t14:Value) (R:RT) (w:World):Prop :=
 pickK t9 (.bool true) t14 fun t15 =>
 joinK (fun (t20:Value) (w:World) =>
 pickK t15 (.bool true) t20 fun t21 =>
 condP t21 (
 R (.returned (.bool false)) w) (
 loop1 (fun t3 w next3 =>
 n25c7 t1 t3 next3 R w) (.int .i64 0) w)) fun K2 =>
 guardP t15 false (
 opV Pg (Instr.fieldAt 24 t1 2) (panK R) w fun t17 w =>
 opV Pg (Instr.loadAt 9 t17) (panK R) w fun t18 w =>
 opV Pg (Builtin.len_ #[9] 3 #[t18]) (panK R) w fun t19 w =>
 opV Pg (binS .gtr 3 true t19 (.int .i64 100)) (panK R) w fun t20 w =>
 K2 t20 w) (
 K2 undef w)
def n25 (t0:Value) (R:RT) (w:World):Prop :=
 opV Pg (Instr.box 24 t0) (panK R) w fun t1 w =>
 opV Pg (Instr.fieldAt 24 t1 1) (panK R) w fun t6 w =>
 opV Pg (Instr.loadAt 22 t6) (panK R) w fun t7 w =>
 opV Pg (Builtin.len_ #[22] 3 #[t7]) (panK R) w fun t8 w =>
 opV Pg (binS .gtr 3 true t8 (.int .i64 12)) (panK R) w fun t9 w =>
 joinK (fun (t14:Value) (w:World) =>
 n25c8 t1 t9 t14 R w) fun K1 =>
 guardP t9 false (
 opV Pg (Instr.fieldAt 24 t1 0) (panK R) w fun t11 w =>
 opV Pg (Instr.loadAt 9 t11) (panK R) w fun t12 w =>
 opV Pg (Builtin.len_ #[9] 3 #[t12]) (panK R) w fun t13 w =>
 opV Pg (binS .gtr 3 true t13 (.int .i64 100)) (panK R) w fun t14 w =>
 K1 t14 w) (
 K1 undef w)
set_option maxHeartbeats 40000000 in
theorem n25s {t0:Value} {R:RT} {w:World} (h:n25 t0 R w):Calls Pg 8 #[t0] w R:=by
 refine yD Tryz.func8 ?_
 refine zs<|zr<|yv h fun _ w h=>zm<|zn<|zk<|zs<|zs<|sim_regionG<|yG 5<|yv h fun _ w h=>yv h fun _ w h=>yx h fun _ w h=>yb h fun _ w h=>zm ?_
 refine zn<|yg1 4 4 false [11,12,13,14] 14 h (fun _ T hT h=>?_) fun σ w h=>?_
 · refine yv h fun _ w h=>yv h fun _ w h=>yx h fun _ w h=>yb h fun _ w h=>zn ?_
   exact zt hT h
 refine yG 2<|yp h fun _ h=>zm<|zn<|yg1 4 10 false [17,18,19,20] 20 h (fun _ T hT h=>?_) fun σ w h=>?_
 · refine yv h fun _ w h=>yv h fun _ w h=>yx h fun _ w h=>yb h fun _ w h=>zn ?_
   exact zt hT h
 refine yG 1<|yp h fun _ h=>zn<|sim_end<|zk<|yC h (fun h=>zs<|zr<|zm<|zn<|zk<|sim_ret<|sim_then_ret<|body_ret1 rfl rfl h) fun h=>sim_skip<|zk<|zs<|zs<|zr<|zm<|zn<|zk ?_
 refine sim_block<|yl1 [2,3,4,5,22,23,24,25,26,27,28,29,30,31,32,33,34,35,36,37,38,39,40,41,42,43,44,45,46,47,48,49,50,51,52,53,54,55,56,57,58,59,60,61,62,63,64,65,66,67,68,69,70,71,72,73,74,75,76,77,78,79] 3 h fun σ w next h=>zs<|zs<|zr<|zm<|yv h fun _ w h=>yv h fun _ w h=>yx h fun _ w h=>yb h fun _ w h=>zn<|zk<|yC h (fun h=>?_) fun h=>?_
 · refine sim_skip<|zk<|zs<|sim_block<|zs<|zr<|yv h fun _ w h=>yv h fun _ w h=>zm<|yv h fun _ w h=>yv h fun _ w h=>yv h fun _ w h=>yu h fun w h=>zn<|zk ?_
   refine zs<|zs<|sim_regionG<|yG 5<|yv h fun _ w h=>yv h fun _ w h=>yx h fun _ w h=>yb h fun _ w h=>zm<|zn<|yg1 4 4 false [39,40,41,42] 42 h (fun _ T hT h=>?_) fun σ w h=>?_
   · refine yv h fun _ w h=>yv h fun _ w h=>yx h fun _ w h=>yb h fun _ w h=>zn ?_
     exact zt hT h
   refine yG 1<|yp h fun _ h=>zn<|sim_end<|zk<|yC h (fun h=>zs<|zr<|zm<|zn<|zk<|sim_ret<|sim_then_ret<|sim_block_ret<|sim_then_ret<|sim_then_ret<|sim_block_ret<|sim_then_ret<|body_ret1 rfl rfl h) fun h=>sim_skip<|zk<|zs<|zr<|zm<|zn<|zk<|sim_block ?_
   refine yl1 [2,5,44,45,46,47,48,49,50,51,52,53,54,55,56,57,58,59,60,61,62,63,64,65,66,67,68,69,70,71,72,73,74,75,76,77,78,79] 5 h fun σ w next h=>zs<|zs<|zr<|zm<|yv h fun _ w h=>yv h fun _ w h=>yx h fun _ w h=>yb h fun _ w h=>zn<|zk<|yC h (fun h=>?_) fun h=>?_
   · refine sim_skip<|zk<|zs<|sim_block<|zs<|sim_regionG<|yG 9<|yv h fun _ w h=>yv h fun _ w h=>zm<|yv h fun _ w h=>yv h fun _ w h=>yv h fun _ w h=>yx h fun _ w h=>yb h fun _ w h=>?_
     refine zm<|zn<|yg1 8 8 false [60,61,62,63,64,65,66,67] 67 h (fun _ T hT h=>?_) fun σ w h=>?_
     · refine yv h fun _ w h=>yv h fun _ w h=>zm<|yv h fun _ w h=>yv h fun _ w h=>yv h fun _ w h=>yx h fun _ w h=>yb h fun _ w h=>zn ?_
       exact zt hT h
     refine yG 2<|yp h fun _ h=>zm<|zn<|yg1 9 18 false [70,71,72,73,74,75,76,77,78] 78 h (fun _ T hT h=>?_) fun σ w h=>?_
     · refine yv h fun _ w h=>yv h fun _ w h=>zm<|yv h fun _ w h=>yv h fun _ w h=>yv h fun _ w h=>yv h fun _ w h=>yx h fun _ w h=>yb h fun _ w h=>zn ?_
       exact zt hT h
     refine yG 1<|yp h fun _ h=>zn<|sim_end<|zk<|yC h (fun h=>?_) fun h=>?_
     · refine zs<|zr<|zm<|zn<|zk<|sim_ret<|sim_block_ret<|sim_then_ret<|sim_then_ret<|sim_block_ret<|sim_block_ret<|sim_then_ret<|sim_then_ret<|sim_block_ret<|sim_then_ret ?_
       exact body_ret1 rfl rfl h
     exact sim_skip<|sim_block_normal<|zk<|zr<|zm<|yb h fun _ w h=>zm<|zn<|zk<|⟨rfl,h⟩
   exact sim_exit<|sim_then_exit<|sim_then_exit<|sim_block_hit<|sim_block_normal<|zk<|zr<|zm<|yb h fun _ w h=>zm<|zn<|zk<|⟨rfl,h⟩
 exact sim_exit<|sim_then_exit<|sim_then_exit<|sim_block_hit<|zk<|zs<|zr<|zm<|zn<|zk<|sim_ret<|body_ret1 rfl rfl h
def n22c1 (t76:Value) (K7:KV) (R:RT) (w:World):Prop :=
 opV Pg (binS .eql 9 true t76 (.string { data := #[48,32,99,97,108,108,32,53,10,49,32,115,116,111,112,10,50,32,101,110,116,101,114,32,97,10,51,32,114,101,97,100,32,97,46,120,10,52,32,114,101,116,117,114,110,32,97,10,53,32,101,110,116,101,114,32,115,10,54,32,114,101,97,100,32,115,46,110,32,114,48,10,55,32,114,101,97,100,32,115,46,116,32,114,49,10,56,32,109,97,110,121,32,115,46,108,32,50,10,57,32,115,101,108,101,99,116,32,115,46,99,10,49,48,32,99,97,115,101,32,50,45,50,32,50,10,49,49,32,114,101,116,117,114,110,32,115] })) (panK R) w fun t77 w =>
 K7 t77 w
def n22c2 (t14 t68 t72:Value) (R:RT) (w:World):Prop :=
 pickK t68 t72 (.bool false) fun t73 =>
 joinK (fun (t77:Value) (w:World) =>
 pickK t73 t77 (.bool false) fun t78 =>
 R (.returned t78) w) fun K7 =>
 guardP t73 true (
 callK Pg 11 #[t14] (panK R) w fun t76 w =>
 n22c1 t76 K7 R w) (
 K7 undef w)
def n22c3 (t14 t42 t57 t67:Value) (R:RT) (w:World):Prop :=
 pickK t57 t67 (.bool false) fun t68 =>
 joinK (fun (t72:Value) (w:World) =>
 n22c2 t14 t68 t72 R w) fun K6 =>
 guardP t68 true (
 callK Pg 15 #[t42] (panK R) w fun t71 w =>
 opV Pg (binS .eql 3 true t71 (.int .i64 9)) (panK R) w fun t72 w =>
 K6 t72 w) (
 K6 undef w)
def n22c4 (t37 t60 t62:Value) (K5:KV) (R:RT) (w:World):Prop :=
 opV Pg (binS .add 3 false t60 t62) (panK R) w fun t63 w =>
 callK Pg 15 #[t37] (panK R) w fun t65 w =>
 opV Pg (binS .add 3 false t63 t65) (panK R) w fun t66 w =>
 opV Pg (binS .eql 3 true t66 (.int .i64 0)) (panK R) w fun t67 w =>
 K5 t67 w
def n22c5 (t14 t27 t32 t37 t42 t53 t56:Value) (R:RT) (w:World):Prop :=
 pickK t53 t56 (.bool false) fun t57 =>
 joinK (fun (t67:Value) (w:World) =>
 n22c3 t14 t42 t57 t67 R w) fun K5 =>
 guardP t57 true (
 callK Pg 15 #[t27] (panK R) w fun t60 w =>
 callK Pg 15 #[t32] (panK R) w fun t62 w =>
 n22c4 t37 t60 t62 K5 R w) (
 K5 undef w)
def n22c6 (t14 t27 t32 t36 t37 t42 t49 t52:Value) (R:RT) (w:World):Prop :=
 pickK t49 t52 (.bool false) fun t53 =>
 joinK (fun (t56:Value) (w:World) =>
 n22c5 t14 t27 t32 t37 t42 t53 t56 R w) fun K4 =>
 guardP t53 true (
 opV Pg (binS .eql 3 true t36 (.int .i64 0)) (panK R) w fun t56 w =>
 K4 t56 w) (
 K4 undef w)
def n22c7 (t14 t27 t31 t32 t36 t37 t42 t45 t48:Value) (R:RT) (w:World):Prop :=
 pickK t45 t48 (.bool false) fun t49 =>
 joinK (fun (t52:Value) (w:World) =>
 n22c6 t14 t27 t32 t36 t37 t42 t49 t52 R w) fun K3 =>
 guardP t49 true (
 opV Pg (binS .eql 3 true t31 (.int .i64 2)) (panK R) w fun t52 w =>
 K3 t52 w) (
 K3 undef w)
def n22c8 (t14 t26 t27 t31 t32 t36 t37 t42 t44:Value) (R:RT) (w:World):Prop :=
 opV Pg (binS .eql 3 true t44 (.int .i64 12)) (panK R) w fun t45 w =>
 joinK (fun (t48:Value) (w:World) =>
 n22c7 t14 t27 t31 t32 t36 t37 t42 t45 t48 R w) fun K2 =>
 guardP t45 true (
 opV Pg (binS .eql 3 true t26 (.int .i64 5)) (panK R) w fun t48 w =>
 K2 t48 w) (
 K2 undef w)
def n22c9 (t14 t26 t27 t31 t32 t36 t37 t40:Value) (R:RT) (w:World):Prop :=
 opV Pg (Instr.extract t40 0) (panK R) w fun t41 w =>
 opV Pg (Instr.extract t40 1) (panK R) w fun t42 w =>
 callK Pg 17 #[t14] (panK R) w fun t44 w =>
 n22c8 t14 t26 t27 t31 t32 t36 t37 t42 t44 R w
def n22c10 (t14 t26 t27 t31 t32 t35:Value) (R:RT) (w:World):Prop :=
 opV Pg (Instr.extract t35 0) (panK R) w fun t36 w =>
 opV Pg (Instr.extract t35 1) (panK R) w fun t37 w =>
 callK Pg 22 #[t14,(.string { data := #[98] })] (panK R) w fun t40 w =>
 n22c9 t14 t26 t27 t31 t32 t36 t37 t40 R w
def n22c11 (t14 t26 t27 t30:Value) (R:RT) (w:World):Prop :=
 opV Pg (Instr.extract t30 0) (panK R) w fun t31 w =>
 opV Pg (Instr.extract t30 1) (panK R) w fun t32 w =>
 callK Pg 21 #[t14,(.string { data := #[97] })] (panK R) w fun t35 w =>
 n22c10 t14 t26 t27 t31 t32 t35 R w
def n22c12 (t14 t25:Value) (R:RT) (w:World):Prop :=
 opV Pg (Instr.extract t25 0) (panK R) w fun t26 w =>
 opV Pg (Instr.extract t25 1) (panK R) w fun t27 w =>
 callK Pg 21 #[t14,(.string { data := #[115] })] (panK R) w fun t30 w =>
 n22c11 t14 t26 t27 t30 R w
def n22c13 (t14 t18 t21:Value) (R:RT) (w:World):Prop :=
 pickK t18 (.bool true) t21 fun t22 =>
 condP t22 (
 R (.returned (.bool false)) w) (
 callK Pg 22 #[t14,(.string { data := #[115] })] (panK R) w fun t25 w =>
 n22c12 t14 t25 R w)
def n22c14 (t14 t17:Value) (R:RT) (w:World):Prop :=
 opV Pg (binS .neq 3 true t17 (.int .i64 0)) (panK R) w fun t18 w =>
 joinK (fun (t21:Value) (w:World) =>
 n22c13 t14 t18 t21 R w) fun K1 =>
 guardP t18 false (
 opV Pg (binS .eql 27 true t14 (Value.pointer none)) (panK R) w fun t21 w =>
 K1 t21 w) (
 K1 undef w)
def n22c15 (t13:Value) (R:RT) (w:World):Prop :=
 opV Pg (Instr.extract t13 0) (panK R) w fun t14 w =>
 opV Pg (Instr.extract t13 1) (panK R) w fun t15 w =>
 callK Pg 15 #[t15] (panK R) w fun t17 w =>
 n22c14 t14 t17 R w
def n22 (R:RT) (w:World):Prop :=
 callK Pg 30 #[] (panK R) w fun t12 w =>
 callK Pg 20 #[t12] (panK R) w fun t13 w =>
 n22c15 t13 R w
theorem n22s {R:RT} {w:World} (h:n22 R w):Calls Pg 9 #[] w R:=by
 refine yD Tryz.func9 ?_
 refine zs<|zr<|zm<|zn<|zk<|zs<|zr<|yc h c30 fun _ w h=>yc h c20 fun _ w h=>zm<|yv h fun _ w h=>yv h fun _ w h=>zm<|zm<|zn ?_
 refine zk<|zs<|zs<|sim_regionG<|yG 4<|zm<|yc h c15 fun _ w h=>yb h fun _ w h=>zm<|zn<|yg1 2 3 false [20,21] 21 h (fun _ T hT h=>?_) fun σ w h=>?_
 · refine zm<|yb h fun _ w h=>zn ?_
   exact zt hT h
 refine yG 1<|yp h fun _ h=>zn<|sim_end<|zk<|yC h (fun h=>zs<|zr<|zm<|zn<|zk<|sim_ret<|sim_then_ret<|body_ret1 rfl rfl h) fun h=>sim_skip<|zk<|zs<|zr<|zm<|yc h c22 fun _ w h=>zm<|yv h fun _ w h=>?_
 refine yv h fun _ w h=>zm<|zm<|zn<|zk<|zs<|zr<|zm<|yc h c21 fun _ w h=>zm<|yv h fun _ w h=>yv h fun _ w h=>zm<|zm<|zn ?_
 refine zk<|zs<|zr<|zm<|yc h c21 fun _ w h=>zm<|yv h fun _ w h=>yv h fun _ w h=>zm<|zm<|zn<|zk<|zs<|zr<|zm ?_
 refine yc h c22 fun _ w h=>zm<|yv h fun _ w h=>yv h fun _ w h=>zm<|zm<|zn<|zk<|zs<|sim_regionG<|yG 4<|zm<|yc h c17 fun _ w h=>yb h fun _ w h=>zm ?_
 refine zn<|yg1 2 3 true [47,48] 48 h (fun _ T hT h=>?_) fun σ w h=>?_
 · refine zm<|yb h fun _ w h=>zn ?_
   exact zt hT h
 refine yG 2<|yp h fun _ h=>zm<|zn<|yg1 2 7 true [51,52] 52 h (fun _ T hT h=>?_) fun σ w h=>?_
 · refine zm<|yb h fun _ w h=>zn ?_
   exact zt hT h
 refine yG 2<|yp h fun _ h=>zm<|zn<|yg1 2 11 true [55,56] 56 h (fun _ T hT h=>?_) fun σ w h=>?_
 · refine zm<|yb h fun _ w h=>zn ?_
   exact zt hT h
 refine yG 2<|yp h fun _ h=>zm<|zn<|yg1 9 15 true [59,60,61,62,63,64,65,66,67] 67 h (fun _ T hT h=>?_) fun σ w h=>?_
 · refine zm<|yc h c15 fun _ w h=>zm<|yc h c15 fun _ w h=>yb h fun _ w h=>zm<|yc h c15 fun _ w h=>yb h fun _ w h=>yb h fun _ w h=>zn ?_
   exact zt hT h
 refine yG 2<|yp h fun _ h=>zm<|zn<|yg1 3 26 true [70,71,72] 72 h (fun _ T hT h=>?_) fun σ w h=>?_
 · refine zm<|yc h c15 fun _ w h=>yb h fun _ w h=>zn ?_
   exact zt hT h
 refine yG 2<|yp h fun _ h=>zm<|zn<|yg1 3 31 true [75,76,77] 77 h (fun _ T hT h=>?_) fun σ w h=>?_
 · refine zm<|yc h c11 fun _ w h=>yb h fun _ w h=>zn ?_
   exact zt hT h
 exact yG 2<|yp h fun _ h=>zm<|zn<|sim_end<|zk<|sim_ret<|body_ret1 rfl rfl h
def n35c1 (t3 t10 t14:Value) (C2:World→Prop) (Kr1:World→Prop) (Qr1:List PanicEntry→World→Prop) (R:RT) (w:World):Prop :=
 opV Pg (Instr.buildSlice 80 1 #[(0,t14)]) Qr1 w fun t15 w =>
 C2 w∧(
 opV Pg (Builtin.append_ #[80,80] 80 #[t10,t15]) Qr1 w fun t16 w =>
 C2 w∧(
 opU Pg (Instr.storeAt 80 t3 t16) Qr1 w fun w =>
 turnK w fun C3 w =>
 Kr1 w))
def n35c2 (t1 t3 t5 t8:Value) (C2:World→Prop) (Kr1:World→Prop) (Qr1:List PanicEntry→World→Prop) (R:RT) (w:World):Prop :=
 qV Pg C2 (Instr.loadAt 80 t3) fun t10 =>
 qV Pg C2 (Instr.loadAt 27 t1) fun t11 =>
 qV Pg C2 (Instr.loadAt 36 t5) fun t13 =>
 callK Pg 31 #[t11,t8,t13] Qr1 w fun t14 w =>
 C2 w∧(
 n35c1 t3 t10 t14 C2 Kr1 Qr1 R w)
def n35c3 (t1 t3 t8 t9:Value) (Kr1:World→Prop) (Qr1:List PanicEntry→World→Prop) (l1:Nat) (R:RT) (w:World):Prop :=
 opV Pg (Instr.alloc 36 true (.tuple #[])) (fun _ _=>False) w fun t5 w =>
 opU Pg (Instr.storeAt 36 t5 t9) (fun _ _=>False) w fun w =>
 busyK l1 w fun w =>
 drawK w fun C2 w =>
 n35c2 t1 t3 t5 t8 C2 Kr1 Qr1 R w
def n35c4 (t3:Value) (ds:List Deferred) (R:RT) (w:World):Prop :=
 opV Pg (Instr.loadAt 80 t3) (outQ Pg ds [(none,(.string { data := #[] }))] R) w fun t17 w =>
 callK Pg 32 #[t17,(.string { data := #[10] })] (outQ Pg ds [(none,(.string { data := #[] }))] R) w fun t18 w =>
 outX Pg ds [(none,t18)] R w
def n35c5 (t1 t3 t7:Value) (ds:List Deferred) (R:RT) (w:World):Prop :=
 rangeN5 Pg t7 ds (fun l1 t8 t9 w Kr1 Xr1 Qr1 =>
 n35c3 t1 t3 t8 t9 Kr1 Qr1 l1 R w) (fun ch ds w=>outQ Pg ds [(none,(.string { data := #[] }))] R ch w) w (fun ds w =>
 n35c4 t3 ds R w) []
def n35 (t0:Value) (R:RT) (w:World):Prop :=
 (fun (ds:List Deferred) =>
 opV Pg (Instr.box 27 t0) (outQ Pg ds [(none,undef)] R) w fun t1 w =>
 opV Pg (Instr.alloc 80 true (.tuple #[])) (outQ Pg ds [(none,(.string { data := #[] }))] R) w fun t3 w =>
 opV Pg (Instr.loadAt 27 t1) (outQ Pg ds [(none,(.string { data := #[] }))] R) w fun t6 w =>
 callK Pg 16 #[t6] (outQ Pg ds [(none,(.string { data := #[] }))] R) w fun t7 w =>
 n35c5 t1 t3 t7 ds R w) []
theorem n35s {t0:Value} {R:RT} {w:World} (h:n35 t0 R w):Calls Pg 11 #[t0] w R:=by
 refine yE Tryz.func11 ?_
 unfold n35 at h
 dsimp only at h
 refine zs<|zr<|yv h fun _ w h=>zm<|zn<|zk<|zs<|zr<|yv h fun _ w h=>zn<|zk<|zs<|zs<|zr<|yv h fun _ w h=>?_
 refine yc h c16 fun _ w h=>zn<|zk<|sim_block<|sim_range5 [] h rfl (fun l1 t8 t9 w Kr1 Xr1 Qr1 h=>?_) (fun ds w h=>?_) (fun c ds w h=>?_) (fun ch ds w h=>outQ_of rfl h)
 · refine zs<|zr<|zm<|zn<|zk<|zr<|yv h fun _ w h=>yu h fun w h=>zn<|zk ?_
   obtain ⟨hr,h⟩:=h
   refine ⟨rfl,hr,fun w hb=>?_⟩
   have h:=h w hb
   refine sim_block<|yh [10,11,12,13,14,15,16] h fun C hC h=>ye 0 hC h fun _ h=>?_
   refine ye 1 hC h fun _ h=>?_
   refine yw 2 hC ?_
   refine ye 3 hC h fun _ h=>?_
   refine yo 4 ?_
   refine yc h c31 fun _ w h=>zn ?_
   obtain ⟨hC,h⟩:=h
   refine ⟨hC,?_⟩
   refine yo 5 ?_
   refine yS h fun _ w h=>zn ?_
   obtain ⟨hC,h⟩:=h
   refine ⟨hC,?_⟩
   refine yo 6 ?_
   refine yx h fun _ w h=>zn ?_
   obtain ⟨hC,h⟩:=h
   refine ⟨hC,?_⟩
   refine yq 7 1 ?_
   refine yu h fun w h=>zn ?_
   obtain ⟨C3,hC,h⟩:=h
   refine ⟨C3,hC,?_⟩
   exact yz<|sim_block_normal<|⟨rfl,h⟩
 · exact sim_block_normal<|zk<|zs<|zr<|yv h fun _ w h=>yc h c32 fun _ w h=>zm<|zn<|zk<|sim_ret<|bodyM_ret rfl h
 exact h.elim
theorem lasts2_sv {B lo hi:Nat} {W:World} (hB:W.heap.size≤B):Lasts2 B (Save lo hi W):=fun w w' hl e=>⟨hl.os.trans e.os,hl.tape.trans e.tape,hl.output.trans e.output,Nat.le_trans e.size hl.size,fun k hk hb=>by
 have:=e.size
 rcases hl.block k (by omega) with h | ⟨h,_⟩
 · rw [h];exact e.block k hk hb
 · omega⟩
theorem lasts2_own {α:Type} {B base n:Nat} {T:TypeId} {enc:α→List Value} {v:Value} {l:List α}:Lasts2 B (fun w=>OwnE w base T n enc v l):=fun w w' hl h=>by
 refine ⟨h.1,?_⟩
 rcases h.2 with h1 | ⟨g,cap,cur,h1,h2,h3,h4⟩
 · exact .inl h1
 · exact .inr ⟨g,cap,cur,h1,h2,Lasts2.has B (by simp) (by simp) w w' hl h3,h4⟩
theorem Save.grown {lo hi:Nat} {w w1 w2:World} {row:Option Nat} (h:Save lo hi w w1) (hg:w1.grownBy w2 row) (hr:∀ g,row=some g→w.heap.size≤g):Save lo hi w w2:=⟨hg.os.trans h.os,hg.tape.trans h.tape,hg.output.trans h.output,Nat.le_trans h.size hg.size,fun k hk hb=>(hg.block k (by have:=h.size;omega) (fun e=>by have:=hr k e.symm;omega)).trans (h.block k hk hb)⟩
theorem own_row {α:Type} {w:World} {base n:Nat} {T:TypeId} {enc:α→List Value} {v:Value} {l:List α} (h:OwnE w base T n enc v l) {g:Nat} (hg:v.ownBlock=some g):∃ cur,w.heap[g]?=some (.cells cur T (0,0)):=by
 rcases h.2 with ⟨rfl,_⟩ | ⟨g',cap,cur,rfl,_,h3,_⟩
 · cases hg
 · have:g'=g:=by injection hg
   subst this
   exact ⟨cur,h3⟩
theorem row_apart {α:Type} {w w':World} {base n:Nat} {T:TypeId} {enc:α→List Value} {v:Value} {l:List α} (h:OwnE w base T n enc v l) (hg:w.grownBy w' v.ownBlock) {b:Nat} {cs:Array Value} {T':TypeId} (hb:w.heap[b]?=some (.cells cs T' (0,0))) (hT:T'≠T):w'.heap[b]?=some (.cells cs T' (0,0)):=(hg.block b (Array.getElem?_eq_some_iff.1 hb).1 (fun e=>by
 obtain ⟨cur,hc⟩:=own_row h e.symm
 rw [hb] at hc
 injection hc with hc
 injection hc with _ hc
 exact hT hc)).trans hb
section
variable {w:World} {lo pb:Nat} {d:DefD}
theorem Text_ret (h:ProgAt w lo pb d) (hT:TabOK w) (hN:Names100 d) (hc:(checkP d).2.2=0) (hz:sizeP d≤100000):Ret Pg 11 #[.pointer (some ⟨pb,0,none⟩)] w fun r w'=>r = .string (textN d (codeP d) (sizeP d))∧Ext w w':=by
 have hlen:=codeP_len d
 have hok:=code_ok hc hz
 refine n35s (R:=retR _) ?_;unfold n35
 dsimp only
 simp (disch:=try exact DI) only [↓PR,QR,simprocAttr]
 generalize hV:World.alloc (World.alloc w _) _=W
 have eW:Ext w W:=by rw [← hV];exact ee
 have o1:W.heap[w.heap.size]?=some (.cells #[.pointer (some ⟨pb,0,none⟩)] 27 (0,0)):=by rw [← hV];simp (disch:=try exact DI) only [↓PR,QR,simprocAttr]
 have o3:W.heap[w.heap.size+1]?=some (.cells #[.slice none 0 0] 80 (0,0)):=by rw [← hV];simp (disch:=try exact DI) only [↓PR,QR,simprocAttr]
 clear hV
 simp only [World.size_alloc]
 have sW:=(Array.getElem?_eq_some_iff.1 o3).1
 generalize hp1:w.heap.size=p1 at *
 generalize hp3:p1+1=p3 at *
 refine callK_ret (Each_ret (h.ext eW) hz) ?_
 rintro _ w2 ⟨⟨e,v0,rfl,he,hI0⟩,e2⟩
 have E2:=eW.trans e2
 have x1:=e2.obj o1
 have x3:=e2.obj o3
 have s2:=e2.size
 unfold n35c5
 let I:Nat→World→Prop:=fun k w'=>k≤sizeP d∧Save p3 (p3+1) w2 w'∧∃ v,w'.heap[p3]?=some (.cells #[v] 80 (0,0))∧OwnS w' w2.heap.size v (linesN d (codeP d) k)
 have hLI:∀ k,Lasts2 w2.heap.size (I k):=fun k=>(Lasts2.const _ _).and ((lasts2_sv (Nat.le_refl _)).and (.ex fun v=>(Lasts2.low (by omega) _).and lasts2_own))
 have hat:∀ w',Save p3 (p3+1) w2 w'→InsAt e v0 (codeP d) w':=fun w' hs=>ins_at (B:=W.heap.size) ⟨hs.obj hI0.1 (.inr (by omega)),hI0.2.1,by
  rcases hI0.2.2 with h1 | ⟨g,cap,cur,h1,h2,h3,h4⟩
  · exact .inl h1
  · exact .inr ⟨g,cap,cur,h1,h2,hs.obj h3 (.inr (by omega)),h4⟩⟩
 refine ⟨_,_,(codeP d).length,(fun k => .int .i64 k),(fun k=>insVal (((codeP d)[k]?).getD zeroI)),InsAt e v0 (codeP d),I,fun _ _=>False,fun _ _=>False,rfl,c38,Each_seq e v0 _ (by omega),⟨Nat.zero_le _,Save.refl _ _ _,_,x3,OwnE.nil _ _ _ _ _⟩,fun k w' h=>hat w' h.2.1,hLI,fun _=>Lasts2.const _ _,fun _=>Lasts2.const _ _,?_,?_,?_,?_⟩
 · intro Rk hRk j w3 hj hI3 hR3 hlt hready
   obtain ⟨x,hx⟩:=getElem?_lt hj
   have hgx:insVal (((codeP d)[j]?).getD zeroI)=insVal x:=by rw [hx];rfl
   dsimp only
   rw [hgx]
   unfold n35c3
   have eA:Ext w3 (w3.alloc (.cells (insCells x).toArray TI)):=ee
   have oA:=heap_new w3 (insCells x).toArray TI
   have hR4:=hRk _ _ (KR5.of eA) hR3
   have hI4:=(hLI j).ext hI3 eA
   have hrd:ReadyAt (w2.heap.size+1) (w3.alloc (.cells (insCells x).toArray TI)):=by obtain ⟨r,h1,h2⟩:=hready;exact ⟨r,eA.obj h1,h2⟩
   simp (disch:=try exact DI) only [↓PR,QR,simprocAttr]
   generalize (w3.alloc (.cells (insCells x).toArray TI))=w4 at oA hR4 hI4 hrd ⊢
   have hq2:w2.heap.size≤w3.heap.size:=hI3.2.1.size
   generalize w3.heap.size=q at oA hq2 ⊢
   refine ⟨hrd,fun w5 hbz=>?_⟩
   have hR5:=hRk _ _ (KR5.busied hbz) hR4
   have hI5:=(hLI j).busied hbz (Nat.le_succ _) hI4
   have o5:w5.heap[q]?=some (.cells (insCells x).toArray TI (0,0)):=by
    obtain ⟨r,hr,rfl⟩:=hbz
    rw [World.putObj_heap_other (by rintro rfl;rw [oA] at hr;cases hr)]
    exact oA
   have eD:Ext w5 (Sw.drew w5):=(Ext.refl w5).drew
   have hR6:=hRk _ _ (KR5.of eD) hR5
   obtain ⟨_,hs6,v,y3,hO6⟩:=(hLI j).ext hI5 eD
   have y5:=eD.obj o5
   have y1:=hs6.obj x1 (.inl (by omega))
   refine looksK (C:=fun u=>u.heap[p3]?=some (.cells #[v] 80 (0,0))∧u.heap[p1]?=some (.cells #[.pointer (some ⟨pb,0,none⟩)] 27 (0,0))∧u.heap[q]?=some (.cells (insCells x).toArray TI (0,0))) ⟨y3,y1,y5⟩ fun hne=>?_
   generalize hCC:(fun u:World=>u.heap[p3]?=some (.cells #[v] 80 (0,0))∧u.heap[p1]?=some (.cells #[.pointer (some ⟨pb,0,none⟩)] 27 (0,0))∧u.heap[q]?=some (.cells (insCells x).toArray TI (0,0)))=CC at hne ⊢
   have hCC1:∀ u,CC u↔(u.heap[p3]?=some (.cells #[v] 80 (0,0))∧u.heap[p1]?=some (.cells #[.pointer (some ⟨pb,0,none⟩)] 27 (0,0))∧u.heap[q]?=some (.cells (insCells x).toArray TI (0,0))):=fun u=>by rw [← hCC]
   clear hCC
   have r3:∀ K:Value→Prop,qV Pg CC (Instr.loadAt 80 (.pointer (some ⟨p3,0,none⟩))) K=K v:=fun K=>qV_loadG fun u hu=>Loads.one ty80 (by rw [(cells_of_heap ((hCC1 u).1 hu).1).1];rfl)
   have r1:∀ K:Value→Prop,qV Pg CC (Instr.loadAt 27 (.pointer (some ⟨p1,0,none⟩))) K=K (.pointer (some ⟨pb,0,none⟩)):=fun K=>qV_loadG fun u hu=>Loads.one ty27 (by rw [(cells_of_heap ((hCC1 u).1 hu).2.1).1];rfl)
   have r5:∀ K:Value→Prop,qV Pg CC (Instr.loadAt TI (.pointer (some ⟨q,0,none⟩))) K=K (insVal x):=fun K=>qV_loadG fun u hu=>ElemAt.loads (b:=q) (o:=0) (cs:=insCells x) (fun j u' hu'=>by rw [Nat.zero_add,(cells_of_heap ((hCC1 u).1 hu).2.2).1];simpa using hu') ty36 rfl
   generalize (Sw.drew w5)=w6 at hR6 hs6 y3 hO6 y5 y1 ⊢
   have E6:Ext w w6:=hs6.to_ext E2 (by omega)
   unfold n35c2
   rw [r3,r1,r5]
   refine zcr (line_ret (h.ext E6) (hT.ext E6) hN j ⟨by omega,by omega⟩ x (hok x (List.mem_of_getElem? hx))) fun w7 e7=>?_
   refine ⟨(hCC1 w7).2 ⟨e7.obj y3,e7.obj y1,e7.obj y5⟩,?_⟩
   unfold n35c1
   simp (disch:=try exact DI) only [↓PR,QR,simprocAttr]
   generalize hY:World.alloc w7 _=w8
   have e8:Ext w7 w8:=by rw [← hY];exact ee
   have oY:w8.cell? ⟨w7.heap.size,0,none⟩=some (.string (lineB d j x)):=by rw [← hY,(cells_of_heap (heap_new _ _ _)).1];rfl
   clear hY
   have e68:=e7.trans e8
   have z3:=e68.obj y3
   have z1:=e68.obj y1
   have z5:=e68.obj y5
   have hO8:=hO6.ext e68
   have hs8:=hs6.ext e68
   refine ⟨(hCC1 w8).2 ⟨z3,z1,z5⟩,?_⟩
   refine append_str (lineB d j x) hO8 oY hs8.size (by rw [linesN_len (by omega)];omega) ?_
   intro v' w9 hO9 hg
   have a3:=row_apart hO8 hg z3 (by decide)
   have a1:=row_apart hO8 hg z1 (by decide)
   have a5:=row_apart hO8 hg z5 (by decide)
   refine ⟨(hCC1 w9).2 ⟨a3,a1,a5⟩,?_⟩
   have hv1:v'.oneCell'=true:=SliceOf.oneCell (hO9.slice (E:=EStr) (fun _=>rfl) (fun _ _=>rfl))
   simp (disch:=try exact DI) only [↓PR,QR,simprocAttr,(cells_of_heap a3).1,(cells_of_heap a3).2]
   refine turnK_intro ?_
   have hs9:=hs8.grown hg fun g hgr=>(World.ownsRow.lt hO8 g hgr).1
   have hk9:KR5 (w2.heap.size+1+1) w6 w9:=(KR5.of e68).grown hg fun g hgr=>by
    obtain ⟨cur,hc⟩:=own_row hO8 hgr
    exact ⟨cur,_,_,hc⟩
   refine ⟨hRk _ _ (hk9.setCell p3 0 v') hR6,by omega,hs9.setCell (Nat.le_refl _) (Nat.lt_succ_self _) v',v',by simpa using heap_set (o:=0) a3 v',?_⟩
   rw [linesN_succ hx]
   exact (OwnR.only (OwnE.range hO9) (Only.setCell w9 p3 0 v') (.inr (.inl (by omega)))).1
 · rintro w3 ⟨_,hs,v,y3,hO⟩ hmk
   have E3:Ext w w3:=hs.to_ext E2 (by omega)
   unfold n35c4
   have hsz:=sizeP_pos d
   have htz:=textN_size hN hok (k:=(codeP d).length) (Nat.le_refl _) (by omega)
   simp (disch:=try exact DI) only [↓PR,QR,simprocAttr,(cells_of_heap y3).1]
   refine zcr (Join_ret hO ⟨#[10]⟩ (by rw [linesN_len (Nat.le_refl _)];omega) (by rw [linesN_len (Nat.le_refl _)];omega) (Nat.le_trans htz (by decide))) fun w4 e4=>?_
   refine outX_mark (hmk.ext e4) ?_
   simp (disch:=try exact DI) only [↓PR,QR,simprocAttr,outX_nil,retV,resOne]
   exact ⟨by rw [hlen];rfl,(E3.trans e4).putObj (by have:=E2.size;omega) _⟩
 · rintro c w3 hf
   exact hf.elim
 · rintro ch w3 hf
   exact hf.elim
end
def L1 (i:Int) (x:InsD):ByteArray:=decB i++⟨#[32]⟩++opN x.code
def L2 (d:DefD) (i:Int) (x:InsD):ByteArray:=if 0≤x.msg then L1 i x++⟨#[32]⟩++nameX d x else L1 i x
def L3 (d:DefD) (i:Int) (x:InsD):ByteArray:=if 0≤x.reg then L2 d i x++⟨#[32]⟩++(⟨#[114]⟩++decB x.reg) else L2 d i x
def L4 (d:DefD) (i:Int) (x:InsD):ByteArray:=if 0≤x.to then L3 d i x++⟨#[32]⟩++decB x.to else L3 d i x
end Go.Proofs.YtfdecdnmooaegaaGreatDoor
namespace Go.Sw
open Go.ChangeShapes Go.WideShapes Go.RowKit Go.ChangeAt Go.Deep
theorem list_of {α:Type} {p:Nat→α→Prop}:∀ (n:Nat),(∀ i,i < n→∃ x,p i x)→∃ l:List α,l.length=n∧∀ k x,l[k]?=some x→p k x
 | 0,_=>⟨[],rfl,fun k x h=>by simp at h⟩
 | n+1,h=>by
  obtain ⟨l,hl,hp⟩:=list_of n (fun i hi=>h i (by omega))
  obtain ⟨x,hx⟩:=h n (by omega)
  refine ⟨l++[x],by simp [hl],fun k y hy=>?_⟩
  rw [List.getElem?_append] at hy
  split at hy
  · exact hp k y hy
  · have hk:k=n:=by
     have:=(List.getElem?_eq_some_iff.1 hy).1
     simp at this
     omega
    subst hk
    simp [hl] at hy
    subst hy
    exact hx
section
variable {H:Type} {enc:TypeId×Value→H} {P:Program} {w:World} {base:Nat} {spare:Nat→Bool} {held:Bool}
theorem weightsAll_mem {e:TypeId} {m:Nat} {d:DataW H}:∀ {l:List (DataW H)},d∈l→m∈d.weights P e→m∈DataW.weightsAll P e l
 | [],h,_=>by cases h
 | a::l,h,hm=>by
  rw [DataW.weightsAll,List.mem_append]
  rcases List.mem_cons.1 h with rfl | h
  · exact .inl hm
  · exact .inr (weightsAll_mem h hm)
def Reached (P:Program) (t:TypeId) (d:DataW H):Prop:=∀ m∈d.weights P t,m≤reachBytes
theorem reached_of {ts:List TypeId} {ds:List (DataW H)} (h:(DataW.weightsEach P ts ds).all (· ≤ reachBytes)=true) {j:Nat} {t:TypeId} {d:DataW H} (ht:ts[j]?=some t) (hd:ds[j]?=some d):Reached P t d:=fun m hm=>by
 have:=List.all_eq_true.1 h _ (DataW.weights_mem_each ht hd m hm)
 simpa using this
theorem slice_of_trod {α:Type} {E:World→List Value→α→Prop} {Q:α→Prop} {t e:TypeId} {n fuel:Nat} {cs:List Value} {x:DataW H×List MemPlace} (ht:P.underlying t=some (.slice e)) (hn:P.cellsOf e=n) (hb1:1≤P.bytesOf e) (h0:0 < n)
 (hE:∀ m cs' y,DataW.trod enc P w base spare held m e cs'=some y→Reached P e y.1→∃ x,E w cs' x∧Q x) (h:DataW.trod enc P w base spare held fuel t cs=some x) (hr:Reached P t x.1):∃ v l,cs=[v]∧SliceOf w n E v l∧(∀ x∈l,Q x)∧l.length≤140737488355328:=by
 rcases open_slice ht h with ⟨rfl,_⟩ | ⟨a,len,cap,m,k,D,Pl,rfl,hb,hl,hm,hmm,hx,hel⟩
 · exact ⟨_,[],rfl,SliceOf.nil _ _ _,fun x hx=>by (cases hx),Nat.zero_le _⟩
 · have hlm:len≤m:=by rw [hmm];split<;>omega
   subst hx
   have hw0:=hr ((len+(m - len))*P.bytesOf e) (by simp only [DataW.weights,ht];simp)
   have hlen:len≤140737488355328:=by
    have:len*1≤(len+(m - len))*P.bytesOf e:=Nat.mul_le_mul (by omega) hb1
    simp only [reachBytes] at hw0
    omega
   have hD:∀ i,i < len→Reached P e (D i):=fun i hi q hq=>hr q (by
    simp only [DataW.weights,ht,List.mem_cons,List.mem_append]
    exact .inr (.inl (weightsAll_mem (List.mem_map.2 ⟨i,List.mem_range.2 hi,rfl⟩) hq)))
   obtain ⟨l,hll,hp⟩:=list_of (p:=fun i (x:α)=>∃ cs',w.cells? base (a.add (i*n)) n=some cs'∧E w cs' x∧Q x) len (fun i hi=>by
    obtain ⟨cs',h1,h2⟩:=hel i (by omega)
    rw [hn] at h1
    obtain ⟨x,hx⟩:=hE _ _ _ h2 (hD i hi)
    exact ⟨x,cs',h1,hx⟩)
   refine ⟨_,l,rfl,⟨some a,cap,by rw [hll],by rw [hll];exact hl,by simp only [maxLen] at hm;omega,fun hne=>?_⟩,fun x hx=>?_,by omega⟩
   · obtain ⟨b,o,spot⟩:=a
     have hspot:spot=none:=by
      have:0 < l.length:=List.length_pos_iff.2 hne
      obtain ⟨y,hy⟩:=getElem?_lt this
      obtain ⟨cs',h1,_⟩:=hp 0 y hy
      obtain ⟨_,h2,h3⟩:=World.cells?_some h1
      have h4:=h3 0 h0
      rw [List.getElem?_eq_getElem (by omega)] at h4
      simpa [Addr.add] using World.cell?_spot h4
     subst hspot
     refine ⟨b,o,rfl,fun k x hx=>?_⟩
     obtain ⟨cs',h1,h2,_⟩:=hp k x hx
     obtain ⟨_,h3,h4⟩:=World.cells?_some h1
     refine ⟨cs',h3,fun j v hv=>?_,h2⟩
     have h5:=h4 j (by have:=(List.getElem?_eq_some_iff.1 hv).1;omega)
     rw [hv] at h5
     simpa [Addr.add_lit] using h5
   · obtain ⟨k,hk⟩:=List.getElem?_of_mem hx
     obtain ⟨_,_,_,hq⟩:=hp k x hk
     exact hq
theorem struct_of_trod {fs:Array Field} {t:TypeId} {n fuel:Nat} {cs:List Value} {x:DataW H×List MemPlace} (ht:P.underlying t=some (.struct fs)) (hn:P.cellsOf t=n) (h:DataW.trod enc P w base spare held fuel t cs=some x) (hr:Reached P t x.1) :
 cs.length=n∧∃ m,∀ (i:Nat) (ty off k:Nat),(fs[i]?).map (fun f=>(f.type,f.offset))=some (ty,off)→P.cellsOf ty=k→∃ y,DataW.trod enc P w base spare held m ty ((cs.drop off).take k)=some y∧Reached P ty y.1:=by
 obtain ⟨xs,m,_,rfl,hl,hlen,hf⟩:=DataW.trod_struct ht h
 refine ⟨hl.trans hn,m,fun i ty off k hi hk=>?_⟩
 obtain ⟨f,hfi,he⟩:=Option.map_eq_some_iff.1 hi
 injection he with h1 h2
 subst h1 h2 hk
 have hil:i < xs.length:=by rw [hlen];exact (Array.getElem?_eq_some_iff.1 hfi).1
 refine ⟨xs[i],(hf i f hfi).trans (List.getElem?_eq_getElem hil),fun q hq=>hr q ?_⟩
 simp only [DataW.weights,ht]
 refine DataW.weights_mem_each (j:=i) (t:=f.type) (d:=xs[i].1) ?_ ?_ q hq
 · rw [List.getElem?_map,Array.getElem?_toList,hfi];rfl
 · rw [List.getElem?_map,List.getElem?_eq_getElem hil];rfl
theorem trodAll_stays (hl:laidOutB P=true) {W W':World} (he:Ext W W'):∀ {ts:List TypeId} {vs:List Value} {ds:List (DataW H)} {ps:List MemPlace},(∀ t∈ts,P.readableRec t=true∧t < P.types.size)→(∀ x∈ps,x.block < W.heap.size) →
 DataW.TrodAll enc P W 0 (fun _=>true) true ts vs ds ps→DataW.TrodAll enc P W' 0 (fun b=>decide (b < W.heap.size)) true ts vs ds ps
 | [],_,_,_,_,_,h=>by obtain ⟨rfl,rfl,rfl⟩:=trodAll_nil h;exact trodAll_mk0
 | t::ts,_,_,_,hr,hlt,h=>by
  obtain ⟨v,vs1,d,ds1,a,b,rfl,rfl,rfl,h1,h2⟩:=trodAll_cons h
  refine ⟨a,b,?_,trodAll_stays hl he (fun t ht=>hr t (List.mem_cons_of_mem _ ht)) (fun x hx=>hlt x (List.mem_append_right _ hx)) h2,rfl⟩
  exact Below.trod hl (hr t (List.mem_cons_self ..)).1 (hr t (List.mem_cons_self ..)).2 h1 ⟨he.os,he.tape,he.output,he.size,he.block⟩ (fun x hx=>hlt x (List.mem_append_left _ hx))
theorem law_post {f:Func} {s:ChangeSpec} {W W':World} {args:Array Value} {ds gs:List (DataW H)} {before:List MemPlace} {tb:TypeId} (hl:laidOutB P=true) (hr:∀ t∈f.params.toList,P.readableRec t=true∧t < P.types.size) (hs:s.vars=[])
 (hW:DataW.Whole enc P f.params.toList s.vars false W args.toList ds gs before) (he:Ext W W') (hres:f.resultTypes = #[tb]) (htb:P.underlying tb=some .bool) (hfn:(s.fn H ds).results=[.lit (.bool true)]) (hargs:(s.fn H ds).args=ds) (hvars:(s.fn H ds).vars=[]) :
 s.post enc P f false true false false W args (.bool true) W':=by
 have hW':=hW
 obtain ⟨p,q,hA,hV,rfl,_,_⟩:=hW
 rw [hs] at hV
 obtain ⟨rfl,rfl⟩:=trodVars_none hV
 have hlt:∀ x∈p,x.block < W.heap.size:=fun x hx=>hW'.lt x (by simpa using hx)
 rw [List.append_nil] at hW'
 refine ⟨ds,[],p,[],p,[],hW',?_,?_,?_,Below.frame ⟨he.os,he.tape,he.output,he.size,he.block⟩ _,fun h=>by cases h⟩
 · rw [List.append_nil,hfn,hres]
   exact trodAll_mk1 (shut_bool htb _)
 · rw [List.append_nil,hargs]
   exact trodAll_stays hl he hr hlt hA
 · rw [List.append_nil,hvars,hs]
   exact rfl
end
end Go.Sw
namespace Go.Proofs.YtfdecdnmooaegaaGreatDoor
open Sw
open Go.ChangeShapes Go.WideShapes Go.RowKit Go.ChangeAt Go.Deep
theorem cellsTerm:Pg.cellsOf 113=2:=by kernel_rfl
theorem cellsCase:Pg.cellsOf 85=3:=by kernel_rfl
theorem cellsSize:Pg.cellsOf 68=2:=by kernel_rfl
theorem cellsField:Pg.cellsOf 71=15:=by kernel_rfl
theorem cellsMessage:Pg.cellsOf 53=2:=by kernel_rfl
theorem cellsDefinition:Pg.cellsOf 24=3:=by kernel_rfl
theorem cellsString:Pg.cellsOf 9=1:=by kernel_rfl
theorem cellsInt:Pg.cellsOf 3=1:=by kernel_rfl
theorem cellsBool:Pg.cellsOf 4=1:=by kernel_rfl
theorem cellsKind:Pg.cellsOf 65=1:=by kernel_rfl
theorem cellsTerms:Pg.cellsOf 66=1:=by kernel_rfl
theorem cellsCases:Pg.cellsOf 69=1:=by kernel_rfl
theorem cellsFields:Pg.cellsOf 51=1:=by kernel_rfl
theorem bytesTerm:1≤Pg.bytesOf 113:=Nat.le_of_ble_eq_true (by kernel_rfl)
theorem bytesCase:1≤Pg.bytesOf 85:=Nat.le_of_ble_eq_true (by kernel_rfl)
theorem bytesField:1≤Pg.bytesOf 71:=Nat.le_of_ble_eq_true (by kernel_rfl)
theorem bytesMessage:1≤Pg.bytesOf 53:=Nat.le_of_ble_eq_true (by kernel_rfl)
def FieldSm (f:FieldD):Prop:=f.terms.length≤140737488355328∧f.cases.length≤140737488355328∧∀ c∈f.cases,c.of.size≤140737488355328
def MsgSm (m:MsgD):Prop:=m.fields.length≤140737488355328∧∀ f∈m.fields,FieldSm f
def DefSm (d:DefD):Prop:=d.msgs.length≤140737488355328∧∀ m∈d.msgs,MsgSm m
theorem cellsMessages:Pg.cellsOf 22=1:=by kernel_rfl
section
variable {H:Type} {enc:TypeId×Value→H} {w:World} {base:Nat} {spare:Nat→Bool} {held:Bool}
theorem term_of {m:Nat} {cs:List Value} {y:DataW H×List MemPlace} (h:DataW.trod enc Pg w base spare held m 113 cs=some y) (hr:Reached Pg 113 y.1):∃ x,ETerm w cs x:=by
 obtain ⟨hl,n,hf⟩:=struct_of_trod Tryz.underlying113 cellsTerm h hr
 obtain ⟨y0,h0,r0⟩:=hf 0 9 0 1 rfl cellsString
 obtain ⟨y1,h1,r1⟩:=hf 1 3 1 1 rfl cellsInt
 match cs,hl with
 | [c0,c1],_ =>
  obtain ⟨s,e0,_⟩:=DataW.trod_string Tryz.underlying9 h0
  obtain ⟨k,e1,_⟩:=DataW.trod_int Tryz.underlying3 h1
  simp at e0 e1
  subst e0 e1
  exact ⟨⟨s,k⟩,rfl⟩
theorem case_of {m:Nat} {cs:List Value} {y:DataW H×List MemPlace} (h:DataW.trod enc Pg w base spare held m 85 cs=some y) (hr:Reached Pg 85 y.1):∃ x,ECase w cs x∧x.of.size≤140737488355328:=by
 obtain ⟨hl,n,hf⟩:=struct_of_trod Tryz.underlying85 cellsCase h hr
 obtain ⟨y0,h0,r0⟩:=hf 0 3 0 1 rfl cellsInt
 obtain ⟨y1,h1,r1⟩:=hf 1 3 1 1 rfl cellsInt
 obtain ⟨y2,h2,r2⟩:=hf 2 9 2 1 rfl cellsString
 match cs,hl with
 | [c0,c1,c2],_ =>
  obtain ⟨a,e0,_⟩:=DataW.trod_int Tryz.underlying3 h0
  obtain ⟨b,e1,_⟩:=DataW.trod_int Tryz.underlying3 h1
  obtain ⟨s,e2,e3,_⟩:=DataW.trod_string Tryz.underlying9 h2
  simp at e0 e1 e2
  subst e0 e1 e2
  refine ⟨⟨a,b,s⟩,rfl,?_⟩
  have:=r2 s.data.toList.length (by rw [e3];exact List.mem_singleton.2 rfl)
  simp only [reachBytes] at this
  have h4:s.size=s.data.toList.length:=Array.length_toList.symm
  show s.size≤_
  omega
theorem size_of {m:Nat} {cs:List Value} {y:DataW H×List MemPlace} (h:DataW.trod enc Pg w base spare held m 68 cs=some y) (hr:Reached Pg 68 y.1):∃ b tv ts,cs=[.int .i64 b,tv]∧TermsOf w tv ts∧ts.length≤140737488355328:=by
 obtain ⟨hl,n,hf⟩:=struct_of_trod Tryz.underlying68 cellsSize h hr
 obtain ⟨y0,h0,r0⟩:=hf 0 3 0 1 rfl cellsInt
 obtain ⟨y1,h1,r1⟩:=hf 1 66 1 1 rfl cellsTerms
 match cs,hl with
 | [c0,c1],_ =>
  obtain ⟨a,e0,_⟩:=DataW.trod_int Tryz.underlying3 h0
  obtain ⟨v,l,e1,hS,_,hL⟩:=slice_of_trod (E:=ETerm) (Q:=fun _=>True) Tryz.underlying66 cellsTerm bytesTerm (by decide) (fun _ _ _ h hr=>let ⟨x,hx⟩:=term_of h hr; ⟨x,hx,trivial⟩) h1 r1
  simp at e0 e1
  subst e0 e1
  exact ⟨a,_,l,rfl,hS,hL⟩
theorem field_of {m:Nat} {cs:List Value} {y:DataW H×List MemPlace} (h:DataW.trod enc Pg w base spare held m 71 cs=some y) (hr:Reached Pg 71 y.1):∃ x,EField w cs x∧FieldSm x:=by
 obtain ⟨hl,n,hf⟩:=struct_of_trod Tryz.underlying71 cellsField h hr
 obtain ⟨y0,h0,r0⟩:=hf 0 9 0 1 rfl cellsString
 obtain ⟨y1,h1,r1⟩:=hf 1 65 1 1 rfl cellsKind
 obtain ⟨y2,h2,r2⟩:=hf 2 3 2 1 rfl cellsInt
 obtain ⟨y3,h3,r3⟩:=hf 3 4 3 1 rfl cellsBool
 obtain ⟨y4,h4,r4⟩:=hf 4 4 4 1 rfl cellsBool
 obtain ⟨y5,h5,r5⟩:=hf 5 3 5 1 rfl cellsInt
 obtain ⟨y6,h6,r6⟩:=hf 6 3 6 1 rfl cellsInt
 obtain ⟨y7,h7,r7⟩:=hf 7 68 7 2 rfl cellsSize
 obtain ⟨y8,h8,r8⟩:=hf 8 9 9 1 rfl cellsString
 obtain ⟨y9,h9,r9⟩:=hf 9 9 10 1 rfl cellsString
 obtain ⟨y10,h10,r10⟩:=hf 10 9 11 1 rfl cellsString
 obtain ⟨y11,h11,r11⟩:=hf 11 69 12 1 rfl cellsCases
 obtain ⟨y12,h12,r12⟩:=hf 12 3 13 1 rfl cellsInt
 obtain ⟨y13,h13,r13⟩:=hf 13 3 14 1 rfl cellsInt
 match cs,hl with
 | [c0,c1,c2,c3,c4,c5,c6,c7,c8,c9,c10,c11,c12,c13,c14],_ =>
  obtain ⟨x0,e0,_⟩:=DataW.trod_string Tryz.underlying9 h0
  obtain ⟨x1,e1,_⟩:=DataW.trod_int Tryz.underlying65 h1
  obtain ⟨x2,e2,_⟩:=DataW.trod_int Tryz.underlying3 h2
  obtain ⟨x3,e3,_⟩:=DataW.trod_bool Tryz.underlying4 h3
  obtain ⟨x4,e4,_⟩:=DataW.trod_bool Tryz.underlying4 h4
  obtain ⟨x5,e5,_⟩:=DataW.trod_int Tryz.underlying3 h5
  obtain ⟨x6,e6,_⟩:=DataW.trod_int Tryz.underlying3 h6
  obtain ⟨x7,tv,ts,e7,hT,hTl⟩:=size_of h7 r7
  obtain ⟨x9,e9,_⟩:=DataW.trod_string Tryz.underlying9 h8
  obtain ⟨x10,e10,_⟩:=DataW.trod_string Tryz.underlying9 h9
  obtain ⟨x11,e11,_⟩:=DataW.trod_string Tryz.underlying9 h10
  obtain ⟨cv,l,e12,hC,hCq,hCl⟩:=slice_of_trod (E:=ECase) (Q:=fun c=>c.of.size≤140737488355328) Tryz.underlying69 cellsCase bytesCase (by decide) (fun _ _ _ h hr=>case_of h hr) h11 r11
  obtain ⟨x13,e13,_⟩:=DataW.trod_int Tryz.underlying3 h12
  obtain ⟨x14,e14,_⟩:=DataW.trod_int Tryz.underlying3 h13
  simp at e0 e1 e2 e3 e4 e5 e6 e7 e9 e10 e11 e12 e13 e14
  obtain ⟨e7,e8⟩:=e7
  subst e0 e1 e2 e3 e4 e5 e6 e7 e8 e9 e10 e11 e12 e13 e14
  exact ⟨⟨x0,x1,x2,x3,x4,x5,x6,x7,ts,x9,x10,x11,l,x13,x14⟩,⟨_,_,rfl,hT,hC⟩,hTl,hCl,hCq⟩
theorem msg_of {m:Nat} {cs:List Value} {y:DataW H×List MemPlace} (h:DataW.trod enc Pg w base spare held m 53 cs=some y) (hr:Reached Pg 53 y.1):∃ x,EMsg w cs x∧MsgSm x:=by
 obtain ⟨hl,n,hf⟩:=struct_of_trod Tryz.underlying53 cellsMessage h hr
 obtain ⟨y0,h0,r0⟩:=hf 0 9 0 1 rfl cellsString
 obtain ⟨y1,h1,r1⟩:=hf 1 51 1 1 rfl cellsFields
 match cs,hl with
 | [c0,c1],_ =>
  obtain ⟨a,e0,_⟩:=DataW.trod_string Tryz.underlying9 h0
  obtain ⟨v,l,e1,hS,hQ,hL⟩:=slice_of_trod (E:=EField) (Q:=FieldSm) Tryz.underlying51 cellsField bytesField (by decide) (fun _ _ _ h hr=>field_of h hr) h1 r1
  simp at e0 e1
  subst e0 e1
  exact ⟨⟨a,l⟩,⟨_,rfl,hS⟩,hL,hQ⟩
theorem def_of {m:Nat} {cs:List Value} {y:DataW H×List MemPlace} (h:DataW.trod enc Pg w base spare held m 24 cs=some y) (hr:Reached Pg 24 y.1):∃ d mv,cs=defCells d mv∧MsgsOf w mv d.msgs∧DefSm d:=by
 obtain ⟨hl,n,hf⟩:=struct_of_trod Tryz.underlying24 cellsDefinition h hr
 obtain ⟨y0,h0,r0⟩:=hf 0 9 0 1 rfl cellsString
 obtain ⟨y1,h1,r1⟩:=hf 1 22 1 1 rfl cellsMessages
 obtain ⟨y2,h2,r2⟩:=hf 2 9 2 1 rfl cellsString
 match cs,hl with
 | [c0,c1,c2],_ =>
  obtain ⟨a,e0,_⟩:=DataW.trod_string Tryz.underlying9 h0
  obtain ⟨v,l,e1,hS,hQ,hL⟩:=slice_of_trod (E:=EMsg) (Q:=MsgSm) Tryz.underlying22 cellsMessage bytesMessage (by decide) (fun _ _ _ h hr=>msg_of h hr) h1 r1
  obtain ⟨b,e2,_⟩:=DataW.trod_string Tryz.underlying9 h2
  simp at e0 e1 e2
  subst e0 e1 e2
  exact ⟨⟨a,l,b⟩,_,rfl,hS,hL,hQ⟩
theorem def_val {r:Reach} {b0:Nat} {v:Value} {d:DataW H} {ps:List MemPlace} (hval:Value.okWide Pg w r b0 24 v) (h:DataW.Trod enc Pg w base spare held 24 v d ps) (hr:Reached Pg 24 d):∃ f,DefVal w v f∧DefSm f:=by
 obtain ⟨cs,rfl,_⟩:=okWide_struct Tryz.underlying24 hval
 obtain ⟨fuel,hf⟩:=h
 obtain ⟨f,tv,h1,h2,hs⟩:=def_of hf hr
 exact ⟨f,⟨tv,congrArg Value.agg (by rw [← h1,cells_agg]),h2⟩,hs⟩
end
end Go.Proofs.YtfdecdnmooaegaaGreatDoor
namespace Go.Proofs.YtfdecdnmooaegaaGreatDoor
open Sw
open Go.RowKit (intOf Below)
def smallF (f:FieldD):Prop:=f.name.size≤100∧f.cases.length≤20∧f.terms.length≤6
def smallM (m:MsgD):Prop:=m.fields.length≤20∧m.name.size≤100∧∀ f∈m.fields,smallF f
def smallP (d:DefD):Prop:=d.msgs.length≤12∧∀ m∈d.msgs,smallM m
theorem all_step {α:Type} {p:α→Prop} {l:List α} {k:Nat} {x:α} (h:∀ y∈l.take k,p y) (hx:l[k]?=some x) (hp:p x):∀ y∈l.take (k+1),p y:=by
 rw [take_snoc hx]
 intro y hy
 rcases List.mem_append.1 hy with hy | hy
 · exact h y hy
 · simp only [List.mem_singleton] at hy;subst hy;exact hp
theorem lsmall_ret (w0:World) (v:Value) (d:DefD) (hd:DefVal w0 v d):Ret Pg 8 #[v] w0 fun r w'=>∃ b,r = .bool b∧(b=true→smallP d)∧Ext w0 w':=by
 obtain ⟨mv,rfl,hM⟩:=hd
 obtain ⟨A,c,rfl,hlc,hcm,hlm,hel⟩:=SliceOf.open hM
 refine n25s (R:=retR _) ?_;unfold n25
 rw [op_boxA]
 have hBW:=ElemAt.new (w:=w0) (defCells d (.slice A d.msgs.length c)) (24)
 have eW:Ext w0 (w0.alloc (Obj.cells (List.toArray (defCells d (.slice A d.msgs.length c))) (24))):=(Ext.refl _).alloc _
 generalize (w0.alloc (Obj.cells (List.toArray (defCells d (.slice A d.msgs.length c))) (24)))=W at hBW eW ⊢
 have no:∀ w,Ext W w→∃ b:Bool,Value.bool false=Value.bool b∧(b=true→smallP d)∧Ext w0 w:=fun w e=>⟨false,rfl,⟨fun h=>(by cases h),eW.trans e⟩⟩
 by_cases h1:d.msgs.length≤12
 · have d1:decide ((d.msgs.length:Int) > 12)=false:=decide_eq_false (by omega)
   by_cases h2:d.name.size≤100
   · have d2:decide ((d.name.size:Int) > 100)=false:=decide_eq_false (by omega)
     by_cases h3:d.start.size≤100
     · have d3:decide ((d.start.size:Int) > 100)=false:=decide_eq_false (by omega)
       simp (disch:=try exact DI) only [↓PR,QR,simprocAttr,hBW.c3 (Ext.refl W),d1,d2,↓n25c8,d3]
       refine loop1_intro (fun a0 w=>∃ (k:Nat) , a0 = .int .i64 (k:Int)∧k≤d.msgs.length∧Ext W w∧∀ m∈d.msgs.take k,smallM m) (fun a0 _=>d.msgs.length - (intOf a0).toNat) ⟨0,rfl,Nat.zero_le _,ee,by simp⟩ ?_
       rintro _ w ⟨k,rfl,hk,e,hI⟩
       have se:=e.size
       rcases drop_cases hk with ⟨x,hx,hd,hlt,hdec⟩ | ⟨hk,hd,hdec⟩
       · obtain ⟨b,o,cs,rfl,_,hA,fv,rfl,hF⟩:=hel k x hx
         obtain ⟨Af,cf,rfl,_,_,hlmf,helf⟩:=SliceOf.open hF
         have e':=eW.trans e
         unfold n25c7
         by_cases g1:x.fields.length≤20
         · have f1:decide ((x.fields.length:Int) > 20)=false:=decide_eq_false (by omega)
           by_cases g2:x.name.size≤100
           · have f2:decide ((x.name.size:Int) > 100)=false:=decide_eq_false (by omega)
             simp (disch:=try exact DI) only [↓PR,QR,simprocAttr,hBW.c3 e,hdec,↓n25c6,hA.c2 e',f1,f2]
             have o4:=heap_new w #[.string x.name,.slice Af x.fields.length cf] 53
             have e4:Ext w (w.alloc (.cells #[.string x.name,.slice Af x.fields.length cf] 53)):=ee
             generalize hp4:w.heap.size=p4 at o4 ⊢
             generalize (w.alloc (.cells #[.string x.name,.slice Af x.fields.length cf] 53))=w4 at o4 e4 ⊢
             refine loop1_intro (fun a0 wb=>∃ (kb:Nat) , a0 = .int .i64 (kb:Int)∧kb≤x.fields.length∧Ext w4 wb∧∀ f∈x.fields.take kb,smallF f) (fun a0 _=>x.fields.length - (intOf a0).toNat) ⟨0,rfl,Nat.zero_le _,ee,by simp⟩ ?_
             rintro _ wb ⟨kb,rfl,hkb,eb,hIb⟩
             have seb:=eb.size
             rcases drop_cases hkb with ⟨xb,hxb,hdb,hltb,hdecb⟩ | ⟨hkb,hdb,hdecb⟩
             · obtain ⟨b2,o2,cs2,rfl,_,hA2,tv,cv,rfl,hT,hC⟩:=helf kb xb hxb
               obtain ⟨At,ct,rfl,_,_,_,_⟩:=SliceOf.open hT
               obtain ⟨Ac,cc,rfl,_,_,_,_⟩:=SliceOf.open hC
               have eb':=e'.trans (e4.trans eb)
               have c4:=cells_of_heap (eb.obj o4)
               have no':=no _ (e.trans (e4.trans eb))
               unfold n25c5
               by_cases k1:xb.name.size≤100
               · have l1:decide ((xb.name.size:Int) > 100)=false:=decide_eq_false (by omega)
                 by_cases k2:xb.cases.length≤20
                 · have l2:decide ((xb.cases.length:Int) > 20)=false:=decide_eq_false (by omega)
                   by_cases k3:xb.terms.length≤6
                   · have l3:decide ((xb.terms.length:Int) > 6)=false:=decide_eq_false (by omega)
                     simp (disch:=try exact DI) only [↓PR,QR,simprocAttr,c4.1,hdecb,↓n25c4,↓n25c3,↓n25c2,↓n25c1,hA2.c15 eb',l1,l2,l3]
                     exact ⟨⟨kb+1,rfl,by omega,ee,all_step hIb hxb ⟨k1,k2,k3⟩⟩,meas_lt (kd := .i64) hltb⟩
                   · have l3:decide ((xb.terms.length:Int) > 6)=true:=decide_eq_true (by omega)
                     simp (disch:=try exact DI) only [↓PR,QR,simprocAttr,c4.1,hdecb,↓n25c4,↓n25c3,↓n25c2,↓n25c1,hA2.c15 eb',l1,l2,l3]
                     exact no'
                 · have l2:decide ((xb.cases.length:Int) > 20)=true:=decide_eq_true (by omega)
                   simp (disch:=try exact DI) only [↓PR,QR,simprocAttr,c4.1,hdecb,↓n25c4,↓n25c3,↓n25c2,↓n25c1,hA2.c15 eb',l1,l2]
                   exact no'
               · have l1:decide ((xb.name.size:Int) > 100)=true:=decide_eq_true (by omega)
                 simp (disch:=try exact DI) only [↓PR,QR,simprocAttr,c4.1,hdecb,↓n25c4,↓n25c3,↓n25c2,↓n25c1,hA2.c15 eb',l1]
                 exact no'
             · subst hkb
               rw [List.take_length] at hIb
               have c4:=cells_of_heap (eb.obj o4)
               have ee':=e.trans (e4.trans eb)
               unfold n25c5
               simp (disch:=try exact DI) only [↓PR,QR,simprocAttr,c4.1,hdecb]
               exact ⟨⟨k+1,rfl,by omega,ee,all_step hI hx ⟨g1,g2,hIb⟩⟩,meas_lt (kd := .i64) hlt⟩
           · have f2:decide ((x.name.size:Int) > 100)=true:=decide_eq_true (by omega)
             simp (disch:=try exact DI) only [↓PR,QR,simprocAttr,hBW.c3 e,hdec,↓n25c6,hA.c2 e',f1,f2]
             exact no _ (e.alloc _)
         · have f1:decide ((x.fields.length:Int) > 20)=true:=decide_eq_true (by omega)
           simp (disch:=try exact DI) only [↓PR,QR,simprocAttr,hBW.c3 e,hdec,↓n25c6,hA.c2 e',f1]
           exact no _ (e.alloc _)
       · subst hk
         rw [List.take_length] at hI
         unfold n25c7
         simp (disch:=try exact DI) only [↓PR,QR,simprocAttr,hBW.c3 e,hdec]
         exact ⟨_,rfl,fun _=>⟨h1,hI⟩,eW.trans e⟩
     · have d3:decide ((d.start.size:Int) > 100)=true:=decide_eq_true (by omega)
       simp (disch:=try exact DI) only [↓PR,QR,simprocAttr,hBW.c3 (Ext.refl W),d1,d2,↓n25c8,d3]
       exact no _ (Ext.refl _)
   · have d2:decide ((d.name.size:Int) > 100)=true:=decide_eq_true (by omega)
     simp (disch:=try exact DI) only [↓PR,QR,simprocAttr,hBW.c3 (Ext.refl W),d1,d2,↓n25c8]
     exact no _ (Ext.refl _)
 · have d1:decide ((d.msgs.length:Int) > 12)=true:=decide_eq_true (by omega)
   simp (disch:=try exact DI) only [↓PR,QR,simprocAttr,hBW.c3 (Ext.refl W),d1,↓n25c8]
   exact no _ (Ext.refl _)
theorem srefsF_len {f:FieldD} (h:smallF f):(refsF f).length≤20:=by
 unfold refsF
 split
 · simp
 · split
   · simpa using h.2.1
   · simp
theorem sallRefs_len:∀ {l:List FieldD},(∀ f∈l,smallF f)→(allRefs l).length≤l.length*20
 | [],_=>by simp [allRefs]
 | f::l,h=>by
  have h1:=srefsF_len (h f (List.mem_cons_self ..))
  have h2:=sallRefs_len (l:=l) (fun g hg=>h g (List.mem_cons_of_mem _ hg))
  unfold allRefs at *
  rw [List.flatMap_cons,List.length_append,List.length_cons]
  omega
section
variable {d:DefD}
theorem small_calm (h:smallP d):calm d:=fun m hm=>by
 obtain ⟨h1,_,h3⟩:=h.2 m hm
 have:=sallRefs_len h3
 exact ⟨by omega,fun f hf=>by have:=(h3 f hf).2.2;omega⟩
theorem small_tame (h:smallP d):tame d:=⟨by have:=h.1;omega,fun m hm=>⟨by have:=(h.2 m hm).1;omega,fun f hf=>⟨by have:=((h.2 m hm).2.2 f hf).2.2;omega,by have:=((h.2 m hm).2.2 f hf).2.1;omega⟩⟩⟩
theorem small_names (h:smallP d):Names100 d:=fun m hm=>⟨(h.2 m hm).2.1,fun f hf=>((h.2 m hm).2.2 f hf).1⟩
theorem small_lenK {l:List FieldD} (h:∀ f∈l,smallF f):∀ k,lenK l k≤k*21
 | 0=>Nat.le_refl _
 | k+1=>by
  have:=small_lenK h k
  unfold lenK
  cases hf:l[k]? with
  | none=>simp;omega
  | some f =>
   have:=(h f (List.mem_of_getElem? hf)).2.1
   have:lenF f≤21:=by unfold lenF;split<;>omega
   simp only
   omega
theorem small_rout {l:List MsgD} (h:∀ m∈l,smallM m) (r:Nat→Bool):∀ k,routN l r k≤2+k*422
 | 0=>Nat.le_refl _
 | k+1=>by
  have:=small_rout h r k
  unfold routN
  cases hm:l[k]? with
  | none=>simp;omega
  | some m =>
   obtain ⟨h1,_,h3⟩:=h m (List.mem_of_getElem? hm)
   have h4:=small_lenK h3 m.fields.length
   have:lenM m≤422:=by unfold lenM;omega
   simp only
   split<;>omega
theorem small_size (h:smallP d):sizeP d≤100000:=by
 have:=small_rout h.2 (reachD d) d.msgs.length
 have:=h.1
 unfold sizeP
 omega
end
theorem num_ret (w0:World) (v:Value):Ret Pg 15 #[v] w0 fun r w'=>r=v∧Ext w0 w':=by
 refine n24s (R:=retR _) ?_;unfold n24
 exact ⟨_,rfl,rfl,Ext.refl _⟩
def zFd:FieldD:={ name:=ByteArray.empty,kind:=0,bits:=0,little:=false,loose:=false,low:=0,high:=0,base:=0,terms:=[],of:=ByteArray.empty,tag:=ByteArray.empty,fr:=ByteArray.empty,cases:=[],check:=0,key:=0 }
def fAx:FieldD:={ zFd with name:=⟨#[120]⟩,kind:=1,bits:=8,high:=1 }
def fBz:FieldD:={ zFd with name:=⟨#[122]⟩,kind:=2,bits:=8 }
def fSn:FieldD:={ zFd with name:=⟨#[110]⟩,kind:=1,bits:=8,high:=3 }
def fSt:FieldD:={ zFd with name:=⟨#[116]⟩,kind:=2,bits:=8,low:=2 }
def fSl:FieldD:={ zFd with name:=⟨#[108]⟩,kind:=7,of:=⟨#[97]⟩,terms:=[⟨⟨#[110]⟩,1⟩] }
def fSc:FieldD:={ zFd with name:=⟨#[99]⟩,kind:=9,tag:=⟨#[116]⟩,cases:=[⟨2,2,⟨#[97]⟩⟩] }
def xA:MsgD:=⟨⟨#[97]⟩,[fAx]⟩
def xB:MsgD:=⟨⟨#[98]⟩,[fBz]⟩
def xS:MsgD:=⟨⟨#[115]⟩,[fSn,fSt,fSl,fSc]⟩
def gv18:DefD:=⟨⟨#[100]⟩,[xA,xB,xS],⟨#[115]⟩⟩
theorem gv_small:smallP gv18:=by
 refine ⟨by decide,?_⟩
 intro m hm
 simp only [gv18,List.mem_cons,List.not_mem_nil,or_false] at hm
 rcases hm with rfl | rfl | rfl
 all_goals
  refine ⟨by decide,by decide,?_⟩
  intro f hf
  simp only [xA,xB,xS,List.mem_cons,List.not_mem_nil,or_false] at hf
  rcases hf with rfl | rfl | rfl | rfl<;>exact ⟨by decide,by decide,by decide⟩
theorem gv_ok:flawedA gv18=false:=by decide +kernel
theorem gv_size:sizeP gv18=12:=by decide +kernel
theorem gv_rs:routE gv18 ⟨#[115]⟩=some 5:=by decide +kernel
theorem gv_gs:regE gv18 ⟨#[115]⟩=some 2:=by decide +kernel
theorem gv_ga:regE gv18 ⟨#[97]⟩=some 0:=by decide +kernel
theorem gv_rb:routE gv18 ⟨#[98]⟩=none:=by decide +kernel
theorem gv_text:textN gv18 (codeP gv18) 12=⟨#[48,32,99,97,108,108,32,53,10,49,32,115,116,111,112,10,50,32,101,110,116,101,114,32,97,10,51,32,114,101,97,100,32,97,46,120,10,52,32,114,101,116,117,114,110,32,97,10,53,32,101,110,116,101,114,32,115,10,54,32,114,101,97,100,32,115,46,110,32,114,48,10,55,32,114,101,97,100,32,115,46,116,32,114,49,10,56,32,109,97,110,121,32,115,46,108,32,50,10,57,32,115,101,108,101,99,116,32,115,46,99,10,49,48,32,99,97,115,101,32,50,45,50,32,50,10,49,49,32,114,101,116,117,114,110,32,115]⟩:=by decide +kernel
theorem rows_given {α:Type} {w:World} {b n:Nat} {T:TypeId} {E:World→List Value→α→Prop} (css:List (List Value)) (l:List α) (hn0:0 < n) (h:w.heap[b]?=some (.cells css.flatten.toArray T (0,0))) (hn:∀ cs∈css,cs.length=n) (hl:l.length=css.length) (hb:l.length≤1048576) (hE:∀ (k:Nat) cs x,css[k]?=some cs→l[k]?=some x→E w cs x):SliceOf w n E (.slice (some ⟨b,0,none⟩) l.length l.length) l:=by
 refine ⟨_,_,rfl,Nat.le_refl _,by omega,fun _=>⟨b,0,rfl,fun k x hx=>?_⟩⟩
 obtain ⟨cs,hcs⟩:=getElem?_lt (l:=css) (k:=k) (by have:=(List.getElem?_eq_some_iff.1 hx).1;omega)
 refine ⟨cs,hn cs (List.mem_of_getElem? hcs),fun j u hu=>?_,hE k cs x hcs hx⟩
 rw [(cells_of_heap h).1]
 have hj:j < n:=by have:=(List.getElem?_eq_some_iff.1 hu).1;rw [hn cs (List.mem_of_getElem? hcs)] at this;exact this
 have key:∀ (css:List (List Value)) (k:Nat),(∀ cs∈css,cs.length=n)→css[k]?=some cs→css.flatten[k*n+j]?=some u:=by
  intro css
  induction css with
  | nil=>intro k _ h;cases h
  | cons c css ih =>
   intro k hn h
   have hc:=hn c (List.mem_cons_self ..)
   cases k with
   | zero =>
    injection h with h
    subst h
    rw [List.flatten_cons,Nat.zero_mul,Nat.zero_add,List.getElem?_append_left (by omega)]
    exact hu
   | succ k =>
    rw [List.flatten_cons,List.getElem?_append_right (by rw [hc,Nat.succ_mul];omega),hc,show (k+1)*n+j - n=k*n+j by rw [Nat.succ_mul];omega]
    exact ih k (fun cs hm=>hn cs (List.mem_cons_of_mem _ hm)) h
 have:=key css k hn hcs
 simpa using this
theorem given18_ret (w0:World):Ret Pg 30 #[] w0 fun r w'=>DefVal w' r gv18∧Ext w0 w':=by
 refine n21s (R:=retR _) ?_;unfold n21
 simp (disch:=try exact DI) only [↓PR,QR,simprocAttr]
 generalize hn:w0.heap.size=n
 refine ⟨⟨_,rfl,?_⟩,ee⟩
 subst hn
 have r1:∀ (f:FieldD) (k:Nat) (cs:List Value) (x:FieldD) (w:World),f.terms=[]→f.cases=[]→[fieldCells f (.slice none 0 0) (.slice none 0 0)][k]?=some cs→[f][k]?=some x→EField w cs x:=fun f k cs x w ht hc h1 h2=>by
  match k with
  | 0=>injection h1 with h1;injection h2 with h2;subst h1 h2;exact ⟨_,_,rfl,by rw [ht];exact SliceOf.nil _ _ _,by rw [hc];exact SliceOf.nil _ _ _⟩
 refine rows_given (T:=53) [msgCells xA (.slice (some ⟨w0.heap.size+1,0,none⟩) 1 1),msgCells xB (.slice (some ⟨w0.heap.size+3,0,none⟩) 1 1),msgCells xS (.slice (some ⟨w0.heap.size+7,0,none⟩) 4 4)] gv18.msgs (by decide) (by simp (disch:=try exact DI) only [↓PR,QR,simprocAttr];rfl) (by simp [msgCells]) rfl (by decide) fun k cs x h1 h2=>?_
 match k with
 | 0 =>
  injection h1 with h1;injection h2 with h2;subst h1 h2
  exact ⟨_,rfl,rows_given [fieldCells fAx (.slice none 0 0) (.slice none 0 0)] [fAx] (by decide) (by simp (disch:=try exact DI) only [↓PR,QR,simprocAttr];rfl) (by simp [fieldCells]) rfl (by decide) fun k cs x h1 h2=>r1 fAx k cs x _ rfl rfl h1 h2⟩
 | 1 =>
  injection h1 with h1;injection h2 with h2;subst h1 h2
  exact ⟨_,rfl,rows_given [fieldCells fBz (.slice none 0 0) (.slice none 0 0)] [fBz] (by decide) (by simp (disch:=try exact DI) only [↓PR,QR,simprocAttr];rfl) (by simp [fieldCells]) rfl (by decide) fun k cs x h1 h2=>r1 fBz k cs x _ rfl rfl h1 h2⟩
 | 2 =>
  injection h1 with h1;injection h2 with h2;subst h1 h2
  refine ⟨_,rfl,rows_given [fieldCells fSn (.slice none 0 0) (.slice none 0 0),fieldCells fSt (.slice none 0 0) (.slice none 0 0),fieldCells fSl (.slice (some ⟨w0.heap.size+5,0,none⟩) 1 1) (.slice none 0 0),fieldCells fSc (.slice none 0 0) (.slice (some ⟨w0.heap.size+6,0,none⟩) 1 1)] xS.fields (by decide) (by simp (disch:=try exact DI) only [↓PR,QR,simprocAttr];rfl) (by simp [fieldCells]) rfl (by decide) fun k cs x h1 h2=>?_⟩
  match k with
  | 0=>injection h1 with h1;injection h2 with h2;subst h1 h2;exact ⟨_,_,rfl,SliceOf.nil _ _ _,SliceOf.nil _ _ _⟩
  | 1=>injection h1 with h1;injection h2 with h2;subst h1 h2;exact ⟨_,_,rfl,SliceOf.nil _ _ _,SliceOf.nil _ _ _⟩
  | 2 =>
   injection h1 with h1;injection h2 with h2;subst h1 h2
   refine ⟨_,_,rfl,?_,SliceOf.nil _ _ _⟩
   exact rows_given (T:=113) [termCells ⟨⟨#[110]⟩,1⟩] fSl.terms (by decide) (by simp (disch:=try exact DI) only [↓PR,QR,simprocAttr];rfl) (by simp [termCells]) rfl (by decide) fun k cs x h1 h2=>by
    match k with
    | 0=>injection h1 with h1;injection h2 with h2;subst h1 h2;rfl
  | 3 =>
   injection h1 with h1;injection h2 with h2;subst h1 h2
   refine ⟨_,_,rfl,SliceOf.nil _ _ _,?_⟩
   exact rows_given (T:=85) [caseCells ⟨2,2,⟨#[97]⟩⟩] fSc.cases (by decide) (by simp (disch:=try exact DI) only [↓PR,QR,simprocAttr];rfl) (by simp [caseCells]) rfl (by decide) fun k cs x h1 h2=>by
    match k with
    | 0=>injection h1 with h1;injection h2 with h2;subst h1 h2;rfl
theorem known18_ret (w0:World) (hT:TabOK w0):Ret Pg 9 #[] w0 fun r w'=>r = .bool true∧Ext w0 w':=by
 have hz:sizeP gv18≤100000:=small_size gv_small
 have hcv:=aligned_valid gv_ok
 refine n22s (R:=retR _) ?_;unfold n22
 refine callK_ret (given18_ret w0) ?_
 rintro gv w1 ⟨hD,e1⟩
 refine callK_ret (Compile_ret w1 _ gv18 hD (small_calm gv_small) (small_tame gv_small) hz) ?_
 rintro _ w2 ⟨hr,e2⟩
 rw [gv_ok,if_neg (by decide)] at hr
 obtain ⟨pb,rfl,hP⟩:=hr
 have E2:=e1.trans e2
 simp (disch:=try exact DI) only [↓PR,QR,simprocAttr,↓n22c15]
 refine zcr (num_ret _ _) fun w3 e3=>?_
 have P3:=hP.ext e3
 simp (disch:=try exact DI) only [↓PR,QR,simprocAttr,↓n22c14]
 rw [op_eqNilP Tryz.underlying27]
 simp only [Option.isNone_some]
 simp (disch:=try exact DI) only [↓PR,QR,simprocAttr,↓n22c13]
 refine zcr (Routine_ret P3 ⟨#[115]⟩) fun w4 e4=>?_
 rw [gv_rs]
 have P4:=P3.ext e4
 simp (disch:=try exact DI) only [↓PR,QR,simprocAttr,↓n22c12,Option.getD_some,Option.isSome_some]
 refine zcr (Registers_ret P4 ⟨#[115]⟩) fun w5 e5=>?_
 rw [gv_gs]
 have P5:=P4.ext e5
 simp (disch:=try exact DI) only [↓PR,QR,simprocAttr,↓n22c11,Option.getD_some,Option.isSome_some]
 refine zcr (Registers_ret P5 ⟨#[97]⟩) fun w6 e6=>?_
 rw [gv_ga]
 have P6:=P5.ext e6
 simp (disch:=try exact DI) only [↓PR,QR,simprocAttr,↓n22c10,Option.getD_some,Option.isSome_some]
 refine zcr (Routine_ret P6 ⟨#[98]⟩) fun w7 e7=>?_
 rw [gv_rb]
 have P7:=P6.ext e7
 simp (disch:=try exact DI) only [↓PR,QR,simprocAttr,↓n22c9,Option.getD_none,Option.isSome_none]
 refine zcr (Len_ret P7) fun w8 e8=>?_
 rw [gv_size]
 have P8:=P7.ext e8
 simp (disch:=try exact DI) only [↓PR,QR,simprocAttr,↓n22c8,↓n22c7,↓n22c6,↓n22c5]
 simp only [Option.isSome_some,Option.isSome_none,Bool.false_eq_true,if_true,if_false]
 refine zcr (num_ret _ _) fun w9 e9=>?_
 refine zcr (num_ret _ _) fun w10 e10=>?_
 have a10:IntKind.i64.wrap ((0:Int)+0)=0:=by decide
 simp (disch:=try exact DI) only [↓PR,QR,simprocAttr,↓n22c4,a10]
 refine zcr (num_ret _ _) fun w11 e11=>?_
 simp (disch:=try exact DI) only [↓PR,QR,simprocAttr,a10,↓n22c3]
 refine zcr (num_ret _ _) fun w12 e12=>?_
 have e812:=e9.trans (e10.trans (e11.trans e12))
 have E12:=(E2.trans (e3.trans (e4.trans (e5.trans (e6.trans (e7.trans e8)))))).trans e812
 simp (disch:=try exact DI) only [↓PR,QR,simprocAttr,↓n22c2]
 refine zcr (Text_ret (P8.ext e812) (hT.ext E12) (small_names gv_small) hcv hz) fun w13 e13=>?_
 rw [gv_size,gv_text]
 simp (disch:=try exact DI) only [↓PR,QR,simprocAttr,↓n22c1]
 exact ⟨by trivial,E12.trans e13⟩
def n20c1 (t9 t36:Value) (K10:World→Prop) (R:RT) (w:World):Prop :=
 opV Pg (Instr.fieldAt 36 t9 1) (panK R) w fun t184 w =>
 opV Pg (Instr.loadAt 3 t184) (panK R) w fun t185 w =>
 opV Pg (Instr.lookup 50 t36 t185 false) (panK R) w fun t186 w =>
 opV Pg (binS .add 3 true t186 (.int .i64 1)) (panK R) w fun t187 w =>
 opU Pg (Instr.mapUpdate 50 t36 t185 t187) (panK R) w fun w =>
 K10 w
def n20c2 (t9 t36:Value) (K10:World→Prop) (R:RT) (w:World):Prop :=
 opV Pg (Instr.fieldAt 36 t9 3) (panK R) w fun t176 w =>
 opV Pg (Instr.loadAt 3 t176) (panK R) w fun t177 w =>
 opV Pg (Instr.fieldAt 36 t9 1) (panK R) w fun t179 w =>
 opV Pg (Instr.loadAt 3 t179) (panK R) w fun t180 w =>
 opV Pg (Instr.lookup 50 t36 t180 false) (panK R) w fun t181 w =>
 opV Pg (binS .neq 3 false t177 t181) (panK R) w fun t182 w =>
 condP t182 (
 R (.returned (.bool false)) w) (
 n20c1 t9 t36 K10 R w)
def n20c3 (t8 t9 t36:Value) (next2:KV) (R:RT) (w:World):Prop :=
 opV Pg (Instr.fieldAt 36 t9 3) (panK R) w fun t173 w =>
 opV Pg (Instr.loadAt 3 t173) (panK R) w fun t174 w =>
 opV Pg (binS .geq 3 true t174 (.int .i64 0)) (panK R) w fun t175 w =>
 joinK (fun (w:World) =>
 opV Pg (binS .add 3 true t8 (.int .i64 1)) (panK R) w fun t44 w =>
 next2 t44 w) fun K10 =>
 condP t175 (
 n20c2 t9 t36 K10 R w) (
 K10 w)
def n20c4 (t7 t98 t105:Value) (C11:World→Prop) (K9:World→Prop) (R:RT) (w:World):Prop :=
 opV Pg (Builtin.append_ #[22,22] 22 #[t98,t105]) (panK R) w fun t106 w =>
 C11 w∧(
 qV Pg C11 (Instr.fieldAt 24 t7 1) fun t107 =>
 opU Pg (Instr.storeAt 22 t107 t106) (panK R) w fun w =>
 turnK w fun C12 w =>
 K9 w)
def n20c5 (t1 t7 t9:Value) (C11:World→Prop) (K9:World→Prop) (R:RT) (w:World):Prop :=
 qV Pg C11 (Instr.fieldAt 24 t7 1) fun t97 =>
 qV Pg C11 (Instr.loadAt 22 t97) fun t98 =>
 qV Pg C11 (Instr.fieldAt 24 t1 1) fun t99 =>
 qV Pg C11 (Instr.loadAt 22 t99) fun t100 =>
 qV Pg C11 (Instr.fieldAt 36 t9 1) fun t101 =>
 qV Pg C11 (Instr.loadAt 3 t101) fun t102 =>
 qV Pg C11 (Instr.indexAt 22 t100 t102) fun t103 =>
 qV Pg C11 (Instr.loadAt 53 t103) fun t104 =>
 opV Pg (Instr.buildSlice 22 1 #[(0,t104)]) (panK R) w fun t105 w =>
 C11 w∧(
 n20c4 t7 t98 t105 C11 K9 R w)
def n20c6 (t9 t35:Value) (C14:World→Prop) (K9:World→Prop) (R:RT) (w:World):Prop :=
 qV Pg C14 (Instr.fieldAt 36 t9 1) fun t118 =>
 qV Pg C14 (Instr.loadAt 3 t118) fun t119 =>
 qV Pg C14 (Instr.fieldAt 36 t9 2) fun t120 =>
 qV Pg C14 (Instr.loadAt 3 t120) fun t121 =>
 qV Pg C14 (Instr.build 54 #[(0,t119),(1,t121)]) fun t122 =>
 qV Pg C14 (Instr.lookup 49 t35 t122 false) fun t123 =>
 qV Pg C14 (binS .add 3 true t123 (.int .i64 1)) fun t124 =>
 opV Pg (Instr.mapEntry 49 t35 t122) (panK R) w fun t125 w =>
 C14 w∧(
 qV Pg C14 (Instr.extract t125 1) fun t126 =>
 opU Pg (Instr.entryStore 49 t35 t126 t124) (panK R) w fun w =>
 turnK w fun C15 w =>
 K9 w)
def n20c7 (t9 t15 t35:Value) (next17:KV) (R:RT) (w:World):Prop :=
 opV Pg (Instr.fieldAt 36 t9 1) (panK R) w fun t167 w =>
 opV Pg (Instr.loadAt 3 t167) (panK R) w fun t168 w =>
 opV Pg (Instr.build 54 #[(0,t168),(1,t15)]) (panK R) w fun t170 w =>
 opV Pg (Instr.lookup 49 t35 t170 false) (panK R) w fun t171 w =>
 opV Pg (binS .neq 3 true t171 (.int .i64 1)) (panK R) w fun t172 w =>
 condP t172 (
 R (.returned (.bool false)) w) (
 opV Pg (binS .add 3 true t15 (.int .i64 1)) (panK R) w fun t165 w =>
 next17 t165 w)
def n20c8 (t1 t9 t15 t35:Value) (K9:World→Prop) (next17:KV) (R:RT) (w:World):Prop :=
 opV Pg (Instr.fieldAt 24 t1 1) (panK R) w fun t155 w =>
 opV Pg (Instr.loadAt 22 t155) (panK R) w fun t156 w =>
 opV Pg (Instr.fieldAt 36 t9 1) (panK R) w fun t157 w =>
 opV Pg (Instr.loadAt 3 t157) (panK R) w fun t158 w =>
 opV Pg (Instr.indexAt 22 t156 t158) (panK R) w fun t159 w =>
 opV Pg (Instr.fieldAt 53 t159 1) (panK R) w fun t160 w =>
 opV Pg (Instr.loadAt 51 t160) (panK R) w fun t161 w =>
 opV Pg (Builtin.len_ #[51] 3 #[t161]) (panK R) w fun t162 w =>
 opV Pg (binS .lss 3 false t15 t162) (panK R) w fun t163 w =>
 condP t163 (
 n20c7 t9 t15 t35 next17 R w) (
 K9 w)
def n20c9 (t1 t9 t35 t145 t152:Value) (K9:World→Prop) (R:RT) (w:World):Prop :=
 pickK t145 (.bool true) t152 fun t153 =>
 condP t153 (
 R (.returned (.bool false)) w) (
 loop1 (fun t15 w next17 =>
 n20c8 t1 t9 t15 t35 K9 next17 R w) (.int .i64 0) w)
def n20c10 (t1 t9 t35 t36 t141 t144:Value) (K9:World→Prop) (R:RT) (w:World):Prop :=
 opV Pg (binS .neq 3 true t144 (.int .i64 0)) (panK R) w fun t145 w =>
 joinK (fun (t152:Value) (w:World) =>
 n20c9 t1 t9 t35 t145 t152 K9 R w) fun K16 =>
 guardP t145 false (
 opV Pg (Instr.fieldAt 36 t9 1) (panK R) w fun t149 w =>
 opV Pg (Instr.loadAt 3 t149) (panK R) w fun t150 w =>
 opV Pg (Instr.lookup 50 t36 t150 false) (panK R) w fun t151 w =>
 opV Pg (binS .neq 3 false t141 t151) (panK R) w fun t152 w =>
 K16 t152 w) (
 K16 undef w)
def n20c11 (t1 t9 t35 t36 t140:Value) (K9:World→Prop) (R:RT) (w:World):Prop :=
 opV Pg (Instr.extract t140 0) (panK R) w fun t141 w =>
 opV Pg (Instr.extract t140 1) (panK R) w fun t142 w =>
 callK Pg 15 #[t142] (panK R) w fun t144 w =>
 n20c10 t1 t9 t35 t36 t141 t144 K9 R w
def n20c12 (t1 t9 t30 t35 t36:Value) (K9:World→Prop) (R:RT) (w:World):Prop :=
 opV Pg (Instr.fieldAt 24 t1 1) (panK R) w fun t133 w =>
 opV Pg (Instr.loadAt 22 t133) (panK R) w fun t134 w =>
 opV Pg (Instr.fieldAt 36 t9 1) (panK R) w fun t135 w =>
 opV Pg (Instr.loadAt 3 t135) (panK R) w fun t136 w =>
 opV Pg (Instr.indexAt 22 t134 t136) (panK R) w fun t137 w =>
 opV Pg (Instr.fieldAt 53 t137 0) (panK R) w fun t138 w =>
 opV Pg (Instr.loadAt 9 t138) (panK R) w fun t139 w =>
 callK Pg 21 #[t30,t139] (panK R) w fun t140 w =>
 n20c11 t1 t9 t35 t36 t140 K9 R w
def n20c13 (t1 t9 t30 t35 t36:Value) (K9:World→Prop) (R:RT) (w:World):Prop :=
 opV Pg (Instr.fieldAt 36 t9 0) (panK R) w fun t128 w =>
 opV Pg (Instr.loadAt 34 t128) (panK R) w fun t129 w =>
 opV Pg (binS .eql 34 true t129 (.int .i64 10)) (panK R) w fun t130 w =>
 condP t130 (
 n20c12 t1 t9 t30 t35 t36 K9 R w) (
 K9 w)
def n20c14 (t1 t9 t30 t35 t36:Value) (K9:World→Prop) (R:RT) (w:World):Prop :=
 opV Pg (Instr.fieldAt 36 t9 2) (panK R) w fun t109 w =>
 opV Pg (Instr.loadAt 3 t109) (panK R) w fun t110 w =>
 opV Pg (binS .geq 3 true t110 (.int .i64 0)) (panK R) w fun t111 w =>
 joinK (fun (t115:Value) (w:World) =>
 pickK t111 t115 (.bool false) fun t116 =>
 condP t116 (
 drawK w fun C14 w =>
 n20c6 t9 t35 C14 K9 R w) (
 n20c13 t1 t9 t30 t35 t36 K9 R w)) fun K13 =>
 guardP t111 true (
 opV Pg (Instr.fieldAt 36 t9 0) (panK R) w fun t113 w =>
 opV Pg (Instr.loadAt 34 t113) (panK R) w fun t114 w =>
 opV Pg (binS .neq 34 true t114 (.int .i64 8)) (panK R) w fun t115 w =>
 K13 t115 w) (
 K13 undef w)
def n20c15 (t1 t7 t8 t9 t30 t35 t36:Value) (next2:KV) (R:RT) (w:World):Prop :=
 opV Pg (Instr.fieldAt 36 t9 0) (panK R) w fun t94 w =>
 opV Pg (Instr.loadAt 34 t94) (panK R) w fun t95 w =>
 opV Pg (binS .eql 34 true t95 (.int .i64 3)) (panK R) w fun t96 w =>
 joinK (fun (w:World) =>
 n20c3 t8 t9 t36 next2 R w) fun K9 =>
 condP t96 (
 drawK w fun C11 w =>
 n20c5 t1 t7 t9 C11 K9 R w) (
 n20c14 t1 t9 t30 t35 t36 K9 R w)
def n20c16 (t1 t7 t8 t9 t30 t35 t36 t77 t82 t90:Value) (next2:KV) (R:RT) (w:World):Prop :=
 joinK (fun (t91:Value) (w:World) =>
 pickK t77 (.bool true) t91 fun t92 =>
 condP t92 (
 R (.returned (.bool false)) w) (
 n20c15 t1 t7 t8 t9 t30 t35 t36 next2 R w)) fun K8 =>
 guardP t77 false (
 pickK t82 t90 (.bool false) fun t91 =>
 K8 t91 w) (
 K8 undef w)
def n20c17 (t1 t7 t8 t9 t30 t35 t36 t77 t82 t86 t89:Value) (next2:KV) (R:RT) (w:World):Prop :=
 joinK (fun (t90:Value) (w:World) =>
 n20c16 t1 t7 t8 t9 t30 t35 t36 t77 t82 t90 next2 R w) fun K7 =>
 guardP t82 true (
 pickK t86 (.bool true) t89 fun t90 =>
 K7 t90 w) (
 K7 undef w)
def n20c18 (t1 t7 t8 t9 t30 t35 t36 t77 t82 t86:Value) (next2:KV) (R:RT) (w:World):Prop :=
 joinK (fun (t89:Value) (w:World) =>
 n20c17 t1 t7 t8 t9 t30 t35 t36 t77 t82 t86 t89 next2 R w) fun K6 =>
 guardP t86 false (
 opV Pg (Instr.fieldAt 36 t9 0) (panK R) w fun t87 w =>
 opV Pg (Instr.loadAt 34 t87) (panK R) w fun t88 w =>
 opV Pg (binS .eql 34 true t88 (.int .i64 10)) (panK R) w fun t89 w =>
 K6 t89 w) (
 K6 undef w)
def n20c19 (t1 t7 t8 t9 t30 t35 t36 t77 t82:Value) (next2:KV) (R:RT) (w:World):Prop :=
 joinK (fun (t86:Value) (w:World) =>
 n20c18 t1 t7 t8 t9 t30 t35 t36 t77 t82 t86 next2 R w) fun K5 =>
 guardP t82 true (
 opV Pg (Instr.fieldAt 36 t9 0) (panK R) w fun t83 w =>
 opV Pg (Instr.loadAt 34 t83) (panK R) w fun t84 w =>
 opV Pg (binS .eql 34 true t84 (.int .i64 3)) (panK R) w fun t85 w =>
 K5 t85 w) (
 K5 undef w)
def n20c20 (t1 t7 t8 t9 t30 t35 t36:Value) (next2:KV) (R:RT) (w:World):Prop :=
 opV Pg (Instr.fieldAt 36 t9 1) (panK R) w fun t72 w =>
 opV Pg (Instr.loadAt 3 t72) (panK R) w fun t73 w =>
 opV Pg (Instr.fieldAt 24 t1 1) (panK R) w fun t74 w =>
 opV Pg (Instr.loadAt 22 t74) (panK R) w fun t75 w =>
 opV Pg (Builtin.len_ #[22] 3 #[t75]) (panK R) w fun t76 w =>
 opV Pg (binS .geq 3 false t73 t76) (panK R) w fun t77 w =>
 joinK (fun (t82:Value) (w:World) =>
 n20c19 t1 t7 t8 t9 t30 t35 t36 t77 t82 next2 R w) fun K4 =>
 guardP t77 false (
 opV Pg (Instr.fieldAt 36 t9 1) (panK R) w fun t79 w =>
 opV Pg (Instr.loadAt 3 t79) (panK R) w fun t80 w =>
 opV Pg (binS .lss 3 true t80 (.int .i64 0)) (panK R) w fun t81 w =>
 K4 t81 w) (
 K4 undef w)
def n20c21 (t11 t65:Value) (K3:World→Prop) (R:RT) (w:World):Prop :=
 opV Pg (binS .neq 3 true t65 (.int .i64 0)) (panK R) w fun t66 w =>
 joinK (fun (t70:Value) (w:World) =>
 pickK t66 (.bool true) t70 fun t71 =>
 condP t71 (
 R (.returned (.bool false)) w) (
 K3 w)) fun K18 =>
 guardP t66 false (
 opV Pg (Instr.fieldAt 36 t11 0) (panK R) w fun t68 w =>
 opV Pg (Instr.loadAt 34 t68) (panK R) w fun t69 w =>
 opV Pg (binS .neq 34 true t69 (.int .i64 3)) (panK R) w fun t70 w =>
 K18 t70 w) (
 K18 undef w)
def n20c22 (t61:Value) (K3:World→Prop) (R:RT) (w:World):Prop :=
 opV Pg (Instr.extract t61 0) (panK R) w fun t62 w =>
 opV Pg (Instr.extract t61 1) (panK R) w fun t63 w =>
 opV Pg (Instr.alloc 36 true (.tuple #[])) (panK R) w fun t11 w =>
 opU Pg (Instr.storeAt 36 t11 t62) (panK R) w fun w =>
 callK Pg 15 #[t63] (panK R) w fun t65 w =>
 n20c21 t11 t65 K3 R w
def n20c23 (t9 t30:Value) (K3:World→Prop) (R:RT) (w:World):Prop :=
 opV Pg (Instr.fieldAt 36 t9 5) (panK R) w fun t59 w =>
 opV Pg (Instr.loadAt 3 t59) (panK R) w fun t60 w =>
 callK Pg 14 #[t30,t60] (panK R) w fun t61 w =>
 n20c22 t61 K3 R w
def n20c24 (t1 t7 t8 t9 t30 t35 t36:Value) (next2:KV) (R:RT) (w:World):Prop :=
 opV Pg (Instr.fieldAt 36 t9 5) (panK R) w fun t54 w =>
 opV Pg (Instr.loadAt 3 t54) (panK R) w fun t55 w =>
 opV Pg (binS .geq 3 true t55 (.int .i64 0)) (panK R) w fun t56 w =>
 joinK (fun (w:World) =>
 n20c20 t1 t7 t8 t9 t30 t35 t36 next2 R w) fun K3 =>
 condP t56 (
 n20c23 t9 t30 K3 R w) (
 K3 w)
def n20c25 (t1 t7 t8 t9 t30 t35 t36 t52:Value) (next2:KV) (R:RT) (w:World):Prop :=
 opV Pg (binS .neq 3 true t52 (.int .i64 0)) (panK R) w fun t53 w =>
 condP t53 (
 R (.returned (.bool false)) w) (
 n20c24 t1 t7 t8 t9 t30 t35 t36 next2 R w)
def n20c26 (t1 t7 t8 t30 t35 t36 t48:Value) (next2:KV) (R:RT) (w:World):Prop :=
 opV Pg (Instr.extract t48 0) (panK R) w fun t49 w =>
 opV Pg (Instr.extract t48 1) (panK R) w fun t50 w =>
 opV Pg (Instr.alloc 36 true (.tuple #[])) (panK R) w fun t9 w =>
 opU Pg (Instr.storeAt 36 t9 t49) (panK R) w fun w =>
 callK Pg 15 #[t50] (panK R) w fun t52 w =>
 n20c25 t1 t7 t8 t9 t30 t35 t36 t52 next2 R w
def n20c27 (t195 t201:Value) (R:RT) (w:World):Prop :=
 pickK t195 t201 (.bool false) fun t202 =>
 joinK (fun (t204:Value) (w:World) =>
 pickK t202 t204 (.bool false) fun t205 =>
 R (.returned t205) w) fun K20 =>
 guardP t202 true (
 callK Pg 9 #[] (panK R) w fun t204 w =>
 K20 t204 w) (
 K20 undef w)
def n20c28 (t30 t191 t194:Value) (R:RT) (w:World):Prop :=
 opV Pg (binS .eql 3 true t194 (.int .i64 0)) (panK R) w fun t195 w =>
 joinK (fun (t201:Value) (w:World) =>
 n20c27 t195 t201 R w) fun K19 =>
 guardP t195 true (
 callK Pg 11 #[t30] (panK R) w fun t198 w =>
 callK Pg 11 #[t191] (panK R) w fun t200 w =>
 opV Pg (binS .eql 9 false t198 t200) (panK R) w fun t201 w =>
 K19 t201 w) (
 K19 undef w)
def n20c29 (t30 t190:Value) (R:RT) (w:World):Prop :=
 opV Pg (Instr.extract t190 0) (panK R) w fun t191 w =>
 opV Pg (Instr.extract t190 1) (panK R) w fun t192 w =>
 callK Pg 15 #[t192] (panK R) w fun t194 w =>
 n20c28 t30 t191 t194 R w
def n20c30 (t1 t7 t8 t30 t35 t36 t41:Value) (next2:KV) (R:RT) (w:World):Prop :=
 opV Pg (binS .lss 3 false t8 t41) (panK R) w fun t42 w =>
 condP t42 (
 callK Pg 14 #[t30,t8] (panK R) w fun t48 w =>
 n20c26 t1 t7 t8 t30 t35 t36 t48 next2 R w) (
 opV Pg (Instr.loadAt 24 t7) (panK R) w fun t189 w =>
 callK Pg 20 #[t189] (panK R) w fun t190 w =>
 n20c29 t30 t190 R w)
def n20c31 (t1 t30:Value) (R:RT) (w:World):Prop :=
 opV Pg (Instr.makeMap 49 none) (panK R) w fun t35 w =>
 opV Pg (Instr.makeMap 50 none) (panK R) w fun t36 w =>
 opV Pg (Instr.loadAt 24 t1) (panK R) w fun t37 w =>
 opV Pg (Instr.alloc 24 true (.tuple #[])) (panK R) w fun t7 w =>
 opU Pg (Instr.storeAt 24 t7 t37) (panK R) w fun w =>
 opV Pg (Instr.fieldAt 24 t7 1) (panK R) w fun t38 w =>
 opU Pg (Instr.storeAt 22 t38 (Value.slice none 0 0)) (panK R) w fun w =>
 loop1 (fun t8 w next2 =>
 callK Pg 17 #[t30] (panK R) w fun t41 w =>
 n20c30 t1 t7 t8 t30 t35 t36 t41 next2 R w) (.int .i64 0) w
def n20c32 (t1 t29:Value) (R:RT) (w:World):Prop :=
 opV Pg (Instr.extract t29 0) (panK R) w fun t30 w =>
 opV Pg (Instr.extract t29 1) (panK R) w fun t31 w =>
 callK Pg 15 #[t31] (panK R) w fun t33 w =>
 opV Pg (binS .neq 3 true t33 (.int .i64 0)) (panK R) w fun t34 w =>
 condP t34 (
 R (.returned (.bool false)) w) (
 n20c31 t1 t30 R w)
def n20c33 (t1 t20 t24:Value) (R:RT) (w:World):Prop :=
 pickK t20 (.bool true) t24 fun t25 =>
 condP t25 (
 callK Pg 9 #[] (panK R) w fun t26 w =>
 R (.returned t26) w) (
 opV Pg (Instr.loadAt 24 t1) (panK R) w fun t28 w =>
 callK Pg 20 #[t28] (panK R) w fun t29 w =>
 n20c32 t1 t29 R w)
def n20c34 (t1 t19:Value) (R:RT) (w:World):Prop :=
 opV Pg (Op.unary .not t19) (panK R) w fun t20 w =>
 joinK (fun (t24:Value) (w:World) =>
 n20c33 t1 t20 t24 R w) fun K1 =>
 guardP t20 false (
 opV Pg (Instr.loadAt 24 t1) (panK R) w fun t22 w =>
 callK Pg 19 #[t22] (panK R) w fun t23 w =>
 opV Pg (Op.unary .not t23) (panK R) w fun t24 w =>
 K1 t24 w) (
 K1 undef w)
def n20 (t0:Value) (R:RT) (w:World):Prop :=
 opV Pg (Instr.box 24 t0) (panK R) w fun t1 w =>
 opV Pg (Instr.loadAt 24 t1) (panK R) w fun t18 w =>
 callK Pg 8 #[t18] (panK R) w fun t19 w =>
 n20c34 t1 t19 R w
set_option maxHeartbeats 40000000 in
theorem n20s {t0:Value} {R:RT} {w:World} (h:n20 t0 R w):Calls Pg 5 #[t0] w R:=by
 refine yD Tryz.func5 ?_
 refine zs<|zr<|yv h fun _ w h=>zm<|zn<|zk<|zs<|zs<|sim_regionG<|yG 4<|yv h fun _ w h=>yc h c8 fun _ w h=>yv h fun _ w h=>zm<|zn ?_
 refine yg1 3 3 false [22,23,24] 24 h (fun _ T hT h=>?_) fun σ w h=>?_
 · refine yv h fun _ w h=>yc h c19 fun _ w h=>yv h fun _ w h=>zn ?_
   exact zt hT h
 refine yG 1<|yp h fun _ h=>zn<|sim_end<|zk<|yC h (fun h=>zs<|zr<|yc h c9 fun _ w h=>zm<|zn<|zk<|sim_ret<|sim_then_ret<|body_ret1 rfl rfl h) fun h=>sim_skip<|zk<|zs<|zr<|yv h fun _ w h=>yc h c20 fun _ w h=>zm<|yv h fun _ w h=>?_
 refine yv h fun _ w h=>zm<|zm<|zn<|zk<|zs<|zs<|zr<|zm<|yc h c15 fun _ w h=>yb h fun _ w h=>zn<|zk<|yC h (fun h=>zs<|zr<|zm<|zn<|zk<|sim_ret<|sim_then_ret<|body_ret1 rfl rfl h) fun h=>?_
 refine sim_skip<|zk<|zs<|zr<|yv h fun _ w h=>zm<|zn<|zk<|zs<|zr<|yv h fun _ w h=>zm<|zn<|zk<|zs ?_
 refine zr<|yv h fun _ w h=>yv h fun _ w h=>yu h fun w h=>zn<|zk<|zs<|zr<|yv h fun _ w h=>yu h fun w h=>zn<|zk<|zs<|zs<|zr ?_
 refine zm<|zn<|zk<|sim_block<|yl1 [2,8,9,10,11,12,13,14,15,39,40,41,42,43,44,45,46,47,48,49,50,51,52,53,54,55,56,57,58,59,60,61,62,63,64,65,66,67,68,69,70,71,72,73,74,75,76,77,78,79,80,81,82,83,84,85,86,87,88,89,90,91,92,93,94,95,96,97,98,99,100,101,102,103,104,105,106,107,108,109,110,111,112,113,114,115,116,117,118,119,120,121,122,123,124,125,126,127,128,129,130,131,132,133,134,135,136,137,138,139,140,141,142,143,144,145,146,147,148,149,150,151,152,153,154,155,156,157,158,159,160,161,162,163,164,165,166,167,168,169,170,171,172,173,174,175,176,177,178,179,180,181,182,183,184,185,186,187] 8 h fun σ w next h=>zs<|zs<|zr<|zm<|zm<|yc h c17 fun _ w h=>yb h fun _ w h=>zn<|zk<|yC h (fun h=>?_) fun h=>?_
 · refine sim_skip<|zk<|zs<|sim_block<|zs<|zr<|zm<|zm<|yc h c14 fun _ w h=>zm<|yv h fun _ w h=>yv h fun _ w h=>yv h fun _ w h=>yu h fun w h=>zm ?_
   refine zn<|zk<|zs<|zs<|zr<|zm<|yc h c15 fun _ w h=>yb h fun _ w h=>zn<|zk<|yC h (fun h=>zs<|zr<|zm<|zn<|zk<|sim_ret<|sim_then_ret<|sim_block_ret<|sim_then_ret<|sim_then_ret<|sim_block_ret<|sim_then_ret<|body_ret1 rfl rfl h) fun h=>sim_skip<|zk<|zs ?_
   refine zs<|zr<|yv h fun _ w h=>yv h fun _ w h=>yb h fun _ w h=>zn<|zk<|yJ0 [2,11,12,57,58,59,60,61,62,63,64,65,66,67,68,69,70,71] h (fun _ _ hkK3 h=>?_) fun σ w h=>?_
   · refine yC h (fun h=>?_) fun h=>?_
     · refine zs<|zr<|zm<|yv h fun _ w h=>yv h fun _ w h=>yc h c14 fun _ w h=>zm<|yv h fun _ w h=>yv h fun _ w h=>yv h fun _ w h=>yu h fun w h=>zm<|zn<|zk<|zs ?_
       refine sim_regionG<|yG 4<|zm<|yc h c15 fun _ w h=>yb h fun _ w h=>zm<|zn<|yg1 3 3 false [68,69,70] 70 h (fun _ T hT h=>?_) fun σ w h=>?_
       · refine yv h fun _ w h=>yv h fun _ w h=>yb h fun _ w h=>zn ?_
         exact zt hT h
       refine yG 1<|yp h fun _ h=>zn<|sim_end<|zk<|yC h (fun h=>zs<|zr<|zm<|zn<|zk<|sim_ret<|sim_then_ret<|sim_then_ret<|sim_block_ret<|sim_then_ret<|sim_then_ret<|sim_block_ret<|sim_then_ret<|body_ret1 rfl rfl h) fun h=>sim_skip<|zk ?_
       exact zt hkK3 h
     refine sim_skip<|zk ?_
     exact zt hkK3 h
   refine zk<|zs<|zs<|sim_regionG<|yG 7<|yv h fun _ w h=>yv h fun _ w h=>yv h fun _ w h=>yv h fun _ w h=>yx h fun _ w h=>yb h fun _ w h=>zm<|zn<|yg1 4 6 false [79,80,81,82] 82 h (fun _ T hT h=>?_) fun σ w h=>?_
   · refine yv h fun _ w h=>yv h fun _ w h=>yb h fun _ w h=>zm<|zn ?_
     exact zt hT h
   refine yg1 4 10 true [83,84,85,86] 86 h (fun _ T hT h=>?_) fun σ w h=>?_
   · refine yv h fun _ w h=>yv h fun _ w h=>yb h fun _ w h=>zm<|zn ?_
     exact zt hT h
   refine yg1 3 14 false [87,88,89] 89 h (fun _ T hT h=>?_) fun σ w h=>?_
   · refine yv h fun _ w h=>yv h fun _ w h=>yb h fun _ w h=>zn ?_
     exact zt hT h
   refine yg1 1 10 true [90] 90 h (fun _ T hT h=>?_) fun σ w h=>?_
   · refine yp h fun _ h=>zn ?_
     exact zt hT h
   refine yg1 1 6 false [91] 91 h (fun _ T hT h=>?_) fun σ w h=>?_
   · refine yp h fun _ h=>zn ?_
     exact zt hT h
   refine yG 1<|yp h fun _ h=>zn<|sim_end<|zk<|yC h (fun h=>zs<|zr<|zm<|zn<|zk<|sim_ret<|sim_then_ret<|sim_block_ret<|sim_then_ret<|sim_then_ret<|sim_block_ret<|sim_then_ret<|body_ret1 rfl rfl h) fun h=>sim_skip<|zk<|zs<|sim_block<|zs<|zr<|yv h fun _ w h=>yv h fun _ w h=>?_
   refine yb h fun _ w h=>zm<|zn<|zk<|yJ0 [2,13,14,15,97,98,99,100,101,102,103,104,105,106,107,108,109,110,111,112,113,114,115,116,117,118,119,120,121,122,123,124,125,126,127,128,129,130,131,132,133,134,135,136,137,138,139,140,141,142,143,144,145,146,147,148,149,150,151,152,153,154,155,156,157,158,159,160,161,162,163,164,165,166,167,168,169,170,171,172] h (fun _ _ hkK9 h=>?_) fun σ w h=>?_
   · refine yC h (fun h=>?_) fun h=>?_
     · refine yh [97,98,99,100,101,102,103,104,105,106,107] h fun C hC h=>ye 0 hC h fun _ h=>?_
       refine ye 1 hC h fun _ h=>?_
       refine ye 2 hC h fun _ h=>?_
       refine ye 3 hC h fun _ h=>?_
       refine ye 4 hC h fun _ h=>?_
       refine ye 5 hC h fun _ h=>?_
       refine ye 6 hC h fun _ h=>?_
       refine ye 7 hC h fun _ h=>?_
       refine yo 8 ?_
       refine yS h fun _ w h=>zn ?_
       obtain ⟨hC,h⟩:=h
       refine ⟨hC,?_⟩
       refine yo 9 ?_
       refine yx h fun _ w h=>zn ?_
       obtain ⟨hC,h⟩:=h
       refine ⟨hC,?_⟩
       refine ye 10 hC h fun _ h=>?_
       refine yq 11 1 ?_
       refine yu h fun w h=>zn ?_
       obtain ⟨C12,hC,h⟩:=h
       refine ⟨C12,hC,?_⟩
       refine yz<|zk ?_
       exact zt hkK9 h
     refine zs<|sim_regionG<|yG 4<|yv h fun _ w h=>yv h fun _ w h=>yb h fun _ w h=>zm<|zn<|yg1 3 3 true [113,114,115] 115 h (fun _ T hT h=>?_) fun σ w h=>?_
     · refine yv h fun _ w h=>yv h fun _ w h=>yb h fun _ w h=>zn ?_
       exact zt hT h
     refine yG 2<|yp h fun _ h=>zm<|zn<|sim_end<|zk<|yC h (fun h=>?_) fun h=>?_
     · refine yh [117,118,119,120,121,122,123,124,125,126] h fun C hC h=>yw 0 hC ?_
       refine ye 1 hC h fun _ h=>?_
       refine ye 2 hC h fun _ h=>?_
       refine ye 3 hC h fun _ h=>?_
       refine ye 4 hC h fun _ h=>?_
       refine ye 5 hC h fun _ h=>?_
       refine ye 6 hC h fun _ h=>?_
       refine ye 7 hC h fun _ h=>?_
       refine yo 8 ?_
       refine yv h fun _ w h=>zn ?_
       obtain ⟨hC,h⟩:=h
       refine ⟨hC,?_⟩
       refine ye 9 hC h fun _ h=>?_
       refine yq 10 1 ?_
       refine yu h fun w h=>zn ?_
       obtain ⟨C15,hC,h⟩:=h
       refine ⟨C15,hC,?_⟩
       refine yz<|zk ?_
       exact zt hkK9 h
     refine zs<|zr<|yv h fun _ w h=>yv h fun _ w h=>yb h fun _ w h=>zm<|zn<|zk<|yC h (fun h=>?_) fun h=>?_
     · refine zs<|zr<|zm<|yv h fun _ w h=>yv h fun _ w h=>yv h fun _ w h=>yv h fun _ w h=>yv h fun _ w h=>yv h fun _ w h=>yv h fun _ w h=>yc h c21 fun _ w h=>zm<|yv h fun _ w h=>yv h fun _ w h=>zm ?_
       refine zm<|zn<|zk<|zs<|zs<|sim_regionG<|yG 4<|zm<|yc h c15 fun _ w h=>yb h fun _ w h=>zm<|zn<|yg1 6 3 false [147,148,149,150,151,152] 152 h (fun _ T hT h=>?_) fun σ w h=>?_
       · refine zm<|zm<|yv h fun _ w h=>yv h fun _ w h=>yv h fun _ w h=>yb h fun _ w h=>zn ?_
         exact zt hT h
       refine yG 1<|yp h fun _ h=>zn<|sim_end<|zk<|yC h (fun h=>?_) fun h=>?_
       · refine zs<|zr<|zm<|zn<|zk<|sim_ret<|sim_then_ret<|sim_then_ret<|sim_block_ret<|sim_then_ret<|sim_block_ret<|sim_then_ret<|sim_then_ret<|sim_block_ret<|sim_then_ret ?_
         exact body_ret1 rfl rfl h
       refine sim_skip<|zk<|zs<|zr<|zm<|zn<|zk<|sim_block<|yl1 [2,15,154,155,156,157,158,159,160,161,162,163,164,165,166,167,168,169,170,171,172] 15 h fun σ w next h=>zs<|zs<|zr<|zm<|yv h fun _ w h=>yv h fun _ w h=>?_
       refine yv h fun _ w h=>yv h fun _ w h=>yv h fun _ w h=>yv h fun _ w h=>yv h fun _ w h=>yx h fun _ w h=>yb h fun _ w h=>zn<|zk<|yC h (fun h=>?_) fun h=>?_
       · refine sim_skip<|zk<|zs<|sim_block<|zs<|zr<|zm<|yv h fun _ w h=>yv h fun _ w h=>zm<|yB h fun _ w h=>yv h fun _ w h=>yb h fun _ w h=>zn<|zk ?_
         refine yC h (fun h=>?_) fun h=>?_
         · refine zs<|zr<|zm<|zn<|zk<|sim_ret<|sim_block_ret<|sim_then_ret<|sim_then_ret<|sim_block_ret<|sim_then_ret<|sim_block_ret<|sim_then_ret<|sim_block_ret<|sim_then_ret ?_
           exact sim_then_ret<|sim_block_ret<|sim_then_ret<|body_ret1 rfl rfl h
         exact sim_skip<|sim_block_normal<|zk<|zr<|zm<|yb h fun _ w h=>zm<|zn<|zk<|⟨rfl,h⟩
       refine sim_exit<|sim_then_exit<|sim_then_exit<|sim_block_hit<|zk ?_
       exact zt hkK9 h
     refine sim_skip<|zk ?_
     exact zt hkK9 h
   refine sim_block_normal<|zk<|zs<|zr<|yv h fun _ w h=>yv h fun _ w h=>yb h fun _ w h=>zn<|zk<|yJ0 [2,176,177,178,179,180,181,182,183,184,185,186,187] h (fun _ _ hkK10 h=>?_) fun σ w h=>?_
   · refine yC h (fun h=>?_) fun h=>?_
     · refine zs<|zs<|zr<|yv h fun _ w h=>yv h fun _ w h=>zm<|yv h fun _ w h=>yv h fun _ w h=>yv h fun _ w h=>yb h fun _ w h=>zn<|zk<|yC h (fun h=>zs<|zr<|zm<|zn<|zk<|sim_ret<|sim_then_ret<|sim_then_ret<|sim_block_ret<|sim_then_ret<|sim_then_ret<|sim_block_ret<|sim_then_ret<|body_ret1 rfl rfl h) fun h=>sim_skip ?_
       refine zk<|zr<|zm<|yv h fun _ w h=>yv h fun _ w h=>yv h fun _ w h=>yb h fun _ w h=>yu h fun w h=>zn<|zk ?_
       exact zt hkK10 h
     refine sim_skip<|zk ?_
     exact zt hkK10 h
   exact sim_block_normal<|zk<|zr<|zm<|yb h fun _ w h=>zm<|zn<|zk<|⟨rfl,h⟩
 refine sim_exit<|sim_then_exit<|sim_then_exit<|sim_block_hit<|zk<|zs<|zr<|yv h fun _ w h=>yc h c20 fun _ w h=>zm<|yv h fun _ w h=>yv h fun _ w h=>zm<|zm<|zn ?_
 refine zk<|zs<|sim_regionG<|yG 4<|zm<|yc h c15 fun _ w h=>yb h fun _ w h=>zm<|zn<|yg1 5 3 true [197,198,199,200,201] 201 h (fun _ T hT h=>?_) fun σ w h=>?_
 · refine zm<|yc h c11 fun _ w h=>zm<|yc h c11 fun _ w h=>yb h fun _ w h=>zn ?_
   exact zt hT h
 refine yG 2<|yp h fun _ h=>zm<|zn<|yg1 1 10 true [204] 204 h (fun _ T hT h=>?_) fun σ w h=>?_
 · refine yc h c9 fun _ w h=>zn ?_
   exact zt hT h
 exact yG 2<|yp h fun _ h=>zm<|zn<|sim_end<|zk<|sim_ret<|body_ret1 rfl rfl h
theorem pickm {α:Type} {n:Nat} {E:List Value→α→Prop} {css:List (Cs n)} {l:List α} (h:Mates n E css l) {L:List Int} (hL:∀ x∈L,x.toNat < l.length):Mates n E (pick css L) (pick l L):=by
 have hL':∀ x∈L,x.toNat < css.length:=fun x hx=>by rw [h.1];exact hL x hx
 refine ⟨by rw [pick_len hL,pick_len hL'],fun k x cs hx hcs=>?_⟩
 obtain ⟨i,h1,h2⟩:=pick_get k x hL hx
 obtain ⟨j,h3,h4⟩:=pick_get k cs hL' hcs
 rw [h1] at h3
 injection h3 with h3
 subst h3
 exact h.2 _ _ _ h2 h4
theorem app_msgH {w:World} {QP:List PanicEntry→World→Prop} {k:Value→World→Prop} {base b:Nat} {v:Value} {css:List (Cs 2)} {cs:Cs 2} (hown:OwnE w base TM 2 Subtype.val v css) (h1:∀ u∈cs.1,u.oneCell'=true) (hc:ElemAt w b 0 cs.1) (hb:base≤w.heap.size) (hl:css.length≤100000)
 (hk:∀ v' w',OwnE w' base TM 2 Subtype.val v' (css++[cs])→w.grownBy w' v.ownBlock→k v' w') :
 opV Pg (Builtin.append_ #[22,22] 22 #[v,.slice (some ⟨b,0,none⟩) 1 1]) QP w k:=by
 refine op_appendE (l':=[cs]) Tryz.underlying22 ty53 rfl (by decide) (fun x=>x.2) (fun x hx u hu=>?_) hown (fun j x hx=>?_) hb (Nat.le_trans (Nat.mul_le_mul (show css.length+[cs].length≤100001 by simp;omega) by53) (by decide)) (by simp;omega) hk
 · simp only [List.mem_singleton] at hx
   subst hx
   exact h1 u hu
 · cases j with
   | zero=>injection hx with hx;subst hx;rw [Nat.zero_mul,Nat.zero_add];exact hc
   | succ j=>cases hx
structure HSt (W0:World) (m1 m2 p7:Nat) (d:DefD) (css:List (Cs 2)) (A B:List InsD) (w:World):Prop where
 ext:Ext W0 w
 q:MapQ w m1 fun k=>(cntQ A k.1 k.2:Int)
 n:MapN w m2 fun k=>(regQ B k:Int)
 o:∃ v,w.heap[p7]?=some (.cells (defCells d v).toArray 24 (0,0))∧OwnE w (p7+1) TM 2 Subtype.val v (pick css (entQ A))
 sz:p7+1≤w.heap.size
section
variable {W0 w w':World} {m1 m2 p7:Nat} {d:DefD} {css:List (Cs 2)} {A B:List InsD}
theorem HSt.go (h:HSt W0 m1 m2 p7 d css A B w) (e:Ext w w'):HSt W0 m1 m2 p7 d css A B w':=by
 obtain ⟨v,h1,h2⟩:=h.o
 exact ⟨h.ext.trans e,h.q.ext e,h.n.ext e,⟨v,e.obj h1,h2.ext e⟩,Nat.le_trans h.sz e.size⟩
theorem own_put {r lo:Nat} {v:Value} {cs:List (Cs 2)} (h:OwnE w lo TM 2 Subtype.val v cs) (hp:PutAt r w w') (hr:r < lo):OwnE w' lo TM 2 Subtype.val v cs:=(OwnR.only (OwnE.range h) (fun g hg=>hp.2.1 g hg) (.inr (.inl hr))).1
theorem HSt.putN {B':List InsD} (h:HSt W0 m1 m2 p7 d css A B w) (h0:W0.heap.size≤m2) (hm:m1≠m2) (h7:m2 < p7) (hp:PutAt m2 w w') (hN:MapN w' m2 fun k=>(regQ B' k:Int)):HSt W0 m1 m2 p7 d css A B' w':=by
 obtain ⟨v,h1,h2⟩:=h.o
 exact ⟨hp.2.2.1 _ h.ext h0,h.q.same (hp.2.1 _ hm),hN,⟨v,(hp.2.1 _ (by omega)).trans h1,own_put h2 hp (by omega)⟩,by rw [hp.1];exact h.sz⟩
end
section
variable {W0:World} {m1 m2 p1 p7 p9 pb i:Nat} {d:DefD} {css:List (Cs 2)} {A:List InsD} {x:InsD} {next2:Value→World→Prop} {R:RT}
theorem hold_reg {w:World} (h:HSt W0 m1 m2 p7 d css (A++[x]) A w) (g0:W0.heap.size≤m2) (hm:m1≠m2) (h7:m2 < p7) (o9:w.heap[p9]?=some (.cells (insCells x).toArray TI (0,0))) (hx:0≤x.reg→x.reg=regQ A x.msg) (hl:A.length≤100000) (hi:i≤100000)
 (hK:∀ w',HSt W0 m1 m2 p7 d css (A++[x]) (A++[x]) w'→next2 (.int .i64 ((i+1:Nat):Int)) w') :
 n20c3 (.int .i64 (i:Int)) (.pointer (some ⟨p9,0,none⟩)) (.map (some m2)) next2 R w:=by
 have hwi:IntKind.i64.wrap ((i:Int)+1)=((i+1:Nat):Int):=by rw [wrap_ok (by omega) (by omega)];omega
 have c9:=cells_of_heap o9
 unfold n20c3
 by_cases hg:0≤x.reg
 · have d1:decide (x.reg≥0)=true:=decide_eq_true hg
   have hxx:=hx hg
   have hcl:regQ A x.msg≤A.length:=List.countP_le_length
   have hwr:IntKind.i64.wrap ((regQ A x.msg:Int)+1)=((regQ A x.msg:Int)+1):=wrap_ok (by omega) (by omega)
   have d2:(x.reg != (regQ A x.msg:Int))=false:=by rw [← hxx];simp
   simp (disch:=try exact DI) only [↓PR,QR,simprocAttr,c9.1,d1,↓n20c2]
   rw [h.n.look x.msg]
   simp (disch:=try exact DI) only [↓PR,QR,simprocAttr,c9.1,d2,↓n20c1]
   rw [h.n.look x.msg]
   simp (disch:=try exact DI) only [↓PR,QR,simprocAttr,c9.1,hwr]
   refine h.n.update x.msg _ fun w' hN hp=>?_
   simp (disch:=try exact DI) only [↓PR,QR,simprocAttr,hwi]
   refine hK w' (h.putN g0 hm h7 hp (hN.congr fun k=>?_))
   rw [regQ_append,regQ_one]
   unfold isG
   by_cases e:k=x.msg
   · subst e;simp [hg]
   · have:¬ x.msg=k:=fun e'=>e e'.symm
     rw [if_neg e];simp [hg,this]
 · have d1:decide (x.reg≥0)=false:=decide_eq_false (by omega)
   simp (disch:=try exact DI) only [↓PR,QR,simprocAttr,c9.1,d1,hwi]
   refine hK w ⟨h.ext,h.q,h.n.congr fun k=>?_,h.o,h.sz⟩
   rw [regQ_append,regQ_one]
   unfold isG
   simp [hg]
theorem hold_enter {w:World} {mv:Value} {K9:World→Prop} (h:HSt W0 m1 m2 p7 d css A A w) (hM:MsgsOf W0 mv d.msgs) (hraw:SliceOf W0 2 (fun _ cs (x:Cs 2)=>cs=x.1) mv css) (hmt:Mates 2 (EMsg W0) css d.msgs) (o1:W0.heap[p1]?=some (.cells (defCells d mv).toArray 24 (0,0))) (g7:W0.heap.size≤p7) (o9:w.heap[p9]?=some (.cells (insCells x).toArray TI (0,0))) (v9:∀ v,OwnE w (p7+1) TM 2 Subtype.val v (pick css (entQ A))→∀ b,v.ownBlock=some b→b≠p9) (g1:m1 < p7) (g2:m2 < p7) {k:Nat} {m:MsgD} (hk:x.msg=k) (hkm:d.msgs[k]?=some m) (hc:x.code=3) (hl:A.length≤100000) (hq:∀ a b,cntQ (A++[x]) a b=cntQ A a b)
 (hK:∀ w',HSt W0 m1 m2 p7 d css (A++[x]) A w'→w'.heap[p9]?=some (.cells (insCells x).toArray TI (0,0))→K9 w') :
 drawK w fun C11 w=>n20c5 (.pointer (some ⟨p1,0,none⟩)) (.pointer (some ⟨p7,0,none⟩)) (.pointer (some ⟨p9,0,none⟩)) C11 K9 R w:=by
 obtain ⟨v,y7,hOv⟩:=h.o
 have hv1:v.oneCell'=true:=SliceOf.oneCell (hOv.slice (E:=fun _ cs x=>cs=x.1) (fun x=>x.2) (fun _ _=>rfl))
 have hm1:=SliceOf.oneCell hM
 have hkl:=(List.getElem?_eq_some_iff.1 hkm).1
 obtain ⟨A0,c0,rfl,_,_,_,hel⟩:=SliceOf.open hraw
 obtain ⟨ck,hck⟩:=getElem?_lt (l:=css) (k:=k) (by rw [hmt.1];exact hkl)
 obtain ⟨b0,o0,cs0,rfl,_,hEk,hcs⟩:=hel k ck hck
 obtain ⟨fv,he,hF⟩:=hmt.2 k m ck hkm hck
 have hfv:=SliceOf.oneCell hF
 rw [hcs,he] at hEk
 have dk:(k:Int) < (css.length:Int):=by rw [hmt.1];omega
 obtain ⟨g,hgd⟩:∃ g,g=v.ownBlock.getD w.heap.size:=⟨_,rfl⟩
 have l9:=(Array.getElem?_eq_some_iff.1 o9).1
 have l1:=(Array.getElem?_eq_some_iff.1 o1).1
 have hgB:p7+1≤g∧p9≠g:=by
  rw [hgd]
  cases hv:v.ownBlock with
  | none=>exact ⟨h.sz,by show p9≠w.heap.size;omega⟩
  | some b=>exact ⟨(hOv.lt b hv).1,fun e=>v9 v hOv b hv e.symm⟩
 have l0:b0 < W0.heap.size:=by
  have hh:=hEk 0 (.string m.name) rfl
  exact World.block_lt_of_cell? W0 _ hh
 have n1:p1≠g:=by omega
 have n7:p7≠g:=by omega
 have n9:p9≠g:=hgB.2
 have n0:b0≠g:=by omega
 have hck2:=hEk.ext h.ext
 have hq3:∀ K:Value→Prop,qV Pg (KB w g g) (Instr.loadAt TM (.pointer (some ⟨b0,o0+k*2,none⟩))) K=K (.agg (msgCells m fv).toArray):=fun K=>qV_eqC fun w' hw=>run_of_op fun QP kk=>op_load (ElemAt.loads (w:=w') (b:=b0) (o:=o0+k*2) (cs:=msgCells m fv) (fun j u hu=>KB.cell hw n0 n0 (hck2 j u hu)) ty53 rfl)
 have q1:=h.ext.obj o1
 refine drawK_introB (w1:=w) g g (fun _ _ _ _=>rfl) ?_
 unfold n20c5
 simp (disch:=try exact DI) only [↓PR,QR,simprocAttr,(cells_of_heap y7).1,(cells_of_heap q1).1,(cells_of_heap o9).1,hk,↓hq3]
 generalize hA':World.alloc (World.drew w) _=Z
 have eZ:Ext w Z:=by rw [← hA'];exact ee
 have oZ:Z.heap[w.heap.size]?=some (.cells (msgCells m fv).toArray TM (0,0)):=by
  rw [← hA']
  have:=heap_new w.drew (msgCells m fv).toArray TM
  rw [World.size_drew] at this
  exact this
 clear hA'
 refine ⟨fun b hb _ _=>eZ.block b hb,?_⟩
 unfold n20c4
 have s0:=eZ.size
 have sz:=h.sz
 have hent:(entQ A).length≤A.length:=List.length_filterMap_le _ _
 have hpl:(pick css (entQ A)).length≤100000:=Nat.le_trans (List.length_filterMap_le _ _) (by omega)
 refine app_msgH (cs:=ck) (hOv.ext eZ) (fun u hu=>?_) ?_ (by omega) hpl ?_
 · rw [he] at hu
   simp only [msgCells,List.mem_cons,List.not_mem_nil,or_false] at hu
   rcases hu with rfl | rfl
   · rfl
   · exact hfv
 · rw [he]
   exact fun j u hu=>by rw [Nat.zero_add,(cells_of_heap oZ).1];simpa using hu
 intro v' w' hO' hg'
 have hown:∀ b,v.ownBlock=some b→p7+1≤b:=fun b hb=>(hOv.lt b hb).1
 refine ⟨fun b hb hbg _=>(hg'.block b (by omega) fun h=>hbg (by rw [hgd,← h];rfl)).trans (eZ.block b hb),?_⟩
 have low:∀ b,b < p7+1→b < w.heap.size→w'.heap[b]?=w.heap[b]?:=fun b hb hbw=>(hg'.block b (by omega) fun h=>by have:=hown _ h.symm;omega).trans (eZ.block b hbw)
 have z7:w'.heap[p7]?=_:=(low p7 (by omega) (by omega)).trans y7
 have z9:w'.heap[p9]?=_:=(hg'.block p9 (by omega) fun h=>by
  have:=v9 v hOv p9 h.symm
  exact this rfl).trans (eZ.obj o9)
 have e':Ext W0 w':=(h.ext.trans eZ).grown hg' fun b hb=>by have:=hown b hb;omega
 have s':=hg'.size
 have hv'1:v'.oneCell'=true:=SliceOf.oneCell (hO'.slice (E:=fun _ cs x=>cs=x.1) (fun x=>x.2) (fun _ _=>rfl))
 simp (disch:=try exact DI) only [↓PR,QR,simprocAttr,(cells_of_heap z7).1,(cells_of_heap z7).2]
 refine turnK_intro ?_
 have ho:=Only.setCell w' p7 1 v'
 have u7:(w'.setCell ⟨p7,1,none⟩ v').heap[p7]?=some (.cells (defCells d v').toArray 24 (0,0)):=by simpa using heap_set (o:=1) z7 v'
 have lq:=h.q.lt
 have ln:=h.n.lt
 refine hK _ ⟨e'.setCell (p:=⟨p7,1,none⟩) (by show W0.heap.size≤p7;omega) _,?_,?_,⟨v',u7,?_⟩,by rw [World.size_setCell];omega⟩ ((ho p9 (by
  rintro rfl
  rw [y7] at o9
  injection o9 with o9
  injection o9 with _ o9 _
  exact absurd o9 (by decide))).trans z9)
 · exact (h.q.same ((ho m1 (by omega)).trans (low m1 (by omega) lq))).congr fun k=>by rw [hq]
 · exact h.n.same ((ho m2 (by omega)).trans (low m2 (by omega) ln))
 · have:entQ (A++[x])=entQ A++[(k:Int)]:=by
    rw [entQ_append]
    congr 1
    unfold entQ
    rw [List.filterMap_cons,show entX x=some x.msg from if_pos hc,hk]
    rfl
   rw [this,pick_snoc hck]
   exact (OwnR.only (OwnE.range hO') ho (.inr (.inl (by omega)))).1
end
section
variable {W0:World} {m1 m2 p1 p7 p9 pb i:Nat} {d:DefD} {css:List (Cs 2)} {A:List InsD} {x:InsD} {next2:Value→World→Prop} {R:RT}
theorem build_pair (QP:List PanicEntry→World→Prop) (w:World) (kk:Value→World→Prop) (a b:Int):opV Pg (Instr.build 54 #[(0,.int .i64 a),(1,.int .i64 b)]) QP w kk=kk (encP (a,b)) w :=
 op_buildArr (cs := #[.int .i64 a,.int .i64 b]) Tryz.underlying54 ty54 ty3 rfl
theorem hold_seen {w:World} {K9:World→Prop} (h:HSt W0 m1 m2 p7 d css A A w) (g0:W0.heap.size≤m1) (h2:m1≠m2) (h7:m1 < p7) (o9:w.heap[p9]?=some (.cells (insCells x).toArray TI (0,0))) (hf:0≤x.field) (h3:x.code≠3) (h8:x.code≠8) (hl:A.length≤100000)
 (hK:∀ w',HSt W0 m1 m2 p7 d css (A++[x]) A w'→w'.heap[p9]?=some (.cells (insCells x).toArray TI (0,0))→K9 w') :
 drawK w fun C14 w=>n20c6 (.pointer (some ⟨p9,0,none⟩)) (.map (some m1)) C14 K9 R w:=by
 obtain ⟨es,cc,hmo⟩:∃ es c,w.heap[m1]?=some (.map es c):=by
  obtain ⟨L,c,h1,_⟩:=h.q
  exact ⟨_,_,h1.obj⟩
 have n9:p9≠m1:=by
  rintro rfl
  rw [o9] at hmo;cases hmo
 have hcl:cntQ A x.msg x.field≤A.length:=List.countP_le_length
 have hwr:IntKind.i64.wrap ((cntQ A x.msg x.field:Int)+1)=((cntQ A x.msg x.field:Int)+1):=wrap_ok (by omega) (by omega)
 have eD:Ext w (Sw.drew w):=(Ext.refl w).drew
 refine looksK (C:=fun w'=>w'.heap[p9]?=some (.cells (insCells x).toArray TI (0,0))∧MapQ w' m1 fun k=>(cntQ A k.1 k.2:Int)) ⟨eD.obj o9,h.q.ext eD⟩ fun hne=>?_
 have hD:=h.go eD
 have hld:∀ (j:Nat) (n:Int),(insCells x)[j]?=some (.int .i64 n)→∀ K:Value→Prop,qV Pg (fun w'=>w'.heap[p9]?=some (.cells (insCells x).toArray TI (0,0))∧MapQ w' m1 fun k=>(cntQ A k.1 k.2:Int)) (Instr.loadAt 3 (.pointer (some ⟨p9,j,none⟩))) K=K (.int .i64 n):=fun j n hj K=>qV_eqC fun w' hw=>run_of_op fun QP kk=>by
  have hc:=(cells_of_heap hw.1).1 j
  rw [List.getElem?_toArray,hj] at hc
  simp (disch:=try exact DI) only [↓PR,QR,simprocAttr,hc]
 have hlk:∀ (k:Int×Int) (K:Value→Prop),qV Pg (fun w'=>w'.heap[p9]?=some (.cells (insCells x).toArray TI (0,0))∧MapQ w' m1 fun k=>(cntQ A k.1 k.2:Int)) (Instr.lookup 49 (.map (some m1)) (encP k) false) K=K (.int .i64 (cntQ A k.1 k.2:Int)):=fun k K=>qV_eqC fun w' hw=>run_of_op fun QP kk=>hw.2.look k
 have hbd:∀ (a b:Int) (K:Value→Prop),qV Pg (fun w'=>w'.heap[p9]?=some (.cells (insCells x).toArray TI (0,0))∧MapQ w' m1 fun k=>(cntQ A k.1 k.2:Int)) (Instr.build 54 #[(0,.int .i64 a),(1,.int .i64 b)]) K=K (encP (a,b)):=fun a b K=>qV_of fun QP w' kk=>build_pair QP w' kk a b
 unfold n20c6
 simp (disch:=try exact DI) only [↓PR,QR,simprocAttr,hld 1 x.msg rfl,hld 2 x.field rfl,hbd,hlk,hwr]
 refine hD.q.entry (x.msg,x.field) fun w1 z st q1 hp1 hst=>?_
 have z9:=(hp1.2.1 p9 n9).trans (eD.obj o9)
 refine ⟨⟨z9,q1⟩,?_⟩
 simp (disch:=try exact DI) only [↓PR,QR,simprocAttr]
 refine hst _ _ _ fun w2 q2 hp2=>?_
 refine turnK_intro ?_
 obtain ⟨v,y7,hOv⟩:=hD.o
 have s1:=hp1.1
 have s2:=hp2.1
 have sz:=hD.sz
 have ho:∀ b,b≠m1→w2.heap[b]?=(Sw.drew w).heap[b]?:=fun b hb=>hp2.2.1 b hb
 refine hK w2 ⟨hp2.2.2.1 _ hD.ext g0,q2.congr fun k=>?_,hD.n.same (ho m2 (Ne.symm h2)),⟨v,(ho p7 (by omega)).trans y7,?_⟩,by omega⟩ ((hp2.2.1 p9 n9).trans (eD.obj o9))
 · rw [cntQ_append,cntQ_one]
   unfold isQ
   obtain ⟨k1,k2⟩:=k
   by_cases e:(k1,k2)=(x.msg,x.field)
   · rw [if_pos e]
     injection e with e1 e2
     subst e1 e2
     simp [h3,h8,hf]
   · rw [if_neg e]
     have:¬ (x.msg=k1∧x.field=k2):=fun h=>e (by rw [h.1,h.2])
     simp only [h3,h8,hf,ne_eq,not_false_eq_true,decide_true,Bool.true_and]
     by_cases e1:x.msg=k1
     · have e2:¬ x.field=k2:=fun e2=>this ⟨e1,e2⟩
       simp [e2]
     · simp [e1]
 · have hent:entQ (A++[x])=entQ A:=by
    rw [entQ_append]
    unfold entQ
    rw [List.filterMap_cons,show entX x=none from if_neg h3]
    exact List.append_nil _
   rw [hent]
   exact own_put hOv hp2 (by omega)
theorem hold_return {w:World} {mv:Value} {K9:World→Prop} (h:HSt W0 m1 m2 p7 d css A A w) (hM:MsgsOf W0 mv d.msgs) (hf:Fine d.msgs) (o1:W0.heap[p1]?=some (.cells (defCells d mv).toArray 24 (0,0))) (hP:∀ w',Ext W0 w'→ProgAt w' W0.heap.size pb d∨∃ lo,ProgAt w' lo pb d) (o9:w.heap[p9]?=some (.cells (insCells x).toArray TI (0,0))) {k:Nat} {m:MsgD} (hk:x.msg=k) (hkm:d.msgs[k]?=some m) (hr:reachD d k=true) (hreg:regQ A k=cntR m.fields m.fields.length) (hcnt:∀ f:Nat,f < m.fields.length→cntQ A k f=1) (hml:m.fields.length≤1000)
 (hK:∀ w',Ext w w'→K9 w') :
 n20c12 (.pointer (some ⟨p1,0,none⟩)) (.pointer (some ⟨p9,0,none⟩)) (.pointer (some ⟨pb,0,none⟩)) (.map (some m1)) (.map (some m2)) K9 R w:=by
 have hm1:=SliceOf.oneCell hM
 have hkl:=(List.getElem?_eq_some_iff.1 hkm).1
 obtain ⟨A0,c0,rfl,_,_,_,hel⟩:=SliceOf.open hM
 obtain ⟨b0,o0,cs0,rfl,_,hEk,fv,rfl,hF⟩:=hel k m hkm
 have hfv:=SliceOf.oneCell hF
 obtain ⟨A1,c1,rfl,_,_,_,_⟩:=SliceOf.open hF
 have dk:(k:Int) < (d.msgs.length:Int):=by omega
 have q1:=h.ext.obj o1
 have hEw:=hEk.ext h.ext
 have a0:w.cell? ⟨b0,o0+k*2,none⟩=some (.string m.name):=by simpa using hEw 0 _ rfl
 unfold n20c12
 simp (disch:=try exact DI) only [↓PR,QR,simprocAttr,(cells_of_heap q1).1,(cells_of_heap o9).1,hk,a0]
 have hre:regE d m.name=some (cntR m.fields m.fields.length:Int):=by
  unfold regE
  rw [mapF_at hf hkm hkl hr]
  unfold cntM
  rw [hkm]
 obtain ⟨lo,hPw⟩:∃ lo,ProgAt w lo pb d:=by
  rcases hP w h.ext with h | h
  · exact ⟨_,h⟩
  · exact h
 refine zcr (Registers_ret hPw m.name) fun w1 e1=>?_
 rw [hre]
 simp (disch:=try exact DI) only [↓PR,QR,simprocAttr,↓n20c11,Option.getD_some,Option.isSome_some,if_true]
 refine zcr (num_ret _ _) fun w2 e2=>?_
 have e12:=e1.trans e2
 have E2:=h.ext.trans e12
 have z9:=e12.obj o9
 have z1:=E2.obj o1
 simp (disch:=try exact DI) only [↓PR,QR,simprocAttr,↓n20c10,(cells_of_heap z9).1,hk]
 rw [(h.go e12).n.look (k:Int),hreg]
 have d1:((cntR m.fields m.fields.length:Int) != (cntR m.fields m.fields.length:Int))=false:=by simp
 simp (disch:=try exact DI) only [↓PR,QR,simprocAttr,d1,↓n20c9]
 refine loop1_intro (fun a w=>∃ q:Nat,a = .int .i64 q∧q≤m.fields.length∧Ext w2 w) (fun a _=>m.fields.length - (intOf a).toNat) ⟨0,rfl,by omega,Ext.refl _⟩ ?_
 rintro _ w3 ⟨q,rfl,hq,e3⟩
 have e13:=e12.trans e3
 have z93:=e3.obj z9
 have z13:=e3.obj z1
 have a1:w3.cell? ⟨b0,o0+k*2+1,none⟩=some (.slice A1 m.fields.length c1):=by simpa using (hEk.ext (E2.trans e3)) 1 _ rfl
 unfold n20c8
 by_cases hqn:q < m.fields.length
 · have d2:decide ((q:Int) < (m.fields.length:Int))=true:=decide_eq_true (by omega)
   have hwq:IntKind.i64.wrap ((q:Int)+1)=(q:Int)+1:=wrap_ok (by omega) (by omega)
   simp (disch:=try exact DI) only [↓PR,QR,simprocAttr,(cells_of_heap z13).1,(cells_of_heap z93).1,hk,a1,d2,↓n20c7,build_pair]
   rw [(h.go e13).q.look ((k:Int),(q:Int)),hcnt q hqn]
   have d3:(((1:Nat):Int) != 1)=false:=by decide
   simp (disch:=try exact DI) only [↓PR,QR,simprocAttr,d3,hwq]
   exact ⟨⟨q+1,rfl,by omega,e3⟩,meas_lt (kd := .i64) hqn⟩
 · have d2:decide ((q:Int) < (m.fields.length:Int))=false:=decide_eq_false (by omega)
   simp (disch:=try exact DI) only [↓PR,QR,simprocAttr,(cells_of_heap z13).1,(cells_of_heap z93).1,hk,a1,d2]
   exact hK w3 e13
end
theorem own_ne {w:World} {lo p b:Nat} {v:Value} {cs:List (Cs 2)} {c:Array Value} (h:OwnE w lo TM 2 Subtype.val v cs) (o:w.heap[p]?=some (.cells c TI (0,0))) (hb:v.ownBlock=some b):b≠p:=by
 rintro rfl
 rcases h.2 with ⟨rfl,_⟩ | ⟨g,cap,cur,rfl,_,hc,_⟩
 · cases hb
 · have:g=b:=by injection hb
   subst this
   rw [o] at hc
   injection hc with hc
   injection hc with _ hc _
   exact absurd hc (by decide)
section
variable {W0:World} {m1 m2 p1 p7 p9 pb i:Nat} {d:DefD} {css:List (Cs 2)} {A L:List InsD} {x:InsD} {next2:Value→World→Prop} {R:RT}
theorem HSt.skip {w:World} (h:HSt W0 m1 m2 p7 d css A A w) (h3:x.code≠3) (h8:x.field < 0∨x.code=8):HSt W0 m1 m2 p7 d css (A++[x]) A w:=by
 obtain ⟨v,h1,h2⟩:=h.o
 refine ⟨h.ext,h.q.congr fun k=>?_,h.n,⟨v,h1,?_⟩,h.sz⟩
 · rw [cntQ_append,cntQ_one]
   have:isQ k.1 k.2 x=false:=by
    unfold isQ
    rcases h8 with h8 | h8
    · have:¬ 0≤x.field:=by omega
      simp [this]
    · simp [h8]
   rw [this]
   simp
 · have hent:entQ (A++[x])=entQ A:=by
    rw [entQ_append]
    unfold entQ
    rw [List.filterMap_cons,show entX x=none from if_neg h3]
    exact List.append_nil _
   rw [hent];exact h2
theorem hold_switch {w:World} {mv:Value} (h:HSt W0 m1 m2 p7 d css A A w) (g0:W0.heap.size≤m1) (g12:m1 < m2) (g27:m2 < p7) (hM:MsgsOf W0 mv d.msgs) (hraw:SliceOf W0 2 (fun _ cs (x:Cs 2)=>cs=x.1) mv css) (hmt:Mates 2 (EMsg W0) css d.msgs) (hf:Fine d.msgs) (hml:∀ m∈d.msgs,m.fields.length≤1000)
 (o1:W0.heap[p1]?=some (.cells (defCells d mv).toArray 24 (0,0))) (hP:∃ lo,ProgAt W0 lo pb d) (o9:w.heap[p9]?=some (.cells (insCells x).toArray TI (0,0))) (hx:GoodX d L A x) (hl:A.length≤100000) (hi:i≤100000)
 (hK:∀ w',HSt W0 m1 m2 p7 d css (A++[x]) (A++[x]) w'→next2 (.int .i64 ((i+1:Nat):Int)) w') :
 n20c15 (.pointer (some ⟨p1,0,none⟩)) (.pointer (some ⟨p7,0,none⟩)) (.int .i64 (i:Int)) (.pointer (some ⟨p9,0,none⟩)) (.pointer (some ⟨pb,0,none⟩)) (.map (some m1)) (.map (some m2)) next2 R w:=by
 have c9:=cells_of_heap o9
 have last:∀ w',HSt W0 m1 m2 p7 d css (A++[x]) A w'→w'.heap[p9]?=some (.cells (insCells x).toArray TI (0,0))→n20c3 (.int .i64 (i:Int)) (.pointer (some ⟨p9,0,none⟩)) (.map (some m2)) next2 R w':=fun w' h' o'=>hold_reg h' (by omega) (by omega) g27 o' hx.reg hl hi hK
 unfold n20c15
 by_cases h3:x.code=3
 · have d1:(x.code == 3)=true:=by simp [h3]
   obtain ⟨k,m,hk,hkm,_,_,_⟩:=hx.own (.inl h3)
   simp (disch:=try exact DI) only [↓PR,QR,simprocAttr,c9.1,d1]
   refine hold_enter h hM hraw hmt o1 (by omega) o9 (fun v hO b hb=>own_ne hO o9 hb) (by omega) g27 hk hkm h3 hl (fun a b=>?_) last
   rw [cntQ_append,cntQ_one]
   unfold isQ
   simp [h3]
 have d1:(x.code == 3)=false:=by simp [h3]
 have tail:(x.field < 0∨x.code=8)→n20c13 (.pointer (some ⟨p1,0,none⟩)) (.pointer (some ⟨p9,0,none⟩)) (.pointer (some ⟨pb,0,none⟩)) (.map (some m1)) (.map (some m2)) (fun w=>n20c3 (.int .i64 (i:Int)) (.pointer (some ⟨p9,0,none⟩)) (.map (some m2)) next2 R w) R w:=by
  intro h8
  unfold n20c13
  by_cases h10:x.code=10
  · have d2:(x.code == 10)=true:=by simp [h10]
    obtain ⟨k,m,hk,hkm,hr,_,_⟩:=hx.own (.inr h10)
    obtain ⟨hreg,hcnt⟩:=hx.ret h10 k m hk hkm
    obtain ⟨lo,hP⟩:=hP
    simp (disch:=try exact DI) only [↓PR,QR,simprocAttr,c9.1,d2]
    refine hold_return h hM hf o1 (fun w' e => .inr ⟨lo,hP.ext e⟩) o9 hk hkm hr hreg hcnt (hml m (List.mem_of_getElem? hkm)) fun w' e=>?_
    exact last w' ((h.skip h3 h8).go e) (e.obj o9)
  · have d2:(x.code == 10)=false:=by simp [h10]
    simp (disch:=try exact DI) only [↓PR,QR,simprocAttr,c9.1,d2]
    exact last w (h.skip h3 h8) o9
 by_cases hfl:0≤x.field
 · have d2:decide (x.field≥0)=true:=decide_eq_true hfl
   by_cases h8:x.code=8
   · have d3:(x.code != 8)=false:=by simp [h8]
     simp (disch:=try exact DI) only [↓PR,QR,simprocAttr,c9.1,d1,↓n20c14,d2,d3]
     exact tail (.inr h8)
   · have d3:(x.code != 8)=true:=by simp [h8]
     simp (disch:=try exact DI) only [↓PR,QR,simprocAttr,c9.1,d1,↓n20c14,d2,d3]
     exact hold_seen h g0 (by omega) (by omega) o9 hfl h3 h8 hl last
 · have d2:decide (x.field≥0)=false:=decide_eq_false hfl
   simp (disch:=try exact DI) only [↓PR,QR,simprocAttr,c9.1,d1,↓n20c14,d2]
   exact tail (.inl (by omega))
theorem hold_one {w:World} {mv:Value} (h:HSt W0 m1 m2 p7 d css A A w) (g0:W0.heap.size≤m1) (g12:m1 < m2) (g27:m2 < p7) (hM:MsgsOf W0 mv d.msgs) (hraw:SliceOf W0 2 (fun _ cs (x:Cs 2)=>cs=x.1) mv css) (hmt:Mates 2 (EMsg W0) css d.msgs) (hf:Fine d.msgs) (hml:∀ m∈d.msgs,m.fields.length≤1000)
 (o1:W0.heap[p1]?=some (.cells (defCells d mv).toArray 24 (0,0))) (hP:∃ lo,ProgAt W0 lo pb d) (o9:w.heap[p9]?=some (.cells (insCells x).toArray TI (0,0))) (hx:GoodX d (codeP d) A x) (hok:OkX d x) (hz:sizeP d≤100000) (hl:A.length≤100000) (hi:i≤100000)
 (hK:∀ w',HSt W0 m1 m2 p7 d css (A++[x]) (A++[x]) w'→next2 (.int .i64 ((i+1:Nat):Int)) w') :
 n20c24 (.pointer (some ⟨p1,0,none⟩)) (.pointer (some ⟨p7,0,none⟩)) (.int .i64 (i:Int)) (.pointer (some ⟨p9,0,none⟩)) (.pointer (some ⟨pb,0,none⟩)) (.map (some m1)) (.map (some m2)) next2 R w:=by
 have hm1:=SliceOf.oneCell hM
 have step:∀ w',Ext w w'→n20c20 (.pointer (some ⟨p1,0,none⟩)) (.pointer (some ⟨p7,0,none⟩)) (.int .i64 (i:Int)) (.pointer (some ⟨p9,0,none⟩)) (.pointer (some ⟨pb,0,none⟩)) (.map (some m1)) (.map (some m2)) next2 R w':=by
  intro w' e
  have c9:=cells_of_heap (e.obj o9)
  have q1:=(h.ext.trans e).obj o1
  have fin:n20c15 (.pointer (some ⟨p1,0,none⟩)) (.pointer (some ⟨p7,0,none⟩)) (.int .i64 (i:Int)) (.pointer (some ⟨p9,0,none⟩)) (.pointer (some ⟨pb,0,none⟩)) (.map (some m1)) (.map (some m2)) next2 R w':=hold_switch (h.go e) g0 g12 g27 hM hraw hmt hf hml o1 hP (e.obj o9) hx hl hi hK
  obtain ⟨A0,c0,rfl,_,_,_,_⟩:=SliceOf.open hM
  unfold n20c20
  rcases hok.msg with ⟨hk,_⟩ | ⟨k,m,hk,hkm,_⟩
  · have d1:decide (x.msg≥(d.msgs.length:Int))=false:=decide_eq_false (by omega)
    have d2:decide (x.msg < 0)=true:=decide_eq_true (by omega)
    have d3:(x.code == 3)=false:=by
     rw [beq_eq_false_iff_ne]
     intro h3
     obtain ⟨k,_,hk',_⟩:=hx.own (.inl h3)
     omega
    have d4:(x.code == 10)=false:=by
     rw [beq_eq_false_iff_ne]
     intro h3
     obtain ⟨k,_,hk',_⟩:=hx.own (.inr h3)
     omega
    simp (disch:=try exact DI) only [↓PR,QR,simprocAttr,(cells_of_heap q1).1,c9.1,d1,d2,↓n20c19,d3,↓n20c18,d4,↓n20c17,↓n20c16]
    exact fin
  · have hkl:=(List.getElem?_eq_some_iff.1 hkm).1
    have d1:decide (x.msg≥(d.msgs.length:Int))=false:=decide_eq_false (by omega)
    have d2:decide (x.msg < 0)=false:=decide_eq_false (by omega)
    simp (disch:=try exact DI) only [↓PR,QR,simprocAttr,(cells_of_heap q1).1,c9.1,d1,d2,↓n20c19,↓n20c18,↓n20c17,↓n20c16]
    exact fin
 have c9:=cells_of_heap o9
 unfold n20c24
 by_cases ht:0≤x.to
 · have d1:decide (x.to≥0)=true:=decide_eq_true ht
   obtain ⟨y,hy,hy3⟩:=hx.to ht
   obtain ⟨lo,hP⟩:=hP
   have hyl:=(List.getElem?_eq_some_iff.1 hy).1
   rw [codeP_len] at hyl
   have hin:(0:Int)≤x.to∧x.to < sizeP d:=by omega
   have hat:atI d x.to=y:=by unfold atI;rw [if_pos hin,hy];rfl
   have her:errI d x.to=0:=by unfold errI;rw [if_pos hin]
   simp (disch:=try exact DI) only [↓PR,QR,simprocAttr,c9.1,d1,↓n20c23]
   refine zcr (At_ret (hP.ext h.ext) x.to hz) fun w1 e1=>?_
   rw [hat,her]
   simp (disch:=try exact DI) only [↓PR,QR,simprocAttr,↓n20c22]
   generalize hV:World.alloc w1 _=w2
   have o11:w2.heap[w1.heap.size]?=some (.cells (insCells y).toArray TI (0,0)):=by rw [← hV];exact heap_new _ _ _
   have e2:Ext w1 w2:=by rw [← hV];exact (Ext.refl w1).alloc _
   clear hV
   refine zcr (num_ret _ _) fun w3 e3=>?_
   have d2:(y.code != 3)=false:=by simp [hy3]
   simp (disch:=try exact DI) only [↓PR,QR,simprocAttr,↓n20c21,(cells_of_heap (e3.obj o11)).1,d2]
   exact step w3 (e1.trans (e2.trans e3))
 · have d1:decide (x.to≥0)=false:=decide_eq_false ht
   simp (disch:=try exact DI) only [↓PR,QR,simprocAttr,c9.1,d1]
   exact step w (Ext.refl _)
end
theorem ProgramHolds_ret (w0:World) (v:Value) (d:DefD) (hd:DefVal w0 v d) (_hs:DefSm d) (hT:TabOK w0):Ret Pg 5 #[v] w0 fun r w'=>r = .bool true∧Ext w0 w':=by
 obtain ⟨mv,rfl,hM⟩:=hd
 have hm1:=SliceOf.oneCell hM
 refine n20s (R:=retR _) ?_;unfold n20
 rw [op_boxA]
 have o1:=heap_new w0 (defCells d mv).toArray 24
 have eW:Ext w0 (w0.alloc (.cells (defCells d mv).toArray 24)):=ee
 generalize (w0.alloc (.cells (defCells d mv).toArray 24))=W at o1 eW ⊢
 generalize hp1:w0.heap.size=p1 at o1 ⊢
 simp (disch:=try exact DI) only [↓PR,QR,simprocAttr,(cells_of_heap o1).1]
 have dv:∀ w,Ext W w→DefVal w (.agg (defCells d mv).toArray) d:=fun w e=>⟨mv,rfl,hM.ext (eW.trans e)⟩
 have tb:∀ w,Ext W w→TabOK w:=fun w e=>hT.ext (eW.trans e)
 have kn:∀ w,Ext W w→callK Pg 9 #[] (panK (retR fun r w'=>r = .bool true∧Ext w0 w')) w fun t w=>retR (fun r w'=>r = .bool true∧Ext w0 w') (.returned t) w:=by
  intro w e
  refine zcr (known18_ret w (tb _ e)) fun w2 e2=>?_
  exact ⟨_,rfl,rfl,eW.trans (e.trans e2)⟩
 refine callK_ret (lsmall_ret W _ d (dv _ (Ext.refl _))) ?_
 rintro _ w1 ⟨b,rfl,hsm,e1⟩
 unfold n20c34
 cases b with
 | false =>
  simp (disch:=try exact DI) only [↓PR,QR,simprocAttr,↓n20c33]
  exact kn w1 e1
 | true =>
 have hsm:=hsm rfl
 have ht:=small_calm hsm
 have htm:=small_tame hsm
 have hz:=small_size hsm
 simp (disch:=try exact DI) only [↓PR,QR,simprocAttr,(cells_of_heap (e1.obj o1)).1]
 refine zcr (Aligned_ret _ d (dv _ e1) ht) fun w2 e2=>?_
 have E2:=e1.trans e2
 cases hfl:flawedA d with
 | true =>
  simp (disch:=try exact DI) only [↓PR,QR,simprocAttr,↓n20c33]
  exact kn w2 E2
 | false =>
 have hcv:=aligned_valid hfl
 have hf:=(check_fine hcv).2.2.1
 simp (disch:=try exact DI) only [↓PR,QR,simprocAttr,↓n20c33,(cells_of_heap (E2.obj o1)).1]
 refine callK_ret (Compile_ret w2 _ d (dv _ E2) ht htm hz) ?_
 rintro rv w3 ⟨hr,e3⟩
 rw [hfl,if_neg (by decide)] at hr
 obtain ⟨pb,rfl,hP⟩:=hr
 simp (disch:=try exact DI) only [↓PR,QR,simprocAttr,↓n20c32]
 refine zcr (num_ret _ _) fun w4 e4=>?_
 have P4:=hP.ext e4
 have E4:=E2.trans (e3.trans e4)
 have q1:=E4.obj o1
 simp (disch:=try exact DI) only [↓PR,QR,simprocAttr,↓n20c31,(cells_of_heap q1).1]
 have q1a:∀ o:Obj,(w4.alloc o).heap[p1]?=some (.cells (defCells d mv).toArray 24 (0,0)):=fun o=>((Ext.refl w4).alloc o).obj q1
 have q1b:∀ o o':Obj,((w4.alloc o).alloc o').heap[p1]?=some (.cells (defCells d mv).toArray 24 (0,0)):=fun o o'=>(((Ext.refl w4).alloc o).alloc o').obj q1
 simp (disch:=try exact DI) only [↓PR,QR,simprocAttr,fun o=>(cells_of_heap (q1a o)).1,fun o o'=>(cells_of_heap (q1b o o')).1]
 simp only [World.size_alloc]
 generalize hV:World.alloc (World.alloc (World.alloc w4 _) _) _=V
 have eV:Ext w4 V:=by rw [← hV];exact ee
 have sV:V.heap.size=w4.heap.size+1+1+1:=by rw [← hV];simp only [World.size_alloc]
 have oQ:MapQ V w4.heap.size fun _=>0:=by
  rw [← hV]
  exact ((MapQ.new w4).ext ee).ext ee
 have oN:MapN V (w4.heap.size+1) fun _=>0:=by
  rw [← hV]
  have:=MapN.new (w4.alloc (.map #[] 0))
  rw [World.size_alloc] at this
  exact this.ext ee
 have o7:V.heap[w4.heap.size+1+1]?=some (.cells (defCells d (.slice none 0 0)).toArray 24 (0,0)):=by
  rw [← hV]
  have:=heap_new ((w4.alloc (.map #[] 0)).alloc (.map #[] 0)) (defCells d (.slice none 0 0)).toArray 24
  simp only [World.size_alloc] at this
  exact this
 clear hV q1a q1b
 have hMw:=hM.ext (eW.trans E4)
 obtain ⟨css,hraw,hmt⟩:=SliceOf.raw hMw
 have hml:∀ m∈d.msgs,m.fields.length≤1000:=fun m hm=>by have:=(hsm.2 m hm).1;omega
 generalize hm1':w4.heap.size=m1 at *
 generalize hm2':m1+1=m2 at *
 generalize hm7':m2+1=p7 at *
 have hlen:=codeP_len d
 have hgood:=code_good hcv
 have hok:=code_ok hcv hz
 have h0:HSt w4 m1 m2 p7 d css ((codeP d).take 0) ((codeP d).take 0) V:=⟨eV,oQ,oN,⟨_,o7,OwnE.nil _ _ _ _ _⟩,by omega⟩
 refine loop1_intro (fun a w=>∃ i:Nat,a = .int .i64 i∧i≤sizeP d∧HSt w4 m1 m2 p7 d css ((codeP d).take i) ((codeP d).take i) w) (fun a _=>sizeP d - (intOf a).toNat) ⟨0,rfl,by omega,h0⟩ ?_
 rintro _ w ⟨i,rfl,hi,h⟩
 refine zcr (Len_ret (P4.ext h.ext)) fun w5 e5=>?_
 have h5:=h.go e5
 unfold n20c30
 by_cases hin:i < sizeP d
 · have d1:decide ((i:Int) < (sizeP d:Int))=true:=decide_eq_true (by omega)
   obtain ⟨x,hx⟩:=getElem?_lt (l:=codeP d) (k:=i) (by rw [hlen];exact hin)
   have hin2:(0:Int)≤(i:Int)∧(i:Int) < sizeP d:=by omega
   have hat:atI d i=x:=by unfold atI;rw [if_pos hin2,Int.toNat_natCast,hx];rfl
   have her:errI d i=0:=by unfold errI;rw [if_pos hin2]
   simp (disch:=try exact DI) only [↓PR,QR,simprocAttr,d1]
   refine zcr (At_ret (P4.ext h5.ext) (i:Int) hz) fun w6 e6=>?_
   rw [hat,her]
   simp (disch:=try exact DI) only [↓PR,QR,simprocAttr,↓n20c26]
   generalize hV:World.alloc w6 _=w7
   have o9:w7.heap[w6.heap.size]?=some (.cells (insCells x).toArray TI (0,0)):=by rw [← hV];exact heap_new _ _ _
   have e7:Ext w6 w7:=by rw [← hV];exact (Ext.refl w6).alloc _
   clear hV
   refine zcr (num_ret _ _) fun w8 e8=>?_
   simp (disch:=try exact DI) only [↓PR,QR,simprocAttr,↓n20c25]
   have hg:=each_get hgood hx
   rw [List.nil_append] at hg
   refine hold_one (h5.go (e6.trans (e7.trans e8))) (by omega) (by omega) (by omega) hMw hraw hmt hf hml q1 ⟨_,P4⟩ (e8.obj o9) hg (hok x (List.mem_of_getElem? hx)) hz (by rw [List.length_take];omega) (by omega) fun w' h'=>?_
   rw [← take_snoc hx] at h'
   exact ⟨⟨i+1,rfl,by omega,h'⟩,meas_lt (kd := .i64) hin⟩
 · obtain rfl:i=sizeP d:=by omega
   have d1:decide ((sizeP d:Int) < (sizeP d:Int))=false:=decide_eq_false (by omega)
   rw [show (codeP d).take (sizeP d)=codeP d by rw [← hlen,List.take_length]] at h5
   obtain ⟨v,y7,hO⟩:=h5.o
   rw [code_ent] at hO
   have hv1:v.oneCell'=true:=SliceOf.oneCell (hO.slice (E:=fun _ cs x=>cs=x.1) (fun x=>x.2) (fun _ _=>rfl))
   have hlow:∀ z∈reachP d.msgs (startI d),z.toNat < d.msgs.length:=sel_low (Nat.le_refl _)
   have hPr:MsgsOf w5 v (pruneP d).msgs:=by
    have:=OwnE.reads (E:=EMsg) hO ((pickm hmt hlow).imp fun cs m hm=>keptMsg _ _ _ _ h5.ext hm)
    rw [(prune_msgs hcv).1]
    exact this
   have hdp:∀ w,Ext w5 w→DefVal w (.agg (defCells d v).toArray) (pruneP d):=fun w e=>⟨v,by unfold defCells;rw [(prune_msgs hcv).2.1,(prune_msgs hcv).2.2],hPr.ext e⟩
   have hsub:=prune_sub hcv
   have hfp:=prune_flawed hfl
   have hcp:=aligned_valid hfp
   simp (disch:=try exact DI) only [↓PR,QR,simprocAttr,d1,(cells_of_heap y7).1]
   refine callK_ret (Compile_ret w5 _ (pruneP d) (hdp _ (Ext.refl _)) (fun m hm=>ht m (hsub m hm)) ⟨by have:=(check_fine hcp).2.1.2;omega,fun m hm=>htm.2 m (hsub m hm)⟩ (by rw [prune_size hcv];exact hz)) ?_
   rintro rv w6 ⟨hr,e6⟩
   rw [hfp,if_neg (by decide)] at hr
   obtain ⟨qb,rfl,hPq⟩:=hr
   have E6:=h5.ext.trans e6
   simp (disch:=try exact DI) only [↓PR,QR,simprocAttr,↓n20c29]
   refine zcr (num_ret _ _) fun w7 e7=>?_
   have E7:=E6.trans e7
   simp (disch:=try exact DI) only [↓PR,QR,simprocAttr,↓n20c28]
   refine zcr (Text_ret (P4.ext E7) (tb _ (E4.trans E7)) (small_names hsm) hcv hz) fun w8 e8=>?_
   refine zcr (Text_ret (hPq.ext (e7.trans e8)) (tb _ (E4.trans (E7.trans e8))) (fun m hm=>small_names hsm m (hsub m hm)) hcp (by rw [prune_size hcv];exact hz)) fun w9 e9=>?_
   rw [prune_size hcv,prune_text hcv]
   have deq:(textN d (codeP d) (sizeP d) == textN d (codeP d) (sizeP d))=true:=by rw [bytes_beq'];simp
   simp (disch:=try exact DI) only [↓PR,QR,simprocAttr,deq,↓n20c27]
   refine zcr (known18_ret w9 (tb _ (E4.trans (E7.trans (e8.trans e9))))) fun w10 e10=>?_
   simp (disch:=try exact DI) only [↓PR,QR,simprocAttr]
   exact ⟨by trivial,eW.trans (E4.trans (E7.trans (e8.trans (e9.trans e10))))⟩
end Go.Proofs.YtfdecdnmooaegaaGreatDoor
namespace Go.Proofs.YtfdecdnmooaegaaGreatDoor
open Sw
open Go.ChangeShapes Go.WideShapes Go.RowKit Go.ChangeAt Go.Deep
def pholds_laid:List (String×DataW Unit):=[("math/bits.deBruijn32tab", Rows.laid_math_bits_deBruijn32tab),("math/bits.deBruijn64tab", Rows.laid_math_bits_deBruijn64tab),("internal/strconv.uint64pow10", Rows.laid_internal_strconv_uint64pow10)]
theorem pholds_own:ownKnob Pg.godebug=none:=by kernel_rfl
theorem pholds_laidOut:laidOutB Pg=true:=by kernel_rfl
theorem pholds_met (os:Os) (args:Array Value):laidMetH Pg pholds_laid ((World.doorLaid Pg 400 os).forCall (fun _ _=>0) ⟨#[],args,[]⟩).memory:=laidMetH_of_parts3 (fuel:=8) (laidMet_of_run' 8 (by kernel_rfl) (by kernel_rfl)) (by kernel_rfl) (by kernel_rfl)
theorem pholds_tab {W:World} (h:laidMetH Pg pholds_laid W):TabOK W:=by
 rw [MakeChecks.laidMetH_plain _ _ _ (by kernel_rfl)] at h
 have h3:=laidMet.tail (laidMet.tail h)
 have he:(Rows.laid_internal_strconv_uint64pow10:DataW Unit)=Go.Lib.tabData .u64 Go.Lib.pow10Tab:=by kernel_rfl
 rw [he] at h3
 obtain ⟨g,hg⟩:=Option.isSome_iff_exists.1 gPow
 have hty:(Pg.globals[g]?).map (·.type)=some 196:=by
  have h1:(Pg.globalNamed "internal/strconv.uint64pow10").bind (fun g=>(Pg.globals[g]?).map (·.type))=some 196:=by kernel_rfl
  rw [hg] at h1
  exact h1
 exact Go.Lib.tabIs_of_head hg hty Tryz.underlying196 Tryz.underlying185 (by kernel_rfl) (by kernel_rfl) h3
theorem pholds_lifted (os:Os) (started:os.Started) (H:Type) (enc:TypeId×Value→H) :
 ReturnsInHanded {} Tryz.checked os 5 .any (fun w args=>(Rows.programHoldsSpec.pre enc Pg Tryz.f5 Rows.programHoldsRow.domain false w args∧laidMetH Pg pholds_laid w)∧sizedMet enc Pg Tryz.f5 (OpenSpec.ofChange Rows.programHoldsSpec) false w args) (Rows.programHoldsSpec.post enc Pg Tryz.f5 false true false false):=by
 refine returnsInHanded_of_change_and (C:=Tryz.checked) (X:=fun w _=>laidMetH Pg pholds_laid w) (fun _ _ _ hh h=>h.of_heap hh) pholds_own started (by kernel_rfl) Tryz.func5
  (ChangeSpec.witness_shaped (enc:=enc) (C:=Tryz.checked) (os:=os) (X:=fun w _=>laidMetH Pg pholds_laid w) false (World.doorLaid Pg 400 os) #[.agg #[.string ByteArray.empty,.slice none 0 0,.string ByteArray.empty]] 8 rfl (World.shaped_of_RefB (by kernel_rfl) (by kernel_rfl)) (by kernel_rfl) (by kernel_rfl) (by kernel_rfl) (pholds_met os _)) ?_
 intro W base args ds gs before hval hW _ hsz hL _
 have hW':=hW
 obtain ⟨p,q,hA0,hV,rfl,_,_⟩:=hW
 have hA:DataW.TrodAll enc Pg W 0 (fun _=>true) true Tryz.f5.params.toList args.toList ds p:=hA0
 rw [Tryz.params5] at hA hval hsz
 obtain ⟨v0,vs0,d0,ds0,p0,q0,ha0,rfl,rfl,h0,r0⟩:=trodAll_cons hA
 obtain ⟨rfl,rfl,rfl⟩:=trodAll_nil r0
 obtain rfl:args = #[v0]:=by cases args;simp_all
 obtain ⟨f0,hf0,hs0⟩:=def_val (hval 0 _ v0 rfl rfl) h0 (reached_of (j:=0) hsz rfl rfl)
 refine Calls.mono (ProgramHolds_ret W v0 f0 hf0 hs0 (pholds_tab hL)) fun e W' ⟨v,he,hv,hx⟩=>?_
 subst he hv
 exact ⟨_,rfl,law_post pholds_laidOut (by decide +kernel) rfl hW' hx rfl Tryz.underlying4 rfl rfl rfl⟩
theorem pholds_holds:Rows.ProgramHoldsSaid :=
 OpenClaim.holds_of_wide 5 Tryz.f5 rfl rfl rfl rfl rfl rfl rfl ⟨rfl,rfl,rfl,rfl,rfl⟩ rfl rfl rfl rfl rfl (by kernel_rfl) Tryz.func5 (by kernel_rfl)
  (of_decide_eq_true (by kernel_rfl)) (by unfold Func.isWrapper;first | (rw [if_pos (by decide +kernel)];kernel_rfl) | (rw [if_neg (by decide +kernel)];exact ⟨rfl,rfl⟩))
  (fun os started H enc _=>pholds_lifted os started H enc)
theorem pholds_card:Rows.ProgramHoldsCardSaid :=
 Claim7.holds_tied_plain_at .later [] [.data,.data,.data] true (true, "098e99f67870c94ed070b7e90f46c62b88197afeac646b9f27e4aa6966b563e4") true
  pholds_holds (fun _ h=>by cases h) (by kernel_rfl) (fun _ h=>by cases h) programHolds_row_tie rfl ⟨rfl,rfl⟩ (by kernel_rfl) rfl
  (fun f fn hf hfn=>by
   obtain rfl:f=5:=Option.some.inj ((show Pg.funcNamed "phrasebook/phrasebooklaw18.ProgramHolds" = some 5 by kernel_rfl).symm.trans hf) |>.symm
   obtain rfl:fn=Tryz.f5:=(Option.some.inj (Tryz.func5.symm.trans hfn)).symm
   exact ⟨by kernel_rfl,fun j t ht=>by
    rw [Tryz.params5] at ht
    have hm:t∈[24]:=by simpa using Array.mem_of_getElem? ht
    have hall:([24].all fun u=>!Pg.wantsStandIn u)=true:=by kernel_rfl
    exact (show Pg.wantsStandIn t=false by simpa using List.all_eq_true.1 hall t hm)⟩)
  (by kernel_rfl)
end Go.Proofs.YtfdecdnmooaegaaGreatDoor
