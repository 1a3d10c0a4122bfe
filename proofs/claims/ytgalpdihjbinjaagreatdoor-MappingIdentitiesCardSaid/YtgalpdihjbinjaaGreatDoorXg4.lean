/-
  Lemmas for the claim.
-/
import Derived.Test.YtgalpdihjbinjaaGreatDoorXg3
set_option linter.all false
set_option maxHeartbeats 40000000
set_option maxRecDepth 100000
open Go.Instr (loadAt storeAt fieldAt indexAt buildSlice mapUpdate makeFunc alloc build box extract fill sliceAt lookup makeInterface)
open Go.Proofs.Tryz
namespace Go.Proofs.YtgalpdihjbinjaaGreatDoor
open Sw
open Go.RowKit (intOf Below)
def Yr (f:Zt):List BAr:=if f.kind=7∨f.kind=8∨f.kind=12 then [f.of] else if f.kind=9 then f.cases.map (·.of) else []
def Z9 (l:List Zt):List BAr:=l.flatMap Yr
abbrev XU (s:BAr):List Vl:=[.string s]
def Kg {w:Wd} {QP:PEn} {k:KV} {base:Nat} {v:Vl} {l:List BAr} (s:BAr) {b:Nat} (Gx:Yc w base 9 1 XU v l) (hc:w.cell? ⟨b,0,none⟩=some (.string s)) (VX:base≤w.heap.size) (hl:l.length≤1048576)
 (hk:∀ v' w',Yc w' base 9 1 XU v' (l++[s])→w.grownBy w' v.ownBlock→k v' w') :
 opV Pg (Builtin.append_ #[94,94] 94 #[v,.slice (some ⟨b,0,none⟩) 1 1]) QP w k:=by
 have hby:=by9
 refine WV (l':=[s]) underlying94 ty9 rfl K7 (λ _=>rfl) (λ x _ u hu=>by simp at hu;subst hu;rfl) Gx (λ j x hx=>?_) VX ?_ (by simp;omega) hk
 · cases j with
   | zero=>
    simp at hx;subst hx
    intro j v hv
    cases j with
    | zero=>simp at hv;subst hv;simpa using hc
    | succ j=>simp at hv
   | succ j=>simp at hx
 · simp only [List.length_cons,List.length_nil]
   exact Nat.le_trans (Nat.mul_le_mul (Nat.add_le_add_right hl 1) hby) K7
def QC (w:Wd) (pb:Nat) (sv:Vl) (l:List BAr):Prop:=w.cell? ⟨pb,0,none⟩=some sv∧Ze w 1 KN sv l∧∀ A m c,sv = .slice (some A) m c→pb < A.block
def QC.ext {w w':Wd} {pb:Nat} {sv:Vl} {l:List BAr} (h:QC w pb sv l) (e:Ext w w'):QC w' pb sv l:=⟨e.cell h.1,h.2.1.ext Mp e,h.2.2⟩
def qj {w0 w:Wd} {QP:PEn} {ku:WPr} {pb lo p:Nat} {sv:Vl} {l:List BAr} (s:BAr) {T T':TypeId} (hp:p=w.heap.size) (e:Ext w0 w) (h0:w0.heap.size≤pb) (hlo:pb < lo) (o3:w.heap[pb]?=some (.cells #[sv] T (0,0))) (hO:Yc w lo 9 1 XU sv l) (hs:lo≤w.heap.size) (hl:l.length≤1048576)
 (hk:∀ w' sv',Ext w0 w'→w'.heap[pb]?=some (.cells #[sv'] T (0,0))→Yc w' lo 9 1 XU sv' (l++[s])→lo≤w'.heap.size→ku w') :
 opV Pg (Builtin.append_ #[94,94] 94 #[sv,.slice (some ⟨p,0,none⟩) 1 1]) QP (w.alloc (.cells #[.string s] T')) (λ t w=>opU Pg (storeAt 94 (Qq4 pb) t) QP w ku):=by
 subst hp
 have l3:pb < w.heap.size:=(Qqq o3).1
 have o3':=((Ext.refl w).alloc (.cells #[.string s] T')).obj o3
 refine Kg s (hO.ext ((Ext.refl w).alloc _)) (by rw [Vd];rfl) (Nat.le_trans hs (by simp)) hl ?_
 intro v' w' hO' hg
 have Y3:some pb≠sv.ownBlock:=by
  intro h
  have:=hO.lt pb h.symm
  omega
 have o3w:w'.heap[pb]?=some (.cells #[sv] T (0,0)):=by rw [hg.block pb (by simp;omega) Y3];exact o3'
 have eg:Ext w0 w':=(e.alloc _).grown hg (λ k hk=>by have:=hO.lt k hk;omega)
 have hv:=(hO'.slice (E:=KN) (λ _=>rfl) (λ _ _=>rfl)).oneCell
 rw [Dh Zbh hv ((Za o3w).1 0) ((Za o3w).2 0)]
 refine hk _ v' (eg.setCell h0 _) ?_ ((hO'.range.only (YT.setCell w' pb 0 v') (.inr (.inl hlo))).1) ?_
 · have:=Zy (o:=0) o3w v'
   simpa using this
 · have:=hg.size
   simp at this ⊢
   omega
def jO (w0:Wd) (v:Vl) (m:Yh) (hm:Qt w0 v m) (hb:(Z9 m.fields).length≤1048576) :
 Ret Pg 162 #[v] w0 λ r w'=>∃ pb sv,r = .func (.func 198) #[] #[Qq4 pb]∧QC w' pb sv (Z9 m.fields)∧w0.heap.size≤pb∧Ext w0 w':=by
 obtain ⟨fv,rfl,hF⟩:=hm
 obtain ⟨A,c,rfl,hlc,hcm,hlm,YS⟩:=Ze.open hF
 refine Zl0 (R:=ZR _) ?_;unfold n88
 refine Qqk ?_
 generalize hW:World.alloc (World.alloc w0 _) _=W
 have e0:Ext w0 W:=by rw [← hW];exact ee
 have Uq:W.heap.size=w0.heap.size+1+1:=by rw [← hW];simp only [World.size_alloc]
 have o3:W.heap[w0.heap.size+1]?=some (.cells #[.slice none 0 0] 94 (0,0)):=by rw [← hW];exact Qqy
 clear hW
 refine ZE (λ a0 w=>∃ (k:Nat) , a0 = .int .i64 (k:Int)∧k≤m.fields.length∧Ext w0 w∧(∃ sv,w.heap[w0.heap.size+1]?=some (.cells #[sv] 94 (0,0))∧Yc w W.heap.size 9 1 XU sv (Z9 (m.fields.take k))∧W.heap.size≤w.heap.size)) (λ a0 _=>m.fields.length - (intOf a0).toNat) ⟨0,rfl,Nat.zero_le _,ee,⟨_,o3,Yc.nil _ _ _ _ _,Nat.le_refl _⟩⟩ ?_
 rintro _ w ⟨k,rfl,hk,e,hI⟩
 have se:=e.size
 rcases ZH hk with ⟨x,hx,hd,Ym,ZK⟩ | ⟨hk,hd,ZK⟩
 · obtain ⟨sv,o3,hO,hsW⟩:=hI
   obtain ⟨b,o,cs,rfl,hl,hA,hE⟩:=YS k x hx
   obtain ⟨tv,cv,rfl,hT,hC,ht1,hc1⟩:=hE.op
   have hpre:(Z9 (m.fields.take (k+1)))=Z9 (m.fields.take k)++Yr x:=by unfold Z9;rw [Yw hx,List.flatMap_append];simp
   have hle:(Z9 (m.fields.take (k+1))).length≤1048576:=by
    refine Nat.le_trans ?_ hb
    have:m.fields=m.fields.take (k+1)++m.fields.drop (k+1):=(List.take_append_drop _ _).symm
    conv=>rhs;rw [this]
    unfold Z9
    rw [List.flatMap_append,List.length_append]
    omega
   rw [hpre,List.length_append] at hle
   have hsv:=(hO.slice (E:=KN) (λ _=>rfl) (λ _ _=>rfl)).oneCell
   simp (disch:=try exact DI) only [↓PR,QR,simprocAttr,↓qQ,↓qR,↓qS,↓yI,↓GH,↓qT,↓qU,ZK,hA.c15]
   generalize hW1:World.alloc w _=w1
   have e1:Ext w w1:=by rw [← hW1];exact ee
   have o5:w1.heap[w.heap.size]?=some (.cells (Zq x tv cv).toArray 123 (0,0)):=by rw [← hW1];exact Qqy
   clear hW1
   have s1:=e1.size
   have e01:=e.trans e1
   have o31:=e1.obj o3
   have hO1:=hO.ext e1
   have l5:w.heap.size < w1.heap.size:=(Qqq o5).1
   have l3:w0.heap.size+1 < w1.heap.size:=(Qqq o31).1
   by_cases hr:x.kind=7∨x.kind=8∨x.kind=12
   · have hrf:Yr x=[x.of]:=by unfold Yr;rw [if_pos hr]
     rw [hrf] at hpre hle
     have key:∀ b,b=true→yI (.pointer (some ⟨w0.heap.size+1,0,none⟩)) (Qq4 w.heap.size) (.int .i64 (k:Int)) (.int .i64 x.kind) (.bool b) (λ a0' w'=>(∃ k:Nat,a0'=Value.int IntKind.i64 (k:Int)∧k≤m.fields.length∧Ext w0 w'∧∃ sv,w'.heap[w0.heap.size+1]?=some (.cells #[sv] 94 (0,0))∧Yc w' W.heap.size 9 1 XU sv (Z9 (m.fields.take k))∧W.heap.size≤w'.heap.size)∧m.fields.length - (intOf a0').toNat < m.fields.length - (intOf (Value.int IntKind.i64 (k:Int))).toNat)
      (ZR λ r w'=>∃ pb sv,r = .func (.func 198) #[] #[Qq4 pb]∧QC w' pb sv (Z9 m.fields)∧w0.heap.size≤pb∧Ext w0 w') w1:=by
      rintro b rfl
      simp (disch:=try exact DI) only [↓PR,QR,simprocAttr,↓qQ,↓qR,↓qS,↓yI,↓GH,↓qT,↓qU,(Za o31).1,(Za o5).1]
      refine qj x.of rfl e01 K9 K9 o31 hO1 K9 (by simp at hle;omega) ?_
      intro w2 sv2 e2 o32 hO2 hs2
      rw [← hpre] at hO2
      refine Qqk ?_
      exact ⟨⟨k+1,rfl,by omega,ee,⟨sv2,o32,hO2,hs2⟩⟩,ZQ (kd := .i64) Ym⟩
     simp only [World.size_alloc]
     rcases hr with h | h | h
     · rw [h] at key ⊢
       refine Qqk ?_
       exact key true rfl
     · rw [h] at key ⊢
       simp (disch:=try exact DI) only [↓PR,QR,simprocAttr,↓GH]
       exact key true rfl
     · rw [h] at key ⊢
       simp (disch:=try exact DI) only [↓PR,QR,simprocAttr,↓GH]
       exact key true rfl
   · have h7:(x.kind == 7)=false:=by simp;omega
     have h8:(x.kind == 8)=false:=by simp;omega
     have h12:(x.kind == 12)=false:=by simp;omega
     simp only [World.size_alloc]
     by_cases h9:x.kind=9
     · have h9':(x.kind == 9)=true:=by simp [h9]
       have hrf:Yr x=x.cases.map (·.of):=by unfold Yr;rw [if_neg hr,if_pos h9]
       rw [hrf] at hpre hle
       obtain ⟨A',c',rfl,hlc',hcm',hlm',hel'⟩:=Ze.open hC
       simp (disch:=try exact DI) only [↓PR,QR,simprocAttr,↓qQ,↓qR,↓qS,↓yI,↓GH,↓qT,↓qU,h7,h8,h12,h9',(Za o5).1]
       refine ZE (λ a0 wa=>∃ (ka:Nat) , a0 = .int .i64 (ka:Int)∧ka≤x.cases.length∧Ext w0 wa∧(∃ sv,wa.heap[w0.heap.size+1]?=some (.cells #[sv] 94 (0,0))∧Yc wa W.heap.size 9 1 XU sv (Z9 (m.fields.take k)++(x.cases.take ka).map (·.of))∧W.heap.size≤wa.heap.size)) (λ a0 _=>x.cases.length - (intOf a0).toNat) ⟨0,rfl,Nat.zero_le _,ee,⟨sv,o31,by simpa using hO1,by omega⟩⟩ ?_
       rintro _ wa ⟨ka,rfl,hka,ea,hIa⟩
       have sea:=ea.size
       rcases ZH hka with ⟨xa,hxa,hda,hlta,Pn⟩ | ⟨hka,hda,Pn⟩
       · obtain ⟨sva,oa,hOa,hsa⟩:=hIa
         obtain ⟨b',o',cs',rfl,_,hA',rfl⟩:=hel' ka xa hxa
         have la:w0.heap.size+1 < wa.heap.size:=(Qqq oa).1
         have oa':=((Ext.refl wa).alloc (.cells #[.int .i64 xa.low,.int .i64 xa.high,.string xa.of] 213)).obj oa
         have hla:(x.cases.take ka).length≤x.cases.length:=by rw [List.length_take];omega
         simp (disch:=try exact DI) only [↓PR,QR,simprocAttr,↓qQ,↓qR,↓qS,↓yI,↓GH,↓qT,↓qU,Pn,hA'.c3,(Za oa').1,(Za oa).1]
         refine qj xa.of (by simp only [World.size_alloc]) (ea.alloc _) K9 K9 oa' (hOa.ext ((Ext.refl wa).alloc _)) (by simp;omega) (by simp at hle hla ⊢;omega) ?_
         intro w2 sv2 e2 o32 hO2 hs2
         refine Qqk ?_
         have hO3:Yc w2 W.heap.size 9 1 XU sv2 (Z9 (m.fields.take k)++(x.cases.take (ka+1)).map (·.of)):=by
          rw [Yw hxa,List.map_append,← List.append_assoc];exact hO2
         exact ⟨⟨ka+1,rfl,by omega,ee,⟨sv2,o32,hO3,hs2⟩⟩,ZQ (kd := .i64) hlta⟩
       · subst hka
         obtain ⟨sva,oa,hOa,hsa⟩:=hIa
         rw [List.take_length,← hpre] at hOa
         simp (disch:=try exact DI) only [↓PR,QR,simprocAttr,↓qQ,↓qR,↓qS,↓yI,↓GH,↓qT,↓qU,Pn]
         exact ⟨⟨k+1,rfl,by omega,ee,⟨sva,oa,hOa,hsa⟩⟩,ZQ (kd := .i64) Ym⟩
     · have h9':(x.kind == 9)=false:=by simp;omega
       have hrf:Yr x=[]:=by unfold Yr;rw [if_neg hr,if_neg h9]
       rw [hrf,List.append_nil] at hpre
       rw [← hpre] at hO1
       simp (disch:=try exact DI) only [↓PR,QR,simprocAttr,↓qQ,↓qR,↓qS,↓yI,↓GH,↓qT,↓qU,h7,h8,h12,h9',(Za o5).1]
       exact ⟨⟨k+1,rfl,by omega,ee,⟨sv,o31,hO1,by omega⟩⟩,ZQ (kd := .i64) Ym⟩
 · subst hk
   obtain ⟨sv,o3,hO,hsW⟩:=hI
   rw [List.take_length] at hO
   simp (disch:=try exact DI) only [↓PR,QR,simprocAttr,↓qQ,↓qR,↓qS,↓yI,↓GH,↓qT,↓qU,ZK]
   have hS:=hO.slice (E:=KN) (λ _=>rfl) (λ _ _=>rfl)
   exact ⟨_,sv,rfl,⟨(Za o3).1 0,hS,λ A m c e=>by subst e;have:=hO.lt A.block rfl;omega⟩,by omega,e⟩
def xi (w0:Wd) (v:Vl) (l:List BAr) (s:BAr) (hs:Ze w0 1 KN v l) :
 Ret Pg 167 #[v,.string s] w0 λ r w'=>r = .int .i64 (idx (λ y=>decide (s=y)) l)∧Ext w0 w':=by
 obtain ⟨A,c,rfl,hlc,hcm,hlm,YS⟩:=Ze.open hs
 refine Zh8 (R:=ZR _) ?_;unfold Zh7
 refine Qqk ?_
 refine ZE (λ a0 w=>∃ (k:Nat) , a0 = .int .i64 (k:Int)∧k≤l.length∧Ext w0 w∧∀ (j:Nat) y,j < k→l[j]?=some y→decide (s=y)=false) (λ a0 _=>l.length - (intOf a0).toNat) ⟨0,rfl,Nat.zero_le _,ee,λ j y h=>by omega⟩ ?_
 rintro _ w ⟨k,rfl,hk,e,hI⟩
 have se:=e.size
 rcases ZH hk with ⟨x,hx,hd,Ym,ZK⟩ | ⟨hk,hd,ZK⟩
 · obtain ⟨b,o,cs,rfl,hl,hA,rfl⟩:=YS k x hx
   simp (disch:=try exact DI) only [↓PR,QR,simprocAttr,ZK,hA.c1,↓ID]
   cases hp:decide (s=x) with
   | true=>
    refine Qqk ?_
    exact ⟨by rw [QU hx hp hI],e⟩
   | false=>
    refine Qqk ?_
    exact ⟨⟨k+1,rfl,by omega,ee,before_succ hI hx hp⟩,ZQ (kd := .i64) Ym⟩
 · subst hk
   simp (disch:=try exact DI) only [↓PR,QR,simprocAttr,ZK,↓ID]
   exact ⟨by rw [QV λ j y hy=>hI j y (Qqj hy).1 hy],e⟩
def WG (w0:Wd) (v:Vl) (l:List BAr) (s:BAr) (hs:Ze w0 1 KN v l) :
 Ret Pg 142 #[v,.string s] w0 λ r w'=>r = .bool (l.any λ y=>decide (s=y))∧Ext w0 w':=by
 refine ZhC (R:=ZR _) ?_;unfold ZhB
 refine Zs (xi _ _ l s hs) ?_
 rintro r w' ⟨rfl,e⟩
 refine Qqv ?_
 exact ⟨by rw [QH],e⟩
def ZV:List BAr→List BAr→List BAr
 | _,[]=>[]
 | seen,s::l=>if seen.any (λ y=>decide (s=y)) then ZV (seen++[s]) l else s::ZV (seen++[s]) l
def Ou (l:List BAr) (k:Nat):Vl:=match l[k]? with
 | some s => .string s
 | none=>undef
def H5 (pb:Nat) (sv:Vl) (l:List BAr):OM Pg 198 #[Qq4 pb] (ZV [] l).length (Ou (ZV [] l)) (λ w=>QC w pb sv l):=by
 intro yv J Jx Jp w hFP hJe hJx Qu h0
 obtain ⟨hc,hT,_⟩:=hFP 0 w h0
 obtain ⟨A,c,rfl,hlc,hcm,hlm,YS⟩:=Ze.open hT
 refine ZiJ (t0:=yv) (t1 := Qq4 pb) ?_
 unfold n89
 refine Qqg hc ?_
 refine ZE (λ i w=>∃ k j:Nat,i = .int .i64 k∧k≤l.length∧J j w∧j≤(ZV [] l).length∧(ZV [] l).drop j=ZV (l.take k) (l.drop k)) (λ i _=>l.length - (intOf i).toNat) ⟨0,0,rfl,by omega,h0,by omega,rfl⟩ ?_
 rintro i w' ⟨k,j,rfl,hk,hJ,hj,hD⟩
 rcases ZH hk with ⟨x,hx,hd,Ym,ZK⟩ | ⟨hk,hd,ZK⟩
 · obtain ⟨hc',hT',_⟩:=hFP j w' hJ
   obtain ⟨A',c',hv,_,hcm',_,hel'⟩:=Ze.open hT'
   injection hv with hv _ hv'
   subst hv hv'
   obtain ⟨b,o,cs,rfl,hl,hA,rfl⟩:=hel' k x hx
   have er:=Ext.refl w'
   rw [hd] at hD
   simp only [ZV] at hD
   simp (disch:=try exact DI) only [↓PR,QR,simprocAttr,↓U2,↓U3,ZK,hA.c1,hc']
   rw [Uk underlying94 ty9 b o l.length c .i64 k K9]
   have YH:(l.take k).length=k:=by rw [List.length_take];omega
   have hpre:Ze w' 1 KN (.slice (some ⟨b,o,none⟩) k c) (l.take k):=by
    refine ⟨_,c,by rw [YH],by rw [YH];omega,hcm,λ _=>⟨b,o,rfl,λ i y hy=>?_⟩⟩
    rw [List.getElem?_take] at hy
    split at hy
    · obtain ⟨b',o',cs,hA',h1,h2,h3⟩:=hel' i y hy
      injection hA' with hA'
      injection hA' with h5 h6
      subst h5 h6
      exact ⟨cs,h1,h2,h3⟩
    · cases hy
   refine zcr (WG w' _ _ x hpre) λ w2 e2=>?_
   have hJ2:=hJe j w' w2 hJ e2
   have htk:l.take (k+1)=l.take k++[x]:=Yw hx
   cases hany:(l.take k).any (λ y=>decide (x=y)) with
   | true=>
    rw [hany,if_pos rfl,← htk] at hD
    simp (disch:=try exact DI) only [↓PR,QR,simprocAttr,↓U2,↓U3]
    exact ⟨⟨k+1,j,rfl,by omega,hJ2,hj,hD⟩,ZQ (kd := .i64) Ym⟩
   | false=>
    rw [hany,if_neg (by simp),← htk] at hD
    have Ml:j < (ZV [] l).length:=by
     have:=congrArg List.length hD
     simp at this
     omega
    have hxj:(ZV [] l)[j]?=some x:=by
     have:=congrArg (λ l=>l[0]?) hD
     simpa using this
    have hD2:(ZV [] l).drop (j+1)=ZV (l.take (k+1)) (l.drop (k+1)):=by
     rw [← List.tail_drop,hD];rfl
    have hs:=Qu j Ml w2 hJ2
    rw [show Ou (ZV [] l) j = .string x by unfold Ou;rw [hxj]] at hs
    simp (disch:=try exact DI) only [↓PR,QR,simprocAttr,↓U2,↓U3]
    refine GZ hs (λ ch w h=>h) ?_
    rintro v w3 (⟨rfl,h2⟩ | ⟨rfl,h2⟩)
    · simp (disch:=try exact DI) only [↓PR,QR,simprocAttr,↓U2,↓U3]
      exact ⟨⟨k+1,j+1,rfl,by omega,h2,Ml,hD2⟩,ZQ (kd := .i64) Ym⟩
    · simp (disch:=try exact DI) only [↓PR,QR,simprocAttr,↓U2,↓U3]
      exact .inr h2
 · subst hk
   simp (disch:=try exact DI) only [↓PR,QR,simprocAttr,↓U2,↓U3,ZK]
   rw [hd] at hD
   have Ml:j=(ZV [] l).length:=by
    have:=congrArg List.length hD
    simp [ZV] at this
    omega
   rw [← Ml]
   exact .inl hJ
end Go.Proofs.YtgalpdihjbinjaaGreatDoor
namespace Go.Sw
open Go.RowKit (Below)
section
variable {P:Program} {QP:PEn} {w:Wd}
def Lq {α:Type} {t ty T n m:Nat} {z:Vl} {agg:Bool} {enc:α→List Vl} {v:Vl} {l l':List α} {base:Nat} {k:KV}
 (ht:P.underlying t=some (.slice T)) (hT:ZJ P T agg n m z) (hz:z.cells.size=n) (h0:0 < n) (hn:∀ x,(enc x).length=n) (h1:∀ x,x∈l'→∀ u∈enc x,u.oneCell'=true)
 (Gx:Yc w base T n enc v l) {b o c:Nat} (hc:∀ j x,l'[j]?=some x→Z6 w b (o+j*n) (enc x)) (VX:base≤w.heap.size) (hl':0 < l'.length) (hm:(l.length+l'.length)*m≤140737488355328) (hb:l.length+l'.length≤140737488355328)
 (hk:∀ g cap w',Yc w' base T n enc (.slice (some ⟨g,0,none⟩) (l.length+l'.length) cap) (l++l')→w.grownBy w' v.ownBlock→(v.ownBlock=some g∨g=w.heap.size)→g < w'.heap.size→k (.slice (some ⟨g,0,none⟩) (l.length+l'.length) cap) w') :
 opV P (Builtin.append_ #[t,t] ty #[v,.slice (some ⟨b,o,none⟩) l'.length c]) QP w k:=by
 obtain ⟨⟨i,hi,hs,hby,hzz⟩,_⟩:=hT
 have hfl:(l'.flatMap enc).length=l'.length*n:=by
  clear hm hb hc h1 hk hl'
  induction l' with
  | nil=>simp
  | cons a l ih=>rw [List.flatMap_cons,List.length_append,hn,ih,List.length_cons,Nat.add_mul];omega
 have hcells:∀ j u,(l'.flatMap enc)[j]?=some u→w.cell? ((⟨b,o,none⟩:Addr).add j)=some u:=by
  intro j u hu
  have hj:j < l'.length*n:=by have:=(Qqj hu).1;rwa [hfl] at this
  have hq:j / n < l'.length:=Nat.div_lt_of_lt_mul (by rw [Nat.mul_comm];exact hj)
  obtain ⟨x,hx⟩:=getElem?_lt hq
  have hjn:j % n < (enc x).length:=by rw [hn];exact Nat.mod_lt _ h0
  have hdm:j / n*n+j % n=j:=by rw [Nat.mul_comm];exact Nat.div_add_mod j n
  have hg:=WZ hn l' (j / n) x (j % n) _ hx (List.getElem?_eq_getElem hjn)
  rw [hdm,hu] at hg
  injection hg with hg
  rw [Addr.add_lit]
  have:=hc _ _ hx (j % n) _ (List.getElem?_eq_getElem hjn)
  rw [hg,← this]
  congr 2;omega
 obtain ⟨g,cap,w',hr,ho,hg,hgl,Ym⟩:=run_append_lies (P:=P) (w:=w) t ty base T i z n m ht hi hzz hs hby hz h0 v l.length (l.flatMap enc) Gx ⟨b,o,none⟩ l'.length c (l'.flatMap enc) hfl hcells
  (by intro u hu;obtain ⟨x,hx,hux⟩:=List.mem_flatMap.1 hu;exact h1 x hx u hux) hl' (by simp only [maxLen];omega) hm VX _ rfl
 rw [Yj hr]
 refine hk g cap w' ?_ hg hgl Ym
 unfold Yc
 rw [List.flatMap_append,List.length_append];exact ho
end
def Yc.grown {α:Type} {w w':Wd} {lo n:Nat} {T:TypeId} {enc:α→List Vl} {v:Vl} {l:List α} {row:Option Nat} (h:Yc w lo T n enc v l) (hg:w.grownBy w' row) (Y3:∀ b,v.ownBlock=some b→row≠some b):Yc w' lo T n enc v l:=by
 obtain ⟨h1,h2⟩:=h
 refine ⟨h1,?_⟩
 rcases h2 with h2 | ⟨g,cap,cur,hv,hb,hc,h3⟩
 · exact .inl h2
 · refine .inr ⟨g,cap,cur,hv,hb,?_,h3⟩
   rw [hg.block g (Qqq hc).1 (λ e=>Y3 g (by rw [hv];rfl) e.symm)]
   exact hc
end Go.Sw
namespace Go.Proofs.YtgalpdihjbinjaaGreatDoor
open Sw
def Sr b c a (Zu:KV) R w:=
 F0 27 c 1 R w λ d w=>
 L0 25 d R w λ e w=>
 X0 25 e a R w λ f w=>
 F0 74 f 0 R w λ g w=>
 L0 9 g R w λ h w=>
 B0 .eql 9 false h b R w λ i w=>
 Zo i (
 R (.returned a) w) (
 B0 .add 3 true a (QqJ 1) R w λ j w=>
 Zu j w)
def n58 b c d R w:=
 opV Pg (box 27 b) (Zj R) w λ e w=>
 Yz (λ a w Zu=>
 B0 .lss 3 false a d R w λ f w=>
 Zo f (
 Sr c e a Zu R w) (
 R (.returned (.int .i64 (-1))) w)) (QqJ 0) w
def Zlw:QqQ3 115 n58:=λ h=>by
 refine yD func115 ?_
 refine zs<|zr<|yv h λ h=>zm<|zn<|zk<|zs<|zs<|zr<|zm<|zn<|zk<|Zk<|yl1 [6,7,8,9,10,11,12,13,14,15,16,17,18,19,20,21] 7 h λ σ w next h=>zs ?_
 refine zs<|zr<|zm<|zm<|yb h λ h=>zn<|zk<|yC h (λ h=>?_) λ h=>?_
 · refine Zi<|zk<|zs<|Zk<|zs<|zr<|yv h λ h=>yv h λ h=>zm<|yv h λ h=>yv h λ h=>yv h λ h=>zm<|yb h λ h=>zn ?_
   exact zk<|yC h (λ h=>zs<|zr<|zm<|zm<|zn<|zk<|Zh<|Zd<|Zb<|Zb<|Zd<|Zb<|Zf rfl rfl h) λ h=>Zi<|Zg<|zk<|zr<|zm<|yb h λ h=>zm<|zn<|zk<|⟨rfl,h⟩
 exact ZD<|Zc<|Zc<|Zp<|zk<|zs<|zr<|zm<|zn<|zk<|Zh<|Zf rfl rfl h
def CR a b c d R w:=
 N0 d R w λ e w=>
 Zo e (
 R (.returned (QqJ 5)) w) (
 L0 27 c R w λ f w=>
 C0 145 #[f,a,b] R w λ g w=>
 R (.returned g) w)
def CS a b c d e f (R:RT) w:=
 Zw e (.bool true) f λ g=>
 Zo g (
 R (.returned (QqJ 4)) w) (
 L0 123 d R w λ h w=>
 C0 144 #[h] R w λ i w=>
 CR a b c i R w)
def CT e f g a R w:=
 F0 123 a 1 R w λ h w=>
 L0 117 h R w λ i w=>
 B0 .lss 117 true i (QqJ 1) R w λ c w=>
 Zm (λ (b:Vl) (w:Wd)=>
 CS e f g a c b R w) λ d=>
 Zl c false (
 F0 123 a 1 R w λ j w=>
 L0 117 j R w λ k w=>
 B0 .gtr 117 true k (QqJ 12) R w λ b w=>
 d b w) (
 d undef w)
def CU b c d e (a:WPr) (R:RT) w:=
 J0 27 d 1 a λ f=>
 I0 25 f a λ g=>
 M0 25 g b a λ h=>
 I0 74 h a λ i=>
 J0 123 e 0 a λ j=>
 I0 9 j a λ k=>
 C0 143 #[i,k,c] R w λ l w=>
 a w∧(
 qV Pg a (ZP .geq 3 true l (QqJ 0)) λ m=>
 Zo m (
 R (.returned (QqJ 2)) w) (
 CT b c d e R w))
def n65 e b c R w:=
 opV Pg (box 27 e) (Zj R) w λ d w=>
 F0 27 d 1 R w λ f w=>
 L0 25 f R w λ g w=>
 X0 25 g b R w λ h w=>
 F0 74 h 1 R w λ i w=>
 L0 72 i R w λ j w=>
 X0 72 j c R w λ k w=>
 L0 123 k R w λ l w=>
 opV Pg (alloc 123 true (.tuple #[])) (Zj R) w λ a w=>
 S0 123 a l R w λ w=>
 F0 123 a 0 R w λ m w=>
 L0 9 m R w λ n w=>
 C0 39 #[n] R w λ o w=>
 N0 o R w λ p w=>
 Zo p (
 R (.returned (QqJ 1)) w) (
 Yg w λ q w=>
 CU b c d a q R w)
def ZlD:QqQ3 116 n65:=λ h=>by
 refine yD func116 ?_
 refine zs<|zr<|yv h λ h=>zm<|zn<|zk<|zs<|zr<|yv h λ h=>yv h λ h=>zm<|yv h λ h=>yv h λ h=>yv h λ h=>zm ?_
 refine yv h λ h=>yv h λ h=>yv h λ h=>yu h λ h=>zn<|zk<|zs<|zs<|zr<|yv h λ h=>yv h λ h=>yc h c39 λ h=>yv h λ h=>zn<|zk ?_
 refine yC h (λ h=>zs<|zr<|zm<|zn<|zk<|Zh<|Zb<|Zf rfl rfl h) λ h=>Zi<|zk<|zs<|zs<|yh [21,22,23,24,25,26,27,28,29,30] h λ C hC h=>ye 0 hC h λ h=>?_
 refine ye 1 hC h λ h=>?_
 refine yw 2 hC ?_
 refine ye 3 hC h λ h=>?_
 refine ye 4 hC h λ h=>?_
 refine ye 5 hC h λ h=>?_
 refine ye 6 hC h λ h=>?_
 refine yw 7 hC ?_
 refine yo 8 ?_
 refine yc h Zac λ h=>zn ?_
 obtain ⟨hC,h⟩:=h
 refine ⟨hC,?_⟩
 refine ye 9 hC h λ h=>?_
 refine yz<|zk<|yC h (λ h=>zs<|zr<|zm<|zn<|zk<|Zh<|Zb<|Zf rfl rfl h) λ h=>Zi<|zk<|zs<|zs<|Zr<|yG 4<|yv h λ h=>yv h λ h=>yb h λ h=>zm<|zn ?_
 refine yg1 3 3 false [35,36,37] 37 h (λ _ T hT h=>?_) λ σ w h=>?_
 · refine yv h λ h=>yv h λ h=>yb h λ h=>zn ?_
   exact zt hT h
 refine yG 1<|yp h λ h=>zn<|ZG<|zk<|yC h (λ h=>zs<|zr<|zm<|zn<|zk<|Zh<|Zb<|Zf rfl rfl h) λ h=>Zi<|zk<|zs<|zs<|zr<|yv h λ h=>yc h ZjP λ h=>yv h λ h=>?_
 refine zn<|zk<|yC h (λ h=>zs<|zr<|zm<|zn<|zk<|Zh<|Zb<|Zf rfl rfl h) λ h=>Zi<|zk<|zs<|zr<|yv h λ h=>zm<|zm<|yc h ZjQ λ h=>zm<|zn<|zk ?_
 exact Zh<|Zf rfl rfl h
def ZcJ f g h c d (a:WPr) (Hm:KW) R w:=
 Zm (λ (b:Vl) (w:Wd)=>
 Zw c (.bool true) b λ i=>
 B0 .add 3 true d (QqJ 1) R w λ j w=>
 Hm i j w) λ e=>
 Zl c false (
 M0 94 f d a λ k=>
 I0 9 k a λ l=>
 M0 94 g h a λ m=>
 I0 9 m a λ n=>
 qV Pg a (ZP .eql 9 false l n) λ b=>
 e b w) (
 e undef w)
def ZcK a b c (d:KV) R w:=
 X0 94 b c R w λ e w=>
 L0 9 e R w λ f w=>
 opV Pg (buildSlice 94 1 #[(0,f)]) (Zj R) w λ g w=>
 opV Pg (Builtin.append_ #[94,94] 94 #[a,g]) (Zj R) w λ h w=>
 d h w
def ZcL a d b e (Xf:KW) R w:=
 N0 e R w λ f w=>
 Zm (λ (g:Vl) (w:Wd)=>
 B0 .add 3 true b (QqJ 1) R w λ h w=>
 Xf g h w) λ c=>
 Zo f (
 ZcK a d b c R w) (
 c a w)
def ZcM a b c d e (Xf Hm:KW) R w:=
 G0 94 3 a R w λ f w=>
 B0 .lss 3 false e f R w λ g w=>
 Zo g (
 Yg w λ h w=>
 ZcJ a b c d e h Hm R w) (
 ZcL a b c d Xf R w)
def Su a d b c (Zu Xf:KW) R w:=
 G0 94 3 b R w λ e w=>
 B0 .lss 3 false c e R w λ f w=>
 Zo f (
 Qq (λ g h w Hm=>
 ZcM a b c g h Xf Hm R w) (.bool false) (QqJ 0) w) (
 B0 .add 3 true d (QqJ 1) R w λ i w=>
 Zu a i w)
def ZcN b c a (Y0:KW) R w:=
 F0 123 b 11 R w λ d w=>
 L0 121 d R w λ e w=>
 X0 121 e a R w λ f w=>
 F0 213 f 2 R w λ g w=>
 L0 9 g R w λ h w=>
 opV Pg (buildSlice 94 1 #[(0,h)]) (Zj R) w λ i w=>
 opV Pg (Builtin.append_ #[94,94] 94 #[c,i]) (Zj R) w λ j w=>
 B0 .add 3 true a (QqJ 1) R w λ k w=>
 Y0 j k w
def MG a c d b e f g (Zu Y0:KW) R w:=
 Zw f g (.bool false) λ h=>
 Zo h (
 ZcN d b e Y0 R w) (
 Qq (λ a i w Xf=>
 Su a c b i Zu Xf R w) a (QqJ 0) w)
def Hd f g a h c (Zu Y0:KW) R w:=
 F0 123 a 1 R w λ i w=>
 L0 117 i R w λ j w=>
 B0 .eql 117 true j (QqJ 9) R w λ d w=>
 Zm (λ (b:Vl) (w:Wd)=>
 MG f g a h c d b Zu Y0 R w) λ e=>
 Zl d true (
 F0 123 a 11 R w λ k w=>
 L0 121 k R w λ l w=>
 G0 121 3 l R w λ m w=>
 B0 .lss 3 false c m R w λ b w=>
 e b w) (
 e undef w)
def Sv a (b:KV) R w:=
 F0 123 a 8 R w λ c w=>
 L0 9 c R w λ d w=>
 opV Pg (buildSlice 94 1 #[(0,d)]) (Zj R) w λ e w=>
 opV Pg (Builtin.append_ #[94,94] 94 #[(Value.slice none 0 0),e]) (Zj R) w λ f w=>
 b f w
def Be d e b f g (Zu:KW) R w:=
 Zw f (.bool true) g λ h=>
 Zm (λ (a:Vl) (w:Wd)=>
 Qq (λ a i w Y0=>
 Hd d e b a i Zu Y0 R w) a (QqJ 0) w) λ c=>
 Zo h (
 Sv b c R w) (
 c (Value.slice none 0 0) w)
def Bf e f b g h (Zu:KW) R w:=
 Zw g (.bool true) h λ c=>
 Zm (λ (a:Vl) (w:Wd)=>
 Be e f b c a Zu R w) λ d=>
 Zl c false (
 F0 123 b 1 R w λ i w=>
 L0 117 i R w λ j w=>
 B0 .eql 117 true j (QqJ 12) R w λ a w=>
 d a w) (
 d undef w)
def Ss f g c (Zu:KW) R w:=
 F0 74 f 1 R w λ h w=>
 L0 72 h R w λ i w=>
 X0 72 i c R w λ j w=>
 L0 123 j R w λ k w=>
 opV Pg (alloc 123 true (.tuple #[])) (Zj R) w λ a w=>
 S0 123 a k R w λ w=>
 F0 123 a 1 R w λ l w=>
 L0 117 l R w λ m w=>
 B0 .eql 117 true m (QqJ 7) R w λ d w=>
 Zm (λ (b:Vl) (w:Wd)=>
 Bf g c a d b Zu R w) λ e=>
 Zl d false (
 F0 123 a 1 R w λ n w=>
 L0 117 n R w λ o w=>
 B0 .eql 117 true o (QqJ 8) R w λ b w=>
 e b w) (
 e undef w)
def St a b c (Zu:KW) R w:=
 F0 74 a 1 R w λ d w=>
 L0 72 d R w λ e w=>
 G0 72 3 e R w λ f w=>
 B0 .lss 3 false c f R w λ g w=>
 Zo g (
 Ss a b c Zu R w) (
 R (.returned b) w)
def n61 a R w:=
 opV Pg (box 74 a) (Zj R) w λ b w=>
 Qq (λ c d w Zu=>
 St b c d Zu R w) (Value.slice none 0 0) (QqJ 0) w
def Zlz:QqQ1 117 n61:=λ h=>by
 refine yD func117 ?_
 refine zs<|zr<|yv h λ h=>zm<|zn<|zk<|zs<|zr<|zm<|zn<|zk<|zs<|zs<|zr<|zm ?_
 refine zn<|zk<|Zk<|yl2 [3,4,5,6,7,8,9,10,11,12,13,14,15,16,17,18,19,20,21,22,23,24,25,26,27,28,29,30,31,32,33,34,35,36,37,38,39,40,41,42,43,44,45,46,47,48,49,50,51,52,53,54,55,56,57,58,59,60,61,62,63,64,65,66,67,68,69,70,71,72,73,74,75,76,77,78,79,80,81,82,83,84,85,86,87,88,89,90,91,92,93,94] 3 4 h λ σ w next h=>zs<|zs<|zr<|zm<|yv h λ h=>yv h λ h=>yx h λ h=>yb h λ h=>zn<|zk<|yC h (λ h=>?_) λ h=>?_
 · refine Zi<|zk<|zs<|Zk<|zs<|zr<|yv h λ h=>yv h λ h=>zm<|yv h λ h=>yv h λ h=>yv h λ h=>yu h λ h=>zn<|zk ?_
   refine zs<|zr<|zm<|zn<|zk<|zs<|zs<|Zr<|yG 4<|yv h λ h=>yv h λ h=>yb h λ h=>zm<|zn<|yg1 3 3 false [27,28,29] 29 h (λ _ T hT h=>?_) λ σ w h=>?_
   · refine yv h λ h=>yv h λ h=>yb h λ h=>zn ?_
     exact zt hT h
   refine yG 2<|yp h λ h=>zm<|zn<|yg1 3 8 false [32,33,34] 34 h (λ _ T hT h=>?_) λ σ w h=>?_
   · refine yv h λ h=>yv h λ h=>yb h λ h=>zn ?_
     exact zt hT h
   refine yG 1<|yp h λ h=>zn<|ZG<|zk<|yJ1 [6,36,37,38,39,40] 6 h (λ _ _ hkK4 h=>?_) λ σ w h=>?_
   · refine yC h (λ h=>?_) λ h=>?_
     · refine zr<|zm<|yv h λ h=>yv h λ h=>yS h λ h=>yx h λ h=>zm<|zn<|zk ?_
       exact zt hkK4 h
     refine Zi<|zk ?_
     exact zt hkK4 h
   refine zk<|zs<|zs<|zr<|zm<|zn<|zk<|Zk<|yl2 [6,7,41,42,43,44,45,46,47,48,49,50,51,52,53,54,55,56,57,58,59,60,61] 6 7 h λ σ w next h=>zs<|zs<|Zr<|yG 4<|yv h λ h=>yv h λ h=>?_
   refine yb h λ h=>zm<|zn<|yg1 5 3 true [45,46,47,48,49] 49 h (λ _ T hT h=>?_) λ σ w h=>?_
   · refine zm<|yv h λ h=>yv h λ h=>yx h λ h=>yb h λ h=>zn ?_
     exact zt hT h
   refine yG 1<|yp h λ h=>zn<|ZG<|zk<|yC h (λ h=>?_) λ h=>?_
   · refine Zi<|zk<|zs<|Zk<|zr<|zm<|yv h λ h=>yv h λ h=>zm<|yv h λ h=>yv h λ h=>yv h λ h=>yS h λ h=>yx h λ h=>zm ?_
     exact zn<|Zg<|zk<|zr<|zm<|yb h λ h=>zm<|zn<|zk<|⟨rfl,h⟩
   refine ZD<|Zc<|Zc<|Zp<|zk<|zs<|zr<|zm<|zn<|zk<|Zk<|yl2 [3,8,9,10,62,63,64,65,66,67,68,69,70,71,72,73,74,75,76,77,78,79,80,81,82,83,84,85,86,87,88,89,90,91,92,93,94] 3 8 h λ σ w next h=>zs<|zs<|zr ?_
   refine zm<|zm<|yx h λ h=>yb h λ h=>zn<|zk<|yC h (λ h=>?_) λ h=>?_
   · refine Zi<|zk<|zs<|Zk<|zs<|zr<|zm<|zn<|zk<|zs<|zs<|zr<|zm<|zn<|zk ?_
     refine Zk<|yl2 [9,10,68,69,70,71,72,73,74,75,76,77,78,79,80,81,82,83,84,85] 9 10 h λ σ w next h=>zs<|zs<|zr<|zm<|zm<|yx h λ h=>yb h λ h=>zn<|zk<|yC h (λ h=>?_) λ h=>?_
     · refine Zi<|zk<|zs<|Zk<|yh [9,74,75,76,77,78,79,80,81,82,83,84,85] h λ C hC h=>yw 0 hC ?_
       refine yw 1 hC ?_
       refine yj1 2 [10,9,8,7,6,5,4,3,2,1,0] [76,77,78,79,80,81,82,83,84] 84 h (λ _ hT hb h=>?_) (λ _ hT hb h=>?_) λ σ w hC h=>?_
       · refine yw 2 hC ?_
         refine yw 3 hC ?_
         refine ye 4 hC h λ h=>?_
         refine ye 5 hC h λ h=>?_
         refine yw 6 hC ?_
         refine yw 7 hC ?_
         refine ye 8 hC h λ h=>?_
         refine ye 9 hC h λ h=>?_
         refine ye 10 hC h λ h=>?_
         exact yt hT hC h
       · refine yi 2 hC ?_
         refine yi 3 hC ?_
         refine yi 4 hC ?_
         refine yi 5 hC ?_
         refine yi 6 hC ?_
         refine yi 7 hC ?_
         refine yi 8 hC ?_
         refine yi 9 hC ?_
         refine yi 10 hC ?_
         exact yt hT hC h
       refine yP 11 hC h λ _ h=>?_
       refine yw 12 hC ?_
       exact yz<|Zg<|zk<|zr<|zm<|yb h λ h=>zm<|zn<|zk<|⟨rfl,h⟩
     refine ZD<|Zc<|Zc<|Zp<|zk<|zs<|zr<|zm<|yv h λ h=>zn<|zk<|yJ1 [3,88,89,90,91,92,93,94] 3 h (λ _ _ hkK11 h=>?_) λ σ w h=>?_
     · refine yC h (λ h=>?_) λ h=>?_
       · refine zr<|zm<|zm<|zm<|yv h λ h=>yv h λ h=>yS h λ h=>yx h λ h=>zm<|zn<|zk ?_
         exact zt hkK11 h
       refine Zi<|zk ?_
       exact zt hkK11 h
     exact Zg<|zk<|zr<|zm<|yb h λ h=>zm<|zn<|zk<|⟨rfl,h⟩
   exact ZD<|Zc<|Zc<|Zp<|Zg<|zk<|zr<|zm<|yb h λ h=>zm<|zn<|zk<|⟨rfl,h⟩
 exact ZD<|Zc<|Zc<|Zp<|zk<|zs<|zr<|zm<|zm<|zn<|zk<|Zh<|Zf rfl rfl h
end Go.Proofs.YtgalpdihjbinjaaGreatDoor
namespace Go.Proofs.YtgalpdihjbinjaaGreatDoor
open Sw
open Go.RowKit (intOf Below)
def UW (o:List BAr) (s:BAr):List BAr:=if o.any (λ y=>decide (y=s)) then o else o++[s]
def Ae:∀ (l seen:List BAr) (s:BAr),ZV seen (l++[s])=ZV seen l++(if (seen++l).any (λ y=>decide (s=y)) then [] else [s])
 | [],seen,s=>by
  simp only [List.nil_append,ZV,List.append_nil]
 | a::l,seen,s=>by
  simp only [List.cons_append,ZV]
  rw [Ae l (seen++[a]) s]
  have:(seen++[a]++l)=seen++a::l:=by simp
  rw [this]
  split<;>simp
def U1:∀ (l seen:List BAr) (s:BAr),s∈ZV seen l↔s∈l∧s ∉ seen
 | [],seen,s=>by simp [ZV]
 | a::l,seen,s=>by
  simp only [ZV]
  by_cases h:(seen.any λ y=>decide (a=y))=true
  · rw [if_pos h,U1 l]
    have ha:a∈seen:=by obtain ⟨y,h1,h2⟩:=List.any_eq_true.1 h;simp at h2;subst h2;exact h1
    simp only [List.mem_append,List.mem_singleton,List.mem_cons,not_or]
    constructor
    · rintro ⟨h1,h2,h3⟩;exact ⟨.inr h1,h2⟩
    · rintro ⟨h1 | h1,h2⟩
      · subst h1;exact absurd ha h2
      · exact ⟨h1,h2,⟨λ (e:s=a)=>h2 (e ▸ ha),by simp⟩⟩
  · rw [if_neg h]
    have ha:a ∉ seen:=λ h2=>h (List.any_eq_true.2 ⟨a,h2,by simp⟩)
    simp only [List.mem_cons,U1 l,List.mem_append,List.mem_singleton,not_or]
    by_cases e:s=a
    · subst e;simp [ha]
    · simp [e]
def G1 (l:List BAr):ZV [] l=l.foldl UW []:=by
 refine jk (motive:=λ l=>ZV [] l=l.foldl UW []) rfl (λ l a ih=>?_) l
 rw [Ae,List.foldl_append,← ih,List.nil_append]
 show _=UW (ZV [] l) a
 unfold UW
 have:((ZV [] l).any λ y=>decide (y=a))=(l.any λ y=>decide (a=y)):=by
  rw [Bool.eq_iff_iff,List.any_eq_true,List.any_eq_true]
  constructor
  · rintro ⟨y,h1,h2⟩;simp at h2;subst h2;exact ⟨y,((U1 l [] y).1 h1).1,by simp⟩
  · rintro ⟨y,h1,h2⟩;simp at h2;subst h2;exact ⟨a,(U1 l [] a).2 ⟨h1,by simp⟩,by simp⟩
 rw [this]
 split<;>simp
def OO (o:List BAr) (s:BAr):o.length≤(UW o s).length∧(UW o s).length≤o.length+1:=by unfold UW;split<;>simp
def Ub:∀ (l o:List BAr),(l.foldl UW o).length≤o.length+l.length
 | [],o=>by simp
 | s::l,o=>by
  have h1:=Ub l (UW o s)
  have h2:=(OO o s).2
  simp only [List.foldl_cons,List.length_cons];omega
abbrev QZ (w:Wd) (base:Nat) (v:Vl) (l:List BAr):Prop:=Yc w base 9 1 XU v l
def Jc {w:Wd} {QP:PEn} {k:KV} {base:Nat} {v:Vl} {l:List BAr} (s:BAr) {p:Nat} (Gx:QZ w base v l) (hp:w.heap[p]?=some (.cells #[.string s] 9 (0,0))) (VX:base≤w.heap.size) (hl:l.length≤1048576)
 (hk:∀ v' w',QZ w' base v' (l++[s])→w.grownBy w' v.ownBlock→(∀ b,v'.ownBlock=some b→v.ownBlock=some b∨b=w.heap.size)→k v' w') :
 opV Pg (Builtin.append_ #[94,94] 94 #[v,.slice (some ⟨p,0,none⟩) 1 1]) QP w k:=by
 have hby:=by9
 refine Lq (l':=[s]) underlying94 ty9 rfl K7 (λ _=>rfl) (λ x _ u hu=>by simp at hu;subst hu;rfl) Gx (λ j x hx=>?_) VX (Nat.zero_lt_one) ?_ (by simp;omega) ?_
 · cases j with
   | zero=>
    simp at hx;subst hx
    intro j v hv
    rw [(Za hp).1]
    simpa using hv
   | succ j=>simp at hx
 · simp only [List.length_cons,List.length_nil]
   exact Nat.le_trans (Nat.mul_le_mul (Nat.add_le_add_right hl 1) hby) K7
 · intro g cap w' h1 h2 h3 h4
   refine hk _ w' h1 h2 (λ b hb=>?_)
   simp only [Value.ownBlock,Option.some.injEq] at hb
   subst hb
   exact h3
def jD (v u:Vl):Prop:=∀ b,v.ownBlock=some b→u.ownBlock≠some b
def QZ.lt {w:Wd} {base:Nat} {v:Vl} {l:List BAr} (h:QZ w base v l):∀ b,v.ownBlock=some b→b < w.heap.size:=λ b hb=>(World.ownsRow.lt h b hb).2
def jD.after {v u v':Vl} {n:Nat} (h:jD v u) (hu:∀ b,u.ownBlock=some b→b < n) (hv:∀ b,v'.ownBlock=some b→v.ownBlock=some b∨b=n):jD v' u:=λ b hb e=>by
 rcases hv b hb with h1 | h1
 · exact h b h1 e
 · have:=hu b e;omega
def WC (m:Yh):List BAr:=ZV [] (Z9 m.fields)
section
variable {W:Wd} {R:RT}
def M7 {w:Wd} (e:Ext W w) (sv t6 t4:Vl) (out L:List BAr) (hO:QZ w W.heap.size sv out) (hL:QZ w W.heap.size t6 L) (hA:jD sv t6) (YH:out.length+L.length≤1048576) (Zu:KW)
 (i:Nat) (hi:i < 9223372036854775807) (h4:t4 = .int .i64 (i:Int)) (hn:∀ sv' w',Ext W w'→QZ w' W.heap.size sv' (L.foldl UW out)→Zu sv' (.int .i64 ((i+1:Nat):Int)) w') :
 Qq (λ t3 t8 w Xf=>Su t3 t4 t6 t8 Zu Xf R w) sv (.int .i64 0) w:=by
 refine YA (λ a b w'=>∃ (k:Nat) (sv':Vl),a=sv'∧b = .int .i64 k∧k≤L.length∧Ext W w'∧QZ w' W.heap.size sv' ((L.take k).foldl UW out)∧QZ w' W.heap.size t6 L∧jD sv' t6) (λ _ b _=>L.length - (intOf b).toNat) ⟨0,sv,rfl,rfl,by omega,e,hO,hL,hA⟩ ?_
 rintro _ _ w1 ⟨k,sv',rfl,rfl,hk,e1,hO1,hL1,hA1⟩
 have hsl:=hL1.slice (E:=KN) (λ _=>rfl) (λ _ _=>rfl)
 obtain ⟨A,c,h6,hlc,hcm,hlm,YS⟩:=Ze.open hsl
 unfold Su
 rcases ZH hk with ⟨x,hx,hd,Ym,ZK⟩ | ⟨hk,hd,ZK⟩
 · have Qu:(L.take (k+1)).foldl UW out=UW ((L.take k).foldl UW out) x:=by rw [Yw hx,List.foldl_append];rfl
   have hol:((L.take k).foldl UW out).length≤1048576:=by
    have:=Ub (L.take k) out
    have h2:(L.take k).length≤L.length:=by rw [List.length_take];omega
    omega
   generalize ((L.take k).foldl UW out)=o1 at hO1 Qu hol
   obtain ⟨b6,o6,cs6,hA6,_,hE6,hcs6⟩:=YS k x hx
   subst h6 hA6
   subst hcs6
   refine Qqg ZK ?_
   refine YA (λ a b w'=>∃ (j:Nat),a = .bool ((o1.take j).any λ y=>decide (y=x))∧b = .int .i64 j∧j≤o1.length∧Ext w1 w') (λ _ b _=>o1.length - (intOf b).toNat) ⟨0,by simp,rfl,by omega,Ext.refl _⟩ ?_
   rintro _ _ w2 ⟨j,rfl,rfl,hj,e2⟩
   have hso:=hO1.slice (E:=KN) (λ _=>rfl) (λ _ _=>rfl)
   obtain ⟨A3,c3,h3,hlc3,hcm3,hlm3,hel3⟩:=Ze.open hso
   unfold ZcM
   rcases ZH hj with ⟨y,hy,hdj,hltj,Pq⟩ | ⟨hj,hdj,Pq⟩
   · obtain ⟨b3,o3,cs3,hA3,_,hE3,hcs3⟩:=hel3 j y hy
     subst h3 hA3
     subst hcs3
     have hany:((o1.take (j+1)).any λ y=>decide (y=x))=(((o1.take j).any λ y=>decide (y=x))||decide (y=x)):=by rw [Yw hy,List.any_append];simp
     refine Qqg Pq ?_
     refine ZB ?_
     unfold ZcJ
     generalize hsn:((o1.take j).any λ y=>decide (y=x))=sn at hany
     cases sn with
     | true=>
      refine Qqk ?_
      refine ⟨⟨j+1,?_,rfl,by omega,ee⟩,ZQ (kd := .i64) hltj⟩
      rw [hany];rfl
     | false=>
      refine Qqh (hE3.c1 e2) (hE6.c1 e2) ?_
      refine ⟨⟨j+1,?_,rfl,by omega,ee⟩,ZQ (kd := .i64) hltj⟩
      rw [hany];rfl
   · subst hj
     rw [List.take_length]
     have hadd:UW o1 x=if (o1.any λ y=>decide (y=x))=true then o1 else o1++[x]:=rfl
     rw [hadd] at Qu
     subst h3
     refine Qqg Pq ?_
     unfold ZcL
     generalize (o1.any λ y=>decide (y=x))=sn at Qu
     cases sn with
     | true=>
      rw [if_pos rfl] at Qu
      refine Qqk ?_
      exact ⟨⟨k+1,_,rfl,rfl,by omega,e1.trans e2,by rw [Qu];exact hO1.ext e2,hL1.ext e2,hA1⟩,ZQ (kd := .i64) Ym⟩
     | false=>
      rw [if_neg (by simp)] at Qu
      simp (disch:=try exact DI) only [↓PR,QR,simprocAttr,ZcK,hE6.c1 e2]
      have ea:Ext w1 (w2.alloc (Obj.cells #[.string x] 9)):=e2.alloc _
      have Uq:(w2.alloc (Obj.cells #[.string x] 9)).heap.size=w2.heap.size+1:=by simp only [World.size_alloc]
      have s1:=e1.size
      have s2:=e2.size
      refine Jc x (hO1.ext ea) (Zv w2 _ _) K9 hol ?_
      intro v' w' hO' hg hv'
      have ew:Ext W w':=(e1.trans ea).grown hg (λ b hb=>(World.ownsRow.lt hO1 b hb).1)
      refine Qqk ?_
      refine ⟨⟨k+1,v',rfl,rfl,by omega,ew,by rw [Qu];exact hO',(hL1.ext ea).grown hg (λ b hb e=>hA1 b e hb),hA1.after (λ b hb=>?_) hv'⟩,ZQ (kd := .i64) Ym⟩
      have:=hL1.lt b hb
      omega
 · subst hk
   rw [List.take_length] at hO1
   subst h6
   rw [h4]
   refine Qqg ZK ?_
   exact hn _ w1 e1 hO1
def TC {w:Wd} (e:Ext W w) (x:Zt) (tv cv:Vl) (p5:Nat) (o5:w.heap[p5]?=some (.cells (Zq x tv cv).toArray 123 (0,0))) (hC:Yu W cv x.cases) (sv t6 t4:Vl) (out:List BAr) (hO:QZ w W.heap.size sv out) (YH:out.length+(Yr x).length≤1048576)
 (h6:(x.kind≠9∧QZ w W.heap.size t6 (Yr x)∧jD sv t6)∨(x.kind=9∧t6 = .slice none 0 0)) (Zu:KW) (i:Nat) (hi:i < 9223372036854775807) (h4:t4 = .int .i64 (i:Int))
 (hn:∀ sv' w',Ext W w'→QZ w' W.heap.size sv' ((Yr x).foldl UW out)→Zu sv' (.int .i64 ((i+1:Nat):Int)) w') :
 Qq (λ t6 t7 w Y0=>Hd sv t4 (Qq4 p5) t6 t7 Zu Y0 R w) t6 (.int .i64 0) w:=by
 rcases h6 with ⟨hk,hL,hA⟩ | ⟨hk,rfl⟩
 · refine YA (λ a b w'=>a=t6∧b = .int .i64 0∧w'=w) (λ _ _ _=>0) ⟨rfl,rfl,rfl⟩ ?_
   rintro _ _ _ ⟨rfl,rfl,rfl⟩
   unfold Hd
   have k9:(x.kind == 9)=false:=by simpa using hk
   simp (disch:=try exact DI) only [↓PR,QR,simprocAttr,(Za o5).1,k9,MG]
   exact M7 e sv _ t4 out (Yr x) hO hL hA YH Zu i hi h4 hn
 · have hr:Yr x=x.cases.map (·.of):=by unfold Yr;rw [if_neg K9,if_pos hk]
   have k9:(x.kind == 9)=true:=by simpa using hk
   obtain ⟨A,c,rfl,hlc,hcm,hlm,YS⟩:=Ze.open hC
   have l5:p5 < w.heap.size:=(Qqq o5).1
   rw [hr] at YH hn
   simp only [List.length_map] at YH
   refine YA (λ a b w'=>∃ (k:Nat) (u:Vl),a=u∧b = .int .i64 k∧k≤x.cases.length∧Ext W w'∧w'.heap[p5]?=some (.cells (Zq x tv (.slice A x.cases.length c)).toArray 123 (0,0))∧QZ w' w.heap.size u ((x.cases.take k).map (·.of))∧QZ w' W.heap.size sv out∧w.heap.size≤w'.heap.size) (λ _ b _=>x.cases.length - (intOf b).toNat) ⟨0,_,rfl,rfl,by omega,e,o5,Yc.nil _ _ _ _ _,hO,Nat.le_refl _⟩ ?_
   rintro u _ w1 ⟨k,_,rfl,rfl,hk1,e1,y5,hU,hO1,hs1⟩
   have hAp:jD sv u:=λ b hb e=>by
    have h1:=hO.lt b hb
    have h2:=(World.ownsRow.lt hU b e).1
    omega
   unfold Hd
   rcases ZH hk1 with ⟨y,hy,hd,Ym,ZK⟩ | ⟨hk1,hd,ZK⟩
   · obtain ⟨b,o,cs,rfl,hl,hA,rfl⟩:=YS k y hy
     simp (disch:=try exact DI) only [↓PR,QR,simprocAttr,(Za y5).1,k9,ZK,MG]
     unfold ZcN
     refine Qqh (Za y5).1 (hA.c3 e1) ?_
     have ea:Ext w1 (w1.alloc (Obj.cells #[.string y.of] 9)):=ee
     have Uq:(w1.alloc (Obj.cells #[.string y.of] 9)).heap.size=w1.heap.size+1:=by simp only [World.size_alloc]
     have sW:=e.size
     refine Jc y.of (hU.ext ea) (Zv w1 _ _) K9 (by rw [List.length_map,List.length_take];omega) ?_
     intro v' w' hO' hg hv'
     have ew:Ext W w':=(e1.trans ea).grown hg (λ b hb=>by have:=(World.ownsRow.lt hU b hb).1;omega)
     have hsw:=hg.size
     refine Qqk ?_
     refine ⟨⟨k+1,v',rfl,rfl,by omega,ew,?_,?_,(hO1.ext ea).grown hg (λ b hb e=>hAp b hb e),by omega⟩,ZQ (kd := .i64) Ym⟩
     · rw [hg.block p5 K9 (λ e=>by have:=(World.ownsRow.lt hU p5 e.symm).1;omega)]
       exact ea.obj y5
     · rw [Yw hy,List.map_append];exact hO'
   · subst hk1
     rw [List.take_length] at hU
     simp (disch:=try exact DI) only [↓PR,QR,simprocAttr,(Za y5).1,k9,ZK,MG]
     exact M7 e1 sv _ t4 out (x.cases.map (·.of)) hO1 (Yc.base hU e.size) hAp (by simpa using YH) Zu i hi h4 hn
def je (w0:Wd) (v:Vl) (m:Yh) (hm:Qt w0 v m) (hb:(Z9 m.fields).length≤1048576) :
 Ret Pg 117 #[v] w0 λ r w'=>QZ w' w0.heap.size r (WC m)∧Ext w0 w':=by
 obtain ⟨fv,rfl,hF⟩:=hm
 obtain ⟨A,c,rfl,hlc,hcm,hlm,YS⟩:=Ze.open hF
 refine Zlz (R:=ZR _) ?_;unfold n61
 refine Qqk ?_
 have Xw:=Z6.new (w:=w0) (ZZ m (.slice A m.fields.length c)) (74)
 have eW:Ext w0 (w0.alloc (Obj.cells (List.toArray (ZZ m (.slice A m.fields.length c))) (74))):=(Ext.refl _).alloc _
 generalize (w0.alloc (Obj.cells (List.toArray (ZZ m (.slice A m.fields.length c))) (74)))=W at Xw eW ⊢
 have hW:w0.heap.size≤W.heap.size:=eW.size
 refine YA (λ a b w'=>∃ (k:Nat) (sv:Vl),a=sv∧b = .int .i64 k∧k≤m.fields.length∧Ext W w'∧QZ w' W.heap.size sv (ZV [] (Z9 (m.fields.take k)))) (λ _ b _=>m.fields.length - (intOf b).toNat) ⟨0,_,rfl,rfl,by omega,Ext.refl _,Yc.nil _ _ _ _ _⟩ ?_
 rintro sv _ w1 ⟨k,_,rfl,rfl,hk,e,hO⟩
 have e':=eW.trans e
 have s1:=e.size
 unfold St
 rcases ZH hk with ⟨x,hx,hd,Ym,ZK⟩ | ⟨hk,hd,ZK⟩
 · obtain ⟨b,o,cs,rfl,hl,hA,hE⟩:=YS k x hx
   obtain ⟨tv,cv,rfl,hT,hC,ht1,hc1⟩:=hE.op
   have hpre:Z9 (m.fields.take (k+1))=Z9 (m.fields.take k)++Yr x:=by unfold Z9;rw [Yw hx,List.flatMap_append];simp
   have hle:(Z9 (m.fields.take k)).length+(Yr x).length≤1048576:=by
    have h1:(Z9 (m.fields.take (k+1))).length≤(Z9 m.fields).length:=by
     conv=>rhs;rw [← List.take_append_drop (k+1) m.fields]
     unfold Z9
     rw [List.flatMap_append,List.length_append];omega
    rw [hpre,List.length_append] at h1;omega
   have hout:(ZV [] (Z9 (m.fields.take k))).length≤(Z9 (m.fields.take k)).length:=by
    rw [G1];have:=Ub (Z9 (m.fields.take k)) [];simpa using this
   have hle':(ZV [] (Z9 (m.fields.take k))).length+(Yr x).length≤1048576:=K9
   have As:ZV [] (Z9 (m.fields.take (k+1)))=(Yr x).foldl UW (ZV [] (Z9 (m.fields.take k))):=by rw [hpre,G1,G1,List.foldl_append]
   simp (disch:=try exact DI) only [↓PR,QR,simprocAttr,ZK,Xw.c2]
   unfold Ss
   simp (disch:=try exact DI) only [↓PR,QR,simprocAttr,Xw.c2,hA.c15 e']
   have ea:Ext w1 (w1.alloc (Obj.cells (Zq x tv cv).toArray 123)):=ee
   have o5:=Zv w1 (Zq x tv cv).toArray 123
   have hO2:=hO.ext ea
   have ew:=e.trans ea
   have hbn:∀ sv' w',Ext W w'→QZ w' W.heap.size sv' ((Yr x).foldl UW (ZV [] (Z9 (m.fields.take k))))→(∃ (k':Nat) (sv:Vl),sv'=sv∧(Value.int .i64 ((k+1:Nat):Int)) = .int .i64 k'∧k'≤m.fields.length∧Ext W w'∧QZ w' W.heap.size sv (ZV [] (Z9 (m.fields.take k'))))∧m.fields.length - (intOf (Value.int .i64 ((k+1:Nat):Int))).toNat < m.fields.length - (intOf (Value.int .i64 (k:Int))).toNat:=
    λ sv' w' ew h=>⟨⟨k+1,sv',rfl,rfl,by omega,ew,by rw [As];exact h⟩,ZQ (kd := .i64) Ym⟩
   have hCW:=Yu.ext hC eW
   have lo:∀ b,sv.ownBlock=some b→b < w1.heap.size:=λ b hb=>hO.lt b hb
   generalize hw2:(w1.alloc (Obj.cells (Zq x tv cv).toArray 123))=w2 at ea o5 hO2 ew
   have hs2:w2.heap.size=w1.heap.size+1:=by rw [← hw2];simp only [World.size_alloc]
   by_cases hr:x.kind=7∨x.kind=8∨x.kind=12
   · have hrf:Yr x=[x.of]:=by unfold Yr;rw [if_pos hr]
     have tail:Zm (λ (t6:Vl) (w:Wd)=>Qq (λ t6 t7 w Y0=>Hd sv (.int .i64 (k:Int)) (Qq4 w1.heap.size) t6 t7 (λ a0' a1' w'=>(∃ (k':Nat) (sv:Vl),a0'=sv∧a1' = .int .i64 k'∧k'≤m.fields.length∧Ext W w'∧QZ w' W.heap.size sv (ZV [] (Z9 (m.fields.take k'))))∧m.fields.length - (intOf a1').toNat < m.fields.length - (intOf (Value.int .i64 (k:Int))).toNat) Y0 (ZR λ r w'=>QZ w' w0.heap.size r (WC m)∧Ext w0 w') w) t6 (.int .i64 0) w) λ K4=>Sv (Qq4 w1.heap.size) K4 (ZR λ r w'=>QZ w' w0.heap.size r (WC m)∧Ext w0 w') w2:=by
      rw [joinK_eq]
      unfold Sv
      refine Qqg (Za o5).1 ?_
      have eb:Ext w2 (w2.alloc (Obj.cells #[.string x.of] 9)):=ee
      have hsb:(w2.alloc (Obj.cells #[.string x.of] 9)).heap.size=w2.heap.size+1:=by simp only [World.size_alloc]
      refine Jc x.of (Yc.nil _ W.heap.size _ _ _) (Zv w2 _ _) K9 K7 ?_
      intro v' w' hO' hg hv'
      have eg:Ext w1 w':=(ea.trans eb).grown hg (λ b hb=>by cases hb)
      refine TC (e.trans eg) x tv cv w1.heap.size ?_ hCW sv v' _ _ (hO.ext eg) hle' (.inl ⟨by omega,by rw [hrf];exact hO',λ b hb e=>?_⟩) _ k K9 rfl hbn
      · exact (Ext.grown (Ext.refl _) hg (λ b hb=>by cases hb)).obj (eb.obj o5)
      · rcases hv' b e with h1 | h1
        · cases h1
        · have:=lo b hb;omega
     rw [joinK_eq] at tail
     rcases hr with h7 | h8 | h12
     · have k7:(x.kind == 7)=true:=by simpa using h7
       simp (disch:=try exact DI) only [↓PR,QR,simprocAttr,k7,Bf,Be]
       exact tail
     · have k7:(x.kind == 7)=false:=by simp;omega
       have k8:(x.kind == 8)=true:=by simpa using h8
       simp (disch:=try exact DI) only [↓PR,QR,simprocAttr,k7,k8,Bf,Be,(Za o5).1]
       exact tail
     · have k7:(x.kind == 7)=false:=by simp;omega
       have k8:(x.kind == 8)=false:=by simp;omega
       have k12:(x.kind == 12)=true:=by simpa using h12
       simp (disch:=try exact DI) only [↓PR,QR,simprocAttr,k7,k8,k12,Bf,Be,(Za o5).1]
       exact tail
   · have k7:(x.kind == 7)=false:=by simp;omega
     have k8:(x.kind == 8)=false:=by simp;omega
     have k12:(x.kind == 12)=false:=by simp;omega
     simp (disch:=try exact DI) only [↓PR,QR,simprocAttr,k7,k8,k12,Bf,Be,(Za o5).1]
     refine TC ew x tv cv w1.heap.size o5 hCW sv _ _ _ hO2 hle' ?_ _ k K9 rfl hbn
     by_cases h9:x.kind=9
     · exact .inr ⟨h9,rfl⟩
     · have hrf:Yr x=[]:=by unfold Yr;rw [if_neg hr,if_neg h9]
       exact .inl ⟨h9,by rw [hrf];exact Yc.nil _ _ _ _ _,λ b _ e=>by cases e⟩
 · subst hk
   rw [List.take_length] at hO
   simp (disch:=try exact DI) only [↓PR,QR,simprocAttr,ZK,Xw.c2]
   exact ⟨Yc.base hO hW,ee⟩
end
def FZ c d e f g b (a:WPr) (Xf:KV) (R:RT) w:=
 I0 43 g a λ h=>
 I0 74 e a λ i=>
 I0 74 f a λ j=>
 J0 60 d 2 a λ k=>
 I0 58 k a λ l=>
 qV Pg a (sliceAt 58 l none (some b) none) λ m=>
 C0 77 #[c,h,i,j,m] R w λ o w=>
 a w∧(
 B0 .add 3 true b (QqJ 1) R w λ n w=>
 Xf n w)
def Mv a b c d (Bn:KV) (R:RT) w:=
 Zw c (.bool true) d λ e=>
 C0 33 #[a,e,(QqJ 10)] R w λ g w=>
 B0 .add 3 true b (QqJ 1) R w λ f w=>
 Bn f w
def F1 d e f b (Bn:KV) R w:=
 Zm (λ (a:Vl) (w:Wd)=>
 Mv d f b a Bn R w) λ c=>
 Zl b false (
 L0 123 e R w λ g w=>
 C0 68 #[g] R w λ h w=>
 B0 .eql 124 true h (QqJ 0) R w λ a w=>
 c a w) (
 c undef w)
def F4 c d e b (Bn:KV) R w:=
 X0 72 e b R w λ f w=>
 L0 123 f R w λ g w=>
 opV Pg (alloc 123 true (.tuple #[])) (Zj R) w λ a w=>
 S0 123 a g R w λ w=>
 F0 60 d 2 R w λ h w=>
 L0 58 h R w λ i w=>
 opV Pg (makeFunc (.func 79) #[] #[a]) (Zj R) w λ j w=>
 C0 78 #[i,j] R w λ k w=>
 F1 c a b k Bn R w
def CK a d e R w:=
 opN Pg (Y6 a) (Zj R) w λ f w=>
 F0 81 f 4 R w λ g w=>
 opU Pg (storeAt 3 g (.int .i64 (-1))) (Zj R) w λ w=>
 F0 74 e 1 R w λ h w=>
 L0 72 h R w λ b w=>
 G0 72 3 b R w λ i w=>
 Yz (λ c w Bn=>
 B0 .lss 3 false c i R w λ j w=>
 Zo j (
 F4 a d b c Bn R w) (
 R (.returned (.tuple #[])) w)) (QqJ 0) w
def F9 b d e f g a (Xf:KV) R w:=
 X0 58 g a R w λ h w=>
 L0 43 h R w λ i w=>
 opV Pg (alloc 43 true (.tuple #[])) (Zj R) w λ c w=>
 S0 43 c i R w λ w=>
 opN Pg (Y6 b) (Zj R) w λ j w=>
 F0 81 j 4 R w λ k w=>
 S0 3 k a R w λ w=>
 Yg w λ l w=>
 FZ b d e f c a l Xf R w
def CL b a f c R w:=
 F0 60 a 2 R w λ g w=>
 L0 58 g R w λ d w=>
 G0 58 3 d R w λ h w=>
 Yz (λ e w Xf=>
 B0 .lss 3 false e h R w λ i w=>
 Zo i (
 F9 b a f c d e Xf R w) (
 CK b a c R w)) (QqJ 0) w
def Ha a d e f b (c:WPr) R w:=
 qV Pg c (extract b 0) λ g=>
 qV Pg c (extract b 1) λ l=>
 opN Pg (Y6 a) (Zj R) w λ h w=>
 F0 81 h 3 R w λ i w=>
 L0 3 i R w λ j w=>
 B0 .eql 3 false g j R w λ k w=>
 C0 33 #[a,k,(QqJ 4)] R w λ m w=>
 CL a d e f R w
def Hb b c d e (a:WPr) (R:RT) w:=
 qN Pg a (Y6 b) λ f=>
 J0 81 f 0 a λ g=>
 I0 24 g a λ h=>
 J0 60 c 0 a λ i=>
 I0 9 i a λ j=>
 C0 20 #[h,j] R w λ k w=>
 a w∧(
 Ha b c d e k a R w)
def xO a d e b f g (R:RT) w:=
 Zm (λ (h:Vl) (w:Wd)=>
 Zw b h (.bool false) λ i=>
 C0 33 #[a,i,(QqJ 3)] R w λ k w=>
 Yg w λ j w=>
 Hb a d e f j R w) λ c=>
 Zl b true (
 c g w) (
 c undef w)
def AT b (a:WPr) (d:KW) R w:=
 qV Pg a (extract b 0) λ e=>
 qV Pg a (extract b 1) λ f=>
 opV Pg (alloc 74 true (.tuple #[])) (Zj R) w λ c w=>
 a w∧(
 S0 74 c e R w λ w=>
 a w∧(
 d c f w))
def AU b c (a:WPr) (d:KW) R w:=
 a w∧(
 qV Pg a (extract c 0) λ e=>
 qV Pg a (extract c 1) λ f=>
 S0 74 b e R w λ w=>
 a w∧(
 d b f w))
def xP d e i j (a:WPr) R w:=
 qN Pg a (Y6 d) λ k=>
 J0 81 k 2 a λ l=>
 I0 27 l a λ f=>
 J0 60 e 1 a λ m=>
 I0 9 m a λ g=>
 Zm (λ (b:Vl) (n:Vl) (w:Wd)=>
 xO d e i j b n R w) λ h=>
 (
 C0 76 #[f,g] R w λ c w=>
 a w∧(
 AT c a h R w))∧(
 opV Pg (alloc 74 true (.tuple #[])) (Zj R) w λ b w=>
 a w∧(
 C0 76 #[f,g] R w λ c w=>
 AU b c a h R w))
def AV b (a:WPr) (d:KW) R w:=
 qV Pg a (extract b 0) λ e=>
 qV Pg a (extract b 1) λ f=>
 opV Pg (alloc 74 true (.tuple #[])) (Zj R) w λ c w=>
 a w∧(
 S0 74 c e R w λ w=>
 a w∧(
 d c f w))
def AW b c (a:WPr) (d:KW) R w:=
 a w∧(
 qV Pg a (extract c 0) λ e=>
 qV Pg a (extract c 1) λ f=>
 S0 74 b e R w λ w=>
 a w∧(
 d b f w))
def AX d e (a:WPr) R w:=
 qN Pg a (Y6 d) λ i=>
 J0 81 i 1 a λ j=>
 I0 27 j a λ f=>
 J0 60 e 0 a λ k=>
 I0 9 k a λ g=>
 Zm (λ (b:Vl) (l:Vl) (w:Wd)=>
 Yg w λ m w=>
 xP d e b l m R w) λ h=>
 (
 C0 76 #[f,g] R w λ c w=>
 a w∧(
 AV c a h R w))∧(
 opV Pg (alloc 74 true (.tuple #[])) (Zj R) w λ b w=>
 a w∧(
 C0 76 #[f,g] R w λ c w=>
 AW b c a h R w))
def n25 a b R w:=
 opV Pg (box 60 b) (Zj R) w λ c w=>
 Yg w λ d w=>
 AX a c d R w
def ZkZ:QqQ2 36 n25:=λ h=>by
 refine yD func36 ?_
 refine zs<|zr<|yv h λ h=>zn<|zk<|zs<|yh [4,5,15,16,17,18,19,20,21,22,23,24] h λ C hC h=>yw 0 hC ?_
 refine yn 1 hC h λ h=>?_
 refine ye 2 hC h λ h=>?_
 refine ye 3 hC h λ h=>?_
 refine ye 4 hC h λ h=>?_
 refine ye 5 hC h λ h=>?_
 refine QI h (λ K2 hK h=>?_)
 refine Wq [4,5,15,22,23,24] (λ ρ w=>K2 (ρ 4) (ρ 5) w) (λ T hT=>?_) (λ σ w h=>?_)
 · obtain ⟨h0,h1⟩:=h
   refine Xj 6 10 rfl rfl K5 (λ _ _=>rfl) (λ _ _=>rfl) ?_ ?_
   · have h:=h0
     refine yc h c76 λ h=>zn ?_
     obtain ⟨hC,h⟩:=h
     refine ⟨_,λ _ h=>h,hC,?_⟩
     refine yw 7 hC ?_
     refine ye 8 hC h λ h=>?_
     refine ye 9 hC h λ h=>?_
     refine yo 10 ?_
     refine yv h λ h=>zn ?_
     obtain ⟨hC,h⟩:=h
     refine ⟨hC,?_⟩
     refine yo 11 ?_
     refine yu h λ h=>zn ?_
     obtain ⟨hC,h⟩:=h
     refine ⟨hC,?_⟩
     refine yw 12 hC ?_
     refine yz ?_
     exact zt hT h
   have h:=h1
   refine yv h λ h=>zn ?_
   obtain ⟨hC,h⟩:=h
   refine ⟨_,λ _ h=>h,hC,?_⟩
   refine yo 6 ?_
   refine yc h c76 λ h=>zn ?_
   obtain ⟨hC,h⟩:=h
   refine ⟨hC,?_⟩
   refine yw 7 hC ?_
   refine ye 8 hC h λ h=>?_
   refine ye 9 hC h λ h=>?_
   refine yo 11 ?_
   refine yu h λ h=>zn ?_
   obtain ⟨hC,h⟩:=h
   refine ⟨hC,?_⟩
   refine yw 12 hC ?_
   refine yz ?_
   exact zt hT h
 subst hK
 refine zk<|zs<|yh [6,7,25,26,27,28,29,30,31,32,33,34] h λ C hC h=>yw 0 hC ?_
 refine yn 1 hC h λ h=>?_
 refine ye 2 hC h λ h=>?_
 refine ye 3 hC h λ h=>?_
 refine ye 4 hC h λ h=>?_
 refine ye 5 hC h λ h=>?_
 refine QI h (λ K4 hK h=>?_)
 refine Wq [6,7,25,32,33,34] (λ ρ w=>K4 (ρ 6) (ρ 7) w) (λ T hT=>?_) (λ σ w h=>?_)
 · obtain ⟨h0,h1⟩:=h
   refine Xj 6 10 rfl rfl K5 (λ _ _=>rfl) (λ _ _=>rfl) ?_ ?_
   · have h:=h0
     refine yc h c76 λ h=>zn ?_
     obtain ⟨hC,h⟩:=h
     refine ⟨_,λ _ h=>h,hC,?_⟩
     refine yw 7 hC ?_
     refine ye 8 hC h λ h=>?_
     refine ye 9 hC h λ h=>?_
     refine yo 10 ?_
     refine yv h λ h=>zn ?_
     obtain ⟨hC,h⟩:=h
     refine ⟨hC,?_⟩
     refine yo 11 ?_
     refine yu h λ h=>zn ?_
     obtain ⟨hC,h⟩:=h
     refine ⟨hC,?_⟩
     refine yw 12 hC ?_
     refine yz ?_
     exact zt hT h
   have h:=h1
   refine yv h λ h=>zn ?_
   obtain ⟨hC,h⟩:=h
   refine ⟨_,λ _ h=>h,hC,?_⟩
   refine yo 6 ?_
   refine yc h c76 λ h=>zn ?_
   obtain ⟨hC,h⟩:=h
   refine ⟨hC,?_⟩
   refine yw 7 hC ?_
   refine ye 8 hC h λ h=>?_
   refine ye 9 hC h λ h=>?_
   refine yo 11 ?_
   refine yu h λ h=>zn ?_
   obtain ⟨hC,h⟩:=h
   refine ⟨hC,?_⟩
   refine yw 12 hC ?_
   refine yz ?_
   exact zt hT h
 subst hK
 refine zk<|zs<|Zr<|yG 3<|zm<|zm<|zm<|zn<|yg1 1 2 true [38] 38 h (λ _ T hT h=>?_) λ σ w h=>?_
 · refine zm<|zn ?_
   exact zt hT h
 refine yG 2<|yp h λ h=>yc h c33 λ h=>zn<|ZG<|zk<|zs<|yh [8,9,41,42,43,44,45,46,47,48,49,50] h λ C hC h=>yw 0 hC ?_
 refine yn 1 hC h λ h=>?_
 refine ye 2 hC h λ h=>?_
 refine ye 3 hC h λ h=>?_
 refine ye 4 hC h λ h=>?_
 refine ye 5 hC h λ h=>?_
 refine yo 6 ?_
 refine yc h c20 λ h=>zn ?_
 obtain ⟨hC,h⟩:=h
 refine ⟨hC,?_⟩
 refine yw 7 hC ?_
 refine ye 8 hC h λ h=>?_
 refine ye 9 hC h λ h=>?_
 refine yw 10 hC ?_
 refine yw 11 hC ?_
 refine yz<|zk<|zs<|zr<|zm<|zm<|zm<|yN h λ h=>yv h λ h=>yv h λ h=>yb h λ h=>yc h c33 λ h=>zn<|zk<|zs ?_
 refine zs<|zr<|yv h λ h=>yv h λ h=>yx h λ h=>zm<|zn<|zk<|Zk<|yl1 [10,11,62,63,64,65,66,67,68,69,70,71,72,73,74,75,76,77,78,79,80] 62 h λ σ w next h=>zs<|zr<|yb h λ h=>zn<|zk ?_
 refine zs<|yC h (λ h=>?_) λ h=>?_
 · refine Zi<|zk<|zs<|Zk<|zs<|zr<|zm<|yv h λ h=>yv h λ h=>yv h λ h=>zm<|yu h λ h=>zn<|zk<|zs ?_
   refine zr<|zm<|zm<|yN h λ h=>yv h λ h=>yu h λ h=>zn<|zk<|yh [71,72,73,74,75,76,77,78,79] h λ C hC h=>yw 0 hC ?_
   refine ye 1 hC h λ h=>?_
   refine ye 2 hC h λ h=>?_
   refine ye 3 hC h λ h=>?_
   refine ye 4 hC h λ h=>?_
   refine ye 5 hC h λ h=>?_
   refine yw 6 hC ?_
   refine ye 7 hC h λ h=>?_
   refine yo 8 ?_
   refine yc h c77 λ h=>zn ?_
   obtain ⟨hC,h⟩:=h
   refine ⟨hC,?_⟩
   exact yz<|Zg<|zk<|zr<|yb h λ h=>zm<|zn<|zk<|⟨rfl,h⟩
 refine ZD<|Zc<|Zc<|Zp<|zk<|zs<|zr<|zm<|yN h λ h=>yv h λ h=>yu h λ h=>zn<|zk<|zs<|zr ?_
 refine yv h λ h=>yv h λ h=>yx h λ h=>zm<|zn<|zk<|Zk<|yl1 [13,14,87,88,89,90,91,92,93,94,95,96,97,98,99,100,101,102,103] 87 h λ σ w next h=>zs<|zr<|yb h λ h=>zn<|zk<|zs<|yC h (λ h=>?_) λ h=>?_
 · refine Zi<|zk<|zs<|Zk<|zs<|zr<|yv h λ h=>yv h λ h=>yv h λ h=>yu h λ h=>zn<|zk<|zs<|zr<|yv h λ h=>?_
   refine yv h λ h=>yF h λ h=>yc h c78 λ h=>zm<|zn<|zk<|Zr<|yG 3<|zm<|zm<|zm<|zn<|yg1 3 2 false [98,99,100] 100 h (λ _ T hT h=>?_) λ σ w h=>?_
   · refine yv h λ h=>yc h c68 λ h=>yb h λ h=>zn ?_
     exact zt hT h
   exact yG 2<|yp h λ h=>yc h c33 λ h=>zn<|ZG<|Zg<|zk<|zr<|yb h λ h=>zm<|zn<|zk<|⟨rfl,h⟩
 exact ZD<|Zc<|Zc<|Zp<|ZS<|Z2 rfl h
def ZcW a R w:=
 E0q a 0 R w λ b w=>
 E0q a 1 R w λ c w=>
 opV Pg (alloc 131 true (.tuple #[])) (Zj R) w λ d w=>
 S0 131 d b R w λ w=>
 N0 c R w λ e w=>
 R (.returned e) w
def n63 a R w:=
 opV Pg (box 27 a) (Zj R) w λ b w=>
 L0 27 b R w λ c w=>
 C0 80 #[c] R w λ d w=>
 ZcW d R w
def ZlB:QqQ1 37 n63:=λ h=>by
 refine yD func37 ?_
 refine zs<|zr<|yv h λ h=>zm<|zn<|zk<|zs<|zr<|yv h λ h=>yc h c80 λ h=>zm<|yv h λ h=>yv h λ h=>yv h λ h=>yu h λ h=>?_
 exact zm<|zn<|zk<|zs<|zr<|zm<|yv h λ h=>zm<|zn<|zk<|Zh<|Zf rfl rfl h
def n79 b c d R w:=
 opV Pg (alloc 34 true (.tuple #[])) (Zj R) w λ a w=>
 opV Pg (build 34 #[(0,b),(1,c),(2,d)]) (Zj R) w λ e w=>
 S0 34 a e R w λ w=>
 qW Pg 34 a w λ r0=>
 R (.returned (.tuple #[r0,(.bool true)])) w
def ZlR:QqQ3 38 n79:=λ h=>by
 refine yD func38 ?_
 refine zs<|zr<|yv h λ h=>zm<|zn<|zk<|zs<|zr<|zm<|zm<|zm<|yB h λ h=>yu h λ h=>zm<|zn ?_
 exact zk<|Zh<|Z7 rfl rfl rfl h
def Sc e b f g (XQ:KV) (R:RT) w:=
 Zw f g (.bool false) λ c=>
 Zm (λ (a:Vl) (w:Wd)=>
 Zw c a (.bool false) λ h=>
 Zo h (
 R (.returned (.bool false)) w) (
 B0 .add 3 true b (QqJ 1) R w λ i w=>
 XQ i w)) λ d=>
 Zl c true (
 opV Pg (Instr.index 9 e b) (Zj R) w λ j w=>
 opV Pg (ZP .neq 5 true j (.int .u8 95)) (Zj R) w λ a w=>
 d a w) (
 d undef w)
def ZcD b c f (XQ:KV) R w:=
 N0 f R w λ d w=>
 Zm (λ (a:Vl) (w:Wd)=>
 Sc b c d a XQ R w) λ e=>
 Zl d true (
 opV Pg (Instr.index 9 b c) (Zj R) w λ g w=>
 C0 82 #[g] R w λ h w=>
 N0 h R w λ a w=>
 e a w) (
 e undef w)
def Sd a b (XQ:KV) R w:=
 G0 9 3 a R w λ c w=>
 B0 .lss 3 false b c R w λ d w=>
 Zo d (
 opV Pg (Instr.index 9 a b) (Zj R) w λ e w=>
 C0 81 #[e] R w λ f w=>
 ZcD a b f XQ R w) (
 R (.returned (.bool true)) w)
def Mz b e f (R:RT) w:=
 Zw e (.bool true) f λ c=>
 Zm (λ (a:Vl) (w:Wd)=>
 Zw c (.bool true) a λ g=>
 Zo g (
 R (.returned (.bool false)) w) (
 Yz (λ h w XQ=>
 Sd b h XQ R w) (QqJ 0) w)) λ d=>
 Zl c false (
 opV Pg (Instr.index 9 b (QqJ 0)) (Zj R) w λ i w=>
 C0 81 #[i] R w λ j w=>
 N0 j R w λ a w=>
 d a w) (
 d undef w)
def n51 a R w:=
 G0 9 3 a R w λ e w=>
 B0 .lss 3 true e (QqJ 1) R w λ c w=>
 Zm (λ (b:Vl) (w:Wd)=>
 Mz a c b R w) λ d=>
 Zl c false (
 G0 9 3 a R w λ f w=>
 B0 .gtr 3 true f (QqJ 32) R w λ b w=>
 d b w) (
 d undef w)
def Zlp:QqQ1 39 n51:=λ h=>by
 refine yD func39 ?_
 refine zs<|zr<|zm<|zn<|zk<|zs<|zs<|Zr<|yG 4<|zm<|yx h λ h=>yb h λ h=>zm<|zn<|yg1 3 3 false [8,9,10] 10 h (λ _ T hT h=>?_) λ σ w h=>?_
 · refine zm<|yx h λ h=>yb h λ h=>zn ?_
   exact zt hT h
 refine yG 2<|yp h λ h=>zm<|zn<|yg1 4 8 false [13,14,15,16] 16 h (λ _ T hT h=>?_) λ σ w h=>?_
 · refine zm<|yv h λ h=>yc h c81 λ h=>yv h λ h=>zn ?_
   exact zt hT h
 refine yG 1<|yp h λ h=>zn<|ZG<|zk<|yC h (λ h=>zs<|zr<|zm<|zn<|zk<|Zh<|Zb<|Zf rfl rfl h) λ h=>Zi<|zk<|zs<|zs<|zr<|zm<|zn<|zk ?_
 refine Zk<|yl1 [2,3,18,19,20,21,22,23,24,25,26,27,28,29,30,31,32,33,34,35,36,37,38,39,40,41] 3 h λ σ w next h=>zs<|zs<|zr<|zm<|zm<|yx h λ h=>yb h λ h=>zn<|zk<|yC h (λ h=>?_) λ h=>?_
 · refine Zi<|zk<|zs<|Zk<|zs<|Zr<|yG 6<|zm<|zm<|yv h λ h=>yc h c81 λ h=>yv h λ h=>zm<|zn<|yg1 5 5 true [30,31,32,33,34] 34 h (λ _ T hT h=>?_) λ σ w h=>?_
   · refine zm<|zm<|yv h λ h=>yc h c82 λ h=>yv h λ h=>zn ?_
     exact zt hT h
   refine yG 2<|yp h λ h=>zm<|zn<|yg1 4 12 true [37,38,39,40] 40 h (λ _ T hT h=>?_) λ σ w h=>?_
   · refine zm<|zm<|yv h λ h=>yb h λ h=>zn ?_
     exact zt hT h
   refine yG 1<|yp h λ h=>zn<|ZG<|zk<|yC h (λ h=>zs<|zr<|zm<|zn<|zk<|Zh<|Zd<|Zb<|Zb<|Zd<|Zb<|Zf rfl rfl h) λ h=>Zi<|Zg<|zk<|zr<|zm<|yb h λ h=>zm<|zn ?_
   exact zk<|⟨rfl,h⟩
 exact ZD<|Zc<|Zc<|Zp<|zk<|zs<|zr<|zm<|zn<|zk<|Zh<|Zf rfl rfl h
def U7 (w0:Wd) (s:BAr):Ret Pg 39 #[.string s] w0 λ r w'=>r = .bool (YZ s)∧Ext w0 w':=by
 have Uq:s.data.toList.length=s.size:=by rw [Array.length_toList];rfl
 refine Zlp (R:=ZR _) ?_;unfold n51
 by_cases h1:1≤s.size
 · have d1:decide ((s.size:Int) < 1)=false:=by simp;omega
   by_cases h2:s.size≤32
   · have d2:decide ((s.size:Int) > 32)=false:=by simp;omega
     refine Qqh d1 d2 ?_
     unfold Mz
     have hd:YZ s=((match s.data.toList with | []=>false | c::_=>Wm c)&&s.data.toList.all VZ):=by
      unfold YZ
      rw [show decide (1≤(s.size:Int))=true by simp;omega,show decide ((s.size:Int)≤32)=true by simp;omega]
      rfl
     rw [hd]
     clear hd
     obtain ⟨c,cs,hcs⟩:∃ c cs,s.data.toList=c::cs:=by
      cases hd:s.data.toList with
      | nil=>rw [hd] at Uq;simp at Uq;omega
      | cons c cs=>exact ⟨c,cs,rfl⟩
     refine Qqk ?_
     rw [Bs underlying9 s .i64 (b:=c) (by rw [hcs];rfl)]
     refine Zs (jg _ c) ?_
     rintro r w1 ⟨rfl,e⟩
     rw [show (match s.data.toList with | []=>false | c::_=>Wm c)=Wm c by rw [hcs]]
     cases hl:Wm c with
     | false=>
      refine Qqk ?_
      exact ⟨by trivial,e⟩
     | true=>
      refine Qqk ?_
      clear hl hcs
      refine ZE (λ i w'=>∃ k:Nat,i = .int .i64 k∧k≤s.data.toList.length∧Ext w0 w'∧(s.data.toList.drop k).all VZ=s.data.toList.all VZ) (λ i _=>s.data.toList.length - (intOf i).toNat) ⟨0,rfl,by omega,e,rfl⟩ ?_
      rintro _ w2 ⟨k,rfl,hk,e2,hI⟩
      rcases ZH hk with ⟨x,hx,hd,Ym,ZK⟩ | ⟨hk,hd,ZK⟩
      · rw [Uq] at ZK
        have hidx:∀ (R:PEn) (w:Wd) (K:KV),opV Pg (Instr.index 9 (.string s) (.int .i64 (k:Int))) R w K=K (.int .u8 (x.toNat:Int)) w:=λ R w K=>xT underlying9 s .i64 k hx
        have As:VZ x=true→∀ w',Ext w0 w'→(∃ k':Nat,Value.int .i64 ((k+1:Nat):Int) = .int .i64 k'∧k'≤s.data.toList.length∧Ext w0 w'∧(s.data.toList.drop k').all VZ=s.data.toList.all VZ)∧s.data.toList.length - (intOf (Value.int .i64 ((k+1:Nat):Int))).toNat < s.data.toList.length - (intOf (Value.int .i64 (k:Int))).toNat:=by
         intro hx1 w' e'
         refine ⟨⟨k+1,rfl,Ym,e',?_⟩,?_⟩
         · rw [← hI,hd];simp [hx1]
         · show s.data.toList.length - (((k+1:Nat):Int)).toNat < s.data.toList.length - ((k:Int)).toNat
           omega
        have hstop:VZ x=false→s.data.toList.all VZ=false:=by
         intro hx1
         rw [← hI,hd];simp [hx1]
        unfold Sd
        refine Qqg ZK ?_
        rw [hidx]
        refine Zs (jg _ x) ?_
        rintro r w3 ⟨rfl,e3⟩
        have e4:=e2.trans e3
        unfold ZcD
        cases hl:Wm x with
        | true=>
         simp (disch:=try exact DI) only [↓PR,QR,simprocAttr,Sc]
         exact As (by unfold VZ;rw [hl];rfl) _ e4
        | false=>
         refine Qqk ?_
         rw [hidx]
         refine Zs (LG _ x) ?_
         rintro r w5 ⟨rfl,e5⟩
         have e6:=e4.trans e5
         unfold Sc
         cases hg:G3 x with
         | true=>
          refine Qqk ?_
          exact As (by unfold VZ;rw [hl,hg];rfl) _ e6
         | false=>
          refine Qqk ?_
          rw [hidx]
          cases hu:((x.toNat:Int) == 95) with
          | true=>
           have hu':((x.toNat:Int) != 95)=false:=by rw [bne,hu];rfl
           refine Qqg hu' ?_
           exact As (by unfold VZ;rw [hl,hg,hu];rfl) _ e6
          | false=>
           have hu':((x.toNat:Int) != 95)=true:=by rw [bne,hu];rfl
           refine Qqg hu' ?_
           exact ⟨by rw [hstop (by unfold VZ;rw [hl,hg,hu];rfl)],e6⟩
      · rw [Uq] at ZK hk
        unfold Sd
        refine Qqg ZK ?_
        refine ⟨?_,e2⟩
        rw [← hI,hd]
        rfl
   · have d2:decide ((s.size:Int) > 32)=true:=by simp;omega
     refine Qqh d1 d2 ?_
     unfold Mz
     refine Qqk ?_
     refine ⟨?_,Ext.refl _⟩
     unfold YZ
     rw [show decide ((s.size:Int)≤32)=false by simp;omega]
     simp
 · have d1:decide ((s.size:Int) < 1)=true:=by simp;omega
   refine Qqg d1 ?_
   unfold Mz
   refine Qqk ?_
   refine ⟨?_,Ext.refl _⟩
   unfold YZ
   rw [show decide (1≤(s.size:Int))=false by simp;omega]
   simp
def BK (w0:Wd) (v:Int):Ret Pg 242 #[.int .i64 v] w0 λ r w'=>r = .bool (WW v)∧Ext w0 w':=by
 refine Zlt (R:=ZR _) ?_;unfold n55
 unfold WW
 by_cases h : -1048576≤v
 · have d1:decide (v ≥ -1048576)=true:=by simpa using h
   refine Qqg d1 ?_
   exact ⟨by simp [h],Ext.refl _⟩
 · have d1:decide (v ≥ -1048576)=false:=by simpa using h
   refine Qqg d1 ?_
   exact ⟨by simp [h],Ext.refl _⟩
def J5 (w0:Wd) (v:Vl) (base:Int) (ts:List Ye) (hs:Ke w0 v base ts):Ret Pg 201 #[v] w0 λ r w'=>r = .bool (WD base ts)∧Ext w0 w':=by
 obtain ⟨tv,rfl,hT⟩:=hs
 obtain ⟨A,c,rfl,hlc,hcm,hlm,YS⟩:=Ze.open hT
 refine Zlq (R:=ZR _) ?_;unfold n52
 refine Qqk ?_
 have Xw:=Z6.new (w:=w0) ([.int .i64 base,.slice A ts.length c]) (120)
 have eW:Ext w0 (w0.alloc (Obj.cells (List.toArray ([.int .i64 base,.slice A ts.length c])) (120))):=(Ext.refl _).alloc _
 generalize (w0.alloc (Obj.cells (List.toArray ([.int .i64 base,.slice A ts.length c])) (120)))=W at Xw eW ⊢
 refine zcr (BK _ base) λ w1 e1=>?_
 have E1:=eW.trans e1
 unfold ZcI
 cases hb:WW base with
 | false=>
  refine Qqk ?_
  exact ⟨by unfold WD;rw [hb];rfl,E1⟩
 | true=>
 by_cases h4:ts.length≤4
 · have d4:decide ((ts.length:Int) > 4)=false:=by simp;omega
   simp (disch:=try exact DI) only [↓PR,QR,simprocAttr,Xw.c2,d4]
   have Uq:WD base ts=Gf [] ts:=by unfold WD;rw [hb];simp [h4]
   rw [Uq]
   have hbad:∀ {k x},ts[k]?=some x→(U0 ((ts.take k).map (·.field)) x.field||!Vo x)=true→Gf [] ts=false:=by
    intro k x hx hm
    cases ht:Gf [] ts with
    | false=>rfl
    | true=>have:=(Up ts []).1 ht k x hx;rw [List.nil_append,hm] at this;cases this
   refine ZE (λ a0 w=>∃ (k:Nat) , a0 = .int .i64 (k:Int)∧k≤ts.length∧Ext w1 w∧∀ j x,j < k→ts[j]?=some x→(U0 ((ts.take j).map (·.field)) x.field||!Vo x)=false) (λ a0 _=>ts.length - (intOf a0).toNat) ⟨0,rfl,Nat.zero_le _,ee,by intro j x h;omega⟩ ?_
   rintro _ w ⟨k,rfl,hk,e,hI⟩
   have se:=e.size
   rcases ZH hk with ⟨x,hx,hd,Ym,ZK⟩ | ⟨hk,hd,ZK⟩
   · obtain ⟨b,o,cs,rfl,hl,hA,rfl⟩:=YS k x hx
     have E:=E1.trans e
     have f:=e1.trans e
     unfold Se
     simp (disch:=try exact DI) only [↓PR,QR,simprocAttr,Xw.c2,ZK]
     unfold ZcH
     simp (disch:=try exact DI) only [↓PR,QR,simprocAttr,Xw.c2,(hA.c2 E).1]
     refine zcr (U7 _ x.field) λ w2 e2=>?_
     have E2:=E.trans e2
     have f2:=f.trans e2
     unfold ZcG
     cases hn:YZ x.field with
     | false=>
      refine Qqk ?_
      unfold MA
      refine Qqk ?_
      exact ⟨by rw [hbad hx (by unfold Vo;rw [hn];simp)],E2⟩
     | true=>
     by_cases hf:x.factor=0
     · have d1:(x.factor == 0)=true:=by simpa using hf
       simp (disch:=try exact DI) only [↓PR,QR,simprocAttr,Xw.c2,(hA.c2 E2).2,d1]
       unfold MA
       refine Qqk ?_
       exact ⟨by rw [hbad hx (by unfold Vo;rw [hf];simp)],E2⟩
     have d1:(x.factor == 0)=false:=by simpa using hf
     simp (disch:=try exact DI) only [↓PR,QR,simprocAttr,Xw.c2,(hA.c2 E2).2,d1]
     unfold MA
     simp (disch:=try exact DI) only [↓PR,QR,simprocAttr,Xw.c2,(hA.c2 E2).2]
     refine zcr (BK _ x.factor) λ w3 e3=>?_
     have E3:=E2.trans e3
     have f3:=f2.trans e3
     cases hsm:WW x.factor with
     | false=>
      refine Qqk ?_
      exact ⟨by rw [hbad hx (by unfold Vo;rw [hsm];simp)],E3⟩
     | true=>
     have hterm:Vo x=true:=by unfold Vo;rw [hn,hsm,bne,d1];rfl
     refine Qqk ?_
     refine ZE (λ i w'=>∃ j:Nat,i = .int .i64 j∧j≤k∧Ext w3 w'∧∀ i y,i < j→ts[i]?=some y→y.field≠x.field) (λ i _=>k - (intOf i).toNat) ⟨0,rfl,by omega,Ext.refl _,by intro i y h;omega⟩ ?_
     rintro _ w4 ⟨j,rfl,hj,e4,hI4⟩
     have E4:=E3.trans e4
     have f4:=f3.trans e4
     unfold ZcF
     by_cases hjk:j < k
     · have d2:decide ((j:Int) < (k:Int))=true:=by simp;omega
       obtain ⟨y,hy⟩:=getElem?_lt (l:=ts) (k:=j) K9
       obtain ⟨b',o',cs',hA',_,hB,rfl⟩:=YS j y hy
       injection hA' with hA'
       injection hA' with hb1 ho1 _
       subst hb1 ho1
       have Ml:(j:Int) < (ts.length:Int):=K9
       have hkl:(k:Int) < (ts.length:Int):=K9
       refine Qqg d2 ?_
       refine ZB ?_
       unfold ZcE
       simp (disch:=try exact DI) only [↓PR,QR,simprocAttr,Xw.c2,(hA.c2 E4).1,(hB.c2 E4).1]
       by_cases hxy:y.field=x.field
       · rw [show decide (y.field=x.field)=true by simp [hxy]]
         refine Qqk ?_
         refine ⟨?_,ee⟩
         rw [hbad hx]
         rw [show U0 ((ts.take k).map (·.field)) x.field=true from ?_]
         · rfl
         unfold U0
         rw [List.any_eq_true]
         exact ⟨y.field,List.mem_map.2 ⟨y,List.mem_of_getElem? (i:=j) (by rw [List.getElem?_take,if_pos hjk];exact hy),rfl⟩,by simp [hxy]⟩
       · rw [show decide (y.field=x.field)=false by simp [hxy]]
         refine Qqk ?_
         refine ⟨⟨j+1,rfl,by omega,ee,λ i z hi hz=>?_⟩,ZQ (kd := .i64) hjk⟩
         by_cases hij:i=j
         · subst hij;rw [hy] at hz;injection hz with hz;subst hz;exact hxy
         · exact hI4 i z K9 hz
     · have d2:decide ((j:Int) < (k:Int))=false:=by simp;omega
       have hjk':j=k:=K9
       subst hjk'
       refine Qqg d2 ?_
       have Ir:U0 ((ts.take j).map (·.field)) x.field=false:=by
        unfold U0
        rw [List.any_eq_false]
        intro s hs
        obtain ⟨y,hy,rfl⟩:=List.mem_map.1 hs
        obtain ⟨i,hi⟩:=List.getElem?_of_mem hy
        rw [List.getElem?_take] at hi
        split at hi
        · simpa using hI4 i y (by assumption) hi
        · cases hi
       refine ⟨⟨j+1,rfl,by omega,e.trans (e2.trans (e3.trans e4)),λ i z hi hz=>?_⟩,ZQ (kd := .i64) Ym⟩
       by_cases hij:i=j
       · subst hij;rw [hx] at hz;injection hz with hz;subst hz;rw [Ir,hterm];rfl
       · exact hI i z K9 hz
   · subst hk
     have f:=e1.trans e
     unfold Se
     simp (disch:=try exact DI) only [↓PR,QR,simprocAttr,Xw.c2,ZK]
     refine ⟨?_,E1.trans e⟩
     rw [(Up ts []).2 (λ j x hx=>by rw [List.nil_append];exact hI j x (Qqj hx).1 hx)]
 · have d4:decide ((ts.length:Int) > 4)=true:=by simp;omega
   simp (disch:=try exact DI) only [↓PR,QR,simprocAttr,Xw.c2,d4]
   refine ⟨?_,E1⟩
   unfold WD
   simp [h4]
def ZM {β:Type} (l:List (BAr×β)) (s:BAr):Option β:=(l.reverse.find? (λ p=>decide (p.1=s))).map (·.2)
def Is {β:Type} (ps:List (BAr×β)) (p:BAr×β) (s:BAr):ZM (ps++[p]) s=if p.1=s then some p.2 else ZM ps s:=by
 unfold ZM
 rw [List.reverse_append,List.reverse_singleton,List.singleton_append,List.find?_cons]
 by_cases h:p.1=s<;>simp [h]
def V3 {β:Type} {ps:List (BAr×β)} {s:BAr} {v:β} (h:ZM ps s=some v):(s,v)∈ps:=by
 unfold ZM at h
 obtain ⟨q,hq,rfl⟩:=Option.map_eq_some_iff.1 h
 have h1:=List.find?_some hq
 have h2:=List.mem_of_find?_eq_some hq
 simp only [decide_eq_true_eq] at h1
 subst h1
 exact List.mem_reverse.1 h2
def vI (l:List (BAr×Int)):List (BAr×Vl):=l.map λ p=>(p.1,.int .i64 p.2)
def vB (l:List (BAr×Bool)):List (BAr×Vl):=l.map λ p=>(p.1,.bool p.2)
def Av {β:Type} (g:β→Vl) (l:List (BAr×β)) (s:BAr):Yy (l.map λ p=>(p.1,g p.2)) s=(ZM l s).map g:=by
 unfold Yy ZM
 rw [← List.map_reverse,List.find?_map]
 simp only [Option.map_map]
 rfl
def W3 (l:List (BAr×Int)) (s:BAr):Yy (vI l) s=(ZM l s).map λ n => .int .i64 n:=Av _ l s
def xx (l:List (BAr×Bool)) (s:BAr):Yy (vB l) s=(ZM l s).map Value.bool:=Av _ l s
def Fe (l:List (BAr×Bool)) (s:BAr):Fc (vB l) s=(ZM l s).getD false:=by
 unfold Fc;rw [xx];cases ZM l s<;>rfl
structure CkO (a0 w:Wd) (cb md ms:Nat) (deps:List (BAr×Int)) (strs:List (BAr×Bool)) (at_ fld:Int) (fs:List Zt):Prop where
 ext:Ext a0 w
 obj:∃ dn mv ds mn fv,w.heap[cb]?=some (.cells #[.string dn,mv,.string ds,.map (some md),.map (some ms),.int .i64 at_,.int .i64 fld,.string mn,fv] 201 (0,0))∧YX a0 fv fs
 mdeps:Y9 w md (vI deps)
 mstrs:Y9 w ms (vB strs)
 lcb:a0.heap.size≤cb
 lmd:a0.heap.size≤md
 lms:a0.heap.size≤ms
 ne:md≠ms
section
variable {a0 w w':Wd} {cb md ms:Nat} {deps:List (BAr×Int)} {strs:List (BAr×Bool)} {at_ fld:Int} {fs:List Zt}
def CkO.chk (h:CkO a0 w cb md ms deps strs at_ fld fs):Chk w cb md ms (vI deps) (vB strs) at_ fld fs:=by
 obtain ⟨dn,mv,ds,mn,fv,h1,h2⟩:=h.obj
 refine ⟨⟨dn,mv,ds,mn,fv,h1,h2.ext h.ext⟩,h.mdeps,h.mstrs,λ k v hv=>?_,λ k v hv=>?_⟩
 · rw [W3] at hv;obtain ⟨n,_,rfl⟩:=Option.map_eq_some_iff.1 hv;exact ⟨n,rfl⟩
 · rw [xx] at hv;obtain ⟨n,_,rfl⟩:=Option.map_eq_some_iff.1 hv;exact ⟨n,rfl⟩
def CkO.nd (h:CkO a0 w cb md ms deps strs at_ fld fs):cb≠md∧cb≠ms∧cb < w.heap.size∧md < w.heap.size∧ms < w.heap.size:=by
 obtain ⟨dn,mv,ds,mn,fv,h1,h2⟩:=h.obj
 refine ⟨?_,?_,(Qqq h1).1,h.mdeps.lt,h.mstrs.lt⟩
 · rintro rfl;have:=h.mdeps.obj;rw [h1] at this;cases this
 · rintro rfl;have:=h.mstrs.obj;rw [h1] at this;cases this
def CkO.go (h:CkO a0 w cb md ms deps strs at_ fld fs) (e:Ext w w'):CkO a0 w' cb md ms deps strs at_ fld fs:=by
 obtain ⟨dn,mv,ds,mn,fv,h1,h2⟩:=h.obj
 exact ⟨h.ext.trans e,⟨dn,mv,ds,mn,fv,e.obj h1,h2⟩,h.mdeps.ext e,h.mstrs.ext e,h.lcb,h.lmd,h.lms,h.ne⟩
def CkO.other (h:CkO a0 w cb md ms deps strs at_ fld fs) {b o:Nat} (hb:a0.heap.size≤b) (hn:b≠cb) (v:Vl):CkO a0 (w.setCell ⟨b,o,none⟩ v) cb md ms deps strs at_ fld fs:=by
 obtain ⟨dn,mv,ds,mn,fv,h1,h2⟩:=h.obj
 refine ⟨h.ext.setCell hb v,⟨dn,mv,ds,mn,fv,?_,h2⟩,h.mdeps.setCell _ _,h.mstrs.setCell _ _,h.lcb,h.lmd,h.lms,h.ne⟩
 rw [YT.setCell w b o v cb (λ e=>hn e.symm)];exact h1
def CkO.setFld (h:CkO a0 w cb md ms deps strs at_ fld fs) (n:Int):CkO a0 (w.setCell ⟨cb,6,none⟩ (.int .i64 n)) cb md ms deps strs at_ n fs:=by
 obtain ⟨dn,mv,ds,mn,fv,h1,h2⟩:=h.obj
 exact ⟨h.ext.setCell h.lcb _,⟨dn,mv,ds,mn,fv,Zy h1 _,h2⟩,h.mdeps.setCell _ _,h.mstrs.setCell _ _,h.lcb,h.lmd,h.lms,h.ne⟩
def CkO.setAt (h:CkO a0 w cb md ms deps strs at_ fld fs) (n:Int):CkO a0 (w.setCell ⟨cb,5,none⟩ (.int .i64 n)) cb md ms deps strs n fld fs:=by
 obtain ⟨dn,mv,ds,mn,fv,h1,h2⟩:=h.obj
 exact ⟨h.ext.setCell h.lcb _,⟨dn,mv,ds,mn,fv,Zy h1 _,h2⟩,h.mdeps.setCell _ _,h.mstrs.setCell _ _,h.lcb,h.lmd,h.lms,h.ne⟩
def CkO.setMsg (h:CkO a0 w cb md ms deps strs at_ fld fs) (s:BAr) (fv':Vl) (fs':List Zt) (hf:YX a0 fv' fs'):CkO a0 ((w.setCell ⟨cb,7,none⟩ (.string s)).setCell ⟨cb,8,none⟩ fv') cb md ms deps strs at_ fld fs':=by
 obtain ⟨dn,mv,ds,mn,fv,h1,h2⟩:=h.obj
 exact ⟨(h.ext.setCell h.lcb _).setCell h.lcb _,⟨dn,mv,ds,s,fv',Zy (Zy h1 _) _,hf⟩,(h.mdeps.setCell _ _).setCell _ _,(h.mstrs.setCell _ _).setCell _ _,h.lcb,h.lmd,h.lms,h.ne⟩
def CkO.putOther (h:CkO a0 w cb md ms deps strs at_ fld fs) {B:Nat} (o:Obj) (hB:a0.heap.size≤B) (h1:B≠cb) (h2:B≠md) (h3:B≠ms):CkO a0 (w.putObj B o) cb md ms deps strs at_ fld fs:=by
 obtain ⟨dn,mv,ds,mn,fv,h4,h5⟩:=h.obj
 exact ⟨h.ext.putObj hB o,⟨dn,mv,ds,mn,fv,(World.putObj_heap_other (λ e=>h1 e.symm)).trans h4,h5⟩,XB.putOther h.mdeps (λ e=>h2 e.symm) o,XB.putOther h.mstrs (λ e=>h3 e.symm) o,h.lcb,h.lmd,h.lms,h.ne⟩
def CkO.unmark (h:CkO a0 w cb md ms deps strs at_ fld fs) {B:Nat} (hm:Yo B w) (hB:a0.heap.size≤B):CkO a0 (w.putObj B (.deferred none)) cb md ms deps strs at_ fld fs:=by
 obtain ⟨dn,mv,ds,mn,fv,h4,h5⟩:=h.obj
 refine h.putOther _ hB ?_ ?_ ?_
 · rintro rfl;unfold Yo at hm;rw [h4] at hm;cases hm
 · rintro rfl;unfold Yo at hm;have:=h.mdeps.obj;rw [hm] at this;cases this
 · rintro rfl;unfold Yo at hm;have:=h.mstrs.obj;rw [hm] at this;cases this
def CkO.lasts {B:Nat} (hB:a0.heap.size≤B):Yk B (λ w=>CkO a0 w cb md ms deps strs at_ fld fs):=by
 refine ⟨λ w w' h e=>h.go e,λ w l r r' hl h hr=>?_⟩
 obtain ⟨dn,mv,ds,mn,fv,h4,h5⟩:=h.obj
 refine h.putOther _ K9 ?_ ?_ ?_
 · rintro rfl;rw [h4] at hr;cases hr
 · rintro rfl;have:=h.mdeps.obj;rw [hr] at this;cases this
 · rintro rfl;have:=h.mstrs.obj;rw [hr] at this;cases this
def QC.lasts (B pb:Nat) (sv:Vl) (l:List BAr):Yk B (λ w=>QC w pb sv l):=
 Yk.and (Yk.cell B) (Yk.and ⟨λ _ _ h e=>h.ext Mp e,λ _ _ _ _ _ h hl=>Ze.putLoop (λ _ _ h=>h) hl h⟩ (Yk.const _ _))
def QC.set {w:Wd} {pb:Nat} {sv:Vl} {l:List BAr} (h:QC w pb sv l) {b o:Nat} (hb:b < pb) (u:Vl):QC (w.setCell ⟨b,o,none⟩ u) pb sv l:=
 ⟨by rw [Xs K9];exact h.1,Ze.setOther h.2.1 u (λ A m c e=>by have:=h.2.2 A m c e;omega) (λ _ _ h=>h),h.2.2⟩
end
def Dl (m:Yh):List BAr:=ZV [] (Z9 m.fields)
def YE (deps:List (BAr×Int)) (strs:List (BAr×Bool)) (bef:List Zt):List Zt→Int×Int
 | []=>(-1,0)
 | f::l=>if Xa bef (vI deps) (vB strs) f=0 then YE deps strs (bef++[f]) l else (bef.length,Xa bef (vI deps) (vB strs) f)
def WM (a b:Int):Int:=if b > a then b else a
def Q1 (deps:List (BAr×Int)) (m:Yh):Int:=(Dl m).foldl (λ d s=>WM d ((ZM deps s).getD 0)) 0
def UH (strs:List (BAr×Bool)) (m:Yh):Bool:=(m.fields.all λ f=>!f.loose)&&(Dl m).all λ s=>(ZM strs s).getD false
def Uo (deps:List (BAr×Int)) (m:Yh) (r:Int×Int):Int×Int:=if r.2=0 then (if Q1 deps m < 16 then (-1,0) else (-1,10)) else r
def QW (deps:List (BAr×Int)) (strs:List (BAr×Bool)) (m:Yh):Int×Int:=
 if YZ m.name then (if (ZM deps m.name).isSome then (-1,2) else (if 1≤m.fields.length∧m.fields.length≤40 then Uo deps m (YE deps strs [] m.fields) else (-1,3))) else (-1,1)
def ED (a0:Wd) (at_:Int) (r:Int×Int) (K:WPr):Ending→Wd→Prop:=λ e w'=>Ext a0 w'∧(r.2=0∧e = .returned (.tuple #[])∧K w'∨r.2≠0∧e = .panicked [XM at_ r.1 r.2])
def S5 {a0 w':Wd} {at_:Int} {r:Int×Int} {K:WPr} (e:Ext a0 w') (h:r.2=0) (hK:K w'):ED a0 at_ r K (.returned (.tuple #[])) w':=⟨e,.inl ⟨h,rfl,hK⟩⟩
def JW {a0 w':Wd} {at_ a b:Int} {r:Int×Int} {K:WPr} (e:Ext a0 w') (h:r=(a,b)) (h0:b≠0):ED a0 at_ r K (.panicked [XM at_ a b]) w':=by subst h;exact ⟨e,.inr ⟨h0,rfl⟩⟩
def Ts {P:Program} {C:WPr} [Xb C] {T:TypeId} {a:Addr} {v:Vl} {k:Vl→Prop} (h:∀ w',C w'→WX P w' T a v):qV P C (loadAt T (.pointer (some a))) k=k v:=
 J2 λ w' e=>QY λ QP k=>Gr (h w' e)
section
variable {a0 w:Wd} {cb md ms:Nat} {deps:List (BAr×Int)} {strs:List (BAr×Bool)} {at_ fld:Int} {fs:List Zt}
def ZaU (h:CkO a0 w cb md ms deps strs at_ (-1) fs) (p2 p3 p6 p9 B:Nat) (m:Yh) (fv:Vl) (st:Bool) (dp:Int) (hd0:0≤dp) (hd1:dp≤1000)
 (o2:w.heap[p2]?=some (.cells #[Qq4 cb] 167 (0,0))) (o3:w.heap[p3]?=some (.cells (ZZ m fv).toArray 74 (0,0))) (o6:w.heap[p6]?=some (.cells #[.bool st] 4 (0,0))) (o9:w.heap[p9]?=some (.cells #[.int .i64 dp] 3 (0,0)))
 (hmk:Yo B w) (hB:a0.heap.size≤B) (r:Int×Int) (hr:r=if dp < 16 then (-1,0) else (-1,10)) (K:WPr)
 (hK:∀ w',CkO a0 w' cb md ms (deps++[(m.name,dp+1)]) (strs++[(m.name,st)]) at_ (-1) fs→K w') :
 Yg w λ C12 w=>MW (Qq4 p2) (Qq4 p3) (Qq4 p6) (Qq4 p9) C12 [Sw.mark B] (ED a0 at_ r K) w:=by
 obtain ⟨n1,n2,l1,l2,l3⟩:=h.nd
 have Y3:=h.ne
 obtain ⟨dn,mv,ds,mn,fv',h1,h2⟩:=h.obj
 have m2:p2≠md:=by rintro rfl;have:=h.mdeps.obj;rw [o2] at this;cases this
 have m3:p3≠md:=by rintro rfl;have:=h.mdeps.obj;rw [o3] at this;cases this
 have m6:p6≠md:=by rintro rfl;have:=h.mdeps.obj;rw [o6] at this;cases this
 have m9:p9≠md:=by rintro rfl;have:=h.mdeps.obj;rw [o9] at this;cases this
 have q2:p2≠ms:=by rintro rfl;have:=h.mstrs.obj;rw [o2] at this;cases this
 have q3:p3≠ms:=by rintro rfl;have:=h.mstrs.obj;rw [o3] at this;cases this
 have q6:p6≠ms:=by rintro rfl;have:=h.mstrs.obj;rw [o6] at this;cases this
 have q9:p9≠ms:=by rintro rfl;have:=h.mstrs.obj;rw [o9] at this;cases this
 refine z7 (w1:=w) md ms (λ _ _ _ _=>rfl) ?_
 unfold MW
 refine QqZ (Za h1).1 (Za o2).1 (Za o3).1 (Za o6).1 (Za o9).1 ?_
 have eD:Ext w w.drew:=(Ext.refl w).drew
 have hmd:Y9 w.drew md (vI deps):=h.mdeps.ext eD
 rw [yY underlying198 underlying9 ty3 hmd m.name]
 refine ⟨λ b hb b1 b2=>(World.putObj_heap_other b1),?_⟩
 unfold SW
 refine Qqk ?_
 rw [GJ (XB.ent hmd m.name _) (FK _ _),Mj,GL]
 have hw1:w.drew.putObj md (Vv (λ s:BAr=>Value.string s) (UO (bld (vI deps)).1 (bld (vI deps)).2 m.name (.int .i64 (IntKind.i64.wrap (dp+1)))) (U6 (bld (vI deps)).1 (bld (vI deps)).2 m.name))=putW w.drew md (vI deps) m.name (.int .i64 (IntKind.i64.wrap (dp+1))):=by
  unfold putW;rw [UX]
 rw [hw1]
 have hms:Y9 (putW w.drew md (vI deps) m.name (.int .i64 (IntKind.i64.wrap (dp+1)))) ms (vB strs):=XB.putOther (h.mstrs.ext eD) (λ e=>Y3 e.symm) _
 refine ⟨λ b hb b1 b2=>(World.putObj_heap_other b1),?_⟩
 rw [yY underlying199 underlying9 ty4 hms m.name]
 refine ⟨λ b hb b1 b2=>(World.putObj_heap_other b2).trans (World.putObj_heap_other b1),?_⟩
 unfold SV
 refine Qqk ?_
 rw [GJ (XB.ent hms m.name _) (FK _ _),Mj,GL]
 have hw2:(putW w.drew md (vI deps) m.name (.int .i64 (IntKind.i64.wrap (dp+1)))).putObj ms (Vv (λ s:BAr=>Value.string s) (UO (bld (vB strs)).1 (bld (vB strs)).2 m.name (.bool st)) (U6 (bld (vB strs)).1 (bld (vB strs)).2 m.name))=putW (putW w.drew md (vI deps) m.name (.int .i64 (IntKind.i64.wrap (dp+1)))) ms (vB strs) m.name (.bool st):=by
  unfold putW;rw [UX,UX]
 rw [hw2]
 have hwr:IntKind.i64.wrap (dp+1)=dp+1:=YF K9 K9
 rw [hwr]
 have hC2:CkO a0 (putW (putW w.drew md (vI deps) m.name (.int .i64 (dp+1))) ms (vB strs) m.name (.bool st)) cb md ms (deps++[(m.name,dp+1)]) (strs++[(m.name,st)]) at_ (-1) fs:=by
  refine ⟨(h.ext.drew.putObj h.lmd _).putObj h.lms _,⟨dn,mv,ds,mn,fv',((World.putObj_heap_other n2).trans (World.putObj_heap_other n1)).trans h1,h2⟩,?_,?_,h.lcb,h.lmd,h.lms,Y3⟩
  · have:=XB.putOther (hmd.put m.name (.int .i64 (dp+1))) Y3 (Gm (bld (vB strs++[(m.name,.bool st)])).1 (bld (vB strs++[(m.name,.bool st)])).2)
    unfold vI at this ⊢
    rw [List.map_append]
    exact this
  · rw [hwr] at hms
    have:=hms.put m.name (.bool st)
    unfold vB at this ⊢
    rw [List.map_append]
    exact this
 have hk2:Yo B (putW (putW w.drew md (vI deps) m.name (.int .i64 (dp+1))) ms (vB strs) m.name (.bool st)):=by
  have b1:B≠md:=by rintro rfl;have:=h.mdeps.obj;unfold Yo at hmk;rw [hmk] at this;cases this
  have b2:B≠ms:=by rintro rfl;have:=h.mstrs.obj;unfold Yo at hmk;rw [hmk] at this;cases this
  exact ((World.putObj_heap_other b2).trans (World.putObj_heap_other b1)).trans hmk
 have o2':(putW (putW w.drew md (vI deps) m.name (.int .i64 (dp+1))) ms (vB strs) m.name (.bool st)).heap[p2]?=some (.cells #[Qq4 cb] 167 (0,0)):=((World.putObj_heap_other q2).trans (World.putObj_heap_other m2)).trans o2
 have o9':(putW (putW w.drew md (vI deps) m.name (.int .i64 (dp+1))) ms (vB strs) m.name (.bool st)).heap[p9]?=some (.cells #[.int .i64 dp] 3 (0,0)):=((World.putObj_heap_other q9).trans (World.putObj_heap_other m9)).trans o9
 generalize putW (putW w.drew md (vI deps) m.name (.int .i64 (dp+1))) ms (vB strs) m.name (.bool st)=W at hC2 hk2 o2' o9' ⊢
 refine XL ?_
 unfold SU
 refine Qqh (Za o2').1 (Za o9').1 ?_
 refine Z1 (YP hC2.chk _ 10 K7) (λ w' e h0=>?_) (λ w' e h0=>?_)
 · refine V5 (hk2.ext e) ?_
   rw [Um]
   have hC3:=(hC2.go e).unmark (hk2.ext e) hB
   refine S5 hC3.ext ?_ (hK _ hC3)
   rw [hr]
   by_cases hdp:dp < 16
   · rw [if_pos hdp]
   · rw [decide_eq_false hdp] at h0;exact absurd h0 K7
 · refine xX (hk2.ext e) ?_
   rw [Ul]
   have hC3:=(hC2.go e).unmark (hk2.ext e) hB
   by_cases hdp:dp < 16
   · rw [decide_eq_true hdp] at h0;exact absurd rfl h0
   · rw [decide_eq_false hdp]
     rw [if_neg hdp] at hr
     exact JW hC3.ext hr K7
def ZaP {a b c:Int} (h1:a≤c) (h2:b≤c):WM a b≤c:=by unfold WM;split<;>assumption
def ZaL (a b:Int):a≤WM a b:=by unfold WM;split<;>omega
def Kl (g:BAr→Int):∀ (l:List BAr) (d:Int),0≤d→(∀ s∈l,0≤g s∧g s≤16)→d≤16→0≤l.foldl (λ d s=>WM d (g s)) d∧l.foldl (λ d s=>WM d (g s)) d≤16
 | [],d,h0,_,h1=>⟨h0,h1⟩
 | s::l,d,h0,h,h1=>Kl g l _ (Int.le_trans h0 (ZaL _ _)) (λ u hu=>h u (List.mem_cons_of_mem _ hu)) (ZaP h1 (h s (List.mem_cons_self ..)).2)
def Low (deps:List (BAr×Int)):Prop:=∀ p∈deps,0≤p.2∧p.2≤16
def Low.get {deps:List (BAr×Int)} (h:Low deps) (s:BAr):0≤(ZM deps s).getD 0∧(ZM deps s).getD 0≤16:=by
 cases hl:ZM deps s with
 | none=>exact ⟨by decide,by decide⟩
 | some n=>exact h _ (V3 hl)
def N4 (hlow:Low deps) (h:CkO a0 w cb md ms deps strs at_ fld fs) (p2 p3 p6:Nat) (m:Yh) (fv:Vl) (st:Bool) (hst:st=m.fields.all λ f=>!f.loose) (hF:YX a0 fv m.fields) (hb:(Z9 m.fields).length≤1048576) (hp2:a0.heap.size≤p2) (hp3:a0.heap.size≤p3) (hp6:a0.heap.size≤p6) (h26:p2 < p6) (h36:p3 < p6)
 (o2:w.heap[p2]?=some (.cells #[Qq4 cb] 167 (0,0))) (o3:w.heap[p3]?=some (.cells (ZZ m fv).toArray 74 (0,0))) (o6:w.heap[p6]?=some (.cells #[.bool st] 4 (0,0)))
 (r:Int×Int) (hr:r=if Q1 deps m < 16 then (-1,0) else (-1,10)) (K:WPr)
 (hK:∀ w',CkO a0 w' cb md ms (deps++[(m.name,Q1 deps m+1)]) (strs++[(m.name,UH strs m)]) at_ (-1) fs→K w') :
 Ez (Qq4 p2) (Qq4 p3) (Qq4 p6) [] (ED a0 at_ r K) w:=by
 obtain ⟨n1,n2,l1,l2,l3⟩:=h.nd
 obtain ⟨dn,mv,ds,mn,fv',h1,h2⟩:=h.obj
 have c2:p2≠cb:=by rintro rfl;rw [o2] at h1;cases h1
 have c3:p3≠cb:=by rintro rfl;rw [o3] at h1;cases h1
 have c6:p6≠cb:=by rintro rfl;rw [o6] at h1;cases h1
 have lp6:p6 < w.heap.size:=(Qqq o6).1
 have lp3:p3 < w.heap.size:=(Qqq o3).1
 unfold Ez
 refine Qqm (Za h1).1 (Za h1).2 (Za o2).1 (Za o3).1 ?_
 have hC1:=h.setFld (-1)
 have o2':(w.setCell ⟨cb,6,none⟩ (.int .i64 (-1))).heap[p2]?=some (.cells #[Qq4 cb] 167 (0,0)):=by rw [YT.setCell w cb 6 _ p2 c2];exact o2
 have o3':(w.setCell ⟨cb,6,none⟩ (.int .i64 (-1))).heap[p3]?=some (.cells (ZZ m fv).toArray 74 (0,0)):=by rw [YT.setCell w cb 6 _ p3 c3];exact o3
 have o6':(w.setCell ⟨cb,6,none⟩ (.int .i64 (-1))).heap[p6]?=some (.cells #[.bool st] 4 (0,0)):=by rw [YT.setCell w cb 6 _ p6 c6];exact o6
 simp only [World.size_setCell]
 have eW:=hC1.go ((Ext.refl (w.setCell ⟨cb,6,none⟩ (.int .i64 (-1)))).alloc (Obj.cells #[.int .i64 0] 3))
 have x2:=((Ext.refl (w.setCell ⟨cb,6,none⟩ (.int .i64 (-1)))).alloc (Obj.cells #[.int .i64 0] 3)).obj o2'
 have x3:=((Ext.refl (w.setCell ⟨cb,6,none⟩ (.int .i64 (-1)))).alloc (Obj.cells #[.int .i64 0] 3)).obj o3'
 have x6:=((Ext.refl (w.setCell ⟨cb,6,none⟩ (.int .i64 (-1)))).alloc (Obj.cells #[.int .i64 0] 3)).obj o6'
 have x9:=Zv (w.setCell ⟨cb,6,none⟩ (.int .i64 (-1))) #[.int .i64 0] 3
 rw [World.size_setCell] at x9
 generalize hW:World.alloc (w.setCell ⟨cb,6,none⟩ (.int .i64 (-1))) _=W at eW x2 x3 x6 x9
 have Uq:W.heap.size=w.heap.size+1:=by rw [← hW];simp only [World.size_alloc,World.size_setCell]
 clear hW hC1 o2 o3 o6 o2' o3' o6' h
 have lW:a0.heap.size≤W.heap.size:=eW.ext.size
 refine Zs (jO W _ m ⟨fv,rfl,hF.ext eW.ext⟩ hb) ?_
 rintro _ w7 ⟨pb,sv,rfl,hS,hpb,e7⟩
 have s7:=e7.size
 unfold SX
 let rs:=Dl m
 let I:Nat→Wd→Prop:=λ k w'=>CkO a0 w' cb md ms deps strs at_ (-1) fs∧QC w' pb sv (Z9 m.fields)∧w'.heap[p2]?=some (.cells #[Qq4 cb] 167 (0,0))∧w'.heap[p3]?=some (.cells (ZZ m fv).toArray 74 (0,0)) ∧
  w'.heap[p6]?=some (.cells #[.bool (st&&(rs.take k).all λ s=>(ZM strs s).getD false)] 4 (0,0))∧w'.heap[w.heap.size]?=some (.cells #[.int .i64 ((rs.take k).foldl (λ d s=>WM d ((ZM deps s).getD 0)) 0)] 3 (0,0))
 have hLI:∀ k,Yk w7.heap.size (I k):=λ k=>Yk.and (CkO.lasts K9) (Yk.and (QC.lasts _ _ _ _) (Yk.and (Yk.has _ (by simp)) (Yk.and (Yk.has _ (by simp)) (Yk.and (Yk.has _ (by simp)) (Yk.has _ (by simp))))))
 refine ⟨_,_,rs.length,Ou rs,λ w=>QC w pb sv (Z9 m.fields),I,λ _ _=>False,λ _ _=>False,rfl,Zfq,H5 pb sv _,⟨eW.go e7,hS,e7.obj x2,e7.obj x3,?_,e7.obj x9⟩,λ k w h=>h.2.1,hLI,λ _=>Yk.const _ _,?_,?_,?_,?_⟩
 · have:=e7.obj x6
   rw [this];simp
 · intro rec j w3 hj hI3 hrec hready
   refine ⟨hready,λ w4 hbz=>?_⟩
   have hrec4:=hrec.busied hbz
   have hI4:=(hLI j).busied hbz (Nat.le_succ _) hI3
   clear hI3 hrec hready hbz
   obtain ⟨hC4,hS4,y2,y3,y6,y9⟩:=hI4
   obtain ⟨s,hx⟩:=getElem?_lt hj
   have hrs:rs[j]?=some s:=hx
   rw [show Ou rs j = .string s by unfold Ou;rw [hrs]]
   obtain ⟨dn,mv,ds,mn,fv',h1,h2⟩:=hC4.obj
   have l9:w.heap.size < w4.heap.size:=(Qqq y9).1
   have Qu:rs.take (j+1)=rs.take j++[s]:=Yw hrs
   refine ZB ?_
   unfold SS
   refine Qqb (Za y9).1 (Za y2).1 (Za h1).1 ?_
   rw [jc underlying198 underlying9 ty3 (hC4.mdeps.ext ((Ext.refl w4).wdrew)) s]
   have hg:(Yy (vI deps) s).getD (.int .i64 0) = .int .i64 ((ZM deps s).getD 0):=by rw [W3];cases ZM deps s<;>rfl
   rw [hg]
   refine Qqh (Za y9).1 (Za y9).2 ?_
   refine XL ?_
   have e4:Ext w4 w4.drew:=(Ext.refl w4).wdrew
   have hC5:=(hC4.go e4).other (b:=w.heap.size) (o:=0) K9 K9 (.int .i64 (if (ZM deps s).getD 0 > (rs.take j).foldl (λ d s=>WM d ((ZM deps s).getD 0)) 0 then (ZM deps s).getD 0 else (rs.take j).foldl (λ d s=>WM d ((ZM deps s).getD 0)) 0))
   have hS5:QC (w4.drew.setCell ⟨w.heap.size,0,none⟩ (.int .i64 (if (ZM deps s).getD 0 > (rs.take j).foldl (λ d s=>WM d ((ZM deps s).getD 0)) 0 then (ZM deps s).getD 0 else (rs.take j).foldl (λ d s=>WM d ((ZM deps s).getD 0)) 0))) pb sv (Z9 m.fields):=(hS4.ext e4).set K9 _
   have hrec5:Xn rec w7.heap.size (w4.drew.setCell ⟨w.heap.size,0,none⟩ (.int .i64 (if (ZM deps s).getD 0 > (rs.take j).foldl (λ d s=>WM d ((ZM deps s).getD 0)) 0 then (ZM deps s).getD 0 else (rs.take j).foldl (λ d s=>WM d ((ZM deps s).getD 0)) 0))):=hrec4.drew.setCell _ _
   have z2:=(YT.setCell w4.drew w.heap.size 0 (.int .i64 (if (ZM deps s).getD 0 > (rs.take j).foldl (λ d s=>WM d ((ZM deps s).getD 0)) 0 then (ZM deps s).getD 0 else (rs.take j).foldl (λ d s=>WM d ((ZM deps s).getD 0)) 0)) p2 K9).trans y2
   have z3:=(YT.setCell w4.drew w.heap.size 0 (.int .i64 (if (ZM deps s).getD 0 > (rs.take j).foldl (λ d s=>WM d ((ZM deps s).getD 0)) 0 then (ZM deps s).getD 0 else (rs.take j).foldl (λ d s=>WM d ((ZM deps s).getD 0)) 0)) p3 K9).trans y3
   have z6:=(YT.setCell w4.drew w.heap.size 0 (.int .i64 (if (ZM deps s).getD 0 > (rs.take j).foldl (λ d s=>WM d ((ZM deps s).getD 0)) 0 then (ZM deps s).getD 0 else (rs.take j).foldl (λ d s=>WM d ((ZM deps s).getD 0)) 0)) p6 K9).trans y6
   have z9:=Zy (w:=w4.drew) (o:=0) y9 (.int .i64 (if (ZM deps s).getD 0 > (rs.take j).foldl (λ d s=>WM d ((ZM deps s).getD 0)) 0 then (ZM deps s).getD 0 else (rs.take j).foldl (λ d s=>WM d ((ZM deps s).getD 0)) 0))
   rw [show (#[Value.int .i64 ((rs.take j).foldl (λ d s=>WM d ((ZM deps s).getD 0)) 0)]:AVl).setIfInBounds 0 (.int .i64 (if (ZM deps s).getD 0 > (rs.take j).foldl (λ d s=>WM d ((ZM deps s).getD 0)) 0 then (ZM deps s).getD 0 else (rs.take j).foldl (λ d s=>WM d ((ZM deps s).getD 0)) 0)) = #[.int .i64 ((rs.take (j+1)).foldl (λ d s=>WM d ((ZM deps s).getD 0)) 0)] from by rw [Qu,List.foldl_append];rfl] at z9
   generalize w4.drew.setCell ⟨w.heap.size,0,none⟩ _=w5 at hC5 hS5 hrec5 z2 z3 z6 z9 ⊢
   clear hC4 hS4 hrec4 y2 y3 y6 y9 h1 hg
   obtain ⟨dn,mv,ds,mn,fv',h1,h2⟩:=hC5.obj
   have hall:(st&&(rs.take (j+1)).all λ s=>(ZM strs s).getD false)=((st&&(rs.take j).all λ s=>(ZM strs s).getD false)&&(ZM strs s).getD false):=by
    rw [Qu,List.all_append,Bool.and_assoc];simp
   have fin:∀ b,b=(st&&(rs.take (j+1)).all λ s=>(ZM strs s).getD false)→Xn rec w7.heap.size (w5.setCell ⟨p6,0,none⟩ (.bool b))∧I (j+1) (w5.setCell ⟨p6,0,none⟩ (.bool b)):=by
    rintro b rfl
    refine ⟨hrec5.setCell _ _,hC5.other hp6 c6 _,hS5.set K9 _,(YT.setCell w5 p6 0 _ p2 K9).trans z2,(YT.setCell w5 p6 0 _ p3 K9).trans z3,?_,(YT.setCell w5 p6 0 _ w.heap.size K9).trans z9⟩
    have:=Zy (o:=0) z6 (.bool (st&&(rs.take (j+1)).all λ s=>(ZM strs s).getD false))
    simpa using this
   rw [hall] at fin
   generalize (st&&(rs.take j).all λ s=>(ZM strs s).getD false)=sj at z6 fin
   unfold SR
   have hg:(Yy (vB strs) s).getD (.bool false) = .bool ((ZM strs s).getD false):=by rw [xx];cases ZM strs s<;>rfl
   cases sj with
   | false=>
    simp (disch:=try exact DI) only [↓PR,QR,simprocAttr,(Za z6).1,(Za z6).2,↓Hk,↓SQ,↓SR,↓SS,↓SU,↓SV,↓SW,↓MW,↓SX,↓Ez,↓Lf,↓EA,↓Bm,↓Lg,↓Lh,↓Li,↓EB,↓Lj]
    exact fin false rfl
   | true=>
    refine Qqm (Za z6).1 (Za z6).2 (Za z2).1 (Za h1).1 ?_
    rw [VM underlying199 underlying9 ty4 hC5.mstrs s,hg]
    generalize (ZM strs s).getD false=b at fin
    simp (disch:=try exact DI) only [↓PR,QR,simprocAttr,(Za z6).1,(Za z6).2,Hk]
    exact fin b (by cases b<;>rfl)
 · rintro w3 hI3 hmk
   obtain ⟨hC3,hS3,y2,y3,y6,y9⟩:=hI3
   rw [List.take_length] at y6 y9
   have hfold:=Kl (λ s=>(ZM deps s).getD 0) rs 0 K7 (λ s _=>hlow.get s) K7
   refine ZaU hC3 p2 p3 p6 w.heap.size w7.heap.size m fv _ _ hfold.1 (by have:=hfold.2;omega) y2 y3 y6 y9 hmk K9 r hr K ?_
   rw [hst]
   exact hK
 · rintro c w3 h
   exact h.elim
 · rintro ch w3 h
   exact h.elim
end
section
variable {a0 w:Wd} {cb md ms:Nat} {deps:List (BAr×Int)} {strs:List (BAr×Bool)} {at_ fld:Int} {m:Yh}
def U5 {a b:Int} (h:orC a b=0):a=0∧b=0:=by
 unfold orC at h
 split at h
 · rename_i ha
   exact ⟨ha,h⟩
 · rename_i ha
   exact absurd h ha
def Ak (deps:List (BAr×Int)) (strs:List (BAr×Bool)):∀ (l bef:List Zt),(YE deps strs bef l).2≠0→0≤(YE deps strs bef l).1
 | [],_,h=>absurd rfl h
 | f::l,bef,h=>by
  rw [YE] at h ⊢
  split
  · rename_i hc
    rw [if_pos hc] at h
    exact Ak deps strs l _ h
  · exact Int.natCast_nonneg _
def U8 (deps:List (BAr×Int)) (strs:List (BAr×Bool)):∀ (l bef:List Zt),(YE deps strs bef l).2=0→(Z9 l).length≤40*l.length
 | [],_,_=>Nat.zero_le _
 | f::l,bef,h=>by
  rw [YE] at h
  split at h
  · rename_i hc
    have ih:=U8 deps strs l _ h
    have hf:(Yr f).length≤40:=by
     unfold Yr
     split
     · simp
     · split
       · rename_i hk
         obtain ⟨_,h1⟩:=U5 hc
         obtain ⟨_,h1⟩:=U5 h1
         obtain ⟨_,h1⟩:=U5 h1
         obtain ⟨_,h1⟩:=U5 h1
         rw [show Z4 bef (vI deps) (vB strs) f=Vc bef (vI deps) f by unfold Z4;rw [hk];rfl] at h1
         obtain ⟨_,h1⟩:=U5 h1
         obtain ⟨h1,_⟩:=U5 h1
         have h2:=QK K7 h1
         simp only [Bool.and_eq_true,decide_eq_true_eq] at h2
         rw [List.length_map]
         omega
       · simp
    unfold Z9 at ih ⊢
    rw [List.flatMap_cons,List.length_append,List.length_cons]
    omega
  · rename_i hc
    exact absurd h hc
def S6 (hlow:Low deps) (h:CkO a0 w cb md ms deps strs at_ fld m.fields) (p2 p3:Nat) (fv:Vl) (hF:YX a0 fv m.fields) (h40:m.fields.length≤40) (hp2:a0.heap.size≤p2) (hp3:a0.heap.size≤p3)
 (o2:w.heap[p2]?=some (.cells #[Qq4 cb] 167 (0,0))) (o3:w.heap[p3]?=some (.cells (ZZ m fv).toArray 74 (0,0)))
 (r:Int×Int) (hr:r=Uo deps m (YE deps strs [] m.fields)) (K:WPr)
 (hK:∀ w',CkO a0 w' cb md ms (deps++[(m.name,Q1 deps m+1)]) (strs++[(m.name,UH strs m)]) at_ (-1) m.fields→K w') :
 Bm (Qq4 p2) (Qq4 p3) [] (ED a0 at_ r K) w:=by
 obtain ⟨n1,n2,l1,l2,l3⟩:=h.nd
 have lp2:p2 < w.heap.size:=(Qqq o2).1
 have lp3:p3 < w.heap.size:=(Qqq o3).1
 have lw:=h.ext.size
 obtain ⟨A,c,rfl,hlc,hcm,hlm,YS⟩:=Ze.open hF
 unfold Bm
 refine Qqg (Za o3).1 ?_
 refine ZE (λ i w'=>∃ (k:Nat) (fld':Int),i = .int .i64 k∧k≤m.fields.length∧CkO a0 w' cb md ms deps strs at_ fld' m.fields∧w'.heap[p2]?=some (.cells #[Qq4 cb] 167 (0,0))∧w'.heap[p3]?=some (.cells (ZZ m (.slice A m.fields.length c)).toArray 74 (0,0)) ∧
  w'.heap[w.heap.size]?=some (.cells #[.bool ((m.fields.take k).all λ f=>!f.loose)] 4 (0,0))∧r=Uo deps m (YE deps strs (m.fields.take k) (m.fields.drop k))) (λ i _=>m.fields.length - (intOf i).toNat) ⟨0,fld,rfl,by omega,h.go ((Ext.refl _).alloc _),((Ext.refl _).alloc _).obj o2,((Ext.refl _).alloc _).obj o3,Zv w #[.bool true] 4,hr⟩ ?_
 rintro i w' ⟨k,fld',rfl,hk,hC,y2,y3,y6,hrk⟩
 have l6:w.heap.size < w'.heap.size:=(Qqq y6).1
 have lw':=hC.ext.size
 obtain ⟨dn,mv,ds,mn,fv',h1,h2⟩:=hC.obj
 have c2:p2≠cb:=by rintro rfl;rw [y2] at h1;cases h1
 have c3:p3≠cb:=by rintro rfl;rw [y3] at h1;cases h1
 rcases ZH hk with ⟨x,hx,hd,Ym,ZK⟩ | ⟨hk,hd,ZK⟩
 · obtain ⟨b,o,cs,rfl,hl,hA,hE⟩:=YS k x hx
   obtain ⟨tv,cv,rfl,hT,hCa,ht1,hc1⟩:=hE.op
   have hA':=hA.ext hC.ext
   rw [hd] at hrk
   simp only [YE] at hrk
   unfold EA
   refine Qqg ZK ?_
   unfold Lf
   try unfold X0
   try unfold L0
   rw [XN underlying72 VR _ _ _ _ _ k Ym,Gr (hA'.loads VR rfl)]
   refine Qqb (Za y2).1 (Za h1).1 (Za h1).2 ?_
   have hCw:=(hC.setFld (k:Int)).go ((Ext.refl _).alloc (Obj.cells (Zq x tv cv).toArray 123))
   have z2:=((Ext.refl _).alloc (Obj.cells (Zq x tv cv).toArray 123)).obj ((YT.setCell w' cb 6 (.int .i64 (k:Int)) p2 c2).trans y2)
   have z3:=((Ext.refl _).alloc (Obj.cells (Zq x tv cv).toArray 123)).obj ((YT.setCell w' cb 6 (.int .i64 (k:Int)) p3 c3).trans y3)
   have z6:=((Ext.refl _).alloc (Obj.cells (Zq x tv cv).toArray 123)).obj ((YT.setCell w' cb 6 (.int .i64 (k:Int)) w.heap.size K9).trans y6)
   have z8:=Zv (w'.setCell ⟨cb,6,none⟩ (.int .i64 (k:Int))) (Zq x tv cv).toArray 123
   rw [World.size_setCell] at z8
   generalize (World.alloc (w'.setCell ⟨cb,6,none⟩ (.int .i64 (k:Int))) (Obj.cells (Zq x tv cv).toArray 123))=W at hCw z2 z3 z6 z8 ⊢
   have hkt:(m.fields.take k).length=k:=by rw [List.length_take];omega
   refine Z1 (FF hCw.chk k rfl Ym _ x ⟨tv,cv,rfl,Z8.ext hT hCw.ext,Yu.ext hCa hCw.ext⟩) (λ w5 e5 h0=>?_) (λ w5 e5 h0=>?_)
   · rw [if_pos h0] at hrk
     have q6:=e5.obj z6
     have q8:=e5.obj z8
     have hC5:=hCw.go e5
     have l5:w'.heap.size < w5.heap.size:=(Qqq q8).1
     have htk:=Yw hx
     rw [← htk] at hrk
     have hall:((m.fields.take (k+1)).all λ f=>!f.loose)=(((m.fields.take k).all λ f=>!f.loose)&&!x.loose):=by rw [htk,List.all_append];simp
     have fin:∀ b' w6,Ext w5 w6→b'=((m.fields.take (k+1)).all λ f=>!f.loose)→(∃ (k':Nat) (fld':Int),Value.int .i64 ((k+1:Nat):Int) = .int .i64 k'∧k'≤m.fields.length∧CkO a0 (w6.setCell ⟨w.heap.size,0,none⟩ (.bool b')) cb md ms deps strs at_ fld' m.fields∧w6.heap[p2]?=some (.cells #[Qq4 cb] 167 (0,0))∧w6.heap[p3]?=some (.cells (ZZ m (.slice (some ⟨b,o,none⟩) m.fields.length c)).toArray 74 (0,0)) ∧
      (w6.setCell ⟨w.heap.size,0,none⟩ (.bool b')).heap[w.heap.size]?=some (.cells #[.bool ((m.fields.take k').all λ f=>!f.loose)] 4 (0,0))∧r=Uo deps m (YE deps strs (m.fields.take k') (m.fields.drop k')))∧m.fields.length - (intOf (Value.int .i64 ((k+1:Nat):Int))).toNat < m.fields.length - (intOf (Value.int IntKind.i64 k)).toNat:=by
      rintro b' w6 e6 rfl
      refine ⟨⟨k+1,k,rfl,by omega,(hC5.go e6).other K9 K9 _,e6.obj (e5.obj z2),e6.obj (e5.obj z3),?_,hrk⟩,ZQ (kd := .i64) Ym⟩
      have:=Zy (o:=0) (e6.obj q6) (.bool ((m.fields.take (k+1)).all λ f=>!f.loose))
      simpa using this
     unfold SQ
     rw [hall] at fin
     generalize ((m.fields.take k).all λ f=>!f.loose)=sj at q6 fin
     cases sj with
     | true=>
      generalize hxl:x.loose=xl at fin
      simp (disch:=try exact DI) only [↓PR,QR,simprocAttr,(Za q6).1,(Za q6).2,(Za q8).1,Hk,hxl]
      simp only [Bool.true_and] at fin
      exact fin _ w5 (Ext.refl _) rfl
     | false=>
      simp (disch:=try exact DI) only [↓PR,QR,simprocAttr,(Za q6).1,(Za q6).2,(Za q8).1,Hk]
      simp only [Bool.false_and] at fin
      exact fin _ w5 (Ext.refl _) rfl
   · rw [if_neg h0] at hrk
     have hr2:r=((k:Int),Xa (m.fields.take k) (vI deps) (vB strs) x):=by
      rw [hrk,hkt];unfold Uo;rw [if_neg h0]
     show ZI _ _ _ _ _ _
     rw [Ul]
     exact JW (hCw.ext.trans e5) hr2 h0
 · subst hk
   rw [hd] at hrk
   rw [List.take_length] at y6
   unfold EA
   refine Qqg ZK ?_
   have hfl:(YE deps strs [] m.fields).2=0:=by
    by_cases h0:(YE deps strs [] m.fields).2=0
    · exact h0
    · exfalso
      have h1:=Ak deps strs m.fields [] h0
      have h2:Uo deps m (YE deps strs (List.take m.fields.length m.fields) [])=YE deps strs [] m.fields:=by
       rw [← hrk,hr]
       unfold Uo
       rw [if_neg h0]
      have h3:(Uo deps m (YE deps strs (List.take m.fields.length m.fields) [])).1 = -1:=by
       unfold Uo YE
       simp only [if_true]
       split<;>rfl
      rw [h2] at h3
      omega
   have hb:(Z9 m.fields).length≤1048576:=by
    have:=U8 deps strs m.fields [] hfl
    omega
   refine N4 hlow hC p2 p3 w.heap.size m _ _ rfl hF hb hp2 hp3 lw lp2 lp3 y2 y3 y6 r ?_ K hK
   rw [hrk]
   rfl
def S1 {w0:Wd} {fs0:List Zt} (hlow:Low deps) (h:CkO a0 w0 cb md ms deps strs at_ fld fs0) (v:Vl) (hm:Qt a0 v m) (K:WPr)
 (hK:∀ w',CkO a0 w' cb md ms (deps++[(m.name,Q1 deps m+1)]) (strs++[(m.name,UH strs m)]) at_ (-1) m.fields→K w') :
 Calls Pg 136 #[Qq4 cb,v] w0 (ED a0 at_ (QW deps strs m) K):=by
 obtain ⟨fv,rfl,hF⟩:=hm
 obtain ⟨n1,n2,l1,l2,l3⟩:=h.nd
 have lw:=h.ext.size
 have hf1:=Ze.oneCell hF
 refine Zl8 ?_;unfold n97
 refine Qqk ?_
 have hC:=h.go (((Ext.refl w0).alloc (Obj.cells #[Qq4 cb] 167)).alloc (Obj.cells (ZZ m fv).toArray 74))
 have z3:=Zv (w0.alloc (Obj.cells #[Qq4 cb] 167)) (ZZ m fv).toArray 74
 have z2:=((Ext.refl (w0.alloc (Obj.cells #[Qq4 cb] 167))).alloc (Obj.cells (ZZ m fv).toArray 74)).obj (Zv w0 _ _)
 simp only [World.size_alloc] at z3 ⊢
 generalize (World.alloc (World.alloc w0 _) _)=W at hC z2 z3 ⊢
 clear h
 obtain ⟨dn,mv,ds,mn,fv',h1,h2⟩:=hC.obj
 refine z7 (w1:=W) cb cb (λ _ _ _ _=>rfl) ?_
 unfold Lj
 refine Qqg (Za z2).1 ?_
 have L3:∀ w',KB W cb cb w'→WX Pg w' 74 ⟨w0.heap.size+1,0,none⟩ (.agg (ZZ m fv).toArray):=λ w' hw'=>WX.many qf rfl (λ j u hu=>by
  rw [Addr.add_lit]
  exact KB.cell (b:=w0.heap.size+1) hw' K9 K9 (by rw [(Za z3).1];simpa using hu))
 rw [Ts L3]
 refine Qqh (Za h1).1 (Za h1).2 ?_
 have eD:Ext W W.drew:=(Ext.refl W).wdrew
 have hC1:=(hC.go eD).setMsg m.name fv m.fields hF
 have y2:=(YT.setCell (W.drew.setCell ⟨cb,7,none⟩ (.string m.name)) cb 8 fv w0.heap.size K9).trans ((YT.setCell W.drew cb 7 (.string m.name) w0.heap.size K9).trans (eD.obj z2))
 have y3:=(YT.setCell (W.drew.setCell ⟨cb,7,none⟩ (.string m.name)) cb 8 fv (w0.heap.size+1) K9).trans ((YT.setCell W.drew cb 7 (.string m.name) (w0.heap.size+1) K9).trans (eD.obj z3))
 refine ⟨λ b hb b1 _=>(YT.setCell _ cb 8 fv b b1).trans (YT.setCell W.drew cb 7 (.string m.name) b b1),?_⟩
 show EB _ _ _ _ _ _ ((W.drew.setCell ⟨cb,7,none⟩ (.string m.name)).setCell ⟨cb,8,none⟩ fv)
 generalize ((W.drew.setCell ⟨cb,7,none⟩ (.string m.name)).setCell ⟨cb,8,none⟩ fv)=W1 at hC1 y2 y3 ⊢
 clear hC z2 z3 h1
 obtain ⟨dn,mv,ds,mn,fv',h1,h2'⟩:=hC1.obj
 unfold EB
 refine Qqh (Za h1).1 (Za h1).2 ?_
 have hC2:=hC1.setFld (-1)
 have x2:=(YT.setCell W1 cb 6 (.int .i64 (-1)) w0.heap.size K9).trans y2
 have x3:=(YT.setCell W1 cb 6 (.int .i64 (-1)) (w0.heap.size+1) K9).trans y3
 generalize (W1.setCell ⟨cb,6,none⟩ (.int .i64 (-1)))=W2 at hC2 x2 x3 ⊢
 clear hC1 y2 y3 h1
 refine XL ?_
 refine ZB ?_
 unfold Li
 refine Qqh (Za x2).1 (Za x3).1 ?_
 refine zcr (UU _ m.name) λ w3 e3=>?_
 have e3':Ext W2 w3:=(Ext.refl W2).wdrew.trans e3
 refine ⟨e3,?_⟩
 generalize hr:QW deps strs m=r
 unfold QW at hr
 refine Z1 (YP (hC2.go e3').chk _ 1 K7) (λ w4 e4 h0=>?_) (λ w4 e4 h0=>?_)
 · have e4':=e3'.trans e4
   have hn:YZ m.name=true:=QK K7 h0
   rw [if_pos hn] at hr
   refine ⟨e3.trans e4,?_⟩
   have hC4:=hC2.go e4'
   have x2':=e4'.obj x2
   have x3':=e4'.obj x3
   obtain ⟨dn,mv,ds,mn,fv',h1,h2'⟩:=hC4.obj
   refine ZB ?_
   unfold Lh
   refine Qqb (Za x2').1 (Za x3').1 (Za h1).1 ?_
   have eD4:Ext w4 w4.drew:=(Ext.refl w4).wdrew
   rw [By underlying198 underlying9 ty3 (hC4.mdeps.ext eD4) m.name]
   have hsome:(Yy (vI deps) m.name).isSome=(ZM deps m.name).isSome:=by rw [W3,Option.isSome_map]
   rw [hsome]
   refine Qqg (Za x2').1 ?_
   refine Z1 (YP (hC4.go eD4).chk _ 2 K7) (λ w5 e5 h0=>?_) (λ w5 e5 h0=>?_)
   · have hs:(ZM deps m.name).isSome=false:=by have:=QK K7 h0;simpa using this
     rw [hs,if_neg (by simp)] at hr
     have hC5:=hC4.go (eD4.trans e5)
     have x2'':=(eD4.trans e5).obj x2'
     have x3'':=(eD4.trans e5).obj x3'
     have fin:∀ b,b=decide (1≤m.fields.length∧m.fields.length≤40)→Yb Pg 135 #[Qq4 cb,.bool b,.int .i64 3] (ZI Pg [] [] (ED a0 at_ r K)) w5 (λ _ w=>Bm (Qq4 w0.heap.size) (.pointer (some ⟨w0.heap.size+1,0,none⟩)) [] (ED a0 at_ r K) w):=by
      rintro b rfl
      refine Z1 (YP hC5.chk _ 3 K7) (λ w6 e6 h0=>?_) (λ w6 e6 h0=>?_)
      · have hl:=QK K7 h0
        simp only [decide_eq_true_eq] at hl
        rw [if_pos hl] at hr
        exact S6 hlow (hC5.go e6) w0.heap.size (w0.heap.size+1) fv hF hl.2 K9 K9 (e6.obj x2'') (e6.obj x3'') r hr.symm K hK
      · by_cases hl:1≤m.fields.length∧m.fields.length≤40
        · rw [decide_eq_true hl] at h0;exact absurd rfl h0
        · rw [if_neg hl] at hr
          rw [decide_eq_false hl]
          show ZI _ _ _ _ _ _
          rw [Ul]
          exact JW (hC5.ext.trans e6) hr.symm K7
     obtain ⟨A,c,rfl,hlc,hcm,hlm,YS⟩:=Ze.open hF
     unfold Lg
     by_cases h1l:1≤m.fields.length
     · have d1:decide ((m.fields.length:Int)≥1)=true:=by simp;omega
       by_cases h2l:m.fields.length≤40
       · have d2:decide ((m.fields.length:Int)≤40)=true:=by simp;omega
         refine Qqm (Za x2'').1 (Za x3'').1 d1 d2 ?_
         exact fin _ (by simp [h1l,h2l])
       · have d2:decide ((m.fields.length:Int)≤40)=false:=by simp;omega
         refine Qqm (Za x2'').1 (Za x3'').1 d1 d2 ?_
         exact fin _ (by simp [h2l])
     · have d1:decide ((m.fields.length:Int)≥1)=false:=by simp;omega
       refine Qqb (Za x2'').1 (Za x3'').1 d1 ?_
       exact fin _ (by simp [h1l])
   · have hs:(ZM deps m.name).isSome=true:=by
      cases hq:(ZM deps m.name).isSome with
      | true=>rfl
      | false=>rw [hq] at h0;exact absurd rfl h0
     rw [hs,if_pos rfl] at hr
     rw [hs]
     show ZI _ _ _ _ _ _
     rw [Ul]
     exact JW (hC4.ext.trans (eD4.trans e5)) hr.symm K7
 · have hn:YZ m.name=false:=by
    cases hq:YZ m.name with
    | false=>rfl
    | true=>rw [hq] at h0;exact absurd rfl h0
   rw [hn,if_neg (by simp)] at hr
   rw [hn]
   show ZI _ _ _ _ _ _
   rw [Ul]
   exact JW (hC2.ext.trans (e3'.trans e4)) hr.symm K7
end
def W8 (f:Ye→Int):List Ye→Int
 | []=>0
 | t::ts=>t.factor*f t+W8 f ts
def Qo (rp:List (BAr×Int×Int)) (t:Ye):Int×Int:=(YC rp t.field).getD (0,0)
def AD (rp:List (BAr×Int×Int)) (mix i:Nat) (t:Ye):Int:=if mix / 2 ^ i % 2=1 then (Qo rp t).2 else (Qo rp t).1
def VT (rp:List (BAr×Int×Int)) (mix:Nat):Nat→List Ye→Int
 | _,[]=>0
 | i,t::ts=>t.factor*AD rp mix i t+VT rp mix (i+1) ts
section
variable {rp:List (BAr×Int×Int)}
def Jv (b:Ye→Bool):∀ ts:List Ye,∃ mix:Nat,mix < 2 ^ ts.length∧∀ i r:Nat,r < 2 ^ i→VT rp (mix*2 ^ i+r) i ts=W8 (λ t=>if b t then (Qo rp t).2 else (Qo rp t).1) ts
 | []=>⟨0,by simp,λ i r _=>rfl⟩
 | t::ts=>by
  obtain ⟨mix,h1,h2⟩:=Jv b ts
  refine ⟨mix*2+(if b t then 1 else 0),?_,λ i r hr=>?_⟩
  · rw [List.length_cons,Nat.pow_succ]
    split<;>omega
  · have hd:((mix*2+(if b t then 1 else 0))*2 ^ i+r) / 2 ^ i=mix*2+(if b t then 1 else 0):=by
     rw [Nat.mul_comm _ (2 ^ i),Nat.mul_add_div (Nat.two_pow_pos i),Nat.div_eq_of_lt hr,Nat.add_zero]
    have hm:(mix*2+(if b t then 1 else 0)) % 2=if b t then 1 else 0:=by split<;>omega
    have he:(mix*2+(if b t then 1 else 0))*2 ^ i+r=mix*2 ^ (i+1)+((if b t then 1 else 0)*2 ^ i+r):=by
     rw [Nat.add_mul,Nat.pow_succ,Nat.mul_assoc,Nat.mul_comm 2 (2 ^ i)];omega
    have hr':(if b t then 1 else 0)*2 ^ i+r < 2 ^ (i+1):=by
     rw [Nat.pow_succ];split<;>omega
    simp only [VT,W8]
    have h3:=h2 (i+1) _ hr'
    rw [← he] at h3
    rw [h3]
    unfold AD
    rw [hd,hm]
    cases b t<;>rfl
def ZaQ {ts:List Ye} {f g:Ye→Int} (hf:∀ t∈ts,t.factor*f t≤t.factor*(Qo rp t).1∧t.factor*f t≤t.factor*(Qo rp t).2) (hg:∀ t∈ts,t.factor*(Qo rp t).1≤t.factor*g t∧t.factor*(Qo rp t).2≤t.factor*g t) (mix:Nat):∀ i,W8 f ts≤VT rp mix i ts∧VT rp mix i ts≤W8 g ts:=by
 induction ts with
 | nil=>intro i;exact ⟨Int.le_refl _,Int.le_refl _⟩
 | cons t ts ih=>
  intro i
  have h1:=hf t List.mem_cons_self
  have h2:=hg t List.mem_cons_self
  have h3:=ih (λ t ht=>hf t (List.mem_cons_of_mem _ ht)) (λ t ht=>hg t (List.mem_cons_of_mem _ ht)) (i+1)
  simp only [W8,VT]
  unfold AD
  split<;>omega
def BT {ts:List Ye} {f g:Ye→Int} (h:∀ t∈ts,f t=g t):W8 f ts=W8 g ts:=by
 induction ts with
 | nil=>rfl
 | cons t ts ih=>
  simp only [W8]
  rw [h t List.mem_cons_self,ih (λ t ht=>h t (List.mem_cons_of_mem _ ht))]
def V4 {a b:Int} (h1 : -1048576≤a) (h2:a≤1048576) (h3:0≤b) (h4:b≤34359738368) : -36028797018963968≤a*b∧a*b≤36028797018963968:=by
 have a1:a*b≤1048576*b:=Int.mul_le_mul_of_nonneg_right h2 h3
 have a2 : -1048576*b≤a*b:=Int.mul_le_mul_of_nonneg_right h1 h3
 omega
def xk (rp:List (BAr×Int×Int)) (t:Ye):Prop := -1048576≤t.factor∧t.factor≤1048576∧0≤(Qo rp t).1∧(Qo rp t).1≤(Qo rp t).2∧(Qo rp t).2≤34359738368
def Bp {f:Ye→Int}:∀ (ts:List Ye) (n:Int),(∀ t∈ts,-36028797018963968≤t.factor*f t∧t.factor*f t≤36028797018963968) → -4611686018427387904≤n - ts.length*36028797018963968→n+ts.length*36028797018963968≤4611686018427387904→yM n f ts=n+W8 f ts
 | [],n,_,_,_=>by simp [yM,W8]
 | t::ts,n,h,h1,h2=>by
  have h3:=h t List.mem_cons_self
  simp only [List.length_cons] at h1 h2
  have e1:IntKind.i64.wrap (t.factor*f t)=t.factor*f t:=YF K9 K9
  have e2:IntKind.i64.wrap (n+t.factor*f t)=n+t.factor*f t:=YF K9 K9
  have ih:=Bp (f:=f) ts (n+t.factor*f t) (λ t ht=>h t (List.mem_cons_of_mem _ ht)) K9 K9
  simp only [yM,List.foldl_cons,W8] at ih ⊢
  rw [e1,e2,ih]
  omega
def Jk {t:Ye} (h:(YC rp t.field).isSome=true) (least:Bool):Wb rp least t=if least == decide (t.factor > 0) then (Qo rp t).1 else (Qo rp t).2:=by
 unfold Wb Qo
 obtain ⟨q,hq⟩:=Option.isSome_iff_exists.1 h
 rw [hq]
 rfl
def Zd3 {t:Ye} (h:(YC rp t.field).isSome=true) (hs:xk rp t):t.factor*Wb rp true t≤t.factor*(Qo rp t).1∧t.factor*Wb rp true t≤t.factor*(Qo rp t).2:=by
 rw [Jk h]
 by_cases hp:t.factor > 0
 · have:t.factor*(Qo rp t).1≤t.factor*(Qo rp t).2:=Int.mul_le_mul_of_nonneg_left hs.2.2.2.1 K9
   simp only [hp,decide_true,BEq.rfl,if_true]
   omega
 · have:t.factor*(Qo rp t).2≤t.factor*(Qo rp t).1:=Int.mul_le_mul_of_nonpos_left K9 hs.2.2.2.1
   rw [show (true == decide (t.factor > 0))=false by simp [hp],if_neg K7]
   omega
def Zd2 {t:Ye} (h:(YC rp t.field).isSome=true) (hs:xk rp t):t.factor*(Qo rp t).1≤t.factor*Wb rp false t∧t.factor*(Qo rp t).2≤t.factor*Wb rp false t:=by
 rw [Jk h]
 by_cases hp:t.factor > 0
 · have:t.factor*(Qo rp t).1≤t.factor*(Qo rp t).2:=Int.mul_le_mul_of_nonneg_left hs.2.2.2.1 K9
   rw [show (false == decide (t.factor > 0))=false by simp [hp],if_neg K7]
   omega
 · have:t.factor*(Qo rp t).2≤t.factor*(Qo rp t).1:=Int.mul_le_mul_of_nonpos_left K9 hs.2.2.2.1
   rw [show (false == decide (t.factor > 0))=true by simp [hp],if_pos rfl]
   omega
def O7 {t:Ye} (h:(YC rp t.field).isSome=true) (hs:xk rp t) (least:Bool) : -36028797018963968≤t.factor*Wb rp least t∧t.factor*Wb rp least t≤36028797018963968:=by
 obtain ⟨h1,h2,h3,h4,h5⟩:=hs
 rw [Jk h]
 split
 · exact V4 h1 h2 h3 K9
 · exact V4 h1 h2 K9 h5
def N1 {ts:List Ye} (h:∀ t∈ts,(YC rp t.field).isSome=true∧xk rp t):(∀ mix,W8 (Wb rp true) ts≤VT rp mix 0 ts∧VT rp mix 0 ts≤W8 (Wb rp false) ts)∧(∃ mix,mix < 2 ^ ts.length∧VT rp mix 0 ts=W8 (Wb rp true) ts)∧(∃ mix,mix < 2 ^ ts.length∧VT rp mix 0 ts=W8 (Wb rp false) ts):=by
 refine ⟨λ mix=>ZaQ (λ t ht=>Zd3 (h t ht).1 (h t ht).2) (λ t ht=>Zd2 (h t ht).1 (h t ht).2) mix 0,?_,?_⟩
 · obtain ⟨mix,h1,h2⟩:=Jv (rp:=rp) (λ t=>!(true == decide (t.factor > 0))) ts
   refine ⟨mix,h1,?_⟩
   have:=h2 0 0 K7
   rw [Nat.pow_zero,Nat.mul_one,Nat.add_zero] at this
   rw [this]
   refine BT λ t ht=>?_
   rw [Jk (h t ht).1]
   cases (true == decide (t.factor > 0))<;>rfl
 · obtain ⟨mix,h1,h2⟩:=Jv (rp:=rp) (λ t=>!(false == decide (t.factor > 0))) ts
   refine ⟨mix,h1,?_⟩
   have:=h2 0 0 K7
   rw [Nat.pow_zero,Nat.mul_one,Nat.add_zero] at this
   rw [this]
   refine BT λ t ht=>?_
   rw [Jk (h t ht).1]
   cases (false == decide (t.factor > 0))<;>rfl
end
def ZeL {P:Program} {QP:PEn} {w:Wd} {k:KV} (t:TypeId) (c:Bool) (x:Nat) (yk:IntKind) (y:Nat) (h1:y≤64):opV P (ZP .shr t c (.int .i64 (x:Int)) (.int yk (y:Int))) QP w k=k (.int .i64 ((x / 2 ^ y:Nat):Int)) w:=Yj (by
 have h0:(0:Int)≤(y:Int):=K9
 have h2:(y:Int)≤64:=K9
 have h3:(x:Int).fdiv (2 ^ y)=((x / 2 ^ y:Nat):Int):=by
  rw [Int.fdiv_eq_ediv_of_nonneg _ (by exact Int.le_of_lt (Int.pow_pos K7))]
  simp
 simp [ZP,go_sem,h0,h2,h3])
abbrev BD (p:BAr×Int×Int):List Vl:=[.string p.1,.int .i64 p.2.1,.int .i64 p.2.2]
def ZdP (_:Wd) (cs:List Vl) (p:BAr×Int×Int):Prop:=cs=BD p
def ZaI:jn ZdP:=λ _ _ _ _ _ h=>h
def xj (w:Wd) (v:Vl) (l:List (BAr×Int×Int)):Prop:=Ze w 3 ZdP v l
def xj.ext {w w':Wd} {v:Vl} {l:List (BAr×Int×Int)} (h:xj w v l) (e:Ext w w'):xj w' v l:=Ze.ext ZaI h e
def jL (rp:List (BAr×Int×Int)) (s:BAr) (a:Int):Prop:=(a = -1∧YC rp s=none)∨∃ (j:Nat) (q:Int×Int),a=j∧rp[j]?=some (s,q)∧YC rp s=some q
def za (ps:List (BAr×Int×Int)) (p:BAr×Int×Int) (s:BAr):YC (ps++[p]) s=if p.1=s then some p.2 else YC ps s:=Is ps p s
def jL.step {rp:List (BAr×Int×Int)} {s:BAr} {a:Int} {k:Nat} {p:BAr×Int×Int} (h:jL (rp.take k) s a) (hk:rp[k]?=some p):jL (rp.take (k+1)) s (if p.1=s then (k:Int) else a):=by
 have Ym:=(Qqj hk).1
 by_cases he:p.1=s
 · rw [if_pos he]
   refine .inr ⟨k,p.2,rfl,?_,?_⟩
   · rw [List.getElem?_take,if_pos K9,hk,← he]
   · rw [Yw hk,za,if_pos he]
 · rw [if_neg he]
   rcases h with ⟨h1,h2⟩ | ⟨j,q,h1,h2,h3⟩
   · exact .inl ⟨h1,by rw [Yw hk,za,if_neg he];exact h2⟩
   · refine .inr ⟨j,q,h1,?_,by rw [Yw hk,za,if_neg he];exact h3⟩
     rw [List.getElem?_take] at h2 ⊢
     split at h2
     · rw [if_pos K9];exact h2
     · cases h2
def J4 (w0:Wd) (v:Vl) (rp:List (BAr×Int×Int)) (s:BAr) (hs:xj w0 v rp):Ret Pg 243 #[v,.string s] w0 λ r w'=>(∃ a,r = .int .i64 a∧jL rp s a)∧Ext w0 w':=by
 obtain ⟨A,c,rfl,hlc,hcm,hlm,YS⟩:=Ze.open hs
 refine Zln (R:=ZR _) ?_;unfold n49
 refine YA (λ a0 a1 w=>∃ (k:Nat) (a:Int),a0 = .int .i64 a∧a1 = .int .i64 (k:Int)∧k≤rp.length∧Ext w0 w∧jL (rp.take k) s a) (λ a0 a1 _=>rp.length - (intOf a1).toNat) ⟨0,-1,rfl,rfl,Nat.zero_le _,ee,.inl ⟨rfl,rfl⟩⟩ ?_
 rintro _ _ w ⟨k,a,rfl,rfl,hk,e,hI⟩
 have se:=e.size
 rcases ZH hk with ⟨x,hx,hd,Ym,ZK⟩ | ⟨hk,hd,ZK⟩
 · obtain ⟨b,o,cs,rfl,hl,hA,rfl⟩:=YS k x hx
   have hst:=hI.step hx
   unfold R3
   refine Qqg ZK ?_
   unfold Zcz
   by_cases he:x.1=s
   · rw [if_pos he] at hst
     simp (disch:=try exact DI) only [↓PR,QR,simprocAttr,(hA.c3 e).1,show decide (x.1=s)=true by simp [he]]
     exact ⟨⟨k+1,(k:Int),rfl,rfl,by omega,ee,hst⟩,ZQ (kd := .i64) Ym⟩
   · rw [if_neg he] at hst
     simp (disch:=try exact DI) only [↓PR,QR,simprocAttr,(hA.c3 e).1,show decide (x.1=s)=false by simp [he]]
     exact ⟨⟨k+1,a,rfl,rfl,by omega,ee,hst⟩,ZQ (kd := .i64) Ym⟩
 · subst hk
   rw [List.take_length] at hI
   unfold R3
   refine Qqg ZK ?_
   exact ⟨⟨_,rfl,hI⟩,e⟩
def MX {s:BAr} (h:YZ s=true):s≠ByteArray.empty:=by
 rintro rfl
 exact absurd h K7
def Jh {rp:List (BAr×Int×Int)}:∀ (ts:List Ye) (no:Bool),(∀ t∈ts,t.field≠ByteArray.empty∧(YC rp t.field).isSome=true)→Xt ByteArray.empty (RP rp) HW ts no=if ts.all (λ t=>Vq (Qo rp t).1 (Qo rp t).2) then (if no then 9 else 0) else 2
 | [],no,_=>rfl
 | t::ts,no,h=>by
  obtain ⟨h1,h2⟩:=h t List.mem_cons_self
  have ih:=Jh (rp:=rp) ts no (λ t ht=>h t (List.mem_cons_of_mem _ ht))
  obtain ⟨q,hq⟩:=Option.isSome_iff_exists.1 h2
  have hr:Qo rp t=q:=by unfold Qo;rw [hq];rfl
  simp only [Xt,if_neg h1,Wl,hq,Option.map_some,List.all_cons,hr]
  have hw:HW (YD q.1 q.2)=Vq q.1 q.2:=rfl
  rw [hw]
  cases Vq q.1 q.2 with
  | false=>rfl
  | true=>simpa using ih
def UJ {base:Int} {ts:List Ye} (h:WD base ts=true):WW base=true∧ts.length≤4∧∀ t∈ts,Vo t=true:=by
 unfold WD at h
 simp only [Bool.and_eq_true,decide_eq_true_eq] at h
 refine ⟨h.1.1,h.1.2,λ t ht=>?_⟩
 obtain ⟨k,hk⟩:=List.getElem?_of_mem ht
 have:=(Up ts []).1 h.2 k t hk
 simp only [Bool.or_eq_false_iff,Bool.not_eq_false'] at this
 exact this.2
def FO (base:Int) (ts:List Ye) (rp:List (BAr×Int×Int)):Vl := .tuple #[.int .i64 (Qw base ts rp),.int .i64 (Qv base ts rp),.int .i64 (YW base ts rp)]
def Pv {base:Int} {ts:List Ye} {rp:List (BAr×Int×Int)} (h:YW base ts rp=2):FO base ts rp = .tuple #[.int .i64 0,.int .i64 0,.int .i64 2]:=by
 unfold FO Qw Qv
 rw [h]
 rfl
def ZaE {base:Int} {ts:List Ye} {rp:List (BAr×Int×Int)} (hs:WD base ts=true) (hin:∀ t∈ts,(YC rp t.field).isSome=true) (hw:∀ t∈ts,Vq (Qo rp t).1 (Qo rp t).2=true):(∀ t∈ts,xk rp t)∧FO base ts rp = .tuple #[.int .i64 (base+W8 (Wb rp true) ts),.int .i64 (base+W8 (Wb rp false) ts),.int .i64 0]:=by
 obtain ⟨h1,h2,h3⟩:=UJ hs
 have h4:∀ t∈ts,xk rp t:=λ t ht=>by
  have a:=h3 t ht
  have b:=hw t ht
  unfold Vo WW at a
  unfold Vq at b
  simp only [Bool.and_eq_true,decide_eq_true_eq] at a b
  exact ⟨a.2.1,a.2.2,b.1.1,b.1.2,by omega⟩
 have hb : -1048576≤base∧base≤1048576:=by unfold WW at h1;simpa using h1
 have hE:YW base ts rp=0:=by
  unfold YW
  rw [if_pos hs,Jh ts false (λ t ht=>⟨MX (by have:=h3 t ht;unfold Vo at this;simp only [Bool.and_eq_true] at this;exact this.1.1),hin t ht⟩),if_pos (by rw [List.all_eq_true];exact hw)]
  rfl
 refine ⟨h4,?_⟩
 unfold FO Qw Qv
 rw [hE,if_pos rfl,if_pos rfl,Bp ts base (λ t ht=>O7 (hin t ht) (h4 t ht) true) K9 K9,Bp ts base (λ t ht=>O7 (hin t ht) (h4 t ht) false) K9 K9]
def ZaF {base:Int} {ts:List Ye} {rp:List (BAr×Int×Int)} (hs:WD base ts=true) (hin:∀ t∈ts,(YC rp t.field).isSome=true) {t:Ye} (ht:t∈ts) (hw:Vq (Qo rp t).1 (Qo rp t).2=false):FO base ts rp = .tuple #[.int .i64 0,.int .i64 0,.int .i64 2]:=by
 obtain ⟨h1,h2,h3⟩:=UJ hs
 refine Pv ?_
 unfold YW
 rw [if_pos hs,Jh ts false (λ t ht=>⟨MX (by have:=h3 t ht;unfold Vo at this;simp only [Bool.and_eq_true] at this;exact this.1.1),hin t ht⟩),if_neg (by rw [List.all_eq_true];intro h;rw [h t ht] at hw;cases hw)]
def BI {rp:List (BAr×Int×Int)} {t:Ye} {q:Int×Int} (h:YC rp t.field=some q):Qo rp t=q:=by unfold Qo;rw [h];rfl
def Ce (w0:Wd) (v rv:Vl) (base:Int) (ts:List Ye) (rp:List (BAr×Int×Int)) (hs:Ke w0 v base ts) (hR:xj w0 rv rp) (hin:∀ t∈ts,(YC rp t.field).isSome=true):Ret Pg 202 #[v,rv] w0 λ r w'=>r=FO base ts rp∧Ext w0 w':=by
 obtain ⟨tv,rfl,hT⟩:=hs
 have hS1:=hT
 obtain ⟨A,c,rfl,hlc,hcm,hlm,YS⟩:=Ze.open hT
 obtain ⟨A2,c2,rfl,hlc2,hcm2,hlm2,hel2⟩:=Ze.open hR
 refine Zlo (R:=ZR _) ?_;unfold n50
 refine Qqk ?_
 have Xw:=Z6.new (w:=w0) ([.int .i64 base,.slice A ts.length c]) (120)
 have eW:Ext w0 (w0.alloc (Obj.cells (List.toArray ([.int .i64 base,.slice A ts.length c])) (120))):=(Ext.refl _).alloc _
 generalize (w0.alloc (Obj.cells (List.toArray ([.int .i64 base,.slice A ts.length c])) (120)))=W at Xw eW ⊢
 refine zcr (J5 _ _ base ts ⟨_,rfl,hS1.ext eW⟩) λ w1 e1=>?_
 have E1:=eW.trans e1
 unfold R8
 cases Uq:WD base ts with
 | false=>
  refine Qqk ?_
  refine ⟨?_,E1⟩
  rw [Pv (by unfold YW;rw [Uq];rfl)]
 | true=>
 obtain ⟨hb,h4,hterm⟩:=UJ Uq
 refine Qqk ?_
 refine YA (λ a0 a1 w=>∃ (k:Nat) , a0 = .bool false∧a1 = .int .i64 (k:Int)∧k≤ts.length∧Ext w1 w∧∀ j t,j < k→ts[j]?=some t→Vq (Qo rp t).1 (Qo rp t).2=true) (λ a0 a1 _=>ts.length - (intOf a1).toNat) ⟨0,rfl,rfl,Nat.zero_le _,ee,by intro j x h;omega⟩ ?_
 rintro _ _ w ⟨k,rfl,rfl,hk,e,hI⟩
 have se:=e.size
 rcases ZH hk with ⟨x,hx,hd,Ym,ZK⟩ | ⟨hk,hd,ZK⟩
 · obtain ⟨b,o,cs,rfl,hl,hA,rfl⟩:=YS k x hx
   have E:=E1.trans e
   have f:=e1.trans e
   unfold IW
   simp (disch:=try exact DI) only [↓PR,QR,simprocAttr,Xw.c2,ZK]
   unfold R7
   simp (disch:=try exact DI) only [↓PR,QR,simprocAttr,Xw.c2,(hA.c2 E).1]
   refine Zs (J4 _ _ rp x.field (hR.ext E)) ?_
   rintro _ w2 ⟨⟨a,rfl,ha⟩,e2⟩
   have hxm:=List.mem_of_getElem? hx
   rcases ha with ⟨rfl,hno⟩ | ⟨j,q,rfl,hj,hq⟩
   · have:=hin x hxm
     rw [hno] at this;cases this
   obtain ⟨b',o',cs',rfl,_,hB,rfl⟩:=hel2 j _ hj
   have Ml:(j:Int) < (rp.length:Int):=by have:=(Qqj hj).1;omega
   have E2:=E.trans e2
   have hq':=BI hq
   have d0:decide ((j:Int) < 0)=false:=by simp
   have stop:Vq q.1 q.2=false→(Value.tuple #[.int .i64 0,.int .i64 0,.int .i64 2])=FO base ts rp:=λ h=>(ZaF Uq hin hxm (by rw [hq'];exact h)).symm
   refine Qqg d0 ?_
   refine ZB ?_
   unfold ZcA
   by_cases h1:q.1 < 0
   · have d1:decide (q.1 < 0)=true:=by simpa using h1
     refine Qqb (hB.c3 E2).1 (hB.c3 E2).2 d1 ?_
     unfold Hc
     refine Qqk ?_
     exact ⟨stop (by unfold Vq;simp;omega),ee⟩
   have d1:decide (q.1 < 0)=false:=by simpa using h1
   by_cases h2:q.1 > q.2
   · have d2:decide (q.1 > q.2)=true:=by simpa using h2
     refine Qqm (hB.c3 E2).1 (hB.c3 E2).2 d1 d2 ?_
     unfold Hc
     refine Qqk ?_
     exact ⟨stop (by unfold Vq;simp;omega),ee⟩
   have d2:decide (q.1 > q.2)=false:=by simpa using h2
   by_cases h3:q.2≥34359738368
   · have d3:decide (q.2≥34359738368)=true:=by simpa using h3
     refine QqZ (hB.c3 E2).1 (hB.c3 E2).2 d1 d2 d3 ?_
     unfold Hc
     refine Qqb (hB.c3 E2).1 (hB.c3 E2).2 d3 ?_
     exact ⟨stop (by unfold Vq;simp;omega),ee⟩
   have d3:decide (q.2≥34359738368)=false:=by simpa using h3
   refine QqZ (hB.c3 E2).1 (hB.c3 E2).2 d1 d2 d3 ?_
   unfold Hc
   refine Qqb (hB.c3 E2).1 (hB.c3 E2).2 d3 ?_
   refine ⟨⟨k+1,by first | trivial | rfl,by first | trivial | rfl,by omega,e.trans e2.wdrew,λ i z hi hz=>?_⟩,ZQ (kd := .i64) Ym⟩
   by_cases hij:i=k
   · subst hij;rw [hx] at hz;injection hz with hz;subst hz;rw [hq'];unfold Vq;simp;omega
   · exact hI i z K9 hz
 · subst hk
   have E:=E1.trans e
   have f:=e1.trans e
   obtain ⟨hsm,hiv⟩:=ZaE Uq hin (λ t ht=>by obtain ⟨j,hj⟩:=List.getElem?_of_mem ht;exact hI j t (Qqj hj).1 hj)
   rw [hiv]
   clear hiv hI
   unfold IW
   simp (disch:=try exact DI) only [↓PR,QR,simprocAttr,Xw.c2,ZK]
   unfold R6
   refine Qqk ?_
   obtain ⟨hall,⟨mL,hmL,hvL⟩,⟨mH,hmH,hvH⟩⟩:=N1 (rp:=rp) (ts:=ts) (λ t ht=>⟨hin t ht,hsm t ht⟩)
   have hp16:2 ^ ts.length≤16:=by
    have:(2:Nat) ^ ts.length≤2 ^ 4:=Nat.pow_le_pow_right K7 h4
    exact this
   have hpow:IntKind.i64.wrap (1*2 ^ ((ts.length:Int)).toNat)=((2 ^ ts.length:Nat):Int):=by
    rw [Int.toNat_natCast,Int.one_mul]
    rw [show ((2:Int) ^ ts.length)=((2 ^ ts.length:Nat):Int) by simp]
    exact YF K9 K9
   have VX : -1048576≤base∧base≤1048576:=by unfold WW at hb;simpa using hb
   refine Uy (λ x y i w'=>∃ (lo hi:Int) (mix:Nat),x = .int .i64 lo∧y = .int .i64 hi∧i = .int .i64 mix∧mix≤2 ^ ts.length∧Ext w0 w'∧Ext W w'∧(mix≠0→base+W8 (Wb rp true) ts≤lo∧hi≤base+W8 (Wb rp false) ts)∧∀ j,j < mix→lo≤base+VT rp j 0 ts∧base+VT rp j 0 ts≤hi) (λ _ _ i _=>2 ^ ts.length - (intOf i).toNat) ⟨0,0,0,rfl,rfl,rfl,Nat.zero_le _,E,f,by simp,by intro j h;omega⟩ ?_
   rintro _ _ _ w3 ⟨lo,hi,mix,rfl,rfl,rfl,hmix,E3,f3,hLH,hall3⟩
   unfold R5
   by_cases hm:mix < 2 ^ ts.length
   · have d1:decide ((mix:Int) < ((2 ^ ts.length:Nat):Int))=true:=by simp only [decide_eq_true_eq];exact Int.ofNat_lt.2 hm
     simp (disch:=try exact DI) only [↓PR,QR,simprocAttr,Xw.c2,hpow,d1]
     unfold R4
     simp (disch:=try exact DI) only [↓PR,QR,simprocAttr,Xw.c2]
     have As:∀ (n:Int) (w':Wd),n=base+VT rp mix 0 ts→Ext w3 w'→Sa (.int .i64 lo) (.int .i64 hi) (.int .i64 (mix:Int)) (.int .i64 n) (λ t10 t11 t12 w'=>(∃ (lo hi:Int) (mix:Nat),t10 = .int .i64 lo∧t11 = .int .i64 hi∧t12 = .int .i64 mix∧mix≤2 ^ ts.length∧Ext w0 w'∧Ext W w'∧(mix≠0→base+W8 (Wb rp true) ts≤lo∧hi≤base+W8 (Wb rp false) ts)∧∀ j,j < mix→lo≤base+VT rp j 0 ts∧base+VT rp j 0 ts≤hi)∧2 ^ ts.length - (intOf t12).toNat < 2 ^ ts.length - (intOf (.int .i64 (mix:Int))).toNat) (ZR λ r w'=>r=Value.tuple #[.int .i64 (base+W8 (Wb rp true) ts),.int .i64 (base+W8 (Wb rp false) ts),.int .i64 0]∧Ext w0 w') w':=by
      intro n w' hn e'
      have hv:=hall mix
      have hw:IntKind.i64.wrap ((mix:Int)+1)=((mix+1:Nat):Int):=by rw [YF K9 K9];omega
      have hgo:∀ lo' hi':Int,(base+W8 (Wb rp true) ts≤lo'∧hi'≤base+W8 (Wb rp false) ts)→(lo'≤n∧n≤hi')→(∀ j,j < mix→lo'≤base+VT rp j 0 ts∧base+VT rp j 0 ts≤hi')→(∃ (lo hi:Int) (mix_1:Nat),Value.int .i64 lo' = .int .i64 lo∧Value.int .i64 hi' = .int .i64 hi∧Value.int .i64 ((mix+1:Nat):Int) = .int .i64 mix_1∧mix_1≤2 ^ ts.length∧Ext w0 w'∧Ext W w'∧(mix_1≠0→base+W8 (Wb rp true) ts≤lo∧hi≤base+W8 (Wb rp false) ts)∧∀ j,j < mix_1→lo≤base+VT rp j 0 ts∧base+VT rp j 0 ts≤hi)∧2 ^ ts.length - (intOf (Value.int .i64 ((mix+1:Nat):Int))).toNat < 2 ^ ts.length - (intOf (.int .i64 (mix:Int))).toNat:=by
       intro lo' hi' h1 h2 h3
       refine ⟨⟨lo',hi',mix+1,rfl,rfl,rfl,hm,E3.trans e',f3.trans e',λ _=>h1,λ j hj=>?_⟩,ZQ (kd := .i64) hm⟩
       by_cases hjm:j=mix
       · subst hjm;rw [← hn];exact h2
       · exact h3 j K9
      unfold Sa
      by_cases hz:mix=0
      · subst hz
        refine Qqk ?_
        unfold My
        refine Qqk ?_
        unfold CQ
        refine Qqk ?_
        exact hgo n n K9 K9 (by intro j hj;omega)
      · have d2:((mix:Int) == 0)=false:=by simp;omega
        have hl:=hLH hz
        by_cases hlo:n < lo
        · have d3:decide (n < lo)=true:=by simpa using hlo
          refine Qqh d2 d3 ?_
          unfold My
          by_cases hhi:n > hi
          · have d4:decide (n > hi)=true:=by simpa using hhi
            refine Qqh d2 d4 ?_
            unfold CQ
            refine Qqk ?_
            exact hgo n n K9 K9 (λ j hj=>by have:=hall3 j hj;omega)
          · have d4:decide (n > hi)=false:=by simpa using hhi
            refine Qqh d2 d4 ?_
            unfold CQ
            refine Qqk ?_
            exact hgo n hi K9 K9 (λ j hj=>by have:=hall3 j hj;omega)
        · have d3:decide (n < lo)=false:=by simpa using hlo
          refine Qqh d2 d3 ?_
          unfold My
          by_cases hhi:n > hi
          · have d4:decide (n > hi)=true:=by simpa using hhi
            refine Qqh d2 d4 ?_
            unfold CQ
            refine Qqk ?_
            exact hgo lo n K9 K9 (λ j hj=>by have:=hall3 j hj;omega)
          · have d4:decide (n > hi)=false:=by simpa using hhi
            refine Qqh d2 d4 ?_
            unfold CQ
            refine Qqk ?_
            exact hgo lo hi K9 K9 (λ j hj=>by have:=hall3 j hj;omega)
     refine YA (λ a0 a1 wb=>∃ (kb:Nat) (n:Int),a0 = .int .i64 n∧a1 = .int .i64 (kb:Int)∧kb≤ts.length∧Ext w3 wb∧n+VT rp mix kb (ts.drop kb)=base+VT rp mix 0 ts ∧ -1048576 - kb*36028797018963968≤n∧n≤1048576+kb*36028797018963968) (λ a0 a1 _=>ts.length - (intOf a1).toNat) ⟨0,base,rfl,rfl,Nat.zero_le _,ee,⟨rfl,by omega,by omega⟩⟩ ?_
     rintro _ _ wb ⟨kb,n,rfl,rfl,hkb,eb,hIb⟩
     have seb:=eb.size
     rcases ZH hkb with ⟨xb,hxb,hdb,hltb,Po⟩ | ⟨hkb,hdb,Po⟩
     · obtain ⟨hsum,hn1,hn2⟩:=hIb
       obtain ⟨b,o,cs,rfl,hl,hA,rfl⟩:=YS kb xb hxb
       have Eb:=E3.trans eb
       have fb:=f3.trans eb
       unfold Sb
       simp (disch:=try exact DI) only [↓PR,QR,simprocAttr,Xw.c2,Po]
       unfold ZcC
       simp (disch:=try exact DI) only [↓PR,QR,simprocAttr,Xw.c2,(hA.c2 Eb).1]
       refine Zs (J4 _ _ rp xb.field (hR.ext Eb)) ?_
       rintro _ w5 ⟨⟨a,rfl,ha⟩,e5⟩
       have hxm:=List.mem_of_getElem? hxb
       rcases ha with ⟨rfl,hno⟩ | ⟨j,q,rfl,hj,hq⟩
       · have:=hin xb hxm
         rw [hno] at this;cases this
       obtain ⟨b',o',cs',rfl,_,hB,rfl⟩:=hel2 j _ hj
       have Ml:(j:Int) < (rp.length:Int):=by have:=(Qqj hj).1;omega
       have E5:=Eb.trans e5
       have f5:=fb.trans e5
       have hq':=BI hq
       obtain ⟨s1,s2,s3,s4,s5⟩:=hsm xb hxm
       rw [hq'] at s3 s4 s5
       unfold ZcB
       have hmod:(((mix / 2 ^ kb:Nat):Int)).tmod 2=((mix / 2 ^ kb % 2:Nat):Int):=(Int.ofNat_tmod _ 2).symm
       have Qu:∀ u:Int,u=AD rp mix kb xb→(∃ (kb_1:Nat) (n5:Int),Value.int .i64 (n+xb.factor*u) = .int .i64 n5∧Value.int .i64 ((kb+1:Nat):Int) = .int .i64 kb_1∧kb_1≤ts.length∧n5+VT rp mix kb_1 (ts.drop kb_1)=base+VT rp mix 0 ts ∧ -1048576 - kb_1*36028797018963968≤n5∧n5≤1048576+kb_1*36028797018963968):=by
        intro u hu
        have hmb : -36028797018963968≤xb.factor*u∧xb.factor*u≤36028797018963968:=by
         rw [hu]
         unfold AD
         rw [hq']
         split
         · exact V4 s1 s2 K9 s5
         · exact V4 s1 s2 s3 K9
        refine ⟨kb+1,_,rfl,rfl,hltb,?_,by omega,by omega⟩
        rw [hdb] at hsum
        simp only [VT] at hsum
        rw [hu]
        omega
       refine Qqg (hB.c3 E5) ?_
       rw [ZeL _ _ mix .i64 kb K9]
       have hmul:∀ u:Int,u=AD rp mix kb xb→IntKind.i64.wrap (xb.factor*u)=xb.factor*u∧IntKind.i64.wrap (n+xb.factor*u)=n+xb.factor*u:=by
        intro u hu
        have hmb : -36028797018963968≤xb.factor*u∧xb.factor*u≤36028797018963968:=by
         rw [hu]
         unfold AD
         rw [hq']
         split
         · exact V4 s1 s2 K9 s5
         · exact V4 s1 s2 s3 K9
        exact ⟨YF K9 K9,YF K9 K9⟩
       by_cases hbit:mix / 2 ^ kb % 2=1
       · have f6:Ext W (w5.alloc (Obj.cells #[.string xb.field,.int .i64 q.1,.int .i64 q.2] 266)):=f5.alloc _
         have E6:Ext w0 (w5.alloc (Obj.cells #[.string xb.field,.int .i64 q.1,.int .i64 q.2] 266)):=E5.alloc _
         have hu:q.2=AD rp mix kb xb:=by unfold AD;rw [if_pos hbit,hq']
         have d5:((((mix / 2 ^ kb % 2:Nat)):Int) == 1)=true:=by rw [hbit];rfl
         refine Qqh hmod d5 ?_
         unfold R9
         simp (disch:=try exact DI) only [↓PR,QR,simprocAttr,Xw.c2,(hA.c2 E6).2,(hmul _ hu).1,(hmul _ hu).2]
         obtain ⟨kk,nn,h1,h2,h3,h4,h5,h6⟩:=Qu _ hu
         exact ⟨⟨kk,nn,h1,h2,h3,eb.trans (e5.alloc _),h4,h5,h6⟩,ZQ (kd := .i64) hltb⟩
       · have f6:Ext W (w5.alloc (Obj.cells #[.string xb.field,.int .i64 q.1,.int .i64 q.2] 266)):=f5.alloc _
         have E6:Ext w0 (w5.alloc (Obj.cells #[.string xb.field,.int .i64 q.1,.int .i64 q.2] 266)):=E5.alloc _
         have hu:q.1=AD rp mix kb xb:=by unfold AD;rw [if_neg hbit,hq']
         have d5:((((mix / 2 ^ kb % 2:Nat)):Int) == 1)=false:=by simp only [beq_eq_false_iff_ne,ne_eq];omega
         refine Qqh hmod d5 ?_
         unfold R9
         simp (disch:=try exact DI) only [↓PR,QR,simprocAttr,Xw.c2,(hA.c2 E6).2,(hmul _ hu).1,(hmul _ hu).2]
         obtain ⟨kk,nn,h1,h2,h3,h4,h5,h6⟩:=Qu _ hu
         exact ⟨⟨kk,nn,h1,h2,h3,eb.trans (e5.alloc _),h4,h5,h6⟩,ZQ (kd := .i64) hltb⟩
     · subst hkb
       obtain ⟨hsum,_⟩:=hIb
       have fb:=f3.trans eb
       rw [hdb] at hsum
       simp only [VT] at hsum
       unfold Sb
       simp (disch:=try exact DI) only [↓PR,QR,simprocAttr,Xw.c2,Po]
       exact As n wb K9 eb
   · have hme:mix=2 ^ ts.length:=K9
     have d1:decide ((mix:Int) < ((2 ^ ts.length:Nat):Int))=false:=by simp only [decide_eq_false_iff_not];exact λ h=>hm (Int.ofNat_lt.1 h)
     simp (disch:=try exact DI) only [↓PR,QR,simprocAttr,Xw.c2,hpow,d1]
     have hpos:0 < 2 ^ ts.length:=Nat.two_pow_pos _
     have h1:=hLH K9
     have h2:=hall3 mL K9
     have h3:=hall3 mH K9
     rw [hvL] at h2
     rw [hvH] at h3
     have e1:lo=base+W8 (Wb rp true) ts:=K9
     have e2:hi=base+W8 (Wb rp false) ts:=K9
     subst e1 e2
     exact ⟨rfl,E3⟩
def xc {α:Type} {l:List α} {n k:Nat} {x:α} (h:(l.take n)[k]?=some x):l[k]?=some x:=by
 rw [List.getElem?_take] at h
 split at h
 · exact h
 · cases h
def W5 (w0:Wd) (v:Vl) (d:Xc) (s:BAr) (n:Nat) (hd:YM w0 v d) (hn:n≤d.msgs.length) :
 Ret Pg 115 #[v,.string s,.int .i64 (n:Int)] w0 λ r w'=>r = .int .i64 (idx (λ m=>decide (m.name=s)) (d.msgs.take n))∧Ext w0 w':=by
 obtain ⟨mv,rfl,hM⟩:=hd
 obtain ⟨A,c,rfl,hlc,hcm,hlm,YS⟩:=Ze.open hM
 have YH:(d.msgs.take n).length=n:=by rw [List.length_take];omega
 refine Zlw (R:=ZR _) ?_;unfold n58
 refine Qqk ?_
 generalize hW:World.alloc w0 _=W
 have e0:Ext w0 W:=by rw [← hW];exact ee
 have o3:W.heap[w0.heap.size]?=some (.cells #[.string d.name,.slice A d.msgs.length c,.string d.start] 27 (0,0)):=by rw [← hW];exact Qqy
 clear hW
 refine ZE (λ a0 w=>∃ (k:Nat) , a0 = .int .i64 (k:Int)∧k≤(d.msgs.take n).length∧Ext W w∧∀ (j:Nat) y,j < k→(d.msgs.take n)[j]?=some y→decide (y.name=s)=false) (λ a0 _=>(d.msgs.take n).length - (intOf a0).toNat) ⟨0,rfl,Nat.zero_le _,ee,λ j y h=>by omega⟩ ?_
 rintro _ w ⟨k,rfl,hk,e,hI⟩
 have se:=e.size
 rcases ZH hk with ⟨x,hx,hd,Ym,ZK⟩ | ⟨hk,hd,ZK⟩
 · obtain ⟨b,o,cs,rfl,_,hA,hE⟩:=YS k x (xc hx)
   obtain ⟨fv,rfl,hF⟩:=hE
   rw [YH] at ZK Ym
   have hlt':k < d.msgs.length:=K9
   have e0':=e0.trans e
   simp (disch:=try exact DI) only [↓PR,QR,simprocAttr,↓Sr,ZK,(Za (e.obj o3)).1,hA.c2]
   cases hp:decide (x.name=s) with
   | true=>
    refine Qqk ?_
    exact ⟨by rw [QU hx hp hI],e0'⟩
   | false=>
    refine Qqk ?_
    have Ym:k < (d.msgs.take n).length:=K9
    exact ⟨⟨k+1,rfl,by omega,ee,before_succ hI hx hp⟩,ZQ (kd := .i64) Ym⟩
 · rw [YH] at hk ZK
   subst hk
   simp (disch:=try exact DI) only [↓PR,QR,simprocAttr,↓Sr,ZK]
   exact ⟨by rw [QV λ j y hy=>hI j y (by have:=(Qqj hy).1;omega) hy],e0.trans e⟩
def KA (w0:Wd) (v:Vl) (d:Yh) (s:BAr) (n:Nat) (hd:Qt w0 v d) (hn:n≤d.fields.length) :
 Ret Pg 143 #[v,.string s,.int .i64 (n:Int)] w0 λ r w'=>r = .int .i64 (idx (λ m=>decide (m.name=s)) (d.fields.take n))∧Ext w0 w':=by
 obtain ⟨mv,rfl,hM⟩:=hd
 obtain ⟨A,c,rfl,hlc,hcm,hlm,YS⟩:=Ze.open hM
 have YH:(d.fields.take n).length=n:=by rw [List.length_take];omega
 refine Zlv (R:=ZR _) ?_;unfold n57
 refine Qqk ?_
 generalize hW:World.alloc w0 _=W
 have e0:Ext w0 W:=by rw [← hW];exact ee
 have o3:W.heap[w0.heap.size]?=some (.cells #[.string d.name,.slice A d.fields.length c] 74 (0,0)):=by rw [← hW];exact Qqy
 clear hW
 refine ZE (λ a0 w=>∃ (k:Nat) , a0 = .int .i64 (k:Int)∧k≤(d.fields.take n).length∧Ext W w∧∀ (j:Nat) y,j < k→(d.fields.take n)[j]?=some y→decide (y.name=s)=false) (λ a0 _=>(d.fields.take n).length - (intOf a0).toNat) ⟨0,rfl,Nat.zero_le _,ee,λ j y h=>by omega⟩ ?_
 rintro _ w ⟨k,rfl,hk,e,hI⟩
 have se:=e.size
 rcases ZH hk with ⟨x,hx,hd,Ym,ZK⟩ | ⟨hk,hd,ZK⟩
 · obtain ⟨b,o,cs,rfl,_,hA,hE⟩:=YS k x (xc hx)
   obtain ⟨tv,cv,rfl,hT,hC,ht1,hc1⟩:=hE.op
   rw [YH] at ZK Ym
   have hlt':k < d.fields.length:=K9
   have e0':=e0.trans e
   simp (disch:=try exact DI) only [↓PR,QR,simprocAttr,↓Sq,ZK,(Za (e.obj o3)).1,hA.c15]
   cases hp:decide (x.name=s) with
   | true=>
    refine Qqk ?_
    exact ⟨by rw [QU hx hp hI],e0'⟩
   | false=>
    refine Qqk ?_
    have Ym:k < (d.fields.take n).length:=K9
    exact ⟨⟨k+1,rfl,by omega,ee,before_succ hI hx hp⟩,ZQ (kd := .i64) Ym⟩
 · rw [YH] at hk ZK
   subst hk
   simp (disch:=try exact DI) only [↓PR,QR,simprocAttr,↓Sq,ZK]
   exact ⟨by rw [QV λ j y hy=>hI j y (by have:=(Qqj hy).1;omega) hy],e0.trans e⟩
def ZU (s:BAr) (c:Int):Bool:=s.data.toList.any (λ x=>(x.toNat:Int) == c)
def Tv (w0:Wd) (s:BAr) (c:Int) (hl:s.size≤9223372036854775806):Ret Pg 169 #[.string s,.int .u8 c] w0 λ r w'=>r = .bool (ZU s c)∧w'=w0:=by
 have Uq:s.data.toList.length=s.size:=by rw [Array.length_toList];rfl
 refine ZlE (R:=ZR _) ?_;unfold n66
 refine ZE (λ i w'=>∃ k:Nat,i = .int .i64 k∧k≤s.data.toList.length∧w'=w0∧(s.data.toList.drop k).any (λ x=>(x.toNat:Int) == c)=ZU s c) (λ i _=>s.data.toList.length - (intOf i).toNat) ⟨0,rfl,by omega,rfl,rfl⟩ ?_
 rintro _ w2 ⟨k,rfl,hk,rfl,hI⟩
 unfold ZcY
 rcases ZH hk with ⟨x,hx,hd,Ym,ZK⟩ | ⟨hk,hd,ZK⟩
 · rw [Uq] at ZK
   rw [hd,List.any_cons] at hI
   refine Qqg ZK ?_
   unfold ZcX
   rw [xT underlying9 s .i64 k hx]
   cases hb:((x.toNat:Int) == c) with
   | true=>
    rw [hb] at hI
    refine Qqg hb ?_
    exact ⟨by rw [← hI];rfl,by trivial⟩
   | false=>
    rw [hb] at hI
    refine Qqg hb ?_
    exact ⟨⟨k+1,rfl,Ym,by trivial,by simpa using hI⟩,ZQ (kd := .i64) Ym⟩
 · rw [Uq] at ZK
   rw [hd] at hI
   refine Qqg ZK ?_
   exact ⟨by rw [← hI];rfl,by trivial⟩
def Of (w0:Wd) (lo hi:Int):Ret Pg 171 #[.int .i64 lo,.int .i64 hi] w0 λ r w'=>r = .bool (Vq lo hi)∧Ext w0 w':=by
 refine ZlK (R:=ZR _) ?_;unfold n72
 unfold Vq
 by_cases h1:0≤lo
 · have d1:decide (lo≥0)=true:=by simpa using h1
   by_cases h2:lo≤hi
   · have d2:decide (lo≤hi)=true:=by simpa using h2
     refine Qqh d1 d2 ?_
     unfold MH
     refine Qqk ?_
     exact ⟨by simp [h1,h2],Ext.refl _⟩
   · have d2:decide (lo≤hi)=false:=by simpa using h2
     refine Qqh d1 d2 ?_
     unfold MH
     refine Qqk ?_
     exact ⟨by simp [h2],Ext.refl _⟩
 · have d1:decide (lo≥0)=false:=by simpa using h1
   refine Qqg d1 ?_
   unfold MH
   refine Qqk ?_
   exact ⟨by simp [h1],Ext.refl _⟩
def Zz (k:Int):BAr:=if k=1 then ⟨#[98,108,120,104]⟩ else if k=2 then ⟨#[98,108,120]⟩ else if k=3 then ⟨#[111,120,104]⟩ else if k=4 then ⟨#[115]⟩ else if k=5 then ⟨#[120,104]⟩ else if k=6 then ⟨#[111,104]⟩ else if k=7 then ⟨#[102,115]⟩ else if k=8 then ⟨#[102]⟩ else if k=9 then ⟨#[116,99]⟩ else if k=10 then ⟨#[98]⟩ else if k=11 then ⟨#[114,107]⟩ else if k=12 then ⟨#[102,115,121]⟩ else ByteArray.empty
def Oe (w0:Wd) (k:Int) (h1:1≤k) (h2:k≤12):Ret Pg 168 #[.int .i64 k] w0 λ r w'=>r = .string (Zz k)∧Ext w0 w':=by
 refine ZlJ (R:=ZR _) ?_;unfold n71
 obtain ⟨n,rfl⟩:∃ n:Nat,k=n:=⟨k.toNat,by omega⟩
 have:n=1∨n=2∨n=3∨n=4∨n=5∨n=6∨n=7∨n=8∨n=9∨n=10∨n=11∨n=12:=K9
 have hn:(n:Int) < ((13:Nat):Int):=K9
 have hget:[Value.string ⟨#[]⟩,.string ⟨#[98,108,120,104]⟩,.string ⟨#[98,108,120]⟩,.string ⟨#[111,120,104]⟩,.string ⟨#[115]⟩,.string ⟨#[120,104]⟩,.string ⟨#[111,104]⟩,.string ⟨#[102,115]⟩,.string ⟨#[102]⟩,.string ⟨#[116,99]⟩,.string ⟨#[98]⟩,.string ⟨#[114,107]⟩,.string ⟨#[102,115,121]⟩][n*1]?=some (.string (Zz (n:Int))):=by
  rcases this with rfl | rfl | rfl | rfl | rfl | rfl | rfl | rfl | rfl | rfl | rfl | rfl<;>rfl
 refine Qqg hget ?_
 exact ⟨by first | trivial | rfl,ee⟩
def HB (w0:Wd) (v:Vl) (m:Yh) (s:BAr) (n:Nat) (hm:Qt w0 v m) (hn:n≤m.fields.length):Ret Pg 174 #[v,.string s,.int .i64 (n:Int)] w0 λ r w'=>r = .bool ((m.fields.take n).any (Wr s))∧Ext w0 w':=by
 obtain ⟨fv,rfl,hF⟩:=hm
 obtain ⟨A,c,rfl,hlc,hcm,hlm,YS⟩:=Ze.open hF
 refine ZlI (R:=ZR _) ?_;unfold n70
 refine Qqk ?_
 have Xw:=Z6.new (w:=w0) (ZZ m (.slice A m.fields.length c)) (74)
 have eW:Ext w0 (w0.alloc (Obj.cells (List.toArray (ZZ m (.slice A m.fields.length c))) (74))):=(Ext.refl _).alloc _
 generalize (w0.alloc (Obj.cells (List.toArray (ZZ m (.slice A m.fields.length c))) (74)))=W at Xw eW ⊢
 have YH:(m.fields.take n).length=n:=by rw [List.length_take];omega
 refine ZE (λ i w'=>∃ k:Nat,i = .int .i64 k∧k≤n∧Ext W w'∧∀ j x,j < k→m.fields[j]?=some x→Wr s x=false) (λ i _=>n - (intOf i).toNat) ⟨0,rfl,by omega,Ext.refl _,by intro j x h;omega⟩ ?_
 rintro _ w ⟨k,rfl,hk,e,hI⟩
 have E:=eW.trans e
 by_cases hkn:k < n
 · obtain ⟨x,hx⟩:=getElem?_lt (l:=m.fields) (k:=k) K9
   obtain ⟨b,o,cs,rfl,hl,hA,hE⟩:=YS k x hx
   obtain ⟨tv,cv,rfl,hT,hC,ht1,hc1⟩:=hE.op
   have XC:=hA.c15 E
   have d1:decide ((k:Int) < (n:Int))=true:=by simp;omega
   have hkl:(k:Int) < (m.fields.length:Int):=K9
   have stop:Wr s x=true→(m.fields.take n).any (Wr s)=true:=λ h=>List.any_eq_true.2 ⟨x,List.mem_of_getElem? (i:=k) (by rw [List.getElem?_take,if_pos hkn];exact hx),h⟩
   have next:Wr s x=false→∀ w',Ext W w'→(∃ k_1:Nat,Value.int .i64 ((k+1:Nat):Int) = .int .i64 k_1∧k_1≤n∧Ext W w'∧∀ j x,j < k_1→m.fields[j]?=some x→Wr s x=false)∧n - (intOf (Value.int .i64 ((k+1:Nat):Int))).toNat < n - (intOf (Value.int .i64 (k:Int))).toNat:=by
    intro h w' e'
    refine ⟨⟨k+1,rfl,hkn,e',λ j y hj hy=>?_⟩,ZQ (kd := .i64) hkn⟩
    by_cases hjk:j=k
    · subst hjk;rw [hx] at hy;injection hy with hy;subst hy;exact h
    · exact hI j y K9 hy
   refine Qqg d1 ?_
   unfold Zc7
   cases hk9:(x.kind == 9) with
   | false=>
    simp (disch:=try exact DI) only [↓PR,QR,simprocAttr,Xw.c2,XC,hk9]
    exact next (by unfold Wr;rw [hk9];rfl) _ e
   | true=>
    by_cases hs:x.tag=s
    · simp (disch:=try exact DI) only [↓PR,QR,simprocAttr,Xw.c2,XC,hk9,show decide (x.tag=s)=true by simp [hs]]
      exact ⟨by rw [stop (by unfold Wr;rw [hk9];simp [hs])],E⟩
    · simp (disch:=try exact DI) only [↓PR,QR,simprocAttr,Xw.c2,XC,hk9,show decide (x.tag=s)=false by simp [hs]]
      exact next (by unfold Wr;simp [hs]) _ e
 · have hke:k=n:=K9
   subst hke
   have d1:decide ((k:Int) < (k:Int))=false:=by simp
   refine Qqg d1 ?_
   refine ⟨?_,E⟩
   congr 1
   symm
   rw [List.any_eq_false]
   intro x hx
   obtain ⟨j,hj⟩:=List.getElem?_of_mem hx
   rw [List.getElem?_take] at hj
   split at hj
   · rw [hI j x (by assumption) hj];decide
   · cases hj
def ju (f:Zt):Int:=if XO f then (if f.low < 0∨f.low > (if f.kind=2 then f.low else f.high)∨(if f.kind=2 then f.low else f.high)≥2 ^ f.bits.toNat then 7 else 0) else 6
def S3 {f:Zt} (h:f.kind=1):ju f=orC (Yn (XO f) 6) (Yf (KU f) 0 [f.low,f.high]):=by
 unfold ju KU
 have h2:¬ f.kind=2:=K9
 simp only [if_neg h2]
 clear h h2
 cases XO f with
 | false=>rfl
 | true=>
  have hp:(0:Int) < 2 ^ f.bits.toNat:=Int.pow_pos K7
  generalize (2:Int) ^ f.bits.toNat=q at *
  simp only [Yn,if_true,orC,Yf]
  split<;>simp only [Bool.and_eq_true,decide_eq_true_eq]<;>(repeat' split)<;>first | rfl | omega | (simp only [Bool.and_eq_true,decide_eq_true_eq] at *;omega)
def S4 {f:Zt} (h:f.kind=2):ju f=orC (Yn (XO f) 6) (Yf (KU f) 0 [f.low]):=by
 unfold ju KU
 simp only [if_pos h]
 clear h
 cases XO f with
 | false=>rfl
 | true=>
  have hp:(0:Int) < 2 ^ f.bits.toNat:=Int.pow_pos K7
  generalize (2:Int) ^ f.bits.toNat=q at *
  simp only [Yn,if_true,orC,Yf]
  split<;>simp only [Bool.and_eq_true,decide_eq_true_eq]<;>(repeat' split)<;>first | rfl | omega | (simp only [Bool.and_eq_true,decide_eq_true_eq] at *;omega)
def jh (w0:Wd) (v:Vl) (f:Zt) (hf:Z0 w0 v f):Ret Pg 170 #[v] w0 λ r w'=>r = .int .i64 (ju f)∧Ext w0 w':=by
 obtain ⟨tv,cv,rfl,hT,hC,ht1,hc1⟩:=hf.op
 refine ZlG (R:=ZR _) ?_;unfold n68
 refine Qqk ?_
 have Xw:=Z6.new (w:=w0) (Zq f tv cv) (123)
 have eW:Ext w0 (w0.alloc (Obj.cells (List.toArray (Zq f tv cv)) (123))):=(Ext.refl _).alloc _
 generalize (w0.alloc (Obj.cells (List.toArray (Zq f tv cv)) (123)))=W at Xw eW ⊢
 have XC:=Xw.c15 (Ext.refl W)
 have hbad:XO f=false→Value.int .i64 6 = .int .i64 (ju f):=λ h=>by unfold ju;rw [h];rfl
 by_cases h1:f.bits < 1
 · have d1:decide (f.bits < 1)=true:=by simpa using h1
   simp (disch:=try exact DI) only [↓PR,QR,simprocAttr,XC,d1,↓Bg,↓He,↓Hf,↓qI,↓qJ,↓qK,↓qL,↓qM]
   exact ⟨hbad (by unfold XO;simp;omega),eW⟩
 have d1:decide (f.bits < 1)=false:=by simpa using h1
 by_cases h2:f.bits > 32
 · have d2:decide (f.bits > 32)=true:=by simpa using h2
   simp (disch:=try exact DI) only [↓PR,QR,simprocAttr,XC,d1,d2,↓Bg,↓He,↓Hf,↓qI,↓qJ,↓qK,↓qL,↓qM]
   exact ⟨hbad (by unfold XO;simp;omega),eW⟩
 have d2:decide (f.bits > 32)=false:=by simpa using h2
 have hsh:IntKind.i64.wrap (1*2 ^ f.bits.toNat)=2 ^ f.bits.toNat:=by
  have hle:f.bits.toNat≤32:=K9
  have hq:(2:Nat) ^ f.bits.toNat≤2 ^ 32:=Nat.pow_le_pow_right K7 hle
  have hc:(2:Int) ^ f.bits.toNat=((2 ^ f.bits.toNat:Nat):Int):=by simp
  rw [Int.one_mul,hc]
  generalize (2:Nat) ^ f.bits.toNat=q at *
  have:(2:Nat) ^ 32=4294967296:=rfl
  exact YF K9 K9
 have hrest:XO f=true→Hf (Qq4 w0.heap.size) (ZR λ r w'=>r = .int .i64 (ju f)∧Ext w0 w') W:=by
  intro hb
  have hv:ju f=if f.low < 0∨f.low > (if f.kind=2 then f.low else f.high)∨(if f.kind=2 then f.low else f.high)≥2 ^ f.bits.toNat then 7 else 0:=by unfold ju;rw [if_pos hb]
  rw [hv]
  clear hv
  have tail:∀ top:Int,top=(if f.kind=2 then f.low else f.high)→He (Qq4 w0.heap.size) (.int .i64 top) (ZR λ r w'=>r = .int .i64 (if f.low < 0∨f.low > (if f.kind=2 then f.low else f.high)∨(if f.kind=2 then f.low else f.high)≥2 ^ f.bits.toNat then 7 else 0)∧Ext w0 w') W:=by
   intro top ht
   rw [← ht]
   have h0:(0:Int)≤f.bits:=K9
   have h64:f.bits≤64:=K9
   unfold He
   by_cases a1:f.low < 0
   · simp (disch:=try exact DI) only [↓PR,QR,simprocAttr,XC,show decide (f.low < 0)=true by simpa using a1]
     unfold Bg
     refine Qqk ?_
     exact ⟨by rw [if_pos (.inl a1)],eW⟩
   by_cases a2:f.low > top
   · simp (disch:=try exact DI) only [↓PR,QR,simprocAttr,XC,show decide (f.low < 0)=false by simpa using a1,show decide (f.low > top)=true by simpa using a2]
     unfold Bg
     refine Qqk ?_
     exact ⟨by rw [if_pos (.inr (.inl a2))],eW⟩
   by_cases a3:top≥2 ^ f.bits.toNat
   · simp (disch:=try exact DI) only [↓PR,QR,simprocAttr,XC,show decide (f.low < 0)=false by simpa using a1,show decide (f.low > top)=false by simpa using a2]
     unfold Bg
     simp (disch:=try exact DI) only [↓PR,QR,simprocAttr,XC,hsh,show decide (top≥2 ^ f.bits.toNat)=true by simpa using a3]
     exact ⟨by rw [if_pos (.inr (.inr a3))],eW⟩
   · simp (disch:=try exact DI) only [↓PR,QR,simprocAttr,XC,show decide (f.low < 0)=false by simpa using a1,show decide (f.low > top)=false by simpa using a2]
     unfold Bg
     simp (disch:=try exact DI) only [↓PR,QR,simprocAttr,XC,hsh,show decide (top≥2 ^ f.bits.toNat)=false by simpa using a3]
     exact ⟨by rw [if_neg (by rintro (h | h | h)<;>contradiction)],eW⟩
  unfold Hf
  by_cases hk:f.kind=2
  · simp (disch:=try exact DI) only [↓PR,QR,simprocAttr,XC,show (f.kind == 2)=true by simpa using hk]
    exact tail _ (by rw [if_pos hk])
  · simp (disch:=try exact DI) only [↓PR,QR,simprocAttr,XC,show (f.kind == 2)=false by simpa using hk]
    exact tail _ (by rw [if_neg hk])
 cases hli:f.little with
 | false=>
  simp (disch:=try exact DI) only [↓PR,QR,simprocAttr,XC,hli,d1,d2,↓qM,↓qL,↓qK,↓qJ,↓qI]
  exact hrest (by unfold XO;rw [hli];simp;omega)
 | true=>
  by_cases h16:f.bits=16
  · simp (disch:=try exact DI) only [↓PR,QR,simprocAttr,XC,hli,d1,d2,show (f.bits != 16)=false by simp [h16],↓qM,↓qL,↓qK,↓qJ,↓qI]
    exact hrest (by unfold XO;rw [hli,h16];rfl)
  by_cases h24:f.bits=24
  · simp (disch:=try exact DI) only [↓PR,QR,simprocAttr,XC,hli,d1,d2,show (f.bits != 16)=true by simp [h16],show (f.bits != 24)=false by simp [h24],↓qM,↓qL,↓qK,↓qJ,↓qI]
    exact hrest (by unfold XO;rw [hli,h24];rfl)
  by_cases h32:f.bits=32
  · simp (disch:=try exact DI) only [↓PR,QR,simprocAttr,XC,hli,d1,d2,show (f.bits != 16)=true by simp [h16],show (f.bits != 24)=true by simp [h24],show (f.bits != 32)=false by simp [h32],↓qM,↓qL,↓qK,↓qJ,↓qI]
    exact hrest (by unfold XO;rw [hli,h32];rfl)
  · simp (disch:=try exact DI) only [↓PR,QR,simprocAttr,XC,hli,d1,d2,show (f.bits != 16)=true by simp [h16],show (f.bits != 24)=true by simp [h24],show (f.bits != 32)=true by simp [h32],↓qM,↓qL,↓qK,↓qJ,↓qI]
    refine ⟨hbad ?_,eW⟩
    unfold XO
    rw [hli]
    by_cases h8:8 < f.bits
    · have:f.bits.tmod 8≠0:=by
       rw [Int.tmod_eq_emod_of_nonneg K9];omega
      simp [this]
    · simp [h8]
def Nf (f:Zt):Bool:=
 (ZU (Zz f.kind) 98||!(f.bits != 0))&&((ZU (Zz f.kind) 108||!f.little)&&((ZU (Zz f.kind) 111||!f.loose)&&((ZU (Zz f.kind) 120||!(f.low != 0))&&((ZU (Zz f.kind) 104||!(f.high != 0)) &&
 ((ZU (Zz f.kind) 115||!(f.base != 0||(f.terms.length:Int) != 0))&&((ZU (Zz f.kind) 102||!!decide (f.of=⟨#[]⟩))&&((ZU (Zz f.kind) 116||!!decide (f.tag=⟨#[]⟩))&&((ZU (Zz f.kind) 114||!!decide (f.fr=⟨#[]⟩)) &&
 ((ZU (Zz f.kind) 99||(f.cases.length:Int) == 0)&&((ZU (Zz f.kind) 107||f.check == 0)&&(ZU (Zz f.kind) 121||f.key == 0)))))))))))
def HZ {f:Zt} (h:1≤f.kind∧f.kind≤12):Nf f=decide (Y1 f=Jd f):=by
 have:f.kind=1∨f.kind=2∨f.kind=3∨f.kind=4∨f.kind=5∨f.kind=6∨f.kind=7∨f.kind=8∨f.kind=9∨f.kind=10∨f.kind=11∨f.kind=12:=K9
 have e:(⟨#[]⟩:BAr)=ByteArray.empty:=rfl
 rw [Bool.eq_iff_iff]
 unfold Nf
 rcases this with hk | hk | hk | hk | hk | hk | hk | hk | hk | hk | hk | hk
 all_goals
  simp [Y1,j2,j3,j4,j5,j6,j7,j8,j9,Aa,zW,zX,zY,Jd,hk,Zz,ZU,Zt.mk.injEq,and_assoc,e]
  try omega
def MI b d e (R:RT) w:=
 Zm (λ (a:Vl) (w:Wd)=>
 Zw b a (.bool false) λ f=>
 R (.returned f) w) λ c=>
 Zl b true (
 Zw d (.bool true) e λ a=>
 c a w) (
 c undef w)
def MJ d e b R w:=
 Zm (λ (a:Vl) (w:Wd)=>
 MI e b a R w) λ c=>
 Zl b false (
 F0 123 d 13 R w λ f w=>
 L0 3 f R w λ g w=>
 B0 .eql 3 true g (QqJ 0) R w λ a w=>
 c a w) (
 c undef w)
def MK c d e f R w:=
 Zw e f (.bool false) λ a=>
 Zm (λ (g:Vl) (w:Wd)=>
 MJ c a g R w) λ b=>
 Zl a true (
 C0 169 #[d,(.int .u8 121)] R w λ h w=>
 b h w) (
 b undef w)
def ML c h d e R w:=
 Zm (λ (a:Vl) (w:Wd)=>
 Zm (λ (b:Vl) (w:Wd)=>
 MK c h d b R w) λ f=>
 Zl d true (
 Zw e (.bool true) a λ b=>
 f b w) (
 f undef w)) λ g=>
 Zl e false (
 F0 123 c 12 R w λ i w=>
 L0 3 i R w λ j w=>
 B0 .eql 3 true j (QqJ 0) R w λ a w=>
 g a w) (
 g undef w)
def MM d a e f R w:=
 Zw e (.bool true) f λ b=>
 Zm (λ (g:Vl) (w:Wd)=>
 ML d a b g R w) λ c=>
 Zl b true (
 C0 169 #[a,(.int .u8 107)] R w λ h w=>
 c h w) (
 c undef w)
def MN b e c R w:=
 Zm (λ (a:Vl) (w:Wd)=>
 MM b e c a R w) λ d=>
 Zl c false (
 F0 123 b 11 R w λ f w=>
 L0 121 f R w λ g w=>
 G0 121 3 g R w λ h w=>
 B0 .eql 3 true h (QqJ 0) R w λ a w=>
 d a w) (
 d undef w)
def MO b a c d (R:RT) w:=
 Zw c (.bool true) d λ e=>
 Zo e (
 R (.returned (.bool false)) w) (
 C0 169 #[a,(.int .u8 99)] R w λ f w=>
 MN b a f R w)
def MP c h d e R w:=
 Zm (λ (a:Vl) (w:Wd)=>
 Zm (λ (b:Vl) (w:Wd)=>
 MO c h d b R w) λ f=>
 Zl d false (
 Zw e a (.bool false) λ b=>
 f b w) (
 f undef w)) λ g=>
 Zl e true (
 F0 123 c 10 R w λ i w=>
 L0 9 i R w λ j w=>
 opV Pg (ZP .neq 9 true j (.string { data := #[] })) (Zj R) w λ a w=>
 g a w) (
 g undef w)
def MQ d a e f R w:=
 Zw e (.bool true) f λ b=>
 Zm (λ (g:Vl) (w:Wd)=>
 MP d a b g R w) λ c=>
 Zl b false (
 C0 169 #[a,(.int .u8 114)] R w λ h w=>
 N0 h R w λ i w=>
 c i w) (
 c undef w)
def Eh c h d e R w:=
 Zm (λ (a:Vl) (w:Wd)=>
 Zm (λ (b:Vl) (w:Wd)=>
 MQ c h d b R w) λ f=>
 Zl d false (
 Zw e a (.bool false) λ b=>
 f b w) (
 f undef w)) λ g=>
 Zl e true (
 F0 123 c 9 R w λ i w=>
 L0 9 i R w λ j w=>
 opV Pg (ZP .neq 9 true j (.string { data := #[] })) (Zj R) w λ a w=>
 g a w) (
 g undef w)
def Ei d a e f R w:=
 Zw e (.bool true) f λ b=>
 Zm (λ (g:Vl) (w:Wd)=>
 Eh d a b g R w) λ c=>
 Zl b false (
 C0 169 #[a,(.int .u8 116)] R w λ h w=>
 N0 h R w λ i w=>
 c i w) (
 c undef w)
def Ej c h d e R w:=
 Zm (λ (a:Vl) (w:Wd)=>
 Zm (λ (b:Vl) (w:Wd)=>
 Ei c h d b R w) λ f=>
 Zl d false (
 Zw e a (.bool false) λ b=>
 f b w) (
 f undef w)) λ g=>
 Zl e true (
 F0 123 c 8 R w λ i w=>
 L0 9 i R w λ j w=>
 opV Pg (ZP .neq 9 true j (.string { data := #[] })) (Zj R) w λ a w=>
 g a w) (
 g undef w)
def Ek d a e f R w:=
 Zw e f (.bool false) λ b=>
 Zm (λ (g:Vl) (w:Wd)=>
 Ej d a b g R w) λ c=>
 Zl b false (
 C0 169 #[a,(.int .u8 102)] R w λ h w=>
 N0 h R w λ i w=>
 c i w) (
 c undef w)
def El c h d e R w:=
 Zm (λ (a:Vl) (w:Wd)=>
 Zm (λ (b:Vl) (w:Wd)=>
 Ek c h d b R w) λ f=>
 Zl d true (
 Zw e (.bool true) a λ b=>
 f b w) (
 f undef w)) λ g=>
 Zl e false (
 F0 123 c 7 R w λ i w=>
 F0 120 i 1 R w λ j w=>
 L0 118 j R w λ k w=>
 G0 118 3 k R w λ l w=>
 B0 .neq 3 true l (QqJ 0) R w λ a w=>
 g a w) (
 g undef w)
def Em a d e R w:=
 N0 e R w λ b w=>
 Zm (λ (f:Vl) (w:Wd)=>
 El a d b f R w) λ c=>
 Zl b true (
 F0 123 a 7 R w λ g w=>
 F0 120 g 0 R w λ h w=>
 L0 3 h R w λ i w=>
 B0 .neq 3 true i (QqJ 0) R w λ j w=>
 c j w) (
 c undef w)
def En b a c d (R:RT) w:=
 Zw c (.bool true) d λ e=>
 Zo e (
 R (.returned (.bool false)) w) (
 C0 169 #[a,(.int .u8 115)] R w λ f w=>
 Em b a f R w)
def Eo c h d e R w:=
 Zm (λ (a:Vl) (w:Wd)=>
 Zm (λ (b:Vl) (w:Wd)=>
 En c h d b R w) λ f=>
 Zl d false (
 Zw e a (.bool false) λ b=>
 f b w) (
 f undef w)) λ g=>
 Zl e true (
 F0 123 c 6 R w λ i w=>
 L0 3 i R w λ j w=>
 B0 .neq 3 true j (QqJ 0) R w λ a w=>
 g a w) (
 g undef w)
def Ep d a e f R w:=
 Zw e (.bool true) f λ b=>
 Zm (λ (g:Vl) (w:Wd)=>
 Eo d a b g R w) λ c=>
 Zl b false (
 C0 169 #[a,(.int .u8 104)] R w λ h w=>
 N0 h R w λ i w=>
 c i w) (
 c undef w)
def Er c h d e R w:=
 Zm (λ (a:Vl) (w:Wd)=>
 Zm (λ (b:Vl) (w:Wd)=>
 Ep c h d b R w) λ f=>
 Zl d false (
 Zw e a (.bool false) λ b=>
 f b w) (
 f undef w)) λ g=>
 Zl e true (
 F0 123 c 5 R w λ i w=>
 L0 3 i R w λ j w=>
 B0 .neq 3 true j (QqJ 0) R w λ a w=>
 g a w) (
 g undef w)
def Es d a e f R w:=
 Zw e (.bool true) f λ b=>
 Zm (λ (g:Vl) (w:Wd)=>
 Er d a b g R w) λ c=>
 Zl b false (
 C0 169 #[a,(.int .u8 120)] R w λ h w=>
 N0 h R w λ i w=>
 c i w) (
 c undef w)
def Et c h d e R w:=
 Zm (λ (a:Vl) (w:Wd)=>
 Zm (λ (b:Vl) (w:Wd)=>
 Es c h d b R w) λ f=>
 Zl d false (
 Zw e a (.bool false) λ b=>
 f b w) (
 f undef w)) λ g=>
 Zl e true (
 F0 123 c 4 R w λ i w=>
 L0 4 i R w λ a w=>
 g a w) (
 g undef w)
def Eu d a e f R w:=
 Zw e (.bool true) f λ b=>
 Zm (λ (g:Vl) (w:Wd)=>
 Et d a b g R w) λ c=>
 Zl b false (
 C0 169 #[a,(.int .u8 111)] R w λ h w=>
 N0 h R w λ i w=>
 c i w) (
 c undef w)
def Ev c h d e R w:=
 Zm (λ (a:Vl) (w:Wd)=>
 Zm (λ (b:Vl) (w:Wd)=>
 Eu c h d b R w) λ f=>
 Zl d false (
 Zw e a (.bool false) λ b=>
 f b w) (
 f undef w)) λ g=>
 Zl e true (
 F0 123 c 3 R w λ i w=>
 L0 4 i R w λ a w=>
 g a w) (
 g undef w)
def Ew d a e f R w:=
 Zw e f (.bool false) λ b=>
 Zm (λ (g:Vl) (w:Wd)=>
 Ev d a b g R w) λ c=>
 Zl b false (
 C0 169 #[a,(.int .u8 108)] R w λ h w=>
 N0 h R w λ i w=>
 c i w) (
 c undef w)
def Ex b e f R w:=
 N0 f R w λ c w=>
 Zm (λ (a:Vl) (w:Wd)=>
 Ew b e c a R w) λ d=>
 Zl c true (
 F0 123 b 2 R w λ g w=>
 L0 3 g R w λ h w=>
 B0 .neq 3 true h (QqJ 0) R w λ a w=>
 d a w) (
 d undef w)
def n73 c R w:=
 opV Pg (box 123 c) (Zj R) w λ a w=>
 F0 123 a 1 R w λ d w=>
 L0 117 d R w λ e w=>
 C0 168 #[e] R w λ b w=>
 C0 169 #[b,(.int .u8 98)] R w λ f w=>
 Ex a b f R w
def ZlL:QqQ1 144 n73:=λ h=>by
 refine yD func144 ?_
 refine zs<|zr<|yv h λ h=>zm<|zn<|zk<|zs<|zr<|yv h λ h=>yv h λ h=>yc h ZjX λ h=>zm<|zn<|zk<|zs ?_
 refine zs<|Zr<|yG 4<|zm<|yc h jo λ h=>yv h λ h=>zm<|zn<|yg1 3 3 true [11,12,13] 13 h (λ _ T hT h=>?_) λ σ w h=>?_
 · refine yv h λ h=>yv h λ h=>yb h λ h=>zn ?_
   exact zt hT h
 refine yG 2<|yp h λ h=>zm<|zn<|yg1 4 8 false [16,17,18,19] 19 h (λ _ T hT h=>?_) λ σ w h=>?_
 · refine zm<|yc h jo λ h=>yv h λ h=>zm<|zn ?_
   exact zt hT h
 refine yg1 2 12 true [20,21] 21 h (λ _ T hT h=>?_) λ σ w h=>?_
 · refine yv h λ h=>yv h λ h=>zn ?_
   exact zt hT h
 refine yg1 1 8 false [22] 22 h (λ _ T hT h=>?_) λ σ w h=>?_
 · refine yp h λ h=>zn ?_
   exact zt hT h
 refine yG 2<|yp h λ h=>zm<|zn<|yg1 4 17 false [25,26,27,28] 28 h (λ _ T hT h=>?_) λ σ w h=>?_
 · refine zm<|yc h jo λ h=>yv h λ h=>zm<|zn ?_
   exact zt hT h
 refine yg1 2 21 true [29,30] 30 h (λ _ T hT h=>?_) λ σ w h=>?_
 · refine yv h λ h=>yv h λ h=>zn ?_
   exact zt hT h
 refine yg1 1 17 false [31] 31 h (λ _ T hT h=>?_) λ σ w h=>?_
 · refine yp h λ h=>zn ?_
   exact zt hT h
 refine yG 2<|yp h λ h=>zm<|zn<|yg1 4 26 false [34,35,36,37] 37 h (λ _ T hT h=>?_) λ σ w h=>?_
 · refine zm<|yc h jo λ h=>yv h λ h=>zm<|zn ?_
   exact zt hT h
 refine yg1 3 30 true [38,39,40] 40 h (λ _ T hT h=>?_) λ σ w h=>?_
 · refine yv h λ h=>yv h λ h=>yb h λ h=>zn ?_
   exact zt hT h
 refine yg1 1 26 false [41] 41 h (λ _ T hT h=>?_) λ σ w h=>?_
 · refine yp h λ h=>zn ?_
   exact zt hT h
 refine yG 2<|yp h λ h=>zm<|zn<|yg1 4 36 false [44,45,46,47] 47 h (λ _ T hT h=>?_) λ σ w h=>?_
 · refine zm<|yc h jo λ h=>yv h λ h=>zm<|zn ?_
   exact zt hT h
 refine yg1 3 40 true [48,49,50] 50 h (λ _ T hT h=>?_) λ σ w h=>?_
 · refine yv h λ h=>yv h λ h=>yb h λ h=>zn ?_
   exact zt hT h
 refine yg1 1 36 false [51] 51 h (λ _ T hT h=>?_) λ σ w h=>?_
 · refine yp h λ h=>zn ?_
   exact zt hT h
 refine yG 1<|yp h λ h=>zn<|ZG<|zk<|yC h (λ h=>zs<|zr<|zm<|zn<|zk<|Zh<|Zb<|Zf rfl rfl h) λ h=>Zi<|zk<|zs<|zs<|Zr<|yG 4<|zm<|yc h jo λ h=>?_
 refine yv h λ h=>zm<|zn<|yg1 5 3 true [57,58,59,60,61] 61 h (λ _ T hT h=>?_) λ σ w h=>?_
 · refine yv h λ h=>yv h λ h=>yv h λ h=>yb h λ h=>zm<|zn ?_
   exact zt hT h
 refine yg1 5 8 false [62,63,64,65,66] 66 h (λ _ T hT h=>?_) λ σ w h=>?_
 · refine yv h λ h=>yv h λ h=>yv h λ h=>yx h λ h=>yb h λ h=>zn ?_
   exact zt hT h
 refine yg1 1 3 true [67] 67 h (λ _ T hT h=>?_) λ σ w h=>?_
 · refine yp h λ h=>zn ?_
   exact zt hT h
 refine yG 2<|yp h λ h=>zm<|zn<|yg1 4 16 false [70,71,72,73] 73 h (λ _ T hT h=>?_) λ σ w h=>?_
 · refine zm<|yc h jo λ h=>yv h λ h=>zm<|zn ?_
   exact zt hT h
 refine yg1 3 20 true [74,75,76] 76 h (λ _ T hT h=>?_) λ σ w h=>?_
 · refine yv h λ h=>yv h λ h=>yb h λ h=>zn ?_
   exact zt hT h
 refine yg1 1 16 false [77] 77 h (λ _ T hT h=>?_) λ σ w h=>?_
 · refine yp h λ h=>zn ?_
   exact zt hT h
 refine yG 2<|yp h λ h=>zm<|zn<|yg1 4 26 false [80,81,82,83] 83 h (λ _ T hT h=>?_) λ σ w h=>?_
 · refine zm<|yc h jo λ h=>yv h λ h=>zm<|zn ?_
   exact zt hT h
 refine yg1 3 30 true [84,85,86] 86 h (λ _ T hT h=>?_) λ σ w h=>?_
 · refine yv h λ h=>yv h λ h=>yb h λ h=>zn ?_
   exact zt hT h
 refine yg1 1 26 false [87] 87 h (λ _ T hT h=>?_) λ σ w h=>?_
 · refine yp h λ h=>zn ?_
   exact zt hT h
 refine yG 2<|yp h λ h=>zm<|zn<|yg1 4 36 false [90,91,92,93] 93 h (λ _ T hT h=>?_) λ σ w h=>?_
 · refine zm<|yc h jo λ h=>yv h λ h=>zm<|zn ?_
   exact zt hT h
 refine yg1 3 40 true [94,95,96] 96 h (λ _ T hT h=>?_) λ σ w h=>?_
 · refine yv h λ h=>yv h λ h=>yb h λ h=>zn ?_
   exact zt hT h
 refine yg1 1 36 false [97] 97 h (λ _ T hT h=>?_) λ σ w h=>?_
 · refine yp h λ h=>zn ?_
   exact zt hT h
 refine yG 1<|yp h λ h=>zn<|ZG<|zk<|yC h (λ h=>zs<|zr<|zm<|zn<|zk<|Zh<|Zb<|Zf rfl rfl h) λ h=>Zi<|zk<|zs<|Zr<|yG 3<|zm<|yc h jo λ h=>zm ?_
 refine zn<|yg1 4 2 false [102,103,104,105] 105 h (λ _ T hT h=>?_) λ σ w h=>?_
 · refine yv h λ h=>yv h λ h=>yx h λ h=>yb h λ h=>zn ?_
   exact zt hT h
 refine yG 2<|yp h λ h=>zm<|zn<|yg1 3 8 true [108,109,110] 110 h (λ _ T hT h=>?_) λ σ w h=>?_
 · refine zm<|yc h jo λ h=>zm<|zn ?_
   exact zt hT h
 refine yg1 3 11 false [111,112,113] 113 h (λ _ T hT h=>?_) λ σ w h=>?_
 · refine yv h λ h=>yv h λ h=>yb h λ h=>zn ?_
   exact zt hT h
 refine yg1 1 8 true [114] 114 h (λ _ T hT h=>?_) λ σ w h=>?_
 · refine yp h λ h=>zn ?_
   exact zt hT h
 refine yG 2<|yp h λ h=>zm<|zn<|yg1 3 17 true [117,118,119] 119 h (λ _ T hT h=>?_) λ σ w h=>?_
 · refine zm<|yc h jo λ h=>zm<|zn ?_
   exact zt hT h
 refine yg1 3 20 false [120,121,122] 122 h (λ _ T hT h=>?_) λ σ w h=>?_
 · refine yv h λ h=>yv h λ h=>yb h λ h=>zn ?_
   exact zt hT h
 refine yg1 1 17 true [123] 123 h (λ _ T hT h=>?_) λ σ w h=>?_
 · refine yp h λ h=>zn ?_
   exact zt hT h
 exact yG 2<|yp h λ h=>zm<|zn<|ZG<|zk<|Zh<|Zf rfl rfl h
def HT:ZU (Zz 1) 98=true∧ZU (Zz 1) 108=true∧ZU (Zz 1) 111=false∧ZU (Zz 1) 120=true∧ZU (Zz 1) 104=true∧ZU (Zz 1) 115=false∧ZU (Zz 1) 102=false∧ZU (Zz 1) 116=false∧ZU (Zz 1) 114=false∧ZU (Zz 1) 99=false∧ZU (Zz 1) 107=false∧ZU (Zz 1) 121=false∧ZU (Zz 2) 98=true∧ZU (Zz 2) 108=true∧ZU (Zz 2) 111=false∧ZU (Zz 2) 120=true∧ZU (Zz 2) 104=false∧ZU (Zz 2) 115=false∧ZU (Zz 2) 102=false∧ZU (Zz 2) 116=false∧ZU (Zz 2) 114=false∧ZU (Zz 2) 99=false∧ZU (Zz 2) 107=false∧ZU (Zz 2) 121=false∧ZU (Zz 3) 98=false∧ZU (Zz 3) 108=false∧ZU (Zz 3) 111=true∧ZU (Zz 3) 120=true∧ZU (Zz 3) 104=true∧ZU (Zz 3) 115=false∧ZU (Zz 3) 102=false∧ZU (Zz 3) 116=false∧ZU (Zz 3) 114=false∧ZU (Zz 3) 99=false∧ZU (Zz 3) 107=false∧ZU (Zz 3) 121=false∧ZU (Zz 4) 98=false∧ZU (Zz 4) 108=false∧ZU (Zz 4) 111=false∧ZU (Zz 4) 120=false∧ZU (Zz 4) 104=false∧ZU (Zz 4) 115=true∧ZU (Zz 4) 102=false∧ZU (Zz 4) 116=false∧ZU (Zz 4) 114=false∧ZU (Zz 4) 99=false∧ZU (Zz 4) 107=false∧ZU (Zz 4) 121=false∧ZU (Zz 5) 98=false∧ZU (Zz 5) 108=false∧ZU (Zz 5) 111=false∧ZU (Zz 5) 120=true∧ZU (Zz 5) 104=true∧ZU (Zz 5) 115=false∧ZU (Zz 5) 102=false∧ZU (Zz 5) 116=false∧ZU (Zz 5) 114=false∧ZU (Zz 5) 99=false∧ZU (Zz 5) 107=false∧ZU (Zz 5) 121=false∧ZU (Zz 6) 98=false∧ZU (Zz 6) 108=false∧ZU (Zz 6) 111=true∧ZU (Zz 6) 120=false∧ZU (Zz 6) 104=true∧ZU (Zz 6) 115=false∧ZU (Zz 6) 102=false∧ZU (Zz 6) 116=false∧ZU (Zz 6) 114=false∧ZU (Zz 6) 99=false∧ZU (Zz 6) 107=false∧ZU (Zz 6) 121=false∧ZU (Zz 7) 98=false∧ZU (Zz 7) 108=false∧ZU (Zz 7) 111=false∧ZU (Zz 7) 120=false∧ZU (Zz 7) 104=false∧ZU (Zz 7) 115=true∧ZU (Zz 7) 102=true∧ZU (Zz 7) 116=false∧ZU (Zz 7) 114=false∧ZU (Zz 7) 99=false∧ZU (Zz 7) 107=false∧ZU (Zz 7) 121=false∧ZU (Zz 8) 98=false∧ZU (Zz 8) 108=false∧ZU (Zz 8) 111=false∧ZU (Zz 8) 120=false∧ZU (Zz 8) 104=false∧ZU (Zz 8) 115=false∧ZU (Zz 8) 102=true∧ZU (Zz 8) 116=false∧ZU (Zz 8) 114=false∧ZU (Zz 8) 99=false∧ZU (Zz 8) 107=false∧ZU (Zz 8) 121=false∧ZU (Zz 9) 98=false∧ZU (Zz 9) 108=false∧ZU (Zz 9) 111=false∧ZU (Zz 9) 120=false∧ZU (Zz 9) 104=false∧ZU (Zz 9) 115=false∧ZU (Zz 9) 102=false∧ZU (Zz 9) 116=true∧ZU (Zz 9) 114=false∧ZU (Zz 9) 99=true∧ZU (Zz 9) 107=false∧ZU (Zz 9) 121=false∧ZU (Zz 10) 98=true∧ZU (Zz 10) 108=false∧ZU (Zz 10) 111=false∧ZU (Zz 10) 120=false∧ZU (Zz 10) 104=false∧ZU (Zz 10) 115=false∧ZU (Zz 10) 102=false∧ZU (Zz 10) 116=false∧ZU (Zz 10) 114=false∧ZU (Zz 10) 99=false∧ZU (Zz 10) 107=false∧ZU (Zz 10) 121=false∧ZU (Zz 11) 98=false∧ZU (Zz 11) 108=false∧ZU (Zz 11) 111=false∧ZU (Zz 11) 120=false∧ZU (Zz 11) 104=false∧ZU (Zz 11) 115=false∧ZU (Zz 11) 102=false∧ZU (Zz 11) 116=false∧ZU (Zz 11) 114=true∧ZU (Zz 11) 99=false∧ZU (Zz 11) 107=true∧ZU (Zz 11) 121=false∧ZU (Zz 12) 98=false∧ZU (Zz 12) 108=false∧ZU (Zz 12) 111=false∧ZU (Zz 12) 120=false∧ZU (Zz 12) 104=false∧ZU (Zz 12) 115=true∧ZU (Zz 12) 102=true∧ZU (Zz 12) 116=false∧ZU (Zz 12) 114=false∧ZU (Zz 12) 99=false∧ZU (Zz 12) 107=false∧ZU (Zz 12) 121=true:=by
 repeat' apply And.intro
 all_goals decide
def Og (w0:Wd) (v:Vl) (f:Zt) (hf:Z0 w0 v f) (hk:1≤f.kind∧f.kind≤12):Ret Pg 144 #[v] w0 λ r w'=>r = .bool (Nf f)∧Ext w0 w':=by
 obtain ⟨tv,cv,rfl,hT,hC,_,_⟩:=hf.op
 obtain ⟨At,ct,rfl,_⟩:=Ze.open hT
 obtain ⟨Ac,cc,rfl,_⟩:=Ze.open hC
 refine ZlL (R:=ZR _) ?_;unfold n73
 refine Qqk ?_
 have Xw:=Z6.new (w:=w0) (Zq f (.slice At f.terms.length ct) (.slice Ac f.cases.length cc)) (123)
 have eW:Ext w0 (w0.alloc (Obj.cells (List.toArray (Zq f (.slice At f.terms.length ct) (.slice Ac f.cases.length cc))) (123))):=(Ext.refl _).alloc _
 generalize (w0.alloc (Obj.cells (List.toArray (Zq f (.slice At f.terms.length ct) (.slice Ac f.cases.length cc))) (123)))=W at Xw eW ⊢
 have XC:=Xw.c15 (Ext.refl W)
 refine Qqg XC ?_
 refine zcr (Oe _ f.kind hk.1 hk.2) λ w1 e1=>?_
 have XC:=Xw.c15 e1
 have E:=eW.trans e1
 unfold Nf
 have this:f.kind=1∨f.kind=2∨f.kind=3∨f.kind=4∨f.kind=5∨f.kind=6∨f.kind=7∨f.kind=8∨f.kind=9∨f.kind=10∨f.kind=11∨f.kind=12:=K9
 clear hk hT hC e1 eW Xw
 rcases this with hk | hk | hk | hk | hk | hk | hk | hk | hk | hk | hk | hk
 all_goals
  simp only [hk,HT,Bool.true_or,Bool.false_or,Bool.true_and]
  repeat' first
   | exact ⟨by trivial,by first | trivial | exact E⟩
   | (refine Zs (Tv _ _ _ K7) ?_;rintro _ _ ⟨rfl,rfl⟩;simp (disch:=try exact DI) only [↓PR,QR,simprocAttr,↓MI,↓MJ,↓MK,↓ML,↓MM,↓MN,↓MO,↓MP,↓MQ,↓Eh,↓Ei,↓Ej,↓Ek,↓El,↓Em,↓En,↓Eo,↓Ep,↓Er,↓Es,↓Et,↓Eu,↓Ev,↓Ew,↓Ex,HT, *])
   | (refine VJ (λ _=>?_) (λ _=>?_)<;>simp (disch:=try exact DI) only [↓PR,QR,simprocAttr,↓MI,↓MJ,↓MK,↓ML,↓MM,↓MN,↓MO,↓MP,↓MQ,↓Eh,↓Ei,↓Ej,↓Ek,↓El,↓Em,↓En,↓Eo,↓Ep,↓Er,↓Es,↓Et,↓Eu,↓Ev,↓Ew,↓Ex,HT, *])
   | (refine Wa (λ _=>?_) (λ _=>?_)<;>simp (disch:=try exact DI) only [↓PR,QR,simprocAttr,↓MI,↓MJ,↓MK,↓ML,↓MM,↓MN,↓MO,↓MP,↓MQ,↓Eh,↓Ei,↓Ej,↓Ek,↓El,↓Em,↓En,↓Eo,↓Ep,↓Er,↓Es,↓Et,↓Eu,↓Ev,↓Ew,↓Ex,HT, *])
def jV {α:Type} {t T n m:Nat} {z:Vl} {agg:Bool} {enc:α→List Vl} {v:Vl} {l:List α} {base b:Nat} {w:Wd} {QP:PEn} {k:KV} (ht:Pg.underlying t=some (.slice T)) (hT:ZJ Pg T agg n m z) (hby:m≤4096) (hz:z.cells.size=n) (h0:0 < n) (hn:∀ x,(enc x).length=n) (x:α) (h1:∀ u∈enc x,u.oneCell'=true)
 (Gx:Yc w base T n enc v l) (hc:Z6 w b 0 (enc x)) (VX:base≤w.heap.size) (hl:l.length≤1048576)
 (hk:∀ v' w',Yc w' base T n enc v' (l++[x])→(∀ a,Ext a w→a.heap.size≤base→Ext a w')→k v' w') :
 opV Pg (Builtin.append_ #[t,t] t #[v,.slice (some ⟨b,0,none⟩) 1 1]) QP w k:=by
 refine WV (l':=[x]) ht hT hz h0 hn (λ y hy=>by simp at hy;subst hy;exact h1) Gx (λ j y hy=>?_) VX ?_ (by simp;omega) (λ v' w' ho hg=>hk v' w' ho λ a e ha=>e.grown hg λ k hk=>Nat.le_trans ha ((World.ownsRow.lt Gx k hk).1))
 · cases j with
   | zero=>simp at hy;subst hy;simpa using hc
   | succ j=>simp at hy
 · simp only [List.length_cons,List.length_nil]
   exact Nat.le_trans (Nat.mul_le_mul (Nat.add_le_add_right hl 1) hby) K7
def Yi {P:Program} {QP:PEn} {w:Wd} {k:KV} (T:TypeId) (cs:AVl):opV P (box T (.agg cs)) QP w k=k (Qq4 w.heap.size) (w.alloc (.cells cs T)):=S9 T (.agg cs)
def UC {α:Type} {w:Wd} {n:Nat} {E:Wd→List Vl→α→Prop} {v:Vl} {l:List α} (h:Ze w n E v l) {i:Nat} {x:α} (hi:l[i]?=some x) :
 ∃ b o c,v = .slice (some ⟨b,o,none⟩) l.length c∧l.length≤c∧c≤9223372036854775807∧l.length≤9223372036854775807∧i < l.length∧∀ k x,l[k]?=some x→∃ cs,cs.length=n∧Z6 w b (o+k*n) cs∧E w cs x:=by
 obtain ⟨A,c,h1,h2,h3,h4⟩:=h
 obtain ⟨b,o,rfl,h5⟩:=h4 (by rintro rfl;cases hi)
 exact ⟨b,o,c,h1,h2,h3,by omega,(Qqj hi).1,h5⟩
def OR {α:Type} {p:α→Prop} {l:List α} {k:Nat} {x:α} (h:∀ y∈l.take k,p y) (hx:l[k]?=some x) (hp:p x):∀ y∈l.take (k+1),p y:=by
 rw [Yw hx]
 intro y hy
 rcases List.mem_append.1 hy with hy | hy
 · exact h y hy
 · rw [List.mem_singleton.1 hy];exact hp
def H0 (l:List Zt):Prop:=l.Pairwise λ a b=>a.name≠b.name
def H0.eq {l:List Zt} (h:H0 l) {a b:Zt} (ha:a∈l) (hb:b∈l) (hn:a.name=b.name):a=b:=by
 induction l with
 | nil=>cases ha
 | cons x l ih=>
  obtain ⟨h1,h2⟩:=List.pairwise_cons.1 h
  rcases List.mem_cons.1 ha with ha' | ha'<;>rcases List.mem_cons.1 hb with hb' | hb'
  · rw [ha',hb']
  · subst ha';exact absurd hn (h1 _ hb')
  · subst hb';exact absurd hn.symm (h1 _ ha')
  · exact ih h2 ha' hb'
def G9 {rp:List (BAr×Int×Int)} {s:BAr}:YC rp s=none↔∀ q,(s,q) ∉ rp:=by
 constructor
 · intro h q hq
   unfold YC at h
   rw [Option.map_eq_none_iff,List.find?_eq_none] at h
   exact h (s,q) (List.mem_reverse.2 hq) (by simp)
 · intro h
   cases hl:YC rp s with
   | none=>rfl
   | some q=>exact absurd (V3 hl) (h q)
def AB {l:List Zt} {s:BAr} {q:Int×Int}:(s,q)∈Xo l↔∃ f∈l,Xx f=true∧f.name=s∧q=(f.low,XE f):=by
 unfold Xo
 simp only [List.mem_map,List.mem_filter,Prod.mk.injEq]
 constructor
 · rintro ⟨f,⟨h1,h2⟩,h3,h4⟩;exact ⟨f,h1,h2,h3,by rw [← h4]⟩
 · rintro ⟨f,h1,h2,h3,h4⟩;exact ⟨f,⟨h1,h2⟩,h3,by rw [h4]⟩
def Dg {bef:List Zt} (hd:H0 bef) (s:BAr):(idx (λ g=>decide (g.name=s)) bef = -1∧YC (Xo bef) s=none) ∨
 ∃ (k:Nat) (g:Zt),idx (λ g=>decide (g.name=s)) bef=k∧bef[k]?=some g∧YC (Xo bef) s=if Xx g then some (g.low,XE g) else none:=by
 unfold idx
 cases h:bef.findIdx? (λ g=>decide (g.name=s)) with
 | none=>
  rw [List.findIdx?_eq_none_iff] at h
  refine .inl ⟨rfl,G9.2 λ q hq=>?_⟩
  obtain ⟨f,hf,_,h3,_⟩:=AB.1 hq
  simpa [h3] using h f hf
 | some k=>
  obtain ⟨hk,hp,_⟩:=List.findIdx?_eq_some_iff_getElem.1 h
  refine .inr ⟨k,bef[k],rfl,List.getElem?_eq_getElem hk,?_⟩
  have hg:bef[k]∈bef:=List.getElem_mem hk
  generalize bef[k]=g at hg hp
  simp only [decide_eq_true_eq] at hp
  cases hl:YC (Xo bef) s with
  | none=>
   rw [if_neg]
   intro hn
   exact G9.1 hl _ (AB.2 ⟨g,hg,hn,hp,rfl⟩)
  | some q=>
   obtain ⟨f,hf,h2,h3,h4⟩:=AB.1 (V3 hl)
   have:=hd.eq hf hg (h3.trans hp.symm)
   subst this
   rw [if_pos h2,h4]
def GE {ps ps':List (BAr×Vl)} {but:BAr} {p:Vl→Bool}:∀ (ts:List Ye) (no:Bool),(∀ t∈ts,Yy ps t.field=Yy ps' t.field)→Xt but ps p ts no=Xt but ps' p ts no
 | [],no,_=>rfl
 | t::ts,no,h=>by
  have ih:=λ no=>GE (but:=but) (p:=p) ts no λ t ht=>h t (List.mem_cons_of_mem _ ht)
  simp only [Xt,h t (List.mem_cons_self ..),ih]
def Bo {f g:Ye→Int}:∀ (ts:List Ye) (n:Int),(∀ t∈ts,f t=g t)→yM n f ts=yM n g ts
 | [],n,_=>rfl
 | t::ts,n,h=>by
  have ih:=λ n=>Bo ts n λ t ht=>h t (List.mem_cons_of_mem _ ht)
  unfold yM at *
  simp only [List.foldl_cons,h t (List.mem_cons_self ..),ih]
def Pw {base:Int} {ts:List Ye} {rp rp':List (BAr×Int×Int)} (h:∀ t∈ts,YC rp t.field=YC rp' t.field):YW base ts rp=YW base ts rp'∧Qw base ts rp=Qw base ts rp'∧Qv base ts rp=Qv base ts rp':=by
 have he:YW base ts rp=YW base ts rp':=by
  unfold YW
  rw [GE (ps':=RP rp') ts false λ t ht=>by rw [Wl,Wl,h t ht]]
 have hl:∀ least,yM base (Wb rp least) ts=yM base (Wb rp' least) ts:=λ least=>Bo ts base λ t ht=>by unfold Wb;rw [h t ht]
 unfold Qw Qv
 rw [he,hl,hl]
 exact ⟨rfl,rfl,rfl⟩
def Ge (rp:List (BAr×Int×Int)) (ts:List Ye):List (BAr×Int×Int):=ts.map λ t=>(t.field,Qo rp t)
def BU {rp:List (BAr×Int×Int)} {ts:List Ye} (h:∀ t∈ts,(YC rp t.field).isSome=true) {t:Ye} (ht:t∈ts):YC (Ge rp ts) t.field=YC rp t.field:=by
 have e:∀ t∈ts,YC rp t.field=some (Qo rp t):=λ t ht=>by
  have:=h t ht
  unfold Qo
  cases hl:YC rp t.field with
  | none=>rw [hl] at this;cases this
  | some q=>rfl
 cases hl:YC (Ge rp ts) t.field with
 | none=>exact absurd (List.mem_map.2 ⟨t,ht,rfl⟩) (G9.1 hl (Qo rp t))
 | some q=>
  obtain ⟨u,hu,h2⟩:=List.mem_map.1 (V3 hl)
  injection h2 with h2 h3
  rw [← h3,← e u hu,h2]
def qX {rp:List (BAr×Int×Int)}:∀ {ts:List Ye},(∀ t∈ts,(YC rp t.field).isSome=true)→WI rp ts=0
 | [],_=>rfl
 | t::ts,h=>by
  simp only [WI,h t (List.mem_cons_self ..),qX λ t ht=>h t (List.mem_cons_of_mem _ ht)]
  rfl
def zA {rp:List (BAr×Int×Int)}:∀ {ts:List Ye} {t:Ye},t∈ts→YC rp t.field=none→WI rp ts=8
 | u::ts,t,ht,h=>by
  simp only [WI]
  cases hu:(YC rp u.field).isSome with
  | false=>rfl
  | true=>
   rcases List.mem_cons.1 ht with rfl | ht
   · rw [h] at hu;cases hu
   · rw [zA ht h];rfl
open Go.Shelf
def Gb:Go.Shelf.Ren:=⟨λ | 156=>59 | 165=>98 | 166=>99 | 169=>100 | 240=>130 | 241=>131 | 276=>157 | 277=>158 | n=>n,λ | 31=>94 | 9=>9 | 3=>3 | 4=>4 | 0=>0 | 20=>20 | 72=>159 | 76=>163 | 70=>157 | 37=>40 | 75=>162 | 127=>195 | 164=>220 | 5=>5 | 80=>165 | n=>n,λ | n=>n⟩
def LR:Go.Proofs.Lays.n156 Pg Gb:={
 mixed:=K5
 f156:=func59.trans (congrArg some K5)
 f165:=func98.trans (congrArg some K5)
 f166:=func99.trans (congrArg some K5)
 f169:=func100.trans (congrArg some K5)
 f240:=func130.trans (congrArg some K5)
 f241:=func131.trans (congrArg some K5)
 f276:=func157.trans (congrArg some K5)
 f277:=func158.trans (congrArg some K5)
 t0:=underlying0
 a0:=Tryz.isAgg0
 z0:=Tryz.sizeOf0
 v0:=Tryz.zeroValue0
 t3:=underlying3
 a3:=Tryz.isAgg3
 z3:=Tryz.sizeOf3
 v3:=Tryz.zeroValue3
 t4:=underlying4
 a4:=Tryz.isAgg4
 z4:=Tryz.sizeOf4
 v4:=Tryz.zeroValue4
 t9:=underlying9
 a9:=Tryz.isAgg9
 z9:=Tryz.sizeOf9
 v9:=Tryz.zeroValue9
 t20:=underlying20
 a20:=Tryz.isAgg20
 z20:=Tryz.sizeOf20
 v20:=Tryz.zeroValue20
 t31:=underlying94
 a31:=Tryz.isAgg94
 z31:=Tryz.sizeOf94
 v31:=Tryz.zeroValue94
 t37:=underlying40
 a37:=Tryz.isAgg40
 z37:=Tryz.sizeOf40
 v37:=Tryz.zeroValue40
 t70:=underlying157
 a70:=Tryz.isAgg157
 z70:=Tryz.sizeOf157
 v70:=Tryz.zeroValue157
 t72:=underlying159
 a72:=Tryz.isAgg159
 z72:=Tryz.sizeOf159
 v72:=Tryz.zeroValue159
 t75:=underlying162
 a75:=Tryz.isAgg162
 z75:=Tryz.sizeOf162
 v75:=Tryz.zeroValue162
 t76:=underlying163
 a76:=Tryz.isAgg163
 z76:=Tryz.sizeOf163
 v76:=Tryz.zeroValue163
 t127:=underlying195
 a127:=Tryz.isAgg195
 z127:=Tryz.sizeOf195
 v127:=Tryz.zeroValue195
 t164:=underlying220
 a164:=Tryz.isAgg220
 z164:=Tryz.sizeOf220
 v164:=Tryz.zeroValue220 }
def Ga:Builder.Extra Pg Gb:={
 sizeBuilder:=K5
 liesBuilder:=K5
 t5:=underlying5
 a5:=Tryz.isAgg5
 z5:=Tryz.sizeOf5
 v5:=Tryz.zeroValue5
 infoByte:=K5
 cellsByte:=K5
 sizeByte:=K5
 neB5:=by decide }
open Go.RowKit in
def jx (bk o c:Nat) (xs:List ByteArray) (sep:ByteArray) (w:World) (hcells:∀ (j:Nat) x,xs[j]?=some x→w.cell? ⟨bk,o+j,none⟩=some (.string x)) (hbk:bk < w.heap.size) (hN:xs.length≤140737488355328) (hcap:xs.length≤c) (YH:(Lib.join (xs.map (·.data.toList)) sep.data.toList).length≤140737488355328) :
 Calls Pg 59 #[.slice (some ⟨bk,o,none⟩) xs.length c,.string sep] w λ e w'=>e = .returned (.string ⟨(Lib.join (xs.map (·.data.toList)) sep.data.toList).toArray⟩)∧Below w.heap.size w w':=Any.strings_Join LR Ga bk o c xs sep w hcells hbk hN hcap YH
def BM:Go.Shelf.Ren:=⟨λ | 104=>49 | 211=>86 | 207=>124 | n=>n,λ | 9=>9 | 4=>4 | 24=>65 | 3=>3 | n=>n,λ | n=>n⟩
def LP:Go.Proofs.Lays.n104 Pg BM:={
 mixed:=K5
 f104:=func49.trans (congrArg some K5)
 f207:=func124.trans (congrArg some K5)
 f211:=func86.trans (congrArg some K5)
 t3:=underlying3
 a3:=Tryz.isAgg3
 z3:=Tryz.sizeOf3
 v3:=Tryz.zeroValue3
 t4:=underlying4
 a4:=Tryz.isAgg4
 z4:=Tryz.sizeOf4
 v4:=Tryz.zeroValue4
 t9:=underlying9
 a9:=Tryz.isAgg9
 z9:=Tryz.sizeOf9
 v9:=Tryz.zeroValue9
 t24:=underlying65
 a24:=Tryz.isAgg65
 z24:=Tryz.sizeOf65
 v24:=Tryz.zeroValue65 }
open Go.RowKit in
def Gc (s p:ByteArray) (w:World) (hs:s.size≤9223372036854775807) :
 Calls Pg 49 #[.string s,.string p] w λ e w'=>e = .returned (.tuple #[.string ⟨(Lib.trimSuffix s.data.toList p.data.toList).toArray⟩,.bool (Lib.hasSuffix s.data.toList p.data.toList)])∧w'=w:=Any.strings_CutSuffix LP s p w hs
def BO:Go.Shelf.Ren:=⟨λ | 221=>85 | 268=>121 | 138=>122 | 143=>123 | 195=>148 | 197=>149 | 218=>150 | 219=>151 | 260=>178 | 217=>179 | 225=>180 | 224=>181 | 267=>182 | 266=>203 | 314=>204 | n=>n,λ | 9=>9 | 3=>3 | 31=>94 | 4=>4 | 0=>0 | 105=>215 | 21=>21 | 5=>5 | 46=>197 | 119=>269 | 139=>272 | 138=>271 | 146=>274 | 51=>273 | n=>n,λ | 1=>0 | 3=>1 | 4=>2 | n=>n⟩
def LS:Go.Proofs.Lays.n221 Pg BO:={
 mixed:=K5
 f138:=func122.trans (congrArg some K5)
 f143:=func123.trans (congrArg some K5)
 f195:=func148.trans (congrArg some K5)
 f197:=func149.trans (congrArg some K5)
 f217:=func179.trans (congrArg some K5)
 f218:=func150.trans (congrArg some K5)
 f219:=func151.trans (congrArg some K5)
 f221:=func85.trans (congrArg some K5)
 f224:=func181.trans (congrArg some K5)
 f225:=func180.trans (congrArg some K5)
 f260:=func178.trans (congrArg some K5)
 f266:=func203.trans (congrArg some K5)
 f267:=func182.trans (congrArg some K5)
 f268:=func121.trans (congrArg some K5)
 f314:=func204.trans (congrArg some K5)
 t0:=underlying0
 a0:=Tryz.isAgg0
 z0:=Tryz.sizeOf0
 v0:=Tryz.zeroValue0
 t3:=underlying3
 a3:=Tryz.isAgg3
 z3:=Tryz.sizeOf3
 v3:=Tryz.zeroValue3
 t4:=underlying4
 a4:=Tryz.isAgg4
 z4:=Tryz.sizeOf4
 v4:=Tryz.zeroValue4
 t5:=underlying5
 a5:=Tryz.isAgg5
 z5:=Tryz.sizeOf5
 v5:=Tryz.zeroValue5
 t9:=underlying9
 a9:=Tryz.isAgg9
 z9:=Tryz.sizeOf9
 v9:=Tryz.zeroValue9
 t21:=underlying21
 a21:=Tryz.isAgg21
 z21:=Tryz.sizeOf21
 v21:=Tryz.zeroValue21
 t31:=underlying94
 a31:=Tryz.isAgg94
 z31:=Tryz.sizeOf94
 v31:=Tryz.zeroValue94
 t46:=underlying197
 a46:=Tryz.isAgg197
 z46:=Tryz.sizeOf197
 v46:=Tryz.zeroValue197
 t51:=underlying273
 a51:=Tryz.isAgg273
 z51:=Tryz.sizeOf273
 v51:=Tryz.zeroValue273
 t105:=underlying215
 a105:=Tryz.isAgg215
 z105:=Tryz.sizeOf215
 v105:=Tryz.zeroValue215
 t119:=underlying269
 a119:=Tryz.isAgg269
 z119:=Tryz.sizeOf269
 t138:=underlying271
 a138:=Tryz.isAgg271
 z138:=Tryz.sizeOf271
 v138:=Tryz.zeroValue271
 t139:=underlying272
 a139:=Tryz.isAgg272
 z139:=Tryz.sizeOf272
 v139:=Tryz.zeroValue272
 t146:=underlying274
 a146:=Tryz.isAgg274
 z146:=Tryz.sizeOf274
 v146:=Tryz.zeroValue274
 g1:=K5
 g3:=K5
 g4:=by kernel_rfl }
open Go.RowKit Go.Lib in
def Gz (s sep:ByteArray) (sv:Nat) (n:Int) (N:Nat) (m:Int) (w:World) (hs:s.size < 4294967281) (hm:w.cell? ⟨0,0,none⟩=some (.int .i64 m)) (h1:1≤sep.size) (hsv:sv≤sep.size) (hn0:n≠0) (hn63:n≤9223372036854775807) (hN:(N:Int)=min (if n < 0 then (Lib.countB s sep:Int)+1 else n) ((s.size:Int)+1)) :
 Calls Pg 85 #[.string s,.string sep,.int .i64 sv,.int .i64 n] w λ e w'=>
  e = .returned (.slice (some ⟨w.heap.size,0,none⟩) (Lib.splitB sep sv (N - 1) s).length N)∧w'=w.alloc (.cells (Lib.cellsOf (Lib.splitB sep sv (N - 1) s) N) 9):=Any.strings_genSplit LS K5 s sep sv n N m w hs hm h1 hsv hn0 hn63 hN
def BN:Go.Shelf.Ren:=⟨λ | 146=>50 | 221=>85 | 268=>121 | 138=>122 | 143=>123 | 195=>148 | 197=>149 | 218=>150 | 219=>151 | 260=>178 | 217=>179 | 225=>180 | 224=>181 | 267=>182 | 266=>203 | 314=>204 | n=>n,λ | 9=>9 | 31=>94 | 3=>3 | 4=>4 | 0=>0 | 105=>215 | 21=>21 | 5=>5 | 46=>197 | 119=>269 | 139=>272 | 138=>271 | 146=>274 | 51=>273 | n=>n,λ | 1=>0 | 3=>1 | 4=>2 | n=>n⟩
def LQ:Go.Proofs.Lays.n146 Pg BN:={
 mixed:=K5
 f138:=func122.trans (congrArg some K5)
 f143:=func123.trans (congrArg some K5)
 f146:=func50.trans (congrArg some K5)
 f195:=func148.trans (congrArg some K5)
 f197:=func149.trans (congrArg some K5)
 f217:=func179.trans (congrArg some K5)
 f218:=func150.trans (congrArg some K5)
 f219:=func151.trans (congrArg some K5)
 f221:=func85.trans (congrArg some K5)
 f224:=func181.trans (congrArg some K5)
 f225:=func180.trans (congrArg some K5)
 f260:=func178.trans (congrArg some K5)
 f266:=func203.trans (congrArg some K5)
 f267:=func182.trans (congrArg some K5)
 f268:=func121.trans (congrArg some K5)
 f314:=func204.trans (congrArg some K5)
 t0:=underlying0
 a0:=Tryz.isAgg0
 z0:=Tryz.sizeOf0
 v0:=Tryz.zeroValue0
 t3:=underlying3
 a3:=Tryz.isAgg3
 z3:=Tryz.sizeOf3
 v3:=Tryz.zeroValue3
 t4:=underlying4
 a4:=Tryz.isAgg4
 z4:=Tryz.sizeOf4
 v4:=Tryz.zeroValue4
 t5:=underlying5
 a5:=Tryz.isAgg5
 z5:=Tryz.sizeOf5
 v5:=Tryz.zeroValue5
 t9:=underlying9
 a9:=Tryz.isAgg9
 z9:=Tryz.sizeOf9
 v9:=Tryz.zeroValue9
 t21:=underlying21
 a21:=Tryz.isAgg21
 z21:=Tryz.sizeOf21
 v21:=Tryz.zeroValue21
 t31:=underlying94
 a31:=Tryz.isAgg94
 z31:=Tryz.sizeOf94
 v31:=Tryz.zeroValue94
 t46:=underlying197
 a46:=Tryz.isAgg197
 z46:=Tryz.sizeOf197
 v46:=Tryz.zeroValue197
 t51:=underlying273
 a51:=Tryz.isAgg273
 z51:=Tryz.sizeOf273
 v51:=Tryz.zeroValue273
 t105:=underlying215
 a105:=Tryz.isAgg215
 z105:=Tryz.sizeOf215
 v105:=Tryz.zeroValue215
 t119:=underlying269
 a119:=Tryz.isAgg269
 z119:=Tryz.sizeOf269
 t138:=underlying271
 a138:=Tryz.isAgg271
 z138:=Tryz.sizeOf271
 v138:=Tryz.zeroValue271
 t139:=underlying272
 a139:=Tryz.isAgg272
 z139:=Tryz.sizeOf272
 v139:=Tryz.zeroValue272
 t146:=underlying274
 a146:=Tryz.isAgg274
 z146:=Tryz.sizeOf274
 v146:=Tryz.zeroValue274
 g1:=K5
 g3:=K5
 g4:=by kernel_rfl }
open Go.RowKit Go.Lib in
def x8 (s sep:ByteArray) (m:Int) (w:World) (hs:s.size < 4294967281) (hm:w.cell? ⟨0,0,none⟩=some (.int .i64 m)) (h1:1≤sep.size) :
 Calls Pg 50 #[.string s,.string sep] w λ e w'=>
  e = .returned (.slice (some ⟨w.heap.size,0,none⟩) (Lib.countB s sep+1) (Lib.countB s sep+1))∧w'=w.alloc (.cells ((Lib.splitB sep 0 (Lib.countB s sep) s).map Value.string).toArray 9):=Any.strings_Split LQ K5 s sep m w hs hm h1
def yg (sep:BAr) (xs:List BAr):BAr:=⟨(Go.Lib.join (xs.map (·.data.toList)) sep.data.toList).toArray⟩
def KG (w:Wd):Prop:=Go.Lib.TabIs Pg w "internal/strconv.uint64pow10" .u64 Go.Lib.pow10Tab
def ZfJ:(Pg.globalNamed "internal/strconv.uint64pow10").isSome=true:=K5
def KG.lt {w:Wd} (h:KG w) {g:Nat} (hg:Pg.globalNamed "internal/strconv.uint64pow10" = some g):g < w.heap.size:=by
 unfold KG Go.Lib.TabIs World.var? at h
 rw [hg] at h
 simp only [Option.bind_some] at h
 rcases Nat.lt_or_ge g w.heap.size with h' | h'
 · exact h'
 · rw [Array.getElem?_eq_none h'] at h;cases h
def KG.same {w w':Wd} (h:KG w) (hb:∀ g,Pg.globalNamed "internal/strconv.uint64pow10" = some g→w'.heap[g]?=w.heap[g]?):KG w':=by
 obtain ⟨g,hg⟩:=Option.isSome_iff_exists.1 ZfJ
 have:=hb g hg
 unfold KG Go.Lib.TabIs World.var? at h ⊢
 rw [hg] at h ⊢
 simp only [Option.bind_some] at h ⊢
 rw [this]
 exact h
def KG.ext {w w':Wd} (h:KG w) (e:Ext w w'):KG w':=h.same λ g hg=>e.block g (h.lt hg)
def Fm {w:Wd} {base:Nat} {v:Vl} {l:List BAr} (h:QZ w base v l) (sep:BAr) (hl:0 < l.length) (hn:l.length≤100000) (hz:(yg sep l).size≤1000000000):Ret Pg 59 #[v,.string sep] w λ r w'=>r = .string (yg sep l)∧Ext w w':=by
 obtain ⟨g,cap,rfl,_,hg,_,_,hE⟩:=h.row (λ _=>rfl) hl
 obtain ⟨A,c,hv,hlc,_⟩:=Ze.open (h.slice (E:=KN) (λ _=>rfl) (λ _ _=>rfl))
 injection hv with _ _ hv
 subst hv
 have hzz:(Go.Lib.join (l.map (·.data.toList)) sep.data.toList).length≤140737488355328:=by
  unfold yg ByteArray.size at hz
  simp only [List.size_toArray] at hz
  omega
 refine Calls.mono (jx g 0 cap l sep w (λ j x hx=>?_) hg K9 hlc hzz) ?_
 · have:=hE j x hx 0 _ rfl
   rw [Nat.zero_add]
   simpa using this
 · rintro e w' ⟨rfl,hb⟩
   exact ⟨_,rfl,rfl,Ext.of_below hb⟩
structure qi (w:Wd):Prop where
 tab:KG w
 len:∃ m,w.cell? ⟨0,0,none⟩=some (.int .i64 m)
 syn:∃ ev,w.cell? ⟨3,0,none⟩=some ev∧(ev = .nilIface∨∃ te pe,ev = .iface te pe)
 rng:∃ ev,w.cell? ⟨4,0,none⟩=some ev∧(ev = .nilIface∨∃ te pe,ev = .iface te pe)
def qi.ext {w w':Wd} (h:qi w) (e:Ext w w'):qi w':=⟨h.tab.ext e,h.len.imp λ _ h=>e.cell h,h.syn.imp λ _ h=>⟨e.cell h.1,h.2⟩,h.rng.imp λ _ h=>⟨e.cell h.1,h.2⟩⟩
def Zbe {w:Wd} {b n c:Nat} {l:List BAr} (hn:n=l.length) (h1:l.length≤c) (h2:c≤9223372036854775807) (hc:∀ k x,l[k]?=some x→w.cell? ⟨b,k,none⟩=some (.string x)):Ze w 1 KN (.slice (some ⟨b,0,none⟩) n c) l:=by
 subst hn
 refine ⟨_,_,rfl,h1,h2,λ _=>⟨_,_,rfl,λ k x hx=>⟨[.string x],rfl,λ j v hv=>?_,rfl⟩⟩⟩
 cases j with
 | zero=>injection hv with hv;subst hv;simpa using hc k x hx
 | succ j=>cases hv
def Nk {w:Wd} (hE:qi w) (s:BAr) (c:UInt8) (hs:s.size≤100000):Ret Pg 50 #[.string s,.string ⟨#[c]⟩] w λ r w'=>Ext w w'∧∃ n,r = .slice (some ⟨w.heap.size,0,none⟩) n n∧Ze w' 1 KN r (Go.Lib.splitB ⟨#[c]⟩ 0 (Go.Lib.countB s ⟨#[c]⟩) s):=by
 obtain ⟨m,hm⟩:=hE.len
 have hl:=Go.Lib.splitB_all ⟨#[c]⟩ (Nat.le_refl _) 0 _ s rfl
 have hle:=Go.Lib.countB_le ⟨#[c]⟩ (Nat.le_refl _) s.size s (Nat.le_refl _)
 refine Calls.mono (x8 s ⟨#[c]⟩ m w K9 hm (Nat.le_refl _)) ?_
 rintro e w' ⟨rfl,rfl⟩
 refine ⟨_,rfl,(Ext.refl w).alloc _,_,rfl,?_⟩
 refine Zbe hl.symm K9 K9 λ k x hx=>?_
 generalize Go.Lib.splitB ⟨#[c]⟩ 0 (Go.Lib.countB s ⟨#[c]⟩) s=L at hx ⊢
 rw [Vd,List.getElem?_toArray,List.getElem?_map,hx]
 rfl
def Ox (l:List UInt8):(ByteArray.mk l.toArray).data.toList=l:=rfl
def QE (c:UInt8):List UInt8→List (List UInt8)
 | []=>[[]]
 | b::l=>if b=c then []::QE c l else match QE c l with
  | []=>[[b]]
  | x::r=>(b::x)::r
def DP (c:UInt8):∀ l,QE c l≠[]
 | []=>by simp [QE]
 | b::l=>by
  unfold QE
  split
  · simp
  · cases QE c l<;>simp
def Cz (c:UInt8) (l:List UInt8):QE c (c::l)=[]::QE c l:=by rw [QE,if_pos rfl]
def Ki {c b:UInt8} (h:b≠c) {l x:List UInt8} {r:List (List UInt8)} (hl:QE c l=x::r):QE c (b::l)=(b::x)::r:=by rw [QE,if_neg h,hl]
def FN {b c:UInt8} (l:List UInt8) (h:b≠c):Go.Lib.index (b::l) [c]=if Go.Lib.index l [c] == -1 then -1 else Go.Lib.index l [c]+1:=by
 have hp:([c]:List UInt8).isPrefixOf (b::l)=false:=by simp [List.isPrefixOf,Ne.symm h]
 rw [Go.Lib.index,hp];simp
def FM (c:UInt8) (l:List UInt8):Go.Lib.index (c::l) [c]=0:=by
 rw [Go.Lib.index];simp [List.isPrefixOf]
def BR (c:UInt8):∀ s:List UInt8,Go.Lib.splitK [c] 0 (Go.Lib.count s [c]) s=QE c s
 | []=>by rw [Go.Lib.count_one];rfl
 | b::l=>by
  have ih:=BR c l
  by_cases h:b=c
  · subst h
    rw [Go.Lib.count_cons_eq,Nat.add_comm,Go.Lib.splitK,FM,if_neg K7,Cz,← ih]
    rfl
  · rw [Go.Lib.count_cons_ne b c l h]
    cases hk:Go.Lib.count l [c] with
    | zero=>
     rw [hk] at ih
     exact (Ki h ih.symm).symm
    | succ k=>
     rw [hk] at ih
     have hge:=Go.Lib.index_ge l [c]
     have hm:Go.Lib.index l [c] ≠ -1:=λ e=>by rw [Go.Lib.count_miss e] at hk;cases hk
     obtain ⟨i,hi⟩:∃ i:Nat,Go.Lib.index l [c]=i:=⟨(Go.Lib.index l [c]).toNat,by omega⟩
     have n1:¬ (((i:Int) == -1)=true):=λ e=>by have:=beq_iff_eq.1 e;omega
     have n2:¬ ((((i:Int)+1) == -1)=true):=λ e=>by have:=beq_iff_eq.1 e;omega
     have t2:((i:Int)+1).toNat=i+1:=K9
     rw [Go.Lib.splitK,hi,if_neg n1] at ih
     rw [Go.Lib.splitK,FN l h,hi,if_neg n1,if_neg n2,t2]
     refine Eq.trans ?_ (Ki h ih.symm).symm
     simp only [Int.toNat_natCast,List.length_singleton,Nat.add_zero,List.take_succ_cons]
     rfl
def mkB (l:List UInt8):BAr:=⟨l.toArray⟩
def ZdX (c:UInt8) (s:BAr):List BAr:=(QE c s.data.toList).map mkB
def Ot (c:UInt8) (s:BAr):Go.Lib.splitB ⟨#[c]⟩ 0 (Go.Lib.countB s ⟨#[c]⟩) s=ZdX c s:=by
 have h:=Go.Lib.splitB_data ⟨#[c]⟩ 0 (Go.Lib.countB s ⟨#[c]⟩) s
 have hs:Go.Lib.splitK [c] 0 (Go.Lib.countB s ⟨#[c]⟩) s.data.toList=QE c s.data.toList:=BR c s.data.toList
 have h:(Go.Lib.splitB ⟨#[c]⟩ 0 (Go.Lib.countB s ⟨#[c]⟩) s).map (·.data.toList)=QE c s.data.toList:=h.trans hs
 unfold ZdX
 rw [← h,List.map_map]
 have:(mkB ∘ λ x:BAr=>x.data.toList)=id:=by funext x;rfl
 rw [this,List.map_id]
def ZfK (n:Nat):UInt8:=UInt8.ofNat (if n < 10 then 48+n else 87+n)
def ZkJ (l:List UInt8):List UInt8:=l.flatMap λ c=>[ZfK (c.toNat / 16),ZfK (c.toNat % 16)]
def Zd1:BAr:=⟨#[101,110,100]⟩
def kwW (k:Int):List UInt8:=if k=1 then [99,111,112,121] else if k=2 then [97,100,100] else if k=3 then [118,97,108,117,101] else if k=4 then [98,121,116,101,115] else if k=6 then [110,101,115,116,101,100] else if k=7 then [102,105,116] else [116,97,98,108,101]
def Zas (l:List UInt8):List UInt8:=if l=[] then [45] else ZkJ l
def Zn5 (x:UL):List UInt8:=Go.Lib.itoa x.low++45::(Go.Lib.itoa x.high++58::Go.Lib.itoa x.to)
def TR (r:FrD):List (List UInt8):=if r.kind=1 then [r.fr.data.toList] else if r.kind=2 then [r.fr.data.toList,Go.Lib.itoa r.add] else if r.kind=3 then [Go.Lib.itoa r.value] else if r.kind=4 then [Zas r.bytes] else if r.kind=6 then [r.fr.data.toList] else if r.kind=7 then [] else r.fr.data.toList::r.table.map Zn5
def Fi (r:FrD):List (List UInt8):=r.to.data.toList::kwW r.kind::TR r
def ZfP (r:FrD):List UInt8:=Go.Lib.join (Fi r) [32]
def J1 (r:FrD):Bool:=match WE r.kind with
 | none=>false
 | some u=>Jj r u&&(YZ r.to&&(decide (r.to≠Zd1)&&(!u.fr||YZ r.fr)))
def zG (n:Int):Bool:=decide (-9223372036854775808≤n)&&decide (n≤9223372036854775807)
def Mm (x:UL):Bool:=zG x.low&&(zG x.high&&zG x.to)
def inF (r:FrD):Bool:=zG r.add&&(zG r.value&&r.table.all Mm)
def okF (r:FrD):Bool:=J1 r&&inF r
noncomputable def Zbs (s:List UInt8):Option FrD:=open Classical in if h:∃ r,okF r=true∧ZfP r=s then some (Classical.choose h) else none
def Zdp c d b (a:WPr) (Xf:KV) (R:RT) w:=
 J0 43 c 6 a λ e=>
 I0 41 e a λ f=>
 M0 41 f b a λ g=>
 I0 78 g a λ h=>
 J0 43 d 6 a λ i=>
 I0 41 i a λ j=>
 M0 41 j b a λ k=>
 I0 78 k a λ l=>
 qV Pg a (ZP .neq 78 false h l) λ m=>
 Zo m (
 R (.returned (.bool false)) w) (
 B0 .add 3 true b (QqJ 1) R w λ n w=>
 Xf n w)
def Zdq a c b (Xf:KV) R w:=
 F0 43 a 6 R w λ d w=>
 L0 41 d R w λ e w=>
 G0 41 3 e R w λ f w=>
 B0 .lss 3 false b f R w λ g w=>
 Zo g (
 Yg w λ h w=>
 Zdp a c b h Xf R w) (
 R (.returned (.bool true)) w)
def Zdr b c f g (R:RT) w:=
 Zw f (.bool true) g λ d=>
 Zm (λ (a:Vl) (w:Wd)=>
 Zw d (.bool true) a λ h=>
 Zo h (
 R (.returned (.bool false)) w) (
 Yz (λ i w Xf=>
 Zdq b c i Xf R w) (QqJ 0) w)) λ e=>
 Zl d false (
 F0 43 b 6 R w λ j w=>
 L0 41 j R w λ k w=>
 G0 41 3 k R w λ l w=>
 F0 43 c 6 R w λ m w=>
 L0 41 m R w λ n w=>
 G0 41 3 n R w λ o w=>
 B0 .neq 3 false l o R w λ a w=>
 e a w) (
 e undef w)
def Zds b c f g R w:=
 Zw f (.bool true) g λ d=>
 Zm (λ (a:Vl) (w:Wd)=>
 Zdr b c d a R w) λ e=>
 Zl d false (
 F0 43 b 5 R w λ h w=>
 L0 40 h R w λ i w=>
 opV Pg (Go.convert 40 9 i) (Zj R) w λ j w=>
 F0 43 c 5 R w λ k w=>
 L0 40 k R w λ l w=>
 opV Pg (Go.convert 40 9 l) (Zj R) w λ m w=>
 B0 .neq 9 false j m R w λ a w=>
 e a w) (
 e undef w)
def Zdt b c f g R w:=
 Zw f (.bool true) g λ d=>
 Zm (λ (a:Vl) (w:Wd)=>
 Zds b c d a R w) λ e=>
 Zl d false (
 F0 43 b 4 R w λ h w=>
 L0 3 h R w λ i w=>
 F0 43 c 4 R w λ j w=>
 L0 3 j R w λ k w=>
 B0 .neq 3 false i k R w λ a w=>
 e a w) (
 e undef w)
def Zdu b c f g R w:=
 Zw f (.bool true) g λ d=>
 Zm (λ (a:Vl) (w:Wd)=>
 Zdt b c d a R w) λ e=>
 Zl d false (
 F0 43 b 3 R w λ h w=>
 L0 3 h R w λ i w=>
 F0 43 c 3 R w λ j w=>
 L0 3 j R w λ k w=>
 B0 .neq 3 false i k R w λ a w=>
 e a w) (
 e undef w)
def Zdv b c f g R w:=
 Zw f (.bool true) g λ d=>
 Zm (λ (a:Vl) (w:Wd)=>
 Zdu b c d a R w) λ e=>
 Zl d false (
 F0 43 b 2 R w λ h w=>
 L0 9 h R w λ i w=>
 F0 43 c 2 R w λ j w=>
 L0 9 j R w λ k w=>
 B0 .neq 9 false i k R w λ a w=>
 e a w) (
 e undef w)
def n80 f g R w:=
 opV Pg (box 43 f) (Zj R) w λ a w=>
 opV Pg (box 43 g) (Zj R) w λ b w=>
 F0 43 a 0 R w λ h w=>
 L0 9 h R w λ i w=>
 F0 43 b 0 R w λ j w=>
 L0 9 j R w λ k w=>
 B0 .neq 9 false i k R w λ d w=>
 Zm (λ (c:Vl) (w:Wd)=>
 Zdv a b d c R w) λ e=>
 Zl d false (
 F0 43 a 1 R w λ l w=>
 L0 39 l R w λ m w=>
 F0 43 b 1 R w λ n w=>
 L0 39 n R w λ o w=>
 B0 .neq 39 false m o R w λ c w=>
 e c w) (
 e undef w)
def ZlS:QqQ2 41 n80:=λ h=>by
 refine yD func41 ?_
 refine zs<|zr<|yv h λ h=>yv h λ h=>zm<|zn<|zk<|zs<|zs<|Zr<|yG 6<|yv h λ h=>yv h λ h=>yv h λ h=>yv h λ h=>?_
 refine yb h λ h=>zm<|zn<|yg1 5 5 false [12,13,14,15,16] 16 h (λ _ T hT h=>?_) λ σ w h=>?_
 · refine yv h λ h=>yv h λ h=>yv h λ h=>yv h λ h=>yb h λ h=>zn ?_
   exact zt hT h
 refine yG 2<|yp h λ h=>zm<|zn<|yg1 5 12 false [19,20,21,22,23] 23 h (λ _ T hT h=>?_) λ σ w h=>?_
 · refine yv h λ h=>yv h λ h=>yv h λ h=>yv h λ h=>yb h λ h=>zn ?_
   exact zt hT h
 refine yG 2<|yp h λ h=>zm<|zn<|yg1 5 19 false [26,27,28,29,30] 30 h (λ _ T hT h=>?_) λ σ w h=>?_
 · refine yv h λ h=>yv h λ h=>yv h λ h=>yv h λ h=>yb h λ h=>zn ?_
   exact zt hT h
 refine yG 2<|yp h λ h=>zm<|zn<|yg1 5 26 false [33,34,35,36,37] 37 h (λ _ T hT h=>?_) λ σ w h=>?_
 · refine yv h λ h=>yv h λ h=>yv h λ h=>yv h λ h=>yb h λ h=>zn ?_
   exact zt hT h
 refine yG 2<|yp h λ h=>zm<|zn<|yg1 7 33 false [40,41,42,43,44,45,46] 46 h (λ _ T hT h=>?_) λ σ w h=>?_
 · refine yv h λ h=>yv h λ h=>yv h λ h=>yv h λ h=>yv h λ h=>yv h λ h=>yb h λ h=>zn ?_
   exact zt hT h
 refine yG 2<|yp h λ h=>zm<|zn<|yg1 7 42 false [49,50,51,52,53,54,55] 55 h (λ _ T hT h=>?_) λ σ w h=>?_
 · refine yv h λ h=>yv h λ h=>yx h λ h=>yv h λ h=>yv h λ h=>yx h λ h=>yb h λ h=>zn ?_
   exact zt hT h
 refine yG 1<|yp h λ h=>zn<|ZG<|zk<|yC h (λ h=>zs<|zr<|zm<|zn<|zk<|Zh<|Zb<|Zf rfl rfl h) λ h=>Zi<|zk<|zs<|zs<|zr<|zm<|zn<|zk ?_
 refine Zk<|yl1 [4,5,57,58,59,60,61,62,63,64,65,66,67,68,69,70,71,72,73,74] 5 h λ σ w next h=>zs<|zs<|zr<|zm<|yv h λ h=>yv h λ h=>yx h λ h=>yb h λ h=>zn<|zk<|yC h (λ h=>?_) λ h=>?_
 · refine Zi<|zk<|zs<|Zk<|zs<|yh [64,65,66,67,68,69,70,71,72,73,74] h λ C hC h=>ye 0 hC h λ h=>?_
   refine ye 1 hC h λ h=>?_
   refine yw 2 hC ?_
   refine ye 3 hC h λ h=>?_
   refine ye 4 hC h λ h=>?_
   refine ye 5 hC h λ h=>?_
   refine ye 6 hC h λ h=>?_
   refine yw 7 hC ?_
   refine ye 8 hC h λ h=>?_
   refine ye 9 hC h λ h=>?_
   refine ye 10 hC h λ h=>?_
   exact yz<|zk<|yC h (λ h=>zs<|zr<|zm<|zn<|zk<|Zh<|Zd<|Zb<|Zb<|Zd<|Zb<|Zf rfl rfl h) λ h=>Zi<|Zg<|zk<|zr<|zm<|yb h λ h=>zm<|zn<|zk<|⟨rfl,h⟩
 exact ZD<|Zc<|Zc<|Zp<|zk<|zs<|zr<|zm<|zn<|zk<|Zh<|Zf rfl rfl h
def n22 b R w:=
 B0 .geq 3 true b (QqJ 0) R w λ c w=>
 Zm (λ (a:Vl) (w:Wd)=>
 Zw c a (.bool false) λ e=>
 R (.returned e) w) λ d=>
 Zl c true (
 B0 .lss 3 true b (QqJ 34359738368) R w λ a w=>
 d a w) (
 d undef w)
def ZkY:QqQ1 42 n22:=λ h=>by
 refine yD func42 ?_
 refine zs<|zr<|zm<|zn<|zk<|zs<|Zr<|yG 3<|zm<|yb h λ h=>zm<|zn<|yg1 2 2 true [6,7] 7 h (λ _ T hT h=>?_) λ σ w h=>?_
 · refine zm<|yb h λ h=>zn ?_
   exact zt hT h
 exact yG 2<|yp h λ h=>zm<|zn<|ZG<|zk<|Zh<|Zf rfl rfl h
def P2 b c a (Zu:KV) R w:=
 X0 41 b a R w λ d w=>
 L0 78 d R w λ e w=>
 Qp Pg c #[e] (Zj R) w λ f w=>
 Zo f (
 R (.returned a) w) (
 B0 .add 3 true a (QqJ 1) R w λ g w=>
 Zu g w)
def ZhX a c R w:=
 G0 41 3 a R w λ d w=>
 Yz (λ b w Zu=>
 B0 .lss 3 false b d R w λ e w=>
 Zo e (
 P2 a c b Zu R w) (
 R (.returned (.int .i64 (-1))) w)) (QqJ 0) w
def ZhY:QqQ2 43 ZhX:=λ h=>by
 refine yD func43 ?_
 refine zs<|zr<|zm<|zn<|zk<|zs<|zs<|zr<|zm<|yx h λ h=>zm<|zn<|zk<|Zk<|yl1 [4,5,8,9,10,11,12,13,14,15,16,17,18] 8 h λ σ w next h=>?_
 refine zs<|zr<|yb h λ h=>zn<|zk<|zs<|yC h (λ h=>?_) λ h=>?_
 · refine Zi<|zk<|zs<|Zk<|zs<|zr<|zm<|zm<|zn<|zk<|zs<|zr<|zm<|zm<|zm ?_
   refine yv h λ h=>yv h λ h=>yV h λ h=>zn<|zk<|yC h (λ h=>zs<|zr<|zm<|zm<|zn<|zk<|Zh<|Zd<|Zb<|Zb<|Zd<|Zb<|Zf rfl rfl h) λ h=>Zi<|Zg<|zk<|zr<|yb h λ h=>zm<|zn<|zk ?_
   exact ⟨rfl,h⟩
 exact ZD<|Zc<|Zc<|Zp<|zk<|zs<|zr<|zm<|zn<|zk<|Zh<|Zf rfl rfl h
def n16 f b R w:=
 opV Pg (box 78 f) (Zj R) w λ c w=>
 L0 3 b R w λ g w=>
 F0 78 c 0 R w λ h w=>
 L0 3 h R w λ i w=>
 B0 .geq 3 false g i R w λ d w=>
 Zm (λ (a:Vl) (w:Wd)=>
 Zw d a (.bool false) λ j=>
 R (.returned j) w) λ e=>
 Zl d true (
 L0 3 b R w λ k w=>
 F0 78 c 1 R w λ l w=>
 L0 3 l R w λ m w=>
 B0 .leq 3 false k m R w λ a w=>
 e a w) (
 e undef w)
def ZkS:QqQ2 44 n16:=λ h=>by
 refine yD func44 ?_
 refine zs<|zr<|yv h λ h=>zm<|zn<|zk<|zs<|Zr<|yG 5<|yv h λ h=>yv h λ h=>yv h λ h=>yb h λ h=>zm<|zn ?_
 refine yg1 4 4 true [9,10,11,12] 12 h (λ _ T hT h=>?_) λ σ w h=>?_
 · refine yv h λ h=>yv h λ h=>yv h λ h=>yb h λ h=>zn ?_
   exact zt hT h
 exact yG 2<|yp h λ h=>zm<|zn<|ZG<|zk<|Zh<|Zf rfl rfl h
def P1 b c a (Zu:KV) R w:=
 X0 22 b a R w λ d w=>
 L0 60 d R w λ e w=>
 Qp Pg c #[e] (Zj R) w λ f w=>
 Zo f (
 R (.returned a) w) (
 B0 .add 3 true a (QqJ 1) R w λ g w=>
 Zu g w)
def ZhV a c R w:=
 G0 22 3 a R w λ d w=>
 Yz (λ b w Zu=>
 B0 .lss 3 false b d R w λ e w=>
 Zo e (
 P1 a c b Zu R w) (
 R (.returned (.int .i64 (-1))) w)) (QqJ 0) w
def ZhW:QqQ2 46 ZhV:=λ h=>by
 refine yD func46 ?_
 refine zs<|zr<|zm<|zn<|zk<|zs<|zs<|zr<|zm<|yx h λ h=>zm<|zn<|zk<|Zk<|yl1 [4,5,8,9,10,11,12,13,14,15,16,17,18] 8 h λ σ w next h=>?_
 refine zs<|zr<|yb h λ h=>zn<|zk<|zs<|yC h (λ h=>?_) λ h=>?_
 · refine Zi<|zk<|zs<|Zk<|zs<|zr<|zm<|zm<|zn<|zk<|zs<|zr<|zm<|zm<|zm ?_
   refine yv h λ h=>yv h λ h=>yV h λ h=>zn<|zk<|yC h (λ h=>zs<|zr<|zm<|zm<|zn<|zk<|Zh<|Zd<|Zb<|Zb<|Zd<|Zb<|Zf rfl rfl h) λ h=>Zi<|Zg<|zk<|zr<|yb h λ h=>zm<|zn<|zk ?_
   exact ⟨rfl,h⟩
 exact ZD<|Zc<|Zc<|Zp<|zk<|zs<|zr<|zm<|zn<|zk<|Zh<|Zf rfl rfl h
def n20 a b R w:=
 opV Pg (box 60 a) (Zj R) w λ c w=>
 F0 60 c 0 R w λ d w=>
 L0 9 d R w λ e w=>
 L0 9 b R w λ f w=>
 B0 .eql 9 false e f R w λ g w=>
 R (.returned g) w
def ZkW:QqQ2 47 n20:=λ h=>by
 refine yD func47 ?_
 refine zs<|zr<|yv h λ h=>zm<|zn<|zk<|zs<|zr<|yv h λ h=>yv h λ h=>yv h λ h=>yb h λ h=>zm<|zn<|zk ?_
 exact Zh<|Zf rfl rfl h
def Zis f b g d (a:WPr) R w:=
 Zm (λ (c:Vl) (w:Wd)=>
 Zw d c (.bool false) λ h=>
 S0 43 b g R w λ w=>
 a w∧(
 qW Pg 43 b w λ r0=>
 R (.returned (.tuple #[r0,h])) w)) λ e=>
 Zl d true (
 I0 43 b a λ i=>
 C0 60 #[i] R w λ j w=>
 a w∧(
 Yb Pg 59 #[j,(.string { data := #[32] })] (Zj R) w λ k w=>
 a w∧(
 qV Pg a (ZP .eql 9 false k f) λ c=>
 e c w))) (
 e undef w)
def Zit c b (a:WPr) (R:RT) w:=
 I0 43 b a λ d=>
 I0 43 b a λ e=>
 C0 58 #[e] R w λ f w=>
 a w∧(
 Zis c b d f a R w)
def Ziu b c (a d:WPr) R w:=
 qV Pg a (indexAt 94 c (QqJ 0)) λ e=>
 I0 9 e a λ f=>
 J0 43 b 1 a λ g=>
 opU Pg (storeAt 39 g (QqJ 1)) (Zj R) w λ w=>
 a w∧(
 J0 43 b 2 a λ h=>
 S0 9 h f R w λ w=>
 Vp w λ i w=>
 d w)
def Ziv b a (c:WPr) R w:=
 E0q a 0 R w λ d w=>
 E0q a 1 R w λ f w=>
 E0q a 2 R w λ g w=>
 F0 43 b 3 R w λ e w=>
 S0 3 e d R w λ w=>
 c w
def Ziw a b (c:WPr) R w:=
 opV Pg (indexAt 94 b (QqJ 1)) (Zj R) w λ d w=>
 L0 9 d R w λ e w=>
 C0 87 #[e] R w λ f w=>
 Ziv a f c R w
def Zix b c (a d:WPr) R w:=
 qV Pg a (indexAt 94 c (QqJ 0)) λ e=>
 I0 9 e a λ f=>
 J0 43 b 1 a λ g=>
 opU Pg (storeAt 39 g (QqJ 2)) (Zj R) w λ w=>
 a w∧(
 J0 43 b 2 a λ h=>
 S0 9 h f R w λ w=>
 Vp w λ i w=>
 Ziw b c d R w)
def Ziy b a (c:WPr) R w:=
 E0q a 0 R w λ d w=>
 E0q a 1 R w λ f w=>
 E0q a 2 R w λ g w=>
 F0 43 b 4 R w λ e w=>
 S0 3 e d R w λ w=>
 c w
def Ziz a b (c:WPr) R w:=
 F0 43 a 1 R w λ d w=>
 opU Pg (storeAt 39 d (QqJ 4)) (Zj R) w λ w=>
 F0 43 a 5 R w λ e w=>
 S0 40 e b R w λ w=>
 c w
def ZiA a R w:=
 L0 43 a R w λ b w=>
 S0 43 a b R w λ w=>
 qW Pg 43 a w λ r0=>
 R (.returned (.tuple #[r0,(.bool false)])) w
def Zer a b c (zC:KV) R w:=
 F0 43 a 6 R w λ d w=>
 L0 41 d R w λ e w=>
 L0 78 b R w λ f w=>
 opV Pg (buildSlice 41 1 #[(0,f)]) (Zj R) w λ g w=>
 opV Pg (Builtin.append_ #[41,41] 41 #[e,g]) (Zj R) w λ h w=>
 F0 43 a 6 R w λ i w=>
 S0 41 i h R w λ w=>
 B0 .add 3 true c (QqJ 1) R w λ j w=>
 zC j w
def Zes a d b (zC:KV) R w:=
 E0q b 0 R w λ e w=>
 E0q b 1 R w λ f w=>
 opV Pg (alloc 78 true (.tuple #[])) (Zj R) w λ c w=>
 S0 78 c e R w λ w=>
 N0 f R w λ g w=>
 Zo g (
 ZiA a R w) (
 Zer a c d zC R w)
def Zet b c a (zC:KV) R w:=
 X0 94 c a R w λ d w=>
 L0 9 d R w λ e w=>
 C0 89 #[e] R w λ f w=>
 Zes b a f zC R w
def Zeu d a (e:WPr) R w:=
 G0 94 3 a R w λ f w=>
 opV Pg (Builtin.min_ #[3,3] 3 #[(QqJ 3),f]) (Zj R) w λ g w=>
 opV Pg (sliceAt 94 a (some g) none none) (Zj R) w λ b w=>
 G0 94 3 b R w λ h w=>
 Yz (λ c w zC=>
 B0 .lss 3 false c h R w λ i w=>
 Zo i (
 Zet d b c zC R w) (
 e w)) (QqJ 0) w
def Zev b c d (a e:WPr) R w:=
 qV Pg a (indexAt 94 d (QqJ 0)) λ f=>
 I0 9 f a λ g=>
 J0 43 b 1 a λ h=>
 opU Pg (storeAt 39 h (QqJ 5)) (Zj R) w λ w=>
 a w∧(
 J0 43 b 2 a λ i=>
 S0 9 i g R w λ w=>
 Vp w λ j w=>
 Zeu b c e R w)
def Zew b c (a d:WPr) R w:=
 qV Pg a (indexAt 94 c (QqJ 0)) λ e=>
 I0 9 e a λ f=>
 J0 43 b 1 a λ g=>
 opU Pg (storeAt 39 g (QqJ 6)) (Zj R) w λ w=>
 a w∧(
 J0 43 b 2 a λ h=>
 S0 9 h f R w λ w=>
 Vp w λ i w=>
 d w)
def RA a R w:=
 L0 43 a R w λ b w=>
 S0 43 a b R w λ w=>
 qW Pg 43 a w λ r0=>
 R (.returned (.tuple #[r0,(.bool false)])) w
def RB a b (c:WPr) R w:=
 opV Pg (ZP .eql 9 true b (.string { data := #[102,105,116] })) (Zj R) w λ d w=>
 Zo d (
 F0 43 a 1 R w λ e w=>
 opU Pg (storeAt 39 e (QqJ 7)) (Zj R) w λ w=>
 c w) (
 RA a R w)
def RC a d b (c:WPr) R w:=
 opV Pg (ZP .eql 9 true b (.string { data := #[110,101,115,116,101,100] })) (Zj R) w λ e w=>
 Zo e (
 Yg w λ f w=>
 Zew a d f c R w) (
 RB a b c R w)
def Zex a b (c:WPr) R w:=
 opV Pg (indexAt 94 b (QqJ 0)) (Zj R) w λ d w=>
 L0 9 d R w λ e w=>
 C0 88 #[e] R w λ f w=>
 Ziz a f c R w
def RD a e b c (d:WPr) R w:=
 opV Pg (ZP .eql 9 true c (.string { data := #[116,97,98,108,101] })) (Zj R) w λ f w=>
 Zo f (
 Yg w λ g w=>
 Zev a e b g d R w) (
 RC a b c d R w)
def Zey a b (c:WPr) R w:=
 F0 43 a 1 R w λ d w=>
 opU Pg (storeAt 39 d (QqJ 3)) (Zj R) w λ w=>
 opV Pg (indexAt 94 b (QqJ 0)) (Zj R) w λ e w=>
 L0 9 e R w λ f w=>
 C0 87 #[f] R w λ g w=>
 Ziy a g c R w
def RE a e b c (d:WPr) R w:=
 opV Pg (ZP .eql 9 true c (.string { data := #[98,121,116,101,115] })) (Zj R) w λ f w=>
 Zo f (
 Zex a b d R w) (
 RD a e b c d R w)
def RF a e b c (d:WPr) R w:=
 opV Pg (ZP .eql 9 true c (.string { data := #[118,97,108,117,101] })) (Zj R) w λ f w=>
 Zo f (
 Zey a b d R w) (
 RE a e b c d R w)
def RG a e b c (d:WPr) R w:=
 opV Pg (ZP .eql 9 true c (.string { data := #[97,100,100] })) (Zj R) w λ f w=>
 Zo f (
 Yg w λ g w=>
 Zix a b g d R w) (
 RF a e b c d R w)
def Zez a R w:=
 L0 43 a R w λ b w=>
 S0 43 a b R w λ w=>
 qW Pg 43 a w λ r0=>
 R (.returned (.tuple #[r0,(.bool false)])) w
def RH f b a R w:=
 opV Pg (indexAt 94 a (QqJ 0)) (Zj R) w λ g w=>
 L0 9 g R w λ h w=>
 F0 43 b 0 R w λ i w=>
 S0 9 i h R w λ w=>
 G0 94 3 a R w λ j w=>
 G0 94 3 a R w λ k w=>
 opV Pg (sliceAt 94 a (some (QqJ 2)) (some j) (some k)) (Zj R) w λ l w=>
 opV Pg (buildSlice 94 2 #[(0,(.string { data := #[] })),(1,(.string { data := #[] }))]) (Zj R) w λ m w=>
 opV Pg (Builtin.append_ #[94,94] 94 #[l,m]) (Zj R) w λ c w=>
 opV Pg (indexAt 94 a (QqJ 1)) (Zj R) w λ n w=>
 L0 9 n R w λ d w=>
 opV Pg (ZP .eql 9 true d (.string { data := #[99,111,112,121] })) (Zj R) w λ o w=>
 Zm (λ (w:Wd)=>
 Yg w λ p w=>
 Zit f b p R w) λ e=>
 Zo o (
 Yg w λ q w=>
 Ziu b c q e R w) (
 RG b a c d e R w)
def RI c a b R w:=
 G0 94 3 b R w λ d w=>
 B0 .lss 3 true d (QqJ 2) R w λ e w=>
 Zo e (
 Zez a R w) (
 RH c a b R w)
def n42 a R w:=
 opV Pg (alloc 43 true (.tuple #[])) (Zj R) w λ b w=>
 Yb Pg 50 #[a,(.string { data := #[32] })] (Zj R) w λ c w=>
 RI a b c R w
def Zlg:QqQ1 51 n42:=λ h=>by
 refine yD func51 ?_
 refine zs<|zr<|yv h λ h=>zm<|zn<|zk<|zs<|zr<|zm<|yc h c50 λ h=>zm<|zn<|zk<|zs<|zs ?_
 refine zr<|zm<|yx h λ h=>yb h λ h=>zn<|zk<|yC h (λ h=>zs<|zr<|yv h λ h=>yu h λ h=>zm<|zn<|zk<|Zh<|Zb<|Z7 rfl rfl rfl h) λ h=>Zi<|zk<|zs<|zr<|zm<|yv h λ h=>yv h λ h=>?_
 refine yv h λ h=>yu h λ h=>zn<|zk<|zs<|zr<|zm<|zm<|yx h λ h=>zm<|yx h λ h=>yv h λ h=>yS h λ h=>yx h λ h=>zm ?_
 refine zn<|zk<|zs<|zs<|zr<|zm<|yv h λ h=>yv h λ h=>zn<|zk<|Zk<|zs<|zr<|yb h λ h=>zm ?_
 refine zn<|zk<|yJ0 [3,7,8,9,31,34,35,36,37,38,39,40,41,42,43,44,45,46,47,48,49,50,51,52,53,54,55,56,57,58,59,60,61,62,63,64,65,66,67,68,69,70,71,72,73,74,75,76,77,78,79,80,81,82,83,84,85,86,87,88,89,90,91,92,93,94,95,96,97,98,99,100,101,102,103,104,105,106,107,108,109,110,111,112,113,114,115,116] h (λ _ _ hkK1 h=>?_) λ σ w h=>?_
 · refine yC h (λ h=>?_) λ h=>?_
   · refine yh [34,35,36,37,38] h λ C hC h=>yw 0 hC ?_
     refine ye 1 hC h λ h=>?_
     refine ye 2 hC h λ h=>?_
     refine ye 3 hC h λ h=>?_
     refine yo 4 ?_
     refine yu h λ h=>zn ?_
     obtain ⟨hC,h⟩:=h
     refine ⟨hC,?_⟩
     refine ye 5 hC h λ h=>?_
     refine yq 6 1 ?_
     refine yu h λ h=>zn ?_
     obtain ⟨C5,hC,h⟩:=h
     refine ⟨C5,hC,?_⟩
     refine yz<|zk ?_
     exact zt hkK1 h
   refine zs<|zr<|yb h λ h=>zm<|zn<|zk<|yC h (λ h=>?_) λ h=>?_
   · refine zs<|yh [41,42,43,44,45] h λ C hC h=>yw 0 hC ?_
     refine ye 1 hC h λ h=>?_
     refine ye 2 hC h λ h=>?_
     refine ye 3 hC h λ h=>?_
     refine yo 4 ?_
     refine yu h λ h=>zn ?_
     obtain ⟨hC,h⟩:=h
     refine ⟨hC,?_⟩
     refine ye 5 hC h λ h=>?_
     refine yq 6 1 ?_
     refine yu h λ h=>zn ?_
     obtain ⟨C7,hC,h⟩:=h
     refine ⟨C7,hC,?_⟩
     refine yz<|zk<|zr<|zm<|yv h λ h=>yv h λ h=>yc h c87 λ h=>zm<|yv h λ h=>yv h λ h=>yv h λ h=>yv h λ h=>yu h λ h=>zn<|zk ?_
     exact zt hkK1 h
   refine zs<|zr<|yb h λ h=>zm<|zn<|zk<|yC h (λ h=>?_) λ h=>?_
   · refine zs<|zr<|yv h λ h=>yu h λ h=>zn<|zk<|zr<|zm<|yv h λ h=>yv h λ h=>yc h c87 λ h=>zm<|yv h λ h=>yv h λ h=>yv h λ h=>?_
     refine yv h λ h=>yu h λ h=>zn<|zk ?_
     exact zt hkK1 h
   refine zs<|zr<|yb h λ h=>zm<|zn<|zk<|yC h (λ h=>?_) λ h=>?_
   · refine zr<|zm<|yv h λ h=>yv h λ h=>yc h c88 λ h=>yv h λ h=>yu h λ h=>yv h λ h=>yu h λ h=>zn<|zk ?_
     exact zt hkK1 h
   refine zs<|zr<|yb h λ h=>zm<|zn<|zk<|yC h (λ h=>?_) λ h=>?_
   · refine zs<|yh [77,78,79,80,81] h λ C hC h=>yw 0 hC ?_
     refine ye 1 hC h λ h=>?_
     refine ye 2 hC h λ h=>?_
     refine ye 3 hC h λ h=>?_
     refine yo 4 ?_
     refine yu h λ h=>zn ?_
     obtain ⟨hC,h⟩:=h
     refine ⟨hC,?_⟩
     refine ye 5 hC h λ h=>?_
     refine yq 6 1 ?_
     refine yu h λ h=>zn ?_
     obtain ⟨C9,hC,h⟩:=h
     refine ⟨C9,hC,?_⟩
     refine yz<|zk<|zs<|zr<|zm<|zm<|yx h λ h=>yx h λ h=>yv h λ h=>yx h λ h=>zm<|zn<|zk<|Zk<|yl1 [3,7,8,9,88,89,90,91,92,93,94,95,96,97,98,99,100,101,102,103,104,105,106] 88 h λ σ w next h=>?_
     refine zs<|zr<|yb h λ h=>zn<|zk<|zs<|yC h (λ h=>?_) λ h=>?_
     · refine Zi<|zk<|zs<|Zk<|zs<|zr<|yv h λ h=>yv h λ h=>zm<|zn<|zk<|zs<|zr<|zm<|yc h c89 λ h=>?_
       refine zm<|yv h λ h=>yv h λ h=>yv h λ h=>yu h λ h=>zm<|zn<|zk<|zs<|zs<|zr<|zm<|yv h λ h=>zn<|zk ?_
       refine yC h (λ h=>?_) λ h=>?_
       · refine zs<|zr<|yv h λ h=>yu h λ h=>zm<|zn<|zk<|Zh<|Zb<|Zd<|Zb<|Zb<|Zd<|Zb<|Zd ?_
         exact Zb<|Z7 rfl rfl rfl h
       refine Zi<|zk<|zr<|yv h λ h=>yv h λ h=>yv h λ h=>yS h λ h=>yx h λ h=>yv h λ h=>yu h λ h=>zn<|Zg<|zk<|zr<|yb h λ h=>?_
       exact zm<|zn<|zk<|⟨rfl,h⟩
     refine ZD<|Zc<|Zc<|Zp<|zk ?_
     exact zt hkK1 h
   refine zs<|zr<|yb h λ h=>zm<|zn<|zk<|yC h (λ h=>?_) λ h=>?_
   · refine yh [109,110,111,112,113] h λ C hC h=>yw 0 hC ?_
     refine ye 1 hC h λ h=>?_
     refine ye 2 hC h λ h=>?_
     refine ye 3 hC h λ h=>?_
     refine yo 4 ?_
     refine yu h λ h=>zn ?_
     obtain ⟨hC,h⟩:=h
     refine ⟨hC,?_⟩
     refine ye 5 hC h λ h=>?_
     refine yq 6 1 ?_
     refine yu h λ h=>zn ?_
     obtain ⟨C12,hC,h⟩:=h
     refine ⟨C12,hC,?_⟩
     refine yz<|zk ?_
     exact zt hkK1 h
   refine zs<|zr<|yb h λ h=>zm<|zn<|zk<|yC h (λ h=>?_) λ h=>?_
   · refine zr<|yv h λ h=>yu h λ h=>zn<|zk ?_
     exact zt hkK1 h
   exact zs<|zr<|yv h λ h=>yu h λ h=>zm<|zn<|zk<|Zh<|Zb<|Zd<|Zb<|Z7 rfl rfl rfl h
 refine Zg<|zk<|zs<|yh [3,117,118,119,120,121,122,123,124,125,126] h λ C hC h=>ye 0 hC h λ h=>?_
 refine ye 1 hC h λ h=>?_
 refine yo 2 ?_
 refine yc h c58 λ h=>zn ?_
 obtain ⟨hC,h⟩:=h
 refine ⟨hC,?_⟩
 refine yw 3 hC ?_
 refine yj1 3 [8,6,5,7,4,3,2,1,0] [121,122,123,124,125] 125 h (λ _ hT hb h=>?_) (λ _ hT hb h=>?_) λ σ w hC h=>?_
 · refine ye 4 hC h λ h=>?_
   refine yw 7 hC ?_
   refine yo 5 ?_
   refine yc h c60 λ h=>zn ?_
   obtain ⟨hC,h⟩:=h
   refine ⟨hC,?_⟩
   refine yo 6 ?_
   refine yc h c59 λ h=>zn ?_
   obtain ⟨hC,h⟩:=h
   refine ⟨hC,?_⟩
   refine ye 8 hC h λ h=>?_
   exact yt hT hC h
 · refine yi 4 hC ?_
   refine yi 7 hC ?_
   refine yi 5 hC ?_
   refine yi 6 hC ?_
   refine yi 8 hC ?_
   exact yt hT hC h
 refine yP 9 hC h λ _ h=>?_
 refine yo 10 ?_
 refine yu h λ h=>zn ?_
 obtain ⟨hC,h⟩:=h
 refine ⟨hC,?_⟩
 refine yw 11 hC ?_
 exact yz<|zk<|Zh<|Z7 rfl rfl rfl h
def n37 a R w:=
 Yb Pg 90 #[a,(.func (.func 91) #[] #[])] (Zj R) w λ b w=>
 N0 b R w λ c w=>
 R (.returned c) w
def Zlb:QqQ1 52 n37:=λ h=>by
 refine yD func52 ?_
 exact zs<|zr<|zm<|zn<|zk<|zs<|zr<|zm<|yc h c90 λ h=>yv h λ h=>zm<|zn<|zk<|Zh<|Zf rfl rfl h
def n35 R w:=
 opV Pg (Instr.makeMap 106 none) (Zj R) w λ a w=>
 opV Pg (build 105 #[(0,(.bool true))]) (Zj R) w λ b w=>
 opU Pg (mapUpdate 106 a (QqJ 1) b) (Zj R) w λ w=>
 opV Pg (build 105 #[(0,(.bool true)),(1,(.bool true))]) (Zj R) w λ c w=>
 opU Pg (mapUpdate 106 a (QqJ 2) c) (Zj R) w λ w=>
 opV Pg (build 105 #[(2,(.bool true))]) (Zj R) w λ d w=>
 opU Pg (mapUpdate 106 a (QqJ 3) d) (Zj R) w λ w=>
 opV Pg (build 105 #[(3,(.bool true))]) (Zj R) w λ e w=>
 opU Pg (mapUpdate 106 a (QqJ 4) e) (Zj R) w λ w=>
 opV Pg (build 105 #[(0,(.bool true)),(4,(.bool true))]) (Zj R) w λ f w=>
 opU Pg (mapUpdate 106 a (QqJ 5) f) (Zj R) w λ w=>
 opV Pg (build 105 #[(0,(.bool true))]) (Zj R) w λ g w=>
 opU Pg (mapUpdate 106 a (QqJ 6) g) (Zj R) w λ w=>
 opV Pg (build 105 #[]) (Zj R) w λ h w=>
 opU Pg (mapUpdate 106 a (QqJ 7) h) (Zj R) w λ w=>
 R (.returned a) w
def Zk9:QqQ0 57 n35:=λ h=>by
 refine yD func57 ?_
 refine zs<|zr<|zm<|zn<|zk<|zs<|zr<|yv h λ h=>yB h λ h=>yu h λ h=>yB h λ h=>yu h λ h=>yB h λ h=>yu h λ h=>yB h λ h=>?_
 exact yu h λ h=>yB h λ h=>yu h λ h=>yB h λ h=>yu h λ h=>yB h λ h=>yu h λ h=>zm<|zm<|zn<|zk<|Zh<|Zf rfl rfl h
def qm (f:Zt):(f.kind=1∨f.kind=2∨f.kind=3∨f.kind=4∨f.kind=5∨f.kind=6∨f.kind=7∨f.kind=8∨f.kind=9∨f.kind=10∨f.kind=11∨f.kind=12)∨((f.kind == 1)=false∧(f.kind == 3)=false∧(f.kind == 4)=false∧(f.kind == 5)=false∧(f.kind == 6)=false∧(f.kind == 7)=false∧(f.kind == 8)=false∧(f.kind == 12)=false∧(f.kind == 9)=false):=by
 by_cases h:1≤f.kind∧f.kind≤12
 · left;omega
 · right
   have key:∀ n:Int,(1≤n∧n≤12)→(f.kind == n)=false:=λ n hn=>by
    have:f.kind≠n:=K9
    simpa using this
   exact ⟨key 1 K9,key 3 K9,key 4 K9,key 5 K9,key 6 K9,key 7 K9,key 8 K9,key 12 K9,key 9 K9⟩
def zV {f:Zt} (h1:(f.kind == 1)=false) (h3:(f.kind == 3)=false) (h4:(f.kind == 4)=false) (h5:(f.kind == 5)=false) (h6:(f.kind == 6)=false) (h7:(f.kind == 7)=false) (h8:(f.kind == 8)=false) (h12:(f.kind == 12)=false) (h9:(f.kind == 9)=false):YV f=0:=by
 have e:∀ n:Int,(f.kind == n)=false→f.kind≠n:=λ n h=>by simpa using h
 unfold YV
 rw [if_neg (by have:=e _ h1;have:=e _ h3;omega),if_neg (by have:=e _ h4;have:=e _ h5;omega),if_neg (e _ h6),if_neg (e _ h7),if_neg (by have:=e _ h8;have:=e _ h12;omega),if_neg (e _ h9)]
def Ji (w0:Wd) (v:Vl) (f:Zt) (hf:Z0 w0 v f):Ret Pg 68 #[v] w0 λ r w'=>r = .int .i64 (YV f)∧Ext w0 w':=by
 obtain ⟨tv,cv,rfl,hT,hC,_,_⟩:=hf.op
 refine Zk6 (R:=ZR _) ?_;unfold n32
 rcases qm f with (h | h | h | h | h | h | h | h | h | h | h | h) | ⟨h1,h3,h4,h5,h6,h7,h8,h12,h9⟩
 case inr=>
  simp (disch:=try exact DI) only [↓PR,QR,simprocAttr,↓Rh,↓Ri,↓Rj,↓Rl,h1,h3,h4,h5,h6,h7,h8,h12,h9]
  exact ⟨by rw [zV h1 h3 h4 h5 h6 h7 h8 h12 h9],ee⟩
 all_goals
  simp (disch:=try exact DI) only [↓PR,QR,simprocAttr,↓Rh,↓Ri,↓Rj,↓Rl,h]
  exact ⟨by unfold YV;rw [h];rfl,ee⟩
def Ni (w0:Wd) (v:Vl) (f:Zt) (hf:Z0 w0 v f):Ret Pg 69 #[v] w0 λ r w'=>r = .int .i64 (YV f)∧Ext w0 w':=by
 obtain ⟨tv,cv,rfl,hT,hC,_,_⟩:=hf.op
 refine ZlN (R:=ZR _) ?_;unfold n75
 rcases qm f with (h | h | h | h | h | h | h | h | h | h | h | h) | ⟨h1,h3,h4,h5,h6,h7,h8,h12,h9⟩
 case inr=>
  simp (disch:=try exact DI) only [↓PR,QR,simprocAttr,↓SA,↓SB,↓SC,↓SD,h1,h3,h4,h5,h6,h7,h8,h12,h9]
  exact ⟨by rw [zV h1 h3 h4 h5 h6 h7 h8 h12 h9],ee⟩
 all_goals
  simp (disch:=try exact DI) only [↓PR,QR,simprocAttr,↓SA,↓SB,↓SC,↓SD,h]
  exact ⟨by unfold YV;rw [h];rfl,ee⟩
def Q9 (w0:Wd) (n:Int):Ret Pg 42 #[.int .i64 n] w0 λ r w'=>r = .bool (Vj n)∧w'=w0:=by
 refine ZkY (R:=ZR _) ?_;unfold n22
 unfold Vj
 by_cases h1:0≤n
 · have d1:decide (n≥0)=true:=by simpa using h1
   by_cases h2:n < 34359738368
   · have d2:decide (n < 34359738368)=true:=by simpa using h2
     refine Qqh d1 d2 ?_
     exact ⟨by simp [h1,h2],by trivial⟩
   · have d2:decide (n < 34359738368)=false:=by simpa using h2
     refine Qqh d1 d2 ?_
     exact ⟨by simp [h2],by trivial⟩
 · have d1:decide (n≥0)=false:=by simpa using h1
   refine Qqg d1 ?_
   exact ⟨by simp [h1],by trivial⟩
def Co (u:DD):Vl := .agg #[.bool u.fr,.bool u.add,.bool u.value,.bool u.bytes,.bool u.table]
def OI (L:List (Int×Vl×Nat)):Prop:=∀ k,Sw.look L k=(WE k).map Co
def WU {w0 w:Wd} {m c:Nat} {L:List (Int×Vl×Nat)} {QP:PEn} {ku:WPr} (hM:XB w m XG L c) (e:Ext w0 w) (hm:w0.heap.size≤m) (k:Int) (v:Vl)
 (h:∀ w' L' c',XB w' m XG L' c'→(∀ k',Sw.look L' k'=if k'=k then some v else Sw.look L k')→Ext w0 w'→ku w'):opU Pg (mapUpdate 106 (.map (some m)) (.int .i64 k) v) QP w ku:=by
 rw [Ky underlying106 (Q6.int underlying39) hM k v]
 exact h _ _ _ (hM.put k v) (λ k'=>yj _ _ _ _ _) (e.putObj hm _)
def Ko (w0:Wd):Ret Pg 57 #[] w0 λ r w'=>∃ m L c,r = .map (some m)∧w0.heap.size≤m∧XB w' m XG L c∧OI L∧Ext w0 w':=by
 refine Zk9 (R:=ZR _) ?_;unfold n35
 refine Qqk ?_
 have hM0:XB (w0.alloc (.map #[] 0)) w0.heap.size XG [] 0:=XB.new w0 _
 have e0:Ext w0 (w0.alloc (.map #[] 0)):=ee
 refine WU hM0 e0 (Nat.le_refl _) 1 _ (λ w1 L1 c1 hM1 hl1 e1=>?_)
 refine Qqk ?_
 refine WU hM1 e1 (Nat.le_refl _) 2 _ (λ w2 L2 c2 hM2 hl2 e2=>?_)
 refine Qqk ?_
 refine WU hM2 e2 (Nat.le_refl _) 3 _ (λ w3 L3 c3 hM3 hl3 e3=>?_)
 refine Qqk ?_
 refine WU hM3 e3 (Nat.le_refl _) 4 _ (λ w4 L4 c4 hM4 hl4 e4=>?_)
 refine Qqk ?_
 refine WU hM4 e4 (Nat.le_refl _) 5 _ (λ w5 L5 c5 hM5 hl5 e5=>?_)
 refine Qqk ?_
 refine WU hM5 e5 (Nat.le_refl _) 6 _ (λ w6 L6 c6 hM6 hl6 e6=>?_)
 refine Qqk ?_
 refine WU hM6 e6 (Nat.le_refl _) 7 _ (λ w7 L7 c7 hM7 hl7 e7=>?_)
 refine Qqk ?_
 refine ⟨_,L7,c7,rfl,Nat.le_refl _,hM7,λ k=>?_,e7⟩
 rw [hl7,hl6,hl5,hl4,hl3,hl2,hl1]
 unfold WE
 by_cases k1:k=1
 · subst k1;rfl
 by_cases k2:k=2
 · subst k2;rfl
 by_cases k3:k=3
 · subst k3;rfl
 by_cases k4:k=4
 · subst k4;rfl
 by_cases k5:k=5
 · subst k5;rfl
 by_cases k6:k=6
 · subst k6;rfl
 by_cases k7:k=7
 · subst k7;rfl
 rw [if_neg k1,if_neg k2,if_neg k3,if_neg k4,if_neg k5,if_neg k6,if_neg k7,if_neg k1,if_neg k2,if_neg k3,if_neg k4,if_neg k5,if_neg k6,if_neg k7]
 rfl
def Rm b d e (R:RT) w:=
 Zm (λ (a:Vl) (w:Wd)=>
 Zw b a (.bool false) λ f=>
 R (.returned f) w) λ c=>
 Zl b true (
 Zw d (.bool true) e λ a=>
 c a w) (
 c undef w)
def Rn d e b R w:=
 Zm (λ (a:Vl) (w:Wd)=>
 Rm e b a R w) λ c=>
 Zl b false (
 F0 43 d 6 R w λ f w=>
 L0 41 f R w λ g w=>
 G0 41 3 g R w λ h w=>
 B0 .eql 3 true h (QqJ 0) R w λ a w=>
 c a w) (
 c undef w)
def Ro c d e f R w:=
 Zw e f (.bool false) λ a=>
 Zm (λ (g:Vl) (w:Wd)=>
 Rn c a g R w) λ b=>
 Zl a true (
 F0 105 d 4 R w λ h w=>
 L0 4 h R w λ i w=>
 b i w) (
 b undef w)
def Rp c h d e R w:=
 Zm (λ (a:Vl) (w:Wd)=>
 Zm (λ (b:Vl) (w:Wd)=>
 Ro c h d b R w) λ f=>
 Zl d true (
 Zw e (.bool true) a λ b=>
 f b w) (
 f undef w)) λ g=>
 Zl e false (
 F0 43 c 5 R w λ i w=>
 L0 40 i R w λ j w=>
 G0 40 3 j R w λ k w=>
 B0 .eql 3 true k (QqJ 0) R w λ a w=>
 g a w) (
 g undef w)
def Rq d a e f R w:=
 Zw e f (.bool false) λ b=>
 Zm (λ (g:Vl) (w:Wd)=>
 Rp d a b g R w) λ c=>
 Zl b true (
 F0 105 a 3 R w λ h w=>
 L0 4 h R w λ i w=>
 c i w) (
 c undef w)
def Rr c h d e R w:=
 Zm (λ (a:Vl) (w:Wd)=>
 Zm (λ (b:Vl) (w:Wd)=>
 Rq c h d b R w) λ f=>
 Zl d true (
 Zw e (.bool true) a λ b=>
 f b w) (
 f undef w)) λ g=>
 Zl e false (
 F0 43 c 4 R w λ i w=>
 L0 3 i R w λ j w=>
 B0 .eql 3 true j (QqJ 0) R w λ a w=>
 g a w) (
 g undef w)
def Rs d a e f R w:=
 Zw e f (.bool false) λ b=>
 Zm (λ (g:Vl) (w:Wd)=>
 Rr d a b g R w) λ c=>
 Zl b true (
 F0 105 a 2 R w λ h w=>
 L0 4 h R w λ i w=>
 c i w) (
 c undef w)
def Rt c h d e R w:=
 Zm (λ (a:Vl) (w:Wd)=>
 Zm (λ (b:Vl) (w:Wd)=>
 Rs c h d b R w) λ f=>
 Zl d true (
 Zw e (.bool true) a λ b=>
 f b w) (
 f undef w)) λ g=>
 Zl e false (
 F0 43 c 3 R w λ i w=>
 L0 3 i R w λ j w=>
 B0 .eql 3 true j (QqJ 0) R w λ a w=>
 g a w) (
 g undef w)
def Ru d a e f R w:=
 Zw e (.bool true) f λ b=>
 Zm (λ (g:Vl) (w:Wd)=>
 Rt d a b g R w) λ c=>
 Zl b true (
 F0 105 a 1 R w λ h w=>
 L0 4 h R w λ i w=>
 c i w) (
 c undef w)
def n33 f g R w:=
 opV Pg (box 43 f) (Zj R) w λ b w=>
 opV Pg (box 105 g) (Zj R) w λ c w=>
 F0 105 c 0 R w λ h w=>
 L0 4 h R w λ d w=>
 Zm (λ (a:Vl) (w:Wd)=>
 Ru b c d a R w) λ e=>
 Zl d false (
 F0 43 b 2 R w λ i w=>
 L0 9 i R w λ j w=>
 opV Pg (ZP .eql 9 true j (.string { data := #[] })) (Zj R) w λ a w=>
 e a w) (
 e undef w)
def Zk7:QqQ2 97 n33:=λ h=>by
 refine yD func97 ?_
 refine zs<|zr<|yv h λ h=>yv h λ h=>zm<|zn<|zk<|zs<|Zr<|yG 3<|yv h λ h=>yv h λ h=>zm<|zn<|yg1 3 2 false [8,9,10] 10 h (λ _ T hT h=>?_) λ σ w h=>?_
 · refine yv h λ h=>yv h λ h=>yb h λ h=>zn ?_
   exact zt hT h
 refine yG 2<|yp h λ h=>zm<|zn<|yg1 3 7 true [13,14,15] 15 h (λ _ T hT h=>?_) λ σ w h=>?_
 · refine yv h λ h=>yv h λ h=>zm<|zn ?_
   exact zt hT h
 refine yg1 3 10 false [16,17,18] 18 h (λ _ T hT h=>?_) λ σ w h=>?_
 · refine yv h λ h=>yv h λ h=>yb h λ h=>zn ?_
   exact zt hT h
 refine yg1 1 7 true [19] 19 h (λ _ T hT h=>?_) λ σ w h=>?_
 · refine yp h λ h=>zn ?_
   exact zt hT h
 refine yG 2<|yp h λ h=>zm<|zn<|yg1 3 16 true [22,23,24] 24 h (λ _ T hT h=>?_) λ σ w h=>?_
 · refine yv h λ h=>yv h λ h=>zm<|zn ?_
   exact zt hT h
 refine yg1 3 19 false [25,26,27] 27 h (λ _ T hT h=>?_) λ σ w h=>?_
 · refine yv h λ h=>yv h λ h=>yb h λ h=>zn ?_
   exact zt hT h
 refine yg1 1 16 true [28] 28 h (λ _ T hT h=>?_) λ σ w h=>?_
 · refine yp h λ h=>zn ?_
   exact zt hT h
 refine yG 2<|yp h λ h=>zm<|zn<|yg1 3 25 true [31,32,33] 33 h (λ _ T hT h=>?_) λ σ w h=>?_
 · refine yv h λ h=>yv h λ h=>zm<|zn ?_
   exact zt hT h
 refine yg1 4 28 false [34,35,36,37] 37 h (λ _ T hT h=>?_) λ σ w h=>?_
 · refine yv h λ h=>yv h λ h=>yx h λ h=>yb h λ h=>zn ?_
   exact zt hT h
 refine yg1 1 25 true [38] 38 h (λ _ T hT h=>?_) λ σ w h=>?_
 · refine yp h λ h=>zn ?_
   exact zt hT h
 refine yG 2<|yp h λ h=>zm<|zn<|yg1 3 35 true [41,42,43] 43 h (λ _ T hT h=>?_) λ σ w h=>?_
 · refine yv h λ h=>yv h λ h=>zm<|zn ?_
   exact zt hT h
 refine yg1 4 38 false [44,45,46,47] 47 h (λ _ T hT h=>?_) λ σ w h=>?_
 · refine yv h λ h=>yv h λ h=>yx h λ h=>yb h λ h=>zn ?_
   exact zt hT h
 refine yg1 1 35 true [48] 48 h (λ _ T hT h=>?_) λ σ w h=>?_
 · refine yp h λ h=>zn ?_
   exact zt hT h
 exact yG 2<|yp h λ h=>zm<|zn<|ZG<|zk<|Zh<|Zf rfl rfl h
def Cy (w0:Wd) (v:Vl) (r:FrD) (hr:Ws w0 v r) (x:DD):Ret Pg 97 #[v,Co x] w0 λ q w'=>q = .bool (Jj r x)∧Ext w0 w':=by
 obtain ⟨bv,tv,rfl,hB,hT,o1,o2⟩:=hr.op
 obtain ⟨Ab,cb,rfl,_⟩:=Ze.open hB
 obtain ⟨At,ct,rfl,_⟩:=Ze.open hT
 obtain ⟨u1,u2,u3,u4,u5⟩:=x
 unfold Co
 refine Zk7 (R:=ZR _) ?_;unfold n33
 rw [Yi]
 have c1:=Zv w0 #[.string r.to,.int .i64 r.kind,.string r.fr,.int .i64 r.add,.int .i64 r.value,.slice Ab r.bytes.length cb,.slice At r.table.length ct] 43
 have e1:Ext w0 (w0.alloc (.cells #[.string r.to,.int .i64 r.kind,.string r.fr,.int .i64 r.add,.int .i64 r.value,.slice Ab r.bytes.length cb,.slice At r.table.length ct] 43)):=ee
 generalize (w0.alloc (.cells #[.string r.to,.int .i64 r.kind,.string r.fr,.int .i64 r.add,.int .i64 r.value,.slice Ab r.bytes.length cb,.slice At r.table.length ct] 43))=w1 at *
 rw [Yi]
 have c2:=Zv w1 #[.bool u1,.bool u2,.bool u3,.bool u4,.bool u5] 105
 have e2:Ext w1 (w1.alloc (.cells #[.bool u1,.bool u2,.bool u3,.bool u4,.bool u5] 105)):=ee
 generalize (w1.alloc (.cells #[.bool u1,.bool u2,.bool u3,.bool u4,.bool u5] 105))=w2 at *
 have c1:=e2.obj c1
 have e:=e1.trans e2
 have k1:=(Za c1).1
 have k2:=(Za c2).1
 clear c1 c2 e1 e2 hr hB hT
 refine Qqh k1 k2 ?_
 have hcl:Jj r ⟨u1,u2,u3,u4,u5⟩=((u1||decide (r.fr=⟨#[]⟩))&&((u2||r.add == 0)&&((u3||r.value == 0)&&((u4||(r.bytes.length:Int) == 0)&&(u5||(r.table.length:Int) == 0))))):=by
  unfold Jj
  have z:∀ n:Nat,((n:Int) == 0)=decide (n=0):=λ n=>by rw [Bool.eq_iff_iff];simp
  rw [z,z]
  rfl
 rw [hcl]
 clear hcl
 repeat' first
  | exact ⟨by simp [*],e⟩
  | (simp [*];done)
  | (refine VJ (λ _=>?_) (λ _=>?_)<;>simp (disch:=try exact DI) only [↓PR,QR,simprocAttr,↓Rm,↓Rn,↓Ro,↓Rp,↓Rq,↓Rr,↓Rs,↓Rt,↓Ru, *])
  | (refine Wa (λ _=>?_) (λ _=>?_)<;>simp (disch:=try exact DI) only [↓PR,QR,simprocAttr,↓Rm,↓Rn,↓Ro,↓Rp,↓Rq,↓Rr,↓Rs,↓Rt,↓Ru, *])
def Zhx a b (R:RT) w:=
 C0 129 #[a,b] R w λ c w=>
 B0 .geq 3 true c (QqJ 0) R w λ d w=>
 R (.returned d) w
def Zhy:QqQ2 90 Zhx:=λ h=>by
 refine yD func90 ?_
 refine zs<|zr<|zm<|zn<|zk<|zs<|zr<|zm<|zm<|yc h ZjK λ h=>yb h λ h=>zm<|zn<|zk<|Zh ?_
 exact Zf rfl rfl h
def n38 a (R:RT) w:=
 C0 35 #[a] R w λ b w=>
 N0 b R w λ c w=>
 R (.returned c) w
def Zlc:QqQ1 91 n38:=λ h=>by
 refine yD func91 ?_
 exact zs<|zr<|zm<|zn<|zk<|zs<|zr<|zm<|yc h c35 λ h=>yv h λ h=>zm<|zn<|zk<|Zh<|Zf rfl rfl h
def PX a b R w:=
 N0 b R w λ c w=>
 Zo c (
 R (.returned (.tuple #[(QqJ 0),(.bool false)])) w) (
 L0 3 a R w λ d w=>
 R (.returned (.tuple #[d,(.bool true)])) w)
def ZbI b a (c:WPr) R w:=
 L0 3 a R w λ d w=>
 F0 43 b 3 R w λ e w=>
 L0 3 e R w λ f w=>
 B0 .add 3 false d f R w λ g w=>
 S0 3 a g R w λ w=>
 c w
def ZbJ a b c (d:WPr) R w:=
 F0 43 a 6 R w λ e w=>
 L0 41 e R w λ f w=>
 X0 41 f c R w λ g w=>
 F0 78 g 2 R w λ h w=>
 L0 3 h R w λ i w=>
 S0 3 b i R w λ w=>
 d w
def ZbK a b (d:WPr) R w:=
 F0 43 a 6 R w λ e w=>
 L0 41 e R w λ f w=>
 opV Pg (makeFunc (.func 44) #[] #[b]) (Zj R) w λ g w=>
 C0 43 #[f,g] R w λ c w=>
 B0 .lss 3 true c (QqJ 0) R w λ h w=>
 Zo h (
 R (.returned (.tuple #[(QqJ 0),(.bool false)])) w) (
 ZbJ a b c d R w)
def ZbL a b (c:WPr) R w:=
 F0 43 a 4 R w λ d w=>
 L0 3 d R w λ e w=>
 S0 3 b e R w λ w=>
 c w
def ZbM a b (c:WPr) R w:=
 F0 43 a 3 R w λ d w=>
 L0 3 d R w λ e w=>
 F0 43 a 3 R w λ f w=>
 L0 3 f R w λ g w=>
 opV Pg (Op.unary .neg g) (Zj R) w λ h w=>
 opV Pg (Builtin.max_ #[3,3] 3 #[e,h]) (Zj R) w λ i w=>
 C0 42 #[i] R w λ j w=>
 N0 j R w λ k w=>
 Zo k (
 R (.returned (.tuple #[(QqJ 0),(.bool false)])) w) (
 ZbI a b c R w)
def Mu a b c (d:WPr) R w:=
 B0 .eql 39 true c (QqJ 3) R w λ e w=>
 Zo e (
 ZbL a b d R w) (
 B0 .eql 39 true c (QqJ 5) R w λ f w=>
 Zo f (
 ZbK a b d R w) (
 R (.returned (.tuple #[(QqJ 0),(.bool false)])) w))
def ZbN b a R w:=
 F0 43 b 1 R w λ e w=>
 L0 39 e R w λ c w=>
 B0 .eql 39 true c (QqJ 1) R w λ f w=>
 Zm (λ (w:Wd)=>
 L0 3 a R w λ g w=>
 C0 42 #[g] R w λ h w=>
 PX a h R w) λ d=>
 Zo f (
 d w) (
 B0 .eql 39 true c (QqJ 2) R w λ i w=>
 Zo i (
 ZbM b a d R w) (
 Mu b a c d R w))
def n15 b c R w:=
 opV Pg (box 43 b) (Zj R) w λ d w=>
 opV Pg (box 3 c) (Zj R) w λ a w=>
 L0 3 a R w λ e w=>
 C0 42 #[e] R w λ f w=>
 N0 f R w λ g w=>
 Zo g (
 R (.returned (.tuple #[(QqJ 0),(.bool false)])) w) (
 ZbN d a R w)
def ZkR:QqQ2 18 n15:=λ h=>by
 refine yD func18 ?_
 refine zs<|zr<|yv h λ h=>yv h λ h=>zm<|zm<|zn<|zk<|zs<|zs<|zr<|yv h λ h=>yc h c42 λ h=>yv h λ h=>zn ?_
 refine zk<|yC h (λ h=>zs<|zr<|zm<|zm<|zn<|zk<|Zh<|Zb<|Xp rfl rfl rfl h) λ h=>Zi<|zk<|zs<|zs<|zr<|yv h λ h=>yv h λ h=>zn<|zk<|Zk<|zs<|zr ?_
 refine yb h λ h=>zm<|zn<|zk<|yJ0 [4,5,6,14,15,16,17,18,19,20,21,22,23,24,25,26,27,28,29,30,31,32,33,34,35,36,37,38,39,40,41,42,43,44,45] h (λ _ _ hkK1 h=>?_) λ σ w h=>?_
 · refine yC h (λ h=>?_) λ h=>?_
   · refine Zi<|zk ?_
     exact zt hkK1 h
   refine zs<|zr<|yb h λ h=>zm<|zn<|zk<|yC h (λ h=>?_) λ h=>?_
   · refine zs<|zs<|zr<|yv h λ h=>yv h λ h=>yv h λ h=>yv h λ h=>yv h λ h=>yx h λ h=>yc h c42 λ h=>yv h λ h=>zn<|zk<|yC h (λ h=>zs<|zr<|zm<|zm<|zn<|zk<|Zh<|Zb<|Zb<|Zd<|Zb<|Xp rfl rfl rfl h) λ h=>?_
     refine Zi<|zk<|zr<|yv h λ h=>yv h λ h=>yv h λ h=>yb h λ h=>yu h λ h=>zn<|zk ?_
     exact zt hkK1 h
   refine zs<|zr<|yb h λ h=>zm<|zn<|zk<|yC h (λ h=>?_) λ h=>?_
   · refine zr<|yv h λ h=>yv h λ h=>yu h λ h=>zn<|zk ?_
     exact zt hkK1 h
   refine zs<|zr<|yb h λ h=>zm<|zn<|zk<|yC h (λ h=>?_) λ h=>?_
   · refine zs<|zr<|yv h λ h=>yv h λ h=>yF h λ h=>yc h c43 λ h=>zm<|zn<|zk<|zs<|zs<|zr<|zm<|yb h λ h=>zn ?_
     refine zk<|yC h (λ h=>zs<|zr<|zm<|zm<|zn<|zk<|Zh<|Zb<|Zb<|Zd<|Zb<|Xp rfl rfl rfl h) λ h=>Zi<|zk<|zr<|yv h λ h=>yv h λ h=>zm<|yv h λ h=>yv h λ h=>yv h λ h=>yu h λ h=>zn<|zk ?_
     exact zt hkK1 h
   exact zs<|zr<|zm<|zm<|zn<|zk<|Zh<|Zb<|Zd<|Zb<|Xp rfl rfl rfl h
 refine Zg<|zk<|zs<|zs<|zr<|yv h λ h=>yc h c42 λ h=>yv h λ h=>zn<|zk<|yC h (λ h=>zs<|zr<|zm<|zm<|zn<|zk<|Zh<|Zb<|Xp rfl rfl rfl h) λ h=>Zi<|zk<|zs ?_
 exact zr<|yv h λ h=>zm<|zm<|zn<|zk<|Zh<|Xp rfl rfl rfl h
def ZbW a R w:=
 opV Pg (Builtin.max_ #[3,3] 3 #[a,(QqJ 0)]) (Zj R) w λ b w=>
 B0 .geq 3 true a (QqJ 0) R w λ c w=>
 R (.returned (.tuple #[b,c])) w
def n19 a b R w:=
 opV Pg (box 24 a) (Zj R) w λ c w=>
 opV Pg (box 9 b) (Zj R) w λ d w=>
 F0 24 c 1 R w λ e w=>
 L0 22 e R w λ f w=>
 opV Pg (makeFunc (.func 47) #[] #[d]) (Zj R) w λ g w=>
 C0 46 #[f,g] R w λ h w=>
 ZbW h R w
def ZkV:QqQ2 20 n19:=λ h=>by
 refine yD func20 ?_
 refine zs<|zr<|yv h λ h=>yv h λ h=>zm<|zm<|zn<|zk<|zs<|zr<|yv h λ h=>yv h λ h=>yF h λ h=>yc h c46 λ h=>zm ?_
 exact zn<|zk<|zs<|zr<|zm<|yx h λ h=>zm<|yb h λ h=>zm<|zm<|zn<|zk<|Zh<|Xp rfl rfl rfl h
abbrev zO (w:Wd) (v:Vl) (l:List BAr):Prop:=Ze w 1 KN v l
def before_succ {α:Type} {p:α→Bool} {l:List α} {k:Nat} {x:α} (h:∀ (j:Nat) y,j < k→l[j]?=some y→p y=false) (hx:l[k]?=some x) (hp:p x=false):∀ (j:Nat) y,j < k+1→l[j]?=some y→p y=false:=λ j y hj hy=>by
 by_cases hjk:j=k
 · subst hjk;rw [hx] at hy;injection hy with hy;subst hy;exact hp
 · exact h j y K9 hy
def Gw (w0:Wd) (v:Vl) (l:List MrD) (g:FuncId) (caps:AVl) (p:MrD→Bool) (hs:VG w0 v l) (hg:Callable Pg g) (hc:UV w0 UT g caps p l) :
 Ret Pg 46 #[v,.func (.func g) #[] caps] w0 λ r w'=>r = .int .i64 (idx p l)∧Ext w0 w':=by
 obtain ⟨A,c,rfl,hlc,hcm,hlm,YS⟩:=Ze.open hs
 refine ZhW (R:=ZR _) ?_;unfold ZhV
 refine Qqk ?_
 refine ZE (λ i w=>∃ k:Nat,i = .int .i64 k∧k≤l.length∧Ext w0 w∧∀ (j:Nat) y,j < k→l[j]?=some y→p y=false) (λ i _=>l.length - (intOf i).toNat) ⟨0,rfl,by omega,Ext.refl _,λ j y h=>by omega⟩ ?_
 rintro i w ⟨k,rfl,hk,e,hb⟩
 by_cases Ym:k < l.length
 · obtain ⟨x,hx⟩:=getElem?_lt Ym
   obtain ⟨b,o,cs,rfl,hl,hA,hE⟩:=YS k x hx
   have hd:decide ((k:Int) < (l.length:Int))=true:=by simp;omega
   refine Qqg hd ?_
   unfold P1
   refine Qqk ?_
   obtain ⟨fv,rfl,hF⟩:=hE
   have o1:=Ze.oneCell hF
   have hV:UT w0 (.agg (ZT x fv).toArray) x:=⟨fv,rfl,hF⟩
   refine Qqg (hA.c3 e) ?_
   rw [YO hg]
   simp only [Array.empty_append]
   refine Zs (hc w _ x (List.mem_of_getElem? hx) e (hV.ext e)) ?_
   rintro r w' ⟨rfl,e'⟩
   cases hp:p x with
   | true=>
    refine Qqk ?_
    exact ⟨by rw [QU hx hp hb],e.trans e'⟩
   | false=>
    refine Qqk ?_
    exact ⟨⟨k+1,rfl,by omega,e.trans e',before_succ hb hx hp⟩,by simp [intOf];omega⟩
 · have hd:decide ((k:Int) < (l.length:Int))=false:=by simp;omega
   refine Qqg hd ?_
   exact ⟨by rw [QV λ j y hy=>hb j y (by have:=(Qqj hy).1;omega) hy],e⟩
def zM (w0:Wd) (v:Vl) (l:List UL) (g:FuncId) (caps:AVl) (p:UL→Bool) (hs:Q0 w0 v l) (hg:Callable Pg g) (hc:UV w0 (λ _ v x=>v = .agg (Xh x).toArray) g caps p l) :
 Ret Pg 43 #[v,.func (.func g) #[] caps] w0 λ r w'=>r = .int .i64 (idx p l)∧Ext w0 w':=by
 obtain ⟨A,c,rfl,hlc,hcm,hlm,YS⟩:=Ze.open hs
 refine ZhY (R:=ZR _) ?_;unfold ZhX
 refine Qqk ?_
 refine ZE (λ i w=>∃ k:Nat,i = .int .i64 k∧k≤l.length∧Ext w0 w∧∀ (j:Nat) y,j < k→l[j]?=some y→p y=false) (λ i _=>l.length - (intOf i).toNat) ⟨0,rfl,by omega,Ext.refl _,λ j y h=>by omega⟩ ?_
 rintro i w ⟨k,rfl,hk,e,hb⟩
 by_cases Ym:k < l.length
 · obtain ⟨x,hx⟩:=getElem?_lt Ym
   obtain ⟨b,o,cs,rfl,hl,hA,hE⟩:=YS k x hx
   have hd:decide ((k:Int) < (l.length:Int))=true:=by simp;omega
   refine Qqg hd ?_
   unfold P2
   refine Qqk ?_
   obtain rfl:=hE
   have hV:(.agg (Xh x).toArray:Vl) = .agg (Xh x).toArray:=rfl
   refine Qqg (hA.c3 e) ?_
   rw [YO hg]
   simp only [Array.empty_append]
   refine Zs (hc w _ x (List.mem_of_getElem? hx) e (hV)) ?_
   rintro r w' ⟨rfl,e'⟩
   cases hp:p x with
   | true=>
    refine Qqk ?_
    exact ⟨by rw [QU hx hp hb],e.trans e'⟩
   | false=>
    refine Qqk ?_
    exact ⟨⟨k+1,rfl,by omega,e.trans e',before_succ hb hx hp⟩,by simp [intOf];omega⟩
 · have hd:decide ((k:Int) < (l.length:Int))=false:=by simp;omega
   refine Qqg hd ?_
   exact ⟨by rw [QV λ j y hy=>hb j y (by have:=(Qqj hy).1;omega) hy],e⟩
def Gv (w0:Wd) (v:Vl) (l:List FrD) (g:FuncId) (caps:AVl) (p:FrD→Bool) (hs:WK w0 v l) (hg:Callable Pg g) (hc:UV w0 Ws g caps p l) :
 Ret Pg 114 #[v,.func (.func g) #[] caps] w0 λ r w'=>r = .int .i64 (idx p l)∧Ext w0 w':=by
 obtain ⟨A,c,rfl,hlc,hcm,hlm,YS⟩:=Ze.open hs
 refine ZhS (R:=ZR _) ?_;unfold ZhR
 refine Qqk ?_
 refine ZE (λ i w=>∃ k:Nat,i = .int .i64 k∧k≤l.length∧Ext w0 w∧∀ (j:Nat) y,j < k→l[j]?=some y→p y=false) (λ i _=>l.length - (intOf i).toNat) ⟨0,rfl,by omega,Ext.refl _,λ j y h=>by omega⟩ ?_
 rintro i w ⟨k,rfl,hk,e,hb⟩
 by_cases Ym:k < l.length
 · obtain ⟨x,hx⟩:=getElem?_lt Ym
   obtain ⟨b,o,cs,rfl,hl,hA,hE⟩:=YS k x hx
   have hd:decide ((k:Int) < (l.length:Int))=true:=by simp;omega
   refine Qqg hd ?_
   unfold PZ
   refine Qqk ?_
   obtain ⟨bv,tv,rfl,hB,hT,o1,o2⟩:=hE.op
   have hV:Ws w0 (.agg (ZC x bv tv).toArray) x:=⟨bv,tv,rfl,hB,hT⟩
   refine Qqg (hA.c7 e) ?_
   rw [YO hg]
   simp only [Array.empty_append]
   refine Zs (hc w _ x (List.mem_of_getElem? hx) e (hV.ext e)) ?_
   rintro r w' ⟨rfl,e'⟩
   cases hp:p x with
   | true=>
    refine Qqk ?_
    exact ⟨by rw [QU hx hp hb],e.trans e'⟩
   | false=>
    refine Qqk ?_
    exact ⟨⟨k+1,rfl,by omega,e.trans e',before_succ hb hx hp⟩,by simp [intOf];omega⟩
 · have hd:decide ((k:Int) < (l.length:Int))=false:=by simp;omega
   refine Qqg hd ?_
   exact ⟨by rw [QV λ j y hy=>hb j y (by have:=(Qqj hy).1;omega) hy],e⟩
def W9 (w0:Wd) (v:Vl) (l:List FrD) (g:FuncId) (caps:AVl) (p:FrD→Bool) (hs:WK w0 v l) (hg:Callable Pg g) (hc:UV w0 Ws g caps p l) :
 Ret Pg 78 #[v,.func (.func g) #[] caps] w0 λ r w'=>r = .bool (l.any p)∧Ext w0 w':=by
 refine Zhs (R:=ZR _) ?_;unfold Zhr
 refine Zs (Gv _ _ l g caps p hs hg hc) ?_
 rintro r w' ⟨rfl,e⟩
 refine Qqv ?_
 exact ⟨by rw [QH],e⟩
def KZ (w0:Wd) (v:Vl) (l:List BAr) (g:FuncId) (caps:AVl) (p:BAr→Bool) (hs:zO w0 v l) (hg:Callable Pg g) (hc:UV w0 (λ _ v x=>v = .string x) g caps p l) :
 Ret Pg 129 #[v,.func (.func g) #[] caps] w0 λ r w'=>r = .int .i64 (idx p l)∧Ext w0 w':=by
 obtain ⟨A,c,rfl,hlc,hcm,hlm,YS⟩:=Ze.open hs
 refine Zh4 (R:=ZR _) ?_;unfold Zh3
 refine Qqk ?_
 refine ZE (λ i w=>∃ k:Nat,i = .int .i64 k∧k≤l.length∧Ext w0 w∧∀ (j:Nat) y,j < k→l[j]?=some y→p y=false) (λ i _=>l.length - (intOf i).toNat) ⟨0,rfl,by omega,Ext.refl _,λ j y h=>by omega⟩ ?_
 rintro i w ⟨k,rfl,hk,e,hb⟩
 by_cases Ym:k < l.length
 · obtain ⟨x,hx⟩:=getElem?_lt Ym
   obtain ⟨b,o,cs,rfl,hl,hA,hE⟩:=YS k x hx
   have hd:decide ((k:Int) < (l.length:Int))=true:=by simp;omega
   refine Qqg hd ?_
   unfold P5
   refine Qqk ?_
   obtain rfl:=hE
   have hV:(.string x:Vl) = .string x:=rfl
   refine Qqg (hA.c1 e) ?_
   rw [YO hg]
   simp only [Array.empty_append]
   refine Zs (hc w _ x (List.mem_of_getElem? hx) e (hV)) ?_
   rintro r w' ⟨rfl,e'⟩
   cases hp:p x with
   | true=>
    refine Qqk ?_
    exact ⟨by rw [QU hx hp hb],e.trans e'⟩
   | false=>
    refine Qqk ?_
    exact ⟨⟨k+1,rfl,by omega,e.trans e',before_succ hb hx hp⟩,by simp [intOf];omega⟩
 · have hd:decide ((k:Int) < (l.length:Int))=false:=by simp;omega
   refine Qqg hd ?_
   exact ⟨by rw [QV λ j y hy=>hb j y (by have:=(Qqj hy).1;omega) hy],e⟩
def UQ (w0:Wd) (v:Vl) (l:List BAr) (g:FuncId) (caps:AVl) (p:BAr→Bool) (hs:zO w0 v l) (hg:Callable Pg g) (hc:UV w0 (λ _ v x=>v = .string x) g caps p l) :
 Ret Pg 90 #[v,.func (.func g) #[] caps] w0 λ r w'=>r = .bool (l.any p)∧Ext w0 w':=by
 refine Zhy (R:=ZR _) ?_;unfold Zhx
 refine Zs (KZ _ _ l g caps p hs hg hc) ?_
 rintro r w' ⟨rfl,e⟩
 refine Qqv ?_
 exact ⟨by rw [QH],e⟩
def H6 (w:Wd) (v:Vl) (x:MrD) (hv:UT w v x) (q:Nat) (s:BAr) (hq:w.heap[q]?=some (.cells #[.string s] 9 (0,0))):Ret Pg 47 #[v,Qq4 q] w λ r w'=>r = .bool (decide (x.fr=s))∧Ext w w':=by
 obtain ⟨fv,rfl,hF,o1⟩:=hv.op
 refine ZkW (R:=ZR _) ?_;unfold n20
 rw [Yi]
 have Xw:=Z6.new (w:=w) (ZT x fv) (60)
 have eW:Ext w (w.alloc (Obj.cells (List.toArray (ZT x fv)) (60))):=(Ext.refl _).alloc _
 generalize (w.alloc (Obj.cells (List.toArray (ZT x fv)) (60)))=W at Xw eW ⊢
 have c:=Za (eW.obj hq)
 refine Qqh (Xw.c3 (Ext.refl W)) c.1 ?_
 exact ⟨by trivial,eW⟩
def N5 (w:Wd) (v:Vl) (x y:FrD) (hv:Ws w v x) (q:Nat) (bv tv:Vl) (hq:w.heap[q]?=some (.cells (ZC y bv tv).toArray 43 (0,0))):Ret Pg 111 #[v,Qq4 q] w λ r w'=>r = .bool (decide (x.to=y.to))∧Ext w w':=by
 obtain ⟨bx,tx,rfl,hB,hT,o1,o2⟩:=hv.op
 refine Zk4 (R:=ZR _) ?_;unfold n30
 rw [Yi]
 have Xw:=Z6.new (w:=w) (ZC x bx tx) (43)
 have eW:Ext w (w.alloc (Obj.cells (List.toArray (ZC x bx tx)) (43))):=(Ext.refl _).alloc _
 generalize (w.alloc (Obj.cells (List.toArray (ZC x bx tx)) (43)))=W at Xw eW ⊢
 have c:=Za (eW.obj hq)
 refine Qqh (Xw.c7 (Ext.refl W)) c.1 ?_
 exact ⟨by trivial,eW⟩
def AC (w:Wd) (v:Vl) (x:FrD) (f:Zt) (hv:Ws w v x) (q:Nat) (bv tv:Vl) (hq:w.heap[q]?=some (.cells (Zq f bv tv).toArray 123 (0,0))):Ret Pg 79 #[v,Qq4 q] w λ r w'=>r = .bool (decide (x.to=f.name))∧Ext w w':=by
 obtain ⟨bx,tx,rfl,hB,hT,o1,o2⟩:=hv.op
 refine Zk0 (R:=ZR _) ?_;unfold n26
 rw [Yi]
 have Xw:=Z6.new (w:=w) (ZC x bx tx) (43)
 have eW:Ext w (w.alloc (Obj.cells (List.toArray (ZC x bx tx)) (43))):=(Ext.refl _).alloc _
 generalize (w.alloc (Obj.cells (List.toArray (ZC x bx tx)) (43)))=W at Xw eW ⊢
 have c:=Za (eW.obj hq)
 refine Qqh (Xw.c7 (Ext.refl W)) c.1 ?_
 exact ⟨by trivial,eW⟩
def LO {α:Type} (p:α→Bool) (l:List α):(l.find? p=none∧l.findIdx? p=none∧l.any p=false∧NO p l=0∧idx p l = -1)∨∃ (k:Nat) (x:α),l[k]?=some x∧l.find? p=some x∧l.findIdx? p=some k∧l.any p=true∧NO p l=k∧idx p l=k:=by
 cases h:l.findIdx? p with
 | none=>
  have hi:idx p l = -1:=by unfold idx;rw [h]
  have hn:=List.findIdx?_eq_none_iff.1 h
  exact .inl ⟨List.find?_eq_none.2 λ x hx=>by simp [hn x hx],rfl,List.any_eq_false.2 λ x hx=>by simp [hn x hx],by unfold NO;rw [hi];rfl,hi⟩
 | some k=>
  have hi:idx p l=k:=by unfold idx;rw [h]
  obtain ⟨hk,h1,h2⟩:=List.findIdx?_eq_some_iff_getElem.1 h
  refine .inr ⟨k,l[k],List.getElem?_eq_getElem hk,?_,rfl,List.any_eq_true.2 ⟨_,List.getElem_mem hk,h1⟩,by unfold NO;rw [hi,if_neg K9],hi⟩
  exact List.find?_eq_some_iff_getElem.2 ⟨h1,k,hk,rfl,λ j hj=>by simpa using h2 j hj⟩
def jP (w0:Wd) (v:Vl) (m:Xd) (s:BAr) (hm:YN w0 v m):Ret Pg 20 #[v,.string s] w0 λ r w'=>r = .tuple #[.int .i64 (((GN m s).getD 0:Nat):Int),.bool (GN m s).isSome]∧Ext w0 w':=by
 obtain ⟨rv,rfl,hR,o1⟩:=hm.op
 refine ZkV (R:=ZR _) ?_;unfold n19
 rw [Yi]
 have Xw:=Z6.new (w:=w0) (ZL m rv) (24)
 have eW:Ext w0 (w0.alloc (Obj.cells (List.toArray (ZL m rv)) (24))):=(Ext.refl _).alloc _
 generalize (w0.alloc (Obj.cells (List.toArray (ZL m rv)) (24)))=W at Xw eW ⊢
 simp (disch:=try exact DI) only [↓PR,QR,simprocAttr,λ o=>Xw.c2 ((Ext.refl W).alloc o)]
 generalize hV:World.alloc W _=V
 have oV:V.heap[W.heap.size]?=some (.cells #[.string s] 9 (0,0)):=by rw [← hV];exact Zv _ _ _
 have eV:Ext W V:=by rw [← hV];exact (Ext.refl W).alloc _
 clear hV
 refine Zs (Gw V _ m.rules _ _ (λ r=>decide (r.fr=s)) (hR.ext (eW.trans eV)) c47 λ w u x _ e hu=>H6 w u x hu _ s (e.obj oV)) ?_
 rintro _ w' ⟨rfl,e⟩
 unfold ZbW GN
 rcases LO (λ r:MrD=>decide (r.fr=s)) m.rules with ⟨_,h2,_,_,h5⟩ | ⟨k,x,_,_,h2,_,_,h5⟩
 · rw [h2,h5]
   refine Qqk ?_
   exact ⟨by trivial,eW.trans (eV.trans e)⟩
 · rw [h2,h5]
   have hk:¬ (0:Int) > (k:Int):=K9
   have hk2:decide ((0:Int)≤(k:Int))=true:=by simp
   refine Qqh hk hk2 ?_
   exact ⟨by trivial,eW.trans (eV.trans e)⟩
def VS (a f c:Int):PanicEntry:={ v := .iface 82 (Wj a f c),recovered:=false }
def mR (w:Wd) (b:Bool) (a f c:Int):Ending→Wd→Prop:=λ e w'=>Ext w w'∧(b=true∧e = .returned (.tuple #[])∨b=false∧e = .panicked [VS a f c])
def YU {f:FuncId} {args:AVl} {QP:PEn} {w:Wd} {k:KV} {b:Bool} {a fl c:Int} (h:Calls Pg f args w (mR w b a fl c)) (hk:∀ w',Ext w w'→b=true→k (.tuple #[]) w') (hp:∀ w',Ext w w'→b=false→QP [VS a fl c] w'):Yb Pg f args QP w k:=
 Uv h (λ v w' h=>by rcases h with ⟨e,⟨h1,h2⟩ | ⟨_,h2⟩⟩<;>cases h2;exact hk w' e h1) (λ ch w' h=>by rcases h with ⟨e,⟨_,h2⟩ | ⟨h1,h2⟩⟩<;>cases h2;exact hp w' e h1) (λ w' h=>by rcases h with ⟨_,⟨_,h2⟩ | ⟨_,h2⟩⟩<;>cases h2)
def D3 {w w':Wd} {b:Bool} {a f c:Int} (e:Ext w w') (h:b=true):mR w b a f c (.returned (.tuple #[])) w':=⟨e,.inl ⟨h,rfl⟩⟩
def xz {w w':Wd} {b:Bool} {a f c c':Int} (e:Ext w w') (h:b=false) (hc:c=c'):Zj (mR w b a f c) [VS a f c'] w':=⟨e,.inr ⟨h,by rw [hc]⟩⟩
structure CkM (a0 w:Wd) (cb:Nat) (m:Xd) (d e:Xc) (ru fi:Int):Prop where
 ext:Ext a0 w
 low:a0.heap.size≤cb
 obj:∃ rv dv ev,w.heap[cb]?=some (.cells #[.string m.name,rv,.string d.name,dv,.string d.start,.string e.name,ev,.string e.start,.int .i64 ru,.int .i64 fi] 81 (0,0))∧VG a0 rv m.rules∧Va a0 dv d.msgs∧Va a0 ev e.msgs
section
variable {a0 w:Wd} {cb:Nat} {m:Xd} {d e:Xc} {ru fi:Int}
def CkM.go {w':Wd} (h:CkM a0 w cb m d e ru fi) (x:Ext w w'):CkM a0 w' cb m d e ru fi:=by
 obtain ⟨h1,h2,rv,dv,ev,h3,h4⟩:=h
 exact ⟨h1.trans x,h2,rv,dv,ev,x.obj h3,h4⟩
def CkM.setField (h:CkM a0 w cb m d e ru fi) (n:Int):CkM a0 (w.setCell ⟨cb,9,none⟩ (.int .i64 n)) cb m d e ru n:=by
 obtain ⟨h1,h2,rv,dv,ev,h3,h4⟩:=h
 refine ⟨h1.setCell h2 _,h2,rv,dv,ev,?_,h4⟩
 have:=Zy (o:=9) h3 (.int .i64 n)
 simpa using this
def CkM.setRule (h:CkM a0 w cb m d e ru fi) (n:Int):CkM a0 (w.setCell ⟨cb,8,none⟩ (.int .i64 n)) cb m d e n fi:=by
 obtain ⟨h1,h2,rv,dv,ev,h3,h4⟩:=h
 refine ⟨h1.setCell h2 _,h2,rv,dv,ev,?_,h4⟩
 have:=Zy (o:=8) h3 (.int .i64 n)
 simpa using this
def XH (h:CkM a0 w cb m d e ru fi) (b:Bool) (c:Int):Calls Pg 33 #[Qq4 cb,.bool b,.int .i64 c] w (mR w b ru fi c):=by
 obtain ⟨_,_,rv,dv,ev,h1,_⟩:=h
 refine Zk1 ?_;unfold n27
 cases b with
 | true=>
  simp (disch:=try exact DI) only [↓PR,QR,simprocAttr,↓Mw]
  exact D3 (Ext.refl _) rfl
 | false=>
  simp (disch:=try exact DI) only [↓PR,QR,simprocAttr,↓Mw]
  refine ZB ?_
  simp (disch:=try exact DI) only [↓PR,QR,simprocAttr,↓Mw,(Za h1).1]
  rw [Hs]
  exact xz (Ext.refl _).drew rfl rfl
def Gi:Yh:=⟨ByteArray.empty,[]⟩
def Uz (b0 w0:Wd) (e0:Ext b0 w0) (v:Vl) (d:Xc) (s:BAr) (hd:YM b0 v d):Ret Pg 76 #[v,.string s] w0 λ r w'=>(∃ u,r = .tuple #[u,.bool (FY d s).isSome]∧Qt b0 u ((FY d s).getD Gi))∧Ext w0 w':=by
 obtain ⟨mv,rfl,hM⟩:=hd
 have hM0:=hM
 refine Zla (R:=ZR _) ?_;unfold n36
 rw [Yi]
 have Xw:=Z6.new (w:=w0) (ZO d mv) (27)
 have eW:Ext w0 (w0.alloc (Obj.cells (List.toArray (ZO d mv)) (27))):=(Ext.refl _).alloc _
 generalize (w0.alloc (Obj.cells (List.toArray (ZO d mv)) (27)))=W at Xw eW ⊢
 have sW:=eW.size
 simp (disch:=try exact DI) only [↓PR,QR,simprocAttr,λ o=>Xw.c3 ((Ext.refl W).alloc o)]
 generalize hV:World.alloc W _=V
 have oV:=Zv W #[.string Qqz,.slice none 0 0] 74
 rw [hV] at oV
 have eV:Ext W V:=by rw [← hV];exact (Ext.refl W).alloc _
 clear hV
 refine zcr (OH V _ d s ⟨_,rfl,hM.ext (e0.trans (eW.trans eV))⟩) λ w1 e1=>?_
 have E1:=(eW.trans eV).trans e1
 have o1:=e1.obj oV
 unfold Zb7
 rcases LO (λ x:Yh=>decide (x.name=s)) d.msgs with ⟨h1,_,h3,h4,_⟩ | ⟨k,x,hx,h1,_,h3,h4,_⟩
 · have hp:FY d s=none:=h1
   rw [h3,h4,hp]
   simp (disch:=try exact DI) only [↓PR,QR,simprocAttr,Zb5,(Za o1).1,(Za o1).2]
   exact ⟨⟨_,rfl,_,rfl,Ze.nil _ _ _⟩,(E1.setCell sW _).setCell sW _⟩
 · have hp:FY d s=some x:=h1
   obtain ⟨b,o,c,rfl,_,_,_,hkl,YS⟩:=UC hM hx
   obtain ⟨cs,_,hA,fv,rfl,hF⟩:=YS k x hx
   have f1:=Ze.oneCell hF
   rw [h3,h4,hp]
   simp (disch:=try exact DI) only [↓PR,QR,simprocAttr,Zb6,Xw.c3 (eV.trans e1),hA.c2 (e0.trans E1),(Za o1).1,(Za o1).2]
   exact ⟨⟨_,rfl,_,rfl,hF⟩,(E1.setCell sW _).setCell sW _⟩
def V0:Zt:=⟨ByteArray.empty,0,0,false,false,0,0,0,[],ByteArray.empty,ByteArray.empty,ByteArray.empty,[],0,0⟩
def TQ {w:Wd} {b:Nat} {cs:AVl} (ho:w.heap[b]?=some (.cells cs 123 (0,0))) (hc:cs.size=15) (f:Zt) (tv cv:Vl) (t1:tv.oneCell'=true) (c1:cv.oneCell'=true) {QP:PEn} {ku:WPr}
 (h:∀ w',w'.heap[b]?=some (.cells (Zq f tv cv).toArray 123 (0,0))→(∀ a,Ext a w→a.heap.size≤b→Ext a w')→ku w'):opU Pg (storeAt 123 (Qq4 b) (.agg (Zq f tv cv).toArray)) QP w ku:=by
 rw [xW VR ho (vs:=Zq f tv cv) rfl K9 (by intro v hv;simp only [List.mem_cons,List.not_mem_nil,or_false] at hv;rcases hv with rfl | rfl | rfl | rfl | rfl | rfl | rfl | rfl | rfl | rfl | rfl | rfl | rfl | rfl | rfl<;>first | rfl | assumption)]
 refine h _ ?_ λ a e hb=>KD _ _ _ _ e hb
 rw [VF _ 0 ho,HG (by rw [hc];rfl)]
def CC (w0:Wd) (v:Vl) (d:Yh) (s:BAr) (hd:Qt w0 v d):Ret Pg 110 #[v,.string s] w0 λ r w'=>(∃ u,r = .tuple #[u,.int .i64 (DO (QF d s))]∧Z0 w' u ((QF d s).getD V0))∧Ext w0 w':=by
 obtain ⟨mv,rfl,hM⟩:=hd
 have hM0:=hM
 refine Zk8 (R:=ZR _) ?_;unfold n34
 rw [Yi]
 have Xw:=Z6.new (w:=w0) (ZZ d mv) (74)
 have eW:Ext w0 (w0.alloc (Obj.cells (List.toArray (ZZ d mv)) (74))):=(Ext.refl _).alloc _
 generalize (w0.alloc (Obj.cells (List.toArray (ZZ d mv)) (74)))=W at Xw eW ⊢
 have sW:=eW.size
 simp (disch:=try exact DI) only [↓PR,QR,simprocAttr,λ o=>Xw.c2 ((Ext.refl W).alloc o)]
 generalize hV:World.alloc W _=V
 have oV:=Zv W #[.string Qqz,.int .i64 0,.int .i64 0,.bool false,.bool false,.int .i64 0,.int .i64 0,.int .i64 0,.slice none 0 0,.string Qqz,.string Qqz,.string Qqz,.slice none 0 0,.int .i64 0,.int .i64 0] 123
 rw [hV] at oV
 have eV:Ext W V:=by rw [← hV];exact (Ext.refl W).alloc _
 clear hV
 refine zcr (xh V _ d s ⟨_,rfl,hM.ext (eW.trans eV)⟩) λ w1 e1=>?_
 have E1:=(eW.trans eV).trans e1
 have o1:=e1.obj oV
 unfold Zb4
 rcases LO (λ x:Zt=>decide (x.name=s)) d.fields with ⟨h1,_,h3,h4,_⟩ | ⟨k,x,hx,h1,_,h3,h4,_⟩
 · have hp:QF d s=none:=h1
   rw [h3,h4,hp]
   unfold Zb3
   refine Qqk ?_
   refine TQ o1 rfl V0 (.slice none 0 0) (.slice none 0 0) rfl rfl λ w2 o2 hx=>?_
   have E2:=hx _ E1 sW
   refine Qqg (Za o2).1 ?_
   exact ⟨⟨_,rfl,_,_,rfl,Ze.nil _ _ _,Ze.nil _ _ _⟩,E2⟩
 · have hp:QF d s=some x:=h1
   obtain ⟨b,o,c,rfl,_,_,_,hkl,YS⟩:=UC hM hx
   obtain ⟨cs,_,hA,hE⟩:=YS k x hx
   obtain ⟨tv,cv,rfl,hT,hC,t1,c1⟩:=hE.op
   rw [h3,h4,hp]
   refine Qqk ?_
   refine ZB ?_
   simp (disch:=try exact DI) only [↓PR,QR,simprocAttr,Zb2,Xw.c2 (eV.trans e1),hA.c15 E1]
   refine zcr (Ji _ _ x ⟨_,_,rfl,hT.ext E1.drew,hC.ext E1.drew⟩) λ w2 e2=>?_
   refine ⟨e2,?_⟩
   have E2:=E1.drew.trans e2
   refine TQ (((Ext.refl w1).drew.trans e2).obj o1) rfl x tv cv t1 c1 λ w3 o3 hx=>?_
   have E3:=hx _ E2 sW
   refine XL ?_
   refine Qqg (Za o3).1 ?_
   exact ⟨⟨_,rfl,_,_,rfl,hT.ext E3,hC.ext E3⟩,E3⟩
end
end Go.Proofs.YtgalpdihjbinjaaGreatDoor
