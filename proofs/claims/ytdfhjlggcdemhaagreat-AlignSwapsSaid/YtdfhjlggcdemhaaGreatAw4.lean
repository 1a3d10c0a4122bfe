/-
  Lemmas for the claim.
-/
import Derived.Test.YtdfhjlggcdemhaaGreatAw3
set_option linter.all false
set_option maxHeartbeats 4000000
set_option maxRecDepth 100000
namespace Go.Proofs.YtdfhjlggcdemhaaGreat
open Sw
open Go.RowKit (intOf Below)
section
variable {w0:World} {cb md ms:Nat} {deps strs:List (ByteArray×Value)} {at_ fld:Int} {fs:List FieldD}
theorem examine_flw (h:Chk w0 cb md ms deps strs at_ fld fs) (i:Nat) (hi:fld=i) (hlt:i < fs.length) (v:Value) (f:FieldD) (hf:FieldVal w0 v f) (ht:f.terms.length≤1048576) :
 Calls Pg 144 #[.pointer (some ⟨cb,0,none⟩),v] w0 (flwR w0 at_ fld (examineC (fs.take i) deps strs f)):=by
 obtain ⟨tv,cv,rfl,hT,hC,ht1,hc1⟩:=hf.op
 refine n43s ?_;unfold n43
 simp (disch:=try exact DI) only [↓PR,QR,simprocAttr]
 generalize hW:World.alloc w0 _=W
 have e0:Ext w0 W:=by rw [← hW];exact ee
 have o3:W.heap[w0.heap.size]?=some (.cells (fieldCells f tv cv).toArray 38 (0,0)):=by rw [← hW];simp (disch:=try exact DI) only [↓PR,QR,simprocAttr]
 clear hW
 refine zcr (Name_ret _ f.name) fun w1 e1=>?_
 have e01:=e0.trans e1
 unfold examineC
 refine callK_flw (need_flw (h.ext e01) _ 1 (by decide)) (fun w2 e2 h0=>?_) (fun w2 e2 h0=>?_)
 · rw [h0,orC_zero]
   have e02:=e01.trans e2
   have o32:=(e1.trans e2).obj o3
   refine drawK_intro ?_
   simp (disch:=try exact DI) only [↓PR,QR,simprocAttr,↓n43c8,(cells_of_heap o32).1]
   have eD:Ext w0 w2.drew:=e02.wdrew
   refine callK_ret (before_ret (h.ext eD) i hi hlt) ?_
   rintro bv w3 ⟨hB,e3⟩
   refine ⟨e3,?_⟩
   have hb1:=SliceOf.oneCell hB
   simp (disch:=try exact DI) only [↓PR,QR,simprocAttr]
   refine zcr (Field_ret w3 _ ⟨ByteArray.empty,fs.take i⟩ f.name ⟨bv,rfl,hB⟩) fun w4 e4=>?_
   refine ⟨e3.trans e4,?_⟩
   simp (disch:=try exact DI) only [↓PR,QR,simprocAttr,↓n43c7]
   have e04:=eD.trans (e3.trans e4)
   have e24:Ext w2 w4:=(Ext.refl w2).wdrew.trans (e3.trans e4)
   refine callK_flw (need_flw (h.ext e04) _ 2 (by decide)) (fun w5 e5 h0=>?_) (fun w5 e5 h0=>?_)
   · rw [h0,orC_zero]
     have e05:=e04.trans e5
     have o35:=(e24.trans e5).obj o32
     clear e24 e04 e3 e4 hB eD e02 e01 e1 e2 o32
     refine drawK_intro ?_
     simp (disch:=try exact DI) only [↓PR,QR,simprocAttr,↓n43c6,(cells_of_heap o35).1]
     have eD:Ext w5 w5.drew:=(Ext.refl _).wdrew
     have fin5:∀ (w':World) (m p6 c:Nat) (L:List (Int×Value×Nat)) (u0 u1:Value),Ext w5.drew w'→MapB w' m kindEnc L c→KindsIn L→w'.heap[p6]?=some (.cells #[u0,u1] 196 (0,0))→w5.heap.size≤p6 →
      n43c5 (.pointer (some ⟨p6,0,none⟩)) (.map (some m)) (.int .i64 f.kind) (KM w5.drew m kindEnc L c) (fun t5 t6 w=>callK Pg 120 #[.pointer (some ⟨cb,0,none⟩),t5,.int .i64 4] (panK (flwR w0 at_ fld (orC (needC (decide (1≤f.kind∧f.kind≤12)) 4) (orC (needC (decide (clearK f=bareF f)) 5) (checkC (fs.take i) deps strs f))))) w fun _ w=>n43c3 (.pointer (some ⟨cb,0,none⟩)) (.pointer (some ⟨w0.heap.size,0,none⟩)) t6 (flwR w0 at_ fld (orC (needC (decide (1≤f.kind∧f.kind≤12)) 4) (orC (needC (decide (clearK f=bareF f)) 5) (checkC (fs.take i) deps strs f)))) w)
       (flwR w0 at_ fld (orC (needC (decide (1≤f.kind∧f.kind≤12)) 4) (orC (needC (decide (clearK f=bareF f)) 5) (checkC (fs.take i) deps strs f)))) w':=by
      intro w' m p6 c L u0 u1 e' hM hL o6 hp6
      haveI:ClassNe (KM w5.drew m kindEnc L c):=⟨⟨w',e',hM⟩⟩
      unfold n43c5
      rw [qV_lookupKM Tryz.underlying198 (KeyOK.int Tryz.underlying32) ty196 ⟨w',e',hM⟩]
      obtain ⟨a,b,hab,ha,hb⟩:∃ a b,(Sw.look L f.kind).getD (.agg #[.nilFunc,.nilFunc]) = .agg #[a,b]∧a.oneCell'=true∧b.oneCell'=true:=by
       obtain ⟨hn,k1,k2,k3,k4,k5,k6,k7,k8,k9,k10,k11,k12⟩:=hL
       by_cases hk:1≤f.kind∧f.kind≤12
       · have this:f.kind=1∨f.kind=2∨f.kind=3∨f.kind=4∨f.kind=5∨f.kind=6∨f.kind=7∨f.kind=8∨f.kind=9∨f.kind=10∨f.kind=11∨f.kind=12:=by omega
         rcases this with h | h | h | h | h | h | h | h | h | h | h | h<;>simp only [h,k1,k2,k3,k4,k5,k6,k7,k8,k9,k10,k11,k12,Option.getD_some]<;>exact ⟨_,_,rfl,rfl,rfl⟩
       · rw [hn _ hk];exact ⟨_,_,rfl,rfl,rfl⟩
      rw [hab]
      simp (disch:=try exact DI) only [↓PR,QR,simprocAttr,(cells_of_heap o6).1,(cells_of_heap o6).2]
      have e6:Ext w5.drew ((w'.setCell ⟨p6,0,none⟩ a).setCell ⟨p6,1,none⟩ b):=(e'.setCell (show w5.drew.heap.size≤(⟨p6,0,none⟩:Addr).block from hp6) _).setCell (show w5.drew.heap.size≤(⟨p6,1,none⟩:Addr).block from hp6) _
      refine ⟨⟨e6,(hM.setCell _ _).setCell _ _⟩,?_⟩
      have e06:=(e05.trans eD).trans e6
      have o6':=heap_set (o:=1) (heap_set (o:=0) o6 a) b
      exact exa_mid e06 (h.ext e06) i hi hlt _ p6 f tv cv ht (TermsOf.ext hT e06) (CasesOf.ext hC e06) ((eD.trans e6).obj o35) L hL a b _ hab rfl (by simpa using o6')
     refine ⟨?_,?_⟩
     · refine callK_ret (kinds_ret _) ?_
       rintro _ w6 ⟨m,L,c,rfl,hm,hM,hL,e6⟩
       refine narrowK_KM e6 hM ?_
       have h9:=fin5 (w6.alloc (.cells #[.nilFunc,.nilFunc] 196)) m w6.heap.size c L _ _ (e6.alloc _) (hM.ext ((Ext.refl _).alloc _)) hL (heap_new _ _ _) (by have:=e6.size;simpa using this)
       unfold n43c5 at h9
       unfold n43c4
       simp only [drew_wdrew]
       haveI:ClassNe (KM w5.drew m kindEnc L c):=⟨⟨w6,e6,hM⟩⟩
       rw [qV_lookupKM Tryz.underlying198 (KeyOK.int Tryz.underlying32) ty196 ⟨w6,e6,hM⟩] at h9 ⊢
       simp (disch:=try exact DI) only [↓PR,QR,simprocAttr]
       simp only [↓Sw.GENQ] at h9
       exact ⟨⟨e6.alloc _,hM.ext ((Ext.refl _).alloc _)⟩,h9⟩
     · refine ⟨(Ext.refl _).alloc _,?_⟩
       refine callK_ret (kinds_ret _) ?_
       rintro _ w6 ⟨m,L,c,rfl,hm,hM,hL,e6⟩
       refine narrowK_KM (((Ext.refl _).alloc _).trans e6) hM ?_
       exact fin5 w6 m w5.heap.size c L _ _ (((Ext.refl _).alloc _).trans e6) hM hL (e6.obj (heap_new w5.drew _ _)) (Nat.le_refl _)
   · rw [orC_ne h0]
     exact flwR_pan (e04.trans e5) rfl h0
 · rw [orC_ne h0]
   exact flwR_pan (e01.trans e2) rfl h0
end
end Go.Proofs.YtdfhjlggcdemhaaGreat
namespace Go.Proofs.YtdfhjlggcdemhaaGreat
open Sw
open Go.RowKit (intOf Below)
def refsF (f:FieldD):List ByteArray:=if f.kind=7∨f.kind=8∨f.kind=12 then [f.of] else if f.kind=9 then f.cases.map (·.of) else []
def allRefs (l:List FieldD):List ByteArray:=l.flatMap refsF
abbrev strEnc (s:ByteArray):List Value:=[.string s]
theorem append_str {w:World} {QP:List PanicEntry→World→Prop} {k:Value→World→Prop} {base:Nat} {v:Value} {l:List ByteArray} (s:ByteArray) {b:Nat} (hown:OwnE w base 9 1 strEnc v l) (hc:w.cell? ⟨b,0,none⟩=some (.string s)) (hbase:base≤w.heap.size) (hl:l.length≤1048576)
 (hk:∀ v' w',OwnE w' base 9 1 strEnc v' (l++[s])→w.grownBy w' v.ownBlock→k v' w') :
 opV Pg (Builtin.append_ #[138,138] 138 #[v,.slice (some ⟨b,0,none⟩) 1 1]) QP w k:=by
 have hby:=by9
 refine op_appendE (l':=[s]) Tryz.underlying138 ty9 rfl (by decide) (fun _=>rfl) (fun x _ u hu=>by simp at hu;subst hu;rfl) hown (fun j x hx=>?_) hbase ?_ (by simp;omega) hk
 · cases j with
   | zero =>
    simp at hx;subst hx
    intro j v hv
    cases j with
    | zero=>simp at hv;subst hv;simpa using hc
    | succ j=>simp at hv
   | succ j=>simp at hx
 · simp only [List.length_cons,List.length_nil]
   exact Nat.le_trans (Nat.mul_le_mul (Nat.add_le_add_right hl 1) hby) (by decide)
def StrsAt (w:World) (pb:Nat) (sv:Value) (l:List ByteArray):Prop:=w.cell? ⟨pb,0,none⟩=some sv∧SliceOf w 1 EStr sv l∧∀ A m c,sv = .slice (some A) m c→pb < A.block
theorem StrsAt.ext {w w':World} {pb:Nat} {sv:Value} {l:List ByteArray} (h:StrsAt w pb sv l) (e:Ext w w'):StrsAt w' pb sv l:=⟨e.cell h.1,h.2.1.ext keptStr e,h.2.2⟩
theorem append_cell {w0 w:World} {QP:List PanicEntry→World→Prop} {ku:World→Prop} {pb lo p:Nat} {sv:Value} {l:List ByteArray} (s:ByteArray) {T T':TypeId} (hp:p=w.heap.size) (e:Ext w0 w) (h0:w0.heap.size≤pb) (hlo:pb < lo) (o3:w.heap[pb]?=some (.cells #[sv] T (0,0))) (hO:OwnE w lo 9 1 strEnc sv l) (hs:lo≤w.heap.size) (hl:l.length≤1048576)
 (hk:∀ w' sv',Ext w0 w'→w'.heap[pb]?=some (.cells #[sv'] T (0,0))→OwnE w' lo 9 1 strEnc sv' (l++[s])→lo≤w'.heap.size→ku w') :
 opV Pg (Builtin.append_ #[138,138] 138 #[sv,.slice (some ⟨p,0,none⟩) 1 1]) QP (w.alloc (.cells #[.string s] T')) (fun t w=>opU Pg (Instr.storeAt 138 (.pointer (some ⟨pb,0,none⟩)) t) QP w ku):=by
 subst hp
 have l3:pb < w.heap.size:=(Array.getElem?_eq_some_iff.1 o3).1
 have o3':=((Ext.refl w).alloc (.cells #[.string s] T')).obj o3
 refine append_str s (hO.ext ((Ext.refl w).alloc _)) (by rw [cell_new];rfl) (Nat.le_trans hs (by simp)) hl ?_
 intro v' w' hO' hg
 have hne:some pb≠sv.ownBlock:=by
  intro h
  have:=hO.lt pb h.symm
  omega
 have o3w:w'.heap[pb]?=some (.cells #[sv] T (0,0)):=by rw [hg.block pb (by simp;omega) hne];exact o3'
 have eg:Ext w0 w':=(e.alloc _).grown hg (fun k hk=>by have:=hO.lt k hk;omega)
 have hv:=(hO'.slice (E:=EStr) (fun _=>rfl) (fun _ _=>rfl)).oneCell
 rw [op_store1 ty138 hv ((cells_of_heap o3w).1 0) ((cells_of_heap o3w).2 0)]
 refine hk _ v' (eg.setCell h0 _) ?_ ((hO'.range.only (Only.setCell w' pb 0 v') (.inr (.inl hlo))).1) ?_
 · have:=heap_set (o:=0) o3w v'
   simpa using this
 · have:=hg.size
   simp at this ⊢
   omega
theorem Refers_ret (w0:World) (v:Value) (m:MsgD) (hm:MsgVal w0 v m) (hb:(allRefs m.fields).length≤1048576) :
 Ret Pg 145 #[v] w0 fun r w'=>∃ pb sv,r = .func (.func 162) #[] #[.pointer (some ⟨pb,0,none⟩)]∧StrsAt w' pb sv (allRefs m.fields)∧w0.heap.size≤pb∧Ext w0 w':=by
 obtain ⟨fv,rfl,hF⟩:=hm
 obtain ⟨A,c,rfl,hlc,hcm,hlm,hel⟩:=SliceOf.open hF
 refine n36s (R:=retR _) ?_;unfold n36
 simp (disch:=try exact DI) only [↓PR,QR,simprocAttr]
 generalize hW:World.alloc (World.alloc w0 _) _=W
 have e0:Ext w0 W:=by rw [← hW];exact ee
 have hsz:W.heap.size=w0.heap.size+1+1:=by rw [← hW];simp only [World.size_alloc]
 have o3:W.heap[w0.heap.size+1]?=some (.cells #[.slice none 0 0] 138 (0,0)):=by rw [← hW];simp (disch:=try exact DI) only [↓PR,QR,simprocAttr]
 clear hW
 refine loop1_intro (fun a0 w=>∃ (k:Nat) , a0 = .int .i64 (k:Int)∧k≤m.fields.length∧Ext w0 w∧(∃ sv,w.heap[w0.heap.size+1]?=some (.cells #[sv] 138 (0,0))∧OwnE w W.heap.size 9 1 strEnc sv (allRefs (m.fields.take k))∧W.heap.size≤w.heap.size)) (fun a0 _=>m.fields.length - (intOf a0).toNat) ⟨0,rfl,Nat.zero_le _,ee,⟨_,o3,OwnE.nil _ _ _ _ _,Nat.le_refl _⟩⟩ ?_
 rintro _ w ⟨k,rfl,hk,e,hI⟩
 have se:=e.size
 rcases drop_cases hk with ⟨x,hx,hd,hlt,hdec⟩ | ⟨hk,hd,hdec⟩
 · obtain ⟨sv,o3,hO,hsW⟩:=hI
   obtain ⟨b,o,cs,rfl,hl,hA,hE⟩:=hel k x hx
   obtain ⟨tv,cv,rfl,hT,hC,ht1,hc1⟩:=hE.op
   have hpre:(allRefs (m.fields.take (k+1)))=allRefs (m.fields.take k)++refsF x:=by unfold allRefs;rw [take_snoc hx,List.flatMap_append];simp
   have hle:(allRefs (m.fields.take (k+1))).length≤1048576:=by
    refine Nat.le_trans ?_ hb
    have:m.fields=m.fields.take (k+1)++m.fields.drop (k+1):=(List.take_append_drop _ _).symm
    conv=>rhs;rw [this]
    unfold allRefs
    rw [List.flatMap_append,List.length_append]
    omega
   rw [hpre,List.length_append] at hle
   have hsv:=(hO.slice (E:=EStr) (fun _=>rfl) (fun _ _=>rfl)).oneCell
   simp (disch:=try exact DI) only [↓PR,QR,simprocAttr,↓n36c1,↓n36c2,↓n36c3,↓n36c4,↓n36c5,↓n36c6,↓n36c7,hdec,hA.c15]
   generalize hW1:World.alloc w _=w1
   have e1:Ext w w1:=by rw [← hW1];exact ee
   have o5:w1.heap[w.heap.size]?=some (.cells (fieldCells x tv cv).toArray 38 (0,0)):=by rw [← hW1];simp (disch:=try exact DI) only [↓PR,QR,simprocAttr]
   clear hW1
   have s1:=e1.size
   have e01:=e.trans e1
   have o31:=e1.obj o3
   have hO1:=hO.ext e1
   have l5:w.heap.size < w1.heap.size:=(Array.getElem?_eq_some_iff.1 o5).1
   have l3:w0.heap.size+1 < w1.heap.size:=(Array.getElem?_eq_some_iff.1 o31).1
   by_cases hr:x.kind=7∨x.kind=8∨x.kind=12
   · have hrf:refsF x=[x.of]:=by unfold refsF;rw [if_pos hr]
     rw [hrf] at hpre hle
     have key:∀ b,b=true→n36c4 (.pointer (some ⟨w0.heap.size+1,0,none⟩)) (.pointer (some ⟨w.heap.size,0,none⟩)) (.int .i64 (k:Int)) (.int .i64 x.kind) (.bool b) (fun a0' w'=>(∃ k:Nat,a0'=Value.int IntKind.i64 (k:Int)∧k≤m.fields.length∧Ext w0 w'∧∃ sv,w'.heap[w0.heap.size+1]?=some (.cells #[sv] 138 (0,0))∧OwnE w' W.heap.size 9 1 strEnc sv (allRefs (m.fields.take k))∧W.heap.size≤w'.heap.size)∧m.fields.length - (intOf a0').toNat < m.fields.length - (intOf (Value.int IntKind.i64 (k:Int))).toNat)
      (retR fun r w'=>∃ pb sv,r = .func (.func 162) #[] #[.pointer (some ⟨pb,0,none⟩)]∧StrsAt w' pb sv (allRefs m.fields)∧w0.heap.size≤pb∧Ext w0 w') w1:=by
      rintro b rfl
      simp (disch:=try exact DI) only [↓PR,QR,simprocAttr,↓n36c1,↓n36c2,↓n36c3,↓n36c4,↓n36c5,↓n36c6,↓n36c7,(cells_of_heap o31).1,(cells_of_heap o5).1]
      refine append_cell x.of rfl e01 (by omega) (by omega) o31 hO1 (by omega) (by simp at hle;omega) ?_
      intro w2 sv2 e2 o32 hO2 hs2
      rw [← hpre] at hO2
      simp (disch:=try exact DI) only [↓PR,QR,simprocAttr]
      exact ⟨⟨k+1,rfl,by omega,ee,⟨sv2,o32,hO2,hs2⟩⟩,meas_lt hlt⟩
     simp only [World.size_alloc]
     rcases hr with h | h | h
     · rw [h] at key ⊢
       simp (disch:=try exact DI) only [↓PR,QR,simprocAttr]
       exact key true rfl
     · rw [h] at key ⊢
       simp (disch:=try exact DI) only [↓PR,QR,simprocAttr,↓n36c5]
       exact key true rfl
     · rw [h] at key ⊢
       simp (disch:=try exact DI) only [↓PR,QR,simprocAttr,↓n36c5]
       exact key true rfl
   · have h7:(x.kind == 7)=false:=by simp;omega
     have h8:(x.kind == 8)=false:=by simp;omega
     have h12:(x.kind == 12)=false:=by simp;omega
     simp only [World.size_alloc]
     by_cases h9:x.kind=9
     · have h9':(x.kind == 9)=true:=by simp [h9]
       have hrf:refsF x=x.cases.map (·.of):=by unfold refsF;rw [if_neg hr,if_pos h9]
       rw [hrf] at hpre hle
       obtain ⟨A',c',rfl,hlc',hcm',hlm',hel'⟩:=SliceOf.open hC
       simp (disch:=try exact DI) only [↓PR,QR,simprocAttr,↓n36c1,↓n36c2,↓n36c3,↓n36c4,↓n36c5,↓n36c6,↓n36c7,h7,h8,h12,h9',(cells_of_heap o5).1]
       refine loop1_intro (fun a0 wa=>∃ (ka:Nat) , a0 = .int .i64 (ka:Int)∧ka≤x.cases.length∧Ext w0 wa∧(∃ sv,wa.heap[w0.heap.size+1]?=some (.cells #[sv] 138 (0,0))∧OwnE wa W.heap.size 9 1 strEnc sv (allRefs (m.fields.take k)++(x.cases.take ka).map (·.of))∧W.heap.size≤wa.heap.size)) (fun a0 _=>x.cases.length - (intOf a0).toNat) ⟨0,rfl,Nat.zero_le _,ee,⟨sv,o31,by simpa using hO1,by omega⟩⟩ ?_
       rintro _ wa ⟨ka,rfl,hka,ea,hIa⟩
       have sea:=ea.size
       rcases drop_cases hka with ⟨xa,hxa,hda,hlta,hdeca⟩ | ⟨hka,hda,hdeca⟩
       · obtain ⟨sva,oa,hOa,hsa⟩:=hIa
         obtain ⟨b',o',cs',rfl,_,hA',rfl⟩:=hel' ka xa hxa
         have la:w0.heap.size+1 < wa.heap.size:=(Array.getElem?_eq_some_iff.1 oa).1
         have oa':=((Ext.refl wa).alloc (.cells #[.int .i64 xa.low,.int .i64 xa.high,.string xa.of] 116)).obj oa
         have hla:(x.cases.take ka).length≤x.cases.length:=by rw [List.length_take];omega
         simp (disch:=try exact DI) only [↓PR,QR,simprocAttr,↓n36c1,↓n36c2,↓n36c3,↓n36c4,↓n36c5,↓n36c6,↓n36c7,hdeca,hA'.c3,(cells_of_heap oa').1,(cells_of_heap oa).1]
         refine append_cell xa.of (by simp only [World.size_alloc]) (ea.alloc _) (by omega) (by omega) oa' (hOa.ext ((Ext.refl wa).alloc _)) (by simp;omega) (by simp at hle hla ⊢;omega) ?_
         intro w2 sv2 e2 o32 hO2 hs2
         simp (disch:=try exact DI) only [↓PR,QR,simprocAttr]
         have hO3:OwnE w2 W.heap.size 9 1 strEnc sv2 (allRefs (m.fields.take k)++(x.cases.take (ka+1)).map (·.of)):=by
          rw [take_snoc hxa,List.map_append,← List.append_assoc];exact hO2
         exact ⟨⟨ka+1,rfl,by omega,ee,⟨sv2,o32,hO3,hs2⟩⟩,meas_lt hlta⟩
       · subst hka
         obtain ⟨sva,oa,hOa,hsa⟩:=hIa
         rw [List.take_length,← hpre] at hOa
         simp (disch:=try exact DI) only [↓PR,QR,simprocAttr,↓n36c1,↓n36c2,↓n36c3,↓n36c4,↓n36c5,↓n36c6,↓n36c7,hdeca]
         exact ⟨⟨k+1,rfl,by omega,ee,⟨sva,oa,hOa,hsa⟩⟩,meas_lt hlt⟩
     · have h9':(x.kind == 9)=false:=by simp;omega
       have hrf:refsF x=[]:=by unfold refsF;rw [if_neg hr,if_neg h9]
       rw [hrf,List.append_nil] at hpre
       rw [← hpre] at hO1
       simp (disch:=try exact DI) only [↓PR,QR,simprocAttr,↓n36c1,↓n36c2,↓n36c3,↓n36c4,↓n36c5,↓n36c6,↓n36c7,h7,h8,h12,h9',(cells_of_heap o5).1]
       exact ⟨⟨k+1,rfl,by omega,ee,⟨sv,o31,hO1,by omega⟩⟩,meas_lt hlt⟩
 · subst hk
   obtain ⟨sv,o3,hO,hsW⟩:=hI
   rw [List.take_length] at hO
   simp (disch:=try exact DI) only [↓PR,QR,simprocAttr,↓n36c1,↓n36c2,↓n36c3,↓n36c4,↓n36c5,↓n36c6,↓n36c7,hdec]
   have hS:=hO.slice (E:=EStr) (fun _=>rfl) (fun _ _=>rfl)
   exact ⟨_,sv,rfl,⟨(cells_of_heap o3).1 0,hS,fun A m c e=>by subst e;have:=hO.lt A.block rfl;omega⟩,by omega,e⟩
theorem Index_string_ret (w0:World) (v:Value) (l:List ByteArray) (s:ByteArray) (hs:SliceOf w0 1 EStr v l) :
 Ret Pg 198 #[v,.string s] w0 fun r w'=>r = .int .i64 (idx (fun y=>decide (s=y)) l)∧Ext w0 w':=by
 obtain ⟨A,c,rfl,hlc,hcm,hlm,hel⟩:=SliceOf.open hs
 refine n109s (R:=retR _) ?_;unfold n109
 simp (disch:=try exact DI) only [↓PR,QR,simprocAttr]
 refine loop1_intro (fun a0 w=>∃ (k:Nat) , a0 = .int .i64 (k:Int)∧k≤l.length∧Ext w0 w∧∀ (j:Nat) y,j < k→l[j]?=some y→decide (s=y)=false) (fun a0 _=>l.length - (intOf a0).toNat) ⟨0,rfl,Nat.zero_le _,ee,fun j y h=>by omega⟩ ?_
 rintro _ w ⟨k,rfl,hk,e,hI⟩
 have se:=e.size
 rcases drop_cases hk with ⟨x,hx,hd,hlt,hdec⟩ | ⟨hk,hd,hdec⟩
 · obtain ⟨b,o,cs,rfl,hl,hA,rfl⟩:=hel k x hx
   simp (disch:=try exact DI) only [↓PR,QR,simprocAttr,hdec,hA.c1,↓n109c1]
   cases hp:decide (s=x) with
   | true =>
    simp (disch:=try exact DI) only [↓PR,QR,simprocAttr]
    exact ⟨by rw [idx_here hx hp hI],e⟩
   | false =>
    simp (disch:=try exact DI) only [↓PR,QR,simprocAttr]
    exact ⟨⟨k+1,rfl,by omega,ee,before_succ hI hx hp⟩,meas_lt hlt⟩
 · subst hk
   simp (disch:=try exact DI) only [↓PR,QR,simprocAttr,hdec,↓n109c1]
   exact ⟨by rw [idx_none fun j y hy=>hI j y (List.getElem?_eq_some_iff.1 hy).1 hy],e⟩
theorem Contains_string_ret (w0:World) (v:Value) (l:List ByteArray) (s:ByteArray) (hs:SliceOf w0 1 EStr v l) :
 Ret Pg 163 #[v,.string s] w0 fun r w'=>r = .bool (l.any fun y=>decide (s=y))∧Ext w0 w':=by
 refine n101s (R:=retR _) ?_;unfold n101
 refine callK_ret (Index_string_ret _ _ l s hs) ?_
 rintro r w' ⟨rfl,e⟩
 simp (disch:=try exact DI) only [↓PR,QR,simprocAttr,Sw.joinK_eq]
 exact ⟨by rw [idx_neg],e⟩
def dedupA:List ByteArray→List ByteArray→List ByteArray
 | _,[]=>[]
 | seen,s::l=>if seen.any (fun y=>decide (s=y)) then dedupA (seen++[s]) l else s::dedupA (seen++[s]) l
def strX (l:List ByteArray) (k:Nat):Value:=match l[k]? with
 | some s => .string s
 | none=>undef
theorem Refers_seq (pb:Nat) (sv:Value) (l:List ByteArray):SeqIt Pg 162 #[.pointer (some ⟨pb,0,none⟩)] (dedupA [] l).length (strX (dedupA [] l)) (fun w=>StrsAt w pb sv l):=by
 intro yv J Jx Jp w hFP hJe hJx hstep h0
 obtain ⟨hc,hT,_⟩:=hFP 0 w h0
 obtain ⟨A,c,rfl,hlc,hcm,hlm,hel⟩:=SliceOf.open hT
 refine n37s (t0:=yv) (t1 := .pointer (some ⟨pb,0,none⟩)) ?_
 unfold n37
 simp (disch:=try exact DI) only [↓PR,QR,simprocAttr,hc]
 refine loop1_intro (fun i w=>∃ k j:Nat,i = .int .i64 k∧k≤l.length∧J j w∧j≤(dedupA [] l).length∧(dedupA [] l).drop j=dedupA (l.take k) (l.drop k)) (fun i _=>l.length - (intOf i).toNat) ⟨0,0,rfl,by omega,h0,by omega,rfl⟩ ?_
 rintro i w' ⟨k,j,rfl,hk,hJ,hj,hD⟩
 rcases drop_cases hk with ⟨x,hx,hd,hlt,hdec⟩ | ⟨hk,hd,hdec⟩
 · obtain ⟨hc',hT',_⟩:=hFP j w' hJ
   obtain ⟨A',c',hv,_,hcm',_,hel'⟩:=SliceOf.open hT'
   injection hv with hv _ hv'
   subst hv hv'
   obtain ⟨b,o,cs,rfl,hl,hA,rfl⟩:=hel' k x hx
   have er:=Ext.refl w'
   rw [hd] at hD
   simp only [dedupA] at hD
   simp (disch:=try exact DI) only [↓PR,QR,simprocAttr,↓n37c1,↓n37c2,hdec,hA.c1,hc']
   rw [op_sliceTo Tryz.underlying138 ty9 b o l.length c .i64 k (by omega)]
   have hlen:(l.take k).length=k:=by rw [List.length_take];omega
   have hpre:SliceOf w' 1 EStr (.slice (some ⟨b,o,none⟩) k c) (l.take k):=by
    refine ⟨_,c,by rw [hlen],by rw [hlen];omega,hcm,fun _=>⟨b,o,rfl,fun i y hy=>?_⟩⟩
    rw [List.getElem?_take] at hy
    split at hy
    · obtain ⟨b',o',cs,hA',h1,h2,h3⟩:=hel' i y hy
      injection hA' with hA'
      injection hA' with h5 h6
      subst h5 h6
      exact ⟨cs,h1,h2,h3⟩
    · cases hy
   refine zcr (Contains_string_ret w' _ _ x hpre) fun w2 e2=>?_
   have hJ2:=hJe j w' w2 hJ e2
   have htk:l.take (k+1)=l.take k++[x]:=take_snoc hx
   cases hany:(l.take k).any (fun y=>decide (x=y)) with
   | true =>
    rw [hany,if_pos rfl,← htk] at hD
    simp (disch:=try exact DI) only [↓PR,QR,simprocAttr,↓n37c1,↓n37c2]
    exact ⟨⟨k+1,j,rfl,by omega,hJ2,hj,hD⟩,meas_lt hlt⟩
   | false =>
    rw [hany,if_neg (by simp),← htk] at hD
    have hjl:j < (dedupA [] l).length:=by
     have:=congrArg List.length hD
     simp at this
     omega
    have hxj:(dedupA [] l)[j]?=some x:=by
     have:=congrArg (fun l=>l[0]?) hD
     simpa using this
    have hD2:(dedupA [] l).drop (j+1)=dedupA (l.take (k+1)) (l.drop (k+1)):=by
     rw [← List.tail_drop,hD];rfl
    have hs:=hstep j hjl w2 hJ2
    rw [show strX (dedupA [] l) j = .string x by unfold strX;rw [hxj]] at hs
    simp (disch:=try exact DI) only [↓PR,QR,simprocAttr,↓n37c1,↓n37c2]
    refine callV_mono hs (fun ch w h=>h) ?_
    rintro v w3 (⟨rfl,h2⟩ | ⟨rfl,h2⟩)
    · simp (disch:=try exact DI) only [↓PR,QR,simprocAttr,↓n37c1,↓n37c2]
      exact ⟨⟨k+1,j+1,rfl,by omega,h2,hjl,hD2⟩,meas_lt hlt⟩
    · simp (disch:=try exact DI) only [↓PR,QR,simprocAttr,↓n37c1,↓n37c2]
      exact .inr h2
 · subst hk
   simp (disch:=try exact DI) only [↓PR,QR,simprocAttr,↓n37c1,↓n37c2,hdec]
   rw [hd] at hD
   have hjl:j=(dedupA [] l).length:=by
    have:=congrArg List.length hD
    simp [dedupA] at this
    omega
   rw [← hjl]
   exact .inl hJ
end Go.Proofs.YtdfhjlggcdemhaaGreat
namespace Go.Proofs.YtdfhjlggcdemhaaGreat
open Sw
open Go.RowKit (intOf Below)
def lastP {β:Type} (l:List (ByteArray×β)) (s:ByteArray):Option β:=(l.reverse.find? (fun p=>decide (p.1=s))).map (·.2)
theorem lastP_snoc {β:Type} (ps:List (ByteArray×β)) (p:ByteArray×β) (s:ByteArray):lastP (ps++[p]) s=if p.1=s then some p.2 else lastP ps s:=by
 unfold lastP
 rw [List.reverse_append,List.reverse_singleton,List.singleton_append,List.find?_cons]
 by_cases h:p.1=s<;>simp [h]
theorem lastP_mem {β:Type} {ps:List (ByteArray×β)} {s:ByteArray} {v:β} (h:lastP ps s=some v):(s,v)∈ps:=by
 unfold lastP at h
 obtain ⟨q,hq,rfl⟩:=Option.map_eq_some_iff.1 h
 have h1:=List.find?_some hq
 have h2:=List.mem_of_find?_eq_some hq
 simp only [decide_eq_true_eq] at h1
 subst h1
 exact List.mem_reverse.1 h2
def vI (l:List (ByteArray×Int)):List (ByteArray×Value):=l.map fun p=>(p.1,.int .i64 p.2)
def vB (l:List (ByteArray×Bool)):List (ByteArray×Value):=l.map fun p=>(p.1,.bool p.2)
theorem lastOf_map {β:Type} (g:β→Value) (l:List (ByteArray×β)) (s:ByteArray):lastOf (l.map fun p=>(p.1,g p.2)) s=(lastP l s).map g:=by
 unfold lastOf lastP
 rw [← List.map_reverse,List.find?_map]
 simp only [Option.map_map]
 rfl
theorem lastOf_vI (l:List (ByteArray×Int)) (s:ByteArray):lastOf (vI l) s=(lastP l s).map fun n => .int .i64 n:=lastOf_map _ l s
theorem lastOf_vB (l:List (ByteArray×Bool)) (s:ByteArray):lastOf (vB l) s=(lastP l s).map Value.bool:=lastOf_map _ l s
structure CkO (a0 w:World) (cb md ms:Nat) (deps:List (ByteArray×Int)) (strs:List (ByteArray×Bool)) (at_ fld:Int) (fs:List FieldD):Prop where
 ext:Ext a0 w
 obj:∃ dn mv ds mn fv,w.heap[cb]?=some (.cells #[.string dn,mv,.string ds,.map (some md),.map (some ms),.int .i64 at_,.int .i64 fld,.string mn,fv] 159 (0,0))∧FieldsOf a0 fv fs
 mdeps:MapOf w md (vI deps)
 mstrs:MapOf w ms (vB strs)
 lcb:a0.heap.size≤cb
 lmd:a0.heap.size≤md
 lms:a0.heap.size≤ms
 ne:md≠ms
section
variable {a0 w w':World} {cb md ms:Nat} {deps:List (ByteArray×Int)} {strs:List (ByteArray×Bool)} {at_ fld:Int} {fs:List FieldD}
theorem CkO.chk (h:CkO a0 w cb md ms deps strs at_ fld fs):Chk w cb md ms (vI deps) (vB strs) at_ fld fs:=by
 obtain ⟨dn,mv,ds,mn,fv,h1,h2⟩:=h.obj
 refine ⟨⟨dn,mv,ds,mn,fv,h1,h2.ext h.ext⟩,h.mdeps,h.mstrs,fun k v hv=>?_,fun k v hv=>?_⟩
 · rw [lastOf_vI] at hv;obtain ⟨n,_,rfl⟩:=Option.map_eq_some_iff.1 hv;exact ⟨n,rfl⟩
 · rw [lastOf_vB] at hv;obtain ⟨n,_,rfl⟩:=Option.map_eq_some_iff.1 hv;exact ⟨n,rfl⟩
theorem CkO.nd (h:CkO a0 w cb md ms deps strs at_ fld fs):cb≠md∧cb≠ms∧cb < w.heap.size∧md < w.heap.size∧ms < w.heap.size:=by
 obtain ⟨dn,mv,ds,mn,fv,h1,h2⟩:=h.obj
 refine ⟨?_,?_,(Array.getElem?_eq_some_iff.1 h1).1,h.mdeps.lt,h.mstrs.lt⟩
 · rintro rfl;have:=h.mdeps.obj;rw [h1] at this;cases this
 · rintro rfl;have:=h.mstrs.obj;rw [h1] at this;cases this
theorem CkO.go (h:CkO a0 w cb md ms deps strs at_ fld fs) (e:Ext w w'):CkO a0 w' cb md ms deps strs at_ fld fs:=by
 obtain ⟨dn,mv,ds,mn,fv,h1,h2⟩:=h.obj
 exact ⟨h.ext.trans e,⟨dn,mv,ds,mn,fv,e.obj h1,h2⟩,h.mdeps.ext e,h.mstrs.ext e,h.lcb,h.lmd,h.lms,h.ne⟩
theorem CkO.other (h:CkO a0 w cb md ms deps strs at_ fld fs) {b o:Nat} (hb:a0.heap.size≤b) (hn:b≠cb) (v:Value):CkO a0 (w.setCell ⟨b,o,none⟩ v) cb md ms deps strs at_ fld fs:=by
 obtain ⟨dn,mv,ds,mn,fv,h1,h2⟩:=h.obj
 refine ⟨h.ext.setCell hb v,⟨dn,mv,ds,mn,fv,?_,h2⟩,h.mdeps.setCell _ _,h.mstrs.setCell _ _,h.lcb,h.lmd,h.lms,h.ne⟩
 rw [Only.setCell w b o v cb (fun e=>hn e.symm)];exact h1
theorem CkO.setFld (h:CkO a0 w cb md ms deps strs at_ fld fs) (n:Int):CkO a0 (w.setCell ⟨cb,6,none⟩ (.int .i64 n)) cb md ms deps strs at_ n fs:=by
 obtain ⟨dn,mv,ds,mn,fv,h1,h2⟩:=h.obj
 exact ⟨h.ext.setCell h.lcb _,⟨dn,mv,ds,mn,fv,heap_set h1 _,h2⟩,h.mdeps.setCell _ _,h.mstrs.setCell _ _,h.lcb,h.lmd,h.lms,h.ne⟩
theorem CkO.setAt (h:CkO a0 w cb md ms deps strs at_ fld fs) (n:Int):CkO a0 (w.setCell ⟨cb,5,none⟩ (.int .i64 n)) cb md ms deps strs n fld fs:=by
 obtain ⟨dn,mv,ds,mn,fv,h1,h2⟩:=h.obj
 exact ⟨h.ext.setCell h.lcb _,⟨dn,mv,ds,mn,fv,heap_set h1 _,h2⟩,h.mdeps.setCell _ _,h.mstrs.setCell _ _,h.lcb,h.lmd,h.lms,h.ne⟩
theorem CkO.setMsg (h:CkO a0 w cb md ms deps strs at_ fld fs) (s:ByteArray) (fv':Value) (fs':List FieldD) (hf:FieldsOf a0 fv' fs'):CkO a0 ((w.setCell ⟨cb,7,none⟩ (.string s)).setCell ⟨cb,8,none⟩ fv') cb md ms deps strs at_ fld fs':=by
 obtain ⟨dn,mv,ds,mn,fv,h1,h2⟩:=h.obj
 exact ⟨(h.ext.setCell h.lcb _).setCell h.lcb _,⟨dn,mv,ds,s,fv',heap_set (heap_set h1 _) _,hf⟩,(h.mdeps.setCell _ _).setCell _ _,(h.mstrs.setCell _ _).setCell _ _,h.lcb,h.lmd,h.lms,h.ne⟩
theorem CkO.putOther (h:CkO a0 w cb md ms deps strs at_ fld fs) {B:Nat} (o:Obj) (hB:a0.heap.size≤B) (h1:B≠cb) (h2:B≠md) (h3:B≠ms):CkO a0 (w.putObj B o) cb md ms deps strs at_ fld fs:=by
 obtain ⟨dn,mv,ds,mn,fv,h4,h5⟩:=h.obj
 exact ⟨h.ext.putObj hB o,⟨dn,mv,ds,mn,fv,(World.putObj_heap_other (fun e=>h1 e.symm)).trans h4,h5⟩,MapB.putOther h.mdeps (fun e=>h2 e.symm) o,MapB.putOther h.mstrs (fun e=>h3 e.symm) o,h.lcb,h.lmd,h.lms,h.ne⟩
theorem CkO.unmark (h:CkO a0 w cb md ms deps strs at_ fld fs) {B:Nat} (hm:MarkAt B w) (hB:a0.heap.size≤B):CkO a0 (w.putObj B (.deferred none)) cb md ms deps strs at_ fld fs:=by
 obtain ⟨dn,mv,ds,mn,fv,h4,h5⟩:=h.obj
 refine h.putOther _ hB ?_ ?_ ?_
 · rintro rfl;unfold MarkAt at hm;rw [h4] at hm;cases hm
 · rintro rfl;unfold MarkAt at hm;have:=h.mdeps.obj;rw [hm] at this;cases this
 · rintro rfl;unfold MarkAt at hm;have:=h.mstrs.obj;rw [hm] at this;cases this
theorem CkO.lasts {B:Nat} (hB:a0.heap.size≤B):Lasts B (fun w=>CkO a0 w cb md ms deps strs at_ fld fs):=by
 refine ⟨fun w w' h e=>h.go e,fun w l r r' hl h hr=>?_⟩
 obtain ⟨dn,mv,ds,mn,fv,h4,h5⟩:=h.obj
 refine h.putOther _ (by omega) ?_ ?_ ?_
 · rintro rfl;rw [h4] at hr;cases hr
 · rintro rfl;have:=h.mdeps.obj;rw [hr] at this;cases this
 · rintro rfl;have:=h.mstrs.obj;rw [hr] at this;cases this
theorem CkO.turn (h:CkO a0 w cb md ms deps strs at_ fld fs) {o:Obj} {r:Nat} (hr:r=md∨r=ms):CkO a0 w cb md ms deps strs at_ fld fs:=h
theorem StrsAt.lasts (B pb:Nat) (sv:Value) (l:List ByteArray):Lasts B (fun w=>StrsAt w pb sv l) :=
 Lasts.and (Lasts.cell B) (Lasts.and ⟨fun _ _ h e=>h.ext keptStr e,fun _ _ _ _ _ h hl=>SliceOf.putLoop (fun _ _ h=>h) hl h⟩ (Lasts.const _ _))
theorem StrsAt.set {w:World} {pb:Nat} {sv:Value} {l:List ByteArray} (h:StrsAt w pb sv l) {b o:Nat} (hb:b < pb) (u:Value):StrsAt (w.setCell ⟨b,o,none⟩ u) pb sv l :=
 ⟨by rw [cell_set_other (by omega)];exact h.1,SliceOf.setOther h.2.1 u (fun A m c e=>by have:=h.2.2 A m c e;omega) (fun _ _ h=>h),h.2.2⟩
end
def refsM (m:MsgD):List ByteArray:=dedupA [] (allRefs m.fields)
def fieldsP (deps:List (ByteArray×Int)) (strs:List (ByteArray×Bool)) (bef:List FieldD):List FieldD→Int×Int
 | []=>(-1,0)
 | f::l=>if examineC bef (vI deps) (vB strs) f=0 then fieldsP deps strs (bef++[f]) l else (bef.length,examineC bef (vI deps) (vB strs) f)
def maxI (a b:Int):Int:=if b > a then b else a
def depthM (deps:List (ByteArray×Int)) (m:MsgD):Int:=(refsM m).foldl (fun d s=>maxI d ((lastP deps s).getD 0)) 0
def strictM (strs:List (ByteArray×Bool)) (m:MsgD):Bool:=(m.fields.all fun f=>!f.loose)&&(refsM m).all fun s=>(lastP strs s).getD false
def tailP (deps:List (ByteArray×Int)) (m:MsgD) (r:Int×Int):Int×Int:=if r.2=0 then (if depthM deps m < 16 then (-1,0) else (-1,10)) else r
def nextP (deps:List (ByteArray×Int)) (strs:List (ByteArray×Bool)) (m:MsgD):Int×Int :=
 if nameB m.name then (if (lastP deps m.name).isSome then (-1,2) else (if 1≤m.fields.length∧m.fields.length≤40 then tailP deps m (fieldsP deps strs [] m.fields) else (-1,3))) else (-1,1)
def nxtR (a0:World) (at_:Int) (r:Int×Int) (K:World→Prop):Ending→World→Prop:=fun e w'=>Ext a0 w'∧(r.2=0∧e = .returned (.tuple #[])∧K w'∨r.2≠0∧e = .panicked [flawEntry at_ r.1 r.2])
theorem nxtR_ret {a0 w':World} {at_:Int} {r:Int×Int} {K:World→Prop} (e:Ext a0 w') (h:r.2=0) (hK:K w'):nxtR a0 at_ r K (.returned (.tuple #[])) w':=⟨e,.inl ⟨h,rfl,hK⟩⟩
theorem nxtR_pan {a0 w':World} {at_ a b:Int} {r:Int×Int} {K:World→Prop} (e:Ext a0 w') (h:r=(a,b)) (h0:b≠0):nxtR a0 at_ r K (.panicked [flawEntry at_ a b]) w':=by subst h;exact ⟨e,.inr ⟨h0,rfl⟩⟩
theorem qV_loadG {P:Program} {C:World→Prop} [ClassNe C] {T:TypeId} {a:Addr} {v:Value} {k:Value→Prop} (h:∀ w',C w'→Loads P w' T a v):qV P C (Instr.loadAt T (.pointer (some a))) k=k v :=
 qV_eqC fun w' e=>run_of_op fun QP k=>op_load (h w' e)
section
variable {a0 w:World} {cb md ms:Nat} {deps:List (ByteArray×Int)} {strs:List (ByteArray×Bool)} {at_ fld:Int} {fs:List FieldD}
theorem nxt_end (h:CkO a0 w cb md ms deps strs at_ (-1) fs) (p2 p3 p6 p9 B:Nat) (m:MsgD) (fv:Value) (st:Bool) (dp:Int) (hd0:0≤dp) (hd1:dp≤1000)
 (o2:w.heap[p2]?=some (.cells #[.pointer (some ⟨cb,0,none⟩)] 127 (0,0))) (o3:w.heap[p3]?=some (.cells (msgCells m fv).toArray 44 (0,0))) (o6:w.heap[p6]?=some (.cells #[.bool st] 4 (0,0))) (o9:w.heap[p9]?=some (.cells #[.int .i64 dp] 3 (0,0)))
 (hmk:MarkAt B w) (hB:a0.heap.size≤B) (r:Int×Int) (hr:r=if dp < 16 then (-1,0) else (-1,10)) (K:World→Prop)
 (hK:∀ w',CkO a0 w' cb md ms (deps++[(m.name,dp+1)]) (strs++[(m.name,st)]) at_ (-1) fs→K w') :
 drawK w fun C12 w=>n45c8 (.pointer (some ⟨p2,0,none⟩)) (.pointer (some ⟨p3,0,none⟩)) (.pointer (some ⟨p6,0,none⟩)) (.pointer (some ⟨p9,0,none⟩)) C12 [Sw.mark B] (nxtR a0 at_ r K) w:=by
 obtain ⟨n1,n2,l1,l2,l3⟩:=h.nd
 have hne:=h.ne
 obtain ⟨dn,mv,ds,mn,fv',h1,h2⟩:=h.obj
 have m2:p2≠md:=by rintro rfl;have:=h.mdeps.obj;rw [o2] at this;cases this
 have m3:p3≠md:=by rintro rfl;have:=h.mdeps.obj;rw [o3] at this;cases this
 have m6:p6≠md:=by rintro rfl;have:=h.mdeps.obj;rw [o6] at this;cases this
 have m9:p9≠md:=by rintro rfl;have:=h.mdeps.obj;rw [o9] at this;cases this
 have q2:p2≠ms:=by rintro rfl;have:=h.mstrs.obj;rw [o2] at this;cases this
 have q3:p3≠ms:=by rintro rfl;have:=h.mstrs.obj;rw [o3] at this;cases this
 have q6:p6≠ms:=by rintro rfl;have:=h.mstrs.obj;rw [o6] at this;cases this
 have q9:p9≠ms:=by rintro rfl;have:=h.mstrs.obj;rw [o9] at this;cases this
 refine drawK_introB (w1:=w) md ms (fun _ _ _ _=>rfl) ?_
 unfold n45c8
 simp (disch:=try exact DI) only [↓PR,QR,simprocAttr,(cells_of_heap h1).1,(cells_of_heap o2).1,(cells_of_heap o3).1,(cells_of_heap o6).1,(cells_of_heap o9).1]
 have eD:Ext w w.drew:=(Ext.refl w).drew
 have hmd:MapOf w.drew md (vI deps):=h.mdeps.ext eD
 rw [op_mapEntryS Tryz.underlying156 Tryz.underlying9 ty3 hmd m.name]
 refine ⟨fun b hb b1 b2=>(World.putObj_heap_other b1),?_⟩
 unfold n45c7
 simp (disch:=try exact DI) only [↓PR,QR,simprocAttr]
 rw [op_entryStore (MapB.ent hmd m.name _) (hasK_ent _ _),ent_put,putObj_putObj]
 have hw1:w.drew.putObj md (mapObj (fun s:ByteArray=>Value.string s) (putL (bld (vI deps)).1 (bld (vI deps)).2 m.name (.int .i64 (IntKind.i64.wrap (dp+1)))) (putC (bld (vI deps)).1 (bld (vI deps)).2 m.name))=putW w.drew md (vI deps) m.name (.int .i64 (IntKind.i64.wrap (dp+1))):=by
  unfold putW;rw [bld_snoc]
 rw [hw1]
 have hms:MapOf (putW w.drew md (vI deps) m.name (.int .i64 (IntKind.i64.wrap (dp+1)))) ms (vB strs):=MapB.putOther (h.mstrs.ext eD) (fun e=>hne e.symm) _
 refine ⟨fun b hb b1 b2=>(World.putObj_heap_other b1),?_⟩
 rw [op_mapEntryS Tryz.underlying157 Tryz.underlying9 ty4 hms m.name]
 refine ⟨fun b hb b1 b2=>(World.putObj_heap_other b2).trans (World.putObj_heap_other b1),?_⟩
 unfold n45c6
 simp (disch:=try exact DI) only [↓PR,QR,simprocAttr]
 rw [op_entryStore (MapB.ent hms m.name _) (hasK_ent _ _),ent_put,putObj_putObj]
 have hw2:(putW w.drew md (vI deps) m.name (.int .i64 (IntKind.i64.wrap (dp+1)))).putObj ms (mapObj (fun s:ByteArray=>Value.string s) (putL (bld (vB strs)).1 (bld (vB strs)).2 m.name (.bool st)) (putC (bld (vB strs)).1 (bld (vB strs)).2 m.name))=putW (putW w.drew md (vI deps) m.name (.int .i64 (IntKind.i64.wrap (dp+1)))) ms (vB strs) m.name (.bool st):=by
  unfold putW;rw [bld_snoc,bld_snoc]
 rw [hw2]
 have hwr:IntKind.i64.wrap (dp+1)=dp+1:=wrap_ok (by omega) (by omega)
 rw [hwr]
 have hC2:CkO a0 (putW (putW w.drew md (vI deps) m.name (.int .i64 (dp+1))) ms (vB strs) m.name (.bool st)) cb md ms (deps++[(m.name,dp+1)]) (strs++[(m.name,st)]) at_ (-1) fs:=by
  refine ⟨(h.ext.drew.putObj h.lmd _).putObj h.lms _,⟨dn,mv,ds,mn,fv',((World.putObj_heap_other n2).trans (World.putObj_heap_other n1)).trans h1,h2⟩,?_,?_,h.lcb,h.lmd,h.lms,hne⟩
  · have:=MapB.putOther (hmd.put m.name (.int .i64 (dp+1))) hne (mapObjS (bld (vB strs++[(m.name,.bool st)])).1 (bld (vB strs++[(m.name,.bool st)])).2)
    unfold vI at this ⊢
    rw [List.map_append]
    exact this
  · rw [hwr] at hms
    have:=hms.put m.name (.bool st)
    unfold vB at this ⊢
    rw [List.map_append]
    exact this
 have hk2:MarkAt B (putW (putW w.drew md (vI deps) m.name (.int .i64 (dp+1))) ms (vB strs) m.name (.bool st)):=by
  have b1:B≠md:=by rintro rfl;have:=h.mdeps.obj;unfold MarkAt at hmk;rw [hmk] at this;cases this
  have b2:B≠ms:=by rintro rfl;have:=h.mstrs.obj;unfold MarkAt at hmk;rw [hmk] at this;cases this
  exact ((World.putObj_heap_other b2).trans (World.putObj_heap_other b1)).trans hmk
 have o2':(putW (putW w.drew md (vI deps) m.name (.int .i64 (dp+1))) ms (vB strs) m.name (.bool st)).heap[p2]?=some (.cells #[.pointer (some ⟨cb,0,none⟩)] 127 (0,0)):=((World.putObj_heap_other q2).trans (World.putObj_heap_other m2)).trans o2
 have o9':(putW (putW w.drew md (vI deps) m.name (.int .i64 (dp+1))) ms (vB strs) m.name (.bool st)).heap[p9]?=some (.cells #[.int .i64 dp] 3 (0,0)):=((World.putObj_heap_other q9).trans (World.putObj_heap_other m9)).trans o9
 generalize putW (putW w.drew md (vI deps) m.name (.int .i64 (dp+1))) ms (vB strs) m.name (.bool st)=W at hC2 hk2 o2' o9' ⊢
 refine turnK_intro ?_
 unfold n45c5
 simp (disch:=try exact DI) only [↓PR,QR,simprocAttr,(cells_of_heap o2').1,(cells_of_heap o9').1]
 refine callK_flw (need_flw hC2.chk _ 10 (by decide)) (fun w' e h0=>?_) (fun w' e h0=>?_)
 · refine outX_mark (hk2.ext e) ?_
   rw [outX_nil]
   have hC3:=(hC2.go e).unmark (hk2.ext e) hB
   refine nxtR_ret hC3.ext ?_ (hK _ hC3)
   rw [hr]
   by_cases hdp:dp < 16
   · rw [if_pos hdp]
   · rw [decide_eq_false hdp] at h0;exact absurd h0 (by decide)
 · refine outQ_mark (hk2.ext e) ?_
   rw [outQ_nil]
   have hC3:=(hC2.go e).unmark (hk2.ext e) hB
   by_cases hdp:dp < 16
   · rw [decide_eq_true hdp] at h0;exact absurd rfl h0
   · rw [decide_eq_false hdp]
     rw [if_neg hdp] at hr
     exact nxtR_pan hC3.ext hr (by decide)
theorem maxI_le {a b c:Int} (h1:a≤c) (h2:b≤c):maxI a b≤c:=by unfold maxI;split<;>assumption
theorem le_maxI (a b:Int):a≤maxI a b:=by unfold maxI;split<;>omega
theorem foldl_maxI (g:ByteArray→Int):∀ (l:List ByteArray) (d:Int),0≤d→(∀ s∈l,0≤g s∧g s≤16)→d≤16→0≤l.foldl (fun d s=>maxI d (g s)) d∧l.foldl (fun d s=>maxI d (g s)) d≤16
 | [],d,h0,_,h1=>⟨h0,h1⟩
 | s::l,d,h0,h,h1=>foldl_maxI g l _ (Int.le_trans h0 (le_maxI _ _)) (fun u hu=>h u (List.mem_cons_of_mem _ hu)) (maxI_le h1 (h s (List.mem_cons_self ..)).2)
def Low (deps:List (ByteArray×Int)):Prop:=∀ p∈deps,0≤p.2∧p.2≤16
theorem Low.get {deps:List (ByteArray×Int)} (h:Low deps) (s:ByteArray):0≤(lastP deps s).getD 0∧(lastP deps s).getD 0≤16:=by
 cases hl:lastP deps s with
 | none=>exact ⟨by decide,by decide⟩
 | some n=>exact h _ (lastP_mem hl)
theorem nxt_range (hlow:Low deps) (h:CkO a0 w cb md ms deps strs at_ fld fs) (p2 p3 p6:Nat) (m:MsgD) (fv:Value) (st:Bool) (hst:st=m.fields.all fun f=>!f.loose) (hF:FieldsOf a0 fv m.fields) (hb:(allRefs m.fields).length≤1048576) (hp2:a0.heap.size≤p2) (hp3:a0.heap.size≤p3) (hp6:a0.heap.size≤p6) (h26:p2 < p6) (h36:p3 < p6)
 (o2:w.heap[p2]?=some (.cells #[.pointer (some ⟨cb,0,none⟩)] 127 (0,0))) (o3:w.heap[p3]?=some (.cells (msgCells m fv).toArray 44 (0,0))) (o6:w.heap[p6]?=some (.cells #[.bool st] 4 (0,0)))
 (r:Int×Int) (hr:r=if depthM deps m < 16 then (-1,0) else (-1,10)) (K:World→Prop)
 (hK:∀ w',CkO a0 w' cb md ms (deps++[(m.name,depthM deps m+1)]) (strs++[(m.name,strictM strs m)]) at_ (-1) fs→K w') :
 n45c10 (.pointer (some ⟨p2,0,none⟩)) (.pointer (some ⟨p3,0,none⟩)) (.pointer (some ⟨p6,0,none⟩)) [] (nxtR a0 at_ r K) w:=by
 obtain ⟨n1,n2,l1,l2,l3⟩:=h.nd
 obtain ⟨dn,mv,ds,mn,fv',h1,h2⟩:=h.obj
 have c2:p2≠cb:=by rintro rfl;rw [o2] at h1;cases h1
 have c3:p3≠cb:=by rintro rfl;rw [o3] at h1;cases h1
 have c6:p6≠cb:=by rintro rfl;rw [o6] at h1;cases h1
 have lp6:p6 < w.heap.size:=(Array.getElem?_eq_some_iff.1 o6).1
 have lp3:p3 < w.heap.size:=(Array.getElem?_eq_some_iff.1 o3).1
 unfold n45c10
 simp (disch:=try exact DI) only [↓PR,QR,simprocAttr,(cells_of_heap h1).1,(cells_of_heap h1).2,(cells_of_heap o2).1,(cells_of_heap o3).1]
 have hC1:=h.setFld (-1)
 have o2':(w.setCell ⟨cb,6,none⟩ (.int .i64 (-1))).heap[p2]?=some (.cells #[.pointer (some ⟨cb,0,none⟩)] 127 (0,0)):=by rw [Only.setCell w cb 6 _ p2 c2];exact o2
 have o3':(w.setCell ⟨cb,6,none⟩ (.int .i64 (-1))).heap[p3]?=some (.cells (msgCells m fv).toArray 44 (0,0)):=by rw [Only.setCell w cb 6 _ p3 c3];exact o3
 have o6':(w.setCell ⟨cb,6,none⟩ (.int .i64 (-1))).heap[p6]?=some (.cells #[.bool st] 4 (0,0)):=by rw [Only.setCell w cb 6 _ p6 c6];exact o6
 simp only [World.size_setCell]
 have eW:=hC1.go ((Ext.refl (w.setCell ⟨cb,6,none⟩ (.int .i64 (-1)))).alloc (Obj.cells #[.int .i64 0] 3))
 have x2:=((Ext.refl (w.setCell ⟨cb,6,none⟩ (.int .i64 (-1)))).alloc (Obj.cells #[.int .i64 0] 3)).obj o2'
 have x3:=((Ext.refl (w.setCell ⟨cb,6,none⟩ (.int .i64 (-1)))).alloc (Obj.cells #[.int .i64 0] 3)).obj o3'
 have x6:=((Ext.refl (w.setCell ⟨cb,6,none⟩ (.int .i64 (-1)))).alloc (Obj.cells #[.int .i64 0] 3)).obj o6'
 have x9:=heap_new (w.setCell ⟨cb,6,none⟩ (.int .i64 (-1))) #[.int .i64 0] 3
 rw [World.size_setCell] at x9
 generalize hW:World.alloc (w.setCell ⟨cb,6,none⟩ (.int .i64 (-1))) _=W at eW x2 x3 x6 x9
 have hsz:W.heap.size=w.heap.size+1:=by rw [← hW];simp only [World.size_alloc,World.size_setCell]
 clear hW hC1 o2 o3 o6 o2' o3' o6' h
 have lW:a0.heap.size≤W.heap.size:=eW.ext.size
 refine callK_ret (Refers_ret W _ m ⟨fv,rfl,hF.ext eW.ext⟩ hb) ?_
 rintro _ w7 ⟨pb,sv,rfl,hS,hpb,e7⟩
 have s7:=e7.size
 unfold n45c9
 let rs:=refsM m
 let I:Nat→World→Prop:=fun k w'=>CkO a0 w' cb md ms deps strs at_ (-1) fs∧StrsAt w' pb sv (allRefs m.fields)∧w'.heap[p2]?=some (.cells #[.pointer (some ⟨cb,0,none⟩)] 127 (0,0))∧w'.heap[p3]?=some (.cells (msgCells m fv).toArray 44 (0,0)) ∧
  w'.heap[p6]?=some (.cells #[.bool (st&&(rs.take k).all fun s=>(lastP strs s).getD false)] 4 (0,0))∧w'.heap[w.heap.size]?=some (.cells #[.int .i64 ((rs.take k).foldl (fun d s=>maxI d ((lastP deps s).getD 0)) 0)] 3 (0,0))
 have hLI:∀ k,Lasts w7.heap.size (I k):=fun k=>Lasts.and (CkO.lasts (by omega)) (Lasts.and (StrsAt.lasts _ _ _ _) (Lasts.and (Lasts.has _ (by simp)) (Lasts.and (Lasts.has _ (by simp)) (Lasts.and (Lasts.has _ (by simp)) (Lasts.has _ (by simp))))))
 refine ⟨_,_,rs.length,strX rs,fun w=>StrsAt w pb sv (allRefs m.fields),I,fun _ _=>False,fun _ _=>False,rfl,c162,Refers_seq pb sv _,⟨eW.go e7,hS,e7.obj x2,e7.obj x3,?_,e7.obj x9⟩,fun k w h=>h.2.1,hLI,fun _=>Lasts.const _ _,?_,?_,?_,?_⟩
 · have:=e7.obj x6
   rw [this];simp
 · intro rec j w3 hj hI3 hrec hready
   refine ⟨hready,fun w4 hbz=>?_⟩
   have hrec4:=hrec.busied hbz
   have hI4:=(hLI j).busied hbz (Nat.le_succ _) hI3
   clear hI3 hrec hready hbz
   obtain ⟨hC4,hS4,y2,y3,y6,y9⟩:=hI4
   obtain ⟨s,hx⟩:=getElem?_lt hj
   have hrs:rs[j]?=some s:=hx
   rw [show strX rs j = .string s by unfold strX;rw [hrs]]
   obtain ⟨dn,mv,ds,mn,fv',h1,h2⟩:=hC4.obj
   have l9:w.heap.size < w4.heap.size:=(Array.getElem?_eq_some_iff.1 y9).1
   have hstep:rs.take (j+1)=rs.take j++[s]:=take_snoc hrs
   refine drawK_intro ?_
   unfold n45c4
   simp (disch:=try exact DI) only [↓PR,QR,simprocAttr,(cells_of_heap y9).1,(cells_of_heap y2).1,(cells_of_heap h1).1]
   rw [qV_lookup1E Tryz.underlying156 Tryz.underlying9 ty3 (hC4.mdeps.ext ((Ext.refl w4).wdrew)) s]
   have hg:(lastOf (vI deps) s).getD (.int .i64 0) = .int .i64 ((lastP deps s).getD 0):=by rw [lastOf_vI];cases lastP deps s<;>rfl
   rw [hg]
   simp (disch:=try exact DI) only [↓PR,QR,simprocAttr,(cells_of_heap y9).1,(cells_of_heap y9).2]
   refine turnK_intro ?_
   have e4:Ext w4 w4.drew:=(Ext.refl w4).wdrew
   have hC5:=(hC4.go e4).other (b:=w.heap.size) (o:=0) (by omega) (by omega) (.int .i64 (if (lastP deps s).getD 0 > (rs.take j).foldl (fun d s=>maxI d ((lastP deps s).getD 0)) 0 then (lastP deps s).getD 0 else (rs.take j).foldl (fun d s=>maxI d ((lastP deps s).getD 0)) 0))
   have hS5:StrsAt (w4.drew.setCell ⟨w.heap.size,0,none⟩ (.int .i64 (if (lastP deps s).getD 0 > (rs.take j).foldl (fun d s=>maxI d ((lastP deps s).getD 0)) 0 then (lastP deps s).getD 0 else (rs.take j).foldl (fun d s=>maxI d ((lastP deps s).getD 0)) 0))) pb sv (allRefs m.fields):=(hS4.ext e4).set (by omega) _
   have hrec5:RecAt rec w7.heap.size (w4.drew.setCell ⟨w.heap.size,0,none⟩ (.int .i64 (if (lastP deps s).getD 0 > (rs.take j).foldl (fun d s=>maxI d ((lastP deps s).getD 0)) 0 then (lastP deps s).getD 0 else (rs.take j).foldl (fun d s=>maxI d ((lastP deps s).getD 0)) 0))):=hrec4.drew.setCell _ _
   have z2:=(Only.setCell w4.drew w.heap.size 0 (.int .i64 (if (lastP deps s).getD 0 > (rs.take j).foldl (fun d s=>maxI d ((lastP deps s).getD 0)) 0 then (lastP deps s).getD 0 else (rs.take j).foldl (fun d s=>maxI d ((lastP deps s).getD 0)) 0)) p2 (by omega)).trans y2
   have z3:=(Only.setCell w4.drew w.heap.size 0 (.int .i64 (if (lastP deps s).getD 0 > (rs.take j).foldl (fun d s=>maxI d ((lastP deps s).getD 0)) 0 then (lastP deps s).getD 0 else (rs.take j).foldl (fun d s=>maxI d ((lastP deps s).getD 0)) 0)) p3 (by omega)).trans y3
   have z6:=(Only.setCell w4.drew w.heap.size 0 (.int .i64 (if (lastP deps s).getD 0 > (rs.take j).foldl (fun d s=>maxI d ((lastP deps s).getD 0)) 0 then (lastP deps s).getD 0 else (rs.take j).foldl (fun d s=>maxI d ((lastP deps s).getD 0)) 0)) p6 (by omega)).trans y6
   have z9:=heap_set (w:=w4.drew) (o:=0) y9 (.int .i64 (if (lastP deps s).getD 0 > (rs.take j).foldl (fun d s=>maxI d ((lastP deps s).getD 0)) 0 then (lastP deps s).getD 0 else (rs.take j).foldl (fun d s=>maxI d ((lastP deps s).getD 0)) 0))
   rw [show (#[Value.int .i64 ((rs.take j).foldl (fun d s=>maxI d ((lastP deps s).getD 0)) 0)]:Array Value).setIfInBounds 0 (.int .i64 (if (lastP deps s).getD 0 > (rs.take j).foldl (fun d s=>maxI d ((lastP deps s).getD 0)) 0 then (lastP deps s).getD 0 else (rs.take j).foldl (fun d s=>maxI d ((lastP deps s).getD 0)) 0)) = #[.int .i64 ((rs.take (j+1)).foldl (fun d s=>maxI d ((lastP deps s).getD 0)) 0)] from by rw [hstep,List.foldl_append];rfl] at z9
   generalize w4.drew.setCell ⟨w.heap.size,0,none⟩ _=w5 at hC5 hS5 hrec5 z2 z3 z6 z9 ⊢
   clear hC4 hS4 hrec4 y2 y3 y6 y9 h1 hg
   obtain ⟨dn,mv,ds,mn,fv',h1,h2⟩:=hC5.obj
   have hall:(st&&(rs.take (j+1)).all fun s=>(lastP strs s).getD false)=((st&&(rs.take j).all fun s=>(lastP strs s).getD false)&&(lastP strs s).getD false):=by
    rw [hstep,List.all_append,Bool.and_assoc];simp
   have fin:∀ b,b=(st&&(rs.take (j+1)).all fun s=>(lastP strs s).getD false)→RecAt rec w7.heap.size (w5.setCell ⟨p6,0,none⟩ (.bool b))∧I (j+1) (w5.setCell ⟨p6,0,none⟩ (.bool b)):=by
    rintro b rfl
    refine ⟨hrec5.setCell _ _,hC5.other hp6 c6 _,hS5.set (by omega) _,(Only.setCell w5 p6 0 _ p2 (by omega)).trans z2,(Only.setCell w5 p6 0 _ p3 (by omega)).trans z3,?_,(Only.setCell w5 p6 0 _ w.heap.size (by omega)).trans z9⟩
    have:=heap_set (o:=0) z6 (.bool (st&&(rs.take (j+1)).all fun s=>(lastP strs s).getD false))
    simpa using this
   rw [hall] at fin
   generalize (st&&(rs.take j).all fun s=>(lastP strs s).getD false)=sj at z6 fin
   unfold n45c3
   have hg:(lastOf (vB strs) s).getD (.bool false) = .bool ((lastP strs s).getD false):=by rw [lastOf_vB];cases lastP strs s<;>rfl
   cases sj with
   | false =>
    simp (disch:=try exact DI) only [↓PR,QR,simprocAttr,(cells_of_heap z6).1,(cells_of_heap z6).2,↓n45c1,↓n45c2,↓n45c3,↓n45c4,↓n45c5,↓n45c6,↓n45c7,↓n45c8,↓n45c9,↓n45c10,↓n45c11,↓n45c12,↓n45c13,↓n45c14,↓n45c15,↓n45c16,↓n45c17,↓n45c18]
    exact fin false rfl
   | true =>
    simp (disch:=try exact DI) only [↓PR,QR,simprocAttr,(cells_of_heap z6).1,(cells_of_heap z6).2,(cells_of_heap z2).1,(cells_of_heap h1).1]
    rw [op_lookup1O Tryz.underlying157 Tryz.underlying9 ty4 hC5.mstrs s,hg]
    generalize (lastP strs s).getD false=b at fin
    simp (disch:=try exact DI) only [↓PR,QR,simprocAttr,(cells_of_heap z6).1,(cells_of_heap z6).2,n45c1]
    exact fin b (by cases b<;>rfl)
 · rintro w3 hI3 hmk
   obtain ⟨hC3,hS3,y2,y3,y6,y9⟩:=hI3
   rw [List.take_length] at y6 y9
   have hfold:=foldl_maxI (fun s=>(lastP deps s).getD 0) rs 0 (by decide) (fun s _=>hlow.get s) (by decide)
   refine nxt_end hC3 p2 p3 p6 w.heap.size w7.heap.size m fv _ _ hfold.1 (by have:=hfold.2;omega) y2 y3 y6 y9 hmk (by omega) r hr K ?_
   rw [hst]
   exact hK
 · rintro c w3 h
   exact h.elim
 · rintro ch w3 h
   exact h.elim
end
section
variable {a0 w:World} {cb md ms:Nat} {deps:List (ByteArray×Int)} {strs:List (ByteArray×Bool)} {at_ fld:Int} {m:MsgD}
theorem nxt_loop (hlow:Low deps) (h:CkO a0 w cb md ms deps strs at_ fld m.fields) (p2 p3:Nat) (fv:Value) (hF:FieldsOf a0 fv m.fields) (hb:(allRefs m.fields).length≤1048576) (ht:∀ f∈m.fields,f.terms.length≤1048576) (hp2:a0.heap.size≤p2) (hp3:a0.heap.size≤p3)
 (o2:w.heap[p2]?=some (.cells #[.pointer (some ⟨cb,0,none⟩)] 127 (0,0))) (o3:w.heap[p3]?=some (.cells (msgCells m fv).toArray 44 (0,0)))
 (r:Int×Int) (hr:r=tailP deps m (fieldsP deps strs [] m.fields)) (K:World→Prop)
 (hK:∀ w',CkO a0 w' cb md ms (deps++[(m.name,depthM deps m+1)]) (strs++[(m.name,strictM strs m)]) at_ (-1) m.fields→K w') :
 n45c13 (.pointer (some ⟨p2,0,none⟩)) (.pointer (some ⟨p3,0,none⟩)) [] (nxtR a0 at_ r K) w:=by
 obtain ⟨n1,n2,l1,l2,l3⟩:=h.nd
 have lp2:p2 < w.heap.size:=(Array.getElem?_eq_some_iff.1 o2).1
 have lp3:p3 < w.heap.size:=(Array.getElem?_eq_some_iff.1 o3).1
 have lw:=h.ext.size
 obtain ⟨A,c,rfl,hlc,hcm,hlm,hel⟩:=SliceOf.open hF
 unfold n45c13
 simp (disch:=try exact DI) only [↓PR,QR,simprocAttr,(cells_of_heap o3).1]
 refine loop1_intro (fun i w'=>∃ (k:Nat) (fld':Int),i = .int .i64 k∧k≤m.fields.length∧CkO a0 w' cb md ms deps strs at_ fld' m.fields∧w'.heap[p2]?=some (.cells #[.pointer (some ⟨cb,0,none⟩)] 127 (0,0))∧w'.heap[p3]?=some (.cells (msgCells m (.slice A m.fields.length c)).toArray 44 (0,0)) ∧
  w'.heap[w.heap.size]?=some (.cells #[.bool ((m.fields.take k).all fun f=>!f.loose)] 4 (0,0))∧r=tailP deps m (fieldsP deps strs (m.fields.take k) (m.fields.drop k))) (fun i _=>m.fields.length - (intOf i).toNat) ⟨0,fld,rfl,by omega,h.go ((Ext.refl _).alloc _),((Ext.refl _).alloc _).obj o2,((Ext.refl _).alloc _).obj o3,heap_new w #[.bool true] 4,hr⟩ ?_
 rintro i w' ⟨k,fld',rfl,hk,hC,y2,y3,y6,hrk⟩
 have l6:w.heap.size < w'.heap.size:=(Array.getElem?_eq_some_iff.1 y6).1
 have lw':=hC.ext.size
 obtain ⟨dn,mv,ds,mn,fv',h1,h2⟩:=hC.obj
 have c2:p2≠cb:=by rintro rfl;rw [y2] at h1;cases h1
 have c3:p3≠cb:=by rintro rfl;rw [y3] at h1;cases h1
 rcases drop_cases hk with ⟨x,hx,hd,hlt,hdec⟩ | ⟨hk,hd,hdec⟩
 · obtain ⟨b,o,cs,rfl,hl,hA,hE⟩:=hel k x hx
   obtain ⟨tv,cv,rfl,hT,hCa,ht1,hc1⟩:=hE.op
   have hA':=hA.ext hC.ext
   rw [hd] at hrk
   simp only [fieldsP] at hrk
   unfold n45c12
   simp (disch:=try exact DI) only [↓PR,QR,simprocAttr,hdec]
   unfold n45c11
   try unfold X0
   try unfold L0
   rw [op_indexN Tryz.underlying42 ty38 _ _ _ _ _ k hlt,op_load (hA'.loads ty38 rfl)]
   simp (disch:=try exact DI) only [↓PR,QR,simprocAttr,(cells_of_heap y2).1,(cells_of_heap h1).1,(cells_of_heap h1).2]
   have hCw:=(hC.setFld (k:Int)).go ((Ext.refl _).alloc (Obj.cells (fieldCells x tv cv).toArray 38))
   have z2:=((Ext.refl _).alloc (Obj.cells (fieldCells x tv cv).toArray 38)).obj ((Only.setCell w' cb 6 (.int .i64 (k:Int)) p2 c2).trans y2)
   have z3:=((Ext.refl _).alloc (Obj.cells (fieldCells x tv cv).toArray 38)).obj ((Only.setCell w' cb 6 (.int .i64 (k:Int)) p3 c3).trans y3)
   have z6:=((Ext.refl _).alloc (Obj.cells (fieldCells x tv cv).toArray 38)).obj ((Only.setCell w' cb 6 (.int .i64 (k:Int)) w.heap.size (by omega)).trans y6)
   have z8:=heap_new (w'.setCell ⟨cb,6,none⟩ (.int .i64 (k:Int))) (fieldCells x tv cv).toArray 38
   rw [World.size_setCell] at z8
   generalize (World.alloc (w'.setCell ⟨cb,6,none⟩ (.int .i64 (k:Int))) (Obj.cells (fieldCells x tv cv).toArray 38))=W at hCw z2 z3 z6 z8 ⊢
   have hkt:(m.fields.take k).length=k:=by rw [List.length_take];omega
   refine callK_flw (examine_flw hCw.chk k rfl hlt _ x ⟨tv,cv,rfl,TermsOf.ext hT hCw.ext,CasesOf.ext hCa hCw.ext⟩ (ht x (List.mem_of_getElem? hx))) (fun w5 e5 h0=>?_) (fun w5 e5 h0=>?_)
   · rw [if_pos h0] at hrk
     have q6:=e5.obj z6
     have q8:=e5.obj z8
     have hC5:=hCw.go e5
     have l5:w'.heap.size < w5.heap.size:=(Array.getElem?_eq_some_iff.1 q8).1
     have htk:=take_snoc hx
     rw [← htk] at hrk
     have hall:((m.fields.take (k+1)).all fun f=>!f.loose)=(((m.fields.take k).all fun f=>!f.loose)&&!x.loose):=by rw [htk,List.all_append];simp
     have fin:∀ b' w6,Ext w5 w6→b'=((m.fields.take (k+1)).all fun f=>!f.loose)→(∃ (k':Nat) (fld':Int),Value.int .i64 ((k+1:Nat):Int) = .int .i64 k'∧k'≤m.fields.length∧CkO a0 (w6.setCell ⟨w.heap.size,0,none⟩ (.bool b')) cb md ms deps strs at_ fld' m.fields∧w6.heap[p2]?=some (.cells #[.pointer (some ⟨cb,0,none⟩)] 127 (0,0))∧w6.heap[p3]?=some (.cells (msgCells m (.slice (some ⟨b,o,none⟩) m.fields.length c)).toArray 44 (0,0)) ∧
      (w6.setCell ⟨w.heap.size,0,none⟩ (.bool b')).heap[w.heap.size]?=some (.cells #[.bool ((m.fields.take k').all fun f=>!f.loose)] 4 (0,0))∧r=tailP deps m (fieldsP deps strs (m.fields.take k') (m.fields.drop k')))∧m.fields.length - (intOf (Value.int .i64 ((k+1:Nat):Int))).toNat < m.fields.length - (intOf (Value.int IntKind.i64 k)).toNat:=by
      rintro b' w6 e6 rfl
      refine ⟨⟨k+1,k,rfl,by omega,(hC5.go e6).other (by omega) (by omega) _,e6.obj (e5.obj z2),e6.obj (e5.obj z3),?_,hrk⟩,meas_lt hlt⟩
      have:=heap_set (o:=0) (e6.obj q6) (.bool ((m.fields.take (k+1)).all fun f=>!f.loose))
      simpa using this
     unfold n45c2
     rw [hall] at fin
     generalize ((m.fields.take k).all fun f=>!f.loose)=sj at q6 fin
     cases sj with
     | true =>
      generalize hxl:x.loose=xl at fin
      simp (disch:=try exact DI) only [↓PR,QR,simprocAttr,(cells_of_heap q6).1,(cells_of_heap q6).2,(cells_of_heap q8).1,n45c1,hxl]
      simp only [Bool.true_and] at fin
      exact fin _ w5 (Ext.refl _) rfl
     | false =>
      simp (disch:=try exact DI) only [↓PR,QR,simprocAttr,(cells_of_heap q6).1,(cells_of_heap q6).2,(cells_of_heap q8).1,n45c1]
      simp only [Bool.false_and] at fin
      exact fin _ w5 (Ext.refl _) rfl
   · rw [if_neg h0] at hrk
     have hr2:r=((k:Int),examineC (m.fields.take k) (vI deps) (vB strs) x):=by
      rw [hrk,hkt];unfold tailP;rw [if_neg h0]
     show outQ _ _ _ _ _ _
     rw [outQ_nil]
     exact nxtR_pan (hCw.ext.trans e5) hr2 h0
 · subst hk
   rw [hd] at hrk
   rw [List.take_length] at y6
   unfold n45c12
   simp (disch:=try exact DI) only [↓PR,QR,simprocAttr,hdec]
   refine nxt_range hlow hC p2 p3 w.heap.size m _ _ rfl hF hb hp2 hp3 lw lp2 lp3 y2 y3 y6 r ?_ K hK
   rw [hrk]
   rfl
theorem next_flw {w0:World} {fs0:List FieldD} (hlow:Low deps) (h:CkO a0 w0 cb md ms deps strs at_ fld fs0) (v:Value) (hm:MsgVal a0 v m) (hb:(allRefs m.fields).length≤1048576) (ht:∀ f∈m.fields,f.terms.length≤1048576) (K:World→Prop)
 (hK:∀ w',CkO a0 w' cb md ms (deps++[(m.name,depthM deps m+1)]) (strs++[(m.name,strictM strs m)]) at_ (-1) m.fields→K w') :
 Calls Pg 122 #[.pointer (some ⟨cb,0,none⟩),v] w0 (nxtR a0 at_ (nextP deps strs m) K):=by
 obtain ⟨fv,rfl,hF⟩:=hm
 obtain ⟨n1,n2,l1,l2,l3⟩:=h.nd
 have lw:=h.ext.size
 have hf1:=SliceOf.oneCell hF
 refine n45s ?_;unfold n45
 simp (disch:=try exact DI) only [↓PR,QR,simprocAttr]
 have hC:=h.go (((Ext.refl w0).alloc (Obj.cells #[.pointer (some ⟨cb,0,none⟩)] 127)).alloc (Obj.cells (msgCells m fv).toArray 44))
 have z3:=heap_new (w0.alloc (Obj.cells #[.pointer (some ⟨cb,0,none⟩)] 127)) (msgCells m fv).toArray 44
 have z2:=((Ext.refl (w0.alloc (Obj.cells #[.pointer (some ⟨cb,0,none⟩)] 127))).alloc (Obj.cells (msgCells m fv).toArray 44)).obj (heap_new w0 _ _)
 simp only [World.size_alloc] at z3 ⊢
 generalize (World.alloc (World.alloc w0 _) _)=W at hC z2 z3 ⊢
 clear h
 obtain ⟨dn,mv,ds,mn,fv',h1,h2⟩:=hC.obj
 refine drawK_introB (w1:=W) cb cb (fun _ _ _ _=>rfl) ?_
 unfold n45c18
 simp (disch:=try exact DI) only [↓PR,QR,simprocAttr,(cells_of_heap z2).1]
 have L3:∀ w',KB W cb cb w'→Loads Pg w' 44 ⟨w0.heap.size+1,0,none⟩ (.agg (msgCells m fv).toArray):=fun w' hw'=>Loads.many ty44 rfl (fun j u hu=>by
  rw [Addr.add_lit]
  exact KB.cell (b:=w0.heap.size+1) hw' (by omega) (by omega) (by rw [(cells_of_heap z3).1];simpa using hu))
 rw [qV_loadG L3]
 simp (disch:=try exact DI) only [↓PR,QR,simprocAttr,(cells_of_heap h1).1,(cells_of_heap h1).2]
 have eD:Ext W W.drew:=(Ext.refl W).wdrew
 have hC1:=(hC.go eD).setMsg m.name fv m.fields hF
 have y2:=(Only.setCell (W.drew.setCell ⟨cb,7,none⟩ (.string m.name)) cb 8 fv w0.heap.size (by omega)).trans ((Only.setCell W.drew cb 7 (.string m.name) w0.heap.size (by omega)).trans (eD.obj z2))
 have y3:=(Only.setCell (W.drew.setCell ⟨cb,7,none⟩ (.string m.name)) cb 8 fv (w0.heap.size+1) (by omega)).trans ((Only.setCell W.drew cb 7 (.string m.name) (w0.heap.size+1) (by omega)).trans (eD.obj z3))
 refine ⟨fun b hb b1 _=>(Only.setCell _ cb 8 fv b b1).trans (Only.setCell W.drew cb 7 (.string m.name) b b1),?_⟩
 show n45c17 _ _ _ _ _ _ ((W.drew.setCell ⟨cb,7,none⟩ (.string m.name)).setCell ⟨cb,8,none⟩ fv)
 generalize ((W.drew.setCell ⟨cb,7,none⟩ (.string m.name)).setCell ⟨cb,8,none⟩ fv)=W1 at hC1 y2 y3 ⊢
 clear hC z2 z3 h1
 obtain ⟨dn,mv,ds,mn,fv',h1,h2'⟩:=hC1.obj
 unfold n45c17
 simp (disch:=try exact DI) only [↓PR,QR,simprocAttr,(cells_of_heap h1).1,(cells_of_heap h1).2]
 have hC2:=hC1.setFld (-1)
 have x2:=(Only.setCell W1 cb 6 (.int .i64 (-1)) w0.heap.size (by omega)).trans y2
 have x3:=(Only.setCell W1 cb 6 (.int .i64 (-1)) (w0.heap.size+1) (by omega)).trans y3
 generalize (W1.setCell ⟨cb,6,none⟩ (.int .i64 (-1)))=W2 at hC2 x2 x3 ⊢
 clear hC1 y2 y3 h1
 refine turnK_intro ?_
 refine drawK_intro ?_
 unfold n45c16
 simp (disch:=try exact DI) only [↓PR,QR,simprocAttr,(cells_of_heap x2).1,(cells_of_heap x3).1]
 refine zcr (Name_ret _ m.name) fun w3 e3=>?_
 have e3':Ext W2 w3:=(Ext.refl W2).wdrew.trans e3
 refine ⟨e3,?_⟩
 generalize hr:nextP deps strs m=r
 unfold nextP at hr
 refine callK_flw (need_flw (hC2.go e3').chk _ 1 (by decide)) (fun w4 e4 h0=>?_) (fun w4 e4 h0=>?_)
 · have e4':=e3'.trans e4
   have hn:nameB m.name=true:=needC_zero (by decide) h0
   rw [if_pos hn] at hr
   refine ⟨e3.trans e4,?_⟩
   have hC4:=hC2.go e4'
   have x2':=e4'.obj x2
   have x3':=e4'.obj x3
   obtain ⟨dn,mv,ds,mn,fv',h1,h2'⟩:=hC4.obj
   refine drawK_intro ?_
   unfold n45c15
   simp (disch:=try exact DI) only [↓PR,QR,simprocAttr,(cells_of_heap x2').1,(cells_of_heap x3').1,(cells_of_heap h1).1]
   have eD4:Ext w4 w4.drew:=(Ext.refl w4).wdrew
   rw [qV_lookupE Tryz.underlying156 Tryz.underlying9 ty3 (hC4.mdeps.ext eD4) m.name]
   have hsome:(lastOf (vI deps) m.name).isSome=(lastP deps m.name).isSome:=by rw [lastOf_vI,Option.isSome_map]
   rw [hsome]
   simp (disch:=try exact DI) only [↓PR,QR,simprocAttr,(cells_of_heap x2').1]
   refine callK_flw (need_flw (hC4.go eD4).chk _ 2 (by decide)) (fun w5 e5 h0=>?_) (fun w5 e5 h0=>?_)
   · have hs:(lastP deps m.name).isSome=false:=by have:=needC_zero (by decide) h0;simpa using this
     rw [hs,if_neg (by simp)] at hr
     have hC5:=hC4.go (eD4.trans e5)
     have x2'':=(eD4.trans e5).obj x2'
     have x3'':=(eD4.trans e5).obj x3'
     have fin:∀ b,b=decide (1≤m.fields.length∧m.fields.length≤40)→callK Pg 120 #[.pointer (some ⟨cb,0,none⟩),.bool b,.int .i64 3] (outQ Pg [] [] (nxtR a0 at_ r K)) w5 (fun _ w=>n45c13 (.pointer (some ⟨w0.heap.size,0,none⟩)) (.pointer (some ⟨w0.heap.size+1,0,none⟩)) [] (nxtR a0 at_ r K) w):=by
      rintro b rfl
      refine callK_flw (need_flw hC5.chk _ 3 (by decide)) (fun w6 e6 h0=>?_) (fun w6 e6 h0=>?_)
      · have hl:=needC_zero (by decide) h0
        simp only [decide_eq_true_eq] at hl
        rw [if_pos hl] at hr
        exact nxt_loop hlow (hC5.go e6) w0.heap.size (w0.heap.size+1) fv hF hb ht (by omega) (by omega) (e6.obj x2'') (e6.obj x3'') r hr.symm K hK
      · by_cases hl:1≤m.fields.length∧m.fields.length≤40
        · rw [decide_eq_true hl] at h0;exact absurd rfl h0
        · rw [if_neg hl] at hr
          rw [decide_eq_false hl]
          show outQ _ _ _ _ _ _
          rw [outQ_nil]
          exact nxtR_pan (hC5.ext.trans e6) hr.symm (by decide)
     obtain ⟨A,c,rfl,hlc,hcm,hlm,hel⟩:=SliceOf.open hF
     unfold n45c14
     by_cases h1l:1≤m.fields.length
     · have d1:decide ((m.fields.length:Int)≥1)=true:=by simp;omega
       by_cases h2l:m.fields.length≤40
       · have d2:decide ((m.fields.length:Int)≤40)=true:=by simp;omega
         simp (disch:=try exact DI) only [↓PR,QR,simprocAttr,(cells_of_heap x2'').1,(cells_of_heap x3'').1,d1,d2]
         exact fin _ (by simp [h1l,h2l])
       · have d2:decide ((m.fields.length:Int)≤40)=false:=by simp;omega
         simp (disch:=try exact DI) only [↓PR,QR,simprocAttr,(cells_of_heap x2'').1,(cells_of_heap x3'').1,d1,d2]
         exact fin _ (by simp [h2l])
     · have d1:decide ((m.fields.length:Int)≥1)=false:=by simp;omega
       simp (disch:=try exact DI) only [↓PR,QR,simprocAttr,(cells_of_heap x2'').1,(cells_of_heap x3'').1,d1]
       exact fin _ (by simp [h1l])
   · have hs:(lastP deps m.name).isSome=true:=by
      cases hq:(lastP deps m.name).isSome with
      | true=>rfl
      | false=>rw [hq] at h0;exact absurd rfl h0
     rw [hs,if_pos rfl] at hr
     rw [hs]
     show outQ _ _ _ _ _ _
     rw [outQ_nil]
     exact nxtR_pan (hC4.ext.trans (eD4.trans e5)) hr.symm (by decide)
 · have hn:nameB m.name=false:=by
    cases hq:nameB m.name with
    | false=>rfl
    | true=>rw [hq] at h0;exact absurd rfl h0
   rw [hn,if_neg (by simp)] at hr
   rw [hn]
   show outQ _ _ _ _ _ _
   rw [outQ_nil]
   exact nxtR_pan (hC2.ext.trans (e3'.trans e4)) hr.symm (by decide)
end
end Go.Proofs.YtdfhjlggcdemhaaGreat
namespace Go.Proofs.YtdfhjlggcdemhaaGreat
open Sw
open Go.RowKit (intOf Below)
def stepD (deps:List (ByteArray×Int)) (m:MsgD):List (ByteArray×Int):=deps++[(m.name,depthM deps m+1)]
def stepS (strs:List (ByteArray×Bool)) (m:MsgD):List (ByteArray×Bool):=strs++[(m.name,strictM strs m)]
def depsOf (l:List MsgD):List (ByteArray×Int):=l.foldl stepD []
def strsOf (l:List MsgD):List (ByteArray×Bool):=l.foldl stepS []
def msgsP (deps:List (ByteArray×Int)) (strs:List (ByteArray×Bool)) (at_:Nat):List MsgD→Int×Int×Int
 | []=>(0,0,0)
 | m::l=>if (nextP deps strs m).2=0 then msgsP (stepD deps m) (stepS strs m) (at_+1) l else (at_,nextP deps strs m)
def endP (d:DefD) (r:Int×Int×Int):Int×Int×Int:=if r.2.2=0 then (if (lastP (depsOf d.msgs) d.start).isSome then (0,0,0) else (-1,-1,11)) else r
def checkP (d:DefD):Int×Int×Int :=
 if nameB d.name then (if 1≤d.msgs.length∧d.msgs.length≤60 then endP d (msgsP [] [] 0 d.msgs) else (-1,-1,3)) else (-1,-1,1)
theorem tailP_low {deps:List (ByteArray×Int)} {m:MsgD} {r:Int×Int} (h:(tailP deps m r).2=0):depthM deps m < 16:=by
 unfold tailP at h
 split at h
 · split at h
   · assumption
   · exact absurd h (by decide)
 · contradiction
theorem nextP_low {deps:List (ByteArray×Int)} {strs:List (ByteArray×Bool)} {m:MsgD} (h:(nextP deps strs m).2=0):depthM deps m < 16:=by
 unfold nextP at h
 split at h
 · split at h
   · exact absurd h (by decide)
   · split at h
     · exact tailP_low h
     · exact absurd h (by decide)
 · exact absurd h (by decide)
theorem Low.step {deps:List (ByteArray×Int)} {strs:List (ByteArray×Bool)} {m:MsgD} (hl:Low deps) (h:(nextP deps strs m).2=0):Low (stepD deps m):=by
 intro p hp
 rcases List.mem_append.1 hp with hp | hp
 · exact hl p hp
 · simp only [List.mem_singleton] at hp
   subst hp
   have h1:=nextP_low h
   have h2:=(foldl_maxI (fun s=>(lastP deps s).getD 0) (refsM m) 0 (by decide) (fun s _=>hl.get s) (by decide)).1
   exact ⟨by show 0≤depthM deps m+1;unfold depthM;omega,by show depthM deps m+1≤16;omega⟩
def calm (d:DefD):Prop:=∀ m∈d.msgs,(allRefs m.fields).length≤1048576∧∀ f∈m.fields,f.terms.length≤1048576
abbrev catchD (p3 p4:Nat):Deferred:={ target := .fn (.func 119) #[.pointer (some ⟨p3,0,none⟩),.pointer (some ⟨p4,0,none⟩)],args := #[] }
theorem catch_ret {p3 p4:Nat} {w:World} {k:FrameMode→World→Prop} (h:k .returning w):outM Pg [catchD p3 p4] .returning w k:=by
 refine ⟨by simp,.inr ⟨.func 119,_,119,#[.pointer (some ⟨p3,0,none⟩),.pointer (some ⟨p4,0,none⟩)],rfl,?_,?_⟩⟩
 · exact callFunc_run c119 _ w
 · refine n50s ?_
   unfold n50
   show opV _ (binS .neq _ true .nilIface .nilIface) _ _ _
   rw [op_neqNil_none Tryz.underlying20]
   simp (disch:=try exact DI) only [↓PR,QR,simprocAttr]
   exact h
theorem catch_pan {p3 p4:Nat} {w:World} {k:FrameMode→World→Prop} {a f c:Int} {x0 x1 x2 y:Value} (o3:w.heap[p3]?=some (.cells #[x0,x1,x2] 29 (0,0))) (o4:w.heap[p4]?=some (.cells #[y] 4 (0,0)))
 (h:k .returning ((((w.setCell ⟨p3,0,none⟩ (.int .i64 a)).setCell ⟨p3,1,none⟩ (.int .i64 f)).setCell ⟨p3,2,none⟩ (.int .i64 c)).setCell ⟨p4,0,none⟩ (.bool true))):outM Pg [catchD p3 p4] (.panicking [flawEntry a f c]) w k:=by
 have hne:p3≠p4:=by rintro rfl;rw [o3] at o4;cases o4
 refine ⟨by simp,.inr ⟨.func 119,_,119,#[.pointer (some ⟨p3,0,none⟩),.pointer (some ⟨p4,0,none⟩)],rfl,?_,?_⟩⟩
 · exact callFunc_run c119 _ w
 · refine n50s ?_
   rw [show recM (.panicking [flawEntry a f c])=(.iface 29 (flawVal a f c),.panicking [{ v := .iface 29 (flawVal a f c),recovered:=true }]) from rfl]
   unfold n50
   rw [op_neqNil_some Tryz.underlying20]
   simp (disch:=try exact DI) only [↓PR,QR,simprocAttr]
   unfold n50c1
   rw [op_assert_ok Tryz.underlying29 rfl]
   simp (disch:=try exact DI) only [↓PR,QR,simprocAttr,(cells_of_heap o3).1,(cells_of_heap o3).2,(cells_of_heap o4).1,(cells_of_heap o4).2]
   exact h
section
variable {w0:World}
def CkE (w:World) (cb:Nat) (deps:List (ByteArray×Int)) (strs:List (ByteArray×Bool)):Prop:=∃ md ms dn mv ds at_ fld mn fv,w.heap[cb]?=some (.cells #[.string dn,mv,.string ds,.map (some md),.map (some ms),.int .i64 at_,.int .i64 fld,.string mn,fv] 159 (0,0))∧MapOf w md (vI deps)∧MapOf w ms (vB strs)
theorem CkE.other {w:World} {cb b o:Nat} {deps:List (ByteArray×Int)} {strs:List (ByteArray×Bool)} (h:CkE w cb deps strs) (hn:b≠cb) (v:Value):CkE (w.setCell ⟨b,o,none⟩ v) cb deps strs:=by
 obtain ⟨md,ms,dn,mv,ds,at_,fld,mn,fv,h1,h2,h3⟩:=h
 exact ⟨md,ms,dn,mv,ds,at_,fld,mn,fv,(Only.setCell w b o v cb (fun e=>hn e.symm)).trans h1,h2.setCell _ _,h3.setCell _ _⟩
theorem CkE.go {w w':World} {cb:Nat} {deps:List (ByteArray×Int)} {strs:List (ByteArray×Bool)} (h:CkE w cb deps strs) (e:Ext w w'):CkE w' cb deps strs:=by
 obtain ⟨md,ms,dn,mv,ds,at_,fld,mn,fv,h1,h2,h3⟩:=h
 exact ⟨md,ms,dn,mv,ds,at_,fld,mn,fv,e.obj h1,h2.ext e,h3.ext e⟩
theorem CkO.left {a0 w:World} {cb md ms:Nat} {deps:List (ByteArray×Int)} {strs:List (ByteArray×Bool)} {at_ fld:Int} {fs:List FieldD} (h:CkO a0 w cb md ms deps strs at_ fld fs):CkE w cb deps strs:=by
 obtain ⟨dn,mv,ds,mn,fv,h1,_⟩:=h.obj
 exact ⟨md,ms,dn,mv,ds,at_,fld,mn,fv,h1,h.mdeps,h.mstrs⟩
def examK (w0:World) (d:DefD) (r:Value) (w':World):Prop:=Ext w0 w'∧∃ cb,r = .tuple #[.pointer (some ⟨cb,0,none⟩),flawVal (checkP d).1 (checkP d).2.1 (checkP d).2.2,.bool (decide ((checkP d).2.2≠0))] ∧
 ((checkP d).2.2=0→CkE w' cb (depsOf d.msgs) (strsOf d.msgs))
abbrev resL (cb p3 p4:Nat):List (Option TypeId×Value):=[(none,.pointer (some ⟨cb,0,none⟩)),(some 29,.pointer (some ⟨p3,0,none⟩)),(some 4,.pointer (some ⟨p4,0,none⟩))]
theorem exm_pan {w:World} {d:DefD} {cb p3 p4:Nat} {a f c:Int} {x0 x1 x2 y:Value} (e:Ext w0 w) (h3:w0.heap.size≤p3) (h4:w0.heap.size≤p4) (o3:w.heap[p3]?=some (.cells #[x0,x1,x2] 29 (0,0))) (o4:w.heap[p4]?=some (.cells #[y] 4 (0,0)))
 (h:checkP d=(a,f,c)) (hc:c≠0):outQ Pg [catchD p3 p4] (resL cb p3 p4) (retR (examK w0 d)) [flawEntry a f c] w:=by
 have hne:p3≠p4:=by rintro rfl;rw [o3] at o4;cases o4
 unfold outQ
 refine catch_pan o3 o4 ?_
 have q3:=heap_set (o:=2) (heap_set (o:=1) (heap_set (o:=0) o3 (.int .i64 a)) (.int .i64 f)) (.int .i64 c)
 have e1:Ext w0 ((((w.setCell ⟨p3,0,none⟩ (.int .i64 a)).setCell ⟨p3,1,none⟩ (.int .i64 f)).setCell ⟨p3,2,none⟩ (.int .i64 c)).setCell ⟨p4,0,none⟩ (.bool true)):=(((e.setCell h3 _).setCell h3 _).setCell h3 _).setCell h4 _
 have q4:=heap_set (o:=0) ((Only.setCell ((w.setCell ⟨p3,0,none⟩ (.int .i64 a)).setCell ⟨p3,1,none⟩ (.int .i64 f)) p3 2 (.int .i64 c) p4 (by omega)).trans ((Only.setCell (w.setCell ⟨p3,0,none⟩ (.int .i64 a)) p3 1 (.int .i64 f) p4 (by omega)).trans ((Only.setCell w p3 0 (.int .i64 a) p4 (by omega)).trans o4))) (.bool true)
 have q3':=(Only.setCell _ p4 0 (.bool true) p3 hne).trans q3
 simp only [List.setIfInBounds_toArray,List.set_cons_zero,List.set_cons_succ] at q3' q4
 generalize ((((w.setCell ⟨p3,0,none⟩ (.int .i64 a)).setCell ⟨p3,1,none⟩ (.int .i64 f)).setCell ⟨p3,2,none⟩ (.int .i64 c)).setCell ⟨p4,0,none⟩ (.bool true))=W at e1 q3' q4 ⊢
 unfold endM retV resOne resL
 simp only
 simp (disch:=try exact DI) only [↓PR,QR,simprocAttr,(cells_of_heap q3').1,(cells_of_heap q4).1]
 refine ⟨e1,cb,?_,fun h0=>?_⟩
 · rw [h];simp [hc]
 · rw [h] at h0;exact absurd h0 hc
theorem exm_fine {w:World} {d:DefD} {cb p3 p4:Nat} (e:Ext w0 w) (hC:CkE w cb (depsOf d.msgs) (strsOf d.msgs)) (o3:w.heap[p3]?=some (.cells #[.int .i64 0,.int .i64 0,.int .i64 0] 29 (0,0))) (o4:w.heap[p4]?=some (.cells #[.bool false] 4 (0,0)))
 (h:checkP d=(0,0,0)):outX Pg [catchD p3 p4] (resL cb p3 p4) (retR (examK w0 d)) w:=by
 unfold outX
 refine catch_ret ?_
 unfold endM retV resOne resL
 simp only
 simp (disch:=try exact DI) only [↓PR,QR,simprocAttr,(cells_of_heap o3).1,(cells_of_heap o4).1]
 refine ⟨e,cb,?_,fun h0=>hC⟩
 rw [h];simp
theorem callK_nxt {f:FuncId} {args:Array Value} {QP:List PanicEntry→World→Prop} {a0 w:World} {k:Value→World→Prop} {at_:Int} {r:Int×Int} {K:World→Prop} (h:Calls Pg f args w (nxtR a0 at_ r K)) (hk:∀ w',r.2=0→K w'→k (.tuple #[]) w') (hp:∀ w',Ext a0 w'→r.2≠0→QP [flawEntry at_ r.1 r.2] w'):callK Pg f args QP w k :=
 callK_calls h (fun v w' h=>by rcases h with ⟨e,⟨h1,h2,h3⟩ | ⟨_,h2⟩⟩<;>cases h2;exact hk w' h1 h3) (fun ch w' h=>by rcases h with ⟨e,⟨_,h2,_⟩ | ⟨h1,h2⟩⟩<;>cases h2;exact hp w' e h1) (fun w' h=>by rcases h with ⟨_,⟨_,h2,_⟩ | ⟨_,h2⟩⟩<;>cases h2)
theorem foldl_take {α β:Type} (g:β→α→β) {l:List α} {k:Nat} {x:α} (b:β) (hx:l[k]?=some x):(l.take (k+1)).foldl g b=g ((l.take k).foldl g b) x:=by rw [take_snoc hx,List.foldl_append];rfl
theorem exm_loop {A0 w:World} {d:DefD} {cb p1 p3 p4 md ms:Nat} {fs:List FieldD} {mv:Value} (ea:Ext w0 A0) (hM:MsgsOf A0 mv d.msgs) (ht:calm d) (hC:CkO A0 w cb md ms [] [] (-1) (-1) fs) (o1:A0.heap[p1]?=some (.cells (defCells d mv).toArray 24 (0,0)))
 (o3:A0.heap[p3]?=some (.cells #[.int .i64 0,.int .i64 0,.int .i64 0] 29 (0,0))) (o4:A0.heap[p4]?=some (.cells #[.bool false] 4 (0,0))) (h3:w0.heap.size≤p3) (h4:w0.heap.size≤p4) (hr:checkP d=endP d (msgsP [] [] 0 d.msgs)) :
 n49c6 (.pointer (some ⟨p1,0,none⟩)) (.pointer (some ⟨p3,0,none⟩)) (.pointer (some ⟨p4,0,none⟩)) (.pointer (some ⟨cb,0,none⟩)) [catchD p3 p4] (retR (examK w0 d)) w:=by
 have pan:∀ w' a f c,Ext A0 w'→checkP d=(a,f,c)→c≠0→outQ Pg [catchD p3 p4] (resL cb p3 p4) (retR (examK w0 d)) [flawEntry a f c] w':=fun w' a f c e h h0=>exm_pan (ea.trans e) h3 h4 (e.obj o3) (e.obj o4) h h0
 obtain ⟨A,c,rfl,hlc,hcm,hlm,hel⟩:=SliceOf.open hM
 unfold n49c6
 simp (disch:=try exact DI) only [↓PR,QR,simprocAttr,(cells_of_heap (hC.ext.obj o1)).1]
 refine loop1_intro (fun i w'=>∃ (k:Nat) (at':Int) (fs':List FieldD),i = .int .i64 k∧k≤d.msgs.length∧CkO A0 w' cb md ms (depsOf (d.msgs.take k)) (strsOf (d.msgs.take k)) at' (-1) fs'∧Low (depsOf (d.msgs.take k))∧checkP d=endP d (msgsP (depsOf (d.msgs.take k)) (strsOf (d.msgs.take k)) k (d.msgs.drop k))) (fun i _=>d.msgs.length - (intOf i).toNat) ⟨0,-1,fs,rfl,by omega,hC,(fun _ h=>by cases h),hr⟩ ?_
 rintro i w' ⟨k,at',fs',rfl,hk,hC',hlow,hrk⟩
 have lw':=hC'.ext.size
 obtain ⟨dn,mv,ds,mn,fv',x1,x2⟩:=hC'.obj
 obtain ⟨n1,n2,l1,l2,l3⟩:=hC'.nd
 rcases drop_cases hk with ⟨x,hx,hd,hlt,hdec⟩ | ⟨hk,hd,hdec⟩
 · obtain ⟨b,o,cs,rfl,hl,hA,fv,rfl,hF⟩:=hel k x hx
   have hf1:=SliceOf.oneCell hF
   rw [hd] at hrk
   simp only [msgsP] at hrk
   unfold n49c5
   simp (disch:=try exact DI) only [↓PR,QR,simprocAttr,hdec]
   unfold n49c4
   simp (disch:=try exact DI) only [↓PR,QR,simprocAttr,(hA.c2 hC'.ext).1,(hA.c2 hC'.ext).2,(cells_of_heap x1).1,(cells_of_heap x1).2]
   have hCw:=(hC'.setAt (k:Int)).go ((Ext.refl _).alloc (Obj.cells (msgCells x fv).toArray 44))
   refine callK_nxt (next_flw (m:=x) hlow hCw _ ⟨fv,rfl,hF⟩ (ht x (List.mem_of_getElem? hx)).1 (ht x (List.mem_of_getElem? hx)).2 (fun w'=>CkO A0 w' cb md ms (stepD (depsOf (d.msgs.take k)) x) (stepS (strsOf (d.msgs.take k)) x) k (-1) x.fields) (fun w' h=>h)) (fun w5 h0 hC5=>?_) (fun w5 e5 h0=>?_)
   · rw [if_pos h0] at hrk
     have hd1:depsOf (d.msgs.take (k+1))=stepD (depsOf (d.msgs.take k)) x:=foldl_take stepD [] hx
     have hs1:strsOf (d.msgs.take (k+1))=stepS (strsOf (d.msgs.take k)) x:=foldl_take stepS [] hx
     rw [← hd1,← hs1] at hrk hC5
     have hlow':Low (depsOf (d.msgs.take (k+1))):=by rw [hd1];exact hlow.step h0
     simp (disch:=try exact DI) only [↓PR,QR,simprocAttr]
     exact ⟨⟨k+1,k,x.fields,rfl,by omega,hC5,hlow',hrk⟩,meas_lt hlt⟩
   · rw [if_neg h0] at hrk
     refine pan _ _ _ _ e5 ?_ h0
     rw [hrk]
     unfold endP
     rw [if_neg h0]
 · subst hk
   rw [hd] at hrk
   rw [List.take_length] at hC' hrk
   unfold n49c5
   simp (disch:=try exact DI) only [↓PR,QR,simprocAttr,hdec]
   unfold n49c3
   simp (disch:=try exact DI) only [↓PR,QR,simprocAttr,(cells_of_heap x1).1,(cells_of_heap x1).2]
   have hC2:=hC'.setAt (-1)
   generalize (w'.setCell ⟨cb,5,none⟩ (.int .i64 (-1)))=W at hC2 ⊢
   clear x1 x2 hC'
   obtain ⟨dn,mv,ds,mn,fv',x1,x2⟩:=hC2.obj
   refine drawK_intro ?_
   have eD:Ext W W.drew:=(Ext.refl W).wdrew
   unfold n49c2
   simp (disch:=try exact DI) only [↓PR,QR,simprocAttr,(cells_of_heap x1).1,(cells_of_heap (hC2.ext.obj o1)).1]
   rw [qV_lookupE Tryz.underlying156 Tryz.underlying9 ty3 (hC2.mdeps.ext eD) d.start]
   have hsome:(lastOf (vI (depsOf d.msgs)) d.start).isSome=(lastP (depsOf d.msgs) d.start).isSome:=by rw [lastOf_vI,Option.isSome_map]
   rw [hsome]
   simp only [msgsP,endP,if_true] at hrk
   simp (disch:=try exact DI) only [↓PR,QR,simprocAttr]
   refine callK_flw (need_flw (hC2.go eD).chk _ 11 (by decide)) (fun w5 e5 h0=>?_) (fun w5 e5 h0=>?_)
   · have hs:=needC_zero (by decide) h0
     rw [hs,if_pos rfl] at hrk
     have hC5:=hC2.go (eD.trans e5)
     have y3:=hC5.ext.obj o3
     have y4:=hC5.ext.obj o4
     have ne34:p3≠p4:=by rintro rfl;rw [o3] at o4;cases o4
     unfold n49c1
     simp (disch:=try exact DI) only [↓PR,QR,simprocAttr,(cells_of_heap y3).1,(cells_of_heap y3).2,(cells_of_heap y4).1,(cells_of_heap y4).2]
     have c3:p3≠cb:=by have:=hC5.lcb;have:=(Array.getElem?_eq_some_iff.1 o3).1;omega
     have c4:p4≠cb:=by have:=hC5.lcb;have:=(Array.getElem?_eq_some_iff.1 o4).1;omega
     have q3:=heap_set (o:=2) (heap_set (o:=1) (heap_set (o:=0) y3 (.int .i64 0)) (.int .i64 0)) (.int .i64 0)
     have q4:=heap_set (o:=0) ((Only.setCell ((w5.setCell ⟨p3,0,none⟩ (.int .i64 0)).setCell ⟨p3,1,none⟩ (.int .i64 0)) p3 2 (.int .i64 0) p4 (by omega)).trans ((Only.setCell (w5.setCell ⟨p3,0,none⟩ (.int .i64 0)) p3 1 (.int .i64 0) p4 (by omega)).trans ((Only.setCell w5 p3 0 (.int .i64 0) p4 (by omega)).trans y4))) (.bool false)
     have q3':=(Only.setCell _ p4 0 (.bool false) p3 ne34).trans q3
     exact exm_fine (((((ea.trans hC5.ext).setCell h3 _).setCell h3 _).setCell h3 _).setCell h4 _) ((((hC5.left.other c3 _).other c3 _).other c3 _).other c4 _) (by simpa using q3') (by simpa using q4) hrk
   · have hs:(lastP (depsOf d.msgs) d.start).isSome=false:=by
      cases hq:(lastP (depsOf d.msgs) d.start).isSome with
      | false=>rfl
      | true=>rw [hq] at h0;exact absurd rfl h0
     rw [hs,if_neg (by simp)] at hrk
     rw [hs]
     exact pan _ _ _ _ (hC2.ext.trans (eD.trans e5)) hrk (by decide)
theorem examined_ret (v:Value) (d:DefD) (hd:DefVal w0 v d) (ht:calm d):Ret Pg 88 #[v] w0 (examK w0 d):=by
 obtain ⟨mv,rfl,hM⟩:=hd
 have hm1:=SliceOf.oneCell hM
 refine n49s (R:=retR _) ?_;unfold n49
 simp (disch:=try exact DI) only [↓PR,QR,simprocAttr]
 refine ⟨catchD (w0.heap.size+1) (w0.heap.size+1+1),_,rfl,?_⟩
 simp only [World.size_alloc]
 generalize hA0:((w0.alloc (Obj.cells (defCells d mv).toArray 24)).alloc (Obj.cells #[.int .i64 0,.int .i64 0,.int .i64 0] 29)).alloc (Obj.cells #[.bool false] 4)=A0
 have ea:Ext w0 A0:=by rw [← hA0];exact ee
 have o1:A0.heap[w0.heap.size]?=some (.cells (defCells d mv).toArray 24 (0,0)):=by rw [← hA0];simp (disch:=try exact DI) only [↓PR,QR,simprocAttr]
 have o3:A0.heap[w0.heap.size+1]?=some (.cells #[.int .i64 0,.int .i64 0,.int .i64 0] 29 (0,0)):=by rw [← hA0];simp (disch:=try exact DI) only [↓PR,QR,simprocAttr]
 have o4:A0.heap[w0.heap.size+1+1]?=some (.cells #[.bool false] 4 (0,0)):=by rw [← hA0];simp (disch:=try exact DI) only [↓PR,QR,simprocAttr]
 have hsz:A0.heap.size=w0.heap.size+1+1+1:=by rw [← hA0];simp only [World.size_alloc]
 clear hA0
 have hC:CkO A0 (((A0.alloc (Obj.map #[] 0)).alloc (Obj.map #[] 0)).alloc (Obj.cells #[.string d.name,mv,.string d.start,.map (some (w0.heap.size+1+1+1)),.map (some (w0.heap.size+1+1+1+1)),.int .i64 (-1),.int .i64 (-1),.string ByteArray.empty,.slice none 0 0] 159)) (w0.heap.size+1+1+1+1+1) (w0.heap.size+1+1+1) (w0.heap.size+1+1+1+1) [] [] (-1) (-1) []:=by
  refine ⟨ee,⟨d.name,mv,d.start,ByteArray.empty,.slice none 0 0,?_,SliceOf.nil _ _ _⟩,?_,?_,by omega,by omega,by omega,by omega⟩
  · have:=heap_new ((A0.alloc (Obj.map #[] 0)).alloc (Obj.map #[] 0)) #[.string d.name,mv,.string d.start,.map (some (w0.heap.size+1+1+1)),.map (some (w0.heap.size+1+1+1+1)),.int .i64 (-1),.int .i64 (-1),.string ByteArray.empty,.slice none 0 0] 159
    simp only [World.size_alloc,hsz] at this
    exact this
  · have:=(MapOf.new A0).ext (((Ext.refl _).alloc (Obj.map #[] 0)).alloc (Obj.cells #[.string d.name,mv,.string d.start,.map (some (w0.heap.size+1+1+1)),.map (some (w0.heap.size+1+1+1+1)),.int .i64 (-1),.int .i64 (-1),.string ByteArray.empty,.slice none 0 0] 159))
    simp only [World.size_alloc,hsz] at this
    exact this
  · have:=(MapOf.new (A0.alloc (Obj.map #[] 0))).ext ((Ext.refl _).alloc (Obj.cells #[.string d.name,mv,.string d.start,.map (some (w0.heap.size+1+1+1)),.map (some (w0.heap.size+1+1+1+1)),.int .i64 (-1),.int .i64 (-1),.string ByteArray.empty,.slice none 0 0] 159))
    simp only [World.size_alloc,hsz] at this
    exact this
 generalize (((A0.alloc (Obj.map #[] 0)).alloc (Obj.map #[] 0)).alloc (Obj.cells #[.string d.name,mv,.string d.start,.map (some (w0.heap.size+1+1+1)),.map (some (w0.heap.size+1+1+1+1)),.int .i64 (-1),.int .i64 (-1),.string ByteArray.empty,.slice none 0 0] 159))=W at hC ⊢
 generalize hcb:w0.heap.size+1+1+1+1+1=cb at hC ⊢
 generalize hmd:w0.heap.size+1+1+1=md at hC hsz
 generalize hms:w0.heap.size+1+1+1+1=ms at hC
 generalize hp3:w0.heap.size+1+1=p4 at o4 ⊢
 generalize hp4:w0.heap.size+1=p3 at o3 ⊢
 have l3:w0.heap.size≤p3:=by omega
 have l4:w0.heap.size≤p4:=by omega
 simp (disch:=try exact DI) only [↓PR,QR,simprocAttr,(cells_of_heap (hC.ext.obj o1)).1]
 refine zcr (Name_ret _ d.name) fun w1 e1=>?_
 have hC1:=hC.go e1
 have pan:∀ w' a f c,Ext A0 w'→checkP d=(a,f,c)→c≠0→outQ Pg [catchD p3 p4] (resL cb p3 p4) (retR (examK w0 d)) [flawEntry a f c] w':=fun w' a f c e h h0=>exm_pan (ea.trans e) l3 l4 (e.obj o3) (e.obj o4) h h0
 generalize hr:checkP d=r
 have hr':=hr
 unfold checkP at hr
 refine callK_flw (need_flw hC1.chk _ 1 (by decide)) (fun w2 e2 h0=>?_) (fun w2 e2 h0=>?_)
 · have hn:nameB d.name=true:=needC_zero (by decide) h0
   rw [if_pos hn] at hr
   have hC2:=hC1.go e2
   have fin:∀ b,b=decide (1≤d.msgs.length∧d.msgs.length≤60)→callK Pg 120 #[.pointer (some ⟨cb,0,none⟩),.bool b,.int .i64 3] (outQ Pg [catchD p3 p4] (resL cb p3 p4) (retR (examK w0 d))) w2 (fun _ w=>n49c6 (.pointer (some ⟨w0.heap.size,0,none⟩)) (.pointer (some ⟨p3,0,none⟩)) (.pointer (some ⟨p4,0,none⟩)) (.pointer (some ⟨cb,0,none⟩)) [catchD p3 p4] (retR (examK w0 d)) w):=by
    rintro b rfl
    refine callK_flw (need_flw hC2.chk _ 3 (by decide)) (fun w3 e3 h0=>?_) (fun w3 e3 h0=>?_)
    · have hl:=needC_zero (by decide) h0
      simp only [decide_eq_true_eq] at hl
      rw [if_pos hl] at hr
      exact exm_loop ea (hM.ext ea) ht (hC2.go e3) o1 o3 o4 l3 l4 (hr'.trans hr.symm)
    · by_cases hl:1≤d.msgs.length∧d.msgs.length≤60
      · rw [decide_eq_true hl] at h0;exact absurd rfl h0
      · rw [if_neg hl] at hr
        rw [decide_eq_false hl]
        exact pan _ _ _ _ (hC2.ext.trans e3) (hr'.trans hr.symm) (by decide)
   obtain ⟨A,c,rfl,hlc,hcm,hlm,hel⟩:=SliceOf.open hM
   have x1:=hC2.ext.obj o1
   unfold n49c9
   by_cases h1l:1≤d.msgs.length
   · have d1:decide ((d.msgs.length:Int)≥1)=true:=by simp;omega
     by_cases h2l:d.msgs.length≤60
     · have d2:decide ((d.msgs.length:Int)≤60)=true:=by simp;omega
       simp (disch:=try exact DI) only [↓PR,QR,simprocAttr,(cells_of_heap x1).1,d1,d2,↓n49c1,↓n49c2,↓n49c3,↓n49c4,↓n49c5,↓n49c6,↓n49c7,↓n49c8,↓n49c9]
       exact fin _ (by simp [h1l,h2l])
     · have d2:decide ((d.msgs.length:Int)≤60)=false:=by simp;omega
       simp (disch:=try exact DI) only [↓PR,QR,simprocAttr,(cells_of_heap x1).1,d1,d2,↓n49c1,↓n49c2,↓n49c3,↓n49c4,↓n49c5,↓n49c6,↓n49c7,↓n49c8,↓n49c9]
       exact fin _ (by simp [h2l])
   · have d1:decide ((d.msgs.length:Int)≥1)=false:=by simp;omega
     simp (disch:=try exact DI) only [↓PR,QR,simprocAttr,(cells_of_heap x1).1,d1,↓n49c1,↓n49c2,↓n49c3,↓n49c4,↓n49c5,↓n49c6,↓n49c7,↓n49c8,↓n49c9]
     exact fin _ (by simp [h1l])
 · have hn:nameB d.name=false:=by
    cases hq:nameB d.name with
    | false=>rfl
    | true=>rw [hq] at h0;exact absurd rfl h0
   rw [hn,if_neg (by simp)] at hr
   rw [hn]
   exact pan _ _ _ _ (hC1.ext.trans e2) (hr'.trans hr.symm) (by decide)
end
end Go.Proofs.YtdfhjlggcdemhaaGreat
namespace Go.Proofs.YtdfhjlggcdemhaaGreat
open Sw
open Go.RowKit (intOf Below)
section
variable {w0:World}
abbrev flawOf (r:Int×Int×Int):Value:=flawVal r.1 r.2.1 r.2.2
abbrev flawedB (d:DefD):Bool:=decide ((checkP d).2.2≠0)
theorem Check_ret (v:Value) (d:DefD) (hd:DefVal w0 v d) (ht:calm d):Ret Pg 49 #[v] w0 fun r w'=>r = .tuple #[flawOf (checkP d),.bool (flawedB d)]∧Ext w0 w':=by
 obtain ⟨mv,rfl,hM⟩:=hd
 have hm1:=SliceOf.oneCell hM
 refine n31s (R:=retR _) ?_;unfold n31
 simp (disch:=try exact DI) only [↓PR,QR,simprocAttr]
 refine callK_ret (examined_ret _ d ⟨mv,rfl,MsgsOf.ext hM ee⟩ ht) ?_
 rintro _ w1 ⟨e1,cb,rfl,_⟩
 have s1:=e1.size
 simp only [World.size_alloc] at s1
 have o2:=e1.obj (heap_new (w0.alloc (Obj.cells (defCells d mv).toArray 24)) #[.int .i64 0,.int .i64 0,.int .i64 0] 29)
 rw [World.size_alloc] at o2
 simp (disch:=try exact DI) only [↓PR,QR,simprocAttr,↓n31c1,(cells_of_heap o2).1,(cells_of_heap o2).2]
 exact ⟨by first | trivial | rfl,ee⟩
theorem Valid_ret' (v:Value) (d:DefD) (hd:DefVal w0 v d) (ht:calm d):Ret Pg 43 #[v] w0 fun r w'=>r = .bool (!flawedB d)∧Ext w0 w':=by
 obtain ⟨mv,rfl,hM⟩:=hd
 have hm1:=SliceOf.oneCell hM
 refine n38s (R:=retR _) ?_;unfold n38
 simp (disch:=try exact DI) only [↓PR,QR,simprocAttr]
 refine zcr (Check_ret _ d ⟨mv,rfl,MsgsOf.ext hM ee⟩ ht) fun w1 e1=>?_
 simp (disch:=try exact DI) only [↓PR,QR,simprocAttr,↓n38c1]
 exact ⟨by first | trivial | rfl,ee⟩
end
end Go.Proofs.YtdfhjlggcdemhaaGreat
namespace Go.Proofs.YtdfhjlggcdemhaaGreat
open Sw
open Go.RowKit (intOf Below)
def Sub {β:Type} (a b:List (ByteArray×β)):Prop:=∀ s v,lastP a s=some v→lastP b s=some v
section
variable {β:Type}
theorem Sub.refl (a:List (ByteArray×β)):Sub a a:=fun _ _ h=>h
theorem Sub.trans {a b c:List (ByteArray×β)} (h:Sub a b) (k:Sub b c):Sub a c:=fun s v x=>k s v (h s v x)
theorem Sub.snoc {a:List (ByteArray×β)} {p:ByteArray×β} (h:lastP a p.1=none):Sub a (a++[p]):=fun s v x=>by
 rw [lastP_snoc]
 by_cases e:p.1=s
 · subst e;rw [h] at x;cases x
 · rw [if_neg e];exact x
theorem lastP_none {l:List (ByteArray×β)} {s:ByteArray}:lastP l s=none↔∀ p∈l,p.1≠s:=by
 unfold lastP
 rw [Option.map_eq_none_iff,List.find?_eq_none]
 simp
end
theorem orC_iff {a b:Int}:orC a b=0↔a=0∧b=0:=by
 unfold orC
 split
 · rename_i h;simp [h]
 · rename_i h;simp [h]
theorem needC_iff {b:Bool} {c:Int} (hc:c≠0):needC b c=0↔b=true:=by
 unfold needC
 cases b<;>simp [hc]
section
variable {deps deps':List (ByteArray×Int)} {strs strs':List (ByteArray×Bool)}
theorem next_parts {m:MsgD} (h:(nextP deps strs m).2=0):nameB m.name=true∧lastP deps m.name=none∧(1≤m.fields.length∧m.fields.length≤40)∧(fieldsP deps strs [] m.fields).2=0∧depthM deps m < 16:=by
 have hl:=nextP_low h
 unfold nextP at h
 by_cases h1:nameB m.name=true
 · rw [if_pos h1] at h
   by_cases h2:(lastP deps m.name).isSome=true
   · rw [if_pos h2] at h;exact absurd h (by decide)
   · rw [if_neg h2] at h
     by_cases h3:1≤m.fields.length∧m.fields.length≤40
     · rw [if_pos h3] at h
       refine ⟨h1,by simpa using h2,h3,?_,hl⟩
       unfold tailP at h
       split at h
       · assumption
       · contradiction
     · rw [if_neg h3] at h;exact absurd h (by decide)
 · rw [if_neg h1] at h;exact absurd h (by decide)
end
section
variable {deps:List (ByteArray×Int)} {strs:List (ByteArray×Bool)}
theorem msgs_cons0 {m:MsgD} {l:List MsgD} {i:Nat} (h:(nextP deps strs m).2=0):msgsP deps strs i (m::l)=msgsP (stepD deps m) (stepS strs m) (i+1) l:=if_pos h
theorem msgs_cons1 {m:MsgD} {l:List MsgD} {i:Nat} (h:¬ (nextP deps strs m).2=0):msgsP deps strs i (m::l)=((i:Int),nextP deps strs m):=if_neg h
theorem msgs_append (r:List MsgD):∀ (l:List MsgD) (deps:List (ByteArray×Int)) (strs:List (ByteArray×Bool)) (i:Nat),((msgsP deps strs i l).2.2=0→msgsP deps strs i (l++r)=msgsP (l.foldl stepD deps) (l.foldl stepS strs) (i+l.length) r)∧((msgsP deps strs i l).2.2≠0→msgsP deps strs i (l++r)=msgsP deps strs i l)
 | [],deps,strs,i=>⟨fun _=>rfl,fun h=>absurd rfl h⟩
 | m::l,deps,strs,i=>by
  have ih:=msgs_append r l (stepD deps m) (stepS strs m) (i+1)
  by_cases h:(nextP deps strs m).2=0
  · rw [msgs_cons0 h,List.cons_append,msgs_cons0 h]
    simp only [List.foldl_cons,List.length_cons]
    rw [show i+(l.length+1)=i+1+l.length by omega]
    exact ih
  · rw [msgs_cons1 h,List.cons_append,msgs_cons1 h]
    exact ⟨fun k=>absurd k h,fun _=>rfl⟩
theorem msgs_at {l:List MsgD} {deps:List (ByteArray×Int)} {strs:List (ByteArray×Bool)} {i:Nat} (h:(msgsP deps strs i l).2.2=0) {k:Nat} {m:MsgD} (hk:l[k]?=some m):(nextP ((l.take k).foldl stepD deps) ((l.take k).foldl stepS strs) m).2=0∧(msgsP deps strs i (l.take k)).2.2=0:=by
 have hl:l=l.take k++m::l.drop (k+1):=by
  have:=(List.take_append_drop k l).symm
  rw [List.drop_eq_getElem_cons (List.getElem?_eq_some_iff.1 hk).1] at this
  rw [(List.getElem?_eq_some_iff.1 hk).2] at this
  exact this
 rw [hl] at h
 by_cases h0:(msgsP deps strs i (l.take k)).2.2=0
 · rw [(msgs_append _ _ _ _ _).1 h0] at h
   refine ⟨?_,h0⟩
   by_cases h1:(nextP ((l.take k).foldl stepD deps) ((l.take k).foldl stepS strs) m).2=0
   · exact h1
   · rw [msgs_cons1 h1] at h;exact absurd h h1
 · rw [(msgs_append _ _ _ _ _).2 h0] at h;exact absurd h h0
theorem deps_snoc (l:List MsgD) (m:MsgD):depsOf (l++[m])=depsOf l++[(m.name,depthM (depsOf l) m+1)]:=by unfold depsOf;rw [List.foldl_append];rfl
theorem strs_snoc (l:List MsgD) (m:MsgD):strsOf (l++[m])=strsOf l++[(m.name,strictM (strsOf l) m)]:=by unfold strsOf;rw [List.foldl_append];rfl
theorem fold_names:∀ (l:List MsgD) (a:List (ByteArray×Int)) (b:List (ByteArray×Bool)),(l.foldl stepD a).map (·.1)=a.map (·.1)++l.map (·.name)∧(l.foldl stepS b).map (·.1)=b.map (·.1)++l.map (·.name)
 | [],a,b=>by simp
 | m::l,a,b=>by
  have ih:=fold_names l (stepD a m) (stepS b m)
  simp only [List.foldl_cons,List.map_cons]
  rw [ih.1,ih.2]
  simp [stepD,stepS]
theorem isD {l:List MsgD} {s:ByteArray}:(lastP (depsOf l) s).isSome=true↔∃ m∈l,m.name=s:=by
 have h1:=(fold_names l [] []).1
 rw [← Option.ne_none_iff_isSome,ne_eq,lastP_none]
 constructor
 · intro h
   apply Classical.byContradiction
   intro hn
   apply h
   intro p hp he
   have:p.1∈(depsOf l).map (·.1):=List.mem_map.2 ⟨p,hp,rfl⟩
   rw [show depsOf l=l.foldl stepD [] from rfl,h1] at this
   obtain ⟨m,hm,hme⟩:=List.mem_map.1 (show p.1∈l.map (·.name) by simpa using this)
   exact hn ⟨m,hm,hme.trans he⟩
 · rintro ⟨m,hm,rfl⟩ h
   have:m.name∈(depsOf l).map (·.1):=by rw [show depsOf l=l.foldl stepD [] from rfl,h1];simpa using ⟨m,hm,rfl⟩
   obtain ⟨p,hp,hpe⟩:=List.mem_map.1 this
   exact h p hp hpe
theorem isS {l:List MsgD} {s:ByteArray}:(lastP (strsOf l) s).isSome=true↔∃ m∈l,m.name=s:=by
 have h1:=(fold_names l [] []).2
 rw [← Option.ne_none_iff_isSome,ne_eq,lastP_none]
 constructor
 · intro h
   apply Classical.byContradiction
   intro hn
   apply h
   intro p hp he
   have:p.1∈(strsOf l).map (·.1):=List.mem_map.2 ⟨p,hp,rfl⟩
   rw [show strsOf l=l.foldl stepS [] from rfl,h1] at this
   obtain ⟨m,hm,hme⟩:=List.mem_map.1 (show p.1∈l.map (·.name) by simpa using this)
   exact hn ⟨m,hm,hme.trans he⟩
 · rintro ⟨m,hm,rfl⟩ h
   have:m.name∈(strsOf l).map (·.1):=by rw [show strsOf l=l.foldl stepS [] from rfl,h1];simpa using ⟨m,hm,rfl⟩
   obtain ⟨p,hp,hpe⟩:=List.mem_map.1 this
   exact h p hp hpe
def Fine (l:List MsgD):Prop:=(msgsP [] [] 0 l).2.2=0
theorem Fine.next {l:List MsgD} (h:Fine l) {k:Nat} {m:MsgD} (hk:l[k]?=some m):(nextP (depsOf (l.take k)) (strsOf (l.take k)) m).2=0:=(msgs_at h hk).1
theorem Fine.take {l:List MsgD} (h:Fine l) (k:Nat):Fine (l.take k):=by
 by_cases hk:k < l.length
 · obtain ⟨m,hm⟩:=getElem?_lt hk
   exact (msgs_at h hm).2
 · rw [List.take_of_length_le (by omega)];exact h
theorem Fine.sub {l:List MsgD} (h:Fine l):∀ (n k:Nat),Sub (depsOf (l.take k)) (depsOf (l.take (k+n)))∧Sub (strsOf (l.take k)) (strsOf (l.take (k+n)))
 | 0,k=>⟨Sub.refl _,Sub.refl _⟩
 | n+1,k=>by
  have ih:=h.sub n k
  rw [← Nat.add_assoc]
  by_cases hk:k+n < l.length
  · obtain ⟨m,hm⟩:=getElem?_lt hk
    have h2:=(next_parts (h.next hm)).2.1
    rw [take_snoc hm,deps_snoc,strs_snoc]
    refine ⟨ih.1.trans (Sub.snoc h2),ih.2.trans (Sub.snoc ?_)⟩
    show lastP (strsOf (l.take (k+n))) m.name=none
    rw [← Option.not_isSome_iff_eq_none,isS,← isD,Option.not_isSome_iff_eq_none]
    exact h2
  · rw [List.take_of_length_le (show l.length≤k+n+1 by omega)]
    rw [List.take_of_length_le (show l.length≤k+n by omega)] at ih
    exact ih
theorem Fine.suball {l:List MsgD} (h:Fine l) (k:Nat):Sub (depsOf (l.take k)) (depsOf l)∧Sub (strsOf (l.take k)) (strsOf l):=by
 have:=h.sub l.length k
 rw [List.take_of_length_le (show l.length≤k+l.length by omega)] at this
 exact this
theorem Fine.depth {l:List MsgD} (h:Fine l) {k:Nat} {m:MsgD} (hk:l[k]?=some m):lastP (depsOf l) m.name=some (depthM (depsOf (l.take k)) m+1):=by
 refine (h.suball (k+1)).1 _ _ ?_
 rw [take_snoc hk,deps_snoc,lastP_snoc,if_pos rfl]
theorem Fine.low {l:List MsgD} (h:Fine l):∀ k,Low (depsOf (l.take k))
 | 0=>fun p hp=>by simp [depsOf] at hp
 | k+1=>by
  by_cases hk:k < l.length
  · obtain ⟨m,hm⟩:=getElem?_lt hk
    rw [take_snoc hm,show depsOf (l.take k++[m])=stepD (depsOf (l.take k)) m from deps_snoc _ _]
    exact (h.low k).step (h.next hm)
  · rw [List.take_of_length_le (show l.length≤k+1 by omega)]
    have:=h.low k
    rw [List.take_of_length_le (show l.length≤k by omega)] at this
    exact this
end
section
variable {d:DefD}
theorem check_fine (h:(checkP d).2.2=0):nameB d.name=true∧(1≤d.msgs.length∧d.msgs.length≤60)∧Fine d.msgs∧(lastP (depsOf d.msgs) d.start).isSome=true:=by
 unfold checkP at h
 by_cases h1:nameB d.name=true
 · rw [if_pos h1] at h
   by_cases h2:1≤d.msgs.length∧d.msgs.length≤60
   · rw [if_pos h2] at h
     unfold endP at h
     by_cases h3:(msgsP [] [] 0 d.msgs).2.2=0
     · rw [if_pos h3] at h
       by_cases h4:(lastP (depsOf d.msgs) d.start).isSome=true
       · exact ⟨h1,h2,h3,h4⟩
       · rw [if_neg h4] at h;exact absurd h (by decide)
     · rw [if_neg h3] at h;exact absurd h h3
   · rw [if_neg h2] at h;exact absurd h (by decide)
 · rw [if_neg h1] at h;exact absurd h (by decide)
end
end Go.Proofs.YtdfhjlggcdemhaaGreat
namespace Go.Proofs.YtdfhjlggcdemhaaGreat
open Sw
open Go.RowKit (intOf Below)
def upI (v n:Int):Int:=(v+n - 1).tdiv n*n
def nextO (f:FieldD) (o:Int):Int:=if f.kind=1∨f.kind=2 then (o+f.bits).tmod 8 else if f.kind=10 then (upI o f.bits).tmod 8 else 0
def endO (l:List FieldD):Int:=l.foldl (fun o f=>nextO f o) 0
def needsB (f:FieldD):Bool:=f.little||!(f.kind == 1||f.kind == 2||f.kind == 10)
theorem endO_snoc (l:List FieldD) (f:FieldD):endO (l++[f])=nextO f (endO l):=by unfold endO;rw [List.foldl_append];rfl
theorem endO_step {l:List FieldD} {k:Nat} {f:FieldD} (h:l[k]?=some f):endO (l.take (k+1))=nextO f (endO (l.take k)):=by rw [take_snoc h,endO_snoc]
def okA (f:FieldD):Prop:=(f.kind=1∨f.kind=2→1≤f.bits∧f.bits≤32)∧(f.kind=10→padB f=true)
theorem padB_bits {f:FieldD} (h:padB f=true):2≤f.bits∧f.bits≤512∧(f.bits=2∨f.bits=4∨∃ q,1≤q∧f.bits=8*q):=by
 unfold padB at h
 simp only [Bool.or_eq_true,Bool.and_eq_true,beq_iff_eq,decide_eq_true_eq] at h
 rcases h with (h | h) | ⟨⟨h1,h2⟩,h3⟩
 · omega
 · omega
 · rw [Int.tmod_eq_emod_of_nonneg (by omega)] at h3
   exact ⟨by omega,h2,.inr (.inr ⟨f.bits / 8,by omega,by omega⟩)⟩
theorem upI_mul {v n:Int} (hv:0≤v) (hn:1≤n):∃ q,0≤q∧upI v n=n*q∧v≤n*q∧n*q < v+n:=by
 unfold upI
 rw [Int.tdiv_eq_ediv_of_nonneg (by omega)]
 have h1:=Int.emod_add_mul_ediv (v+n - 1) n
 have h2:=Int.emod_nonneg (v+n - 1) (b:=n) (by omega)
 have h3:=Int.emod_lt_of_pos (v+n - 1) (b:=n) (by omega)
 refine ⟨(v+n - 1) / n,Int.ediv_nonneg (by omega) (by omega),Int.mul_comm _ _,?_,?_⟩<;>omega
theorem nextO_bounds {f:FieldD} {o:Int} (h:okA f) (h0:0≤o):0≤nextO f o∧nextO f o≤7:=by
 unfold nextO
 split
 · rename_i hk
   have:=h.1 hk
   rw [Int.tmod_eq_emod_of_nonneg (by omega)];omega
 · split
   · rename_i hk
     have hb:=padB_bits (h.2 hk)
     obtain ⟨q,hq,he,h1,h2⟩:=upI_mul h0 (show 1≤f.bits by omega)
     rw [Int.tmod_eq_emod_of_nonneg (by rw [he];omega)];omega
   · omega
theorem endO_bounds {l:List FieldD} (h:∀ f∈l,okA f):0≤endO l∧endO l≤7:=by
 have key:∀ (l:List FieldD) (o:Int),(∀ f∈l,okA f)→0≤o∧o≤7→0≤l.foldl (fun o f=>nextO f o) o∧l.foldl (fun o f=>nextO f o) o≤7:=by
  intro l
  induction l with
  | nil=>exact fun o _ h=>h
  | cons f l ih=>exact fun o hl ho=>ih _ (fun g hg=>hl g (List.mem_cons_of_mem _ hg)) (nextO_bounds (hl f (List.mem_cons_self ..)) ho.1)
 exact key l 0 h (by decide)
theorem fields_all {deps:List (ByteArray×Int)} {strs:List (ByteArray×Bool)}:∀ (l bef:List FieldD),(fieldsP deps strs bef l).2=0→∀ (j:Nat) (f:FieldD),l[j]?=some f→examineC (bef++l.take j) (vI deps) (vB strs) f=0
 | [],bef,_,j,f,hj=>by simp at hj
 | g::l,bef,h,j,f,hj=>by
  rw [fieldsP] at h
  split at h
  · rename_i h0
    cases j with
    | zero =>
     injection hj with hj
     subst hj
     simpa using h0
    | succ j =>
     have:=fields_all l (bef++[g]) h j f (by simpa using hj)
     rw [List.append_assoc] at this
     simpa using this
  · rename_i h0;exact absurd h h0
theorem okA_of {bef:List FieldD} {D S:List (ByteArray×Value)} {f:FieldD} (h:examineC bef D S f=0):okA f:=by
 unfold examineC at h
 obtain ⟨_,h⟩:=orC_iff.1 h
 obtain ⟨_,h⟩:=orC_iff.1 h
 obtain ⟨_,h⟩:=orC_iff.1 h
 obtain ⟨_,h⟩:=orC_iff.1 h
 have hbits:bitsB f=true→1≤f.bits∧f.bits≤32:=by
  unfold bitsB
  simp only [Bool.and_eq_true,decide_eq_true_eq]
  exact fun h=>h.1
 refine ⟨fun hk=>?_,fun hk=>?_⟩
 · rcases hk with hk | hk
   · rw [show checkC bef D S f=orC (needC (bitsB f) 6) (withinC (topF f) 0 [f.low,f.high]) by unfold checkC;rw [hk];rfl] at h
     exact hbits ((needC_iff (by decide)).1 (orC_iff.1 h).1)
   · rw [show checkC bef D S f=orC (needC (bitsB f) 6) (withinC (topF f) 0 [f.low]) by unfold checkC;rw [hk];rfl] at h
     exact hbits ((needC_iff (by decide)).1 (orC_iff.1 h).1)
 · rw [show checkC bef D S f=needC (padB f) 6 by unfold checkC;rw [hk];rfl] at h
   exact (needC_iff (by decide)).1 h
theorem valid_okA {d:DefD} (h:(checkP d).2.2=0) {m:MsgD} (hm:m∈d.msgs):∀ f∈m.fields,okA f:=by
 obtain ⟨_,_,hf,_⟩:=check_fine h
 obtain ⟨k,hk⟩:=List.getElem?_of_mem hm
 intro f hfm
 obtain ⟨j,hj⟩:=List.getElem?_of_mem hfm
 exact okA_of (fields_all _ _ (next_parts (hf.next hk)).2.2.2.1 j f hj)
def atO (l:List FieldD) (i:Int):Int:=if 0≤i∧i≤l.length then endO (l.take i.toNat) else 0
def wrongP (l:List FieldD) (i:Nat):Bool:=match l[i]? with
 | none=>endO l != 0
 | some f=>(endO (l.take i) != 0&&needsB f)||(f.kind == 11&&atO l (idx0 (fun g=>decide (g.name=f.fr)) l) != 0)
def firstW (l:List FieldD):Option Nat:=(List.range (l.length+1)).find? (wrongP l)
def alignM:Nat→List MsgD→Int×Int×Int
 | _,[]=>(0,0,0)
 | k,m::l=>match firstW m.fields with
  | some i=>(k,(if i=m.fields.length then -1 else i),12)
  | none=>alignM (k+1) l
def alignP (d:DefD):Int×Int×Int:=if (checkP d).2.2≠0 then checkP d else alignM 0 d.msgs
def okM (l:List FieldD):Prop:=(∀ f∈l,okA f)∧∀ (i:Nat) (f:FieldD),l[i]?=some f→f.kind=11→((l.take i).any fun o=>decide (o.name=f.fr))=true
theorem checkC_ref {bef:List FieldD} {D S:List (ByteArray×Value)} {f:FieldD} (h:examineC bef D S f=0) (hk:f.kind=11):(bef.any fun o=>decide (o.name=f.fr))=true:=by
 unfold examineC at h
 obtain ⟨_,h⟩:=orC_iff.1 h
 obtain ⟨_,h⟩:=orC_iff.1 h
 obtain ⟨_,h⟩:=orC_iff.1 h
 obtain ⟨_,h⟩:=orC_iff.1 h
 rw [show checkC bef D S f=orC (withinC 3 1 [f.check]) (needC (bef.any fun o=>decide (o.name=f.fr)) 8) by unfold checkC;rw [hk];rfl] at h
 exact (needC_iff (by decide)).1 (orC_iff.1 h).2
theorem valid_okM {d:DefD} (h:(checkP d).2.2=0) {m:MsgD} (hm:m∈d.msgs):okM m.fields∧1≤m.fields.length∧m.fields.length≤40:=by
 refine ⟨⟨valid_okA h hm,fun i f hi hk=>?_⟩,?_⟩<;>obtain ⟨_,_,hf,_⟩:=check_fine h<;>obtain ⟨k,hk'⟩:=List.getElem?_of_mem hm
 · exact checkC_ref (fields_all _ _ (next_parts (hf.next hk')).2.2.2.1 i f hi) hk
 · exact (next_parts (hf.next hk')).2.2.1
theorem firstW_some {l:List FieldD} {i:Nat} (hi:i≤l.length) (hb:∀ j,j < i→wrongP l j=false) (h:wrongP l i=true):firstW l=some i:=by
 unfold firstW
 rw [List.find?_range_eq_some]
 exact ⟨h,by simp;omega,fun j hj=>by simp [hb j hj]⟩
theorem firstW_none {l:List FieldD} (hb:∀ j,j < l.length+1→wrongP l j=false):firstW l=none:=by
 unfold firstW
 rw [List.find?_eq_none]
 intro j hj
 simp [hb j (List.mem_range.1 hj)]
theorem alignM_some {k i:Nat} {m:MsgD} {l:List MsgD} (h:firstW m.fields=some i):alignM k (m::l)=((k:Int),(if i=m.fields.length then (-1:Int) else (i:Int)),(12:Int)):=by rw [alignM,h]
theorem alignM_none {k:Nat} {m:MsgD} {l:List MsgD} (h:firstW m.fields=none):alignM k (m::l)=alignM (k+1) l:=by rw [alignM,h]
theorem checkP_zero {d:DefD} (h:(checkP d).2.2=0):checkP d=(0,0,0):=by
 unfold checkP at *
 by_cases h1:nameB d.name=true
 · rw [if_pos h1] at *
   by_cases h2:1≤d.msgs.length∧d.msgs.length≤60
   · rw [if_pos h2] at *
     unfold endP at *
     by_cases h3:(msgsP [] [] 0 d.msgs).2.2=0
     · rw [if_pos h3] at *
       by_cases h4:(lastP (depsOf d.msgs) d.start).isSome=true
       · rw [if_pos h4]
       · rw [if_neg h4] at h;exact absurd h (by decide)
     · rw [if_neg h3] at h;exact absurd h h3
   · rw [if_neg h2] at h;exact absurd h (by decide)
 · rw [if_neg h1] at h;exact absurd h (by decide)
def flawedA (d:DefD):Bool:=decide ((alignP d).2.2≠0)
theorem alignP_flawed {d:DefD} (h:(checkP d).2.2≠0):alignP d=checkP d:=by unfold alignP;rw [if_pos h]
theorem alignP_valid {d:DefD} (h:(checkP d).2.2=0):alignP d=alignM 0 d.msgs:=by unfold alignP;rw [if_neg (by simp [h])]
end Go.Proofs.YtdfhjlggcdemhaaGreat
namespace Go.Sw
open Go.RowKit (Below)
structure LW3 (B:Nat) (w w':World):Prop where
 os:w'.os=w.os
 tape:w'.tape=w.tape
 output:w'.output=w.output
 size:w.heap.size≤w'.heap.size
 block:∀ b,b < B→b < w.heap.size→w'.heap[b]?=w.heap[b]?
theorem LW3.mono {B B':Nat} {w w':World} (h:LW3 B w w') (hb:B'≤B):LW3 B' w w':=⟨h.os,h.tape,h.output,h.size,fun b hl=>h.block b (by omega)⟩
theorem LW3.of {B:Nat} {w w':World} (e:Ext w w'):LW3 B w w':=⟨e.os,e.tape,e.output,e.size,fun b _ hb=>e.block b hb⟩
theorem LW3.put {B l:Nat} {w:World} (hb:B≤l) (o:Obj):LW3 B w (w.putObj l o):=⟨rfl,rfl,rfl,by simp,fun b hB _=>World.putObj_heap_other (by omega)⟩
theorem LW3.setCell {B:Nat} {w:World} {p:Nat} (hb:B≤p) (o:Nat) (v:Value):LW3 B w (w.setCell ⟨p,o,none⟩ v):=⟨rfl,rfl,rfl,by simp,fun b hB _=>Below.heap_setCell w ⟨p,o,none⟩ v b (by show b≠p;omega)⟩
def Lasts3 (B:Nat) (I:World→Prop):Prop:=∀ w w',LW3 B w w'→I w→I w'
theorem Lasts3.ext {B:Nat} {I:World→Prop} (h:Lasts3 B I) {w w':World} (hI:I w) (e:Ext w w'):I w':=h _ _ (.of e) hI
theorem Lasts3.cell {B:Nat} {I:World→Prop} (h:Lasts3 B I) {w:World} (hI:I w) {p:Nat} (hb:B≤p) (o:Nat) (v:Value):I (w.setCell ⟨p,o,none⟩ v):=h _ _ (.setCell hb o v) hI
theorem Lasts3.loop {B l:Nat} {I:World→Prop} (h:Lasts3 B I) {w:World} {r:Loop} (hb:B≤l) (hI:I w) (_:w.heap[l]?=some (.loop r)) (o:Obj):I (w.putObj l o):=h _ _ (.put hb o) hI
theorem Lasts3.mark {B l:Nat} {I:World→Prop} (h:Lasts3 B I) {w:World} (hb:B≤l) (hI:I w) (_:MarkAt l w) (o:Obj):I (w.putObj l o):=h _ _ (.put hb o) hI
theorem Lasts3.busied {B l:Nat} {I:World→Prop} {w w':World} (h:Lasts3 B I) (hb:Busied l w w') (hl:B≤l) (hI:I w):I w':=by
 obtain ⟨r,hr,rfl⟩:=hb
 exact h.loop hl hI hr _
theorem Lasts3.mono {B B':Nat} {I:World→Prop} (h:Lasts3 B I) (hb:B≤B'):Lasts3 B' I:=fun _ _ hl=>h _ _ (hl.mono hb)
theorem Lasts3.and {B:Nat} {I J:World→Prop} (h:Lasts3 B I) (k:Lasts3 B J):Lasts3 B (fun w=>I w∧J w):=fun w w' hl hh=>⟨h _ _ hl hh.1,k _ _ hl hh.2⟩
theorem Lasts3.ex {B:Nat} {α:Sort _} {I:α→World→Prop} (h:∀ x,Lasts3 B (I x)):Lasts3 B (fun w=>∃ x,I x w):=fun w w' hl ⟨x,hx⟩=>⟨x,h x _ _ hl hx⟩
theorem Lasts3.const (B:Nat) (p:Prop):Lasts3 B (fun _=>p):=fun _ _ _ h=>h
theorem Lasts3.from {B:Nat} {w0:World} (hb:w0.heap.size≤B):Lasts3 B (Ext w0):=fun w w' hl e=>⟨hl.os.trans e.os,hl.tape.trans e.tape,hl.output.trans e.output,Nat.le_trans e.size hl.size,fun k hk=>by
 have:=e.size
 rw [hl.block k (by omega) (by omega)];exact e.block k hk⟩
theorem Lasts3.low {B b:Nat} (hb:b < B) (o:Obj):Lasts3 B (fun w=>w.heap[b]?=some o):=fun w w' hl h=>by
 show w'.heap[b]?=some o
 rw [hl.block b hb (Array.getElem?_eq_some_iff.1 h).1];exact h
end Go.Sw
namespace Go.Proofs.YtdfhjlggcdemhaaGreat
open Sw
def n19 (t0 t1:Value) (R:RT) (w:World):Prop :=
 B0 .add 3 false t0 t1 R w fun t7 w =>
 B0 .sub 3 true t7 (.int .i64 1) R w fun t8 w =>
 B0 .quo 3 false t8 t1 R w fun t10 w =>
 B0 .mul 3 false t10 t1 R w fun t12 w =>
 R (.returned t12) w
theorem n19s {t0 t1:Value} {R:RT} {w:World} (h:n19 t0 t1 R w):Calls Pg 59 #[t0,t1] w R:=by
 refine yD Tryz.func59 ?_
 refine zs<|zr<|zm<|zn<|zk<|zs<|zr<|zm<|zm<|yb h fun _ w h=>yb h fun _ w h=>zm<|yb h fun _ w h=>zm<|yb h fun _ w h=>?_
 exact zm<|zn<|zk<|sim_ret<|body_ret1 rfl rfl h
def n15c1 (t3 t4 t9 t10:Value) (Kr1:World→Prop) (Qr1:List PanicEntry→World→Prop) (Xr1:Nat→World→Prop) (R:RT) (w:World):Prop :=
 opV Pg (Instr.loadAt 3 t3) Qr1 w fun t12 w =>
 opV Pg (binS .eql 3 false t9 t12) Qr1 w fun t13 w =>
 condP t13 (
 opU Pg (Instr.storeAt 3 t4 t10) Qr1 w fun w =>
 Xr1 0 w) (
 Kr1 w)
def n15c2 (t3 t4 t8:Value) (ds:List Deferred) (R:RT) (w:World):Prop :=
 rangeN2 Pg t8 ds (fun l1 t9 t10 w Kr1 Xr1 Qr1 =>
 busyK l1 w fun w =>
 n15c1 t3 t4 t9 t10 Kr1 Qr1 Xr1 R w) (fun ch ds w=>outQ Pg ds [(some 3,t4)] R ch w) w (fun ds w =>
 opU Pg (Instr.storeAt 3 t4 (.int .i64 0)) (outQ Pg ds [(some 3,t4)] R) w fun w =>
 outX Pg ds [(some 3,t4)] R w) [fun ds w =>
 outX Pg ds [(some 3,t4)] R w]
def n15 (t0 t1:Value) (R:RT) (w:World):Prop :=
 (fun (ds:List Deferred) =>
 opV Pg (Instr.box 3 t1) (outQ Pg ds [(some 3,undef)] R) w fun t3 w =>
 opV Pg (Instr.alloc 3 true (.tuple #[])) (outQ Pg ds [(some 3,undef)] R) w fun t4 w =>
 callK Pg 50 #[t0] (outQ Pg ds [(some 3,t4)] R) w fun t8 w =>
 n15c2 t3 t4 t8 ds R w) []
theorem n15s {t0 t1:Value} {R:RT} {w:World} (h:n15 t0 t1 R w):Calls Pg 60 #[t0,t1] w R:=by
 refine yE Tryz.func60 ?_
 unfold n15 at h
 dsimp only at h
 refine zs<|zr<|yv h fun _ w h=>yv h fun _ w h=>zn<|zk<|zs<|zs<|zr<|zm<|yc h c50 fun _ w h=>zn<|zk<|sim_block<|sim_range2 [.ret] h rfl (fun l1 t9 t10 w Kr1 Xr1 Qr1 h=>?_) (fun ds w h=>?_) (fun c ds w h=>?_) (fun ch ds w h=>outQ_of rfl h)
 · refine zs<|zr<|zm<|zn<|zk<|zr<|zm<|zn<|zk ?_
   obtain ⟨hr,h⟩:=h
   refine ⟨rfl,hr,fun w hb=>?_⟩
   have h:=h w hb
   exact sim_block<|zs<|zr<|zm<|yv h fun _ w h=>yb h fun _ w h=>zn<|zk<|yC h (fun h=>zs<|zr<|zm<|yu h fun w h=>zn<|zk<|sim_ret<|sim_block_ret<|⟨rfl,0,rfl,h⟩) fun h=>sim_skip<|sim_block_normal<|⟨rfl,h⟩
 · exact sim_block_normal<|zk<|zs<|zr<|yu h fun w h=>zn<|zk<|sim_ret<|bodyM_ret rfl h
 rcases c with _ | c
 · refine ⟨_,rfl,.inl ⟨rfl,?_⟩⟩
   exact sim_block_ret<|sim_then_ret<|bodyM_ret rfl h
 exact h.elim
end Go.Proofs.YtdfhjlggcdemhaaGreat
namespace Go.Proofs.YtdfhjlggcdemhaaGreat
open Sw
def n3c1 (t7:Value) (R:RT) (w:World):Prop :=
 opV Pg (Instr.extract t7 0) (panK R) w fun t8 w =>
 opV Pg (Instr.extract t7 1) (panK R) w fun t9 w =>
 opV Pg (Instr.alloc 29 true (.tuple #[])) (panK R) w fun t3 w =>
 opU Pg (Instr.storeAt 29 t3 t8) (panK R) w fun w =>
 opV Pg (Op.unary .not t9) (panK R) w fun t11 w =>
 R (.returned t11) w
def n3 (t0:Value) (R:RT) (w:World):Prop :=
 opV Pg (Instr.box 24 t0) (panK R) w fun t1 w =>
 L0 24 t1 R w fun t6 w =>
 C0 16 #[t6] R w fun t7 w =>
 n3c1 t7 R w
theorem n3s {t0:Value} {R:RT} {w:World} (h:n3 t0 R w):Calls Pg 18 #[t0] w R:=by
 refine yD Tryz.func18 ?_
 refine zs<|zr<|yv h fun _ w h=>zm<|zn<|zk<|zs<|zr<|yv h fun _ w h=>yc h c16 fun _ w h=>zm<|yv h fun _ w h=>yv h fun _ w h=>yv h fun _ w h=>yu h fun w h=>?_
 exact zm<|zn<|zk<|zs<|zr<|zm<|yv h fun _ w h=>zm<|zn<|zk<|sim_ret<|body_ret1 rfl rfl h
def n7c1 (t1 t6 t8:Value) (C2:World→Prop) (R:RT) (w:World):Prop :=
 qV Pg C2 (Instr.lookup 93 t6 t8 true) fun t9 =>
 qV Pg C2 (Instr.extract t9 0) fun t10 =>
 qV Pg C2 (Instr.extract t9 1) fun t11 =>
 opV Pg (Op.unary .not t11) (panK R) w fun t13 w =>
 joinK (fun (t16:Value) (w:World) =>
 pickK t13 (.bool true) t16 fun t17 =>
 R (.returned t17) w) fun K3 =>
 guardP t13 false (
 F0 38 t1 3 R w fun t15 w =>
 L0 4 t15 R w fun t16 w =>
 K3 t16 w) (
 K3 undef w)
def n7c2 (t1:Value) (C1:World→Prop) (R:RT) (w:World):Prop :=
 qV Pg C1 (Instr.fieldAt 38 t1 1) fun t7 =>
 qV Pg C1 (Instr.loadAt 32 t7) fun t8 =>
 C0 54 #[] R w fun t6 w =>
 narrowK C1 w fun C2 w =>
 n7c1 t1 t6 t8 C2 R w
def n7 (t0:Value) (R:RT) (w:World):Prop :=
 opV Pg (Instr.box 38 t0) (panK R) w fun t1 w =>
 drawK w fun C1 w =>
 n7c2 t1 C1 R w
theorem n7s {t0:Value} {R:RT} {w:World} (h:n7 t0 R w):Calls Pg 19 #[t0] w R:=by
 refine yD Tryz.func19 ?_
 refine zs<|zr<|yv h fun _ w h=>zm<|zn<|zk<|zs<|yh [3,4,5,6,7,8,9,10,11] h fun C hC h=>ye 1 hC h fun _ h=>?_
 refine ye 2 hC h fun _ h=>?_
 refine yr 0 ?_
 refine yc h c54 fun _ w h=>zn ?_
 obtain ⟨C2,hs,hC,h⟩:=h
 refine ⟨C2,hs,hC,?_⟩
 refine ye 3 hC h fun _ h=>?_
 refine yw 4 hC ?_
 refine ye 5 hC h fun _ h=>?_
 refine ye 6 hC h fun _ h=>?_
 refine yw 7 hC ?_
 refine yw 8 hC ?_
 refine yz<|zk<|zs<|sim_regionG<|yG 3<|zm<|yv h fun _ w h=>zm<|zn<|yg1 2 2 false [15,16] 16 h (fun _ T hT h=>?_) fun σ w h=>?_
 · refine yv h fun _ w h=>yv h fun _ w h=>zn ?_
   exact zt hT h
 exact yG 2<|yp h fun _ h=>zm<|zn<|sim_end<|zk<|sim_ret<|body_ret1 rfl rfl h
def n9c1 (t10:Value) (R:RT) (w:World):Prop :=
 opV Pg (Instr.extract t10 0) (panK R) w fun t11 w =>
 opV Pg (Instr.extract t10 1) (panK R) w fun t12 w =>
 opV Pg (Instr.alloc 42 true (.tuple #[])) (panK R) w fun t5 w =>
 opU Pg (Instr.storeAt 42 t5 t11) (panK R) w fun w =>
 L0 42 t5 R w fun t13 w =>
 C0 56 #[t13] R w fun t14 w =>
 opU Pg (Instr.storeAt 42 t5 t14) (panK R) w fun w =>
 opV Pg (Instr.makeFunc (.func 57) #[] #[t5]) (panK R) w fun t15 w =>
 R (.returned t15) w
def n9 (t0 t1:Value) (R:RT) (w:World):Prop :=
 opV Pg (Instr.box 24 t0) (panK R) w fun t2 w =>
 L0 24 t2 R w fun t8 w =>
 C0 55 #[t8,t1] R w fun t10 w =>
 n9c1 t10 R w
theorem n9s {t0 t1:Value} {R:RT} {w:World} (h:n9 t0 t1 R w):Calls Pg 22 #[t0,t1] w R:=by
 refine yD Tryz.func22 ?_
 refine zs<|zr<|yv h fun _ w h=>zm<|zn<|zk<|zs<|zr<|yv h fun _ w h=>zm<|yc h c55 fun _ w h=>zm<|yv h fun _ w h=>yv h fun _ w h=>yv h fun _ w h=>?_
 refine yu h fun w h=>zm<|zn<|zk<|zs<|zr<|yv h fun _ w h=>yc h c56 fun _ w h=>yu h fun w h=>zn<|zk<|zs<|zr<|yF h fun _ w h=>zm ?_
 exact zn<|zk<|sim_ret<|body_ret1 rfl rfl h
def n11c1 (t0 t1 t31 t34:Value) (R:RT) (w:World):Prop :=
 pickK t31 (.bool true) t34 fun t35 =>
 condP t35 (
 R (.returned (.tuple #[(.int .i64 0),(.int .i64 2)])) w) (
 C0 59 #[t1,t0] R w fun t38 w =>
 B0 .sub 3 false t38 t1 R w fun t40 w =>
 R (.returned (.tuple #[t40,(.int .i64 0)])) w)
def n11c2 (t0 t1 t27 t30:Value) (R:RT) (w:World):Prop :=
 pickK t27 (.bool true) t30 fun t31 =>
 joinK (fun (t34:Value) (w:World) =>
 n11c1 t0 t1 t31 t34 R w) fun K8 =>
 guardP t31 false (
 B0 .gtr 3 true t1 (.int .i64 335544320) R w fun t34 w =>
 K8 t34 w) (
 K8 undef w)
def n11c3 (t0 t1 t12 t24:Value) (R:RT) (w:World):Prop :=
 pickK t12 (.bool true) t24 fun t25 =>
 opV Pg (Op.unary .not t25) (panK R) w fun t27 w =>
 joinK (fun (t30:Value) (w:World) =>
 n11c2 t0 t1 t27 t30 R w) fun K7 =>
 guardP t27 false (
 B0 .lss 3 true t1 (.int .i64 0) R w fun t30 w =>
 K7 t30 w) (
 K7 undef w)
def n11c4 (t0 t1 t12 t20:Value) (R:RT) (w:World):Prop :=
 joinK (fun (t23:Value) (w:World) =>
 joinK (fun (t24:Value) (w:World) =>
 n11c3 t0 t1 t12 t24 R w) fun K6 =>
 guardP t12 false (
 pickK t20 t23 (.bool false) fun t24 =>
 K6 t24 w) (
 K6 undef w)) fun K5 =>
 guardP t20 true (
 B0 .rem 3 true t0 (.int .i64 8) R w fun t22 w =>
 B0 .eql 3 true t22 (.int .i64 0) R w fun t23 w =>
 K5 t23 w) (
 K5 undef w)
def n11c5 (t0 t1 t12 t16:Value) (R:RT) (w:World):Prop :=
 joinK (fun (t18:Value) (w:World) =>
 joinK (fun (t20:Value) (w:World) =>
 n11c4 t0 t1 t12 t20 R w) fun K4 =>
 guardP t12 false (
 pickK t16 t18 (.bool false) fun t19 =>
 K4 t19 w) (
 K4 undef w)) fun K3 =>
 guardP t16 true (
 B0 .leq 3 true t0 (.int .i64 512) R w fun t18 w =>
 K3 t18 w) (
 K3 undef w)
def n11c6 (t0 t1 t8 t11:Value) (R:RT) (w:World):Prop :=
 pickK t8 (.bool true) t11 fun t12 =>
 joinK (fun (t16:Value) (w:World) =>
 n11c5 t0 t1 t12 t16 R w) fun K2 =>
 guardP t12 false (
 B0 .geq 3 true t0 (.int .i64 8) R w fun t15 w =>
 K2 t15 w) (
 K2 undef w)
def n11 (t0 t1:Value) (R:RT) (w:World):Prop :=
 B0 .eql 3 true t0 (.int .i64 2) R w fun t8 w =>
 joinK (fun (t11:Value) (w:World) =>
 n11c6 t0 t1 t8 t11 R w) fun K1 =>
 guardP t8 false (
 B0 .eql 3 true t0 (.int .i64 4) R w fun t11 w =>
 K1 t11 w) (
 K1 undef w)
theorem n11s {t0 t1:Value} {R:RT} {w:World} (h:n11 t0 t1 R w):Calls Pg 24 #[t0,t1] w R:=by
 refine yD Tryz.func24 ?_
 refine zs<|zr<|zm<|zm<|zn<|zk<|zs<|sim_regionG<|yG 3<|zm<|yb h fun _ w h=>zm<|zn<|yg1 2 2 false [10,11] 11 h (fun _ T hT h=>?_) fun σ w h=>?_
 · refine zm<|yb h fun _ w h=>zn ?_
   exact zt hT h
 refine yG 2<|yp h fun _ h=>zm<|zn<|yg1 3 6 false [14,15,16] 16 h (fun _ T hT h=>?_) fun σ w h=>?_
 · refine zm<|yb h fun _ w h=>zm<|zn ?_
   exact zt hT h
 refine yg1 2 9 true [17,18] 18 h (fun _ T hT h=>?_) fun σ w h=>?_
 · refine zm<|yb h fun _ w h=>zn ?_
   exact zt hT h
 refine yg1 2 6 false [19,20] 20 h (fun _ T hT h=>?_) fun σ w h=>?_
 · refine yp h fun _ h=>zm<|zn ?_
   exact zt hT h
 refine yg1 3 13 true [21,22,23] 23 h (fun _ T hT h=>?_) fun σ w h=>?_
 · refine zm<|yb h fun _ w h=>yb h fun _ w h=>zn ?_
   exact zt hT h
 refine yg1 1 6 false [24] 24 h (fun _ T hT h=>?_) fun σ w h=>?_
 · refine yp h fun _ h=>zn ?_
   exact zt hT h
 refine yG 2<|yp h fun _ h=>zm<|zn<|sim_end<|zk<|zs<|zs<|sim_regionG<|yG 3<|zm<|yv h fun _ w h=>zm<|zn<|yg1 2 2 false [29,30] 30 h (fun _ T hT h=>?_) fun σ w h=>?_
 · refine zm<|yb h fun _ w h=>zn ?_
   exact zt hT h
 refine yG 2<|yp h fun _ h=>zm<|zn<|yg1 2 6 false [33,34] 34 h (fun _ T hT h=>?_) fun σ w h=>?_
 · refine zm<|yb h fun _ w h=>zn ?_
   exact zt hT h
 refine yG 1<|yp h fun _ h=>zn<|sim_end<|zk<|yC h (fun h=>zs<|zr<|zm<|zm<|zn<|zk<|sim_ret<|sim_then_ret<|body_ret2 rfl rfl rfl h) fun h=>sim_skip<|zk<|zs<|zr<|zm<|zm<|yc h c59 fun _ w h=>zm ?_
 exact yb h fun _ w h=>zm<|zm<|zn<|zk<|sim_ret<|body_ret2 rfl rfl rfl h
end Go.Proofs.YtdfhjlggcdemhaaGreat
namespace Go.Proofs.YtdfhjlggcdemhaaGreat
open Sw
open Go.RowKit (intOf Below)
theorem up_ret (w0:World) (v n:Int) (hv:0≤v) (hv2:v≤1000000000) (hn:1≤n) (hn2:n≤512):Ret Pg 59 #[.int .i64 v,.int .i64 n] w0 fun r w'=>r = .int .i64 (upI v n)∧Ext w0 w':=by
 obtain ⟨q,hq,he,h1,h2⟩:=upI_mul hv hn
 have hd:(v+n - 1).tdiv n*n=upI v n:=rfl
 have hd0:0≤(v+n - 1).tdiv n∧(v+n - 1).tdiv n≤v+n:=by
  rw [Int.tdiv_eq_ediv_of_nonneg (by omega)]
  exact ⟨Int.ediv_nonneg (by omega) (by omega),Int.le_trans (Int.ediv_le_self _ (by omega)) (by omega)⟩
 have hn0:n≠0:=by omega
 refine n19s (R:=retR _) ?_;unfold n19
 have hb:0≤(v+n - 1).tdiv n*n∧(v+n - 1).tdiv n*n≤v+n:=by rw [hd];omega
 simp (disch:=try exact DI) only [↓PR,QR,simprocAttr,op_quo,wrap_ok,hd]
 exact ⟨by first | trivial | rfl,ee⟩
def KindsA (L:List (Int×Value×Nat)):Prop:=∀ k,Sw.look L k=if k=10 then some (.func (.func 99) #[] #[]) else if k=1∨k=2 then some (.func (.func 98) #[] #[]) else none
theorem kinda_step {w0 w:World} {m c:Nat} {L:List (Int×Value×Nat)} {QP:List PanicEntry→World→Prop} {ku:World→Prop} (hM:MapB w m kindEnc L c) (e:Ext w0 w) (hm:w0.heap.size≤m) (k:Int) (v:Value)
 (h:∀ w' L' c',MapB w' m kindEnc L' c'→(∀ k',Sw.look L' k'=if k'=k then some v else Sw.look L k')→Ext w0 w'→ku w'):opU Pg (Instr.mapUpdate 93 (.map (some m)) (.int .i64 k) v) QP w ku:=by
 rw [op_mapUpdate Tryz.underlying93 (KeyOK.int Tryz.underlying32) hM k v]
 exact h _ _ _ (hM.put k v) (fun k'=>look_put _ _ _ _ _) (e.putObj hm _)
theorem after_ret (w0:World):Ret Pg 54 #[] w0 fun r w'=>∃ m L c,r = .map (some m)∧w0.heap.size≤m∧MapB w' m kindEnc L c∧KindsA L∧Ext w0 w':=by
 refine n12s (R:=retR _) ?_;unfold n12
 simp (disch:=try exact DI) only [↓PR,QR,simprocAttr]
 have hM0:MapB (w0.alloc (.map #[] 0)) w0.heap.size kindEnc [] 0:=MapB.new w0 _
 have e0:Ext w0 (w0.alloc (.map #[] 0)):=ee
 refine kinda_step hM0 e0 (Nat.le_refl _) 1 _ (fun w1 L1 c1 hM1 hl1 e1=>?_)
 simp (disch:=try exact DI) only [↓PR,QR,simprocAttr]
 refine kinda_step hM1 e1 (Nat.le_refl _) 2 _ (fun w2 L2 c2 hM2 hl2 e2=>?_)
 simp (disch:=try exact DI) only [↓PR,QR,simprocAttr]
 refine kinda_step hM2 e2 (Nat.le_refl _) 10 _ (fun w3 L3 c3 hM3 hl3 e3=>?_)
 simp (disch:=try exact DI) only [↓PR,QR,simprocAttr]
 have hn:∀ k,Sw.look ([]:List (Int×Value×Nat)) k=none:=fun _=>rfl
 refine ⟨_,_,_,rfl,Nat.le_refl _,hM3,fun k=>?_,e3⟩
 rw [hl3,hl2,hl1,hn]
 by_cases h10:k=10
 · rw [if_pos h10,if_pos h10]
 · rw [if_neg h10,if_neg h10]
   by_cases h2:k=2
   · rw [if_pos h2,if_pos (.inr h2)]
   · rw [if_neg h2]
     by_cases h1:k=1
     · rw [if_pos h1,if_pos (.inl h1)]
     · rw [if_neg h1,if_neg (by omega)]
theorem Needs_ret (w0:World) (v:Value) (f:FieldD) (hf:FieldVal w0 v f):Ret Pg 19 #[v] w0 fun r w'=>r = .bool (needsB f)∧Ext w0 w':=by
 obtain ⟨tv,cv,rfl,hT,hC⟩:=hf
 have ht1:=SliceOf.oneCell hT
 have hc1:=SliceOf.oneCell hC
 refine n7s (R:=retR _) ?_;unfold n7
 simp (disch:=try exact DI) only [↓PR,QR,simprocAttr]
 generalize hW:World.alloc w0 _=W
 have e0:Ext w0 W:=by rw [← hW];exact ee
 have o1:W.heap[w0.heap.size]?=some (.cells (fieldCells f tv cv).toArray 38 (0,0)):=by rw [← hW];simp (disch:=try exact DI) only [↓PR,QR,simprocAttr]
 clear hW
 refine drawK_intro ?_
 have eD:Ext W W.drew:=(Ext.refl _).wdrew
 unfold n7c2
 simp (disch:=try exact DI) only [↓PR,QR,simprocAttr,(cells_of_heap o1).1]
 refine callK_ret (after_ret _) ?_
 rintro _ w1 ⟨m,L,c,rfl,hm,hM,hK,e1⟩
 have x1:=(eD.trans e1).obj o1
 have E1:=e0.trans (eD.trans e1)
 refine narrowK_KM e1 hM ?_
 haveI:ClassNe (KM W.drew m kindEnc L c):=⟨⟨w1,e1,hM⟩⟩
 unfold n7c1
 simp only [drew_wdrew]
 rw [qV_lookupKM Tryz.underlying93 (KeyOK.int Tryz.underlying32) ty91 ⟨w1,e1,hM⟩]
 rw [hK]
 unfold needsB
 by_cases h10:f.kind=10
 · rw [if_pos h10]
   simp (disch:=try exact DI) only [↓PR,QR,simprocAttr,(cells_of_heap x1).1]
   exact ⟨by simp [h10],E1⟩
 · rw [if_neg h10]
   by_cases h12:f.kind=1∨f.kind=2
   · rw [if_pos h12]
     simp (disch:=try exact DI) only [↓PR,QR,simprocAttr,(cells_of_heap x1).1]
     refine ⟨?_,E1⟩
     rcases h12 with h | h<;>simp [h]
   · rw [if_neg h12]
     simp (disch:=try exact DI) only [↓PR,QR,simprocAttr]
     refine ⟨?_,E1⟩
     have h1:f.kind≠1:=fun h=>h12 (.inl h)
     have h2:f.kind≠2:=fun h=>h12 (.inr h)
     simp [h1,h2,h10]
end Go.Proofs.YtdfhjlggcdemhaaGreat
namespace Go.Proofs.YtdfhjlggcdemhaaGreat
open Sw
def n13 (t0 t1:Value) (R:RT) (w:World):Prop :=
 opV Pg (Instr.box 38 t0) (panK R) w fun t2 w =>
 F0 38 t2 2 R w fun t6 w =>
 L0 3 t6 R w fun t7 w =>
 B0 .add 3 false t1 t7 R w fun t8 w =>
 R (.returned t8) w
theorem n13s {t0 t1:Value} {R:RT} {w:World} (h:n13 t0 t1 R w):Calls Pg 98 #[t0,t1] w R:=by
 refine yD Tryz.func98 ?_
 refine zs<|zr<|yv h fun _ w h=>zm<|zn<|zk<|zs<|zr<|zm<|yv h fun _ w h=>yv h fun _ w h=>yb h fun _ w h=>zm<|zn<|zk ?_
 exact sim_ret<|body_ret1 rfl rfl h
def n14 (t0 t1:Value) (R:RT) (w:World):Prop :=
 opV Pg (Instr.box 38 t0) (panK R) w fun t2 w =>
 F0 38 t2 2 R w fun t6 w =>
 L0 3 t6 R w fun t7 w =>
 C0 59 #[t1,t7] R w fun t8 w =>
 R (.returned t8) w
theorem n14s {t0 t1:Value} {R:RT} {w:World} (h:n14 t0 t1 R w):Calls Pg 99 #[t0,t1] w R:=by
 refine yD Tryz.func99 ?_
 refine zs<|zr<|yv h fun _ w h=>zm<|zn<|zk<|zs<|zr<|zm<|yv h fun _ w h=>yv h fun _ w h=>yc h c59 fun _ w h=>zm<|zn<|zk ?_
 exact sim_ret<|body_ret1 rfl rfl h
end Go.Proofs.YtdfhjlggcdemhaaGreat
namespace Go.Proofs.YtdfhjlggcdemhaaGreat
open Sw
open Go.RowKit (intOf Below)
def EFieldW (_:World) (cs:List Value) (f:FieldD):Prop:=∃ tv cv,cs=fieldCells f tv cv∧tv.oneCell'=true∧cv.oneCell'=true
theorem keptFieldW:Kept EFieldW:=fun _ _ _ _ _ h=>h
def FieldsW (w:World) (v:Value) (l:List FieldD):Prop:=SliceOf w 15 EFieldW v l
theorem FieldsW.ext {w w':World} {v:Value} {l:List FieldD} (h:FieldsW w v l) (e:Ext w w'):FieldsW w' v l:=SliceOf.ext keptFieldW h e
theorem EField.weak {w w':World} {cs:List Value} {f:FieldD} (h:EField w cs f):EFieldW w' cs f:=by
 obtain ⟨tv,cv,h1,_,_,h4,h5⟩:=h.op
 exact ⟨tv,cv,h1,h4,h5⟩
theorem FieldsOf.weak {w:World} {v:Value} {l:List FieldD} (h:FieldsOf w v l):FieldsW w v l:=by
 obtain ⟨A,c,h1,h2,h3,h4⟩:=h
 refine ⟨A,c,h1,h2,h3,fun hn=>?_⟩
 obtain ⟨b,o,h5,h6⟩:=h4 hn
 refine ⟨b,o,h5,fun k x hx=>?_⟩
 obtain ⟨cs,h7,h8,h9⟩:=h6 k x hx
 exact ⟨cs,h7,h8,EField.weak h9⟩
def OffAt (pb:Nat) (v:Value) (l:List FieldD) (w:World):Prop:=w.heap[pb]?=some (.cells #[v] 42 (0,0))∧FieldsW w v l
theorem OffAt.ext {pb:Nat} {v:Value} {l:List FieldD} {w w':World} (h:OffAt pb v l w) (e:Ext w w'):OffAt pb v l w':=⟨e.obj h.1,h.2.ext e⟩
theorem offsets_ret (w0:World) (v:Value) (l:List FieldD) (hF:FieldsW w0 v l):Ret Pg 50 #[v] w0 fun r w'=>∃ pb,r = .func (.func 89) #[] #[.pointer (some ⟨pb,0,none⟩)]∧OffAt pb v l w'∧w0.heap.size≤pb∧pb < w'.heap.size∧Ext w0 w':=by
 obtain ⟨A,c,rfl,hlc,hcm,hlm,hel⟩:=SliceOf.open hF
 refine n17s (R:=retR _) ?_;unfold n17
 simp (disch:=try exact DI) only [↓PR,QR,simprocAttr]
 exact ⟨_,rfl,⟨heap_new _ _ _,hF.ext ee⟩,Nat.le_refl _,by simp,ee⟩
theorem alnum_ret (w0:World) (tv cv:Value) (ht1:tv.oneCell'=true) (hc1:cv.oneCell'=true) (f:FieldD) (o:Int) (hk:f.kind=1∨f.kind=2) (hok:okA f) (h0:0≤o∧o≤7):Ret Pg 98 #[.agg (fieldCells f tv cv).toArray,.int .i64 o] w0 fun r w'=>r = .int .i64 (o+f.bits)∧Ext w0 w':=by
 have hb:=hok.1 hk
 refine n13s (R:=retR _) ?_;unfold n13
 simp (disch:=try exact DI) only [↓PR,QR,simprocAttr,Sw.joinK_eq,wrap_ok]
 exact ⟨by first | trivial | rfl,ee⟩
theorem alpad_ret (w0:World) (tv cv:Value) (ht1:tv.oneCell'=true) (hc1:cv.oneCell'=true) (f:FieldD) (o:Int) (hk:f.kind=10) (hok:okA f) (h0:0≤o∧o≤7):Ret Pg 99 #[.agg (fieldCells f tv cv).toArray,.int .i64 o] w0 fun r w'=>r = .int .i64 (upI o f.bits)∧Ext w0 w':=by
 have hb:=padB_bits (hok.2 hk)
 refine n14s (R:=retR _) ?_;unfold n14
 simp (disch:=try exact DI) only [↓PR,QR,simprocAttr,Sw.joinK_eq]
 refine zcr (up_ret _ o f.bits (by omega) (by omega) (by omega) (by omega)) fun w1 e1=>?_
 have s1:=e1.size
 try simp only [World.size_alloc,World.size_setCell,World.size_drew,World.putObj_size,Sw.putW_size] at s1
 simp (disch:=try exact DI) only [↓PR,QR,simprocAttr]
 exact ⟨by first | trivial | rfl,ee⟩
theorem ElemAt.of_heap {w:World} {b:Nat} {cs:List Value} {T:TypeId} (h:w.heap[b]?=some (.cells cs.toArray T (0,0))):ElemAt w b 0 cs:=fun j v hv=>by
 rw [Nat.zero_add,(cells_of_heap h).1];simpa using hv
theorem offsets_seq (pb:Nat) (v:Value) (l:List FieldD) (hok:∀ f∈l,okA f) :
 SeqIt2 Pg 89 #[.pointer (some ⟨pb,0,none⟩)] (l.length+1) (fun k => .int .i64 k) (fun k => .int .i64 (endO (l.take k))) (OffAt pb v l):=by
 intro yv J Jx Jp w hy hFP hJl hJx hJp hstep h0
 obtain ⟨ho,hF⟩:=hFP 0 w h0
 obtain ⟨A,c,rfl,hlc,hcm,hlm,_⟩:=SliceOf.open hF
 refine n18s (t0:=yv) (t1 := .pointer (some ⟨pb,0,none⟩)) ?_
 unfold n18
 simp (disch:=try exact DI) only [↓PR,QR,simprocAttr,(cells_of_heap ho).1]
 refine loop2_intro (fun o i w'=>∃ k:Nat,o = .int .i64 (endO (l.take k))∧i = .int .i64 k∧k≤l.length∧J k w'∧w.heap.size≤w'.heap.size) (fun _ i _=>l.length - (intOf i).toNat) ⟨0,rfl,rfl,by omega,h0,Nat.le_refl _⟩ ?_
 rintro _ _ w' ⟨k,rfl,rfl,hk,hJ,hsz⟩
 obtain ⟨ho',hF'⟩:=hFP k w' hJ
 have hB:=endO_bounds (l:=l.take k) fun f hf=>hok f (List.mem_of_mem_take hf)
 rcases drop_cases hk with ⟨x,hx,hd,hlt,hdec⟩ | ⟨hk,hd,hdec⟩
 · obtain ⟨A',c',hv,_,_,_,hel⟩:=SliceOf.open hF'
   injection hv with hv1 _ hv2
   subst hv1 hv2
   obtain ⟨b,o,cs,rfl,hl,hA,tv,cv,rfl,ht1,hc1⟩:=hel k x hx
   have hokx:=hok x (List.mem_of_getElem? hx)
   simp (disch:=try exact DI) only [↓PR,QR,simprocAttr,hdec]
   unfold n18c5
   try unfold X0
   try unfold L0
   rw [op_indexN Tryz.underlying42 ty38 _ _ _ _ _ k hlt,op_load (hA.loads ty38 rfl)]
   simp (disch:=try exact DI) only [↓PR,QR,simprocAttr]
   have eW:Ext w' (w'.alloc (.cells (fieldCells x tv cv).toArray 38)):=ee
   have oW:=heap_new w' (fieldCells x tv cv).toArray 38
   generalize (w'.alloc (.cells (fieldCells x tv cv).toArray 38))=W at eW oW ⊢
   have hs:=hstep k (by omega) (fun u=>u.heap[w'.heap.size]?=some (.cells (fieldCells x tv cv).toArray 38 (0,0))∧w.heap.size≤u.heap.size) ((Firm.has hsz (by simp)).and (fun u u' h hh=>Nat.le_trans hh h.1)) W ((hJl k).ext hJ eW) ⟨oW,Nat.le_trans hsz eW.size⟩
   refine callV_mono hs (fun ch w h=>h.2) ?_
   rintro v w2 ⟨⟨o2,hs2⟩,⟨rfl,h2⟩ | ⟨rfl,h2⟩⟩
   · simp (disch:=try exact DI) only [↓PR,QR,simprocAttr]
     refine drawK_intro ?_
     have eD:Ext w2 w2.drew:=(Ext.refl _).wdrew
     unfold n18c3
     simp (disch:=try exact DI) only [↓PR,QR,simprocAttr,(cells_of_heap o2).1]
     refine callK_ret (after_ret _) ?_
     rintro _ w3 ⟨m,L,cc,rfl,hm,hM,hK,e3⟩
     have e23:=eD.trans e3
     have hE3:ElemAt w3 w'.heap.size 0 (fieldCells x tv cv):=ElemAt.of_heap (e23.obj o2)
     refine narrowK_KM e3 hM ?_
     haveI:ClassNe (KM w2.drew m kindEnc L cc):=⟨⟨w3,e3,hM⟩⟩
     unfold n18c2
     simp only [drew_wdrew]
     rw [qV_lookupKM Tryz.underlying93 (KeyOK.int Tryz.underlying32) ty91 ⟨w3,e3,hM⟩]
     rw [hK]
     have hend:=endO_step hx
     have fin:∀ w4 z,Ext w2 w4→z=nextO x (endO (l.take k))→(∃ k':Nat,Value.int .i64 z = .int .i64 (endO (l.take k'))∧Value.int .i64 ((k+1:Nat):Int) = .int .i64 k'∧k'≤l.length∧J k' w4∧w.heap.size≤w4.heap.size)∧l.length - (intOf (Value.int .i64 ((k+1:Nat):Int))).toNat < l.length - (intOf (Value.int .i64 (k:Int))).toNat:=by
      rintro w4 z e4 rfl
      exact ⟨⟨k+1,by rw [hend],rfl,by omega,(hJl _).ext h2 e4,Nat.le_trans hs2 e4.size⟩,meas_lt hlt⟩
     by_cases h10:x.kind=10
     · rw [if_pos h10]
       simp (disch:=try exact DI) only [↓PR,QR,simprocAttr]
       unfold n18c1
       try unfold L0
       rw [op_load (hE3.loads ty38 rfl),callV_func c99]
       refine zcr (alpad_ret _ _ _ ht1 hc1 x _ h10 hokx hB) fun w4 e4=>?_
       simp (disch:=try exact DI) only [↓PR,QR,simprocAttr]
       exact fin _ _ (e23.trans e4) (by unfold nextO;rw [if_neg (by omega),if_pos h10])
     · rw [if_neg h10]
       by_cases h12:x.kind=1∨x.kind=2
       · rw [if_pos h12]
         simp (disch:=try exact DI) only [↓PR,QR,simprocAttr]
         unfold n18c1
         try unfold L0
         rw [op_load (hE3.loads ty38 rfl),callV_func c98]
         refine zcr (alnum_ret _ _ _ ht1 hc1 x _ h12 hokx hB) fun w4 e4=>?_
         simp (disch:=try exact DI) only [↓PR,QR,simprocAttr]
         exact fin _ _ (e23.trans e4) (by unfold nextO;rw [if_pos h12])
       · rw [if_neg h12]
         simp (disch:=try exact DI) only [↓PR,QR,simprocAttr]
         exact fin _ _ e23 (by unfold nextO;rw [if_neg h12,if_neg h10])
   · simp (disch:=try exact DI) only [↓PR,QR,simprocAttr]
     exact .inr h2
 · subst hk
   simp (disch:=try exact DI) only [↓PR,QR,simprocAttr,↓n18c1,↓n18c2,↓n18c3,↓n18c4,↓n18c5,hdec,(cells_of_heap ho').1]
   have hs:=hstep l.length (by omega) _ Firm.true _ hJ trivial
   refine callV_mono hs (fun ch w h=>h.2) ?_
   rintro v w2 ⟨_,⟨rfl,h2⟩ | ⟨rfl,h2⟩⟩
   · simp (disch:=try exact DI) only [↓PR,QR,simprocAttr,↓n18c1,↓n18c2,↓n18c3,↓n18c4,↓n18c5]
     exact .inl h2
   · simp (disch:=try exact DI) only [↓PR,QR,simprocAttr,↓n18c1,↓n18c2,↓n18c3,↓n18c4,↓n18c5]
     exact .inr h2
end Go.Proofs.YtdfhjlggcdemhaaGreat
namespace Go.Proofs.YtdfhjlggcdemhaaGreat
open Sw
open Go.RowKit (intOf Below)
theorem atO_hit {l:List FieldD} {i:Int} {j:Nat} (hj:j < l.length+1) (h:(j:Int)=i):atO l i=endO (l.take j):=by
 unfold atO;rw [if_pos (by omega),← h,Int.toNat_natCast]
theorem at_ret (w0:World) (v:Value) (l:List FieldD) (i:Int) (hF:FieldsOf w0 v l) (hok:∀ f∈l,okA f):Ret Pg 60 #[v,.int .i64 i] w0 fun r w'=>r = .int .i64 (atO l i)∧Ext w0 w':=by
 have hv1:=SliceOf.oneCell hF
 refine n15s (R:=retR _) ?_;unfold n15
 simp (disch:=try exact DI) only [↓PR,QR,simprocAttr]
 simp only [World.size_alloc]
 generalize hW:World.alloc (World.alloc w0 _) _=W
 have e0:Ext w0 W:=by rw [← hW];exact ee
 have o3:W.heap[w0.heap.size]?=some (.cells #[.int .i64 i] 3 (0,0)):=by rw [← hW];simp (disch:=try exact DI) only [↓PR,QR,simprocAttr]
 have o4:W.heap[w0.heap.size+1]?=some (.cells #[.int .i64 0] 3 (0,0)):=by rw [← hW];simp (disch:=try exact DI) only [↓PR,QR,simprocAttr]
 have hsz:W.heap.size=w0.heap.size+1+1:=by rw [← hW];simp only [World.size_alloc]
 clear hW
 refine callK_ret (offsets_ret _ _ l (hF.ext e0).weak) ?_
 rintro _ w1 ⟨pb,rfl,hO,hpb,hpb2,e1⟩
 have s1:=e1.size
 have E1:=e0.trans e1
 unfold n15c2
 let I:Nat→World→Prop:=fun k w'=>Ext w1 w'∧∀ j:Nat,j < k→(j:Int)≠i
 let Ix:Nat→World→Prop:=fun c w'=>c=0∧Ext w0 w'∧w'.heap[w0.heap.size+1]?=some (.cells #[.int .i64 (atO l i)] 3 (0,0))
 have hLI:∀ k,Lasts2 w1.heap.size (I k):=fun k=>(Lasts2.from (Nat.le_refl _)).and (Lasts2.const _ _)
 have hLX:∀ c,Lasts2 w1.heap.size (Ix c):=fun c=>(Lasts2.const _ _).and ((Lasts2.from (by omega)).and (Lasts2.has _ (by simp) (by simp)))
 refine ⟨_,_,l.length+1,(fun k => .int .i64 k),(fun k => .int .i64 (endO (l.take k))),OffAt pb v l,I,Ix,fun _ _=>False,rfl,c89,offsets_seq pb v l hok,⟨Ext.refl _,fun j h=>by omega⟩,fun k w h=>hO.ext h.1,hLI,hLX,fun _=>Lasts2.const _ _,?_,?_,?_,?_⟩
 · intro Rk hRk j w3 hj hI3 hR3 hlt hready
   refine ⟨hready,fun w4 hbz=>?_⟩
   have hR4:=hRk _ _ (KR.busied hbz) hR3
   obtain ⟨e4,hne⟩:=(hLI j).busied hbz (Nat.le_succ _) hI3
   have x3:=(e1.trans e4).obj o3
   have x4:=(e1.trans e4).obj o4
   unfold n15c1
   by_cases h:(j:Int)=i
   · have hd:((j:Int) == i)=true:=by simpa using h
     simp (disch:=try exact DI) only [↓PR,QR,simprocAttr,(cells_of_heap x3).1,hd,(cells_of_heap x4).1,(cells_of_heap x4).2]
     refine ⟨hRk _ _ (KR.setCell (KR.refl _ _) _ _ _ (.inl (by omega))) hR4,rfl,(E1.trans e4).setCell (by show w0.heap.size≤w0.heap.size+1;omega) _,?_⟩
     have:=heap_set (o:=0) x4 (.int .i64 (endO (l.take j)))
     rw [atO_hit hj h]
     simpa using this
   · have hd:((j:Int) == i)=false:=by simpa using h
     simp (disch:=try exact DI) only [↓PR,QR,simprocAttr,(cells_of_heap x3).1,hd]
     refine ⟨hR4,e4,fun j' h'=>?_⟩
     by_cases hjj:j'=j
     · rw [hjj];exact h
     · exact hne j' (by omega)
 · rintro w3 ⟨e3,hne⟩ hmk
   have x4:=(e1.trans e3).obj o4
   simp (disch:=try exact DI) only [↓PR,QR,simprocAttr,(cells_of_heap x4).1,(cells_of_heap x4).2]
   refine outX_mark (hmk.setCell _ _) ?_
   have y4:=heap_set (o:=0) x4 (.int .i64 0)
   have hz:atO l i=0:=by
    unfold atO
    split
    · rename_i h
      exact absurd (show ((i.toNat:Nat):Int)=i by omega) (hne i.toNat (by omega))
    · rfl
   rw [hz]
   have z4:((w3.setCell ⟨w0.heap.size+1,0,none⟩ (.int .i64 0)).putObj w1.heap.size (.deferred none)).heap[w0.heap.size+1]?=_:=(World.putObj_heap_other (by omega)).trans y4
   simp (disch:=try exact DI) only [↓PR,QR,simprocAttr,outX_nil,retV,resOne,(cells_of_heap z4).1]
   exact ⟨trivial,((E1.trans e3).setCell (by show w0.heap.size≤w0.heap.size+1;omega) _).putObj E1.size _⟩
 · rintro c w3 ⟨rfl,e3,x4⟩ hmk
   show outX _ _ _ _ _
   refine outX_mark hmk ?_
   have z4:(w3.putObj w1.heap.size (.deferred none)).heap[w0.heap.size+1]?=_:=(World.putObj_heap_other (by omega)).trans x4
   simp (disch:=try exact DI) only [↓PR,QR,simprocAttr,outX_nil,retV,resOne,(cells_of_heap z4).1]
   exact ⟨trivial,e3.putObj E1.size _⟩
 · rintro ch w3 h
   exact h.elim
section
variable {w0:World} {p3 p5 p7:Nat} {o:Int} {f:FieldD} {tv cv v:Value} {l:List FieldD}
theorem wrong1_ret (h5:w0.heap[p5]?=some (.cells #[.int .i64 o] 3 (0,0))) (h7:w0.heap[p7]?=some (.cells (fieldCells f tv cv).toArray 38 (0,0))) (hT:TermsOf w0 tv f.terms) (hC:CasesOf w0 cv f.cases) :
 Ret Pg 90 #[.pointer (some ⟨p5,0,none⟩),.pointer (some ⟨p7,0,none⟩)] w0 fun r w'=>r = .bool (o == 0||!needsB f)∧Ext w0 w':=by
 have ht1:=SliceOf.oneCell hT
 have hc1:=SliceOf.oneCell hC
 refine n21s (R:=retR _) ?_;unfold n21
 cases ho:(o == 0) with
 | true =>
  simp (disch:=try exact DI) only [↓PR,QR,simprocAttr,(cells_of_heap h5).1,ho]
  exact ⟨by simp,Ext.refl _⟩
 | false =>
  simp (disch:=try exact DI) only [↓PR,QR,simprocAttr,(cells_of_heap h5).1,(cells_of_heap h7).1,ho]
  refine zcr (Needs_ret _ _ f ⟨tv,cv,rfl,hT,hC⟩) fun w1 e1=>?_
  simp (disch:=try exact DI) only [↓PR,QR,simprocAttr,ho]
  exact ⟨by simp,e1⟩
theorem wrong2_ret (h3:w0.heap[p3]?=some (.cells #[v] 42 (0,0))) (hF:FieldsOf w0 v l) (hok:∀ g∈l,okA g) (h7:w0.heap[p7]?=some (.cells (fieldCells f tv cv).toArray 38 (0,0))) :
 Ret Pg 91 #[.pointer (some ⟨p3,0,none⟩),.pointer (some ⟨p7,0,none⟩)] w0 fun r w'=>r = .bool (f.kind != 11||atO l (idx0 (fun g=>decide (g.name=f.fr)) l) == 0)∧Ext w0 w':=by
 have hv1:=SliceOf.oneCell hF
 refine n22s (R:=retR _) ?_;unfold n22
 simp (disch:=try exact DI) only [↓PR,QR,simprocAttr,(cells_of_heap h3).1,(cells_of_heap h7).1]
 refine zcr (Field_ret w0 _ ⟨ByteArray.empty,l⟩ f.fr ⟨v,rfl,hF⟩) fun w1 e1=>?_
 unfold n22c1
 cases hk:(f.kind != 11) with
 | true =>
  simp (disch:=try exact DI) only [↓PR,QR,simprocAttr,(cells_of_heap (e1.obj h7)).1,hk]
  exact ⟨by simp,e1⟩
 | false =>
  simp (disch:=try exact DI) only [↓PR,QR,simprocAttr,(cells_of_heap (e1.obj h7)).1,(cells_of_heap (e1.obj h3)).1,hk]
  refine zcr (at_ret _ _ l _ (hF.ext e1) hok) fun w2 e2=>?_
  simp (disch:=try exact DI) only [↓PR,QR,simprocAttr,hk]
  exact ⟨by simp,e1.trans e2⟩
end
theorem wrong3_ret (w0:World) (g:FuncId) (caps:Array Value) (hg:Callable Pg g) (b:Bool) (h:Ret Pg g caps w0 fun r w'=>r = .bool b∧Ext w0 w'):Ret Pg 94 #[.func (.func g) #[] caps] w0 fun r w'=>r = .bool (!b)∧Ext w0 w':=by
 refine n24s (R:=retR _) ?_;unfold n24
 rw [callV_func hg]
 simp only [Array.empty_append,Array.append_empty]
 refine callK_ret h ?_
 rintro _ w1 ⟨rfl,e1⟩
 simp (disch:=try exact DI) only [↓PR,QR,simprocAttr]
 exact ⟨by trivial,e1⟩
theorem conds_idx (w0:World) (b:Nat) (g0 g1:FuncId) (c0 c1:Array Value) (hg0:Callable Pg g0) (hg1:Callable Pg g1) (hb:w0.heap[b]?=some (.cells #[.func (.func g0) #[] c0,.func (.func g1) #[] c1] 132 (0,0))) (p0 p1:Bool)
 (h0:∀ w,Ext w0 w→Ret Pg g0 c0 w fun r w'=>r = .bool p0∧Ext w w') (h1:∀ w,Ext w0 w→Ret Pg g1 c1 w fun r w'=>r = .bool p1∧Ext w w') :
 Ret Pg 93 #[.slice (some ⟨b,0,none⟩) 2 2,.func (.func 94) #[] #[]] w0 fun r w'=>r = .bool (!p0||!p1)∧Ext w0 w':=by
 refine n99s (R:=retR _) ?_;unfold n99
 have key:Ret Pg 125 #[.slice (some ⟨b,0,none⟩) 2 2,.func (.func 94) #[] #[]] w0 fun r w'=>r = .int .i64 (if p0 then (if p1 then -1 else 1) else 0)∧Ext w0 w':=by
  refine n107s (R:=retR _) ?_;unfold n107
  simp (disch:=try exact DI) only [↓PR,QR,Int.reduceBEq,Int.reduceBNe,Int.reduceLT,Int.reduceLE,Int.reduceGT,Int.reduceGE,Int.reduceNeg]
  refine loop1_intro (fun i w=>∃ k:Nat,i = .int .i64 k∧k≤2∧Ext w0 w∧(0 < k→p0=true)∧(1 < k→p1=true)) (fun i _=>2 - (intOf i).toNat) ⟨0,rfl,by omega,Ext.refl _,by omega,by omega⟩ ?_
  rintro _ w ⟨k,rfl,hk,e,hp0,hp1⟩
  have o:=e.obj hb
  have hk':k=0∨k=1∨k=2:=by omega
  rcases hk' with rfl | rfl | rfl
  · have d:decide (((0:Nat):Int) < ((2:Nat):Int))=true:=rfl
    simp (disch:=try exact DI) only [↓PR,QR,Int.reduceBEq,Int.reduceBNe,Int.reduceLT,Int.reduceLE,Int.reduceGT,Int.reduceGE,Int.reduceNeg,d]
    unfold n107c1
    simp (disch:=try exact DI) only [↓PR,QR,Int.reduceBEq,Int.reduceBNe,Int.reduceLT,Int.reduceLE,Int.reduceGT,Int.reduceGE,Int.reduceNeg,(cells_of_heap o).1,Nat.mul_one]
    rw [callV_func c94]
    refine zcr (wrong3_ret _ g0 c0 hg0 p0 (h0 w e)) fun w1 e1=>?_
    cases p0 with
    | true =>
     simp (disch:=try exact DI) only [↓PR,QR,Int.reduceBEq,Int.reduceBNe,Int.reduceLT,Int.reduceLE,Int.reduceGT,Int.reduceGE,Int.reduceNeg]
     exact ⟨⟨1,rfl,by omega,e.trans e1,fun _=>by trivial,by omega⟩,by decide⟩
    | false =>
     simp (disch:=try exact DI) only [↓PR,QR,Int.reduceBEq,Int.reduceBNe,Int.reduceLT,Int.reduceLE,Int.reduceGT,Int.reduceGE,Int.reduceNeg]
     exact ⟨rfl,e.trans e1⟩
  · have d:decide (((1:Nat):Int) < ((2:Nat):Int))=true:=rfl
    simp (disch:=try exact DI) only [↓PR,QR,Int.reduceBEq,Int.reduceBNe,Int.reduceLT,Int.reduceLE,Int.reduceGT,Int.reduceGE,Int.reduceNeg,d]
    unfold n107c1
    simp (disch:=try exact DI) only [↓PR,QR,Int.reduceBEq,Int.reduceBNe,Int.reduceLT,Int.reduceLE,Int.reduceGT,Int.reduceGE,Int.reduceNeg,(cells_of_heap o).1,Nat.mul_one]
    rw [callV_func c94]
    refine zcr (wrong3_ret _ g1 c1 hg1 p1 (h1 w e)) fun w1 e1=>?_
    rw [hp0 (by omega)]
    cases p1 with
    | true =>
     simp (disch:=try exact DI) only [↓PR,QR,Int.reduceBEq,Int.reduceBNe,Int.reduceLT,Int.reduceLE,Int.reduceGT,Int.reduceGE,Int.reduceNeg]
     exact ⟨⟨2,rfl,by omega,e.trans e1,fun _=>by trivial,fun _=>by trivial⟩,by decide⟩
    | false =>
     simp (disch:=try exact DI) only [↓PR,QR,Int.reduceBEq,Int.reduceBNe,Int.reduceLT,Int.reduceLE,Int.reduceGT,Int.reduceGE,Int.reduceNeg]
     exact ⟨rfl,e.trans e1⟩
  · have d:decide (((2:Nat):Int) < ((2:Nat):Int))=false:=rfl
    simp (disch:=try exact DI) only [↓PR,QR,Int.reduceBEq,Int.reduceBNe,Int.reduceLT,Int.reduceLE,Int.reduceGT,Int.reduceGE,Int.reduceNeg,d]
    rw [hp0 (by omega),hp1 (by omega)]
    exact ⟨rfl,e⟩
 refine callK_ret key ?_
 rintro _ w1 ⟨rfl,e1⟩
 simp (disch:=try exact DI) only [↓PR,QR,Int.reduceBEq,Int.reduceBNe,Int.reduceLT,Int.reduceLE,Int.reduceGT,Int.reduceGE,Int.reduceNeg]
 refine ⟨?_,e1⟩
 cases p0<;>cases p1<;>rfl
section
variable {P:Program} {QP:List PanicEntry→World→Prop} {w:World} {k:Value→World→Prop}
theorem op_buildA {T e len s n m m':Nat} {agg:Bool} {z cs:Array Value} {z':Value} {parts:Array (Nat×Value)} (hu:P.underlying T=some (.array len e)) (hz:TyInfo P T true n m (.agg z)) (he:TyInfo P e agg s m' z') (hf:Instr.fill (fun i=>some (i*s,s)) z parts.toList=some cs):opV P (Instr.build T parts) QP w k=k (.agg cs) w:=by
 have hsz:=Sw.run_sizeOf (w:=w) he
 obtain ⟨⟨i,hi,_,_,hzz⟩,_⟩:=hz
 refine opV_ok ?_
 unfold Instr.build
 have hz0:(zeroValue T).run P w = .ok (.agg z) w:=by simp [zeroValue,typeInfo,hi,hzz]
 simp only [Sem.run_bind,hz0,Result.andThen_ok,run_underlying hu,hsz]
 have:(Value.agg z).cells=z:=rfl
 rw [this,hf]
 rfl
theorem op_sliceA {T e len s m:Nat} {agg:Bool} {z:Value} (hu:P.underlying T=some (.array len e)) (he:TyInfo P e agg s m z) (hl:len≠0) (b o:Nat):opV P (Instr.sliceAt T (.pointer (some ⟨b,o,none⟩)) none none none) QP w k=k (.slice (some ⟨b,o,none⟩) len len) w:=by
 refine opV_ok ?_
 have ha:(Instr.sureAddr (.pointer (some ⟨b,o,none⟩))).run P w = .ok ⟨b,o,none⟩ w:=rfl
 simp [Instr.sliceAt,run_underlying hu,Instr.sliceBounds,run_sliceBound,Sw.run_sizeOf he,Addr.add_lit,ha,hl]
theorem op_conds {QP:List PanicEntry→World→Prop} {w:World} {k:Value→World→Prop} (F G:Fn) (a b:Array Value):opV Pg (Instr.build 132 #[(0,.func F #[] a),(1,.func G #[] b)]) QP w k=k (.agg #[.func F #[] a,.func G #[] b]) w:=op_buildA Tryz.underlying132 ty132 ty26 rfl
end
theorem wrong_ret (w0:World) (v:Value) (l:List FieldD) (i:Nat) (hi:i≤l.length) (hF:FieldsOf w0 v l) (hok:∀ f∈l,okA f):Ret Pg 51 #[v,.int .i64 i,.int .i64 (endO (l.take i))] w0 fun r w'=>r = .bool (wrongP l i)∧Ext w0 w':=by
 have hv1:=SliceOf.oneCell hF
 obtain ⟨A,c,rfl,hlc,hcm,hlm,hel⟩:=SliceOf.open hF
 refine n20s (R:=retR _) ?_;unfold n20
 simp (disch:=try exact DI) only [↓PR,QR,simprocAttr]
 simp only [World.size_alloc]
 generalize hW:World.alloc (World.alloc w0 _) _=W
 have e0:Ext w0 W:=by rw [← hW];exact ee
 have o3:W.heap[w0.heap.size]?=some (.cells #[.slice A l.length c] 42 (0,0)):=by rw [← hW];simp (disch:=try exact DI) only [↓PR,QR,simprocAttr]
 have o5:W.heap[w0.heap.size+1]?=some (.cells #[.int .i64 (endO (l.take i))] 3 (0,0)):=by rw [← hW];simp (disch:=try exact DI) only [↓PR,QR,simprocAttr]
 clear hW
 unfold wrongP
 by_cases h:i=l.length
 · subst h
   have hd:((l.length:Int) == (l.length:Int))=true:=by simp
   simp (disch:=try exact DI) only [↓PR,QR,simprocAttr,hd,(cells_of_heap o5).1]
   exact ⟨by simp,e0⟩
 · have hd:((i:Int) == (l.length:Int))=false:=by simp;omega
   have hlt:i < l.length:=by omega
   obtain ⟨x,hx⟩:=getElem?_lt hlt
   obtain ⟨b,o,cs,rfl,hl,hA,hE⟩:=hel i x hx
   obtain ⟨tv,cv,rfl,hT,hC,ht1,hc1⟩:=hE.op
   simp (disch:=try exact DI) only [↓PR,QR,simprocAttr,hd]
   unfold n20c1
   simp (disch:=try exact DI) only [↓PR,QR,simprocAttr,(cells_of_heap o3).1,hA.c15 e0]
   rw [op_conds]
   simp (disch:=try exact DI) only [↓PR,QR,simprocAttr]
   rw [op_sliceA Tryz.underlying132 ty26 (by decide)]
   have eX:Ext W (W.alloc (.cells (fieldCells x tv cv).toArray 38)):=ee
   have oX:=heap_new W (fieldCells x tv cv).toArray 38
   have sX:(W.alloc (.cells (fieldCells x tv cv).toArray 38)).heap.size=W.heap.size+1:=by simp only [World.size_alloc]
   generalize (W.alloc (.cells (fieldCells x tv cv).toArray 38))=X at eX oX sX ⊢
   have eY:Ext X (X.alloc (.cells #[.func (.func 90) #[] #[.pointer (some ⟨w0.heap.size+1,0,none⟩),.pointer (some ⟨W.heap.size,0,none⟩)],.func (.func 91) #[] #[.pointer (some ⟨w0.heap.size,0,none⟩),.pointer (some ⟨W.heap.size,0,none⟩)]] 132)):=ee
   have oY:=heap_new X #[.func (.func 90) #[] #[.pointer (some ⟨w0.heap.size+1,0,none⟩),.pointer (some ⟨W.heap.size,0,none⟩)],.func (.func 91) #[] #[.pointer (some ⟨w0.heap.size,0,none⟩),.pointer (some ⟨W.heap.size,0,none⟩)]] 132
   generalize (X.alloc (.cells #[.func (.func 90) #[] #[.pointer (some ⟨w0.heap.size+1,0,none⟩),.pointer (some ⟨W.heap.size,0,none⟩)],.func (.func 91) #[] #[.pointer (some ⟨w0.heap.size,0,none⟩),.pointer (some ⟨W.heap.size,0,none⟩)]] 132))=Y at eY oY ⊢
   have eWY:=eX.trans eY
   have r1:∀ w,Ext Y w→Ret Pg 90 #[.pointer (some ⟨w0.heap.size+1,0,none⟩),.pointer (some ⟨W.heap.size,0,none⟩)] w fun r w'=>r = .bool (endO (l.take i) == 0||!needsB x)∧Ext w w':=fun w e=>wrong1_ret ((eWY.trans e).obj o5) ((eY.trans e).obj oX) (hT.ext (e0.trans (eWY.trans e))) (hC.ext (e0.trans (eWY.trans e)))
   have r2:∀ w,Ext Y w→Ret Pg 91 #[.pointer (some ⟨w0.heap.size,0,none⟩),.pointer (some ⟨W.heap.size,0,none⟩)] w fun r w'=>r = .bool (x.kind != 11||atO l (idx0 (fun g=>decide (g.name=x.fr)) l) == 0)∧Ext w w':=fun w e=>wrong2_ret ((eWY.trans e).obj o3) (hF.ext (e0.trans (eWY.trans e))) hok ((eY.trans e).obj oX)
   have r3:=conds_idx Y X.heap.size _ _ _ _ c90 c91 oY _ _ r1 r2
   clear r1 r2
   rw [sX] at r3
   refine callK_ret r3 ?_
   rintro _ w2 ⟨rfl,e2⟩
   refine ⟨_,rfl,?_,e0.trans (eWY.trans e2)⟩
   rw [hx]
   simp only [bne]
   generalize (endO (l.take i) == 0)=b1
   generalize (x.kind == 11)=b2
   generalize (atO l (idx0 (fun g=>decide (g.name=x.fr)) l) == 0)=b3
   generalize needsB x=b4
   cases b1<;>cases b2<;>cases b3<;>cases b4<;>rfl
end Go.Proofs.YtdfhjlggcdemhaaGreat
namespace Go.Proofs.YtdfhjlggcdemhaaGreat
open Sw
def n27c1 (t75 t77:Value) (R:RT) (w:World):Prop :=
 pickK t75 t77 (.bool false) fun t78 =>
 joinK (fun (t80:Value) (w:World) =>
 pickK t78 t80 (.bool false) fun t81 =>
 R (.returned t81) w) fun K13 =>
 guardP t78 true (
 C0 48 #[(.int .i64 3),(.int .i64 0),(.int .i64 0),(.int .i64 2)] R w fun t80 w =>
 K13 t80 w) (
 K13 undef w)
def n27c2 (t72 t74:Value) (R:RT) (w:World):Prop :=
 pickK t72 t74 (.bool false) fun t75 =>
 joinK (fun (t77:Value) (w:World) =>
 n27c1 t75 t77 R w) fun K12 =>
 guardP t75 true (
 C0 48 #[(.int .i64 8),(.int .i64 8),(.int .i64 0),(.int .i64 0)] R w fun t77 w =>
 K12 t77 w) (
 K12 undef w)
def n27c3 (t69 t71:Value) (R:RT) (w:World):Prop :=
 pickK t69 t71 (.bool false) fun t72 =>
 joinK (fun (t74:Value) (w:World) =>
 n27c2 t72 t74 R w) fun K11 =>
 guardP t72 true (
 C0 48 #[(.int .i64 16),(.int .i64 24),(.int .i64 8),(.int .i64 0)] R w fun t74 w =>
 K11 t74 w) (
 K11 undef w)
def n27c4 (t64 t68:Value) (R:RT) (w:World):Prop :=
 pickK t64 t68 (.bool false) fun t69 =>
 joinK (fun (t71:Value) (w:World) =>
 n27c3 t69 t71 R w) fun K10 =>
 guardP t69 true (
 C0 48 #[(.int .i64 4),(.int .i64 3),(.int .i64 1),(.int .i64 0)] R w fun t71 w =>
 K10 t71 w) (
 K10 undef w)
def n27c5 (t7 t9 t59 t63:Value) (R:RT) (w:World):Prop :=
 pickK t59 t63 (.bool false) fun t64 =>
 joinK (fun (t68:Value) (w:World) =>
 n27c4 t64 t68 R w) fun K9 =>
 guardP t64 true (
 L0 29 t7 R w fun t66 w =>
 L0 29 t9 R w fun t67 w =>
 B0 .eql 29 false t66 t67 R w fun t68 w =>
 K9 t68 w) (
 K9 undef w)
def n27c6 (t5 t7 t9 t56 t58:Value) (R:RT) (w:World):Prop :=
 pickK t56 t58 (.bool false) fun t59 =>
 joinK (fun (t63:Value) (w:World) =>
 n27c5 t7 t9 t59 t63 R w) fun K8 =>
 guardP t59 true (
 L0 29 t5 R w fun t61 w =>
 L0 29 t9 R w fun t62 w =>
 B0 .eql 29 false t61 t62 R w fun t63 w =>
 K8 t63 w) (
 K8 undef w)
def n27c7 (t5 t7 t9 t24 t29 t49 t52:Value) (R:RT) (w:World):Prop :=
 pickK t49 t52 (.bool false) fun t53 =>
 joinK (fun (t55:Value) (w:World) =>
 pickK t53 t55 (.bool false) fun t56 =>
 joinK (fun (t58:Value) (w:World) =>
 n27c6 t5 t7 t9 t56 t58 R w) fun K7 =>
 guardP t56 true (
 K7 t29 w) (
 K7 undef w)) fun K6 =>
 guardP t53 true (
 K6 t24 w) (
 K6 undef w)
def n27c8 (t5 t7 t9 t24 t29 t45 t48:Value) (R:RT) (w:World):Prop :=
 pickK t45 t48 (.bool false) fun t49 =>
 joinK (fun (t52:Value) (w:World) =>
 n27c7 t5 t7 t9 t24 t29 t49 t52 R w) fun K5 =>
 guardP t49 true (
 C0 46 #[] R w fun t51 w =>
 C0 18 #[t51] R w fun t52 w =>
 K5 t52 w) (
 K5 undef w)
def n27c9 (t5 t7 t9 t19 t24 t29 t41 t44:Value) (R:RT) (w:World):Prop :=
 pickK t41 t44 (.bool false) fun t45 =>
 joinK (fun (t48:Value) (w:World) =>
 n27c8 t5 t7 t9 t24 t29 t45 t48 R w) fun K4 =>
 guardP t45 true (
 B0 .eql 52 true t19 (.int .i64 0) R w fun t48 w =>
 K4 t48 w) (
 K4 undef w)
def n27c10 (t5 t7 t9 t18 t19 t24 t29 t37 t40:Value) (R:RT) (w:World):Prop :=
 pickK t37 t40 (.bool false) fun t41 =>
 joinK (fun (t44:Value) (w:World) =>
 n27c9 t5 t7 t9 t19 t24 t29 t41 t44 R w) fun K3 =>
 guardP t41 true (
 B0 .eql 3 true t18 (.int .i64 7) R w fun t44 w =>
 K3 t44 w) (
 K3 undef w)
def n27c11 (t5 t7 t9 t14 t18 t19 t24 t29 t33 t36:Value) (R:RT) (w:World):Prop :=
 pickK t33 t36 (.bool false) fun t37 =>
 joinK (fun (t40:Value) (w:World) =>
 n27c10 t5 t7 t9 t18 t19 t24 t29 t37 t40 R w) fun K2 =>
 guardP t37 true (
 B0 .eql 52 true t14 (.int .i64 0) R w fun t40 w =>
 K2 t40 w) (
 K2 undef w)
def n27c12 (t5 t7 t9 t13 t14 t18 t19 t24 t29 t33:Value) (R:RT) (w:World):Prop :=
 joinK (fun (t36:Value) (w:World) =>
 n27c11 t5 t7 t9 t14 t18 t19 t24 t29 t33 t36 R w) fun K1 =>
 guardP t33 true (
 B0 .eql 3 true t13 (.int .i64 0) R w fun t36 w =>
 K1 t36 w) (
 K1 undef w)
def n27c13 (t5 t7 t9 t13 t14 t18 t19 t24 t29 t31:Value) (R:RT) (w:World):Prop :=
 opV Pg (Instr.buildSlice 48 4 #[(0,(.int .i64 0)),(1,(.int .i64 3)),(2,(.int .i64 4)),(3,(.int .i64 0))]) (panK R) w fun t32 w =>
 C0 29 #[t31,(.int .i64 0),(.int .i64 9),t32] R w fun t33 w =>
 n27c12 t5 t7 t9 t13 t14 t18 t19 t24 t29 t33 R w
def n27c14 (t5 t13 t14 t18 t19 t24 t27:Value) (R:RT) (w:World):Prop :=
 opV Pg (Instr.extract t27 0) (panK R) w fun t28 w =>
 opV Pg (Instr.extract t27 1) (panK R) w fun t29 w =>
 opV Pg (Instr.alloc 29 true (.tuple #[])) (panK R) w fun t7 w =>
 opU Pg (Instr.storeAt 29 t7 t28) (panK R) w fun w =>
 opV Pg (Instr.build 29 #[(1,(.int .i64 2)),(2,(.int .i64 12))]) (panK R) w fun t30 w =>
 opV Pg (Instr.alloc 29 true (.tuple #[])) (panK R) w fun t9 w =>
 opU Pg (Instr.storeAt 29 t9 t30) (panK R) w fun w =>
 C0 46 #[] R w fun t31 w =>
 n27c13 t5 t7 t9 t13 t14 t18 t19 t24 t29 t31 R w
def n27c15 (t13 t14 t18 t19 t22:Value) (R:RT) (w:World):Prop :=
 opV Pg (Instr.extract t22 0) (panK R) w fun t23 w =>
 opV Pg (Instr.extract t22 1) (panK R) w fun t24 w =>
 opV Pg (Instr.alloc 29 true (.tuple #[])) (panK R) w fun t5 w =>
 opU Pg (Instr.storeAt 29 t5 t23) (panK R) w fun w =>
 C0 47 #[(.int .i64 2)] R w fun t26 w =>
 C0 16 #[t26] R w fun t27 w =>
 n27c14 t5 t13 t14 t18 t19 t24 t27 R w
def n27c16 (t13 t14 t17:Value) (R:RT) (w:World):Prop :=
 opV Pg (Instr.extract t17 0) (panK R) w fun t18 w =>
 opV Pg (Instr.extract t17 1) (panK R) w fun t19 w =>
 C0 47 #[(.int .i64 1)] R w fun t21 w =>
 C0 16 #[t21] R w fun t22 w =>
 n27c15 t13 t14 t18 t19 t22 R w
def n27c17 (t12:Value) (R:RT) (w:World):Prop :=
 opV Pg (Instr.extract t12 0) (panK R) w fun t13 w =>
 opV Pg (Instr.extract t12 1) (panK R) w fun t14 w =>
 C0 46 #[] R w fun t16 w =>
 C0 28 #[t16,(.int .i64 0)] R w fun t17 w =>
 n27c16 t13 t14 t17 R w
def n27 (R:RT) (w:World):Prop :=
 C0 46 #[] R w fun t11 w =>
 C0 27 #[t11,(.int .i64 0)] R w fun t12 w =>
 n27c17 t12 R w
set_option maxHeartbeats 40000000 in
theorem n27s {R:RT} {w:World} (h:n27 R w):Calls Pg 15 #[] w R:=by
 refine yD Tryz.func15 ?_
 refine zs<|zr<|zm<|zn<|zk<|zs<|zr<|yc h c46 fun _ w h=>yc h c27 fun _ w h=>zm<|yv h fun _ w h=>yv h fun _ w h=>zm<|zm<|zn ?_
 refine zk<|zs<|zr<|yc h c46 fun _ w h=>yc h c28 fun _ w h=>zm<|yv h fun _ w h=>yv h fun _ w h=>zm<|zm<|zn<|zk<|zs<|zr<|yc h c47 fun _ w h=>?_
 refine yc h c16 fun _ w h=>zm<|yv h fun _ w h=>yv h fun _ w h=>yv h fun _ w h=>yu h fun w h=>zm<|zn<|zk<|zs<|zr<|yc h c47 fun _ w h=>yc h c16 fun _ w h=>zm<|yv h fun _ w h=>?_
 refine yv h fun _ w h=>yv h fun _ w h=>yu h fun w h=>zm<|zn<|zk<|zs<|zr<|yB h fun _ w h=>yv h fun _ w h=>yu h fun w h=>zn<|zk<|zs<|sim_regionG ?_
 refine yG 4<|yc h c46 fun _ w h=>yS h fun _ w h=>yc h c29 fun _ w h=>zm<|zn<|yg1 2 3 true [35,36] 36 h (fun _ T hT h=>?_) fun σ w h=>?_
 · refine zm<|yb h fun _ w h=>zn ?_
   exact zt hT h
 refine yG 2<|yp h fun _ h=>zm<|zn<|yg1 2 7 true [39,40] 40 h (fun _ T hT h=>?_) fun σ w h=>?_
 · refine zm<|yb h fun _ w h=>zn ?_
   exact zt hT h
 refine yG 2<|yp h fun _ h=>zm<|zn<|yg1 2 11 true [43,44] 44 h (fun _ T hT h=>?_) fun σ w h=>?_
 · refine zm<|yb h fun _ w h=>zn ?_
   exact zt hT h
 refine yG 2<|yp h fun _ h=>zm<|zn<|yg1 2 15 true [47,48] 48 h (fun _ T hT h=>?_) fun σ w h=>?_
 · refine zm<|yb h fun _ w h=>zn ?_
   exact zt hT h
 refine yG 2<|yp h fun _ h=>zm<|zn<|yg1 2 19 true [51,52] 52 h (fun _ T hT h=>?_) fun σ w h=>?_
 · refine yc h c46 fun _ w h=>yc h c18 fun _ w h=>zn ?_
   exact zt hT h
 refine yG 2<|yp h fun _ h=>zm<|zn<|yg1 1 23 true [55] 55 h (fun _ T hT h=>?_) fun σ w h=>?_
 · refine zm<|zn ?_
   exact zt hT h
 refine yG 2<|yp h fun _ h=>zm<|zn<|yg1 1 26 true [58] 58 h (fun _ T hT h=>?_) fun σ w h=>?_
 · refine zm<|zn ?_
   exact zt hT h
 refine yG 2<|yp h fun _ h=>zm<|zn<|yg1 3 29 true [61,62,63] 63 h (fun _ T hT h=>?_) fun σ w h=>?_
 · refine yv h fun _ w h=>yv h fun _ w h=>yb h fun _ w h=>zn ?_
   exact zt hT h
 refine yG 2<|yp h fun _ h=>zm<|zn<|yg1 3 34 true [66,67,68] 68 h (fun _ T hT h=>?_) fun σ w h=>?_
 · refine yv h fun _ w h=>yv h fun _ w h=>yb h fun _ w h=>zn ?_
   exact zt hT h
 refine yG 2<|yp h fun _ h=>zm<|zn<|yg1 1 39 true [71] 71 h (fun _ T hT h=>?_) fun σ w h=>?_
 · refine yc h c48 fun _ w h=>zn ?_
   exact zt hT h
 refine yG 2<|yp h fun _ h=>zm<|zn<|yg1 1 42 true [74] 74 h (fun _ T hT h=>?_) fun σ w h=>?_
 · refine yc h c48 fun _ w h=>zn ?_
   exact zt hT h
 refine yG 2<|yp h fun _ h=>zm<|zn<|yg1 1 45 true [77] 77 h (fun _ T hT h=>?_) fun σ w h=>?_
 · refine yc h c48 fun _ w h=>zn ?_
   exact zt hT h
 refine yG 2<|yp h fun _ h=>zm<|zn<|yg1 1 48 true [80] 80 h (fun _ T hT h=>?_) fun σ w h=>?_
 · refine yc h c48 fun _ w h=>zn ?_
   exact zt hT h
 exact yG 2<|yp h fun _ h=>zm<|zn<|sim_end<|zk<|sim_ret<|body_ret1 rfl rfl h
def n4c1 (t2 t3:Value) (C1:World→Prop) (ds:List Deferred) (R:RT) (w:World):Prop :=
 qV Pg C1 (Instr.loadAt 29 t2) fun t14 =>
 qV Pg C1 (Instr.loadAt 4 t3) fun t15 =>
 opU Pg (Instr.storeAt 29 t2 t14) (outQ Pg ds [(some 29,t2),(some 4,t3)] R) w fun w =>
 C1 w∧(
 opU Pg (Instr.storeAt 4 t3 t15) (outQ Pg ds [(some 29,t2),(some 4,t3)] R) w fun w =>
 turnK w fun C2 w =>
 outX Pg ds [(some 29,t2),(some 4,t3)] R w)
def n4c2 (t2 t4 t5 t27:Value) (Qr4:List PanicEntry→World→Prop) (Xr4:Nat→World→Prop) (R:RT) (w:World):Prop :=
 opV Pg (Instr.loadAt 3 t4) Qr4 w fun t35 w =>
 opV Pg (Instr.build 29 #[(0,t35),(1,t27),(2,(.int .i64 12))]) Qr4 w fun t37 w =>
 opU Pg (Instr.storeAt 29 t2 t37) Qr4 w fun w =>
 opV Pg (Instr.fieldAt 44 t5 1) Qr4 w fun t39 w =>
 opV Pg (Instr.loadAt 42 t39) Qr4 w fun t40 w =>
 opV Pg (Builtin.len_ #[42] 3 #[t40]) Qr4 w fun t41 w =>
 opV Pg (binS .eql 3 false t27 t41) Qr4 w fun t42 w =>
 joinK (fun (w:World) =>
 Xr4 0 w) fun K5 =>
 condP t42 (
 opV Pg (Instr.fieldAt 29 t2 1) Qr4 w fun t43 w =>
 opU Pg (Instr.storeAt 3 t43 (.int .i64 (-1))) Qr4 w fun w =>
 K5 w) (
 K5 w)
def n4c3 (t2 t3 t4 t5 t27 t28:Value) (Kr4:World→Prop) (Qr4:List PanicEntry→World→Prop) (Xr4:Nat→World→Prop) (R:RT) (w:World):Prop :=
 opV Pg (Instr.fieldAt 44 t5 1) Qr4 w fun t29 w =>
 opV Pg (Instr.loadAt 42 t29) Qr4 w fun t30 w =>
 callK Pg 51 #[t30,t27,t28] Qr4 w fun t33 w =>
 opU Pg (Instr.storeAt 4 t3 t33) Qr4 w fun w =>
 opV Pg (Instr.loadAt 4 t3) Qr4 w fun t34 w =>
 condP t34 (
 n4c2 t2 t4 t5 t27 Qr4 Xr4 R w) (
 Kr4 w)
def n4c4 (t2 t3:Value) (C6:World→Prop) (ds:List Deferred) (R:RT) (w:World):Prop :=
 qV Pg C6 (Instr.loadAt 29 t2) fun t45 =>
 qV Pg C6 (Instr.loadAt 4 t3) fun t46 =>
 opU Pg (Instr.storeAt 29 t2 t45) (outQ Pg ds [(some 29,t2),(some 4,t3)] R) w fun w =>
 C6 w∧(
 opU Pg (Instr.storeAt 4 t3 t46) (outQ Pg ds [(some 29,t2),(some 4,t3)] R) w fun w =>
 turnK w fun C7 w =>
 outX Pg ds [(some 29,t2),(some 4,t3)] R w)
def n4c5 (t2 t3 t4 t5 t19 t26:Value) (next3:List Deferred→Value→World→Prop) (ds:List Deferred) (R:RT) (w:World):Prop :=
 rangeN2 Pg t26 ds (fun l4 t27 t28 w Kr4 Xr4 Qr4 =>
 busyK l4 w fun w =>
 n4c3 t2 t3 t4 t5 t27 t28 Kr4 Qr4 Xr4 R w) (fun ch ds w=>outQ Pg ds [(some 29,t2),(some 4,t3)] R ch w) w (fun ds w =>
 opV Pg (binS .add 3 true t19 (.int .i64 1)) (outQ Pg ds [(some 29,t2),(some 4,t3)] R) w fun t44 w =>
 next3 ds t44 w) [fun ds w =>
 drawK w fun C6 w =>
 n4c4 t2 t3 C6 ds R w]
def n4c6 (t2 t3:Value) (C8:World→Prop) (ds:List Deferred) (R:RT) (w:World):Prop :=
 qV Pg C8 (Instr.loadAt 29 t2) fun t45 =>
 qV Pg C8 (Instr.loadAt 4 t3) fun t46 =>
 opU Pg (Instr.storeAt 29 t2 t45) (outQ Pg ds [(some 29,t2),(some 4,t3)] R) w fun w =>
 C8 w∧(
 opU Pg (Instr.storeAt 4 t3 t46) (outQ Pg ds [(some 29,t2),(some 4,t3)] R) w fun w =>
 turnK w fun C9 w =>
 outX Pg ds [(some 29,t2),(some 4,t3)] R w)
def n4c7 (t2 t3 t17 t19:Value) (next3:List Deferred→Value→World→Prop) (ds:List Deferred) (R:RT) (w:World):Prop :=
 opV Pg (Instr.indexAt 22 t17 t19) (outQ Pg ds [(some 29,t2),(some 4,t3)] R) w fun t22 w =>
 opV Pg (Instr.loadAt 44 t22) (outQ Pg ds [(some 29,t2),(some 4,t3)] R) w fun t23 w =>
 opV Pg (Instr.alloc 3 true (.tuple #[])) (outQ Pg ds [(some 29,t2),(some 4,t3)] R) w fun t4 w =>
 opV Pg (Instr.alloc 44 true (.tuple #[])) (outQ Pg ds [(some 29,t2),(some 4,t3)] R) w fun t5 w =>
 opU Pg (Instr.storeAt 3 t4 t19) (outQ Pg ds [(some 29,t2),(some 4,t3)] R) w fun w =>
 opU Pg (Instr.storeAt 44 t5 t23) (outQ Pg ds [(some 29,t2),(some 4,t3)] R) w fun w =>
 opV Pg (Instr.fieldAt 44 t5 1) (outQ Pg ds [(some 29,t2),(some 4,t3)] R) w fun t24 w =>
 opV Pg (Instr.loadAt 42 t24) (outQ Pg ds [(some 29,t2),(some 4,t3)] R) w fun t25 w =>
 callK Pg 50 #[t25] (outQ Pg ds [(some 29,t2),(some 4,t3)] R) w fun t26 w =>
 n4c5 t2 t3 t4 t5 t19 t26 next3 ds R w
def n4c8 (t2 t3 t17 t18 t19:Value) (next3:List Deferred→Value→World→Prop) (ds:List Deferred) (R:RT) (w:World):Prop :=
 opV Pg (binS .lss 3 false t19 t18) (outQ Pg ds [(some 29,t2),(some 4,t3)] R) w fun t20 w =>
 condP t20 (
 n4c7 t2 t3 t17 t19 next3 ds R w) (
 drawK w fun C8 w =>
 n4c6 t2 t3 C8 ds R w)
def n4c9 (t1 t2 t3:Value) (ds:List Deferred) (R:RT) (w:World):Prop :=
 opV Pg (Instr.fieldAt 24 t1 1) (outQ Pg ds [(some 29,t2),(some 4,t3)] R) w fun t16 w =>
 opV Pg (Instr.loadAt 22 t16) (outQ Pg ds [(some 29,t2),(some 4,t3)] R) w fun t17 w =>
 opV Pg (Builtin.len_ #[22] 3 #[t17]) (outQ Pg ds [(some 29,t2),(some 4,t3)] R) w fun t18 w =>
 loopM1 (fun ds t19 w next3 =>
 n4c8 t2 t3 t17 t18 t19 next3 ds R w) ds (.int .i64 0) w
def n4c10 (t1 t2 t3 t10:Value) (ds:List Deferred) (R:RT) (w:World):Prop :=
 opV Pg (Instr.extract t10 0) (outQ Pg ds [(some 29,t2),(some 4,t3)] R) w fun t11 w =>
 opV Pg (Instr.extract t10 1) (outQ Pg ds [(some 29,t2),(some 4,t3)] R) w fun t12 w =>
 opU Pg (Instr.storeAt 29 t2 t11) (outQ Pg ds [(some 29,t2),(some 4,t3)] R) w fun w =>
 opU Pg (Instr.storeAt 4 t3 t12) (outQ Pg ds [(some 29,t2),(some 4,t3)] R) w fun w =>
 opV Pg (Instr.loadAt 4 t3) (outQ Pg ds [(some 29,t2),(some 4,t3)] R) w fun t13 w =>
 condP t13 (
 drawK w fun C1 w =>
 n4c1 t2 t3 C1 ds R w) (
 n4c9 t1 t2 t3 ds R w)
def n4 (t0:Value) (R:RT) (w:World):Prop :=
 (fun (ds:List Deferred) =>
 opV Pg (Instr.box 24 t0) (outQ Pg ds [(some 29,undef),(some 4,undef)] R) w fun t1 w =>
 opV Pg (Instr.alloc 29 true (.tuple #[])) (outQ Pg ds [(some 29,undef),(some 4,undef)] R) w fun t2 w =>
 opV Pg (Instr.alloc 4 true (.tuple #[])) (outQ Pg ds [(some 29,t2),(some 4,undef)] R) w fun t3 w =>
 opV Pg (Instr.loadAt 24 t1) (outQ Pg ds [(some 29,t2),(some 4,t3)] R) w fun t9 w =>
 callK Pg 49 #[t9] (outQ Pg ds [(some 29,t2),(some 4,t3)] R) w fun t10 w =>
 n4c10 t1 t2 t3 t10 ds R w) []
set_option maxHeartbeats 40000000 in
theorem n4s {t0:Value} {R:RT} {w:World} (h:n4 t0 R w):Calls Pg 16 #[t0] w R:=by
 refine yE Tryz.func16 ?_
 unfold n4 at h
 dsimp only at h
 refine zs<|zr<|yv h fun _ w h=>yv h fun _ w h=>yv h fun _ w h=>zn<|zk<|sim_scope<|zs<|zs<|zr<|yv h fun _ w h=>yc h c49 fun _ w h=>zm<|yv h fun _ w h=>?_
 refine yv h fun _ w h=>yu h fun w h=>yu h fun w h=>zn<|zk<|zs<|zr<|yv h fun _ w h=>zn<|zk<|yC h (fun h=>?_) fun h=>?_
 · refine zs<|yh [14,15] h fun C hC h=>ye 0 hC h fun _ h=>?_
   refine ye 1 hC h fun _ h=>?_
   refine yo 2 ?_
   refine yu h fun w h=>zn ?_
   obtain ⟨hC,h⟩:=h
   refine ⟨hC,?_⟩
   refine yq 3 1 ?_
   refine yu h fun w h=>zn ?_
   obtain ⟨C2,hC,h⟩:=h
   refine ⟨C2,hC,?_⟩
   exact yz<|zk<|sim_ret<|sim_then_ret<|bodyM_ret rfl h
 refine sim_skip<|zk<|zs<|sim_label<|zk<|zs<|zs<|zr<|yv h fun _ w h=>yv h fun _ w h=>yx h fun _ w h=>zm<|zn<|zk<|sim_block ?_
 refine yL1 [4,5,19,20,21,22,23,24,25,26,44] 19 h fun σ ds w next h=>zs<|zr<|yb h fun _ w h=>zn<|zk<|zs<|yC h (fun h=>?_) fun h=>?_
 · refine sim_skip<|zk<|zs<|sim_block<|zs<|zr<|zm<|yv h fun _ w h=>yv h fun _ w h=>yv h fun _ w h=>yv h fun _ w h=>yu h fun w h=>yu h fun w h=>zn<|zk ?_
   refine zs<|zr<|yv h fun _ w h=>yv h fun _ w h=>yc h c50 fun _ w h=>zn<|zk<|sim_block<|sim_range2 [.exit 0] h rfl (fun l4 t27 t28 w Kr4 Xr4 Qr4 h=>?_) (fun ds w h=>?_) (fun c ds w h=>?_) (fun ch ds w h=>outQ_of rfl h)
   · refine zs<|zr<|zm<|zn<|zk<|zr<|zm<|zn<|zk ?_
     obtain ⟨hr,h⟩:=h
     refine ⟨rfl,hr,fun w hb=>?_⟩
     have h:=h w hb
     refine sim_block<|zs<|zr<|yv h fun _ w h=>yv h fun _ w h=>zm<|zm<|yc h c51 fun _ w h=>yu h fun w h=>zn<|zk<|zs<|zr<|yv h fun _ w h=>zn ?_
     refine zk<|yC h (fun h=>?_) fun h=>?_
     · refine zs<|zr<|yv h fun _ w h=>zm<|yB h fun _ w h=>yu h fun w h=>zn<|zk<|zs<|zs<|zr<|zm<|yv h fun _ w h=>yv h fun _ w h=>yx h fun _ w h=>?_
       refine yb h fun _ w h=>zn<|zk<|yJ0 [43] h (fun _ _ hkK5 h=>?_) fun σ w h=>?_
       · refine yC h (fun h=>?_) fun h=>?_
         · refine zr<|yv h fun _ w h=>yu h fun w h=>zn<|zk ?_
           exact zt hkK5 h
         refine sim_skip<|zk ?_
         exact zt hkK5 h
       exact zk<|sim_exit<|sim_block_miss rfl<|⟨rfl,0,rfl,h⟩
     exact sim_skip<|sim_block_normal<|⟨rfl,h⟩
   · exact sim_block_normal<|sim_block_normal<|zk<|zr<|yb h fun _ w h=>zm<|zn<|zk<|h
   rcases c with _ | c
   · refine ⟨_,rfl,.inr ⟨_,rfl,?_⟩⟩
     refine sim_block_miss rfl<|sim_block_miss rfl<|sim_then_exit<|sim_then_exit<|sim_block_hit<|zk<|zs<|yh [45,46] h fun C hC h=>ye 0 hC h fun _ h=>?_
     refine ye 1 hC h fun _ h=>?_
     refine yo 2 ?_
     refine yu h fun w h=>zn ?_
     obtain ⟨hC,h⟩:=h
     refine ⟨hC,?_⟩
     refine yq 3 1 ?_
     refine yu h fun w h=>zn ?_
     obtain ⟨C7,hC,h⟩:=h
     refine ⟨C7,hC,?_⟩
     exact yz<|zk<|sim_ret<|bodyM_ret rfl h
   exact h.elim
 refine sim_exit<|sim_then_exit<|sim_then_exit<|sim_block_hit<|zk<|zs<|yh [45,46] h fun C hC h=>ye 0 hC h fun _ h=>?_
 refine ye 1 hC h fun _ h=>?_
 refine yo 2 ?_
 refine yu h fun w h=>zn ?_
 obtain ⟨hC,h⟩:=h
 refine ⟨hC,?_⟩
 refine yq 3 1 ?_
 refine yu h fun w h=>zn ?_
 obtain ⟨C9,hC,h⟩:=h
 refine ⟨C9,hC,?_⟩
 exact yz<|zk<|sim_ret<|bodyM_ret rfl h
end Go.Proofs.YtdfhjlggcdemhaaGreat
namespace Go.Proofs.YtdfhjlggcdemhaaGreat
open Sw
open Go.RowKit (intOf Below)
theorem outs_marks {L:List (Option TypeId×Value)} {R:RT} {bs:List Nat}:∀ {w w0:World},bs.Nodup→(∀ b∈bs,MarkAt b w∧w0.heap.size≤b)→Ext w0 w →
 (∀ w',Ext w0 w'→(∀ (b:Nat) (o:Obj),(∀ d,o ≠ .deferred d)→w.heap[b]?=some o→w'.heap[b]?=some o)→outX Pg [] L R w')→outX Pg (bs.map Sw.mark) L R w:=by
 induction bs with
 | nil=>exact fun _ _ e h=>h _ e fun _ _ _ h=>h
 | cons b bs ih =>
  intro w w0 hn hm e h
  obtain ⟨hb,hn'⟩:=List.nodup_cons.1 hn
  have hmb:=hm b (List.mem_cons_self ..)
  refine outX_mark hmb.1 (ih (w0:=w0) hn' (fun c hc=>⟨?_,(hm c (List.mem_cons_of_mem _ hc)).2⟩) (e.putObj hmb.2 _) (fun w' e' h'=>h w' e' (fun c o ho hc=>h' c o ho ((World.putObj_heap_other ?_).trans hc))))
  · exact (World.putObj_heap_other (fun (e:c=b)=>hb (by rw [← e];exact hc))).trans (hm c (List.mem_cons_of_mem _ hc)).1
  · rintro rfl
    have:=hmb.1
    unfold MarkAt at this
    rw [hc] at this
    injection this with this
    exact ho _ this
theorem lasts2_marks {B:Nat} {bs:List Nat} (h:∀ b∈bs,b < B):Lasts2 B (fun w=>∀ b∈bs,MarkAt b w):=fun w w' hl hm b hb=>Lasts2.low (h b hb) _ w w' hl (hm b hb)
theorem has_nd {T:TypeId} {cs:Array Value}:∀ d,Obj.cells cs T (0,0) ≠ .deferred d:=fun _ h=>by cases h
def KQ (w0:World) (p q:Nat) (A B:Array Value) (T U:TypeId):World→Prop:=fun x=>Ext w0 x∧x.heap[p]?=some (.cells A T (0,0))∧x.heap[q]?=some (.cells B U (0,0))
abbrev chkK (w0:World) (d:DefD):Ending→World→Prop:=retR fun r w'=>r = .tuple #[flawOf (alignP d),.bool (flawedA d)]∧Ext w0 w'
theorem chk_out {w0 w:World} {t2 t3:Nat} {a f c:Int} {b:Bool} {bs:List Nat} {d:DefD} (e:Ext w0 w) (o2:w.heap[t2]?=some (.cells #[.int .i64 a,.int .i64 f,.int .i64 c] 29 (0,0))) (o3:w.heap[t3]?=some (.cells #[.bool b] 4 (0,0))) (h2:w0.heap.size≤t2) (h3:w0.heap.size≤t3)
 (hn:bs.Nodup) (hm:∀ b∈bs,MarkAt b w∧w0.heap.size≤b) (hr:alignP d=(a,f,c)) (hb:b=flawedA d):drawK w fun C1 w=>n4c1 (.pointer (some ⟨t2,0,none⟩)) (.pointer (some ⟨t3,0,none⟩)) C1 (bs.map Sw.mark) (chkK w0 d) w:=by
 have n23:t2≠t3:=by rintro rfl;rw [o2] at o3;cases o3
 refine ⟨KQ w0 t2 t3 #[.int .i64 a,.int .i64 f,.int .i64 c] #[.bool b] 29 4,⟨e.wdrew,o2,o3⟩,?_⟩
 haveI:ClassNe (KQ w0 t2 t3 #[.int .i64 a,.int .i64 f,.int .i64 c] #[.bool b] 29 4):=⟨⟨w,e,o2,o3⟩⟩
 show n4c1 _ _ _ _ _ _
 unfold n4c1
 rw [qV_eqC (fun w' h=>run_of_op fun QP k=>op_load ((ElemAt.of_heap (cs:=[.int .i64 a,.int .i64 f,.int .i64 c]) h.2.1).loads ty29 rfl)),qV_eqC (fun w' h=>run_of_op fun QP k=>op_load ((ElemAt.of_heap (cs:=[.bool b]) h.2.2).load1 ty4))]
 have o2':w.drew.heap[t2]?=some (.cells #[.int .i64 a,.int .i64 f,.int .i64 c] 29 (0,0)):=o2
 have o3':w.drew.heap[t3]?=some (.cells #[.bool b] 4 (0,0)):=o3
 have eD:Ext w0 w.drew:=e.wdrew
 have hmD:∀ b∈bs,MarkAt b w.drew:=fun b hb=>(hm b hb).1
 rw [drew_wdrew]
 generalize w.drew=W at o2' o3' eD hmD ⊢
 simp (disch:=try exact DI) only [↓PR,QR,simprocAttr,(cells_of_heap o2').1,(cells_of_heap o2').2,(cells_of_heap o3').1,(cells_of_heap o3').2]
 have q2:=heap_set (o:=2) (heap_set (o:=1) (heap_set (o:=0) o2' (.int .i64 a)) (.int .i64 f)) (.int .i64 c)
 have q3:=(Only.setCell ((W.setCell ⟨t2,0,none⟩ (.int .i64 a)).setCell ⟨t2,1,none⟩ (.int .i64 f)) t2 2 (.int .i64 c) t3 n23.symm).trans ((Only.setCell (W.setCell ⟨t2,0,none⟩ (.int .i64 a)) t2 1 (.int .i64 f) t3 n23.symm).trans ((Only.setCell W t2 0 (.int .i64 a) t3 n23.symm).trans o3'))
 have eQ:Ext w0 (((W.setCell ⟨t2,0,none⟩ (.int .i64 a)).setCell ⟨t2,1,none⟩ (.int .i64 f)).setCell ⟨t2,2,none⟩ (.int .i64 c)):=((eD.setCell h2 _).setCell h2 _).setCell h2 _
 refine ⟨⟨eQ,by simpa using q2,q3⟩,?_⟩
 have mQ:∀ b∈bs,MarkAt b (((W.setCell ⟨t2,0,none⟩ (.int .i64 a)).setCell ⟨t2,1,none⟩ (.int .i64 f)).setCell ⟨t2,2,none⟩ (.int .i64 c)):=fun b hb=>(((hmD b hb).setCell _ _).setCell _ _).setCell _ _
 generalize (((W.setCell ⟨t2,0,none⟩ (.int .i64 a)).setCell ⟨t2,1,none⟩ (.int .i64 f)).setCell ⟨t2,2,none⟩ (.int .i64 c))=X at q2 q3 eQ mQ ⊢
 replace q2:X.heap[t2]?=some (.cells #[.int .i64 a,.int .i64 f,.int .i64 c] 29 (0,0)):=by simpa using q2
 simp (disch:=try exact DI) only [↓PR,QR,simprocAttr,(cells_of_heap q3).1,(cells_of_heap q3).2]
 refine turnK_intro ?_
 have y2:=(Only.setCell X t3 0 (.bool b) t2 n23).trans q2
 have y3:=heap_set (o:=0) q3 (.bool b)
 refine outs_marks (w0:=w0) hn (fun b hb=>⟨(mQ b hb).setCell _ _,(hm b hb).2⟩) (eQ.setCell h3 _) (fun w' e' hh=>?_)
 have z2:=hh _ _ has_nd y2
 have z3:w'.heap[t3]?=some (.cells #[.bool b] 4 (0,0)):=by simpa using hh _ _ has_nd y3
 simp (disch:=try exact DI) only [↓PR,QR,simprocAttr,outX_nil,retV,resOne,(cells_of_heap z2).1,(cells_of_heap z3).1]
 refine ⟨?_,e'⟩
 rw [hr,hb]
theorem chk_loop {w0 w:World} {d:DefD} {t1 t2 t3:Nat} {mv:Value} (hM:MsgsOf w0 mv d.msgs) (hv:(checkP d).2.2=0) (e:Ext w0 w) (o1:w.heap[t1]?=some (.cells (defCells d mv).toArray 24 (0,0))) (o2:w.heap[t2]?=some (.cells #[.int .i64 0,.int .i64 0,.int .i64 0] 29 (0,0))) (o3:w.heap[t3]?=some (.cells #[.bool false] 4 (0,0))) (h2:w0.heap.size≤t2) (h3:w0.heap.size≤t3) :
 n4c9 (.pointer (some ⟨t1,0,none⟩)) (.pointer (some ⟨t2,0,none⟩)) (.pointer (some ⟨t3,0,none⟩)) [] (chkK w0 d) w:=by
 obtain ⟨A,c,rfl,hlc,hcm,hlm,hel⟩:=SliceOf.open hM
 have n23:t2≠t3:=by rintro rfl;rw [o2] at o3;cases o3
 have l2:=(Array.getElem?_eq_some_iff.1 o2).1
 have l3:=(Array.getElem?_eq_some_iff.1 o3).1
 unfold n4c9
 simp (disch:=try exact DI) only [↓PR,QR,simprocAttr,(cells_of_heap o1).1]
 refine loopM1_intro (fun ds i w'=>∃ (k:Nat) (bs:List Nat),i = .int .i64 k∧k≤d.msgs.length∧ds=bs.map Sw.mark∧bs.Nodup∧(∀ b∈bs,MarkAt b w'∧w0.heap.size≤b)∧Ext w0 w'∧w'.heap[t2]?=some (.cells #[.int .i64 0,.int .i64 0,.int .i64 0] 29 (0,0))∧w'.heap[t3]?=some (.cells #[.bool false] 4 (0,0))∧alignP d=alignM k (d.msgs.drop k)) (fun i _=>d.msgs.length - (intOf i).toNat) ⟨0,[],rfl,by omega,rfl,by simp,by simp,e,o2,o3,alignP_valid hv⟩ ?_
 rintro _ _ w1 ⟨k,bs,rfl,hk,rfl,hnd,hbs,e1,x2,x3,hr⟩
 unfold n4c8
 rcases drop_cases hk with ⟨m,hm,hd,hlt,hdec⟩ | ⟨hk,hd,hdec⟩
 · obtain ⟨b,o,cs,rfl,hl,hA,fv,rfl,hF⟩:=hel k m hm
   have hf1:=SliceOf.oneCell hF
   obtain ⟨A2,c2,hfv,_,_,hlm2,_⟩:=SliceOf.open hF
   have hokM:=valid_okM hv (List.mem_of_getElem? hm)
   have hok:=hokM.1.1
   simp (disch:=try exact DI) only [↓PR,QR,simprocAttr,hdec]
   unfold n4c7
   simp (disch:=try exact DI) only [↓PR,QR,simprocAttr,(hA.c2 e1).1,(hA.c2 e1).2]
   simp only [World.size_alloc]
   generalize hW:World.alloc (World.alloc w1 _) _=W
   have eW:Ext w1 W:=by rw [← hW];exact ee
   have q4:W.heap[w1.heap.size]?=some (.cells #[.int .i64 (k:Int)] 3 (0,0)):=by rw [← hW];simp (disch:=try exact DI) only [↓PR,QR,simprocAttr]
   have q5:W.heap[w1.heap.size+1]?=some (.cells (msgCells m fv).toArray 44 (0,0)):=by rw [← hW];simp (disch:=try exact DI) only [↓PR,QR,simprocAttr]
   have hsz:W.heap.size=w1.heap.size+1+1:=by rw [← hW];simp only [World.size_alloc]
   clear hW
   have l2':=(Array.getElem?_eq_some_iff.1 x2).1
   have l3':=(Array.getElem?_eq_some_iff.1 x3).1
   refine callK_ret (offsets_ret _ _ m.fields (hF.ext (e1.trans eW)).weak) ?_
   rintro _ w2 ⟨pb,rfl,hO,hpb,hpb2,e2⟩
   have s2:=e2.size
   have E2:=(e1.trans eW).trans e2
   have e12:=eW.trans e2
   unfold n4c5
   generalize hB:w2.heap.size=B at *
   generalize hp4:w1.heap.size=p4 at *
   let J:World→Prop:=fun w'=>Ext w0 w'∧w'.heap[p4]?=some (.cells #[.int .i64 (k:Int)] 3 (0,0))∧w'.heap[p4+1]?=some (.cells (msgCells m fv).toArray 44 (0,0))∧w'.heap[pb]?=some (.cells #[fv] 42 (0,0))∧(∀ b∈bs,MarkAt b w')
   have hLJ:Lasts2 B J:=(Lasts2.from (by have:=E2.size;omega)).and ((Lasts2.has _ (by simp) (by simp)).and ((Lasts2.has _ (by simp) (by simp)).and ((Lasts2.has _ (by simp) (by simp)).and (lasts2_marks fun b hb=>by have:=(Array.getElem?_eq_some_iff.1 (hbs b hb).1).1;omega))))
   let I:Nat→World→Prop:=fun j w'=>J w'∧w'.heap[t2]?=some (.cells #[.int .i64 0,.int .i64 0,.int .i64 0] 29 (0,0))∧w'.heap[t3]?=some (.cells #[.bool false] 4 (0,0))∧∀ i,i < j→wrongP m.fields i=false
   let Ix:Nat→World→Prop:=fun c w'=>c=0∧J w'∧w'.heap[t3]?=some (.cells #[.bool true] 4 (0,0))∧∃ i:Nat,i≤m.fields.length∧firstW m.fields=some i∧w'.heap[t2]?=some (.cells #[.int .i64 (k:Int),.int .i64 (if i=m.fields.length then -1 else (i:Int)),.int .i64 12] 29 (0,0))
   have hLI:∀ j,Lasts2 B (I j):=fun j=>hLJ.and ((Lasts2.has _ (by simp) (by simp)).and ((Lasts2.has _ (by simp) (by simp)).and (Lasts2.const _ _)))
   have hLX:∀ c,Lasts2 B (Ix c):=fun c=>(Lasts2.const _ _).and (hLJ.and ((Lasts2.has _ (by simp) (by simp)).and (.ex fun i=>(Lasts2.const _ _).and ((Lasts2.const _ _).and (Lasts2.has _ (by simp) (by simp))))))
   have hJset:∀ w' p o v,J w'→(p=t2∨p=t3)→J (w'.setCell ⟨p,o,none⟩ v):=by
    rintro w' p o v ⟨j1,j2,j3,j4,j5⟩ hp
    have hp':w0.heap.size≤p∧p < p4:=by omega
    exact ⟨j1.setCell hp'.1 _,(Only.setCell w' p o v p4 (by omega)).trans j2,(Only.setCell w' p o v (p4+1) (by omega)).trans j3,(Only.setCell w' p o v pb (by omega)).trans j4,fun b hb=>(j5 b hb).setCell _ _⟩
   have hJext:∀ w' w'',J w'→Ext w' w''→J w'':=fun w' w'' h e=>hLJ.ext h e
   refine ⟨_,_,m.fields.length+1,(fun k => .int .i64 k),(fun k => .int .i64 (endO (m.fields.take k))),OffAt pb fv m.fields,I,Ix,fun _ _=>False,rfl,c89,offsets_seq pb fv m.fields hok,⟨⟨E2,e2.obj q4,e2.obj q5,hO.1,fun b hb=>(hbs b hb).1.ext e12⟩,e12.obj x2,e12.obj x3,fun i h=>by omega⟩,fun j w' h=>⟨h.1.2.2.2.1,(hF.ext h.1.1).weak⟩,hB ▸ hLI,hB ▸ hLX,fun _=>Lasts2.const _ _,?_,?_,?_,?_⟩
   · rw [hB]
     intro Rk hRk j w3 hj hI3 hR3 hlt3 hready
     refine ⟨hready,fun w4 hbz=>?_⟩
     have hR4:=hRk _ _ (KR.busied hbz) hR3
     obtain ⟨hJ4,y2,y3,hne⟩:=(hLI j).busied hbz (Nat.le_succ _) hI3
     obtain ⟨j1,j2,j3,j4,j5⟩:=hJ4
     unfold n4c3
     simp (disch:=try exact DI) only [↓PR,QR,simprocAttr,(cells_of_heap j3).1]
     refine zcr (wrong_ret _ _ m.fields j (by omega) (hF.ext j1) hok) fun w5 e5=>?_
     have hR5:=hRk _ _ (KR.of e5) hR4
     have hJ5:=hJext _ _ ⟨j1,j2,j3,j4,j5⟩ e5
     have z2:=e5.obj y2
     have z3:=e5.obj y3
     have hR6:∀ b,Rk (w5.setCell ⟨t3,0,none⟩ (.bool b)):=fun b=>hRk _ _ (KR.setCell (KR.refl _ _) _ _ _ (.inl (by omega))) hR5
     have hJ6:∀ b,J (w5.setCell ⟨t3,0,none⟩ (.bool b)):=fun b=>hJset _ _ _ _ hJ5 (.inr rfl)
     have r2:∀ b,(w5.setCell ⟨t3,0,none⟩ (.bool b)).heap[t2]?=some (.cells #[.int .i64 0,.int .i64 0,.int .i64 0] 29 (0,0)):=fun b=>(Only.setCell w5 t3 0 (.bool b) t2 n23).trans z2
     have r3:∀ b,(w5.setCell ⟨t3,0,none⟩ (.bool b)).heap[t3]?=some (.cells #[.bool b] 4 (0,0)):=fun b=>by simpa using heap_set (o:=0) z3 (.bool b)
     cases hw:wrongP m.fields j with
     | false =>
      simp (disch:=try exact DI) only [↓PR,QR,simprocAttr,(cells_of_heap z3).1,(cells_of_heap z3).2,(cells_of_heap (r3 false)).1]
      refine ⟨hR6 _,hJ6 _,r2 _,r3 _,fun i hi=>?_⟩
      by_cases hij:i=j
      · rw [hij];exact hw
      · exact hne i (by omega)
     | true =>
      simp (disch:=try exact DI) only [↓PR,QR,simprocAttr,(cells_of_heap z3).1,(cells_of_heap z3).2,(cells_of_heap (r3 true)).1]
      have hR6:=hR6 true
      have hJ6:=hJ6 true
      have r2:=r2 true
      have r3:=r3 true
      generalize (w5.setCell ⟨t3,0,none⟩ (.bool true))=w6 at hR6 hJ6 r2 r3 ⊢
      have hfst:=firstW_some (by omega) hne hw
      obtain ⟨j1,j2,j3,j4,j5⟩:=hJ6
      have u2:=heap_set (o:=2) (heap_set (o:=1) (heap_set (o:=0) r2 (.int .i64 (k:Int))) (.int .i64 (j:Int))) (.int .i64 12)
      have u3:=(Only.setCell ((w6.setCell ⟨t2,0,none⟩ (.int .i64 (k:Int))).setCell ⟨t2,1,none⟩ (.int .i64 (j:Int))) t2 2 (.int .i64 12) t3 n23.symm).trans ((Only.setCell (w6.setCell ⟨t2,0,none⟩ (.int .i64 (k:Int))) t2 1 (.int .i64 (j:Int)) t3 n23.symm).trans ((Only.setCell w6 t2 0 (.int .i64 (k:Int)) t3 n23.symm).trans r3))
      have uJ:=hJset _ t2 2 (.int .i64 12) (hJset _ t2 1 (.int .i64 (j:Int)) (hJset _ t2 0 (.int .i64 (k:Int)) ⟨j1,j2,j3,j4,j5⟩ (.inl rfl)) (.inl rfl)) (.inl rfl)
      have uR:=hRk _ _ ((((KR.refl (B+1+1) w6).setCell t2 0 (.int .i64 (k:Int)) (.inl (by omega))).setCell t2 1 (.int .i64 (j:Int)) (.inl (by omega))).setCell t2 2 (.int .i64 12) (.inl (by omega))) hR6
      rw [hfv] at j3
      unfold n4c2
      by_cases hje:j=m.fields.length
      · have hde:((j:Int) == (m.fields.length:Int))=true:=by simp [hje]
        simp (disch:=try exact DI) only [↓PR,QR,simprocAttr,(cells_of_heap j2).1,(cells_of_heap j3).1,(cells_of_heap r2).1,(cells_of_heap r2).2,hde]
        generalize (((w6.setCell ⟨t2,0,none⟩ (.int .i64 (k:Int))).setCell ⟨t2,1,none⟩ (.int .i64 (j:Int))).setCell ⟨t2,2,none⟩ (.int .i64 12))=w7 at u2 u3 uJ uR ⊢
        replace u2:w7.heap[t2]?=some (.cells #[.int .i64 (k:Int),.int .i64 (j:Int),.int .i64 12] 29 (0,0)):=by simpa using u2
        refine ⟨hRk _ _ (KR.setCell (KR.refl _ _) _ _ _ (.inl (by omega))) uR,rfl,hJset _ _ _ _ uJ (.inl rfl),(Only.setCell w7 t2 1 (.int .i64 (-1)) t3 n23.symm).trans u3,j,by omega,hfst,?_⟩
        rw [if_pos hje]
        simpa using heap_set (o:=1) u2 (.int .i64 (-1))
      · have hde:((j:Int) == (m.fields.length:Int))=false:=by simp;omega
        simp (disch:=try exact DI) only [↓PR,QR,simprocAttr,(cells_of_heap j2).1,(cells_of_heap j3).1,(cells_of_heap r2).1,(cells_of_heap r2).2,hde]
        refine ⟨uR,rfl,uJ,u3,j,by omega,hfst,?_⟩
        rw [if_neg hje]
        simpa using u2
   · rw [hB]
     rintro w3 ⟨hJ3,y2,y3,hne⟩ hmk
     simp (disch:=try exact DI) only [↓PR,QR,simprocAttr]
     refine ⟨⟨k+1,B::bs,rfl,by omega,rfl,List.nodup_cons.2 ⟨fun hin=>?_,hnd⟩,fun b hb=>?_,hJ3.1,y2,y3,?_⟩,meas_lt hlt⟩
     · have:=(Array.getElem?_eq_some_iff.1 (hbs _ hin).1).1;omega
     · rcases List.mem_cons.1 hb with rfl | hb
       · exact ⟨hmk,by have:=E2.size;omega⟩
       · exact ⟨hJ3.2.2.2.2 b hb,(hbs b hb).2⟩
     · rw [hr,hd,alignM_none (firstW_none hne)]
   · rw [hB]
     rintro c w3 ⟨rfl,hJ3,y3,i,hi,hf,y2⟩ hmk
     refine chk_out (bs:=B::bs) hJ3.1 y2 y3 h2 h3 (List.nodup_cons.2 ⟨fun hin=>?_,hnd⟩) (fun b hb=>?_) ?_ ?_
     · have:=(Array.getElem?_eq_some_iff.1 (hbs _ hin).1).1;omega
     · rcases List.mem_cons.1 hb with rfl | hb
       · exact ⟨hmk,by have:=E2.size;omega⟩
       · exact ⟨hJ3.2.2.2.2 b hb,(hbs b hb).2⟩
     · rw [hr,hd,alignM_some hf]
     · unfold flawedA;rw [hr,hd,alignM_some hf];rfl
   · rintro ch w3 h
     exact h.elim
 · subst hk
   simp (disch:=try exact DI) only [↓PR,QR,simprocAttr,hdec]
   have hr0:alignP d=(0,0,0):=by rw [hr,hd];rfl
   exact chk_out e1 x2 x3 h2 h3 hnd hbs hr0 (by unfold flawedA;rw [hr0];rfl)
theorem alCheck_ret (w0:World) (v:Value) (d:DefD) (hd:DefVal w0 v d) (ht:calm d):Ret Pg 16 #[v] w0 fun r w'=>r = .tuple #[flawOf (alignP d),.bool (flawedA d)]∧Ext w0 w':=by
 obtain ⟨mv,rfl,hM⟩:=hd
 have hm1:=SliceOf.oneCell hM
 refine n4s (R:=retR _) ?_;unfold n4
 simp (disch:=try exact DI) only [↓PR,QR,simprocAttr]
 simp only [World.size_alloc]
 generalize hW:World.alloc (World.alloc (World.alloc w0 _) _) _=W
 have e0:Ext w0 W:=by rw [← hW];exact ee
 have o1:W.heap[w0.heap.size]?=some (.cells (defCells d mv).toArray 24 (0,0)):=by rw [← hW];simp (disch:=try exact DI) only [↓PR,QR,simprocAttr]
 have o2:W.heap[w0.heap.size+1]?=some (.cells #[.int .i64 0,.int .i64 0,.int .i64 0] 29 (0,0)):=by rw [← hW];simp (disch:=try exact DI) only [↓PR,QR,simprocAttr]
 have o3:W.heap[w0.heap.size+1+1]?=some (.cells #[.bool false] 4 (0,0)):=by rw [← hW];simp (disch:=try exact DI) only [↓PR,QR,simprocAttr]
 clear hW
 generalize hp2:w0.heap.size+1=t2 at *
 generalize hp3:t2+1=t3 at *
 refine zcr (Check_ret _ d ⟨mv,rfl,hM.ext e0⟩ ht) fun w1 e1=>?_
 have E1:=e0.trans e1
 have x1:=e1.obj o1
 have x2:=e1.obj o2
 have x3:=e1.obj o3
 have n23:t2≠t3:=by omega
 unfold n4c10
 simp (disch:=try exact DI) only [↓PR,QR,simprocAttr,(cells_of_heap x2).1,(cells_of_heap x2).2,(cells_of_heap x3).1,(cells_of_heap x3).2]
 have q2:=heap_set (o:=2) (heap_set (o:=1) (heap_set (o:=0) x2 (.int .i64 (checkP d).1)) (.int .i64 (checkP d).2.1)) (.int .i64 (checkP d).2.2)
 have q3:=(Only.setCell ((w1.setCell ⟨t2,0,none⟩ (.int .i64 (checkP d).1)).setCell ⟨t2,1,none⟩ (.int .i64 (checkP d).2.1)) t2 2 (.int .i64 (checkP d).2.2) t3 n23.symm).trans ((Only.setCell (w1.setCell ⟨t2,0,none⟩ (.int .i64 (checkP d).1)) t2 1 (.int .i64 (checkP d).2.1) t3 n23.symm).trans ((Only.setCell w1 t2 0 (.int .i64 (checkP d).1) t3 n23.symm).trans x3))
 have q1:=(Only.setCell ((w1.setCell ⟨t2,0,none⟩ (.int .i64 (checkP d).1)).setCell ⟨t2,1,none⟩ (.int .i64 (checkP d).2.1)) t2 2 (.int .i64 (checkP d).2.2) w0.heap.size (by omega)).trans ((Only.setCell (w1.setCell ⟨t2,0,none⟩ (.int .i64 (checkP d).1)) t2 1 (.int .i64 (checkP d).2.1) w0.heap.size (by omega)).trans ((Only.setCell w1 t2 0 (.int .i64 (checkP d).1) w0.heap.size (by omega)).trans x1))
 have eQ:Ext w0 (((w1.setCell ⟨t2,0,none⟩ (.int .i64 (checkP d).1)).setCell ⟨t2,1,none⟩ (.int .i64 (checkP d).2.1)).setCell ⟨t2,2,none⟩ (.int .i64 (checkP d).2.2)):=((E1.setCell (show w0.heap.size≤t2 by omega) _).setCell (show w0.heap.size≤t2 by omega) _).setCell (show w0.heap.size≤t2 by omega) _
 generalize (((w1.setCell ⟨t2,0,none⟩ (.int .i64 (checkP d).1)).setCell ⟨t2,1,none⟩ (.int .i64 (checkP d).2.1)).setCell ⟨t2,2,none⟩ (.int .i64 (checkP d).2.2))=X at q1 q2 q3 eQ ⊢
 replace q2:X.heap[t2]?=some (.cells #[.int .i64 (checkP d).1,.int .i64 (checkP d).2.1,.int .i64 (checkP d).2.2] 29 (0,0)):=by simpa using q2
 have y1:=(Only.setCell X t3 0 (.bool (flawedB d)) w0.heap.size (by omega)).trans q1
 have y2:=(Only.setCell X t3 0 (.bool (flawedB d)) t2 n23).trans q2
 have y3:(X.setCell ⟨t3,0,none⟩ (.bool (flawedB d))).heap[t3]?=some (.cells #[.bool (flawedB d)] 4 (0,0)):=by simpa using heap_set (o:=0) q3 (.bool (flawedB d))
 have eY:=eQ.setCell (p:=⟨t3,0,none⟩) (show w0.heap.size≤t3 by omega) (.bool (flawedB d))
 simp (disch:=try exact DI) only [↓PR,QR,simprocAttr,(cells_of_heap q3).1,(cells_of_heap q3).2,(cells_of_heap y3).1]
 generalize (X.setCell ⟨t3,0,none⟩ (.bool (flawedB d)))=Y at y1 y2 y3 eY ⊢
 by_cases hf:(checkP d).2.2=0
 · have hfb:flawedB d=false:=by unfold flawedB;simp [hf]
   have hc0:=checkP_zero hf
   rw [hfb] at y3 ⊢
   rw [hc0] at y2
   simp (disch:=try exact DI) only [↓PR,QR,simprocAttr]
   exact chk_loop hM hf eY y1 y2 y3 (by omega) (by omega)
 · have hfb:flawedB d=true:=by unfold flawedB;simp [hf]
   rw [hfb] at y3 ⊢
   simp (disch:=try exact DI) only [↓PR,QR,simprocAttr]
   exact chk_out (bs:=[]) eY y2 y3 (by omega) (by omega) (by simp) (by simp) (alignP_flawed hf) (by unfold flawedA;rw [alignP_flawed hf];simp [hf])
end Go.Proofs.YtdfhjlggcdemhaaGreat
namespace Go.Proofs.YtdfhjlggcdemhaaGreat
open Sw
def n8c1 (t2 t14 t22 t27:Value) (R:RT) (w:World):Prop :=
 pickK t22 (.bool true) t27 fun t28 =>
 condP t28 (
 R (.returned (.tuple #[(.int .i64 0),(.int .i64 3)])) w) (
 C0 60 #[t14,t2] R w fun t31 w =>
 R (.returned (.tuple #[t31,(.int .i64 0)])) w)
def n8c2 (t2 t14:Value) (R:RT) (w:World):Prop :=
 B0 .lss 3 true t2 (.int .i64 0) R w fun t22 w =>
 joinK (fun (t27:Value) (w:World) =>
 n8c1 t2 t14 t22 t27 R w) fun K1 =>
 guardP t22 false (
 opV Pg (Builtin.len_ #[42] 3 #[t14]) (panK R) w fun t26 w =>
 B0 .geq 3 false t2 t26 R w fun t27 w =>
 K1 t27 w) (
 K1 undef w)
def n8c3 (t2 t13:Value) (R:RT) (w:World):Prop :=
 opV Pg (Instr.extract t13 0) (panK R) w fun t14 w =>
 opV Pg (Instr.extract t13 1) (panK R) w fun t15 w =>
 B0 .neq 52 true t15 (.int .i64 0) R w fun t18 w =>
 condP t18 (
 R (.returned (.tuple #[(.int .i64 0),t15])) w) (
 n8c2 t2 t14 R w)
def n8 (t0 t1 t2:Value) (R:RT) (w:World):Prop :=
 opV Pg (Instr.box 24 t0) (panK R) w fun t3 w =>
 L0 24 t3 R w fun t11 w =>
 C0 55 #[t11,t1] R w fun t13 w =>
 n8c3 t2 t13 R w
theorem n8s {t0 t1 t2:Value} {R:RT} {w:World} (h:n8 t0 t1 t2 R w):Calls Pg 26 #[t0,t1,t2] w R:=by
 refine yD Tryz.func26 ?_
 refine zs<|zr<|yv h fun _ w h=>zm<|zm<|zn<|zk<|zs<|zr<|yv h fun _ w h=>zm<|yc h c55 fun _ w h=>zm<|yv h fun _ w h=>yv h fun _ w h=>?_
 refine zm<|zm<|zn<|zk<|zs<|sim_block<|zs<|zr<|zm<|yb h fun _ w h=>zm<|zn<|zk<|yC h (fun h=>zs<|zr<|zm<|zm<|zm<|zn<|zk<|sim_ret<|sim_block_ret<|sim_then_ret<|body_ret2 rfl rfl rfl h) fun h=>?_
 refine zs<|sim_regionG<|yG 3<|zm<|yb h fun _ w h=>zm<|zn<|yg1 4 2 false [24,25,26,27] 27 h (fun _ T hT h=>?_) fun σ w h=>?_
 · refine zm<|zm<|yx h fun _ w h=>yb h fun _ w h=>zn ?_
   exact zt hT h
 refine yG 2<|yp h fun _ h=>zm<|zn<|sim_end<|zk<|yC h (fun h=>zs<|zr<|zm<|zm<|zn<|zk<|sim_ret<|sim_block_ret<|sim_then_ret<|body_ret2 rfl rfl rfl h) fun h=>sim_skip<|sim_block_normal<|zk<|zs<|zr<|zm<|zm ?_
 exact yc h c60 fun _ w h=>zm<|zm<|zn<|zk<|sim_ret<|body_ret2 rfl rfl rfl h
def n5c1 (t11:Value) (R:RT) (w:World):Prop :=
 opV Pg (Instr.extract t11 0) (panK R) w fun t12 w =>
 opV Pg (Instr.extract t11 1) (panK R) w fun t13 w =>
 opV Pg (Builtin.len_ #[42] 3 #[t12]) (panK R) w fun t16 w =>
 C0 60 #[t12,t16] R w fun t17 w =>
 R (.returned (.tuple #[t17,t13])) w
def n5 (t0 t1:Value) (R:RT) (w:World):Prop :=
 opV Pg (Instr.box 24 t0) (panK R) w fun t2 w =>
 L0 24 t2 R w fun t9 w =>
 C0 55 #[t9,t1] R w fun t11 w =>
 n5c1 t11 R w
theorem n5s {t0 t1:Value} {R:RT} {w:World} (h:n5 t0 t1 R w):Calls Pg 27 #[t0,t1] w R:=by
 refine yD Tryz.func27 ?_
 refine zs<|zr<|yv h fun _ w h=>zm<|zm<|zn<|zk<|zs<|zr<|yv h fun _ w h=>zm<|yc h c55 fun _ w h=>zm<|yv h fun _ w h=>yv h fun _ w h=>?_
 refine zm<|zm<|zn<|zk<|zs<|zr<|zm<|zm<|yx h fun _ w h=>yc h c60 fun _ w h=>zm<|zm<|zm<|zn<|zk ?_
 exact sim_ret<|body_ret2 rfl rfl rfl h
def n6c1 (t8 t10:Value) (K3:KV) (R:RT) (w:World):Prop :=
 F0 38 t10 2 R w fun t32 w =>
 L0 3 t32 R w fun t33 w =>
 B0 .add 3 false t8 t33 R w fun t34 w =>
 K3 t34 w
def n6c2 (t8 t10 t19 t25 t29:Value) (next1:KW) (R:RT) (w:World):Prop :=
 pickK t25 (.bool true) t29 fun t30 =>
 joinK (fun (t8:Value) (w:World) =>
 B0 .add 3 true t19 (.int .i64 1) R w fun t35 w =>
 next1 t8 t35 w) fun K3 =>
 condP t30 (
 n6c1 t8 t10 K3 R w) (
 K3 t8 w)
def n6c3 (t8 t15 t19:Value) (next1:KW) (R:RT) (w:World):Prop :=
 X0 42 t15 t19 R w fun t21 w =>
 L0 38 t21 R w fun t22 w =>
 opV Pg (Instr.alloc 38 true (.tuple #[])) (panK R) w fun t10 w =>
 opU Pg (Instr.storeAt 38 t10 t22) (panK R) w fun w =>
 F0 38 t10 1 R w fun t23 w =>
 L0 32 t23 R w fun t24 w =>
 B0 .eql 32 true t24 (.int .i64 1) R w fun t25 w =>
 joinK (fun (t29:Value) (w:World) =>
 n6c2 t8 t10 t19 t25 t29 next1 R w) fun K2 =>
 guardP t25 false (
 F0 38 t10 1 R w fun t27 w =>
 L0 32 t27 R w fun t28 w =>
 B0 .eql 32 true t28 (.int .i64 2) R w fun t29 w =>
 K2 t29 w) (
 K2 undef w)
def n6c4 (t14:Value) (R:RT) (w:World):Prop :=
 opV Pg (Instr.extract t14 0) (panK R) w fun t15 w =>
 opV Pg (Instr.extract t14 1) (panK R) w fun t16 w =>
 opV Pg (Builtin.len_ #[42] 3 #[t15]) (panK R) w fun t18 w =>
 loop2 (fun t8 t19 w next1 =>
 B0 .lss 3 false t19 t18 R w fun t20 w =>
 condP t20 (
 n6c3 t8 t15 t19 next1 R w) (
 R (.returned (.tuple #[t8,t16])) w)) (.int .i64 0) (.int .i64 0) w
def n6 (t0 t1:Value) (R:RT) (w:World):Prop :=
 opV Pg (Instr.box 24 t0) (panK R) w fun t2 w =>
 L0 24 t2 R w fun t12 w =>
 C0 55 #[t12,t1] R w fun t14 w =>
 n6c4 t14 R w
theorem n6s {t0 t1:Value} {R:RT} {w:World} (h:n6 t0 t1 R w):Calls Pg 28 #[t0,t1] w R:=by
 refine yD Tryz.func28 ?_
 refine zs<|zr<|yv h fun _ w h=>zm<|zm<|zn<|zk<|zs<|zr<|yv h fun _ w h=>zm<|yc h c55 fun _ w h=>zm<|yv h fun _ w h=>yv h fun _ w h=>?_
 refine zm<|zm<|zn<|zk<|zs<|zr<|zm<|zn<|zk<|zs<|zs<|zr<|zm<|yx h fun _ w h=>zm ?_
 refine zn<|zk<|sim_block<|yl2 [8,10,19,20,21,22,23,24,25,26,27,28,29,30,31,32,33,34,35] 8 19 h fun σ w next h=>zs<|zr<|yb h fun _ w h=>zn<|zk<|zs<|yC h (fun h=>?_) fun h=>?_
 · refine sim_skip<|zk<|zs<|sim_block<|zs<|zr<|yv h fun _ w h=>yv h fun _ w h=>yv h fun _ w h=>yu h fun w h=>zn<|zk<|zs<|sim_regionG<|yG 4 ?_
   refine yv h fun _ w h=>yv h fun _ w h=>yb h fun _ w h=>zm<|zn<|yg1 3 3 false [27,28,29] 29 h (fun _ T hT h=>?_) fun σ w h=>?_
   · refine yv h fun _ w h=>yv h fun _ w h=>yb h fun _ w h=>zn ?_
     exact zt hT h
   refine yG 1<|yp h fun _ h=>zn<|sim_end<|zk<|yJ1 [8,31,32,33,34] 8 h (fun _ _ hkK3 h=>?_) fun σ w h=>?_
   · refine yC h (fun h=>?_) fun h=>?_
     · refine zr<|zm<|yv h fun _ w h=>yv h fun _ w h=>yb h fun _ w h=>zm<|zn<|zk ?_
       exact zt hkK3 h
     refine sim_skip<|zk ?_
     exact zt hkK3 h
   exact sim_block_normal<|zk<|zr<|yb h fun _ w h=>zm<|zn<|zk<|⟨rfl,h⟩
 exact sim_exit<|sim_then_exit<|sim_then_exit<|sim_block_hit<|zk<|zs<|zr<|zm<|zm<|zm<|zm<|zn<|zk<|sim_ret<|body_ret2 rfl rfl rfl h
end Go.Proofs.YtdfhjlggcdemhaaGreat
namespace Go.Proofs.YtdfhjlggcdemhaaGreat
open Sw
open Go.RowKit (intOf Below)
def msgE (d:DefD) (i:Int):Int:=if (checkP d).2.2≠0 then 2 else if i < 0∨d.msgs.length≤i then 3 else 0
def msgL (d:DefD) (i:Int):List FieldD:=if msgE d i=0 then (match d.msgs[i.toNat]? with
 | some m=>m.fields
 | none=>[]) else []
theorem msgE_zero {d:DefD} {i:Int} (h:msgE d i=0):(checkP d).2.2=0∧∃ (k:Nat) (m:MsgD),i=k∧k < d.msgs.length∧d.msgs[k]?=some m∧msgL d i=m.fields:=by
 have h':=h
 unfold msgE at h
 split at h
 · exact absurd h (by decide)
 · rename_i h0
   split at h
   · exact absurd h (by decide)
   · rename_i h1
     obtain ⟨k,rfl⟩:∃ k:Nat,i=k:=⟨i.toNat,by omega⟩
     have hk:k < d.msgs.length:=by omega
     obtain ⟨m,hm⟩:=getElem?_lt hk
     refine ⟨Decidable.not_not.1 h0,k,m,rfl,hk,hm,?_⟩
     unfold msgL
     rw [if_pos h',Int.toNat_natCast,hm]
theorem msgL_ok {d:DefD} {i:Int}:okM (msgL d i)∧(msgL d i).length≤40:=by
 by_cases h:msgE d i=0
 · obtain ⟨h0,k,m,_,_,hm,hl⟩:=msgE_zero h
   rw [hl]
   have:=valid_okM h0 (List.mem_of_getElem? hm)
   exact ⟨this.1,this.2.2⟩
 · unfold msgL
   rw [if_neg h]
   exact ⟨⟨(fun f hf=>by cases hf),(fun i f hf=>by cases hf)⟩,by simp⟩
section
variable {w0:World}
theorem message_ret (v:Value) (d:DefD) (i:Int) (hd:DefVal w0 v d) (ht:calm d):Ret Pg 55 #[v,.int .i64 i] w0 fun r w'=>∃ fv,r = .tuple #[fv,.int .i64 (msgE d i)]∧FieldsOf w' fv (msgL d i)∧Ext w0 w':=by
 obtain ⟨mv,rfl,hM⟩:=hd
 obtain ⟨A,c,rfl,hlc,hcm,hlm,hel⟩:=SliceOf.open hM
 refine n16s (R:=retR _) ?_;unfold n16
 simp (disch:=try exact DI) only [↓PR,QR,simprocAttr]
 generalize hW:World.alloc w0 _=W
 have e0:Ext w0 W:=by rw [← hW];exact ee
 have o1:W.heap[w0.heap.size]?=some (.cells #[.string d.name,.slice A d.msgs.length c,.string d.start] 24 (0,0)):=by rw [← hW];simp (disch:=try exact DI) only [↓PR,QR,simprocAttr]
 clear hW
 refine zcr (Valid_ret' _ d ⟨_,rfl,hM.ext e0⟩ ht) fun w1 e1=>?_
 have E1:=e0.trans e1
 have x1:=e1.obj o1
 by_cases hf:(checkP d).2.2=0
 · have hfb:flawedB d=false:=by unfold flawedB;simp [hf]
   rw [hfb]
   unfold n16c2
   by_cases hi:i < 0
   · have hE:msgE d i=3:=by unfold msgE;rw [if_neg (by simp [hf]),if_pos (.inl hi)]
     have d1:decide (i < 0)=true:=decide_eq_true hi
     simp (disch:=try exact DI) only [↓PR,QR,simprocAttr,d1,↓n16c1,↓n16c2]
     exact ⟨_,by rw [hE],by unfold msgL;rw [hE];exact SliceOf.nil _ _ _,E1⟩
   · have d1:decide (i < 0)=false:=decide_eq_false hi
     by_cases hj:(d.msgs.length:Int)≤i
     · have hE:msgE d i=3:=by unfold msgE;rw [if_neg (by simp [hf]),if_pos (.inr hj)]
       have d2:decide (i≥(d.msgs.length:Int))=true:=decide_eq_true hj
       simp (disch:=try exact DI) only [↓PR,QR,simprocAttr,d1,d2,(cells_of_heap x1).1,↓n16c1,↓n16c2]
       exact ⟨_,by rw [hE],by unfold msgL;rw [hE];exact SliceOf.nil _ _ _,E1⟩
     · have hE:msgE d i=0:=by unfold msgE;rw [if_neg (by simp [hf]),if_neg (by omega)]
       obtain ⟨_,k,m,rfl,hk,hm,hl⟩:=msgE_zero hE
       have d2:decide ((k:Int)≥(d.msgs.length:Int))=false:=decide_eq_false hj
       obtain ⟨b,o,cs,rfl,_,hA,fv,rfl,hF⟩:=hel k m hm
       simp (disch:=try exact DI) only [↓PR,QR,simprocAttr,d1,d2,(cells_of_heap x1).1,(hA.c2 E1).1,(hA.c2 E1).2,↓n16c1,↓n16c2]
       exact ⟨_,by rw [hE],by rw [hl];exact hF.ext E1,E1⟩
 · have hfb:flawedB d=true:=by unfold flawedB;simp [hf]
   have hE:msgE d i=2:=by unfold msgE;rw [if_pos hf]
   rw [hfb]
   simp (disch:=try exact DI) only [↓PR,QR,simprocAttr]
   exact ⟨_,by rw [hE],by unfold msgL;rw [hE];exact SliceOf.nil _ _ _,E1⟩
def offsetP (d:DefD) (i fld:Int):Int×Int:=if msgE d i≠0 then (0,msgE d i) else if fld < 0∨(msgL d i).length≤fld then (0,3) else (atO (msgL d i) fld,0)
theorem Offset_ret (v:Value) (d:DefD) (i fld:Int) (hd:DefVal w0 v d) (ht:calm d):Ret Pg 26 #[v,.int .i64 i,.int .i64 fld] w0 fun r w'=>r = .tuple #[.int .i64 (offsetP d i fld).1,.int .i64 (offsetP d i fld).2]∧Ext w0 w':=by
 obtain ⟨mv,rfl,hM⟩:=hd
 have hm1:=SliceOf.oneCell hM
 refine n8s (R:=retR _) ?_;unfold n8
 simp (disch:=try exact DI) only [↓PR,QR,simprocAttr]
 refine callK_ret (message_ret _ d i ⟨_,rfl,hM.ext ee⟩ ht) ?_
 rintro _ w1 ⟨fv,rfl,hF,e1⟩
 have E1:Ext w0 w1:=ee
 have hf1:=SliceOf.oneCell hF
 unfold n8c3 offsetP
 by_cases hE:msgE d i=0
 · rw [if_neg (by simp [hE]),hE]
   obtain ⟨A,c,rfl,hlc,hcm,hlm,hel⟩:=SliceOf.open hF
   unfold n8c2
   by_cases hi:fld < 0
   · rw [if_pos (.inl hi)]
     have d1:decide (fld < 0)=true:=decide_eq_true hi
     simp (disch:=try exact DI) only [↓PR,QR,simprocAttr,d1,↓n8c1,↓n8c2,↓n8c3]
     exact ⟨trivial,E1⟩
   · have d1:decide (fld < 0)=false:=decide_eq_false hi
     by_cases hj:((msgL d i).length:Int)≤fld
     · rw [if_pos (.inr hj)]
       have d2:decide (fld≥((msgL d i).length:Int))=true:=decide_eq_true hj
       simp (disch:=try exact DI) only [↓PR,QR,simprocAttr,d1,d2,↓n8c1,↓n8c2,↓n8c3]
       exact ⟨trivial,E1⟩
     · rw [if_neg (by omega)]
       have d2:decide (fld≥((msgL d i).length:Int))=false:=decide_eq_false hj
       simp (disch:=try exact DI) only [↓PR,QR,simprocAttr,d1,d2,↓n8c1,↓n8c2,↓n8c3]
       refine zcr (at_ret _ _ _ fld hF msgL_ok.1.1) fun w2 e2=>?_
       simp (disch:=try exact DI) only [↓PR,QR,simprocAttr]
       exact ⟨trivial,E1.trans e2⟩
 · rw [if_pos hE]
   have d0:(msgE d i != 0)=true:=by simpa using hE
   simp (disch:=try exact DI) only [↓PR,QR,simprocAttr,d0]
   exact ⟨trivial,E1⟩
theorem End_ret (v:Value) (d:DefD) (i:Int) (hd:DefVal w0 v d) (ht:calm d):Ret Pg 27 #[v,.int .i64 i] w0 fun r w'=>r = .tuple #[.int .i64 (endO (msgL d i)),.int .i64 (msgE d i)]∧Ext w0 w':=by
 obtain ⟨mv,rfl,hM⟩:=hd
 have hm1:=SliceOf.oneCell hM
 refine n5s (R:=retR _) ?_;unfold n5
 simp (disch:=try exact DI) only [↓PR,QR,simprocAttr]
 refine callK_ret (message_ret _ d i ⟨_,rfl,hM.ext ee⟩ ht) ?_
 rintro _ w1 ⟨fv,rfl,hF,e1⟩
 have E1:Ext w0 w1:=ee
 have hF':=hF
 obtain ⟨A,c,rfl,hlc,hcm,hlm,hel⟩:=SliceOf.open hF
 unfold n5c1
 simp (disch:=try exact DI) only [↓PR,QR,simprocAttr]
 refine zcr (at_ret _ _ _ _ hF' msgL_ok.1.1) fun w2 e2=>?_
 rw [atO_hit (j:=(msgL d i).length) (by omega) rfl,List.take_length]
 simp (disch:=try exact DI) only [↓PR,QR,simprocAttr]
 exact ⟨trivial,E1.trans e2⟩
def fixO (l:List FieldD):Int:=l.foldl (fun n f=>if f.kind=1∨f.kind=2 then n+f.bits else n) 0
theorem fixO_step {l:List FieldD} {k:Nat} {f:FieldD} (h:l[k]?=some f):fixO (l.take (k+1))=if f.kind=1∨f.kind=2 then fixO (l.take k)+f.bits else fixO (l.take k):=by
 rw [take_snoc h];unfold fixO;rw [List.foldl_append];rfl
theorem fixO_bounds {l:List FieldD} (h:∀ f∈l,okA f):0≤fixO l∧fixO l≤32*l.length:=by
 have key:∀ k,k≤l.length→0≤fixO (l.take k)∧fixO (l.take k)≤32*k:=by
  intro k
  induction k with
  | zero=>intro _;exact ⟨Int.le_refl _,Int.le_refl _⟩
  | succ k ih =>
   intro hk
   have ih:=ih (by omega)
   obtain ⟨x,hx⟩:=getElem?_lt (show k < l.length by omega)
   rw [fixO_step hx]
   split
   · rename_i hkd
     have:=(h x (List.mem_of_getElem? hx)).1 hkd
     omega
   · omega
 have:=key l.length (Nat.le_refl _)
 rwa [List.take_length] at this
theorem Fixed_ret (v:Value) (d:DefD) (i:Int) (hd:DefVal w0 v d) (ht:calm d):Ret Pg 28 #[v,.int .i64 i] w0 fun r w'=>r = .tuple #[.int .i64 (fixO (msgL d i)),.int .i64 (msgE d i)]∧Ext w0 w':=by
 obtain ⟨mv,rfl,hM⟩:=hd
 have hm1:=SliceOf.oneCell hM
 refine n6s (R:=retR _) ?_;unfold n6
 simp (disch:=try exact DI) only [↓PR,QR,simprocAttr]
 refine callK_ret (message_ret _ d i ⟨_,rfl,hM.ext ee⟩ ht) ?_
 rintro _ w1 ⟨fv,rfl,hF,e1⟩
 have E1:Ext w0 w1:=ee
 obtain ⟨hok,hlen⟩ := @msgL_ok d i
 generalize msgL d i=l at hF hok hlen ⊢
 have hF':=hF
 obtain ⟨A,c,rfl,hlc,hcm,hlm,hel⟩:=SliceOf.open hF
 unfold n6c4
 simp (disch:=try exact DI) only [↓PR,QR,simprocAttr]
 refine loop2_intro (fun n i w=>∃ k:Nat,n = .int .i64 (fixO (l.take k))∧i = .int .i64 k∧k≤l.length∧Ext w1 w) (fun _ i _=>l.length - (intOf i).toNat) ⟨0,rfl,rfl,by omega,Ext.refl _⟩ ?_
 rintro _ _ w ⟨k,rfl,rfl,hk,e⟩
 have hB:=fixO_bounds (l:=l.take k) fun f hf=>hok.1 f (List.mem_of_mem_take hf)
 have hlk:(l.take k).length≤40:=by rw [List.length_take];omega
 rcases drop_cases hk with ⟨x,hx,hd,hlt,hdec⟩ | ⟨hk,hd,hdec⟩
 · obtain ⟨b,o,cs,rfl,hl,hA,hE⟩:=hel k x hx
   obtain ⟨tv,cv,rfl,hT,hC,ht1,hc1⟩:=hE.op
   have hokx:=(hok.1 x (List.mem_of_getElem? hx)).1
   have hst:=fixO_step hx
   simp (disch:=try exact DI) only [↓PR,QR,simprocAttr,hdec]
   unfold n6c3
   try unfold X0
   try unfold L0
   rw [op_indexN Tryz.underlying42 ty38 _ _ _ _ _ k hlt,op_load ((hA.ext e).loads ty38 rfl)]
   simp (disch:=try exact DI) only [↓PR,QR,simprocAttr]
   have eW:Ext w (w.alloc (.cells (fieldCells x tv cv).toArray 38)):=ee
   have oW:=heap_new w (fieldCells x tv cv).toArray 38
   generalize (w.alloc (.cells (fieldCells x tv cv).toArray 38))=W at eW oW ⊢
   by_cases h1:x.kind=1
   · have d1:(x.kind == 1)=true:=by simp [h1]
     have:=hokx (.inl h1)
     rw [if_pos (.inl h1)] at hst
     simp (disch:=try exact DI) only [↓PR,QR,simprocAttr,(cells_of_heap oW).1,d1,wrap_ok,↓n6c1,↓n6c2,↓n6c3,↓n6c4]
     exact ⟨⟨k+1,by rw [hst],rfl,by omega,e.trans eW⟩,meas_lt hlt⟩
   · have d1:(x.kind == 1)=false:=by simp [h1]
     by_cases h2:x.kind=2
     · have d2:(x.kind == 2)=true:=by simp [h2]
       have:=hokx (.inr h2)
       rw [if_pos (.inr h2)] at hst
       simp (disch:=try exact DI) only [↓PR,QR,simprocAttr,(cells_of_heap oW).1,d1,d2,wrap_ok,↓n6c1,↓n6c2,↓n6c3,↓n6c4]
       exact ⟨⟨k+1,by rw [hst],rfl,by omega,e.trans eW⟩,meas_lt hlt⟩
     · have d2:(x.kind == 2)=false:=by simp [h2]
       rw [if_neg (by omega)] at hst
       simp (disch:=try exact DI) only [↓PR,QR,simprocAttr,(cells_of_heap oW).1,d1,d2,wrap_ok,↓n6c1,↓n6c2,↓n6c3,↓n6c4]
       exact ⟨⟨k+1,by rw [hst],rfl,by omega,e.trans eW⟩,meas_lt hlt⟩
 · subst hk
   simp (disch:=try exact DI) only [↓PR,QR,simprocAttr,hdec]
   rw [List.take_length]
   exact ⟨rfl,E1.trans e⟩
theorem Aligned_ret (v:Value) (d:DefD) (hd:DefVal w0 v d) (ht:calm d):Ret Pg 18 #[v] w0 fun r w'=>r = .bool (!flawedA d)∧Ext w0 w':=by
 obtain ⟨mv,rfl,hM⟩:=hd
 have hm1:=SliceOf.oneCell hM
 refine n3s (R:=retR _) ?_;unfold n3
 simp (disch:=try exact DI) only [↓PR,QR,simprocAttr]
 refine zcr (alCheck_ret _ _ d ⟨_,rfl,hM.ext ee⟩ ht) fun w1 e1=>?_
 unfold n3c1
 simp (disch:=try exact DI) only [↓PR,QR,simprocAttr]
 exact ⟨by first | trivial | rfl,ee⟩
def padOK (n p:Int):Prop:=(n=2∨n=4∨(8≤n∧n≤512∧n.tmod 8=0))∧0≤p∧p≤335544320
instance (n p:Int):Decidable (padOK n p):=by unfold padOK;infer_instance
def padP (n p:Int):Int×Int:=if padOK n p then (upI p n - p,0) else (0,2)
theorem Padding_ret (n p:Int):Ret Pg 24 #[.int .i64 n,.int .i64 p] w0 fun r w'=>r = .tuple #[.int .i64 (padP n p).1,.int .i64 (padP n p).2]∧Ext w0 w':=by
 refine n11s (R:=retR _) ?_;unfold n11
 have err:¬ padOK n p→Value.tuple #[.int .i64 0,.int .i64 2] = .tuple #[.int .i64 (padP n p).1,.int .i64 (padP n p).2]∧Ext w0 w0:=by
  intro h
  unfold padP
  rw [if_neg h]
  exact ⟨rfl,Ext.refl _⟩
 have fin:padOK n p→callK Pg 59 #[.int .i64 p,.int .i64 n] (panK (retR (fun r w'=>r = .tuple #[.int .i64 (padP n p).1,.int .i64 (padP n p).2]∧Ext w0 w'))) w0 fun t38 w=>opV Pg (binS .sub 3 false t38 (.int .i64 p)) (panK (retR (fun r w'=>r = .tuple #[.int .i64 (padP n p).1,.int .i64 (padP n p).2]∧Ext w0 w'))) w fun t40 w=>retR (fun r w'=>r = .tuple #[.int .i64 (padP n p).1,.int .i64 (padP n p).2]∧Ext w0 w') (.returned (.tuple #[t40,.int .i64 0])) w:=by
  intro h
  have h':=h
  obtain ⟨h1,h2,h3⟩:=h'
  obtain ⟨q,hq,he,hq1,hq2⟩:=upI_mul h2 (show 1≤n by omega)
  refine zcr (up_ret _ p n (by omega) (by omega) (by omega) (by omega)) fun w1 e1=>?_
  unfold padP
  rw [if_pos h]
  simp (disch:=try exact DI) only [↓PR,QR,simprocAttr,wrap_ok]
  exact ⟨by first | rfl | trivial,e1⟩
 cases h2:(n == 2)<;>cases h4:(n == 4)<;>cases h8:decide (n≥8)<;>cases h5:decide (n≤512)<;>cases hm:(n.tmod 8 == 0)<;>cases hp:decide (p < 0)<;>cases hq:decide (p > 335544320) <;>
  simp (disch:=try exact DI) only [↓PR,QR,simprocAttr,h2,h4,h8,h5,hm,hp,hq,↓n11c1,↓n11c2,↓n11c3,↓n11c4,↓n11c5,↓n11c6] <;>
  first
  | exact err (fun h=>by obtain ⟨a,b,c⟩:=h;simp only [beq_eq_false_iff_ne,beq_iff_eq,decide_eq_true_eq,decide_eq_false_iff_not,ne_eq] at h2 h4 h8 h5 hm hp hq;omega)
  | exact fin (by simp only [beq_eq_false_iff_ne,beq_iff_eq,decide_eq_true_eq,decide_eq_false_iff_not,ne_eq] at h2 h4 h8 h5 hm hp hq;exact ⟨by omega,by omega,by omega⟩)
end
end Go.Proofs.YtdfhjlggcdemhaaGreat
namespace Go.Proofs.YtdfhjlggcdemhaaGreat
open Sw
open Go.RowKit (intOf Below)
def ItAt (w0 w:World) (p:Nat) (l:List FieldD):Prop:=∃ fv css,w.heap[p]?=some (.cells #[fv] 42 (0,0))∧w0.heap.size≤p∧OwnE w w0.heap.size 38 15 Subtype.val fv css∧Mates 15 (EFieldW w0) css l
theorem ItAt.off {w0 w:World} {p:Nat} {l:List FieldD} (h:ItAt w0 w p l):∃ fv,OffAt p fv l w:=by
 obtain ⟨fv,css,h1,_,h3,h4⟩:=h
 exact ⟨fv,h1,h3.reads h4⟩
theorem ItAt.only {w0 w w':World} {p b:Nat} {l:List FieldD} (h:ItAt w0 w p l) (ho:Only b w w') (hb:b < w0.heap.size):ItAt w0 w' p l:=by
 obtain ⟨fv,css,h1,h2,h3,h4⟩:=h
 exact ⟨fv,css,(ho p (by omega)).trans h1,h2,(OwnR.only h3.range ho (.inr (.inl hb))).1,h4⟩
theorem ItAt.ext {w0 w w':World} {p:Nat} {l:List FieldD} (h:ItAt w0 w p l) (e:Ext w w'):ItAt w0 w' p l:=by
 obtain ⟨fv,css,h1,h2,h3,h4⟩:=h
 exact ⟨fv,css,e.obj h1,h2,h3.ext e,h4⟩
theorem Offsets_ret {w0:World} (v:Value) (d:DefD) (i:Int) (hd:DefVal w0 v d) (ht:calm d):Ret Pg 22 #[v,.int .i64 i] w0 fun r w'=>∃ p,r = .func (.func 57) #[] #[.pointer (some ⟨p,0,none⟩)]∧(∃ w1,Ext w0 w1∧ItAt w1 w' p (msgL d i)∧Ext w1 w')∧Ext w0 w':=by
 obtain ⟨mv,rfl,hM⟩:=hd
 have hm1:=SliceOf.oneCell hM
 refine n9s (R:=retR _) ?_;unfold n9
 simp (disch:=try exact DI) only [↓PR,QR,simprocAttr]
 refine callK_ret (message_ret _ d i ⟨_,rfl,hM.ext ee⟩ ht) ?_
 rintro _ w1 ⟨fv,rfl,hF,e1⟩
 have E1:Ext w0 w1:=ee
 have hf1:=SliceOf.oneCell hF
 unfold n9c1
 simp (disch:=try exact DI) only [↓PR,QR,simprocAttr]
 have eX:Ext w1 (w1.alloc (.cells #[fv] 42)):=ee
 have oX:=heap_new w1 #[fv] 42
 generalize (w1.alloc (.cells #[fv] 42))=X at eX oX ⊢
 obtain ⟨css,hraw,hmates⟩:=SliceOf.raw hF
 have hlen:=(@msgL_ok d i).2
 refine callK_ret (Clone_Field_ret X fv css (hraw.ext keptRaw eX) (fun x hx u hu=>by obtain ⟨y,_,hy⟩:=hmates.mem hx;exact EField.one hy u hu) (by rw [hmates.1];omega)) ?_
 rintro cv w2 ⟨hO,e2⟩
 have x2:=e2.obj oX
 have hc1:cv.oneCell'=true:=SliceOf.oneCell (hO.slice (E:=fun _ cs (x:Cs 15)=>cs=x.1) (fun x=>x.2) (fun _ _=>rfl))
 have sX:=(Array.getElem?_eq_some_iff.1 oX).1
 simp (disch:=try exact DI) only [↓PR,QR,simprocAttr,(cells_of_heap x2).1,(cells_of_heap x2).2]
 have o3:(w2.setCell ⟨w1.heap.size,0,none⟩ cv).heap[w1.heap.size]?=some (.cells #[cv] 42 (0,0)):=by simpa using heap_set (o:=0) x2 cv
 have e3:Ext w1 (w2.setCell ⟨w1.heap.size,0,none⟩ cv):=(eX.trans e2).setCell (Nat.le_refl _) _
 exact ⟨_,rfl,⟨w1,E1,⟨cv,css,o3,Nat.le_refl _,((hO.range.only (Only.setCell w2 w1.heap.size 0 cv) (.inr (.inl sX))).1).base (by omega),hmates.imp fun cs x hx=>EField.weak hx⟩,e3⟩,E1.trans e3⟩
theorem Offsets_seq (p5:Nat) (v:Value) (l:List FieldD) (hok:∀ f∈l,okA f) :
 SeqIt2 Pg 57 #[.pointer (some ⟨p5,0,none⟩)] l.length (fun k => .int .i64 k) (fun k => .int .i64 (endO (l.take k))) (OffAt p5 v l):=by
 intro yv J Jx Jp w hy hFP hJl hJx hJp hstep h0
 obtain ⟨ho,hF⟩:=hFP 0 w h0
 have hv1:=SliceOf.oneCell hF
 refine n10s (t0:=yv) (t1 := .pointer (some ⟨p5,0,none⟩)) ?_
 unfold n10
 simp (disch:=try exact DI) only [↓PR,QR,simprocAttr]
 simp only [cells_one hy]
 have eW:Ext w (w.alloc (.cells #[yv] 57)):=ee
 have oW:=heap_new w #[yv] 57
 generalize (w.alloc (.cells #[yv] 57))=W at eW oW ⊢
 simp (disch:=try exact DI) only [↓PR,QR,simprocAttr,(cells_of_heap (eW.obj ho)).1]
 refine callK_ret (offsets_ret _ _ l (hF.ext eW)) ?_
 rintro _ w1 ⟨pb,rfl,hO,hpb,hpb2,e1⟩
 have s0:=eW.size
 have s1:=e1.size
 have E1:=eW.trans e1
 obtain ⟨A,c,hvv,hlc,hcm,hlm,_⟩:=SliceOf.open hF
 unfold n10c2
 let I:Nat→World→Prop:=fun k w'=>k≤l.length∧J k w'∧w'.heap[pb]?=some (.cells #[v] 42 (0,0))∧w'.heap[w.heap.size]?=some (.cells #[yv] 57 (0,0))
 let Ix:Nat→World→Prop:=fun c w'=>c=0∧(J l.length w'∨Jx w')
 have hLI:∀ k,Lasts2 w1.heap.size (I k):=fun k=>(Lasts2.const _ _).and (((hJl k).mono E1.size).and ((Lasts2.has _ (by simp) (by simp)).and (Lasts2.has _ (by simp) (by simp))))
 have hLX:∀ c,Lasts2 w1.heap.size (Ix c):=fun c=>(Lasts2.const _ _).and fun w w' hl h=>h.imp (((hJl _).mono E1.size) w w' hl) ((hJx.mono E1.size) w w' hl)
 refine ⟨_,_,l.length+1,(fun k => .int .i64 k),(fun k => .int .i64 (endO (l.take k))),OffAt pb v l,I,Ix,Jp,rfl,c89,offsets_seq pb v l hok,⟨by omega,(hJl 0).ext h0 E1,hO.1,e1.obj oW⟩,fun k w h=>⟨h.2.2.1,(hFP k w h.2.1).2⟩,hLI,hLX,fun ch=>(hJp ch).mono E1.size,?_,?_,?_,?_⟩
 · intro Rk hRk j w3 hj hI3 hR3 hlt hready
   refine ⟨hready,fun w4 hbz=>?_⟩
   have hR4:=hRk _ _ (KR.busied hbz) hR3
   obtain ⟨hjl,hJ4,x4,y4⟩:=(hLI j).busied hbz (Nat.le_succ _) hI3
   obtain ⟨ho4,hF4⟩:=hFP j w4 hJ4
   unfold n10c1
   rw [hvv] at ho4
   by_cases h:j=l.length
   · have hd:((j:Int) == (l.length:Int))=true:=by simp [h]
     simp (disch:=try exact DI) only [↓PR,QR,simprocAttr,(cells_of_heap ho4).1,hd]
     exact ⟨hR4,rfl,.inl (h ▸ hJ4)⟩
   · have hd:((j:Int) == (l.length:Int))=false:=by simp;omega
     simp (disch:=try exact DI) only [↓PR,QR,simprocAttr,(cells_of_heap ho4).1,(cells_of_heap y4).1,hd]
     have hs:=hstep j (by omega) (fun u=>Rk u∧u.heap[pb]?=some (.cells #[v] 42 (0,0))∧u.heap[w.heap.size]?=some (.cells #[yv] 57 (0,0))) ((hRk.mono (by omega)).and ((Firm.has (by omega) (by simp)).and (Firm.has (Nat.le_refl _) (by simp)))) w4 hJ4 ⟨hR4,x4,y4⟩
     refine callV_mono hs (fun ch w h=>⟨h.1.1,h.2⟩) ?_
     · rintro b w5 ⟨⟨hR5,x5,y5⟩,⟨rfl,h5⟩ | ⟨rfl,h5⟩⟩
       · simp (disch:=try exact DI) only [↓PR,QR,simprocAttr,hd]
         exact ⟨hR5,by omega,h5,x5,y5⟩
       · simp (disch:=try exact DI) only [↓PR,QR,simprocAttr,hd]
         exact ⟨hR5,rfl,.inr h5⟩
 · rintro w3 ⟨h,_⟩ hmk
   exact absurd h (by omega)
 · rintro c w3 ⟨rfl,h⟩ hmk
   show outX _ _ _ _ _
   refine outX_mark hmk ?_
   simp (disch:=try exact DI) only [↓PR,QR,simprocAttr,outX_nil,retV,resOne]
   exact h.imp (fun h=>(hJl _).mark E1.size h hmk _) (fun h=>hJx.mark E1.size h hmk _)
 · rintro ch w3 h hmk
   refine outQ_mark hmk ?_
   rw [outQ_nil]
   exact (hJp ch).mark E1.size h hmk _
end Go.Proofs.YtdfhjlggcdemhaaGreat
namespace Go.Proofs.YtdfhjlggcdemhaaGreat
open Sw
open Go.RowKit (intOf Below)
abbrev ranCells (p:ByteArray×Int×Int):List Value:=[.string p.1,.int .i64 p.2.1,.int .i64 p.2.2]
def ERan (_:World) (cs:List Value) (p:ByteArray×Int×Int):Prop:=cs=ranCells p
theorem keptRan:Kept ERan:=fun _ _ _ _ _ h=>h
def RansOf (w:World) (v:Value) (l:List (ByteArray×Int×Int)):Prop:=SliceOf w 3 ERan v l
theorem RansOf.ext {w w':World} {v:Value} {l:List (ByteArray×Int×Int)} (h:RansOf w v l) (e:Ext w w'):RansOf w' v l:=SliceOf.ext keptRan h e
def LastAt (rp:List (ByteArray×Int×Int)) (s:ByteArray) (a:Int):Prop:=(a = -1∧lastR rp s=none)∨∃ (j:Nat) (q:Int×Int),a=j∧rp[j]?=some (s,q)∧lastR rp s=some q
theorem lastR_snoc (ps:List (ByteArray×Int×Int)) (p:ByteArray×Int×Int) (s:ByteArray):lastR (ps++[p]) s=if p.1=s then some p.2 else lastR ps s:=lastP_snoc ps p s
theorem LastAt.step {rp:List (ByteArray×Int×Int)} {s:ByteArray} {a:Int} {k:Nat} {p:ByteArray×Int×Int} (h:LastAt (rp.take k) s a) (hk:rp[k]?=some p):LastAt (rp.take (k+1)) s (if p.1=s then (k:Int) else a):=by
 have hlt:=(List.getElem?_eq_some_iff.1 hk).1
 by_cases he:p.1=s
 · rw [if_pos he]
   refine .inr ⟨k,p.2,rfl,?_,?_⟩
   · rw [List.getElem?_take,if_pos (by omega),hk,← he]
   · rw [take_snoc hk,lastR_snoc,if_pos he]
 · rw [if_neg he]
   rcases h with ⟨h1,h2⟩ | ⟨j,q,h1,h2,h3⟩
   · exact .inl ⟨h1,by rw [take_snoc hk,lastR_snoc,if_neg he];exact h2⟩
   · refine .inr ⟨j,q,h1,?_,by rw [take_snoc hk,lastR_snoc,if_neg he];exact h3⟩
     rw [List.getElem?_take] at h2 ⊢
     split at h2
     · rw [if_pos (by omega)];exact h2
     · cases h2
end Go.Proofs.YtdfhjlggcdemhaaGreat
namespace Go.Proofs.YtdfhjlggcdemhaaGreat
open Sw
open Go.RowKit (intOf Below)
theorem take_get {α:Type} {l:List α} {n k:Nat} {x:α} (h:(l.take n)[k]?=some x):l[k]?=some x:=by
 rw [List.getElem?_take] at h
 split at h
 · exact h
 · cases h
end Go.Proofs.YtdfhjlggcdemhaaGreat
namespace Go.Proofs.YtdfhjlggcdemhaaGreat
open Sw
open Go.RowKit (intOf Below)
theorem append_one {α:Type} {t T n m:Nat} {z:Value} {agg:Bool} {enc:α→List Value} {v:Value} {l:List α} {base b:Nat} {w:World} {QP:List PanicEntry→World→Prop} {k:Value→World→Prop} (ht:Pg.underlying t=some (.slice T)) (hT:TyInfo Pg T agg n m z) (hby:m≤4096) (hz:z.cells.size=n) (h0:0 < n) (hn:∀ x,(enc x).length=n) (x:α) (h1:∀ u∈enc x,u.oneCell'=true)
 (hown:OwnE w base T n enc v l) (hc:ElemAt w b 0 (enc x)) (hbase:base≤w.heap.size) (hl:l.length≤1048576)
 (hk:∀ v' w',OwnE w' base T n enc v' (l++[x])→(∀ a,Ext a w→a.heap.size≤base→Ext a w')→k v' w') :
 opV Pg (Builtin.append_ #[t,t] t #[v,.slice (some ⟨b,0,none⟩) 1 1]) QP w k:=by
 refine op_appendE (l':=[x]) ht hT hz h0 hn (fun y hy=>by simp at hy;subst hy;exact h1) hown (fun j y hy=>?_) hbase ?_ (by simp;omega) (fun v' w' ho hg=>hk v' w' ho fun a e ha=>e.grown hg fun k hk=>Nat.le_trans ha ((World.ownsRow.lt hown k hk).1))
 · cases j with
   | zero=>simp at hy;subst hy;simpa using hc
   | succ j=>simp at hy
 · simp only [List.length_cons,List.length_nil]
   exact Nat.le_trans (Nat.mul_le_mul (Nat.add_le_add_right hl 1) hby) (by decide)
end Go.Proofs.YtdfhjlggcdemhaaGreat
namespace Go.Sw
open Go.RowKit (Below)
theorem OwnE.grown {α:Type} {w w':World} {lo n:Nat} {T:TypeId} {enc:α→List Value} {v:Value} {l:List α} {row:Option Nat} (h:OwnE w lo T n enc v l) (hg:w.grownBy w' row) (hne:∀ b,v.ownBlock=some b→row≠some b):OwnE w' lo T n enc v l:=by
 obtain ⟨h1,h2⟩:=h
 refine ⟨h1,?_⟩
 rcases h2 with h2 | ⟨g,cap,cur,hv,hb,hc,h3⟩
 · exact .inl h2
 · refine .inr ⟨g,cap,cur,hv,hb,?_,h3⟩
   rw [hg.block g (Array.getElem?_eq_some_iff.1 hc).1 (fun e=>hne g (by rw [hv];rfl) e.symm)]
   exact hc
end Go.Sw
namespace Go.Proofs.YtdfhjlggcdemhaaGreat
open Sw
open Go.RowKit (intOf Below)
abbrev OwnS (w:World) (base:Nat) (v:Value) (l:List ByteArray):Prop:=OwnE w base 9 1 strEnc v l
def Apart (v u:Value):Prop:=∀ b,v.ownBlock=some b→u.ownBlock≠some b
theorem OwnS.lt {w:World} {base:Nat} {v:Value} {l:List ByteArray} (h:OwnS w base v l):∀ b,v.ownBlock=some b→b < w.heap.size:=fun b hb=>(World.ownsRow.lt h b hb).2
theorem Apart.after {v u v':Value} {n:Nat} (h:Apart v u) (hu:∀ b,u.ownBlock=some b→b < n) (hv:∀ b,v'.ownBlock=some b→v.ownBlock=some b∨b=n):Apart v' u:=fun b hb e=>by
 rcases hv b hb with h1 | h1
 · exact h b h1 e
 · have:=hu b e;omega
end Go.Proofs.YtdfhjlggcdemhaaGreat
namespace Go.Proofs.YtdfhjlggcdemhaaGreat
open Sw
open Go.RowKit (intOf Below)
def FineF (deps:List (ByteArray×Int)) (strs:List (ByteArray×Bool)) (l:List FieldD):Prop:=∀ (j:Nat) (f:FieldD),l[j]?=some f→examineC (l.take j) (vI deps) (vB strs) f=0
section
variable {deps:List (ByteArray×Int)} {strs:List (ByteArray×Bool)} {l:List FieldD}
theorem FineF.step {k:Nat} {f:FieldD} (h:FineF deps strs (l.take k)) (hk:l[k]?=some f) (hf:examineC (l.take k) (vI deps) (vB strs) f=0):FineF deps strs (l.take (k+1)):=by
 intro j g hg
 rw [List.getElem?_take] at hg
 split at hg
 · rename_i hj
   rw [List.take_take,Nat.min_eq_left (by omega)]
   by_cases hjk:j=k
   · subst hjk;rw [hk] at hg;injection hg with hg;subst hg;exact hf
   · have:=h j g (by rw [List.getElem?_take,if_pos (by omega)];exact hg)
     rwa [List.take_take,Nat.min_eq_left (by omega)] at this
 · cases hg
end
def DRow (w:World) (b:Nat) (L:List Int):Prop:=w.heap[b]?=some (.cells (L.map fun n=>Value.int .i64 n).toArray 3 (0,0))
theorem DRow.ext {w w':World} {b:Nat} {L:List Int} (h:DRow w b L) (e:Ext w w'):DRow w' b L:=e.obj h
theorem DRow.cell {w:World} {b:Nat} {L:List Int} (h:DRow w b L) {k:Nat} {n:Int} (hk:L[k]?=some n):w.cell? ⟨b,k*1,none⟩=some (.int .i64 n):=by
 rw [(cells_of_heap h).1];simp [hk]
theorem DRow.set {w:World} {b:Nat} {L:List Int} (h:DRow w b L) (k:Nat) (n:Int):DRow (w.setCell ⟨b,k*1,none⟩ (.int .i64 n)) b (L.set k n):=by
 rw [Nat.mul_one]
 have:=heap_set (o:=k) h (.int .i64 n)
 unfold DRow
 rw [this]
 congr 2
 rw [List.setIfInBounds_toArray,List.map_set]
end Go.Proofs.YtdfhjlggcdemhaaGreat
namespace Go.Proofs.YtdfhjlggcdemhaaGreat
open Sw
open Go.RowKit (intOf Below)
theorem Fine.step {l:List MsgD} {k:Nat} {m:MsgD} (h:Fine (l.take k)) (hm:l[k]?=some m) (h0:(nextP (depsOf (l.take k)) (strsOf (l.take k)) m).2=0):Fine (l.take (k+1)):=by
 rw [take_snoc hm]
 unfold Fine
 rw [(msgs_append [m] (l.take k) [] [] 0).1 h]
 show (msgsP (depsOf (l.take k)) (strsOf (l.take k)) _ [m]).2.2=0
 rw [msgs_cons0 h0]
 rfl
theorem field_split {deps:List (ByteArray×Int)} {strs:List (ByteArray×Bool)}:∀ (l:List FieldD) (bef:List FieldD) (k:Nat),(∀ (j:Nat) (f:FieldD),j < k→l[j]?=some f→examineC (bef++l.take j) (vI deps) (vB strs) f=0)→fieldsP deps strs (bef++l.take k) (l.drop k)=fieldsP deps strs bef l
 | [],bef,k,_=>by simp
 | f::l,bef,0,_=>by simp
 | f::l,bef,k+1,h=>by
  have h0:=h 0 f (by omega) rfl
  rw [List.take_zero,List.append_nil] at h0
  have ih:=field_split l (bef++[f]) k fun j g hj hg=>by
   have:=h (j+1) g (by omega) (by simpa using hg)
   rw [List.take_succ_cons] at this
   rw [List.append_assoc];exact this
  rw [List.take_succ_cons,List.drop_succ_cons,fieldsP,if_pos h0,← ih,List.append_assoc]
  rfl
theorem FineF.fields {deps:List (ByteArray×Int)} {strs:List (ByteArray×Bool)} {l:List FieldD} {k:Nat} (h:FineF deps strs (l.take k)):fieldsP deps strs (l.take k) (l.drop k)=fieldsP deps strs [] l:=by
 have:=field_split (deps:=deps) (strs:=strs) l [] k fun j f hj hf=>by
  have:=h j f (by rw [List.getElem?_take,if_pos hj];exact hf)
  rwa [List.take_take,Nat.min_eq_left (by omega)] at this
 simpa using this
end Go.Proofs.YtdfhjlggcdemhaaGreat
namespace Go.Proofs.YtdfhjlggcdemhaaGreat
open Sw
open Go.RowKit (intOf Below)
def offsL (l:List FieldD):List Int:=(List.range l.length).map fun k=>endO (l.take k)
theorem offsL_get {l:List FieldD} {k:Nat} (h:k < l.length):(offsL l)[k]?=some (endO (l.take k)):=by
 unfold offsL;rw [List.getElem?_map,List.getElem?_range h];rfl
theorem offsL_len (l:List FieldD):(offsL l).length=l.length:=by unfold offsL;simp
end Go.Proofs.YtdfhjlggcdemhaaGreat
namespace Go.Proofs.YtdfhjlggcdemhaaGreat
open Sw
def n30c1 (t6 t10 t11:Value) (Kr2:World→Prop) (Qr2:List PanicEntry→World→Prop) (Xr2:Nat→World→Prop) (R:RT) (w:World):Prop :=
 opV Pg (Instr.loadAt 3 t11) Qr2 w fun t43 w =>
 opV Pg (binS .add 3 true t43 (.int .i64 1)) Qr2 w fun t44 w =>
 opU Pg (Instr.storeAt 3 t11 t44) Qr2 w fun w =>
 opV Pg (Instr.loadAt 3 t10) Qr2 w fun t45 w =>
 opV Pg (binS .eql 3 true t45 (.int .i64 0)) Qr2 w fun t46 w =>
 joinK (fun (t50:Value) (w:World) =>
 pickK t46 t50 (.bool false) fun t51 =>
 condP t51 (
 Xr2 1 w) (
 Kr2 w)) fun K5 =>
 guardP t46 true (
 opV Pg (Instr.loadAt 3 t11) Qr2 w fun t48 w =>
 opV Pg (Instr.loadAt 3 t6) Qr2 w fun t49 w =>
 opV Pg (binS .geq 3 false t48 t49) Qr2 w fun t50 w =>
 K5 t50 w) (
 K5 undef w)
def n30c2 (t6 t7 t8 t10 t11 t25 t29 t33:Value) (Kr2:World→Prop) (Qr2:List PanicEntry→World→Prop) (Xr2:Nat→World→Prop) (R:RT) (w:World):Prop :=
 pickK t29 (.bool true) t33 fun t34 =>
 joinK (fun (t41:Value) (w:World) =>
 pickK t34 (.bool true) t41 fun t42 =>
 condP t42 (
 opU Pg (Instr.storeAt 4 t8 (.bool false)) Qr2 w fun w =>
 Xr2 0 w) (
 n30c1 t6 t10 t11 Kr2 Qr2 Xr2 R w)) fun K4 =>
 guardP t34 false (
 opV Pg (Instr.loadAt 48 t7) Qr2 w fun t37 w =>
 opV Pg (Instr.loadAt 3 t11) Qr2 w fun t38 w =>
 opV Pg (Instr.indexAt 48 t37 t38) Qr2 w fun t39 w =>
 opV Pg (Instr.loadAt 3 t39) Qr2 w fun t40 w =>
 opV Pg (binS .neq 3 false t25 t40) Qr2 w fun t41 w =>
 K4 t41 w) (
 K4 undef w)
def n30c3 (t6 t7 t8 t10 t11 t24 t25:Value) (Kr2:World→Prop) (Qr2:List PanicEntry→World→Prop) (Xr2:Nat→World→Prop) (R:RT) (w:World):Prop :=
 opV Pg (Instr.loadAt 3 t11) Qr2 w fun t26 w =>
 opV Pg (Instr.loadAt 48 t7) Qr2 w fun t27 w =>
 opV Pg (Builtin.len_ #[48] 3 #[t27]) Qr2 w fun t28 w =>
 opV Pg (binS .geq 3 false t26 t28) Qr2 w fun t29 w =>
 joinK (fun (t33:Value) (w:World) =>
 n30c2 t6 t7 t8 t10 t11 t25 t29 t33 Kr2 Qr2 Xr2 R w) fun K3 =>
 guardP t29 false (
 opV Pg (Instr.loadAt 3 t11) Qr2 w fun t32 w =>
 opV Pg (binS .neq 3 false t24 t32) Qr2 w fun t33 w =>
 K3 t33 w) (
 K3 undef w)
def n30c4 (t8 t10:Value) (next1:List Deferred→Value→World→Prop) (ds:List Deferred) (R:RT) (w:World):Prop :=
 opV Pg (Instr.loadAt 3 t10) (outQ Pg ds [(some 4,t8)] R) w fun t73 w =>
 opV Pg (Instr.alloc 3 true (.tuple #[])) (outQ Pg ds [(some 4,t8)] R) w fun t10 w =>
 opU Pg (Instr.storeAt 3 t10 t73) (outQ Pg ds [(some 4,t8)] R) w fun w =>
 opV Pg (Instr.loadAt 3 t10) (outQ Pg ds [(some 4,t8)] R) w fun t21 w =>
 opV Pg (binS .add 3 true t21 (.int .i64 1)) (outQ Pg ds [(some 4,t8)] R) w fun t22 w =>
 opU Pg (Instr.storeAt 3 t10 t22) (outQ Pg ds [(some 4,t8)] R) w fun w =>
 next1 ds t10 w
def n30c5 (t8 t10 t62 t71:Value) (next1:List Deferred→Value→World→Prop) (ds:List Deferred) (R:RT) (w:World):Prop :=
 pickK t62 (.bool true) t71 fun t72 =>
 condP t72 (
 opU Pg (Instr.storeAt 4 t8 (.bool false)) (outQ Pg ds [(some 4,t8)] R) w fun w =>
 outX Pg ds [(some 4,t8)] R w) (
 n30c4 t8 t10 next1 ds R w)
def n30c6 (t7 t8 t10 t11 t62 t66:Value) (next1:List Deferred→Value→World→Prop) (ds:List Deferred) (R:RT) (w:World):Prop :=
 joinK (fun (t70:Value) (w:World) =>
 joinK (fun (t71:Value) (w:World) =>
 n30c5 t8 t10 t62 t71 next1 ds R w) fun K9 =>
 guardP t62 false (
 pickK t66 t70 (.bool false) fun t71 =>
 K9 t71 w) (
 K9 undef w)) fun K8 =>
 guardP t66 true (
 opV Pg (Instr.loadAt 3 t11) (outQ Pg ds [(some 4,t8)] R) w fun t67 w =>
 opV Pg (Instr.loadAt 48 t7) (outQ Pg ds [(some 4,t8)] R) w fun t68 w =>
 opV Pg (Builtin.len_ #[48] 3 #[t68]) (outQ Pg ds [(some 4,t8)] R) w fun t69 w =>
 opV Pg (binS .neq 3 false t67 t69) (outQ Pg ds [(some 4,t8)] R) w fun t70 w =>
 K8 t70 w) (
 K8 undef w)
def n30c7 (t7 t8 t10 t11 t53 t61:Value) (next1:List Deferred→Value→World→Prop) (ds:List Deferred) (R:RT) (w:World):Prop :=
 pickK t53 t61 (.bool false) fun t62 =>
 joinK (fun (t66:Value) (w:World) =>
 n30c6 t7 t8 t10 t11 t62 t66 next1 ds R w) fun K7 =>
 guardP t62 false (
 opV Pg (Instr.loadAt 3 t10) (outQ Pg ds [(some 4,t8)] R) w fun t64 w =>
 opV Pg (binS .eql 3 true t64 (.int .i64 1)) (outQ Pg ds [(some 4,t8)] R) w fun t65 w =>
 K7 t65 w) (
 K7 undef w)
def n30c8 (t6 t7 t8 t11:Value) (K6:KV) (ds:List Deferred) (R:RT) (w:World):Prop :=
 opV Pg (Instr.loadAt 3 t11) (outQ Pg ds [(some 4,t8)] R) w fun t55 w =>
 opV Pg (Instr.loadAt 48 t7) (outQ Pg ds [(some 4,t8)] R) w fun t56 w =>
 opV Pg (Builtin.len_ #[48] 3 #[t56]) (outQ Pg ds [(some 4,t8)] R) w fun t57 w =>
 opV Pg (Instr.loadAt 3 t6) (outQ Pg ds [(some 4,t8)] R) w fun t58 w =>
 opV Pg (Builtin.max_ #[3,3] 3 #[(.int .i64 1),t58]) (outQ Pg ds [(some 4,t8)] R) w fun t59 w =>
 opV Pg (Builtin.min_ #[3,3] 3 #[t57,t59]) (outQ Pg ds [(some 4,t8)] R) w fun t60 w =>
 opV Pg (binS .neq 3 false t55 t60) (outQ Pg ds [(some 4,t8)] R) w fun t61 w =>
 K6 t61 w
def n30c9 (t6 t7 t8 t10 t11:Value) (next1:List Deferred→Value→World→Prop) (ds:List Deferred) (R:RT) (w:World):Prop :=
 opV Pg (Instr.loadAt 3 t10) (outQ Pg ds [(some 4,t8)] R) w fun t52 w =>
 opV Pg (binS .eql 3 true t52 (.int .i64 0)) (outQ Pg ds [(some 4,t8)] R) w fun t53 w =>
 joinK (fun (t61:Value) (w:World) =>
 n30c7 t7 t8 t10 t11 t53 t61 next1 ds R w) fun K6 =>
 guardP t53 true (
 n30c8 t6 t7 t8 t11 K6 ds R w) (
 K6 undef w)
def n30c10 (t8 t10:Value) (next1:List Deferred→Value→World→Prop) (ds:List Deferred) (R:RT) (w:World):Prop :=
 opV Pg (Instr.loadAt 3 t10) (outQ Pg ds [(some 4,t8)] R) w fun t73 w =>
 opV Pg (Instr.alloc 3 true (.tuple #[])) (outQ Pg ds [(some 4,t8)] R) w fun t10 w =>
 opU Pg (Instr.storeAt 3 t10 t73) (outQ Pg ds [(some 4,t8)] R) w fun w =>
 opV Pg (Instr.loadAt 3 t10) (outQ Pg ds [(some 4,t8)] R) w fun t21 w =>
 opV Pg (binS .add 3 true t21 (.int .i64 1)) (outQ Pg ds [(some 4,t8)] R) w fun t22 w =>
 opU Pg (Instr.storeAt 3 t10 t22) (outQ Pg ds [(some 4,t8)] R) w fun w =>
 next1 ds t10 w
def n30c11 (t8 t10 t62 t71:Value) (next1:List Deferred→Value→World→Prop) (ds:List Deferred) (R:RT) (w:World):Prop :=
 pickK t62 (.bool true) t71 fun t72 =>
 condP t72 (
 opU Pg (Instr.storeAt 4 t8 (.bool false)) (outQ Pg ds [(some 4,t8)] R) w fun w =>
 outX Pg ds [(some 4,t8)] R w) (
 n30c10 t8 t10 next1 ds R w)
def n30c12 (t8 t10 t62 t66 t70:Value) (next1:List Deferred→Value→World→Prop) (ds:List Deferred) (R:RT) (w:World):Prop :=
 joinK (fun (t71:Value) (w:World) =>
 n30c11 t8 t10 t62 t71 next1 ds R w) fun K13 =>
 guardP t62 false (
 pickK t66 t70 (.bool false) fun t71 =>
 K13 t71 w) (
 K13 undef w)
def n30c13 (t7 t8 t10 t11 t62 t66:Value) (next1:List Deferred→Value→World→Prop) (ds:List Deferred) (R:RT) (w:World):Prop :=
 joinK (fun (t70:Value) (w:World) =>
 n30c12 t8 t10 t62 t66 t70 next1 ds R w) fun K12 =>
 guardP t66 true (
 opV Pg (Instr.loadAt 3 t11) (outQ Pg ds [(some 4,t8)] R) w fun t67 w =>
 opV Pg (Instr.loadAt 48 t7) (outQ Pg ds [(some 4,t8)] R) w fun t68 w =>
 opV Pg (Builtin.len_ #[48] 3 #[t68]) (outQ Pg ds [(some 4,t8)] R) w fun t69 w =>
 opV Pg (binS .neq 3 false t67 t69) (outQ Pg ds [(some 4,t8)] R) w fun t70 w =>
 K12 t70 w) (
 K12 undef w)
def n30c14 (t7 t8 t10 t11 t53 t61:Value) (next1:List Deferred→Value→World→Prop) (ds:List Deferred) (R:RT) (w:World):Prop :=
 pickK t53 t61 (.bool false) fun t62 =>
 joinK (fun (t66:Value) (w:World) =>
 n30c13 t7 t8 t10 t11 t62 t66 next1 ds R w) fun K11 =>
 guardP t62 false (
 opV Pg (Instr.loadAt 3 t10) (outQ Pg ds [(some 4,t8)] R) w fun t64 w =>
 opV Pg (binS .eql 3 true t64 (.int .i64 1)) (outQ Pg ds [(some 4,t8)] R) w fun t65 w =>
 K11 t65 w) (
 K11 undef w)
def n30c15 (t6 t7 t8 t11:Value) (K10:KV) (ds:List Deferred) (R:RT) (w:World):Prop :=
 opV Pg (Instr.loadAt 3 t11) (outQ Pg ds [(some 4,t8)] R) w fun t55 w =>
 opV Pg (Instr.loadAt 48 t7) (outQ Pg ds [(some 4,t8)] R) w fun t56 w =>
 opV Pg (Builtin.len_ #[48] 3 #[t56]) (outQ Pg ds [(some 4,t8)] R) w fun t57 w =>
 opV Pg (Instr.loadAt 3 t6) (outQ Pg ds [(some 4,t8)] R) w fun t58 w =>
 opV Pg (Builtin.max_ #[3,3] 3 #[(.int .i64 1),t58]) (outQ Pg ds [(some 4,t8)] R) w fun t59 w =>
 opV Pg (Builtin.min_ #[3,3] 3 #[t57,t59]) (outQ Pg ds [(some 4,t8)] R) w fun t60 w =>
 opV Pg (binS .neq 3 false t55 t60) (outQ Pg ds [(some 4,t8)] R) w fun t61 w =>
 K10 t61 w
def n30c16 (t6 t7 t8 t10 t11:Value) (next1:List Deferred→Value→World→Prop) (ds:List Deferred) (R:RT) (w:World):Prop :=
 opV Pg (Instr.loadAt 3 t10) (outQ Pg ds [(some 4,t8)] R) w fun t52 w =>
 opV Pg (binS .eql 3 true t52 (.int .i64 0)) (outQ Pg ds [(some 4,t8)] R) w fun t53 w =>
 joinK (fun (t61:Value) (w:World) =>
 n30c14 t7 t8 t10 t11 t53 t61 next1 ds R w) fun K10 =>
 guardP t53 true (
 n30c15 t6 t7 t8 t11 K10 ds R w) (
 K10 undef w)
def n30c17 (t6 t7 t8 t10 t16:Value) (next1:List Deferred→Value→World→Prop) (ds:List Deferred) (R:RT) (w:World):Prop :=
 opV Pg (Instr.alloc 3 true (.tuple #[])) (outQ Pg ds [(some 4,t8)] R) w fun t11 w =>
 opU Pg (Instr.storeAt 3 t11 (.int .i64 0)) (outQ Pg ds [(some 4,t8)] R) w fun w =>
 rangeN2 Pg t16 ds (fun l2 t24 t25 w Kr2 Xr2 Qr2 =>
 busyK l2 w fun w =>
 n30c3 t6 t7 t8 t10 t11 t24 t25 Kr2 Qr2 Xr2 R w) (fun ch ds w=>outQ Pg ds [(some 4,t8)] R ch w) w (fun ds w =>
 n30c9 t6 t7 t8 t10 t11 next1 ds R w) [fun ds w =>
 outX Pg ds [(some 4,t8)] R w,fun ds w =>
 n30c16 t6 t7 t8 t10 t11 next1 ds R w]
def n30c18 (t6 t7 t8 t10 t16:Value) (next1:List Deferred→Value→World→Prop) (ds:List Deferred) (R:RT) (w:World):Prop :=
 opV Pg (Instr.loadAt 3 t10) (outQ Pg ds [(some 4,t8)] R) w fun t19 w =>
 opV Pg (binS .lss 3 true t19 (.int .i64 2)) (outQ Pg ds [(some 4,t8)] R) w fun t20 w =>
 condP t20 (
 n30c17 t6 t7 t8 t10 t16 next1 ds R w) (
 opU Pg (Instr.storeAt 4 t8 (.bool true)) (outQ Pg ds [(some 4,t8)] R) w fun w =>
 outX Pg ds [(some 4,t8)] R w)
def n30c19 (t6 t7 t8 t16:Value) (ds:List Deferred) (R:RT) (w:World):Prop :=
 opV Pg (Instr.alloc 3 true (.tuple #[])) (outQ Pg ds [(some 4,t8)] R) w fun t10 w =>
 opU Pg (Instr.storeAt 3 t10 (.int .i64 0)) (outQ Pg ds [(some 4,t8)] R) w fun w =>
 loopM1 (fun ds t10 w next1 =>
 n30c18 t6 t7 t8 t10 t16 next1 ds R w) ds t10 w
def n30c20 (t6 t7 t8 t16:Value) (ds:List Deferred) (R:RT) (w:World):Prop :=
 opV Pg (binS .eql 46 true t16 .nilFunc) (outQ Pg ds [(some 4,t8)] R) w fun t18 w =>
 condP t18 (
 opU Pg (Instr.storeAt 4 t8 (.bool false)) (outQ Pg ds [(some 4,t8)] R) w fun w =>
 outX Pg ds [(some 4,t8)] R w) (
 n30c19 t6 t7 t8 t16 ds R w)
def n30 (t0 t1 t2 t3:Value) (R:RT) (w:World):Prop :=
 (fun (ds:List Deferred) =>
 opV Pg (Instr.box 24 t0) (outQ Pg ds [(some 4,undef)] R) w fun t4 w =>
 opV Pg (Instr.box 3 t2) (outQ Pg ds [(some 4,undef)] R) w fun t6 w =>
 opV Pg (Instr.box 48 t3) (outQ Pg ds [(some 4,undef)] R) w fun t7 w =>
 opV Pg (Instr.alloc 4 true (.tuple #[])) (outQ Pg ds [(some 4,undef)] R) w fun t8 w =>
 opV Pg (Instr.loadAt 24 t4) (outQ Pg ds [(some 4,t8)] R) w fun t14 w =>
 callK Pg 22 #[t14,t1] (outQ Pg ds [(some 4,t8)] R) w fun t16 w =>
 n30c20 t6 t7 t8 t16 ds R w) []
set_option maxHeartbeats 40000000 in
theorem n30s {t0 t1 t2 t3:Value} {R:RT} {w:World} (h:n30 t0 t1 t2 t3 R w):Calls Pg 29 #[t0,t1,t2,t3] w R:=by
 refine yE Tryz.func29 ?_
 unfold n30 at h
 dsimp only at h
 refine zs<|zr<|yv h fun _ w h=>yv h fun _ w h=>yv h fun _ w h=>yv h fun _ w h=>zn<|zk<|zs<|zr<|yv h fun _ w h=>zm<|yc h c22 fun _ w h=>zm<|zn ?_
 refine zk<|zs<|zs<|zr<|zm<|yb h fun _ w h=>zn<|zk<|yC h (fun h=>zs<|zr<|yu h fun w h=>zn<|zk<|sim_ret<|sim_then_ret<|bodyM_ret rfl h) fun h=>sim_skip<|zk<|zs<|zs<|zr ?_
 refine yv h fun _ w h=>yu h fun w h=>zn<|zk<|sim_block<|yL1 [10,11,19,20,21,22,23,52,53,54,55,56,57,58,59,60,61,62,63,64,65,66,67,68,69,70,71,72,73] 10 h fun σ ds w next h=>zs<|zs<|zr<|yv h fun _ w h=>yb h fun _ w h=>zn<|zk<|yC h (fun h=>?_) fun h=>?_
 · refine sim_skip<|zk<|zs<|sim_block<|zs<|zr<|yv h fun _ w h=>yu h fun w h=>zn<|zk<|zs<|zs<|zr<|zm<|zn ?_
   refine zk<|sim_block<|sim_range2 [.ret,.exit 2] h rfl (fun l2 t24 t25 w Kr2 Xr2 Qr2 h=>?_) (fun ds w h=>?_) (fun c ds w h=>?_) (fun ch ds w h=>outQ_of rfl h)
   · refine zs<|zr<|zm<|zn<|zk<|zr<|zm<|zn<|zk ?_
     obtain ⟨hr,h⟩:=h
     refine ⟨rfl,hr,fun w hb=>?_⟩
     have h:=h w hb
     refine sim_block<|zs<|zs<|sim_regionG<|yG 5<|yv h fun _ w h=>yv h fun _ w h=>yx h fun _ w h=>yb h fun _ w h=>zm<|zn<|yg1 3 4 false [31,32,33] 33 h (fun _ T hT h=>?_) fun σ w h=>?_
     · refine zm<|yv h fun _ w h=>yb h fun _ w h=>zn ?_
       exact zt hT h
     refine yG 2<|yp h fun _ h=>zm<|zn<|yg1 6 9 false [36,37,38,39,40,41] 41 h (fun _ T hT h=>?_) fun σ w h=>?_
     · refine zm<|yv h fun _ w h=>yv h fun _ w h=>yv h fun _ w h=>yv h fun _ w h=>yb h fun _ w h=>zn ?_
       exact zt hT h
     refine yG 1<|yp h fun _ h=>zn<|sim_end<|zk<|yC h (fun h=>zs<|zr<|yu h fun w h=>zn<|zk<|sim_ret<|sim_then_ret<|sim_block_ret<|⟨rfl,0,rfl,h⟩) fun h=>sim_skip<|zk<|zs<|zr<|yv h fun _ w h=>yb h fun _ w h=>yu h fun w h=>zn ?_
     refine zk<|zs<|sim_regionG<|yG 3<|yv h fun _ w h=>yb h fun _ w h=>zm<|zn<|yg1 3 2 true [48,49,50] 50 h (fun _ T hT h=>?_) fun σ w h=>?_
     · refine yv h fun _ w h=>yv h fun _ w h=>yb h fun _ w h=>zn ?_
       exact zt hT h
     exact yG 1<|yp h fun _ h=>zn<|sim_end<|zk<|yC h (fun h=>sim_exit<|sim_block_miss rfl<|⟨rfl,1,rfl,h⟩) fun h=>sim_skip<|sim_block_normal<|⟨rfl,h⟩
   · refine sim_block_normal<|zk<|zs<|sim_regionG<|yG 3<|yv h fun _ w h=>yb h fun _ w h=>zm<|zn<|yg1 7 2 true [55,56,57,58,59,60,61] 61 h (fun _ T hT h=>?_) fun σ w h=>?_
     · refine yv h fun _ w h=>yv h fun _ w h=>yx h fun _ w h=>yv h fun _ w h=>yx h fun _ w h=>yx h fun _ w h=>yb h fun _ w h=>zn ?_
       exact zt hT h
     refine yG 2<|yp h fun _ h=>zm<|zn<|yg1 3 11 false [64,65,66] 66 h (fun _ T hT h=>?_) fun σ w h=>?_
     · refine yv h fun _ w h=>yb h fun _ w h=>zm<|zn ?_
       exact zt hT h
     refine yg1 4 14 true [67,68,69,70] 70 h (fun _ T hT h=>?_) fun σ w h=>?_
     · refine yv h fun _ w h=>yv h fun _ w h=>yx h fun _ w h=>yb h fun _ w h=>zn ?_
       exact zt hT h
     refine yg1 1 11 false [71] 71 h (fun _ T hT h=>?_) fun σ w h=>?_
     · refine yp h fun _ h=>zn ?_
       exact zt hT h
     refine yG 1<|yp h fun _ h=>zn<|sim_end<|zk<|yC h (fun h=>zs<|zr<|yu h fun w h=>zn<|zk<|sim_ret<|sim_block_ret<|sim_then_ret<|sim_then_ret<|sim_block_ret<|sim_then_ret<|bodyM_ret rfl h) fun h=>sim_skip<|sim_block_normal<|zk<|zs<|zs<|zr<|yv h fun _ w h=>zn ?_
     exact zk<|zr<|yv h fun _ w h=>yu h fun w h=>zn<|zk<|zr<|yv h fun _ w h=>yb h fun _ w h=>yu h fun w h=>zn<|zk<|h
   rcases c with _ | c
   · refine ⟨_,rfl,.inl ⟨rfl,?_⟩⟩
     exact sim_block_ret<|sim_then_ret<|sim_block_ret<|sim_then_ret<|sim_then_ret<|sim_block_ret<|sim_then_ret<|bodyM_ret rfl h
   rcases c with _ | c
   · refine ⟨_,rfl,.inr ⟨_,rfl,?_⟩⟩
     refine sim_block_hit<|zk<|zs<|sim_regionG<|yG 3<|yv h fun _ w h=>yb h fun _ w h=>zm<|zn<|yg1 7 2 true [55,56,57,58,59,60,61] 61 h (fun _ T hT h=>?_) fun σ w h=>?_
     · refine yv h fun _ w h=>yv h fun _ w h=>yx h fun _ w h=>yv h fun _ w h=>yx h fun _ w h=>yx h fun _ w h=>yb h fun _ w h=>zn ?_
       exact zt hT h
     refine yG 2<|yp h fun _ h=>zm<|zn<|yg1 3 11 false [64,65,66] 66 h (fun _ T hT h=>?_) fun σ w h=>?_
     · refine yv h fun _ w h=>yb h fun _ w h=>zm<|zn ?_
       exact zt hT h
     refine yg1 4 14 true [67,68,69,70] 70 h (fun _ T hT h=>?_) fun σ w h=>?_
     · refine yv h fun _ w h=>yv h fun _ w h=>yx h fun _ w h=>yb h fun _ w h=>zn ?_
       exact zt hT h
     refine yg1 1 11 false [71] 71 h (fun _ T hT h=>?_) fun σ w h=>?_
     · refine yp h fun _ h=>zn ?_
       exact zt hT h
     refine yG 1<|yp h fun _ h=>zn<|sim_end<|zk<|yC h (fun h=>zs<|zr<|yu h fun w h=>zn<|zk<|sim_ret<|sim_block_ret<|sim_then_ret<|sim_then_ret<|sim_block_ret<|sim_then_ret<|bodyM_ret rfl h) fun h=>sim_skip<|sim_block_normal<|zk<|zs<|zs<|zr<|yv h fun _ w h=>zn ?_
     exact zk<|zr<|yv h fun _ w h=>yu h fun w h=>zn<|zk<|zr<|yv h fun _ w h=>yb h fun _ w h=>yu h fun w h=>zn<|zk<|h
   exact h.elim
 exact sim_exit<|sim_then_exit<|sim_then_exit<|sim_block_hit<|zk<|zs<|zr<|yu h fun w h=>zn<|zk<|sim_ret<|bodyM_ret rfl h
end Go.Proofs.YtdfhjlggcdemhaaGreat
namespace Go.Proofs.YtdfhjlggcdemhaaGreat
open Sw
open Go.RowKit (intOf Below)
def zeroF:FieldD:={ name:=ByteArray.empty,kind:=0,bits:=0,little:=false,loose:=false,low:=0,high:=0,base:=0,terms:=[],of:=ByteArray.empty,tag:=ByteArray.empty,fr:=ByteArray.empty,cases:=[],check:=0,key:=0 }
def gF:List FieldD:=[{ zeroF with name:=⟨#[97]⟩,kind:=1,bits:=3,high:=7 },{ zeroF with name:=⟨#[112]⟩,kind:=10,bits:=4 },{ zeroF with name:=⟨#[98]⟩,kind:=2,bits:=4 },{ zeroF with name:=⟨#[99]⟩,kind:=4 }]
def gD (l:List FieldD):DefD:=⟨⟨#[100]⟩,[⟨⟨#[109]⟩,l⟩],⟨#[109]⟩⟩
abbrev gVal (bm:Nat):Value := .agg #[.string ⟨#[100]⟩,.slice (some ⟨bm,0,none⟩) 1 1,.string ⟨#[109]⟩]
abbrev encP (f:FieldD):List Value:=fieldCells f (.slice none 0 0) (.slice none 0 0)
theorem own_fields {w:World} {base:Nat} {v:Value} {l:List FieldD} (h:OwnE w base 38 15 encP v l) (hl:∀ f∈l,f.terms=[]∧f.cases=[]):FieldsOf w v l:=h.slice (fun _=>rfl) fun f hf=>⟨_,_,rfl,by rw [(hl f hf).1];exact SliceOf.nil _ _ _,by rw [(hl f hf).2];exact SliceOf.nil _ _ _⟩
theorem one_def {w:World} {bm:Nat} {v:Value} {l:List FieldD} (h:w.heap[bm]?=some (.cells #[.string ⟨#[109]⟩,v] 44 (0,0))) (hF:FieldsOf w v l):DefVal w (gVal bm) (gD l):=by
 refine ⟨_,rfl,_,1,rfl,Nat.le_refl 1,by decide,fun _=>⟨bm,0,rfl,fun k x hx=>?_⟩⟩
 cases k with
 | succ k=>simp [gD] at hx
 | zero =>
  simp [gD] at hx;subst hx
  exact ⟨[.string ⟨#[109]⟩,v],rfl,fun j u hu=>by rw [(cells_of_heap h).1];simpa using hu,v,rfl,hF⟩
theorem gF_plain:∀ f∈gF,f.terms=[]∧f.cases=[]:=by decide
theorem given_ret (w0:World):Ret Pg 46 #[] w0 fun r w'=>∃ bf bm,r=gVal bm∧w0.heap.size≤bf∧bf < bm∧bm < w'.heap.size∧OwnE w' w0.heap.size 38 15 encP (.slice (some ⟨bf,0,none⟩) 4 4) gF∧w'.heap[bm]?=some (.cells #[.string ⟨#[109]⟩,.slice (some ⟨bf,0,none⟩) 4 4] 44 (0,0))∧Ext w0 w':=by
 refine n26s (R:=retR _) ?_;unfold n26
 simp (disch:=try exact DI) only [↓PR,QR,simprocAttr]
 refine ⟨w0.heap.size+1,w0.heap.size+1+1,rfl,by omega,by omega,by omega,⟨rfl,.inr ⟨_,4,(gF.flatMap encP).toArray,rfl,by omega,?_,Nat.le_refl _,by decide,rfl,rfl⟩⟩,?_,ee⟩
 · simp (disch:=try exact DI) only [↓PR,QR,simprocAttr]
   rfl
 · simp (disch:=try exact DI) only [↓PR,QR,simprocAttr]
theorem idxG {w:World} {QP:List PanicEntry→World→Prop} {k:Value→World→Prop} (b:Nat):opV Pg (Instr.indexAt 22 (.slice (some ⟨b,0,none⟩) 1 1) (.int .i64 0)) QP w k=k (.pointer (some ⟨b,0,none⟩)) w:=op_indexN Tryz.underlying22 ty44 b 0 1 1 .i64 0 (by decide)
theorem qidxG {C:World→Prop} [ClassNe C] {k:Value→Prop} (b:Nat):qV Pg C (Instr.indexAt 22 (.slice (some ⟨b,0,none⟩) 1 1) (.int .i64 0)) k=k (.pointer (some ⟨b,0,none⟩)):=qV_of fun _ _ _=>idxG b
def gL (k:Nat):List FieldD:=gF.take k++gF.drop (k+1)
theorem calm_g {l:List FieldD} (h:∀ f∈l,f.terms=[]∧f.cases=[]) (hr:(allRefs l).length≤1048576):calm (gD l):=by
 intro m hm
 simp only [gD,List.mem_singleton] at hm
 subst hm
 exact ⟨hr,fun f hf=>by rw [(h f hf).1];decide⟩
theorem al_g:alignP (gD gF)=(0,0,0):=by decide +kernel
theorem al_1:alignP (gD (gL 1))=(0,2,12):=by decide +kernel
theorem al_2:alignP (gD (gL 2))=(0,2,12):=by decide +kernel
theorem of_g:offsL gF=[0,3,4,0]:=by decide +kernel
theorem en_g:endO gF=0:=by decide +kernel
theorem fx_g:fixO gF=7:=by decide +kernel
theorem op_sliceFrom {P:Program} {QP:List PanicEntry→World→Prop} {w:World} {k:Value→World→Prop} {t e:TypeId} {agg:Bool} {n m:Nat} {z:Value} (hu:P.underlying t=some (.slice e)) (ht:TyInfo P e agg n m z) (b o len cap:Nat) (kd:IntKind) (l:Nat) (hl:l≤len) (hc:l < cap) :
 opV P (Instr.sliceAt t (.slice (some ⟨b,o,none⟩) len cap) (some (.int kd (l:Int))) none none) QP w k=k (.slice (some ⟨b,o+l*n,none⟩) (len - l) (cap - l)) w:=by
 refine opV_ok ?_
 have h3:(l:Int)≤(len:Int):=by omega
 have h4:(0:Int)≤(l:Int):=by omega
 have h5:¬ cap=l:=by omega
 simp [Instr.sliceAt,run_underlying hu,Instr.slice,Instr.sliceBounds,run_sliceBound,h3,h4,h5,Sw.run_sizeOf ht,Addr.add_lit]
theorem encP_one (f:FieldD):∀ u∈encP f,u.oneCell'=true:=by
 intro u hu
 simp only [encP,fieldCells,List.mem_cons,List.not_mem_nil,or_false] at hu
 rcases hu with h | h | h | h | h | h | h | h | h | h | h | h | h | h | h<;>subst h<;>rfl
theorem less_ret (w0:World) (k:Nat) (hk:k=1∨k=2):Ret Pg 47 #[.int .i64 (k:Int)] w0 fun r w'=>DefVal w' r (gD (gL k))∧Ext w0 w':=by
 refine n28s (R:=retR _) ?_;unfold n28
 simp (disch:=try exact DI) only [↓PR,QR,Int.reduceBEq,Int.reduceBNe,Int.reduceLT,Int.reduceLE,Int.reduceGT,Int.reduceGE,Int.reduceNeg]
 generalize hW:World.alloc w0 _=W
 have e0:Ext w0 W:=by rw [← hW];exact ee
 have o2:W.heap[w0.heap.size]?=some (.cells #[.string ByteArray.empty,.slice none 0 0,.string ByteArray.empty] 24 (0,0)):=by rw [← hW];simp (disch:=try exact DI) only [↓PR,QR,Int.reduceBEq,Int.reduceBNe,Int.reduceLT,Int.reduceLE,Int.reduceGT,Int.reduceGE,Int.reduceNeg]
 clear hW
 refine callK_ret (given_ret _) ?_
 rintro _ w1 ⟨bf,bm,rfl,hbf,hbm,hbs,hO,hm,e1⟩
 have E1:=e0.trans e1
 unfold n28c4
 simp (disch:=try exact DI) only [↓PR,QR,Int.reduceBEq,Int.reduceBNe,Int.reduceLT,Int.reduceLE,Int.reduceGT,Int.reduceGE,Int.reduceNeg,(cells_of_heap hm).1,↓idxG]
 have eX:Ext w1 (w1.alloc (.cells #[.string ⟨#[100]⟩,.slice (some ⟨bm,0,none⟩) 1 1,.string ⟨#[109]⟩] 24)):=ee
 have oX:=heap_new w1 #[.string ⟨#[100]⟩,.slice (some ⟨bm,0,none⟩) 1 1,.string ⟨#[109]⟩] 24
 generalize (w1.alloc (.cells #[.string ⟨#[100]⟩,.slice (some ⟨bm,0,none⟩) 1 1,.string ⟨#[109]⟩] 24))=X at eX oX ⊢
 have E2:=E1.trans eX
 refine drawK_intro ?_
 have eD:Ext X X.drew:=(Ext.refl _).wdrew
 unfold n28c3
 simp (disch:=try exact DI) only [↓PR,QR,Int.reduceBEq,Int.reduceBNe,Int.reduceLT,Int.reduceLE,Int.reduceGT,Int.reduceGE,Int.reduceNeg,(cells_of_heap oX).1]
 rw [qV_of fun QP w' K=>op_sliceTo (QP:=QP) (w:=w') (k:=K) Tryz.underlying42 ty38 bf 0 4 4 .i64 k (by omega)]
 simp (disch:=try exact DI) only [↓PR,QR,Int.reduceBEq,Int.reduceBNe,Int.reduceLT,Int.reduceLE,Int.reduceGT,Int.reduceGE,Int.reduceNeg]
 rw [qV_of fun QP w' K=>op_sliceFrom (QP:=QP) (w:=w') (k:=K) Tryz.underlying42 ty38 bf 0 4 4 .i64 (k+1) (by omega) (by omega)]
 simp (disch:=try exact DI) only [↓PR,QR,Int.reduceBEq,Int.reduceBNe,Int.reduceLT,Int.reduceLE,Int.reduceGT,Int.reduceGE,Int.reduceNeg]
 have lX:=(Array.getElem?_eq_some_iff.1 oX).1
 have oX':X.drew.heap[w1.heap.size]?=some (.cells #[.string ⟨#[100]⟩,.slice (some ⟨bm,0,none⟩) 1 1,.string ⟨#[109]⟩] 24 (0,0)):=oX
 have E3:=E2.trans eD
 have e13:=eX.trans eD
 have sZ:X.drew.heap.size=X.heap.size:=World.size_drew _
 generalize X.drew=Z at eD oX' E3 e13 sZ ⊢
 have hO0:=OwnE.new Z 38 15 encP [] (fun _=>rfl) (by simp)
 simp only [List.flatMap_nil,List.length_nil] at hO0
 have eY:Ext Z (Z.alloc (.cells #[] 38)):=ee
 have sY:Z.heap.size≤(Z.alloc (.cells #[] 38)).heap.size:=eY.size
 rw [sZ] at hO0 sY
 generalize (Z.alloc (.cells #[] 38))=Y at hO0 eY sY ⊢
 refine ⟨eY,?_⟩
 obtain ⟨A,cc,hA,_,_,_,hel⟩:=SliceOf.open (hO.slice (E:=fun _ cs f=>cs=encP f) (fun _=>rfl) (fun _ _=>rfl))
 have helem:∀ (W':World) (j:Nat) (x:FieldD),Ext w1 W'→gF[j]?=some x→ElemAt W' bf (j*15) (encP x):=by
  intro W' j x eW' hj
  obtain ⟨b,o,cs,hA',_,hE,rfl⟩:=hel j x hj
  injection hA with hA1 _ _
  rw [← hA1] at hA'
  injection hA' with hA'
  injection hA' with h1 h2 _
  rw [← h1,← h2,Nat.zero_add] at hE
  exact hE.ext eW'
 have hlk:(gF.take k).length=k:=by rcases hk with rfl | rfl<;>rfl
 have hld:(gF.drop (k+1)).length=4 - (k+1):=by rcases hk with rfl | rfl<;>rfl
 have ap:=fun (K:Value→World→Prop) (QP:List PanicEntry→World→Prop) hk=>op_appendE (P:=Pg) (QP:=QP) (k:=K) (ty:=42) (l':=gF.take k) (c:=4) (b:=bf) (o:=0) Tryz.underlying42 ty38 rfl (by decide) (fun _=>rfl) (fun x _=>encP_one x) hO0 (fun j x hj=>by
  rw [Nat.zero_add]
  exact helem _ j x (e13.trans eY) (take_get hj)) sY (Nat.le_trans (Nat.mul_le_mul (show 0+(gF.take k).length≤4 by omega) by38) (by decide)) (by simp;omega) hk
 simp only [hlk] at ap
 unfold n28c2
 refine ap _ _ (fun v1 Y1 hO1 hg1=>?_)
 have eY1:Ext Z Y1:=eY.grown hg1 fun g hg=>by have:=(World.ownsRow.lt hO0 g hg).1;omega
 refine ⟨eY1,?_⟩
 have ap2:=fun (K:Value→World→Prop) (QP:List PanicEntry→World→Prop) hk=>op_appendE (P:=Pg) (QP:=QP) (k:=K) (ty:=42) (l':=gF.drop (k+1)) (c:=4 - (k+1)) (b:=bf) (o:=(k+1)*15) Tryz.underlying42 ty38 rfl (by decide) (fun _=>rfl) (fun x _=>encP_one x) hO1 (fun j x hj=>by
  rw [List.getElem?_drop] at hj
  have:=helem Y1 (k+1+j) x (e13.trans eY1) hj
  rwa [show (k+1+j)*15=(k+1)*15+j*15 by omega] at this) (by have:=eY1.size;omega) (Nat.le_trans (Nat.mul_le_mul (show ([]++gF.take k).length+(gF.drop (k+1)).length≤4 by rw [List.nil_append];omega) by38) (by decide)) (by rw [List.nil_append];omega) hk
 simp only [hld] at ap2
 refine ap2 _ _ (fun v2 Y2 hO2 hg2=>?_)
 have eY2:Ext Z Y2:=eY1.grown hg2 fun g hg=>by have:=(World.ownsRow.lt hO1 g hg).1;omega
 refine ⟨eY2,?_⟩
 have hFn:FieldsOf Y2 v2 (gL k):=own_fields (l:=gL k) hO2 (by rcases hk with rfl | rfl<;>decide)
 have hv2:=SliceOf.oneCell hFn
 have m2:=(e13.trans eY2).obj hm
 unfold n28c1
 simp (disch:=try exact DI) only [↓PR,QR,Int.reduceBEq,Int.reduceBNe,Int.reduceLT,Int.reduceLE,Int.reduceGT,Int.reduceGE,Int.reduceNeg,↓qidxG,(cells_of_heap m2).1,(cells_of_heap m2).2]
 refine turnK_intro ?_
 have m3:(Y2.setCell ⟨bm,1,none⟩ v2).heap[bm]?=some (.cells #[.string ⟨#[109]⟩,v2] 44 (0,0)):=by simpa using heap_set (o:=1) m2 v2
 have x3:=(Only.setCell Y2 bm 1 v2 w1.heap.size (by omega)).trans (eY2.obj oX')
 have q3:=(Only.setCell Y2 bm 1 v2 w0.heap.size (by have:=(Array.getElem?_eq_some_iff.1 o2).1;omega)).trans (((e1.trans e13).trans eY2).obj o2)
 have hO3:OwnE (Y2.setCell ⟨bm,1,none⟩ v2) X.heap.size 38 15 encP v2 (gL k):=(OwnR.only (OwnE.range (l:=gL k) hO2) (Only.setCell Y2 bm 1 v2) (.inr (.inl (by have:=eX.size;omega)))).1
 have E5:Ext w0 (Y2.setCell ⟨bm,1,none⟩ v2):=(E3.trans eY2).setCell (by show w0.heap.size≤bm;have:=e0.size;omega) _
 generalize (Y2.setCell ⟨bm,1,none⟩ v2)=V at m3 x3 q3 hO3 E5 ⊢
 have hs:∀ (V:World) (o:Nat) (u:Value),(V.heap[bm]?=some (.cells #[.string ⟨#[109]⟩,v2] 44 (0,0))∧OwnE V X.heap.size 38 15 encP v2 (gL k)∧Ext w0 V)→((V.setCell ⟨w0.heap.size,o,none⟩ u).heap[bm]?=some (.cells #[.string ⟨#[109]⟩,v2] 44 (0,0))∧OwnE (V.setCell ⟨w0.heap.size,o,none⟩ u) X.heap.size 38 15 encP v2 (gL k)∧Ext w0 (V.setCell ⟨w0.heap.size,o,none⟩ u)):=fun V o u ⟨h1,h2,h3⟩ =>
  ⟨(Only.setCell V w0.heap.size o u bm (by have:=(Array.getElem?_eq_some_iff.1 o2).1;omega)).trans h1,(OwnR.only (OwnE.range h2) (Only.setCell V w0.heap.size o u) (.inr (.inl (by have:=E1.size;omega)))).1,h3.setCell (Nat.le_refl _) _⟩
 simp (disch:=try exact DI) only [↓PR,QR,Int.reduceBEq,Int.reduceBNe,Int.reduceLT,Int.reduceLE,Int.reduceGT,Int.reduceGE,Int.reduceNeg,(cells_of_heap x3).1,(cells_of_heap q3).1,(cells_of_heap q3).2]
 obtain ⟨r1,r2,r3⟩:=hs _ 2 (.string ⟨#[109]⟩) (hs _ 1 (.slice (some ⟨bm,0,none⟩) 1 1) (hs V 0 (.string ⟨#[100]⟩) ⟨m3,hO3,E5⟩))
 exact ⟨one_def r1 (own_fields r2 (by rcases hk with rfl | rfl<;>decide)),r3⟩
end Go.Proofs.YtdfhjlggcdemhaaGreat
