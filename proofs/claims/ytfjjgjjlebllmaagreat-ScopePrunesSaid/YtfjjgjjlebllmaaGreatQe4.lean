/-
  Lemmas for the claim.
-/
import Derived.Test.YtfjjgjjlebllmaaGreatQe3
set_option linter.all false
set_option maxHeartbeats 4000000
set_option maxRecDepth 100000
namespace Go.Proofs.YtfjjgjjlebllmaaGreat
open Sw
open Go.RowKit (intOf Below)
theorem UO (w0:World) (v:Value) (l:List Zm) (g:FuncId) (caps:Array Value) (p:Zm→Bool) (hs:Z4 w0 v l) (hg:Callable Pg g) (hc:qo w0 ZV g caps p l) :
 Ret Pg 226 #[v,.func (.func g) #[] caps] w0 λ r w'=>r = .bool (l.any p)∧Ext w0 w':=by
 refine Za4 (R:=ZQ _) ?_;unfold ZbF
 refine Zt (Va _ _ l g caps p hs hg hc) ?_
 rintro r w' ⟨rfl,e⟩
 simp (disch:=try exact DI) only [↓PR,QR,simprocAttr,Sw.joinK_eq]
 exact ⟨by rw [Y7],e⟩
def QB (tag:ByteArray) (o:Zm):Bool:=o.kind == 9&&decide (o.tag=tag)
theorem Ds (w0:World) (v:Value) (o f:Zm) (pb:Nat) (tv cv:Value) (hv:ZV w0 v o) (hp:w0.heap[pb]?=some (.cells (Zo f tv cv).toArray 48 (0,0))) :
 Ret Pg 227 #[v,.pointer (some ⟨pb,0,none⟩)] w0 λ r w'=>r = .bool (QB f.tag o)∧Ext w0 w':=by
 obtain ⟨tv',cv',rfl,hT,hC,ht1,hc1⟩:=hv.op
 have hlt:=(Array.getElem?_eq_some_iff.1 hp).1
 refine Zgn (R:=ZQ _) ?_;unfold n58
 simp (disch:=try exact DI) only [↓PR,QR,simprocAttr,Sw.joinK_eq,(Za hp).1]
 exact ⟨by first | trivial | rfl,ee⟩
def QZ (hi:Int) (deps:List (ByteArray×Value)):Int→List V0→Int
 | _,[]=>0
 | low,x::xs=>orC (Z1 hi low [x.low,x.high]) (orC (Ya (Yh deps x.of).isSome 8) (QZ hi deps (IntKind.i64.wrap (x.high+1)) xs))
def WB (bef:List Zm) (deps:List (ByteArray×Value)) (f:Zm):Int :=
 orC (Ya ((Yn (YS bef) f.tag).isSome&&!bef.any (QB f.tag)) 8) (orC (Ya (decide (1≤(f.cases.length:Int))&&decide ((f.cases.length:Int)≤40)) 3) (QZ (((Yn (YS bef) f.tag).getD (0,0)).2) deps (((Yn (YS bef) f.tag).getD (0,0)).1) f.cases))
section
variable {w0:World} {cb md ms:Nat} {deps strs:List (ByteArray×Value)} {at_ fld:Int} {fs:List Zm}
theorem FF {a0:World} (e00:Ext a0 w0) (h:Chk w0 cb md ms deps strs at_ fld fs) (pf p4:Nat) (f:Zm) (tv cv:Value) (lo hi:Int) (hC:Yc w0 cv f.cases) (o3:w0.heap[pf]?=some (.cells (Zo f tv cv).toArray 48 (0,0))) (o4:w0.heap[p4]?=some (.cells #[.int .i64 lo,.int .i64 hi] 74 (0,0))) :
 qm (.pointer (some ⟨cb,0,none⟩)) (.pointer (some ⟨pf,0,none⟩)) (.pointer (some ⟨p4,0,none⟩)) (Qd a0 at_ fld (QZ hi deps lo f.cases)) w0:=by
 obtain ⟨A,c,rfl,hlc,hcm,hlm,hel⟩:=Ze.open hC
 simp (disch:=try exact DI) only [↓PR,QR,simprocAttr,↓Bh,↓Bt,↓BD,↓qm,↓jn,↓qX,↓KC,↓jK,↓GI,↓Gn,↓zZ,↓Gq,↓Gp,(Za o3).1,(Za o4).1]
 refine Ye (λ a0 a1 w=>∃ (k:Nat) (n:Int),a0 = .int .i64 n∧a1 = .int .i64 (k:Int)∧k≤f.cases.length∧Ext w0 w∧QZ hi deps n (f.cases.drop k)=QZ hi deps lo f.cases) (λ a0 a1 _=>f.cases.length - (intOf a1).toNat) ⟨0,lo,rfl,rfl,Nat.zero_le _,ee,rfl⟩ ?_
 rintro _ _ w ⟨k,n,rfl,rfl,hk,e,hI⟩
 have se:=e.size
 rcases ZB hk with ⟨x,hx,hd,hlt,hdec⟩ | ⟨hk,hd,hdec⟩
 · obtain ⟨b,o,cs,rfl,hl,hA,rfl⟩:=hel k x hx
   have l4:p4 < w.heap.size:=(Array.getElem?_eq_some_iff.1 (e.obj o4)).1
   rw [hd] at hI
   simp only [QZ] at hI
   simp (disch:=try exact DI) only [↓PR,QR,simprocAttr,↓Bh,↓Bt,↓BD,↓qm,↓jn,↓qX,↓KC,↓jK,↓GI,↓Gn,↓zZ,↓Gq,↓Gp,hdec,hA.c3,(Za (e.obj o4)).1]
   generalize hW:World.alloc (World.alloc w _) _=W
   have eW:Ext w W:=by rw [← hW];exact ee
   have o9:W.heap[w.heap.size]?=some (.cells #[.int .i64 x.low,.int .i64 x.high,.string x.of] 60 (0,0)):=by rw [← hW];simp (disch:=try exact DI) only [↓PR,QR,simprocAttr]
   have hIn:VA W (.slice (some ⟨w.heap.size+1,0,none⟩) 2 2) [x.low,x.high]:=by rw [← hW];exact Oa (by simp only [World.size_alloc]) _ _ _
   clear hW
   refine ZR (Qb (h.ext (e.trans eW)) n hi _ _ hIn) (λ w1 e1 h0=>?_) (λ w1 e1 h0=>?_)
   · rw [h0,YK] at hI
     have er1:=eW.trans e1
     simp (disch:=try exact DI) only [↓PR,QR,simprocAttr,↓Bh,↓Bt,↓BD,↓qm,↓jn,↓qX,↓KC,↓jK,↓GI,↓Gn,↓zZ,↓Gq,↓Gp,(Za (e1.obj o9)).1]
     refine ZR (zO (h.ext (e.trans er1)) x.of) (λ w2 e2 h0=>?_) (λ w2 e2 h0=>?_)
     · rw [h0,YK] at hI
       simp (disch:=try exact DI) only [↓PR,QR,simprocAttr,↓Bh,↓Bt,↓BD,↓qm,↓jn,↓qX,↓KC,↓jK,↓GI,↓Gn,↓zZ,↓Gq,↓Gp,(Za ((e1.trans e2).obj o9)).1]
       exact ⟨⟨k+1,_,rfl,rfl,by omega,ee,hI⟩,ZF (kd := .i64) hlt⟩
     · rw [Qp h0] at hI
       exact Yg (e00.trans (e.trans (er1.trans e2))) hI.symm h0
   · rw [Qp h0] at hI
     exact Yg (e00.trans (e.trans (eW.trans e1))) hI.symm h0
 · subst hk
   simp (disch:=try exact DI) only [↓PR,QR,simprocAttr,↓Bh,↓Bt,↓BD,↓qm,↓jn,↓qX,↓KC,↓jK,↓GI,↓Gn,↓zZ,↓Gq,↓Gp,hdec]
   rw [hd] at hI
   exact YY (e00.trans e) hI.symm
theorem Lw {a0:World} (e00:Ext a0 w0) (h:Chk w0 cb md ms deps strs at_ fld fs) (i:Nat) (hi:fld=i) (hlt:i < fs.length) (pf p4:Nat) (f:Zm) (tv cv:Value) (lo hi':Int) (b:Bool) (hC:Yc w0 cv f.cases) (o3:w0.heap[pf]?=some (.cells (Zo f tv cv).toArray 48 (0,0))) (o4:w0.heap[p4]?=some (.cells #[.int .i64 lo,.int .i64 hi'] 74 (0,0)))
 (hb:b=(Yn (YS (fs.take i)) f.tag).isSome) (hlo:b=true→lo=((Yn (YS (fs.take i)) f.tag).getD (0,0)).1∧hi'=((Yn (YS (fs.take i)) f.tag).getD (0,0)).2) :
 KC (.pointer (some ⟨cb,0,none⟩)) (.pointer (some ⟨pf,0,none⟩)) (.pointer (some ⟨p4,0,none⟩)) (.bool b) (Qd a0 at_ fld (WB (fs.take i) deps f)) w0:=by
 unfold KC
 refine Zt (WJ h i hi hlt) ?_
 rintro bv w1 ⟨hB,e1⟩
 simp (disch:=try exact DI) only [↓PR,QR,simprocAttr]
 refine Zt (UO _ _ _ _ _ (QB f.tag) hB Zgj ?_) ?_
 · intro w v o _ e hv
   exact Ds w v o f pf tv cv hv ((e1.trans e).obj o3)
 rintro _ w2 ⟨rfl,e2⟩
 have e12:=e1.trans e2
 simp (disch:=try exact DI) only [↓PR,QR,simprocAttr,↓qX]
 unfold WB
 refine ZR (Yt (h.ext e12) _ 8 (by decide)) (λ w3 e3 h0=>?_) (λ w3 e3 h0=>?_)
 · rw [← hb,h0,YK]
   have hbt:b=true:=by
    cases b with
    | true=>rfl
    | false=>exact absurd h0 (by simp [Ya])
   obtain ⟨h1,h2⟩:=hlo hbt
   rw [← h1,← h2]
   have e13:=e12.trans e3
   obtain ⟨A,c,rfl,_⟩:=Ze.open hC
   simp (disch:=try exact DI) only [↓PR,QR,simprocAttr,↓jn,(Za (e13.obj o3)).1]
   refine ZR (Yt (h.ext e13) _ 3 (by decide)) (λ w4 e4 h0=>?_) (λ w4 e4 h0=>?_)
   · rw [h0,YK]
     have e14:=e13.trans e4
     exact FF (e00.trans e14) (h.ext e14) pf p4 f tv _ lo hi' (Yc.ext hC e14) (e14.obj o3) (e14.obj o4)
   · rw [Qp h0]
     exact Yg (e00.trans (e13.trans e4)) rfl h0
 · rw [← hb,Qp h0]
   exact Yg (e00.trans (e12.trans e3)) rfl h0
theorem Mr (h:Chk w0 cb md ms deps strs at_ fld fs) (i:Nat) (hi:fld=i) (hlt:i < fs.length) (v:Value) (f:Zm) (hf:ZV w0 v f):Calls Pg 213 #[.pointer (some ⟨cb,0,none⟩),v] w0 (Qd w0 at_ fld (WB (fs.take i) deps f)):=by
 obtain ⟨tv,cv,rfl,hT,hC,ht1,hc1⟩:=hf.op
 refine ZgX ?_;unfold n57
 simp (disch:=try exact DI) only [↓PR,QR,simprocAttr]
 generalize hW:World.alloc w0 _=W
 have e0:Ext w0 W:=by rw [← hW];exact ee
 have o3:W.heap[w0.heap.size]?=some (.cells (Zo f tv cv).toArray 48 (0,0)):=by rw [← hW];simp (disch:=try exact DI) only [↓PR,QR,simprocAttr]
 clear hW
 refine ZI ?_
 simp (disch:=try exact DI) only [↓PR,QR,simprocAttr,↓Gp,(Za o3).1]
 have key:∀ w' p4 b lo hi',Ext W w'→w'.heap[p4]?=some (.cells #[.int .i64 lo,.int .i64 hi'] 74 (0,0))→b=(Yn (YS (fs.take i)) f.tag).isSome→(b=true→lo=((Yn (YS (fs.take i)) f.tag).getD (0,0)).1∧hi'=((Yn (YS (fs.take i)) f.tag).getD (0,0)).2) →
  KC (.pointer (some ⟨cb,0,none⟩)) (.pointer (some ⟨w0.heap.size,0,none⟩)) (.pointer (some ⟨p4,0,none⟩)) (.bool b) (Qd w0 at_ fld (WB (fs.take i) deps f)) w':=by
  intro w' p4 b lo hi' e o4 hb hlo
  exact Lw (e0.trans e) (h.ext (e0.trans e)) i hi hlt _ p4 f tv cv lo hi' b (Yc.ext hC (e0.trans e)) (e.obj o3) o4 hb hlo
 have eD:Ext W W.drew:=(Ext.refl W).wdrew
 have fin9:∀ (w2:World) (m p4:Nat) (u0 u1:Value),Ext W.drew w2→YG w2 m (RP (YS (fs.take i)))→w2.heap[p4]?=some (.cells #[u0,u1] 74 (0,0))→W.heap.size≤p4 →
  GI (.pointer (some ⟨p4,0,none⟩)) (.map (some m)) (.string f.tag) (KL W.drew m (RP (YS (fs.take i)))) (λ t4 t5 w=>KC (.pointer (some ⟨cb,0,none⟩)) (.pointer (some ⟨w0.heap.size,0,none⟩)) t4 t5 (Qd w0 at_ fld (WB (fs.take i) deps f)) w) (Qd w0 at_ fld (WB (fs.take i) deps f)) w2:=by
  intro w2 m p4 u0 u1 e2 hM o4 hp4
  haveI:YV (KL W.drew m (RP (YS (fs.take i)))):=⟨⟨w2,e2,hM⟩⟩
  unfold GI
  rw [KO Tryz.underlying122 Tryz.underlying9 GG ⟨w2,e2,hM⟩,QK]
  have hfin:∀ lo hi' b,b=(Yn (YS (fs.take i)) f.tag).isSome→(b=true→lo=((Yn (YS (fs.take i)) f.tag).getD (0,0)).1∧hi'=((Yn (YS (fs.take i)) f.tag).getD (0,0)).2) →
   KL W.drew m (RP (YS (fs.take i))) ((w2.setCell ⟨p4,0,none⟩ (.int .i64 lo)).setCell ⟨p4,1,none⟩ (.int .i64 hi'))∧KC (.pointer (some ⟨cb,0,none⟩)) (.pointer (some ⟨w0.heap.size,0,none⟩)) (.pointer (some ⟨p4,0,none⟩)) (.bool b) (Qd w0 at_ fld (WB (fs.take i) deps f)) ((w2.setCell ⟨p4,0,none⟩ (.int .i64 lo)).setCell ⟨p4,1,none⟩ (.int .i64 hi')):=by
   intro lo hi' b hb hlo
   have e3:Ext W.drew ((w2.setCell ⟨p4,0,none⟩ (.int .i64 lo)).setCell ⟨p4,1,none⟩ (.int .i64 hi')):=(e2.setCell (show W.drew.heap.size≤(⟨p4,0,none⟩:Addr).block from hp4) _).setCell (show W.drew.heap.size≤(⟨p4,1,none⟩:Addr).block from hp4) _
   refine ⟨⟨e3,(hM.setCell _ _).setCell _ _⟩,key _ p4 b lo hi' (eD.trans e3) ?_ hb hlo⟩
   have:=Z2 (o:=1) (Z2 (o:=0) o4 (.int .i64 lo)) (.int .i64 hi')
   simpa using this
  cases hl:Yn (YS (fs.take i)) f.tag with
  | none =>
   rw [hl] at hfin
   simp (disch:=try exact DI) only [↓PR,QR,simprocAttr,Option.map_none,(Za o4).1,(Za o4).2]
   exact hfin 0 0 false rfl (by simp)
  | some q =>
   obtain ⟨lo,hi'⟩:=q
   rw [hl] at hfin
   simp (disch:=try exact DI) only [↓PR,QR,simprocAttr,(Za o4).1,(Za o4).2,Ym]
   exact hfin lo hi' true rfl (λ _=>⟨rfl,rfl⟩)
 refine ⟨?_,?_⟩
 · refine Zt (WJ (h.ext (e0.trans eD)) i hi hlt) ?_
   rintro bv w1 ⟨hB,e1⟩
   refine UL e1 ?_
   unfold Gn
   refine ⟨?_,?_⟩
   · refine Zt (UD _ _ _ hB) ?_
     rintro _ w2 ⟨m,rfl,_,hM,e2⟩
     rw [VY] at hM
     refine Gb (e1.trans e2) hM ?_
     unfold jK
     simp only [JW]
     haveI:YV (KL W.drew m (RP (YS (fs.take i)))):=⟨⟨w2,e1.trans e2,hM⟩⟩
     rw [KO Tryz.underlying122 Tryz.underlying9 GG ⟨w2,e1.trans e2,hM⟩]
     have h9:=fin9 (w2.alloc (.cells #[.int .i64 0,.int .i64 0] 74)) m w2.heap.size _ _ ((e1.trans e2).alloc _) (hM.ext ((Ext.refl _).alloc _)) (ZE _ _ _) (by have:=(e1.trans e2).size;simpa using this)
     unfold GI at h9
     rw [KO Tryz.underlying122 Tryz.underlying9 GG ⟨w2,e1.trans e2,hM⟩] at h9
     simp (disch:=try exact DI) only [↓PR,QR,simprocAttr]
     refine ⟨⟨(e1.trans e2).alloc _,hM.ext ((Ext.refl _).alloc _)⟩,?_⟩
     simp only [↓Sw.GENQ] at h9
     exact h9
   · simp (disch:=try exact DI) only [↓PR,QR,simprocAttr]
     refine ⟨e1.alloc _,?_⟩
     refine Zt (UD _ _ _ (Z4.ext hB ((Ext.refl _).alloc _))) ?_
     rintro _ w2 ⟨m,rfl,_,hM,e2⟩
     rw [VY] at hM
     have s1:=e1.size
     simp only [World.size_drew] at s1
     refine Gb ((e1.alloc _).trans e2) hM ?_
     exact fin9 w2 m w1.heap.size _ _ ((e1.alloc _).trans e2) hM (e2.obj (ZE _ _ _)) s1
 · refine ⟨(Ext.refl _).alloc _,?_⟩
   unfold Gq
   refine Zt (WJ (h.ext ((e0.trans eD).alloc _)) i hi hlt) ?_
   rintro bv w1 ⟨hB,e1⟩
   refine UL (((Ext.refl _).alloc _).trans e1) ?_
   refine Zt (UD _ _ _ hB) ?_
   rintro _ w2 ⟨m,rfl,_,hM,e2⟩
   rw [VY] at hM
   refine Gb (((Ext.refl _).alloc _).trans (e1.trans e2)) hM ?_
   exact fin9 w2 m W.heap.size _ _ (((Ext.refl _).alloc _).trans (e1.trans e2)) hM ((e1.trans e2).obj (ZE W.drew _ _)) (Nat.le_refl _)
end
section
variable {w0:World} {cb md ms:Nat} {deps strs:List (ByteArray×Value)} {at_ fld:Int} {fs:List Zm}
def U2 (f:Zm):Int:=2 ^ f.bits.toNat - 1
theorem DX {f:Zm} (h:Xg f=true):0≤f.bits∧f.bits≤64∧IntKind.i64.wrap (IntKind.i64.wrap (1*2 ^ f.bits.toNat) - 1)=U2 f:=by
 unfold Xg at h
 simp only [Bool.and_eq_true,decide_eq_true_eq] at h
 obtain ⟨⟨h1,h2⟩,_⟩:=h
 have hc:(2:Int) ^ f.bits.toNat=((2 ^ f.bits.toNat:Nat):Int):=by simp
 have hp1:2 ^ f.bits.toNat≤2 ^ 32:=Nat.pow_le_pow_right (by decide) (by omega)
 have hp:(2:Int) ^ f.bits.toNat≤4294967296:=by rw [hc];omega
 have hp0:(0:Int) < 2 ^ f.bits.toNat:=Int.pow_pos (by decide)
 refine ⟨by omega,by omega,?_⟩
 unfold U2
 rw [Int.one_mul,show IntKind.i64.wrap (2 ^ f.bits.toNat)=2 ^ f.bits.toNat from Yk (by omega) (by omega),Yk (by omega) (by omega)]
theorem Qz {b:Bool} {c:Int} (hc:c≠0) (h:Ya b c=0):b=true:=by
 cases b with
 | true=>rfl
 | false=>exact absurd h hc
theorem Nd (h:Chk w0 cb md ms deps strs at_ fld fs) (v:Value) (f:Zm) (hf:ZV w0 v f):Calls Pg 194 #[.pointer (some ⟨cb,0,none⟩),v] w0 (Qd w0 at_ fld (orC (Ya (Xg f) 6) (Z1 (U2 f) 0 [f.low,f.high]))):=by
 obtain ⟨tv,cv,rfl,hT,hC,ht1,hc1⟩:=hf.op
 refine ZeM ?_;unfold n81
 simp (disch:=try exact DI) only [↓PR,QR,simprocAttr]
 generalize hW:World.alloc w0 _=W
 have e0:Ext w0 W:=by rw [← hW];exact ee
 have o3:W.heap[w0.heap.size]?=some (.cells (Zo f tv cv).toArray 48 (0,0)):=by rw [← hW];simp (disch:=try exact DI) only [↓PR,QR,simprocAttr]
 clear hW
 simp (disch:=try exact DI) only [↓PR,QR,simprocAttr,(Za o3).1]
 refine ZR (EG (h.ext e0) _ f ⟨tv,cv,rfl,ZW.ext hT e0,Yc.ext hC e0⟩) (λ w1 e1 h0=>?_) (λ w1 e1 h0=>?_)
 · rw [h0,YK]
   obtain ⟨ha,hb,hw⟩:=DX (Qz (by decide) h0)
   have e01:=e0.trans e1
   have l1:w0.heap.size < w1.heap.size:=(Array.getElem?_eq_some_iff.1 (e1.obj o3)).1
   refine ZI ?_
   simp (disch:=try exact DI) only [↓PR,QR,simprocAttr,↓SK,(Za (e1.obj o3)).1,hw]
   generalize hW:World.alloc (World.drew w1) _=W2
   have eD:Ext w1.drew W2:=by rw [← hW];exact ee
   have hIn:VA W2 (.slice (some ⟨w1.heap.size,0,none⟩) 2 2) [f.low,f.high]:=by rw [← hW];exact Oa rfl _ _ _
   clear hW
   have eE:Ext w0 W2:=(e01.wdrew).trans eD
   refine ⟨eD,?_⟩
   refine ZR (Qb (h.ext eE) 0 (U2 f) _ _ hIn) (λ w2 e2 h0=>?_) (λ w2 e2 h0=>?_)
   · exact ⟨eD.trans e2,YY (eE.trans e2) h0⟩
   · exact Yg (eE.trans e2) rfl h0
 · rw [Qp h0]
   exact Yg (e0.trans e1) rfl h0
theorem Lp (h:Chk w0 cb md ms deps strs at_ fld fs) (v:Value) (f:Zm) (hf:ZV w0 v f):Calls Pg 198 #[.pointer (some ⟨cb,0,none⟩),v] w0 (Qd w0 at_ fld (orC (Ya (Xg f) 6) (Z1 (U2 f) 0 [f.low]))):=by
 obtain ⟨tv,cv,rfl,hT,hC,ht1,hc1⟩:=hf.op
 refine Zfp ?_;unfold n86
 simp (disch:=try exact DI) only [↓PR,QR,simprocAttr]
 generalize hW:World.alloc w0 _=W
 have e0:Ext w0 W:=by rw [← hW];exact ee
 have o3:W.heap[w0.heap.size]?=some (.cells (Zo f tv cv).toArray 48 (0,0)):=by rw [← hW];simp (disch:=try exact DI) only [↓PR,QR,simprocAttr]
 clear hW
 simp (disch:=try exact DI) only [↓PR,QR,simprocAttr,(Za o3).1]
 refine ZR (EG (h.ext e0) _ f ⟨tv,cv,rfl,ZW.ext hT e0,Yc.ext hC e0⟩) (λ w1 e1 h0=>?_) (λ w1 e1 h0=>?_)
 · rw [h0,YK]
   obtain ⟨ha,hb,hw⟩:=DX (Qz (by decide) h0)
   have e01:=e0.trans e1
   have l1:w0.heap.size < w1.heap.size:=(Array.getElem?_eq_some_iff.1 (e1.obj o3)).1
   refine ZI ?_
   simp (disch:=try exact DI) only [↓PR,QR,simprocAttr,↓SH,(Za (e1.obj o3)).1,hw]
   generalize hW:World.alloc (World.drew w1) _=W2
   have eD:Ext w1.drew W2:=by rw [← hW];exact ee
   have hIn:VA W2 (.slice (some ⟨w1.heap.size,0,none⟩) 1 1) [f.low]:=by rw [← hW];exact By rfl _ _
   clear hW
   have eE:Ext w0 W2:=(e01.wdrew).trans eD
   refine ⟨eD,?_⟩
   refine ZR (Qb (h.ext eE) 0 (U2 f) _ _ hIn) (λ w2 e2 h0=>?_) (λ w2 e2 h0=>?_)
   · exact ⟨eD.trans e2,YY (eE.trans e2) h0⟩
   · exact Yg (eE.trans e2) rfl h0
 · rw [Qp h0]
   exact Yg (e0.trans e1) rfl h0
theorem Fo (h:Chk w0 cb md ms deps strs at_ fld fs) (v:Value) (f:Zm) (hf:ZV w0 v f):Calls Pg 200 #[.pointer (some ⟨cb,0,none⟩),v] w0 (Qd w0 at_ fld (Z1 34359738367 0 [f.low,f.high])):=by
 obtain ⟨tv,cv,rfl,hT,hC,ht1,hc1⟩:=hf.op
 refine Zeq ?_;unfold n88
 simp (disch:=try exact DI) only [↓PR,QR,simprocAttr]
 generalize hW:World.alloc (World.alloc w0 _) _=W
 have e0:Ext w0 W:=by rw [← hW];exact ee
 have o3:W.heap[w0.heap.size]?=some (.cells (Zo f tv cv).toArray 48 (0,0)):=by rw [← hW];simp (disch:=try exact DI) only [↓PR,QR,simprocAttr]
 have hIn:VA W (.slice (some ⟨w0.heap.size+1,0,none⟩) 2 2) [f.low,f.high]:=by rw [← hW];exact Oa (by simp only [World.size_alloc]) _ _ _
 clear hW
 refine ZR (Qb (h.ext e0) 0 34359738367 _ _ hIn) (λ w1 e1 h0=>?_) (λ w1 e1 h0=>?_)
 · exact YY (e0.trans e1) h0
 · exact Yg (e0.trans e1) rfl h0
theorem Db (h:Chk w0 cb md ms deps strs at_ fld fs) (v:Value) (f:Zm) (hf:ZV w0 v f):Calls Pg 206 #[.pointer (some ⟨cb,0,none⟩),v] w0 (Qd w0 at_ fld (Z1 1048576 2 [f.high])):=by
 obtain ⟨tv,cv,rfl,hT,hC,ht1,hc1⟩:=hf.op
 refine Zfu ?_;unfold n72
 simp (disch:=try exact DI) only [↓PR,QR,simprocAttr]
 generalize hW:World.alloc (World.alloc w0 _) _=W
 have e0:Ext w0 W:=by rw [← hW];exact ee
 have o3:W.heap[w0.heap.size]?=some (.cells (Zo f tv cv).toArray 48 (0,0)):=by rw [← hW];simp (disch:=try exact DI) only [↓PR,QR,simprocAttr]
 have hIn:VA W (.slice (some ⟨w0.heap.size+1,0,none⟩) 1 1) [f.high]:=by rw [← hW];exact By (by simp only [World.size_alloc]) _ _
 clear hW
 refine ZR (Qb (h.ext e0) 2 1048576 _ _ hIn) (λ w1 e1 h0=>?_) (λ w1 e1 h0=>?_)
 · exact YY (e0.trans e1) h0
 · exact Yg (e0.trans e1) rfl h0
theorem Ln (h:Chk w0 cb md ms deps strs at_ fld fs) (v:Value) (f:Zm) (hf:ZV w0 v f):Calls Pg 204 #[.pointer (some ⟨cb,0,none⟩),v] w0 (Qd w0 at_ fld (orC (Z1 255 0 [f.low]) (Z1 1048576 0 [f.high]))):=by
 obtain ⟨tv,cv,rfl,hT,hC,ht1,hc1⟩:=hf.op
 refine ZfN ?_;unfold n91
 simp (disch:=try exact DI) only [↓PR,QR,simprocAttr]
 generalize hW:World.alloc (World.alloc w0 _) _=W
 have e0:Ext w0 W:=by rw [← hW];exact ee
 have o3:W.heap[w0.heap.size]?=some (.cells (Zo f tv cv).toArray 48 (0,0)):=by rw [← hW];simp (disch:=try exact DI) only [↓PR,QR,simprocAttr]
 have hIn:VA W (.slice (some ⟨w0.heap.size+1,0,none⟩) 1 1) [f.low]:=by rw [← hW];exact By (by simp only [World.size_alloc]) _ _
 clear hW
 refine ZR (Qb (h.ext e0) 0 255 _ _ hIn) (λ w1 e1 h0=>?_) (λ w1 e1 h0=>?_)
 · rw [h0,YK]
   have e01:=e0.trans e1
   simp (disch:=try exact DI) only [↓PR,QR,simprocAttr,↓RU,(Za (e1.obj o3)).1]
   refine ZR (Qb ((h.ext e01).ext ((Ext.refl _).alloc _)) 0 1048576 _ _ (By rfl _ _)) (λ w2 e2 h0=>?_) (λ w2 e2 h0=>?_)
   · exact YY ((e01.alloc _).trans e2) h0
   · exact Yg ((e01.alloc _).trans e2) rfl h0
 · rw [Qp h0]
   exact Yg (e0.trans e1) rfl h0
theorem D4 (h:Chk w0 cb md ms deps strs at_ fld fs) (v:Value) (f:Zm) (hf:ZV w0 v f):Calls Pg 211 #[.pointer (some ⟨cb,0,none⟩),v] w0 (Qd w0 at_ fld (Ya (Yh deps f.of).isSome 8)):=by
 obtain ⟨tv,cv,rfl,hT,hC,ht1,hc1⟩:=hf.op
 refine Zd0 ?_;unfold n76
 simp (disch:=try exact DI) only [↓PR,QR,simprocAttr]
 generalize hW:World.alloc w0 _=W
 have e0:Ext w0 W:=by rw [← hW];exact ee
 have o3:W.heap[w0.heap.size]?=some (.cells (Zo f tv cv).toArray 48 (0,0)):=by rw [← hW];simp (disch:=try exact DI) only [↓PR,QR,simprocAttr]
 clear hW
 simp (disch:=try exact DI) only [↓PR,QR,simprocAttr,(Za o3).1]
 refine ZR (zO (h.ext e0) f.of) (λ w1 e1 h0=>?_) (λ w1 e1 h0=>?_)
 · exact YY (e0.trans e1) h0
 · exact Yg (e0.trans e1) rfl h0
theorem Nt (h:Chk w0 cb md ms deps strs at_ fld fs) (i:Nat) (hi:fld=i) (hlt:i < fs.length) (v:Value) (f:Zm) (hf:ZV w0 v f) (ht:f.terms.length≤1048576):Calls Pg 208 #[.pointer (some ⟨cb,0,none⟩),v] w0 (Qd w0 at_ fld (orC (Ya (Yh deps f.of).isSome 8) (QA (YS (fs.take i)) f))):=by
 obtain ⟨tv,cv,rfl,hT,hC,ht1,hc1⟩:=hf.op
 refine ZdX ?_;unfold n74
 simp (disch:=try exact DI) only [↓PR,QR,simprocAttr]
 generalize hW:World.alloc w0 _=W
 have e0:Ext w0 W:=by rw [← hW];exact ee
 have o3:W.heap[w0.heap.size]?=some (.cells (Zo f tv cv).toArray 48 (0,0)):=by rw [← hW];simp (disch:=try exact DI) only [↓PR,QR,simprocAttr]
 clear hW
 simp (disch:=try exact DI) only [↓PR,QR,simprocAttr,(Za o3).1]
 refine ZR (zO (h.ext e0) f.of) (λ w1 e1 h0=>?_) (λ w1 e1 h0=>?_)
 · rw [h0,YK]
   have e01:=e0.trans e1
   simp (disch:=try exact DI) only [↓PR,QR,simprocAttr,(Za (e1.obj o3)).1]
   refine ZR (zD (h.ext e01) i hi hlt _ f ⟨tv,cv,rfl,ZW.ext hT e01,Yc.ext hC e01⟩ ht) (λ w2 e2 h0=>?_) (λ w2 e2 h0=>?_)
   · exact YY (e01.trans e2) h0
   · exact Yg (e01.trans e2) rfl h0
 · rw [Qp h0]
   exact Yg (e0.trans e1) rfl h0
theorem Pm (h:Chk w0 cb md ms deps strs at_ fld fs) (i:Nat) (hi:fld=i) (hlt:i < fs.length) (v:Value) (f:Zm) (hf:ZV w0 v f) (ht:f.terms.length≤1048576):Calls Pg 219 #[.pointer (some ⟨cb,0,none⟩),v] w0 (Qd w0 at_ fld (orC (Z1 4294967295 0 [f.key]) (orC (Ya (Ci strs f.of) 8) (QA (YS (fs.take i)) f)))):=by
 obtain ⟨tv,cv,rfl,hT,hC,ht1,hc1⟩:=hf.op
 refine ZfQ ?_;unfold n84
 simp (disch:=try exact DI) only [↓PR,QR,simprocAttr]
 generalize hW:World.alloc (World.alloc w0 _) _=W
 have e0:Ext w0 W:=by rw [← hW];exact ee
 have o3:W.heap[w0.heap.size]?=some (.cells (Zo f tv cv).toArray 48 (0,0)):=by rw [← hW];simp (disch:=try exact DI) only [↓PR,QR,simprocAttr]
 have hIn:VA W (.slice (some ⟨w0.heap.size+1,0,none⟩) 1 1) [f.key]:=by rw [← hW];exact By (by simp only [World.size_alloc]) _ _
 clear hW
 refine ZR (Qb (h.ext e0) 0 4294967295 _ _ hIn) (λ w1 e1 h0=>?_) (λ w1 e1 h0=>?_)
 · rw [h0,YK]
   have e01:=e0.trans e1
   have h1:=h.ext e01.wdrew
   obtain ⟨⟨dn,mv,ds,mn,fv,k1,k2⟩,k3,k4,k5,k6⟩:=id h1
   refine ZI ?_
   simp (disch:=try exact DI) only [↓PR,QR,simprocAttr,↓RL,(Za (e1.obj o3)).1,(Za k1).1]
   have k1':=(Za k1).1
   simp only [World.cell?] at k1'
   rw [yO Tryz.underlying162 Tryz.underlying9 ty4 k4]
   rw [h1.strV f.of]
   refine ZR (Yt h1 _ 8 (by decide)) (λ w2 e2 h0=>?_) (λ w2 e2 h0=>?_)
   · rw [h0,YK]
     refine ⟨e2,?_⟩
     have e02:=(e01.wdrew).trans e2
     have e12:Ext W w2:=(e1.wdrew).trans e2
     simp (disch:=try exact DI) only [↓PR,QR,simprocAttr,(Za (e12.obj o3)).1]
     refine ZR (zD (h.ext e02) i hi hlt _ f ⟨tv,cv,rfl,ZW.ext hT e02,Yc.ext hC e02⟩ ht) (λ w3 e3 h0=>?_) (λ w3 e3 h0=>?_)
     · exact YY (e02.trans e3) h0
     · exact Yg (e02.trans e3) rfl h0
   · rw [Qp h0]
     exact Yg (e01.wdrew.trans e2) rfl h0
 · rw [Qp h0]
   exact Yg (e0.trans e1) rfl h0
theorem LY (h:Chk w0 cb md ms deps strs at_ fld fs) (i:Nat) (hi:fld=i) (hlt:i < fs.length) (v:Value) (f:Zm) (hf:ZV w0 v f):Calls Pg 217 #[.pointer (some ⟨cb,0,none⟩),v] w0 (Qd w0 at_ fld (orC (Z1 3 1 [f.check]) (Ya ((fs.take i).any λ o=>decide (o.name=f.fr)) 8))):=by
 obtain ⟨tv,cv,rfl,hT,hC,ht1,hc1⟩:=hf.op
 refine Zeg ?_;unfold n82
 simp (disch:=try exact DI) only [↓PR,QR,simprocAttr]
 generalize hW:World.alloc (World.alloc w0 _) _=W
 have e0:Ext w0 W:=by rw [← hW];exact ee
 have o3:W.heap[w0.heap.size]?=some (.cells (Zo f tv cv).toArray 48 (0,0)):=by rw [← hW];simp (disch:=try exact DI) only [↓PR,QR,simprocAttr]
 have hIn:VA W (.slice (some ⟨w0.heap.size+1,0,none⟩) 1 1) [f.check]:=by rw [← hW];exact By (by simp only [World.size_alloc]) _ _
 clear hW
 refine ZR (Qb (h.ext e0) 1 3 _ _ hIn) (λ w1 e1 h0=>?_) (λ w1 e1 h0=>?_)
 · rw [h0,YK]
   have e01:=e0.trans e1
   refine ZI ?_
   simp (disch:=try exact DI) only [↓PR,QR,simprocAttr,↓IE,↓HW,(Za (e1.obj o3)).1]
   refine Zt (WJ (h.ext e01.wdrew) i hi hlt) ?_
   rintro bv w2 ⟨hB,e2⟩
   refine ⟨e2,?_⟩
   have hb1:=Ze.oneCell hB
   simp (disch:=try exact DI) only [↓PR,QR,simprocAttr,↓IE,↓HW]
   refine zcr (zp w2 _ ⟨ByteArray.empty,fs.take i⟩ f.fr ⟨bv,rfl,hB⟩) λ w3 e3=>?_
   refine ⟨e2.trans e3,?_⟩
   simp (disch:=try exact DI) only [↓PR,QR,simprocAttr,↓IE,↓HW]
   have e03:=(e01.wdrew).trans (e2.trans e3)
   refine ZR (Yt (h.ext e03) _ 8 (by decide)) (λ w4 e4 h0=>?_) (λ w4 e4 h0=>?_)
   · exact YY (e03.trans e4) h0
   · exact Yg (e03.trans e4) rfl h0
 · rw [Qp h0]
   exact Yg (e0.trans e1) rfl h0
def As (f:Zm):Bool:=(f.bits == 2)||(f.bits == 4)||(decide (8≤f.bits)&&decide (f.bits≤512)&&(f.bits.tmod 8 == 0))
theorem P3 (h:Chk w0 cb md ms deps strs at_ fld fs) (v:Value) (f:Zm) (hf:ZV w0 v f):Calls Pg 215 #[.pointer (some ⟨cb,0,none⟩),v] w0 (Qd w0 at_ fld (Ya (As f) 6)):=by
 obtain ⟨tv,cv,rfl,hT,hC,ht1,hc1⟩:=hf.op
 refine Zfl ?_;unfold n79
 simp (disch:=try exact DI) only [↓PR,QR,simprocAttr,↓OP,↓Oq,↓Py,↓PE]
 have e0:Ext w0 (w0.alloc (Obj.cells (Zo f tv cv).toArray 48)):=ee
 have fin:∀ b,b=As f→Yq Pg 122 #[.pointer (some ⟨cb,0,none⟩),.bool b,.int .i64 6] (Zd (Qd w0 at_ fld (Ya (As f) 6))) (w0.alloc (Obj.cells (Zo f tv cv).toArray 48)) (λ _ w=>Qd w0 at_ fld (Ya (As f) 6) (.returned (.tuple #[])) w):=by
  rintro b rfl
  exact ZR (Yt (h.ext e0) _ 6 (by decide)) (λ w' e1 h0=>YY (e0.trans e1) h0) (λ w' e1 h0=>Yg (e0.trans e1) rfl h0)
 unfold As at fin ⊢
 generalize (f.bits == 2)=b1 at fin ⊢
 generalize (f.bits == 4)=b2 at fin ⊢
 generalize decide (8≤f.bits)=b3 at fin ⊢
 generalize decide (f.bits≤512)=b4 at fin ⊢
 cases b1<;>cases b2<;>cases b3<;>cases b4<;>simp (disch:=try exact DI) only [↓PR,QR,simprocAttr,↓OP,↓Oq,↓Py,↓PE]<;>first | exact fin _ rfl | exact fin _ (by simp)
end
theorem II (x y:ZX):(decide (x.field=y.field)&&decide (x.factor=y.factor))=decide (x=y):=by
 cases x;cases y
 rw [Bool.eq_iff_iff]
 simp
theorem jH (w0:World) (v u:Value) (l m:List ZX) (hl:ZW w0 v l) (hm:ZW w0 u m) :
 Ret Pg 95 #[v,u] w0 λ r w'=>r = .bool (decide (l=m))∧Ext w0 w':=by
 obtain ⟨A,c,rfl,hlc,hcm,hlm,hel⟩:=Ze.open hl
 obtain ⟨A',c',rfl,hlc',hcm',hlm',hel'⟩:=Ze.open hm
 refine Zcb (R:=ZQ _) ?_;unfold ZbG
 simp (disch:=try exact DI) only [↓PR,QR,simprocAttr]
 by_cases hlen:l.length=m.length
 · have hne:((l.length:Int) != (m.length:Int))=false:=by simp [hlen]
   simp (disch:=try exact DI) only [↓PR,QR,simprocAttr,↓Kt,↓Kx,hne]
   refine ZA (λ a0 w=>∃ (k:Nat) , a0 = .int .i64 (k:Int)∧k≤l.length∧Ext w0 w∧l.take k=m.take k) (λ a0 _=>l.length - (intOf a0).toNat) ⟨0,rfl,Nat.zero_le _,ee,rfl⟩ ?_
   rintro _ w ⟨k,rfl,hk,e,hI⟩
   have se:=e.size
   rcases ZB hk with ⟨x,hx,hd,hlt,hdec⟩ | ⟨hk,hd,hdec⟩
   · obtain ⟨b,o,cs,rfl,_,hA,rfl⟩:=hel k x hx
     obtain ⟨y,hy⟩:=getElem?_lt (l:=m) (k:=k) (by omega)
     obtain ⟨b',o',cs',rfl,_,hA',rfl⟩:=hel' k y hy
     have hlt':k < m.length:=by omega
     have eD:Ext w0 w.drew:=e.wdrew
     simp (disch:=try exact DI) only [↓PR,QR,simprocAttr,↓Kt,↓Kx,hdec]
     refine ZI ?_
     simp (disch:=try exact DI) only [↓PR,QR,simprocAttr,↓Kt,↓Kx,hA.c2,hA'.c2]
     rw [II]
     by_cases hxy:x=y
     · subst hxy
       simp only [decide_true,Bool.not_true]
       simp (disch:=try exact DI) only [↓PR,QR,simprocAttr,↓Kt,↓Kx]
       exact ⟨⟨k+1,rfl,by omega,ee,by rw [List.take_add_one,List.take_add_one,hx,hy,hI]⟩,ZF (kd := .i64) hlt⟩
     · simp only [hxy,decide_false,Bool.not_false]
       simp (disch:=try exact DI) only [↓PR,QR,simprocAttr,↓Kt,↓Kx]
       refine ⟨?_,eD⟩
       have hne':¬ l=m:=by
        rintro rfl
        rw [hx] at hy
        injection hy with hy
        exact hxy hy
       simp [hne']
   · subst hk
     simp (disch:=try exact DI) only [↓PR,QR,simprocAttr,↓Kt,↓Kx,hdec]
     rw [List.take_length,hlen,List.take_length] at hI
     exact ⟨by simp [hI],e⟩
 · have hne:((l.length:Int) != (m.length:Int))=true:=by simp;omega
   simp (disch:=try exact DI) only [↓PR,QR,simprocAttr,↓Kt,↓Kx,hne]
   have hne':¬ l=m:=λ h=>hlen (by rw [h])
   exact ⟨by simp [hne'],Ext.refl _⟩
theorem HX (x y:V0):(decide (x.low=y.low)&&(decide (x.high=y.high)&&decide (x.of=y.of)))=decide (x=y):=by
 cases x;cases y
 rw [Bool.eq_iff_iff]
 simp
theorem jD (w0:World) (v u:Value) (l m:List V0) (hl:Yc w0 v l) (hm:Yc w0 u m) :
 Ret Pg 96 #[v,u] w0 λ r w'=>r = .bool (decide (l=m))∧Ext w0 w':=by
 obtain ⟨A,c,rfl,hlc,hcm,hlm,hel⟩:=Ze.open hl
 obtain ⟨A',c',rfl,hlc',hcm',hlm',hel'⟩:=Ze.open hm
 refine ZcN (R:=ZQ _) ?_;unfold Zbx
 simp (disch:=try exact DI) only [↓PR,QR,simprocAttr]
 by_cases hlen:l.length=m.length
 · have hne:((l.length:Int) != (m.length:Int))=false:=by simp [hlen]
   simp (disch:=try exact DI) only [↓PR,QR,simprocAttr,↓Ks,↓Kh,hne]
   refine ZA (λ a0 w=>∃ (k:Nat) , a0 = .int .i64 (k:Int)∧k≤l.length∧Ext w0 w∧l.take k=m.take k) (λ a0 _=>l.length - (intOf a0).toNat) ⟨0,rfl,Nat.zero_le _,ee,rfl⟩ ?_
   rintro _ w ⟨k,rfl,hk,e,hI⟩
   have se:=e.size
   rcases ZB hk with ⟨x,hx,hd,hlt,hdec⟩ | ⟨hk,hd,hdec⟩
   · obtain ⟨b,o,cs,rfl,_,hA,rfl⟩:=hel k x hx
     obtain ⟨y,hy⟩:=getElem?_lt (l:=m) (k:=k) (by omega)
     obtain ⟨b',o',cs',rfl,_,hA',rfl⟩:=hel' k y hy
     have hlt':k < m.length:=by omega
     have eD:Ext w0 w.drew:=e.wdrew
     simp (disch:=try exact DI) only [↓PR,QR,simprocAttr,↓Ks,↓Kh,hdec]
     refine ZI ?_
     simp (disch:=try exact DI) only [↓PR,QR,simprocAttr,↓Ks,↓Kh,hA.c3,hA'.c3]
     rw [HX]
     by_cases hxy:x=y
     · subst hxy
       simp only [decide_true,Bool.not_true]
       simp (disch:=try exact DI) only [↓PR,QR,simprocAttr,↓Ks,↓Kh]
       exact ⟨⟨k+1,rfl,by omega,ee,by rw [List.take_add_one,List.take_add_one,hx,hy,hI]⟩,ZF (kd := .i64) hlt⟩
     · simp only [hxy,decide_false,Bool.not_false]
       simp (disch:=try exact DI) only [↓PR,QR,simprocAttr,↓Ks,↓Kh]
       refine ⟨?_,eD⟩
       have hne':¬ l=m:=by
        rintro rfl
        rw [hx] at hy
        injection hy with hy
        exact hxy hy
       simp [hne']
   · subst hk
     simp (disch:=try exact DI) only [↓PR,QR,simprocAttr,↓Ks,↓Kh,hdec]
     rw [List.take_length,hlen,List.take_length] at hI
     exact ⟨by simp [hI],e⟩
 · have hne:((l.length:Int) != (m.length:Int))=true:=by simp;omega
   simp (disch:=try exact DI) only [↓PR,QR,simprocAttr,↓Ks,↓Kh,hne]
   have hne':¬ l=m:=λ h=>hlen (by rw [h])
   exact ⟨by simp [hne'],Ext.refl _⟩
abbrev MT (f:Zm):Value := .agg #[.string f.name,.string f.of,.string f.tag,.string f.fr,.int .i64 f.kind,.int .i64 f.bits,.int .i64 f.low,.int .i64 f.high,.int .i64 f.base,.int .i64 f.check,.int .i64 f.key,.bool f.little,.bool f.loose]
theorem Bq (w0:World) (v:Value) (f:Zm) (hf:ZV w0 v f):Ret Pg 94 #[v] w0 λ r w'=>r=MT f∧Ext w0 w':=by
 obtain ⟨tv,cv,rfl,hT,hC,ht1,hc1⟩:=hf.op
 refine ZfL (R:=ZQ _) ?_;unfold n92
 simp (disch:=try exact DI) only [↓PR,QR,simprocAttr,Sw.joinK_eq]
 exact ⟨by first | trivial | rfl,ee⟩
theorem AK (w0:World) (v u:Value) (f g:Zm) (hf:ZV w0 v f) (hg:ZV w0 u g):Ret Pg 66 #[v,u] w0 λ r w'=>r = .bool (decide (f=g))∧Ext w0 w':=by
 obtain ⟨tv,cv,rfl,hT,hC,ht1,hc1⟩:=hf.op
 obtain ⟨tv',cv',rfl,hT',hC',ht1',hc1'⟩:=hg.op
 refine Zf1 (R:=ZQ _) ?_;unfold n94
 simp (disch:=try exact DI) only [↓PR,QR,simprocAttr]
 generalize hW:World.alloc (World.alloc w0 _) _=W
 have e0:Ext w0 W:=by rw [← hW];exact ee
 have o3:W.heap[w0.heap.size]?=some (.cells (Zo f tv cv).toArray 48 (0,0)):=by rw [← hW];simp (disch:=try exact DI) only [↓PR,QR,simprocAttr]
 have o4:W.heap[w0.heap.size+1]?=some (.cells (Zo g tv' cv').toArray 48 (0,0)):=by rw [← hW];simp (disch:=try exact DI) only [↓PR,QR,simprocAttr]
 clear hW
 simp only [World.size_alloc]
 refine ZI ?_
 have eD:Ext w0 W.drew:=e0.wdrew
 simp (disch:=try exact DI) only [↓PR,QR,simprocAttr,↓xF,↓yl,↓ym,(Za o3).1,(Za o4).1]
 refine zcr (Bq _ _ f ⟨tv,cv,rfl,ZW.ext hT eD,Yc.ext hC eD⟩) λ w1 e1=>?_
 refine ⟨e1,?_⟩
 have eD1:=eD.trans e1
 refine zcr (Bq _ _ g ⟨tv',cv',rfl,ZW.ext hT' eD1,Yc.ext hC' eD1⟩) λ w2 e2=>?_
 refine ⟨e1.trans e2,?_⟩
 simp (disch:=try exact DI) only [↓PR,QR,simprocAttr,↓xF,↓yl,↓ym,(Za o3).1,(Za o4).1]
 have eW2:Ext W w2:=(Ext.refl W).wdrew.trans (e1.trans e2)
 generalize hb:(_&&_:Bool)=b1
 cases b1 with
 | false =>
  simp (disch:=try exact DI) only [↓PR,QR,simprocAttr,↓xF,↓yl,↓ym]
  refine ⟨?_,e0.trans eW2⟩
  have hne:¬ f=g:=by
   rintro rfl
   simp at hb
  simp [hne]
 | true =>
  have hbt:=hb
  simp only [Bool.and_eq_true,decide_eq_true_eq] at hb
  obtain ⟨h1,h2,h3,h4,h5,h6,h7,h8,h9,h10,h11,h12,h13⟩:=hb
  simp (disch:=try exact DI) only [↓PR,QR,simprocAttr,↓xF,↓yl,↓ym,(Za o3).1,(Za o4).1]
  refine zcr (jH _ _ _ _ _ (ZW.ext hT (e0.trans eW2)) (ZW.ext hT' (e0.trans eW2))) λ w3 e3=>?_
  refine ⟨(e1.trans e2).trans e3,?_⟩
  have eW3:=eW2.trans e3
  by_cases ht:f.terms=g.terms
  · simp only [ht,decide_true]
    simp (disch:=try exact DI) only [↓PR,QR,simprocAttr,↓xF,↓yl,↓ym,hbt,(Za o3).1,(Za o4).1]
    refine zcr (jD _ _ _ _ _ (Yc.ext hC (e0.trans eW3)) (Yc.ext hC' (e0.trans eW3))) λ w4 e4=>?_
    refine ⟨((e1.trans e2).trans e3).trans e4,?_⟩
    simp (disch:=try exact DI) only [↓PR,QR,simprocAttr,↓xF,↓yl,↓ym]
    refine ⟨?_,e0.trans (eW3.trans e4)⟩
    congr 1
    rw [Bool.eq_iff_iff]
    simp only [decide_eq_true_eq]
    constructor
    · intro hc;cases f;cases g;simp_all
    · rintro rfl;rfl
  · simp only [ht,decide_false]
    simp (disch:=try exact DI) only [↓PR,QR,simprocAttr,↓xF,↓yl,↓ym,hbt]
    refine ⟨?_,e0.trans eW3⟩
    have hne:¬ f=g:=by rintro rfl;exact ht rfl
    simp [hne]
def SE (t0 t3 t6:Value) (R:RT) (w:World):Prop :=
 F0 219 t6 1 R w λ t49 w =>
 L0 217 t49 R w λ t50 w =>
 L0 48 t3 R w λ t52 w =>
 Qi Pg t50 #[t0,t52] (Zd R) w λ t53 w =>
 R (.returned (.tuple #[])) w
def RE (t0 t3 t6 t7:Value) (R:RT) (w:World):Prop :=
 L0 48 t7 R w λ t41 w =>
 F0 48 t3 0 R w λ t42 w =>
 L0 9 t42 R w λ t43 w =>
 F0 48 t3 1 R w λ t44 w =>
 L0 42 t44 R w λ t45 w =>
 opV Pg (Instr.build 48 #[(0,t43),(1,t45)]) (Zd R) w λ t46 w =>
 C0 66 #[t41,t46] R w λ t47 w =>
 C0 122 #[t0,t47,(.int .i64 5)] R w λ t48 w =>
 SE t0 t3 t6 R w
def Df (t0 t3 t6:Value) (R:RT) (w:World):Prop :=
 L0 48 t3 R w λ t36 w =>
 opV Pg (Instr.alloc 48 true (.tuple #[])) (Zd R) w λ t7 w =>
 opU Pg (Instr.storeAt 48 t7 t36) (Zd R) w λ w =>
 F0 219 t6 0 R w λ t37 w =>
 L0 216 t37 R w λ t38 w =>
 Qi Pg t38 #[t7] (Zd R) w λ t39 w =>
 RE t0 t3 t6 t7 R w
def Sr (t27 t29:Value) (C4:World→Prop) (K3:KW) (R:RT) (w:World):Prop :=
 qV Pg C4 (Instr.lookup 221 t27 t29 true) λ t30 =>
 qV Pg C4 (Instr.extract t30 0) λ t31 =>
 qV Pg C4 (Instr.extract t30 1) λ t32 =>
 opV Pg (Instr.alloc 219 true (.tuple #[])) (Zd R) w λ t6 w =>
 C4 w∧(
 opU Pg (Instr.storeAt 219 t6 t31) (Zd R) w λ w =>
 C4 w∧(
 K3 t32 t6 w))
def IL (t6 t27 t29:Value) (C5:World→Prop) (K3:KW) (R:RT) (w:World):Prop :=
 qV Pg C5 (Instr.lookup 221 t27 t29 true) λ t30 =>
 qV Pg C5 (Instr.extract t30 0) λ t31 =>
 qV Pg C5 (Instr.extract t30 1) λ t32 =>
 opU Pg (Instr.storeAt 219 t6 t31) (Zd R) w λ w =>
 C5 w∧(
 K3 t32 t6 w)
def Si (t0 t3:Value) (C2:World→Prop) (R:RT) (w:World):Prop :=
 qV Pg C2 (Instr.fieldAt 48 t3 1) λ t28 =>
 qV Pg C2 (Instr.loadAt 42 t28) λ t29 =>
 Zq (λ (t5:Value) (t6:Value) (w:World) =>
 C0 122 #[t0,t5,(.int .i64 4)] R w λ t35 w =>
 Df t0 t3 t6 R w) λ K3 =>
 (
 C0 185 #[] R w λ t27 w =>
 Q8 C2 w λ C4 w =>
 Sr t27 t29 C4 K3 R w)∧(
 opV Pg (Instr.alloc 219 true (.tuple #[])) (Zd R) w λ t6 w =>
 C2 w∧(
 C0 185 #[] R w λ t27 w =>
 Q8 C2 w λ C5 w =>
 IL t6 t27 t29 C5 K3 R w))
def S4 (t0 t3 t19:Value) (C1:World→Prop) (R:RT) (w:World):Prop :=
 qV Pg C1 (Instr.extract t19 0) λ t20 =>
 qV Pg C1 (Instr.extract t19 1) λ t21 =>
 opV Pg (Op.unary .not t21) (Zd R) w λ t24 w =>
 C0 122 #[t0,t24,(.int .i64 2)] R w λ t25 w =>
 Yp w λ C2 w =>
 Si t0 t3 C2 R w
def TH (t0 t3:Value) (C1:World→Prop) (R:RT) (w:World):Prop :=
 qV Pg C1 (Instr.fieldAt 48 t3 0) λ t17 =>
 qV Pg C1 (Instr.loadAt 9 t17) λ t18 =>
 C0 184 #[t0] R w λ t15 w =>
 C1 w∧(
 qV Pg C1 (Instr.build 24 #[(1,t15)]) λ t16 =>
 C0 82 #[t16,t18] R w λ t19 w =>
 C1 w∧(
 S4 t0 t3 t19 C1 R w))
def n59 (t0 t1:Value) (R:RT) (w:World):Prop :=
 opV Pg (Instr.box 48 t1) (Zd R) w λ t3 w =>
 F0 48 t3 0 R w λ t9 w =>
 L0 9 t9 R w λ t10 w =>
 C0 123 #[t10] R w λ t11 w =>
 C0 122 #[t0,t11,(.int .i64 1)] R w λ t12 w =>
 Yp w λ C1 w =>
 TH t0 t3 C1 R w
theorem Zft {t0 t1:Value} {R:RT} {w:World} (h:n59 t0 t1 R w):Calls Pg 160 #[t0,t1] w R:=by
 refine yD Tryz.func160 ?_
 refine zs<|zr<|yv h λ _ w h=>zn<|zk<|zs<|zr<|zm<|yv h λ _ w h=>yv h λ _ w h=>yc h PT λ _ w h=>yc h VQ λ _ w h=>zn<|zk<|zs ?_
 refine yh [4,5,13,14,15,16,17,18,19,20,21] h λ C hC h=>yw 0 hC ?_
 refine ye 3 hC h λ _ h=>?_
 refine ye 4 hC h λ _ h=>?_
 refine yo 1 ?_
 refine yc h Mg λ _ w h=>zn ?_
 obtain ⟨hC,h⟩:=h
 refine ⟨hC,?_⟩
 refine ye 2 hC h λ _ h=>?_
 refine yo 5 ?_
 refine yc h c82 λ _ w h=>zn ?_
 obtain ⟨hC,h⟩:=h
 refine ⟨hC,?_⟩
 refine yw 6 hC ?_
 refine ye 7 hC h λ _ h=>?_
 refine ye 8 hC h λ _ h=>?_
 refine yw 9 hC ?_
 refine yw 10 hC ?_
 refine yz<|zk<|zs<|zr<|zm<|zm<|yv h λ _ w h=>yc h VQ λ _ w h=>zn<|zk<|zs<|yh [5,6,26,27,28,29,30,31,32] h λ C hC h=>ye 1 hC h λ _ h=>?_
 refine ye 2 hC h λ _ h=>?_
 refine J0 h (λ K3 hK h=>?_)
 refine zS [5,6,26,27,30,31,32] (λ ρ w=>K3 (ρ 5) (ρ 6) w) (λ T hT=>?_) (λ σ w h=>?_)
 · obtain ⟨h0,h1⟩:=h
   refine Uw 0 7 rfl rfl (by kernel_rfl) (λ _ _=>rfl) (λ _ _=>rfl) ?_ ?_
   · have h:=h0
     refine yc h ZaM λ _ w h=>zn ?_
     obtain ⟨C4,hs,hC,h⟩:=h
     refine ⟨C4,hs,hC,?_⟩
     refine ye 3 hC h λ _ h=>?_
     refine yw 4 hC ?_
     refine ye 5 hC h λ _ h=>?_
     refine ye 6 hC h λ _ h=>?_
     refine yo 7 ?_
     refine yv h λ _ w h=>zn ?_
     obtain ⟨hC,h⟩:=h
     refine ⟨hC,?_⟩
     refine yo 8 ?_
     refine yu h λ w h=>zn ?_
     obtain ⟨hC,h⟩:=h
     refine ⟨hC,?_⟩
     refine yw 9 hC ?_
     refine yz ?_
     exact zt hT h
   have h:=h1
   refine yv h λ _ w h=>zn ?_
   obtain ⟨hC,h⟩:=h
   refine ⟨_,λ _ h=>h,hC,?_⟩
   refine yr 0 ?_
   refine yc h ZaM λ _ w h=>zn ?_
   obtain ⟨C5,hs,hC,h⟩:=h
   refine ⟨C5,hs,hC,?_⟩
   refine ye 3 hC h λ _ h=>?_
   refine yw 4 hC ?_
   refine ye 5 hC h λ _ h=>?_
   refine ye 6 hC h λ _ h=>?_
   refine yo 8 ?_
   refine yu h λ w h=>zn ?_
   obtain ⟨hC,h⟩:=h
   refine ⟨hC,?_⟩
   refine yw 9 hC ?_
   refine yz ?_
   exact zt hT h
 subst hK
 refine zk<|zs<|zr<|zm<|zm<|yc h VQ λ _ w h=>zn<|zk<|zs<|zr<|yv h λ _ w h=>yv h λ _ w h=>yu h λ w h=>zn<|zk ?_
 refine zs<|zr<|yv h λ _ w h=>yv h λ _ w h=>yV h λ _ w h=>zn<|zk<|zs<|zr<|zm<|yv h λ _ w h=>yv h λ _ w h=>yv h λ _ w h=>yv h λ _ w h=>yv h λ _ w h=>?_
 exact yB h λ _ w h=>yc h c66 λ _ w h=>yc h VQ λ _ w h=>zn<|zk<|zr<|yv h λ _ w h=>yv h λ _ w h=>zm<|yv h λ _ w h=>yV h λ _ w h=>zn<|ZP<|ZZ rfl h
def WN (g:FuncId) (cl:Zm→Zm) (ct cc:Bool):Prop:=∀ (w:World) (p:Nat) (f:Zm) (tv cv:Value),tv.oneCell'=true→cv.oneCell'=true→w.heap[p]?=some (.cells (Zo f tv cv).toArray 48 (0,0)) →
 Ret Pg g #[.pointer (some ⟨p,0,none⟩)] w λ _ w'=>w'.heap[p]?=some (.cells (Zo (cl f) (if ct then .slice none 0 0 else tv) (if cc then .slice none 0 0 else cv)).toArray 48 (0,0))∧∀ a,Ext a w→a.heap.size≤p→Ext a w'
def qa (f:Zm):Zm:={ f with bits:=0,little:=false,low:=0,high:=0 }
theorem RB:WN 193 qa false false:=by
 intro w p f tv cv ht1 hc1 hp
 have hlt:=(Array.getElem?_eq_some_iff.1 hp).1
 refine Zff (R:=ZQ _) ?_;unfold n70
 simp (disch:=try exact DI) only [↓PR,QR,simprocAttr,Sw.joinK_eq,(Za hp).1,(Za hp).2]
 refine ⟨?_,λ a e hp'=>?_⟩
 · simp only [YE,hp,Option.map_some,YD,List.setIfInBounds_toArray,List.set_cons_zero,List.set_cons_succ,Bool.false_eq_true,if_false,if_true]
   try rfl
 · exact ee
def jX (f:Zm):Zm:={ f with bits:=0,little:=false,low:=0 }
theorem PO:WN 197 jX false false:=by
 intro w p f tv cv ht1 hc1 hp
 have hlt:=(Array.getElem?_eq_some_iff.1 hp).1
 refine ZdR (R:=ZQ _) ?_;unfold n85
 simp (disch:=try exact DI) only [↓PR,QR,simprocAttr,Sw.joinK_eq,(Za hp).1,(Za hp).2]
 refine ⟨?_,λ a e hp'=>?_⟩
 · simp only [YE,hp,Option.map_some,YD,List.setIfInBounds_toArray,List.set_cons_zero,List.set_cons_succ,Bool.false_eq_true,if_false,if_true]
   try rfl
 · exact ee
def qH (f:Zm):Zm:={ f with loose:=false,low:=0,high:=0 }
theorem PN:WN 199 qH false false:=by
 intro w p f tv cv ht1 hc1 hp
 have hlt:=(Array.getElem?_eq_some_iff.1 hp).1
 refine Zes (R:=ZQ _) ?_;unfold n87
 simp (disch:=try exact DI) only [↓PR,QR,simprocAttr,Sw.joinK_eq,(Za hp).1,(Za hp).2]
 refine ⟨?_,λ a e hp'=>?_⟩
 · simp only [YE,hp,Option.map_some,YD,List.setIfInBounds_toArray,List.set_cons_zero,List.set_cons_succ,Bool.false_eq_true,if_false,if_true]
   try rfl
 · exact ee
def jE (f:Zm):Zm:={ f with base:=0,terms:=[] }
theorem Re:WN 201 jE true false:=by
 intro w p f tv cv ht1 hc1 hp
 have hlt:=(Array.getElem?_eq_some_iff.1 hp).1
 refine Zev (R:=ZQ _) ?_;unfold n89
 simp (disch:=try exact DI) only [↓PR,QR,simprocAttr,Sw.joinK_eq,(Za hp).1,(Za hp).2]
 refine ⟨?_,λ a e hp'=>?_⟩
 · simp only [YE,hp,Option.map_some,YD,List.setIfInBounds_toArray,List.set_cons_zero,List.set_cons_succ,Bool.false_eq_true,if_false,if_true]
   try rfl
 · exact ee
def j6 (f:Zm):Zm:={ f with low:=0,high:=0 }
theorem RA:WN 203 j6 false false:=by
 intro w p f tv cv ht1 hc1 hp
 have hlt:=(Array.getElem?_eq_some_iff.1 hp).1
 refine ZeV (R:=ZQ _) ?_;unfold n90
 simp (disch:=try exact DI) only [↓PR,QR,simprocAttr,Sw.joinK_eq,(Za hp).1,(Za hp).2]
 refine ⟨?_,λ a e hp'=>?_⟩
 · simp only [YE,hp,Option.map_some,YD,List.setIfInBounds_toArray,List.set_cons_zero,List.set_cons_succ,Bool.false_eq_true,if_false,if_true]
   try rfl
 · exact ee
def jj (f:Zm):Zm:={ f with loose:=false,high:=0 }
theorem P5:WN 205 jj false false:=by
 intro w p f tv cv ht1 hc1 hp
 have hlt:=(Array.getElem?_eq_some_iff.1 hp).1
 refine ZdU (R:=ZQ _) ?_;unfold n71
 simp (disch:=try exact DI) only [↓PR,QR,simprocAttr,Sw.joinK_eq,(Za hp).1,(Za hp).2]
 refine ⟨?_,λ a e hp'=>?_⟩
 · simp only [YE,hp,Option.map_some,YD,List.setIfInBounds_toArray,List.set_cons_zero,List.set_cons_succ,Bool.false_eq_true,if_false,if_true]
   try rfl
 · exact ee
def jv (f:Zm):Zm:={ f with of:=ByteArray.empty,base:=0,terms:=[] }
theorem P8:WN 207 jv true false:=by
 intro w p f tv cv ht1 hc1 hp
 have hlt:=(Array.getElem?_eq_some_iff.1 hp).1
 refine Zdz (R:=ZQ _) ?_;unfold n73
 simp (disch:=try exact DI) only [↓PR,QR,simprocAttr,Sw.joinK_eq,(Za hp).1,(Za hp).2]
 refine ⟨?_,λ a e hp'=>?_⟩
 · simp only [YE,hp,Option.map_some,YD,List.setIfInBounds_toArray,List.set_cons_zero,List.set_cons_succ,Bool.false_eq_true,if_false,if_true]
   try rfl
 · exact ee
def jk (f:Zm):Zm:={ f with of:=ByteArray.empty }
theorem PV:WN 210 jk false false:=by
 intro w p f tv cv ht1 hc1 hp
 have hlt:=(Array.getElem?_eq_some_iff.1 hp).1
 refine ZeD (R:=ZQ _) ?_;unfold n75
 simp (disch:=try exact DI) only [↓PR,QR,simprocAttr,Sw.joinK_eq,(Za hp).1,(Za hp).2]
 refine ⟨?_,λ a e hp'=>?_⟩
 · simp only [YE,hp,Option.map_some,YD,List.setIfInBounds_toArray,List.set_cons_zero,List.set_cons_succ,Bool.false_eq_true,if_false,if_true]
   try rfl
 · exact ee
def jt (f:Zm):Zm:={ f with tag:=ByteArray.empty,cases:=[] }
theorem Rj:WN 212 jt false true:=by
 intro w p f tv cv ht1 hc1 hp
 have hlt:=(Array.getElem?_eq_some_iff.1 hp).1
 refine ZgV (R:=ZQ _) ?_;unfold n77
 simp (disch:=try exact DI) only [↓PR,QR,simprocAttr,Sw.joinK_eq,(Za hp).1,(Za hp).2]
 refine ⟨?_,λ a e hp'=>?_⟩
 · simp only [YE,hp,Option.map_some,YD,List.setIfInBounds_toArray,List.set_cons_zero,List.set_cons_succ,Bool.false_eq_true,if_false,if_true]
   try rfl
 · exact ee
def GE (f:Zm):Zm:={ f with bits:=0 }
theorem Oe:WN 214 GE false false:=by
 intro w p f tv cv ht1 hc1 hp
 have hlt:=(Array.getElem?_eq_some_iff.1 hp).1
 refine Zgs (R:=ZQ _) ?_;unfold n78
 simp (disch:=try exact DI) only [↓PR,QR,simprocAttr,Sw.joinK_eq,(Za hp).1,(Za hp).2]
 refine ⟨?_,λ a e hp'=>?_⟩
 · simp only [YE,hp,Option.map_some,YD,List.setIfInBounds_toArray,List.set_cons_zero,List.set_cons_succ,Bool.false_eq_true,if_false,if_true]
   try rfl
 · exact ee
def GL (f:Zm):Zm:={ f with fr:=ByteArray.empty,check:=0 }
theorem PL:WN 216 GL false false:=by
 intro w p f tv cv ht1 hc1 hp
 have hlt:=(Array.getElem?_eq_some_iff.1 hp).1
 refine ZeL (R:=ZQ _) ?_;unfold n80
 simp (disch:=try exact DI) only [↓PR,QR,simprocAttr,Sw.joinK_eq,(Za hp).1,(Za hp).2]
 refine ⟨?_,λ a e hp'=>?_⟩
 · simp only [YE,hp,Option.map_some,YD,List.setIfInBounds_toArray,List.set_cons_zero,List.set_cons_succ,Bool.false_eq_true,if_false,if_true]
   try rfl
 · exact ee
def Gy (f:Zm):Zm:={ f with of:=ByteArray.empty,base:=0,terms:=[],key:=0 }
theorem NV:WN 218 Gy true false:=by
 intro w p f tv cv ht1 hc1 hp
 have hlt:=(Array.getElem?_eq_some_iff.1 hp).1
 refine ZdH (R:=ZQ _) ?_;unfold n83
 simp (disch:=try exact DI) only [↓PR,QR,simprocAttr,Sw.joinK_eq,(Za hp).1,(Za hp).2]
 refine ⟨?_,λ a e hp'=>?_⟩
 · simp only [YE,hp,Option.map_some,YD,List.setIfInBounds_toArray,List.set_cons_zero,List.set_cons_succ,Bool.false_eq_true,if_false,if_true]
   try rfl
 · exact ee
abbrev QG:Int→Value:=λ n => .int .i64 n
def CQ (L:List (Int×Value×Nat)):Prop:=(∀ k,¬ (1≤k∧k≤12)→Sw.look L k=none)∧Sw.look L 1=some (.agg #[.func (.func 193) #[] #[],.func (.func 194) #[] #[]])∧Sw.look L 2=some (.agg #[.func (.func 197) #[] #[],.func (.func 198) #[] #[]])∧Sw.look L 3=some (.agg #[.func (.func 199) #[] #[],.func (.func 200) #[] #[]])∧Sw.look L 4=some (.agg #[.func (.func 201) #[] #[],.func (.func 202) #[] #[]])∧Sw.look L 5=some (.agg #[.func (.func 203) #[] #[],.func (.func 204) #[] #[]])∧Sw.look L 6=some (.agg #[.func (.func 205) #[] #[],.func (.func 206) #[] #[]])∧Sw.look L 7=some (.agg #[.func (.func 207) #[] #[],.func (.func 208) #[] #[]])∧Sw.look L 8=some (.agg #[.func (.func 210) #[] #[],.func (.func 211) #[] #[]])∧Sw.look L 9=some (.agg #[.func (.func 212) #[] #[],.func (.func 213) #[] #[]])∧Sw.look L 10=some (.agg #[.func (.func 214) #[] #[],.func (.func 215) #[] #[]])∧Sw.look L 11=some (.agg #[.func (.func 216) #[] #[],.func (.func 217) #[] #[]])∧Sw.look L 12=some (.agg #[.func (.func 218) #[] #[],.func (.func 219) #[] #[]])
theorem XL {w0 w:World} {m c:Nat} {L:List (Int×Value×Nat)} {QP:List PanicEntry→World→Prop} {ku:World→Prop} (hM:Y1 w m QG L c) (e:Ext w0 w) (hm:w0.heap.size≤m) (k:Int) (v:Value)
 (h:∀ w' L' c',Y1 w' m QG L' c'→(∀ k',Sw.look L' k'=if k'=k then some v else Sw.look L k')→Ext w0 w'→ku w'):opU Pg (Instr.mapUpdate 221 (.map (some m)) (.int .i64 k) v) QP w ku:=by
 rw [Uu Tryz.underlying221 (Wg.int Tryz.underlying42) hM k v]
 exact h _ _ _ (hM.put k v) (λ k'=>GO _ _ _ _ _) (e.putObj hm _)
theorem A8 (w0:World):Ret Pg 185 #[] w0 λ r w'=>∃ m L c,r = .map (some m)∧w0.heap.size≤m∧Y1 w' m QG L c∧CQ L∧Ext w0 w':=by
 refine Zfn (R:=ZQ _) ?_;unfold n69
 simp (disch:=try exact DI) only [↓PR,QR,simprocAttr]
 have hM0:Y1 (w0.alloc (.map #[] 0)) w0.heap.size QG [] 0:=Y1.new w0 _
 have e0:Ext w0 (w0.alloc (.map #[] 0)):=ee
 refine XL hM0 e0 (Nat.le_refl _) 1 _ (λ w1 L1 c1 hM1 hl1 e1=>?_)
 simp (disch:=try exact DI) only [↓PR,QR,simprocAttr]
 refine XL hM1 e1 (Nat.le_refl _) 2 _ (λ w2 L2 c2 hM2 hl2 e2=>?_)
 simp (disch:=try exact DI) only [↓PR,QR,simprocAttr]
 refine XL hM2 e2 (Nat.le_refl _) 3 _ (λ w3 L3 c3 hM3 hl3 e3=>?_)
 simp (disch:=try exact DI) only [↓PR,QR,simprocAttr]
 refine XL hM3 e3 (Nat.le_refl _) 4 _ (λ w4 L4 c4 hM4 hl4 e4=>?_)
 simp (disch:=try exact DI) only [↓PR,QR,simprocAttr]
 refine XL hM4 e4 (Nat.le_refl _) 5 _ (λ w5 L5 c5 hM5 hl5 e5=>?_)
 simp (disch:=try exact DI) only [↓PR,QR,simprocAttr]
 refine XL hM5 e5 (Nat.le_refl _) 6 _ (λ w6 L6 c6 hM6 hl6 e6=>?_)
 simp (disch:=try exact DI) only [↓PR,QR,simprocAttr]
 refine XL hM6 e6 (Nat.le_refl _) 7 _ (λ w7 L7 c7 hM7 hl7 e7=>?_)
 simp (disch:=try exact DI) only [↓PR,QR,simprocAttr]
 refine XL hM7 e7 (Nat.le_refl _) 8 _ (λ w8 L8 c8 hM8 hl8 e8=>?_)
 simp (disch:=try exact DI) only [↓PR,QR,simprocAttr]
 refine XL hM8 e8 (Nat.le_refl _) 9 _ (λ w9 L9 c9 hM9 hl9 e9=>?_)
 simp (disch:=try exact DI) only [↓PR,QR,simprocAttr]
 refine XL hM9 e9 (Nat.le_refl _) 10 _ (λ w10 L10 c10 hM10 hl10 e10=>?_)
 simp (disch:=try exact DI) only [↓PR,QR,simprocAttr]
 refine XL hM10 e10 (Nat.le_refl _) 11 _ (λ w11 L11 c11 hM11 hl11 e11=>?_)
 simp (disch:=try exact DI) only [↓PR,QR,simprocAttr]
 refine XL hM11 e11 (Nat.le_refl _) 12 _ (λ w12 L12 c12 hM12 hl12 e12=>?_)
 simp (disch:=try exact DI) only [↓PR,QR,simprocAttr]
 have hn:∀ k,Sw.look ([]:List (Int×Value×Nat)) k=none:=λ _=>rfl
 refine ⟨_,_,_,rfl,Nat.le_refl _,hM12,⟨λ k hk=>?_,?_,?_,?_,?_,?_,?_,?_,?_,?_,?_,?_,?_⟩,e12⟩
 · rw [hl12,if_neg (by omega),hl11,if_neg (by omega),hl10,if_neg (by omega),hl9,if_neg (by omega),hl8,if_neg (by omega),hl7,if_neg (by omega),hl6,if_neg (by omega),hl5,if_neg (by omega),hl4,if_neg (by omega),hl3,if_neg (by omega),hl2,if_neg (by omega),hl1,if_neg (by omega),hn]
 · rw [hl12,if_neg (by decide),hl11,if_neg (by decide),hl10,if_neg (by decide),hl9,if_neg (by decide),hl8,if_neg (by decide),hl7,if_neg (by decide),hl6,if_neg (by decide),hl5,if_neg (by decide),hl4,if_neg (by decide),hl3,if_neg (by decide),hl2,if_neg (by decide),hl1,if_pos rfl]
 · rw [hl12,if_neg (by decide),hl11,if_neg (by decide),hl10,if_neg (by decide),hl9,if_neg (by decide),hl8,if_neg (by decide),hl7,if_neg (by decide),hl6,if_neg (by decide),hl5,if_neg (by decide),hl4,if_neg (by decide),hl3,if_neg (by decide),hl2,if_pos rfl]
 · rw [hl12,if_neg (by decide),hl11,if_neg (by decide),hl10,if_neg (by decide),hl9,if_neg (by decide),hl8,if_neg (by decide),hl7,if_neg (by decide),hl6,if_neg (by decide),hl5,if_neg (by decide),hl4,if_neg (by decide),hl3,if_pos rfl]
 · rw [hl12,if_neg (by decide),hl11,if_neg (by decide),hl10,if_neg (by decide),hl9,if_neg (by decide),hl8,if_neg (by decide),hl7,if_neg (by decide),hl6,if_neg (by decide),hl5,if_neg (by decide),hl4,if_pos rfl]
 · rw [hl12,if_neg (by decide),hl11,if_neg (by decide),hl10,if_neg (by decide),hl9,if_neg (by decide),hl8,if_neg (by decide),hl7,if_neg (by decide),hl6,if_neg (by decide),hl5,if_pos rfl]
 · rw [hl12,if_neg (by decide),hl11,if_neg (by decide),hl10,if_neg (by decide),hl9,if_neg (by decide),hl8,if_neg (by decide),hl7,if_neg (by decide),hl6,if_pos rfl]
 · rw [hl12,if_neg (by decide),hl11,if_neg (by decide),hl10,if_neg (by decide),hl9,if_neg (by decide),hl8,if_neg (by decide),hl7,if_pos rfl]
 · rw [hl12,if_neg (by decide),hl11,if_neg (by decide),hl10,if_neg (by decide),hl9,if_neg (by decide),hl8,if_pos rfl]
 · rw [hl12,if_neg (by decide),hl11,if_neg (by decide),hl10,if_neg (by decide),hl9,if_pos rfl]
 · rw [hl12,if_neg (by decide),hl11,if_neg (by decide),hl10,if_pos rfl]
 · rw [hl12,if_neg (by decide),hl11,if_pos rfl]
 · rw [hl12,if_pos rfl]
def Kd (f:Zm):Zm:={ name:=f.name,kind:=f.kind,bits:=0,little:=false,loose:=false,low:=0,high:=0,base:=0,terms:=[],of:=ByteArray.empty,tag:=ByteArray.empty,fr:=ByteArray.empty,cases:=[],check:=0,key:=0 }
section
variable {w0:World} {cb md ms:Nat} {deps strs:List (ByteArray×Value)} {at_ fld:Int} {fs:List Zm}
theorem Qj {a0:World} (e00:Ext a0 w0) (h:Chk w0 cb md ms deps strs at_ fld fs) (p3 p6:Nat) (f:Zm) (tv cv:Value) (hT:ZW w0 tv f.terms) (hC:Yc w0 cv f.cases) (o3:w0.heap[p3]?=some (.cells (Zo f tv cv).toArray 48 (0,0)))
 (g1 g2:FuncId) (o6:w0.heap[p6]?=some (.cells #[.func (.func g1) #[] #[],.func (.func g2) #[] #[]] 219 (0,0))) (hc1:Callable Pg g1) (hc2:Callable Pg g2) (cl:Zm→Zm) (ct cc:Bool) (hcl:WN g1 cl ct cc)
 (hterms:(cl f).terms=if ct then [] else f.terms) (hcases:(cl f).cases=if cc then [] else f.cases) (code:Int)
 (hchk:∀ w v,Chk w cb md ms deps strs at_ fld fs→ZV w v f→Calls Pg g2 #[.pointer (some ⟨cb,0,none⟩),v] w (Qd w at_ fld code)) :
 Df (.pointer (some ⟨cb,0,none⟩)) (.pointer (some ⟨p3,0,none⟩)) (.pointer (some ⟨p6,0,none⟩)) (Qd a0 at_ fld (orC (Ya (decide (cl f=Kd f)) 5) code)) w0:=by
 have ht1:=Ze.oneCell hT
 have hv1:=Ze.oneCell hC
 have l6:p6 < w0.heap.size:=(Array.getElem?_eq_some_iff.1 o6).1
 unfold Df
 simp (disch:=try exact DI) only [↓PR,QR,simprocAttr,(Za o3).1,(Za o6).1]
 have e1:Ext w0 (w0.alloc (Obj.cells (Zo f tv cv).toArray 48)):=ee
 have o7:=ZE w0 (Zo f tv cv).toArray 48
 rw [YI hc1]
 simp only [Array.empty_append,Array.append_empty]
 refine Zt (hcl _ w0.heap.size f tv cv ht1 hv1 o7) ?_
 rintro r w2 ⟨o7',hE⟩
 have e2:=hE w0 e1 (Nat.le_refl _)
 clear hE o7 e1
 have hT2:ZW w2 (if ct then .slice none 0 0 else tv) (cl f).terms:=by
  rw [hterms]
  cases ct
  · exact ZW.ext hT e2
  · exact Ze.nil _ _ _
 have hC2:Yc w2 (if cc then .slice none 0 0 else cv) (cl f).cases:=by
  rw [hcases]
  cases cc
  · exact Yc.ext hC e2
  · exact Ze.nil _ _ _
 generalize (if ct=true then Value.slice none 0 0 else tv)=tv2 at o7' hT2
 generalize (if cc=true then Value.slice none 0 0 else cv)=cv2 at o7' hC2
 generalize cl f=g at o7' hT2 hC2 ⊢
 have o3':=e2.obj o3
 clear hterms hcases hcl
 unfold RE
 have hL:Wk Pg w2 48 ⟨w0.heap.size,0,none⟩ (.agg (Zo g tv2 cv2).toArray):=Wk.many VR rfl (λ j v hv=>by rw [Addr.add_lit,(Za o7').1];simpa using hv)
 refine (V1 hL).mpr ?_
 simp (disch:=try exact DI) only [↓PR,QR,simprocAttr,(Za o3').1]
 refine zcr (AK w2 _ _ g (Kd f) ⟨_,_,rfl,hT2,hC2⟩ ⟨.slice none 0 0,.slice none 0 0,rfl,Ze.nil _ _ _,Ze.nil _ _ _⟩) λ w3 e3=>?_
 have e23:=e2.trans e3
 refine ZR (Yt (h.ext e23) _ 5 (by decide)) (λ w4 e4 h0=>?_) (λ w4 e4 h0=>?_)
 · rw [h0,YK]
   have e24:=e23.trans e4
   simp (disch:=try exact DI) only [↓PR,QR,simprocAttr,↓SE,(Za (e24.obj o6)).1,(Za (e24.obj o3)).1]
   rw [YI hc2]
   simp only [Array.empty_append,Array.append_empty]
   refine ZR (hchk w4 _ (h.ext e24) ⟨tv,cv,rfl,ZW.ext hT e24,Yc.ext hC e24⟩) (λ w5 e5 h0=>?_) (λ w5 e5 h0=>?_)
   · exact YY (e00.trans (e24.trans e5)) h0
   · exact Yg (e00.trans (e24.trans e5)) rfl h0
 · rw [Qp h0]
   exact Yg (e00.trans (e23.trans e4)) rfl h0
end
def ZT (bef:List Zm) (deps strs:List (ByteArray×Value)) (f:Zm):Int :=
 if f.kind=1 then orC (Ya (Xg f) 6) (Z1 (U2 f) 0 [f.low,f.high]) else
 if f.kind=2 then orC (Ya (Xg f) 6) (Z1 (U2 f) 0 [f.low]) else
 if f.kind=3 then Z1 34359738367 0 [f.low,f.high] else
 if f.kind=4 then QA (YS bef) f else
 if f.kind=5 then orC (Z1 255 0 [f.low]) (Z1 1048576 0 [f.high]) else
 if f.kind=6 then Z1 1048576 2 [f.high] else
 if f.kind=7 then orC (Ya (Yh deps f.of).isSome 8) (QA (YS bef) f) else
 if f.kind=8 then Ya (Yh deps f.of).isSome 8 else
 if f.kind=9 then WB bef deps f else
 if f.kind=10 then Ya (As f) 6 else
 if f.kind=11 then orC (Z1 3 1 [f.check]) (Ya (bef.any λ o=>decide (o.name=f.fr)) 8) else
 if f.kind=12 then orC (Z1 4294967295 0 [f.key]) (orC (Ya (Ci strs f.of) 8) (QA (YS bef) f)) else 0
def YA (f:Zm):Zm :=
 if f.kind=1 then qa f else
 if f.kind=2 then jX f else
 if f.kind=3 then qH f else
 if f.kind=4 then jE f else
 if f.kind=5 then j6 f else
 if f.kind=6 then jj f else
 if f.kind=7 then jv f else
 if f.kind=8 then jk f else
 if f.kind=9 then jt f else
 if f.kind=10 then GE f else
 if f.kind=11 then GL f else
 if f.kind=12 then Gy f else f
def YH (bef:List Zm) (deps strs:List (ByteArray×Value)) (f:Zm):Int :=
 orC (Ya (XT f.name) 1) (orC (Ya (!bef.any λ o=>decide (o.name=f.name)) 2) (orC (Ya (decide (1≤f.kind∧f.kind≤12)) 4) (orC (Ya (decide (YA f=Kd f)) 5) (ZT bef deps strs f))))
section
variable {w0:World} {cb md ms:Nat} {deps strs:List (ByteArray×Value)} {at_ fld:Int} {fs:List Zm}
theorem Rg {a0:World} (e00:Ext a0 w0) (h:Chk w0 cb md ms deps strs at_ fld fs) (i:Nat) (hi:fld=i) (hlt:i < fs.length) (p3 p6:Nat) (f:Zm) (tv cv:Value) (ht:f.terms.length≤1048576) (hT:ZW w0 tv f.terms) (hC:Yc w0 cv f.cases) (o3:w0.heap[p3]?=some (.cells (Zo f tv cv).toArray 48 (0,0)))
 (L:List (Int×Value×Nat)) (hL:CQ L) (a b:Value) (ok:Bool) (hab:(Sw.look L f.kind).getD (.agg #[.nilFunc,.nilFunc]) = .agg #[a,b]) (hok:ok=(Sw.look L f.kind).isSome) (o6:w0.heap[p6]?=some (.cells #[a,b] 219 (0,0))) :
 Yq Pg 122 #[.pointer (some ⟨cb,0,none⟩),.bool ok,.int .i64 4] (Zd (Qd a0 at_ fld (orC (Ya (decide (1≤f.kind∧f.kind≤12)) 4) (orC (Ya (decide (YA f=Kd f)) 5) (ZT (fs.take i) deps strs f))))) w0
  (λ _ w=>Df (.pointer (some ⟨cb,0,none⟩)) (.pointer (some ⟨p3,0,none⟩)) (.pointer (some ⟨p6,0,none⟩)) (Qd a0 at_ fld (orC (Ya (decide (1≤f.kind∧f.kind≤12)) 4) (orC (Ya (decide (YA f=Kd f)) 5) (ZT (fs.take i) deps strs f)))) w):=by
 obtain ⟨hn,k1,k2,k3,k4,k5,k6,k7,k8,k9,k10,k11,k12⟩:=hL
 by_cases hk:1≤f.kind∧f.kind≤12
 · have hd:decide (1≤f.kind∧f.kind≤12)=true:=by simpa using hk
   rw [hd]
   show Yq _ _ _ (Zd (Qd a0 at_ fld (orC 0 _))) _ _
   simp only [show Ya true 4=0 from rfl,YK]
   have hs:ok=true:=by
    rw [hok]
    have:f.kind=1∨f.kind=2∨f.kind=3∨f.kind=4∨f.kind=5∨f.kind=6∨f.kind=7∨f.kind=8∨f.kind=9∨f.kind=10∨f.kind=11∨f.kind=12:=by omega
    rcases this with h | h | h | h | h | h | h | h | h | h | h | h<;>simp only [h,k1,k2,k3,k4,k5,k6,k7,k8,k9,k10,k11,k12,Option.isSome_some]
   subst hs
   refine ZR (Yt h true 4 (by decide)) (λ w1 e1 _=>?_) (λ w1 e1 h0=>absurd rfl h0)
   have hw:=h.ext e1
   have hT1:=ZW.ext hT e1
   have hC1:=Yc.ext hC e1
   have o31:=e1.obj o3
   have this:f.kind=1∨f.kind=2∨f.kind=3∨f.kind=4∨f.kind=5∨f.kind=6∨f.kind=7∨f.kind=8∨f.kind=9∨f.kind=10∨f.kind=11∨f.kind=12:=by omega
   rcases this with hkk | hkk | hkk | hkk | hkk | hkk | hkk | hkk | hkk | hkk | hkk | hkk
   · rw [hkk,k1,Option.getD_some] at hab
     injection hab with hab
     have hab:=congrArg Array.toList hab
     simp only [List.cons.injEq,and_true] at hab
     obtain ⟨rfl,rfl⟩:=hab
     have hcl:YA f=qa f:=by unfold YA;simp [hkk]
     have hcc:ZT (fs.take i) deps strs f=orC (Ya (Xg f) 6) (Z1 (U2 f) 0 [f.low,f.high]):=by unfold ZT;simp [hkk]
     rw [hcl,hcc]
     exact Qj (e00.trans e1) hw p3 p6 f tv cv hT1 hC1 o31 _ _ (e1.obj o6) ZfM ZdN qa false false RB rfl rfl _ (λ w v hw hf=>Nd hw v f hf)
   · rw [hkk,k2,Option.getD_some] at hab
     injection hab with hab
     have hab:=congrArg Array.toList hab
     simp only [List.cons.injEq,and_true] at hab
     obtain ⟨rfl,rfl⟩:=hab
     have hcl:YA f=jX f:=by unfold YA;simp [hkk]
     have hcc:ZT (fs.take i) deps strs f=orC (Ya (Xg f) 6) (Z1 (U2 f) 0 [f.low]):=by unfold ZT;simp [hkk]
     rw [hcl,hcc]
     exact Qj (e00.trans e1) hw p3 p6 f tv cv hT1 hC1 o31 _ _ (e1.obj o6) ZgL ZgF jX false false PO rfl rfl _ (λ w v hw hf=>Lp hw v f hf)
   · rw [hkk,k3,Option.getD_some] at hab
     injection hab with hab
     have hab:=congrArg Array.toList hab
     simp only [List.cons.injEq,and_true] at hab
     obtain ⟨rfl,rfl⟩:=hab
     have hcl:YA f=qH f:=by unfold YA;simp [hkk]
     have hcc:ZT (fs.take i) deps strs f=Z1 34359738367 0 [f.low,f.high]:=by unfold ZT;simp [hkk]
     rw [hcl,hcc]
     exact Qj (e00.trans e1) hw p3 p6 f tv cv hT1 hC1 o31 _ _ (e1.obj o6) ZfG Zgc qH false false PN rfl rfl _ (λ w v hw hf=>Fo hw v f hf)
   · rw [hkk,k4,Option.getD_some] at hab
     injection hab with hab
     have hab:=congrArg Array.toList hab
     simp only [List.cons.injEq,and_true] at hab
     obtain ⟨rfl,rfl⟩:=hab
     have hcl:YA f=jE f:=by unfold YA;simp [hkk]
     have hcc:ZT (fs.take i) deps strs f=QA (YS (fs.take i)) f:=by unfold ZT;simp [hkk]
     rw [hcl,hcc]
     exact Qj (e00.trans e1) hw p3 p6 f tv cv hT1 hC1 o31 _ _ (e1.obj o6) Zgz Zal jE true false Re rfl rfl _ (λ w v hw hf=>zD hw i hi hlt v f hf ht)
   · rw [hkk,k5,Option.getD_some] at hab
     injection hab with hab
     have hab:=congrArg Array.toList hab
     simp only [List.cons.injEq,and_true] at hab
     obtain ⟨rfl,rfl⟩:=hab
     have hcl:YA f=j6 f:=by unfold YA;simp [hkk]
     have hcc:ZT (fs.take i) deps strs f=orC (Z1 255 0 [f.low]) (Z1 1048576 0 [f.high]):=by unfold ZT;simp [hkk]
     rw [hcl,hcc]
     exact Qj (e00.trans e1) hw p3 p6 f tv cv hT1 hC1 o31 _ _ (e1.obj o6) Zez Zds j6 false false RA rfl rfl _ (λ w v hw hf=>Ln hw v f hf)
   · rw [hkk,k6,Option.getD_some] at hab
     injection hab with hab
     have hab:=congrArg Array.toList hab
     simp only [List.cons.injEq,and_true] at hab
     obtain ⟨rfl,rfl⟩:=hab
     have hcl:YA f=jj f:=by unfold YA;simp [hkk]
     have hcc:ZT (fs.take i) deps strs f=Z1 1048576 2 [f.high]:=by unfold ZT;simp [hkk]
     rw [hcl,hcc]
     exact Qj (e00.trans e1) hw p3 p6 f tv cv hT1 hC1 o31 _ _ (e1.obj o6) ZgK Zgw jj false false P5 rfl rfl _ (λ w v hw hf=>Db hw v f hf)
   · rw [hkk,k7,Option.getD_some] at hab
     injection hab with hab
     have hab:=congrArg Array.toList hab
     simp only [List.cons.injEq,and_true] at hab
     obtain ⟨rfl,rfl⟩:=hab
     have hcl:YA f=jv f:=by unfold YA;simp [hkk]
     have hcc:ZT (fs.take i) deps strs f=orC (Ya (Yh deps f.of).isSome 8) (QA (YS (fs.take i)) f):=by unfold ZT;simp [hkk]
     rw [hcl,hcc]
     exact Qj (e00.trans e1) hw p3 p6 f tv cv hT1 hC1 o31 _ _ (e1.obj o6) Zd1 Zfm jv true false P8 rfl rfl _ (λ w v hw hf=>Nt hw i hi hlt v f hf ht)
   · rw [hkk,k8,Option.getD_some] at hab
     injection hab with hab
     have hab:=congrArg Array.toList hab
     simp only [List.cons.injEq,and_true] at hab
     obtain ⟨rfl,rfl⟩:=hab
     have hcl:YA f=jk f:=by unfold YA;simp [hkk]
     have hcc:ZT (fs.take i) deps strs f=Ya (Yh deps f.of).isSome 8:=by unfold ZT;simp [hkk]
     rw [hcl,hcc]
     exact Qj (e00.trans e1) hw p3 p6 f tv cv hT1 hC1 o31 _ _ (e1.obj o6) ZeN Zek jk false false PV rfl rfl _ (λ w v hw hf=>D4 hw v f hf)
   · rw [hkk,k9,Option.getD_some] at hab
     injection hab with hab
     have hab:=congrArg Array.toList hab
     simp only [List.cons.injEq,and_true] at hab
     obtain ⟨rfl,rfl⟩:=hab
     have hcl:YA f=jt f:=by unfold YA;simp [hkk]
     have hcc:ZT (fs.take i) deps strs f=WB (fs.take i) deps f:=by unfold ZT;simp [hkk]
     rw [hcl,hcc]
     exact Qj (e00.trans e1) hw p3 p6 f tv cv hT1 hC1 o31 _ _ (e1.obj o6) Zgu Ze5 jt false true Rj rfl rfl _ (λ w v hw hf=>Mr hw i hi hlt v f hf)
   · rw [hkk,k10,Option.getD_some] at hab
     injection hab with hab
     have hab:=congrArg Array.toList hab
     simp only [List.cons.injEq,and_true] at hab
     obtain ⟨rfl,rfl⟩:=hab
     have hcl:YA f=GE f:=by unfold YA;simp [hkk]
     have hcc:ZT (fs.take i) deps strs f=Ya (As f) 6:=by unfold ZT;simp [hkk]
     rw [hcl,hcc]
     exact Qj (e00.trans e1) hw p3 p6 f tv cv hT1 hC1 o31 _ _ (e1.obj o6) Zdm Zf3 GE false false Oe rfl rfl _ (λ w v hw hf=>P3 hw v f hf)
   · rw [hkk,k11,Option.getD_some] at hab
     injection hab with hab
     have hab:=congrArg Array.toList hab
     simp only [List.cons.injEq,and_true] at hab
     obtain ⟨rfl,rfl⟩:=hab
     have hcl:YA f=GL f:=by unfold YA;simp [hkk]
     have hcc:ZT (fs.take i) deps strs f=orC (Z1 3 1 [f.check]) (Ya ((fs.take i).any λ o=>decide (o.name=f.fr)) 8):=by unfold ZT;simp [hkk]
     rw [hcl,hcc]
     exact Qj (e00.trans e1) hw p3 p6 f tv cv hT1 hC1 o31 _ _ (e1.obj o6) Zge ZeS GL false false PL rfl rfl _ (λ w v hw hf=>LY hw i hi hlt v f hf)
   · rw [hkk,k12,Option.getD_some] at hab
     injection hab with hab
     have hab:=congrArg Array.toList hab
     simp only [List.cons.injEq,and_true] at hab
     obtain ⟨rfl,rfl⟩:=hab
     have hcl:YA f=Gy f:=by unfold YA;simp [hkk]
     have hcc:ZT (fs.take i) deps strs f=orC (Z1 4294967295 0 [f.key]) (orC (Ya (Ci strs f.of) 8) (QA (YS (fs.take i)) f)):=by unfold ZT;simp [hkk]
     rw [hcl,hcc]
     exact Qj (e00.trans e1) hw p3 p6 f tv cv hT1 hC1 o31 _ _ (e1.obj o6) Zeo ZeO Gy true false NV rfl rfl _ (λ w v hw hf=>Pm hw i hi hlt v f hf ht)
 · have hd:decide (1≤f.kind∧f.kind≤12)=false:=by simpa using hk
   rw [hd]
   have hs:ok=false:=by rw [hok,hn _ hk];rfl
   subst hs
   refine ZR (Yt h false 4 (by decide)) (λ w1 e1 h0=>absurd h0 (by decide)) (λ w1 e1 h0=>?_)
   exact Yg (e00.trans e1) rfl h0
end
section
variable {w0:World} {cb md ms:Nat} {deps strs:List (ByteArray×Value)} {at_ fld:Int} {fs:List Zm}
theorem CZ (h:Chk w0 cb md ms deps strs at_ fld fs) (i:Nat) (hi:fld=i) (hlt:i < fs.length) (v:Value) (f:Zm) (hf:ZV w0 v f) (ht:f.terms.length≤1048576) :
 Calls Pg 160 #[.pointer (some ⟨cb,0,none⟩),v] w0 (Qd w0 at_ fld (YH (fs.take i) deps strs f)):=by
 obtain ⟨tv,cv,rfl,hT,hC,ht1,hc1⟩:=hf.op
 refine Zft ?_;unfold n59
 simp (disch:=try exact DI) only [↓PR,QR,simprocAttr]
 generalize hW:World.alloc w0 _=W
 have e0:Ext w0 W:=by rw [← hW];exact ee
 have o3:W.heap[w0.heap.size]?=some (.cells (Zo f tv cv).toArray 48 (0,0)):=by rw [← hW];simp (disch:=try exact DI) only [↓PR,QR,simprocAttr]
 clear hW
 refine zcr (GC _ f.name) λ w1 e1=>?_
 have e01:=e0.trans e1
 unfold YH
 refine ZR (Yt (h.ext e01) _ 1 (by decide)) (λ w2 e2 h0=>?_) (λ w2 e2 h0=>?_)
 · rw [h0,YK]
   have e02:=e01.trans e2
   have o32:=(e1.trans e2).obj o3
   refine ZI ?_
   simp (disch:=try exact DI) only [↓PR,QR,simprocAttr,↓TH,(Za o32).1]
   have eD:Ext w0 w2.drew:=e02.wdrew
   refine Zt (WJ (h.ext eD) i hi hlt) ?_
   rintro bv w3 ⟨hB,e3⟩
   refine ⟨e3,?_⟩
   have hb1:=Ze.oneCell hB
   simp (disch:=try exact DI) only [↓PR,QR,simprocAttr]
   refine zcr (zp w3 _ ⟨ByteArray.empty,fs.take i⟩ f.name ⟨bv,rfl,hB⟩) λ w4 e4=>?_
   refine ⟨e3.trans e4,?_⟩
   simp (disch:=try exact DI) only [↓PR,QR,simprocAttr,↓S4]
   have e04:=eD.trans (e3.trans e4)
   have e24:Ext w2 w4:=(Ext.refl w2).wdrew.trans (e3.trans e4)
   refine ZR (Yt (h.ext e04) _ 2 (by decide)) (λ w5 e5 h0=>?_) (λ w5 e5 h0=>?_)
   · rw [h0,YK]
     have e05:=e04.trans e5
     have o35:=(e24.trans e5).obj o32
     clear e24 e04 e3 e4 hB eD e02 e01 e1 e2 o32
     refine ZI ?_
     simp (disch:=try exact DI) only [↓PR,QR,simprocAttr,↓Si,(Za o35).1]
     have eD:Ext w5 w5.drew:=(Ext.refl _).wdrew
     have fin5:∀ (w':World) (m p6 c:Nat) (L:List (Int×Value×Nat)) (u0 u1:Value),Ext w5.drew w'→Y1 w' m QG L c→CQ L→w'.heap[p6]?=some (.cells #[u0,u1] 219 (0,0))→w5.heap.size≤p6 →
      IL (.pointer (some ⟨p6,0,none⟩)) (.map (some m)) (.int .i64 f.kind) (KM w5.drew m QG L c) (λ t5 t6 w=>Yq Pg 122 #[.pointer (some ⟨cb,0,none⟩),t5,.int .i64 4] (Zd (Qd w0 at_ fld (orC (Ya (decide (1≤f.kind∧f.kind≤12)) 4) (orC (Ya (decide (YA f=Kd f)) 5) (ZT (fs.take i) deps strs f))))) w λ _ w=>Df (.pointer (some ⟨cb,0,none⟩)) (.pointer (some ⟨w0.heap.size,0,none⟩)) t6 (Qd w0 at_ fld (orC (Ya (decide (1≤f.kind∧f.kind≤12)) 4) (orC (Ya (decide (YA f=Kd f)) 5) (ZT (fs.take i) deps strs f)))) w)
       (Qd w0 at_ fld (orC (Ya (decide (1≤f.kind∧f.kind≤12)) 4) (orC (Ya (decide (YA f=Kd f)) 5) (ZT (fs.take i) deps strs f)))) w':=by
      intro w' m p6 c L u0 u1 e' hM hL o6 hp6
      haveI:YV (KM w5.drew m QG L c):=⟨⟨w',e',hM⟩⟩
      unfold IL
      rw [Ko Tryz.underlying221 (Wg.int Tryz.underlying42) Ep ⟨w',e',hM⟩]
      obtain ⟨a,b,hab,ha,hb⟩:∃ a b,(Sw.look L f.kind).getD (.agg #[.nilFunc,.nilFunc]) = .agg #[a,b]∧a.oneCell'=true∧b.oneCell'=true:=by
       obtain ⟨hn,k1,k2,k3,k4,k5,k6,k7,k8,k9,k10,k11,k12⟩:=hL
       by_cases hk:1≤f.kind∧f.kind≤12
       · have this:f.kind=1∨f.kind=2∨f.kind=3∨f.kind=4∨f.kind=5∨f.kind=6∨f.kind=7∨f.kind=8∨f.kind=9∨f.kind=10∨f.kind=11∨f.kind=12:=by omega
         rcases this with h | h | h | h | h | h | h | h | h | h | h | h<;>simp only [h,k1,k2,k3,k4,k5,k6,k7,k8,k9,k10,k11,k12,Option.getD_some]<;>exact ⟨_,_,rfl,rfl,rfl⟩
       · rw [hn _ hk];exact ⟨_,_,rfl,rfl,rfl⟩
      rw [hab]
      simp (disch:=try exact DI) only [↓PR,QR,simprocAttr,(Za o6).1,(Za o6).2]
      have e6:Ext w5.drew ((w'.setCell ⟨p6,0,none⟩ a).setCell ⟨p6,1,none⟩ b):=(e'.setCell (show w5.drew.heap.size≤(⟨p6,0,none⟩:Addr).block from hp6) _).setCell (show w5.drew.heap.size≤(⟨p6,1,none⟩:Addr).block from hp6) _
      refine ⟨⟨e6,(hM.setCell _ _).setCell _ _⟩,?_⟩
      have e06:=(e05.trans eD).trans e6
      have o6':=Z2 (o:=1) (Z2 (o:=0) o6 a) b
      exact Rg e06 (h.ext e06) i hi hlt _ p6 f tv cv ht (ZW.ext hT e06) (Yc.ext hC e06) ((eD.trans e6).obj o35) L hL a b _ hab rfl (by simpa using o6')
     refine ⟨?_,?_⟩
     · refine Zt (A8 _) ?_
       rintro _ w6 ⟨m,L,c,rfl,hm,hM,hL,e6⟩
       refine J7 e6 hM ?_
       have h9:=fin5 (w6.alloc (.cells #[.nilFunc,.nilFunc] 219)) m w6.heap.size c L _ _ (e6.alloc _) (hM.ext ((Ext.refl _).alloc _)) hL (ZE _ _ _) (by have:=e6.size;simpa using this)
       unfold IL at h9
       unfold Sr
       simp only [JW]
       haveI:YV (KM w5.drew m QG L c):=⟨⟨w6,e6,hM⟩⟩
       rw [Ko Tryz.underlying221 (Wg.int Tryz.underlying42) Ep ⟨w6,e6,hM⟩] at h9 ⊢
       simp (disch:=try exact DI) only [↓PR,QR,simprocAttr]
       simp only [↓Sw.GENQ] at h9
       exact ⟨⟨e6.alloc _,hM.ext ((Ext.refl _).alloc _)⟩,h9⟩
     · refine ⟨(Ext.refl _).alloc _,?_⟩
       refine Zt (A8 _) ?_
       rintro _ w6 ⟨m,L,c,rfl,hm,hM,hL,e6⟩
       refine J7 (((Ext.refl _).alloc _).trans e6) hM ?_
       exact fin5 w6 m w5.heap.size c L _ _ (((Ext.refl _).alloc _).trans e6) hM hL (e6.obj (ZE w5.drew _ _)) (Nat.le_refl _)
   · rw [Qp h0]
     exact Yg (e04.trans e5) rfl h0
 · rw [Qp h0]
   exact Yg (e01.trans e2) rfl h0
end
def yJ (t3 t29 t31:Value) (next4:KV) (R:RT) (w:World):Prop :=
 X0 46 t29 t31 R w λ t33 w =>
 L0 60 t33 R w λ t34 w =>
 opV Pg (Instr.alloc 60 true (.tuple #[])) (Zd R) w λ t7 w =>
 opU Pg (Instr.storeAt 60 t7 t34) (Zd R) w λ w =>
 L0 82 t3 R w λ t35 w =>
 F0 60 t7 2 R w λ t36 w =>
 L0 9 t36 R w λ t37 w =>
 opV Pg (Instr.buildSlice 82 1 #[(0,t37)]) (Zd R) w λ t38 w =>
 opV Pg (Builtin.append_ #[82,82] 82 #[t35,t38]) (Zd R) w λ t39 w =>
 opU Pg (Instr.storeAt 82 t3 t39) (Zd R) w λ w =>
 B0 .add 3 true t31 (.int .i64 1) R w λ t40 w =>
 next4 t40 w
def xc (t3 t5:Value) (K3:World→Prop) (R:RT) (w:World):Prop :=
 F0 48 t5 11 R w λ t28 w =>
 L0 46 t28 R w λ t29 w =>
 opV Pg (Builtin.len_ #[46] 3 #[t29]) (Zd R) w λ t30 w =>
 Yi (λ t31 w next4 =>
 B0 .lss 3 false t31 t30 R w λ t32 w =>
 Zr t32 (
 yJ t3 t29 t31 next4 R w) (
 K3 w)) (.int .i64 0) w
def yT (t3 t5:Value) (K3:World→Prop) (R:RT) (w:World):Prop :=
 L0 82 t3 R w λ t21 w =>
 F0 48 t5 8 R w λ t22 w =>
 L0 9 t22 R w λ t23 w =>
 opV Pg (Instr.buildSlice 82 1 #[(0,t23)]) (Zd R) w λ t24 w =>
 opV Pg (Builtin.append_ #[82,82] 82 #[t21,t24]) (Zd R) w λ t25 w =>
 opU Pg (Instr.storeAt 82 t3 t25) (Zd R) w λ w =>
 K3 w
def GR (t3 t5 t11 t16 t17:Value) (next1:KV) (R:RT) (w:World):Prop :=
 Zq (λ (w:World) =>
 B0 .add 3 true t11 (.int .i64 1) R w λ t41 w =>
 next1 t41 w) λ K3 =>
 Zr t17 (
 yT t3 t5 K3 R w) (
 B0 .eql 42 true t16 (.int .i64 9) R w λ t27 w =>
 Zr t27 (
 xc t3 t5 K3 R w) (
 K3 w))
def JO (t16:Value) (K2:KV) (R:RT) (w:World):Prop :=
 B0 .eql 42 true t16 (.int .i64 8) R w λ t19 w =>
 Zr t19 (
 K2 t19 w) (
 B0 .eql 42 true t16 (.int .i64 12) R w λ t20 w =>
 K2 t20 w)
def xi (t3 t9 t11:Value) (next1:KV) (R:RT) (w:World):Prop :=
 X0 22 t9 t11 R w λ t13 w =>
 L0 48 t13 R w λ t14 w =>
 opV Pg (Instr.alloc 48 true (.tuple #[])) (Zd R) w λ t5 w =>
 opU Pg (Instr.storeAt 48 t5 t14) (Zd R) w λ w =>
 F0 48 t5 1 R w λ t15 w =>
 L0 42 t15 R w λ t16 w =>
 B0 .eql 42 true t16 (.int .i64 7) R w λ t18 w =>
 Zq (λ (t17:Value) (w:World) =>
 GR t3 t5 t11 t16 t17 next1 R w) λ K2 =>
 Zr t18 (
 K2 t18 w) (
 JO t16 K2 R w)
def xk (t3 t9 t10 t11:Value) (next1:KV) (R:RT) (w:World):Prop :=
 B0 .lss 3 false t11 t10 R w λ t12 w =>
 Zr t12 (
 xi t3 t9 t11 next1 R w) (
 opV Pg (Instr.makeFunc (.func 69) #[] #[t3]) (Zd R) w λ t42 w =>
 R (.returned t42) w)
def n52 (t0:Value) (R:RT) (w:World):Prop :=
 opV Pg (Instr.box 24 t0) (Zd R) w λ t1 w =>
 opV Pg (Instr.alloc 82 true (.tuple #[])) (Zd R) w λ t3 w =>
 F0 24 t1 1 R w λ t8 w =>
 L0 22 t8 R w λ t9 w =>
 opV Pg (Builtin.len_ #[22] 3 #[t9]) (Zd R) w λ t10 w =>
 Yi (λ t11 w next1 =>
 xk t3 t9 t10 t11 next1 R w) (.int .i64 0) w
theorem Zfg {t0:Value} {R:RT} {w:World} (h:n52 t0 R w):Calls Pg 32 #[t0] w R:=by
 refine yD Tryz.func32 ?_
 refine zs<|zr<|yv h λ _ w h=>zm<|zn<|zk<|zs<|zr<|yv h λ _ w h=>zn<|zk<|zs<|zs<|zr<|yv h λ _ w h=>?_
 refine yv h λ _ w h=>yx h λ _ w h=>zm<|zn<|zk<|Zj<|yl1 [5,7,11,12,13,14,15,16,17,18,19,20,21,22,23,24,25,26,27,28,29,30,31,32,33,34,35,36,37,38,39,40,41] 11 h λ σ w next h=>zs<|zr<|yb h λ _ w h=>zn<|zk<|zs<|yC h (λ h=>?_) λ h=>?_
 · refine Zh<|zk<|zs<|Zj<|zs<|zr<|yv h λ _ w h=>yv h λ _ w h=>yv h λ _ w h=>yu h λ w h=>zn<|zk<|zs<|zr<|yv h λ _ w h=>?_
   refine yv h λ _ w h=>zn<|zk<|Zj<|zs<|zs<|zr<|yb h λ _ w h=>zm<|zn<|zk<|yJ1 [17,19,20] 17 h (λ _ _ hkK2 h=>?_) λ σ w h=>?_
   · refine yC h (λ h=>?_) λ h=>?_
     · refine Zh<|zk ?_
       exact zt hkK2 h
     refine zs<|zr<|yb h λ _ w h=>zm<|zn<|zk<|yC h (λ h=>?_) λ h=>?_
     · refine Zh<|zk ?_
       exact zt hkK2 h
     refine zr<|yb h λ _ w h=>zm<|zn<|zk ?_
     exact zt hkK2 h
   refine zk<|yJ0 [7,21,22,23,24,25,26,27,28,29,30,31,32,33,34,35,36,37,38,39,40] h (λ _ _ hkK3 h=>?_) λ σ w h=>?_
   · refine yC h (λ h=>?_) λ h=>?_
     · refine zr<|yv h λ _ w h=>yv h λ _ w h=>yv h λ _ w h=>yS h λ _ w h=>yx h λ _ w h=>yu h λ w h=>zn<|zk ?_
       exact zt hkK3 h
     refine zs<|zr<|yb h λ _ w h=>zm<|zn<|zk<|yC h (λ h=>?_) λ h=>?_
     · refine zs<|zr<|yv h λ _ w h=>yv h λ _ w h=>yx h λ _ w h=>zm<|zn<|zk<|Zj<|yl1 [7,31,32,33,34,35,36,37,38,39,40] 31 h λ σ w next h=>zs<|zr<|yb h λ _ w h=>zn<|zk ?_
       refine zs<|yC h (λ h=>?_) λ h=>?_
       · refine Zh<|zk<|zs<|Zj<|zs<|zr<|yv h λ _ w h=>yv h λ _ w h=>yv h λ _ w h=>yu h λ w h=>zn<|zk<|zr<|yv h λ _ w h=>yv h λ _ w h=>?_
         exact yv h λ _ w h=>yS h λ _ w h=>yx h λ _ w h=>yu h λ w h=>zn<|Zg<|zk<|zr<|yb h λ _ w h=>zm<|zn<|zk<|⟨rfl,h⟩
       refine Zy<|Zc<|Zc<|Zn<|zk ?_
       exact zt hkK3 h
     refine Zh<|zk ?_
     exact zt hkK3 h
   exact Zg<|Zg<|zk<|zr<|yb h λ _ w h=>zm<|zn<|zk<|⟨rfl,h⟩
 exact Zy<|Zc<|Zc<|Zn<|zk<|zs<|zr<|yF h λ _ w h=>zm<|zn<|zk<|Zk<|Zi rfl rfl h
def XQ (f:Zm):List ByteArray:=if f.kind=7∨f.kind=8∨f.kind=12 then [f.of] else if f.kind=9 then f.cases.map (·.of) else []
def Z0 (l:List Zm):List ByteArray:=l.flatMap XQ
abbrev W7 (s:ByteArray):List Value:=[.string s]
theorem jC {w:World} {QP:List PanicEntry→World→Prop} {k:Value→World→Prop} {base:Nat} {v:Value} {l:List ByteArray} (s:ByteArray) {b:Nat} (hown:Z5 w base 9 1 W7 v l) (hc:w.cell? ⟨b,0,none⟩=some (.string s)) (hbase:base≤w.heap.size) (hl:l.length≤1048576)
 (hk:∀ v' w',Z5 w' base 9 1 W7 v' (l++[s])→w.grownBy w' v.ownBlock→k v' w') :
 opV Pg (Builtin.append_ #[82,82] 82 #[v,.slice (some ⟨b,0,none⟩) 1 1]) QP w k:=by
 have hby:=by9
 refine X7 (l':=[s]) Tryz.underlying82 ty9 rfl (by decide) (λ _=>rfl) (λ x _ u hu=>by simp at hu;subst hu;rfl) hown (λ j x hx=>?_) hbase ?_ (by simp;omega) hk
 · cases j with
   | zero =>
    simp at hx;subst hx
    intro j v hv
    cases j with
    | zero=>simp at hv;subst hv;simpa using hc
    | succ j=>simp at hv
   | succ j=>simp at hx
 · simp only [List.length_cons,List.length_nil]
   exact Nat.le_trans (Nat.mul_le_mul (Nat.add_le_add_right hl 1) hby) (by decide)
def Qo (w:World) (pb:Nat) (sv:Value) (l:List ByteArray):Prop:=w.cell? ⟨pb,0,none⟩=some sv∧Ze w 1 KQ sv l∧∀ A m c,sv = .slice (some A) m c→pb < A.block
theorem Qo.ext {w w':World} {pb:Nat} {sv:Value} {l:List ByteArray} (h:Qo w pb sv l) (e:Ext w w'):Qo w' pb sv l:=⟨e.cell h.1,h.2.1.ext H1 e,h.2.2⟩
theorem xv {w0 w:World} {QP:List PanicEntry→World→Prop} {ku:World→Prop} {pb lo p:Nat} {sv:Value} {l:List ByteArray} (s:ByteArray) {T T':TypeId} (hp:p=w.heap.size) (e:Ext w0 w) (h0:w0.heap.size≤pb) (hlo:pb < lo) (o3:w.heap[pb]?=some (.cells #[sv] T (0,0))) (hO:Z5 w lo 9 1 W7 sv l) (hs:lo≤w.heap.size) (hl:l.length≤1048576)
 (hk:∀ w' sv',Ext w0 w'→w'.heap[pb]?=some (.cells #[sv'] T (0,0))→Z5 w' lo 9 1 W7 sv' (l++[s])→lo≤w'.heap.size→ku w') :
 opV Pg (Builtin.append_ #[82,82] 82 #[sv,.slice (some ⟨p,0,none⟩) 1 1]) QP (w.alloc (.cells #[.string s] T')) (λ t w=>opU Pg (Instr.storeAt 82 (.pointer (some ⟨pb,0,none⟩)) t) QP w ku):=by
 subst hp
 have l3:pb < w.heap.size:=(Array.getElem?_eq_some_iff.1 o3).1
 have o3':=((Ext.refl w).alloc (.cells #[.string s] T')).obj o3
 refine jC s (hO.ext ((Ext.refl w).alloc _)) (by rw [Uo];rfl) (Nat.le_trans hs (by simp)) hl ?_
 intro v' w' hO' hg
 have hne:some pb≠sv.ownBlock:=by
  intro h
  have:=hO.lt pb h.symm
  omega
 have o3w:w'.heap[pb]?=some (.cells #[sv] T (0,0)):=by rw [hg.block pb (by simp;omega) hne];exact o3'
 have eg:Ext w0 w':=(e.alloc _).grown hg (λ k hk=>by have:=hO.lt k hk;omega)
 have hv:=(hO'.slice (E:=KQ) (λ _=>rfl) (λ _ _=>rfl)).oneCell
 rw [Bc Zah hv ((Za o3w).1 0) ((Za o3w).2 0)]
 refine hk _ v' (eg.setCell h0 _) ?_ ((hO'.range.only (Yu.setCell w' pb 0 v') (.inr (.inl hlo))).1) ?_
 · have:=Z2 (o:=0) o3w v'
   simpa using this
 · have:=hg.size
   simp at this ⊢
   omega
theorem qr (w0:World) (v:Value) (m:ZD) (hm:Xe w0 v m) (hb:(Z0 m.fields).length≤1048576) :
 Ret Pg 32 #[v] w0 λ r w'=>∃ pb sv,r = .func (.func 69) #[] #[.pointer (some ⟨pb,0,none⟩)]∧Qo w' pb sv (Z0 m.fields)∧w0.heap.size≤pb∧Ext w0 w':=by
 obtain ⟨fv,rfl,hF⟩:=hm
 obtain ⟨A,c,rfl,hlc,hcm,hlm,hel⟩:=Ze.open hF
 refine Zfg (R:=ZQ _) ?_;unfold n52
 simp (disch:=try exact DI) only [↓PR,QR,simprocAttr]
 generalize hW:World.alloc (World.alloc w0 _) _=W
 have e0:Ext w0 W:=by rw [← hW];exact ee
 have hsz:W.heap.size=w0.heap.size+1+1:=by rw [← hW];simp only [World.size_alloc]
 have o3:W.heap[w0.heap.size+1]?=some (.cells #[.slice none 0 0] 82 (0,0)):=by rw [← hW];simp (disch:=try exact DI) only [↓PR,QR,simprocAttr]
 clear hW
 refine ZA (λ a0 w=>∃ (k:Nat) , a0 = .int .i64 (k:Int)∧k≤m.fields.length∧Ext w0 w∧(∃ sv,w.heap[w0.heap.size+1]?=some (.cells #[sv] 82 (0,0))∧Z5 w W.heap.size 9 1 W7 sv (Z0 (m.fields.take k))∧W.heap.size≤w.heap.size)) (λ a0 _=>m.fields.length - (intOf a0).toNat) ⟨0,rfl,Nat.zero_le _,ee,⟨_,o3,Z5.nil _ _ _ _ _,Nat.le_refl _⟩⟩ ?_
 rintro _ w ⟨k,rfl,hk,e,hI⟩
 have se:=e.size
 rcases ZB hk with ⟨x,hx,hd,hlt,hdec⟩ | ⟨hk,hd,hdec⟩
 · obtain ⟨sv,o3,hO,hsW⟩:=hI
   obtain ⟨b,o,cs,rfl,hl,hA,hE⟩:=hel k x hx
   obtain ⟨tv,cv,rfl,hT,hC,ht1,hc1⟩:=hE.op
   have hpre:(Z0 (m.fields.take (k+1)))=Z0 (m.fields.take k)++XQ x:=by unfold Z0;rw [ZU hx,List.flatMap_append];simp
   have hle:(Z0 (m.fields.take (k+1))).length≤1048576:=by
    refine Nat.le_trans ?_ hb
    have:m.fields=m.fields.take (k+1)++m.fields.drop (k+1):=(List.take_append_drop _ _).symm
    conv=>rhs;rw [this]
    unfold Z0
    rw [List.flatMap_append,List.length_append]
    omega
   rw [hpre,List.length_append] at hle
   have hsv:=(hO.slice (E:=KQ) (λ _=>rfl) (λ _ _=>rfl)).oneCell
   simp (disch:=try exact DI) only [↓PR,QR,simprocAttr,↓yJ,↓xc,↓yT,↓GR,↓JO,↓xi,↓xk,hdec,hA.c15]
   generalize hW1:World.alloc w _=w1
   have e1:Ext w w1:=by rw [← hW1];exact ee
   have o5:w1.heap[w.heap.size]?=some (.cells (Zo x tv cv).toArray 48 (0,0)):=by rw [← hW1];simp (disch:=try exact DI) only [↓PR,QR,simprocAttr]
   clear hW1
   have s1:=e1.size
   have e01:=e.trans e1
   have o31:=e1.obj o3
   have hO1:=hO.ext e1
   have l5:w.heap.size < w1.heap.size:=(Array.getElem?_eq_some_iff.1 o5).1
   have l3:w0.heap.size+1 < w1.heap.size:=(Array.getElem?_eq_some_iff.1 o31).1
   by_cases hr:x.kind=7∨x.kind=8∨x.kind=12
   · have hrf:XQ x=[x.of]:=by unfold XQ;rw [if_pos hr]
     rw [hrf] at hpre hle
     have key:∀ b,b=true→GR (.pointer (some ⟨w0.heap.size+1,0,none⟩)) (.pointer (some ⟨w.heap.size,0,none⟩)) (.int .i64 (k:Int)) (.int .i64 x.kind) (.bool b) (λ a0' w'=>(∃ k:Nat,a0'=Value.int IntKind.i64 (k:Int)∧k≤m.fields.length∧Ext w0 w'∧∃ sv,w'.heap[w0.heap.size+1]?=some (.cells #[sv] 82 (0,0))∧Z5 w' W.heap.size 9 1 W7 sv (Z0 (m.fields.take k))∧W.heap.size≤w'.heap.size)∧m.fields.length - (intOf a0').toNat < m.fields.length - (intOf (Value.int IntKind.i64 (k:Int))).toNat)
      (ZQ λ r w'=>∃ pb sv,r = .func (.func 69) #[] #[.pointer (some ⟨pb,0,none⟩)]∧Qo w' pb sv (Z0 m.fields)∧w0.heap.size≤pb∧Ext w0 w') w1:=by
      rintro b rfl
      simp (disch:=try exact DI) only [↓PR,QR,simprocAttr,↓yJ,↓xc,↓yT,↓GR,↓JO,↓xi,↓xk,(Za o31).1,(Za o5).1]
      refine xv x.of rfl e01 (by omega) (by omega) o31 hO1 (by omega) (by simp at hle;omega) ?_
      intro w2 sv2 e2 o32 hO2 hs2
      rw [← hpre] at hO2
      simp (disch:=try exact DI) only [↓PR,QR,simprocAttr]
      exact ⟨⟨k+1,rfl,by omega,ee,⟨sv2,o32,hO2,hs2⟩⟩,ZF (kd := .i64) hlt⟩
     simp only [World.size_alloc]
     rcases hr with h | h | h
     · rw [h] at key ⊢
       simp (disch:=try exact DI) only [↓PR,QR,simprocAttr]
       exact key true rfl
     · rw [h] at key ⊢
       simp (disch:=try exact DI) only [↓PR,QR,simprocAttr,↓JO]
       exact key true rfl
     · rw [h] at key ⊢
       simp (disch:=try exact DI) only [↓PR,QR,simprocAttr,↓JO]
       exact key true rfl
   · have h7:(x.kind == 7)=false:=by simp;omega
     have h8:(x.kind == 8)=false:=by simp;omega
     have h12:(x.kind == 12)=false:=by simp;omega
     simp only [World.size_alloc]
     by_cases h9:x.kind=9
     · have h9':(x.kind == 9)=true:=by simp [h9]
       have hrf:XQ x=x.cases.map (·.of):=by unfold XQ;rw [if_neg hr,if_pos h9]
       rw [hrf] at hpre hle
       obtain ⟨A',c',rfl,hlc',hcm',hlm',hel'⟩:=Ze.open hC
       simp (disch:=try exact DI) only [↓PR,QR,simprocAttr,↓yJ,↓xc,↓yT,↓GR,↓JO,↓xi,↓xk,h7,h8,h12,h9',(Za o5).1]
       refine ZA (λ a0 wa=>∃ (ka:Nat) , a0 = .int .i64 (ka:Int)∧ka≤x.cases.length∧Ext w0 wa∧(∃ sv,wa.heap[w0.heap.size+1]?=some (.cells #[sv] 82 (0,0))∧Z5 wa W.heap.size 9 1 W7 sv (Z0 (m.fields.take k)++(x.cases.take ka).map (·.of))∧W.heap.size≤wa.heap.size)) (λ a0 _=>x.cases.length - (intOf a0).toNat) ⟨0,rfl,Nat.zero_le _,ee,⟨sv,o31,by simpa using hO1,by omega⟩⟩ ?_
       rintro _ wa ⟨ka,rfl,hka,ea,hIa⟩
       have sea:=ea.size
       rcases ZB hka with ⟨xa,hxa,hda,hlta,hdeca⟩ | ⟨hka,hda,hdeca⟩
       · obtain ⟨sva,oa,hOa,hsa⟩:=hIa
         obtain ⟨b',o',cs',rfl,_,hA',rfl⟩:=hel' ka xa hxa
         have la:w0.heap.size+1 < wa.heap.size:=(Array.getElem?_eq_some_iff.1 oa).1
         have oa':=((Ext.refl wa).alloc (.cells #[.int .i64 xa.low,.int .i64 xa.high,.string xa.of] 60)).obj oa
         have hla:(x.cases.take ka).length≤x.cases.length:=by rw [List.length_take];omega
         simp (disch:=try exact DI) only [↓PR,QR,simprocAttr,↓yJ,↓xc,↓yT,↓GR,↓JO,↓xi,↓xk,hdeca,hA'.c3,(Za oa').1,(Za oa).1]
         refine xv xa.of (by simp only [World.size_alloc]) (ea.alloc _) (by omega) (by omega) oa' (hOa.ext ((Ext.refl wa).alloc _)) (by simp;omega) (by simp at hle hla ⊢;omega) ?_
         intro w2 sv2 e2 o32 hO2 hs2
         simp (disch:=try exact DI) only [↓PR,QR,simprocAttr]
         have hO3:Z5 w2 W.heap.size 9 1 W7 sv2 (Z0 (m.fields.take k)++(x.cases.take (ka+1)).map (·.of)):=by
          rw [ZU hxa,List.map_append,← List.append_assoc];exact hO2
         exact ⟨⟨ka+1,rfl,by omega,ee,⟨sv2,o32,hO3,hs2⟩⟩,ZF (kd := .i64) hlta⟩
       · subst hka
         obtain ⟨sva,oa,hOa,hsa⟩:=hIa
         rw [List.take_length,← hpre] at hOa
         simp (disch:=try exact DI) only [↓PR,QR,simprocAttr,↓yJ,↓xc,↓yT,↓GR,↓JO,↓xi,↓xk,hdeca]
         exact ⟨⟨k+1,rfl,by omega,ee,⟨sva,oa,hOa,hsa⟩⟩,ZF (kd := .i64) hlt⟩
     · have h9':(x.kind == 9)=false:=by simp;omega
       have hrf:XQ x=[]:=by unfold XQ;rw [if_neg hr,if_neg h9]
       rw [hrf,List.append_nil] at hpre
       rw [← hpre] at hO1
       simp (disch:=try exact DI) only [↓PR,QR,simprocAttr,↓yJ,↓xc,↓yT,↓GR,↓JO,↓xi,↓xk,h7,h8,h12,h9',(Za o5).1]
       exact ⟨⟨k+1,rfl,by omega,ee,⟨sv,o31,hO1,by omega⟩⟩,ZF (kd := .i64) hlt⟩
 · subst hk
   obtain ⟨sv,o3,hO,hsW⟩:=hI
   rw [List.take_length] at hO
   simp (disch:=try exact DI) only [↓PR,QR,simprocAttr,↓yJ,↓xc,↓yT,↓GR,↓JO,↓xi,↓xk,hdec]
   have hS:=hO.slice (E:=KQ) (λ _=>rfl) (λ _ _=>rfl)
   exact ⟨_,sv,rfl,⟨(Za o3).1 0,hS,λ A m c e=>by subst e;have:=hO.lt A.block rfl;omega⟩,by omega,e⟩
theorem zR (w0:World) (v:Value) (l:List ByteArray) (s:ByteArray) (hs:Ze w0 1 KQ v l) :
 Ret Pg 98 #[v,.string s] w0 λ r w'=>r = .int .i64 (idx (λ y=>decide (s=y)) l)∧Ext w0 w':=by
 obtain ⟨A,c,rfl,hlc,hcm,hlm,hel⟩:=Ze.open hs
 refine Zdd (R:=ZQ _) ?_;unfold Zc7
 simp (disch:=try exact DI) only [↓PR,QR,simprocAttr]
 refine ZA (λ a0 w=>∃ (k:Nat) , a0 = .int .i64 (k:Int)∧k≤l.length∧Ext w0 w∧∀ (j:Nat) y,j < k→l[j]?=some y→decide (s=y)=false) (λ a0 _=>l.length - (intOf a0).toNat) ⟨0,rfl,Nat.zero_le _,ee,λ j y h=>by omega⟩ ?_
 rintro _ w ⟨k,rfl,hk,e,hI⟩
 have se:=e.size
 rcases ZB hk with ⟨x,hx,hd,hlt,hdec⟩ | ⟨hk,hd,hdec⟩
 · obtain ⟨b,o,cs,rfl,hl,hA,rfl⟩:=hel k x hx
   simp (disch:=try exact DI) only [↓PR,QR,simprocAttr,hdec,hA.c1,↓Ff]
   cases hp:decide (s=x) with
   | true =>
    simp (disch:=try exact DI) only [↓PR,QR,simprocAttr]
    exact ⟨by rw [Qs hx hp hI],e⟩
   | false =>
    simp (disch:=try exact DI) only [↓PR,QR,simprocAttr]
    exact ⟨⟨k+1,rfl,by omega,ee,Wi hI hx hp⟩,ZF (kd := .i64) hlt⟩
 · subst hk
   simp (disch:=try exact DI) only [↓PR,QR,simprocAttr,hdec,↓Ff]
   exact ⟨by rw [Wq λ j y hy=>hI j y (List.getElem?_eq_some_iff.1 hy).1 hy],e⟩
theorem Jt (w0:World) (v:Value) (l:List ByteArray) (s:ByteArray) (hs:Ze w0 1 KQ v l) :
 Ret Pg 70 #[v,.string s] w0 λ r w'=>r = .bool (l.any λ y=>decide (s=y))∧Ext w0 w':=by
 refine ZcE (R:=ZQ _) ?_;unfold Zbu
 refine Zt (zR _ _ l s hs) ?_
 rintro r w' ⟨rfl,e⟩
 simp (disch:=try exact DI) only [↓PR,QR,simprocAttr,Sw.joinK_eq]
 exact ⟨by rw [Y7],e⟩
def Yj:List ByteArray→List ByteArray→List ByteArray
 | _,[]=>[]
 | seen,s::l=>if seen.any (λ y=>decide (s=y)) then Yj (seen++[s]) l else s::Yj (seen++[s]) l
def CS (l:List ByteArray) (k:Nat):Value:=match l[k]? with
 | some s => .string s
 | none=>undef
theorem qz (pb:Nat) (sv:Value) (l:List ByteArray):IB Pg 69 #[.pointer (some ⟨pb,0,none⟩)] (Yj [] l).length (CS (Yj [] l)) (λ w=>Qo w pb sv l):=by
 intro yv J Jx Jp w hFP hJe hJx hstep h0
 obtain ⟨hc,hT,_⟩:=hFP 0 w h0
 obtain ⟨A,c,rfl,hlc,hcm,hlm,hel⟩:=Ze.open hT
 refine ZdE (t0:=yv) (t1 := .pointer (some ⟨pb,0,none⟩)) ?_
 unfold n53
 simp (disch:=try exact DI) only [↓PR,QR,simprocAttr,hc]
 refine ZA (λ i w=>∃ k j:Nat,i = .int .i64 k∧k≤l.length∧J j w∧j≤(Yj [] l).length∧(Yj [] l).drop j=Yj (l.take k) (l.drop k)) (λ i _=>l.length - (intOf i).toNat) ⟨0,0,rfl,by omega,h0,by omega,rfl⟩ ?_
 rintro i w' ⟨k,j,rfl,hk,hJ,hj,hD⟩
 rcases ZB hk with ⟨x,hx,hd,hlt,hdec⟩ | ⟨hk,hd,hdec⟩
 · obtain ⟨hc',hT',_⟩:=hFP j w' hJ
   obtain ⟨A',c',hv,_,hcm',_,hel'⟩:=Ze.open hT'
   injection hv with hv _ hv'
   subst hv hv'
   obtain ⟨b,o,cs,rfl,hl,hA,rfl⟩:=hel' k x hx
   have er:=Ext.refl w'
   rw [hd] at hD
   simp only [Yj] at hD
   simp (disch:=try exact DI) only [↓PR,QR,simprocAttr,↓Ab,↓j0,hdec,hA.c1,hc']
   rw [JZ Tryz.underlying82 ty9 b o l.length c .i64 k (by omega)]
   have hlen:(l.take k).length=k:=by rw [List.length_take];omega
   have hpre:Ze w' 1 KQ (.slice (some ⟨b,o,none⟩) k c) (l.take k):=by
    refine ⟨_,c,by rw [hlen],by rw [hlen];omega,hcm,λ _=>⟨b,o,rfl,λ i y hy=>?_⟩⟩
    rw [List.getElem?_take] at hy
    split at hy
    · obtain ⟨b',o',cs,hA',h1,h2,h3⟩:=hel' i y hy
      injection hA' with hA'
      injection hA' with h5 h6
      subst h5 h6
      exact ⟨cs,h1,h2,h3⟩
    · cases hy
   refine zcr (Jt w' _ _ x hpre) λ w2 e2=>?_
   have hJ2:=hJe j w' w2 hJ e2
   have htk:l.take (k+1)=l.take k++[x]:=ZU hx
   cases hany:(l.take k).any (λ y=>decide (x=y)) with
   | true =>
    rw [hany,if_pos rfl,← htk] at hD
    simp (disch:=try exact DI) only [↓PR,QR,simprocAttr,↓Ab,↓j0]
    exact ⟨⟨k+1,j,rfl,by omega,hJ2,hj,hD⟩,ZF (kd := .i64) hlt⟩
   | false =>
    rw [hany,if_neg (by simp),← htk] at hD
    have hjl:j < (Yj [] l).length:=by
     have:=congrArg List.length hD
     simp at this
     omega
    have hxj:(Yj [] l)[j]?=some x:=by
     have:=congrArg (λ l=>l[0]?) hD
     simpa using this
    have hD2:(Yj [] l).drop (j+1)=Yj (l.take (k+1)) (l.drop (k+1)):=by
     rw [← List.tail_drop,hD];rfl
    have hs:=hstep j hjl w2 hJ2
    rw [show CS (Yj [] l) j = .string x by unfold CS;rw [hxj]] at hs
    simp (disch:=try exact DI) only [↓PR,QR,simprocAttr,↓Ab,↓j0]
    refine J1 hs (λ ch w h=>h) ?_
    rintro v w3 (⟨rfl,h2⟩ | ⟨rfl,h2⟩)
    · simp (disch:=try exact DI) only [↓PR,QR,simprocAttr,↓Ab,↓j0]
      exact ⟨⟨k+1,j+1,rfl,by omega,h2,hjl,hD2⟩,ZF (kd := .i64) hlt⟩
    · simp (disch:=try exact DI) only [↓PR,QR,simprocAttr,↓Ab,↓j0]
      exact .inr h2
 · subst hk
   simp (disch:=try exact DI) only [↓PR,QR,simprocAttr,↓Ab,↓j0,hdec]
   rw [hd] at hD
   have hjl:j=(Yj [] l).length:=by
    have:=congrArg List.length hD
    simp [Yj] at this
    omega
   rw [← hjl]
   exact .inl hJ
def ZC {β:Type} (l:List (ByteArray×β)) (s:ByteArray):Option β:=(l.reverse.find? (λ p=>decide (p.1=s))).map (·.2)
theorem J2 {β:Type} (ps:List (ByteArray×β)) (p:ByteArray×β) (s:ByteArray):ZC (ps++[p]) s=if p.1=s then some p.2 else ZC ps s:=by
 unfold ZC
 rw [List.reverse_append,List.reverse_singleton,List.singleton_append,List.find?_cons]
 by_cases h:p.1=s<;>simp [h]
theorem Vj {β:Type} {ps:List (ByteArray×β)} {s:ByteArray} {v:β} (h:ZC ps s=some v):(s,v)∈ps:=by
 unfold ZC at h
 obtain ⟨q,hq,rfl⟩:=Option.map_eq_some_iff.1 h
 have h1:=List.find?_some hq
 have h2:=List.mem_of_find?_eq_some hq
 simp only [decide_eq_true_eq] at h1
 subst h1
 exact List.mem_reverse.1 h2
def vI (l:List (ByteArray×Int)):List (ByteArray×Value):=l.map λ p=>(p.1,.int .i64 p.2)
def vB (l:List (ByteArray×Bool)):List (ByteArray×Value):=l.map λ p=>(p.1,.bool p.2)
theorem jw {β:Type} (g:β→Value) (l:List (ByteArray×β)) (s:ByteArray):Yh (l.map λ p=>(p.1,g p.2)) s=(ZC l s).map g:=by
 unfold Yh ZC
 rw [← List.map_reverse,List.find?_map]
 simp only [Option.map_map]
 rfl
theorem Wh (l:List (ByteArray×Int)) (s:ByteArray):Yh (vI l) s=(ZC l s).map λ n => .int .i64 n:=jw _ l s
theorem zI (l:List (ByteArray×Bool)) (s:ByteArray):Yh (vB l) s=(ZC l s).map Value.bool:=jw _ l s
theorem BZ (l:List (ByteArray×Bool)) (s:ByteArray):Ci (vB l) s=(ZC l s).getD false:=by
 unfold Ci;rw [zI];cases ZC l s<;>rfl
structure CkO (a0 w:World) (cb md ms:Nat) (deps:List (ByteArray×Int)) (strs:List (ByteArray×Bool)) (at_ fld:Int) (fs:List Zm):Prop where
 ext:Ext a0 w
 obj:∃ dn mv ds mn fv,w.heap[cb]?=some (.cells #[.string dn,mv,.string ds,.map (some md),.map (some ms),.int .i64 at_,.int .i64 fld,.string mn,fv] 164 (0,0))∧Z4 a0 fv fs
 mdeps:YG w md (vI deps)
 mstrs:YG w ms (vB strs)
 lcb:a0.heap.size≤cb
 lmd:a0.heap.size≤md
 lms:a0.heap.size≤ms
 ne:md≠ms
section
variable {a0 w w':World} {cb md ms:Nat} {deps:List (ByteArray×Int)} {strs:List (ByteArray×Bool)} {at_ fld:Int} {fs:List Zm}
theorem CkO.chk (h:CkO a0 w cb md ms deps strs at_ fld fs):Chk w cb md ms (vI deps) (vB strs) at_ fld fs:=by
 obtain ⟨dn,mv,ds,mn,fv,h1,h2⟩:=h.obj
 refine ⟨⟨dn,mv,ds,mn,fv,h1,h2.ext h.ext⟩,h.mdeps,h.mstrs,λ k v hv=>?_,λ k v hv=>?_⟩
 · rw [Wh] at hv;obtain ⟨n,_,rfl⟩:=Option.map_eq_some_iff.1 hv;exact ⟨n,rfl⟩
 · rw [zI] at hv;obtain ⟨n,_,rfl⟩:=Option.map_eq_some_iff.1 hv;exact ⟨n,rfl⟩
theorem CkO.nd (h:CkO a0 w cb md ms deps strs at_ fld fs):cb≠md∧cb≠ms∧cb < w.heap.size∧md < w.heap.size∧ms < w.heap.size:=by
 obtain ⟨dn,mv,ds,mn,fv,h1,h2⟩:=h.obj
 refine ⟨?_,?_,(Array.getElem?_eq_some_iff.1 h1).1,h.mdeps.lt,h.mstrs.lt⟩
 · rintro rfl;have:=h.mdeps.obj;rw [h1] at this;cases this
 · rintro rfl;have:=h.mstrs.obj;rw [h1] at this;cases this
theorem CkO.go (h:CkO a0 w cb md ms deps strs at_ fld fs) (e:Ext w w'):CkO a0 w' cb md ms deps strs at_ fld fs:=by
 obtain ⟨dn,mv,ds,mn,fv,h1,h2⟩:=h.obj
 exact ⟨h.ext.trans e,⟨dn,mv,ds,mn,fv,e.obj h1,h2⟩,h.mdeps.ext e,h.mstrs.ext e,h.lcb,h.lmd,h.lms,h.ne⟩
theorem CkO.other (h:CkO a0 w cb md ms deps strs at_ fld fs) {b o:Nat} (hb:a0.heap.size≤b) (hn:b≠cb) (v:Value):CkO a0 (w.setCell ⟨b,o,none⟩ v) cb md ms deps strs at_ fld fs:=by
 obtain ⟨dn,mv,ds,mn,fv,h1,h2⟩:=h.obj
 refine ⟨h.ext.setCell hb v,⟨dn,mv,ds,mn,fv,?_,h2⟩,h.mdeps.setCell _ _,h.mstrs.setCell _ _,h.lcb,h.lmd,h.lms,h.ne⟩
 rw [Yu.setCell w b o v cb (λ e=>hn e.symm)];exact h1
theorem CkO.setFld (h:CkO a0 w cb md ms deps strs at_ fld fs) (n:Int):CkO a0 (w.setCell ⟨cb,6,none⟩ (.int .i64 n)) cb md ms deps strs at_ n fs:=by
 obtain ⟨dn,mv,ds,mn,fv,h1,h2⟩:=h.obj
 exact ⟨h.ext.setCell h.lcb _,⟨dn,mv,ds,mn,fv,Z2 h1 _,h2⟩,h.mdeps.setCell _ _,h.mstrs.setCell _ _,h.lcb,h.lmd,h.lms,h.ne⟩
theorem CkO.setAt (h:CkO a0 w cb md ms deps strs at_ fld fs) (n:Int):CkO a0 (w.setCell ⟨cb,5,none⟩ (.int .i64 n)) cb md ms deps strs n fld fs:=by
 obtain ⟨dn,mv,ds,mn,fv,h1,h2⟩:=h.obj
 exact ⟨h.ext.setCell h.lcb _,⟨dn,mv,ds,mn,fv,Z2 h1 _,h2⟩,h.mdeps.setCell _ _,h.mstrs.setCell _ _,h.lcb,h.lmd,h.lms,h.ne⟩
theorem CkO.setMsg (h:CkO a0 w cb md ms deps strs at_ fld fs) (s:ByteArray) (fv':Value) (fs':List Zm) (hf:Z4 a0 fv' fs'):CkO a0 ((w.setCell ⟨cb,7,none⟩ (.string s)).setCell ⟨cb,8,none⟩ fv') cb md ms deps strs at_ fld fs':=by
 obtain ⟨dn,mv,ds,mn,fv,h1,h2⟩:=h.obj
 exact ⟨(h.ext.setCell h.lcb _).setCell h.lcb _,⟨dn,mv,ds,s,fv',Z2 (Z2 h1 _) _,hf⟩,(h.mdeps.setCell _ _).setCell _ _,(h.mstrs.setCell _ _).setCell _ _,h.lcb,h.lmd,h.lms,h.ne⟩
theorem CkO.putOther (h:CkO a0 w cb md ms deps strs at_ fld fs) {B:Nat} (o:Obj) (hB:a0.heap.size≤B) (h1:B≠cb) (h2:B≠md) (h3:B≠ms):CkO a0 (w.putObj B o) cb md ms deps strs at_ fld fs:=by
 obtain ⟨dn,mv,ds,mn,fv,h4,h5⟩:=h.obj
 exact ⟨h.ext.putObj hB o,⟨dn,mv,ds,mn,fv,(World.putObj_heap_other (λ e=>h1 e.symm)).trans h4,h5⟩,Y1.putOther h.mdeps (λ e=>h2 e.symm) o,Y1.putOther h.mstrs (λ e=>h3 e.symm) o,h.lcb,h.lmd,h.lms,h.ne⟩
theorem CkO.unmark (h:CkO a0 w cb md ms deps strs at_ fld fs) {B:Nat} (hm:Z6 B w) (hB:a0.heap.size≤B):CkO a0 (w.putObj B (.deferred none)) cb md ms deps strs at_ fld fs:=by
 obtain ⟨dn,mv,ds,mn,fv,h4,h5⟩:=h.obj
 refine h.putOther _ hB ?_ ?_ ?_
 · rintro rfl;unfold Z6 at hm;rw [h4] at hm;cases hm
 · rintro rfl;unfold Z6 at hm;have:=h.mdeps.obj;rw [hm] at this;cases this
 · rintro rfl;unfold Z6 at hm;have:=h.mstrs.obj;rw [hm] at this;cases this
theorem CkO.lasts {B:Nat} (hB:a0.heap.size≤B):ZO B (λ w=>CkO a0 w cb md ms deps strs at_ fld fs):=by
 refine ⟨λ w w' h e=>h.go e,λ w l r r' hl h hr=>?_⟩
 obtain ⟨dn,mv,ds,mn,fv,h4,h5⟩:=h.obj
 refine h.putOther _ (by omega) ?_ ?_ ?_
 · rintro rfl;rw [h4] at hr;cases hr
 · rintro rfl;have:=h.mdeps.obj;rw [hr] at this;cases this
 · rintro rfl;have:=h.mstrs.obj;rw [hr] at this;cases this
theorem CkO.turn (h:CkO a0 w cb md ms deps strs at_ fld fs) {o:Obj} {r:Nat} (hr:r=md∨r=ms):CkO a0 w cb md ms deps strs at_ fld fs:=h
theorem Qo.lasts (B pb:Nat) (sv:Value) (l:List ByteArray):ZO B (λ w=>Qo w pb sv l) :=
 ZO.and (ZO.cell B) (ZO.and ⟨λ _ _ h e=>h.ext H1 e,λ _ _ _ _ _ h hl=>Ze.putLoop (λ _ _ h=>h) hl h⟩ (ZO.const _ _))
theorem Qo.set {w:World} {pb:Nat} {sv:Value} {l:List ByteArray} (h:Qo w pb sv l) {b o:Nat} (hb:b < pb) (u:Value):Qo (w.setCell ⟨b,o,none⟩ u) pb sv l :=
 ⟨by rw [XV (by omega)];exact h.1,Ze.setOther h.2.1 u (λ A m c e=>by have:=h.2.2 A m c e;omega) (λ _ _ h=>h),h.2.2⟩
end
def XN (m:ZD):List ByteArray:=Yj [] (Z0 m.fields)
def Y2 (deps:List (ByteArray×Int)) (strs:List (ByteArray×Bool)) (bef:List Zm):List Zm→Int×Int
 | []=>(-1,0)
 | f::l=>if YH bef (vI deps) (vB strs) f=0 then Y2 deps strs (bef++[f]) l else (bef.length,YH bef (vI deps) (vB strs) f)
def Qh (a b:Int):Int:=if b > a then b else a
def XU (deps:List (ByteArray×Int)) (m:ZD):Int:=(XN m).foldl (λ d s=>Qh d ((ZC deps s).getD 0)) 0
def VU (strs:List (ByteArray×Bool)) (m:ZD):Bool:=(m.fields.all λ f=>!f.loose)&&(XN m).all λ s=>(ZC strs s).getD false
def KK (deps:List (ByteArray×Int)) (m:ZD) (r:Int×Int):Int×Int:=if r.2=0 then (if XU deps m < 16 then (-1,0) else (-1,10)) else r
def Qg (deps:List (ByteArray×Int)) (strs:List (ByteArray×Bool)) (m:ZD):Int×Int :=
 if XT m.name then (if (ZC deps m.name).isSome then (-1,2) else (if 1≤m.fields.length∧m.fields.length≤40 then KK deps m (Y2 deps strs [] m.fields) else (-1,3))) else (-1,1)
def Cb (a0:World) (at_:Int) (r:Int×Int) (K:World→Prop):Ending→World→Prop:=λ e w'=>Ext a0 w'∧(r.2=0∧e = .returned (.tuple #[])∧K w'∨r.2≠0∧e = .panicked [Xc at_ r.1 r.2])
theorem Pz {a0 w':World} {at_:Int} {r:Int×Int} {K:World→Prop} (e:Ext a0 w') (h:r.2=0) (hK:K w'):Cb a0 at_ r K (.returned (.tuple #[])) w':=⟨e,.inl ⟨h,rfl,hK⟩⟩
theorem KX {a0 w':World} {at_ a b:Int} {r:Int×Int} {K:World→Prop} (e:Ext a0 w') (h:r=(a,b)) (h0:b≠0):Cb a0 at_ r K (.panicked [Xc at_ a b]) w':=by subst h;exact ⟨e,.inr ⟨h0,rfl⟩⟩
theorem M2 {P:Program} {C:World→Prop} [YV C] {T:TypeId} {a:Addr} {v:Value} {k:Value→Prop} (h:∀ w',C w'→Wk P w' T a v):qV P C (Instr.loadAt T (.pointer (some a))) k=k v :=
 UI λ w' e=>XX λ QP k=>V1 (h w' e)
section
variable {a0 w:World} {cb md ms:Nat} {deps:List (ByteArray×Int)} {strs:List (ByteArray×Bool)} {at_ fld:Int} {fs:List Zm}
theorem P0 (h:CkO a0 w cb md ms deps strs at_ (-1) fs) (p2 p3 p6 p9 B:Nat) (m:ZD) (fv:Value) (st:Bool) (dp:Int) (hd0:0≤dp) (hd1:dp≤1000)
 (o2:w.heap[p2]?=some (.cells #[.pointer (some ⟨cb,0,none⟩)] 140 (0,0))) (o3:w.heap[p3]?=some (.cells (Zx m fv).toArray 24 (0,0))) (o6:w.heap[p6]?=some (.cells #[.bool st] 4 (0,0))) (o9:w.heap[p9]?=some (.cells #[.int .i64 dp] 3 (0,0)))
 (hmk:Z6 B w) (hB:a0.heap.size≤B) (r:Int×Int) (hr:r=if dp < 16 then (-1,0) else (-1,10)) (K:World→Prop)
 (hK:∀ w',CkO a0 w' cb md ms (deps++[(m.name,dp+1)]) (strs++[(m.name,st)]) at_ (-1) fs→K w') :
 Yp w λ C12 w=>IU (.pointer (some ⟨p2,0,none⟩)) (.pointer (some ⟨p3,0,none⟩)) (.pointer (some ⟨p6,0,none⟩)) (.pointer (some ⟨p9,0,none⟩)) C12 [Sw.mark B] (Cb a0 at_ r K) w:=by
 obtain ⟨n1,n2,l1,l2,l3⟩:=h.nd
 have hne:=h.ne
 obtain ⟨dn,mv,ds,mn,fv',h1,h2⟩:=h.obj
 have m2:p2≠md:=by rintro rfl;have:=h.mdeps.obj;rw [o2] at this;cases this
 have m3:p3≠md:=by rintro rfl;have:=h.mdeps.obj;rw [o3] at this;cases this
 have m6:p6≠md:=by rintro rfl;have:=h.mdeps.obj;rw [o6] at this;cases this
 have m9:p9≠md:=by rintro rfl;have:=h.mdeps.obj;rw [o9] at this;cases this
 have q2:p2≠ms:=by rintro rfl;have:=h.mstrs.obj;rw [o2] at this;cases this
 have q3:p3≠ms:=by rintro rfl;have:=h.mstrs.obj;rw [o3] at this;cases this
 have q6:p6≠ms:=by rintro rfl;have:=h.mstrs.obj;rw [o6] at this;cases this
 have q9:p9≠ms:=by rintro rfl;have:=h.mstrs.obj;rw [o9] at this;cases this
 refine Ve (w1:=w) md ms (λ _ _ _ _=>rfl) ?_
 unfold IU
 simp (disch:=try exact DI) only [↓PR,QR,simprocAttr,(Za h1).1,(Za o2).1,(Za o3).1,(Za o6).1,(Za o9).1]
 have eD:Ext w w.drew:=(Ext.refl w).drew
 have hmd:YG w.drew md (vI deps):=h.mdeps.ext eD
 rw [zd Tryz.underlying161 Tryz.underlying9 ty3 hmd m.name]
 refine ⟨λ b hb b1 b2=>(World.putObj_heap_other b1),?_⟩
 unfold Nz
 simp (disch:=try exact DI) only [↓PR,QR,simprocAttr]
 rw [Jv (Y1.ent hmd m.name _) (De _ _),H4,Ju]
 have hw1:w.drew.putObj md (WC (λ s:ByteArray=>Value.string s) (Ub (bld (vI deps)).1 (bld (vI deps)).2 m.name (.int .i64 (IntKind.i64.wrap (dp+1)))) (Ul (bld (vI deps)).1 (bld (vI deps)).2 m.name))=putW w.drew md (vI deps) m.name (.int .i64 (IntKind.i64.wrap (dp+1))):=by
  unfold putW;rw [Ut]
 rw [hw1]
 have hms:YG (putW w.drew md (vI deps) m.name (.int .i64 (IntKind.i64.wrap (dp+1)))) ms (vB strs):=Y1.putOther (h.mstrs.ext eD) (λ e=>hne e.symm) _
 refine ⟨λ b hb b1 b2=>(World.putObj_heap_other b1),?_⟩
 rw [zd Tryz.underlying162 Tryz.underlying9 ty4 hms m.name]
 refine ⟨λ b hb b1 b2=>(World.putObj_heap_other b2).trans (World.putObj_heap_other b1),?_⟩
 unfold OU
 simp (disch:=try exact DI) only [↓PR,QR,simprocAttr]
 rw [Jv (Y1.ent hms m.name _) (De _ _),H4,Ju]
 have hw2:(putW w.drew md (vI deps) m.name (.int .i64 (IntKind.i64.wrap (dp+1)))).putObj ms (WC (λ s:ByteArray=>Value.string s) (Ub (bld (vB strs)).1 (bld (vB strs)).2 m.name (.bool st)) (Ul (bld (vB strs)).1 (bld (vB strs)).2 m.name))=putW (putW w.drew md (vI deps) m.name (.int .i64 (IntKind.i64.wrap (dp+1)))) ms (vB strs) m.name (.bool st):=by
  unfold putW;rw [Ut,Ut]
 rw [hw2]
 have hwr:IntKind.i64.wrap (dp+1)=dp+1:=Yk (by omega) (by omega)
 rw [hwr]
 have hC2:CkO a0 (putW (putW w.drew md (vI deps) m.name (.int .i64 (dp+1))) ms (vB strs) m.name (.bool st)) cb md ms (deps++[(m.name,dp+1)]) (strs++[(m.name,st)]) at_ (-1) fs:=by
  refine ⟨(h.ext.drew.putObj h.lmd _).putObj h.lms _,⟨dn,mv,ds,mn,fv',((World.putObj_heap_other n2).trans (World.putObj_heap_other n1)).trans h1,h2⟩,?_,?_,h.lcb,h.lmd,h.lms,hne⟩
  · have:=Y1.putOther (hmd.put m.name (.int .i64 (dp+1))) hne (Jf (bld (vB strs++[(m.name,.bool st)])).1 (bld (vB strs++[(m.name,.bool st)])).2)
    unfold vI at this ⊢
    rw [List.map_append]
    exact this
  · rw [hwr] at hms
    have:=hms.put m.name (.bool st)
    unfold vB at this ⊢
    rw [List.map_append]
    exact this
 have hk2:Z6 B (putW (putW w.drew md (vI deps) m.name (.int .i64 (dp+1))) ms (vB strs) m.name (.bool st)):=by
  have b1:B≠md:=by rintro rfl;have:=h.mdeps.obj;unfold Z6 at hmk;rw [hmk] at this;cases this
  have b2:B≠ms:=by rintro rfl;have:=h.mstrs.obj;unfold Z6 at hmk;rw [hmk] at this;cases this
  exact ((World.putObj_heap_other b2).trans (World.putObj_heap_other b1)).trans hmk
 have o2':(putW (putW w.drew md (vI deps) m.name (.int .i64 (dp+1))) ms (vB strs) m.name (.bool st)).heap[p2]?=some (.cells #[.pointer (some ⟨cb,0,none⟩)] 140 (0,0)):=((World.putObj_heap_other q2).trans (World.putObj_heap_other m2)).trans o2
 have o9':(putW (putW w.drew md (vI deps) m.name (.int .i64 (dp+1))) ms (vB strs) m.name (.bool st)).heap[p9]?=some (.cells #[.int .i64 dp] 3 (0,0)):=((World.putObj_heap_other q9).trans (World.putObj_heap_other m9)).trans o9
 generalize putW (putW w.drew md (vI deps) m.name (.int .i64 (dp+1))) ms (vB strs) m.name (.bool st)=W at hC2 hk2 o2' o9' ⊢
 refine YZ ?_
 unfold M9
 simp (disch:=try exact DI) only [↓PR,QR,simprocAttr,(Za o2').1,(Za o9').1]
 refine ZR (Yt hC2.chk _ 10 (by decide)) (λ w' e h0=>?_) (λ w' e h0=>?_)
 · refine WL (hk2.ext e) ?_
   rw [WT]
   have hC3:=(hC2.go e).unmark (hk2.ext e) hB
   refine Pz hC3.ext ?_ (hK _ hC3)
   rw [hr]
   by_cases hdp:dp < 16
   · rw [if_pos hdp]
   · rw [decide_eq_false hdp] at h0;exact absurd h0 (by decide)
 · refine zP (hk2.ext e) ?_
   rw [Vp]
   have hC3:=(hC2.go e).unmark (hk2.ext e) hB
   by_cases hdp:dp < 16
   · rw [decide_eq_true hdp] at h0;exact absurd rfl h0
   · rw [decide_eq_false hdp]
     rw [if_neg hdp] at hr
     exact KX hC3.ext hr (by decide)
theorem Rl {a b c:Int} (h1:a≤c) (h2:b≤c):Qh a b≤c:=by unfold Qh;split<;>assumption
theorem Ir (a b:Int):a≤Qh a b:=by unfold Qh;split<;>omega
theorem UA (g:ByteArray→Int):∀ (l:List ByteArray) (d:Int),0≤d→(∀ s∈l,0≤g s∧g s≤16)→d≤16→0≤l.foldl (λ d s=>Qh d (g s)) d∧l.foldl (λ d s=>Qh d (g s)) d≤16
 | [],d,h0,_,h1=>⟨h0,h1⟩
 | s::l,d,h0,h,h1=>UA g l _ (Int.le_trans h0 (Ir _ _)) (λ u hu=>h u (List.mem_cons_of_mem _ hu)) (Rl h1 (h s (List.mem_cons_self ..)).2)
def Low (deps:List (ByteArray×Int)):Prop:=∀ p∈deps,0≤p.2∧p.2≤16
theorem Low.get {deps:List (ByteArray×Int)} (h:Low deps) (s:ByteArray):0≤(ZC deps s).getD 0∧(ZC deps s).getD 0≤16:=by
 cases hl:ZC deps s with
 | none=>exact ⟨by decide,by decide⟩
 | some n=>exact h _ (Vj hl)
theorem I4 (hlow:Low deps) (h:CkO a0 w cb md ms deps strs at_ fld fs) (p2 p3 p6:Nat) (m:ZD) (fv:Value) (st:Bool) (hst:st=m.fields.all λ f=>!f.loose) (hF:Z4 a0 fv m.fields) (hb:(Z0 m.fields).length≤1048576) (hp2:a0.heap.size≤p2) (hp3:a0.heap.size≤p3) (hp6:a0.heap.size≤p6) (h26:p2 < p6) (h36:p3 < p6)
 (o2:w.heap[p2]?=some (.cells #[.pointer (some ⟨cb,0,none⟩)] 140 (0,0))) (o3:w.heap[p3]?=some (.cells (Zx m fv).toArray 24 (0,0))) (o6:w.heap[p6]?=some (.cells #[.bool st] 4 (0,0)))
 (r:Int×Int) (hr:r=if XU deps m < 16 then (-1,0) else (-1,10)) (K:World→Prop)
 (hK:∀ w',CkO a0 w' cb md ms (deps++[(m.name,XU deps m+1)]) (strs++[(m.name,VU strs m)]) at_ (-1) fs→K w') :
 BT (.pointer (some ⟨p2,0,none⟩)) (.pointer (some ⟨p3,0,none⟩)) (.pointer (some ⟨p6,0,none⟩)) [] (Cb a0 at_ r K) w:=by
 obtain ⟨n1,n2,l1,l2,l3⟩:=h.nd
 obtain ⟨dn,mv,ds,mn,fv',h1,h2⟩:=h.obj
 have c2:p2≠cb:=by rintro rfl;rw [o2] at h1;cases h1
 have c3:p3≠cb:=by rintro rfl;rw [o3] at h1;cases h1
 have c6:p6≠cb:=by rintro rfl;rw [o6] at h1;cases h1
 have lp6:p6 < w.heap.size:=(Array.getElem?_eq_some_iff.1 o6).1
 have lp3:p3 < w.heap.size:=(Array.getElem?_eq_some_iff.1 o3).1
 unfold BT
 simp (disch:=try exact DI) only [↓PR,QR,simprocAttr,(Za h1).1,(Za h1).2,(Za o2).1,(Za o3).1]
 have hC1:=h.setFld (-1)
 have o2':(w.setCell ⟨cb,6,none⟩ (.int .i64 (-1))).heap[p2]?=some (.cells #[.pointer (some ⟨cb,0,none⟩)] 140 (0,0)):=by rw [Yu.setCell w cb 6 _ p2 c2];exact o2
 have o3':(w.setCell ⟨cb,6,none⟩ (.int .i64 (-1))).heap[p3]?=some (.cells (Zx m fv).toArray 24 (0,0)):=by rw [Yu.setCell w cb 6 _ p3 c3];exact o3
 have o6':(w.setCell ⟨cb,6,none⟩ (.int .i64 (-1))).heap[p6]?=some (.cells #[.bool st] 4 (0,0)):=by rw [Yu.setCell w cb 6 _ p6 c6];exact o6
 simp only [World.size_setCell]
 have eW:=hC1.go ((Ext.refl (w.setCell ⟨cb,6,none⟩ (.int .i64 (-1)))).alloc (Obj.cells #[.int .i64 0] 3))
 have x2:=((Ext.refl (w.setCell ⟨cb,6,none⟩ (.int .i64 (-1)))).alloc (Obj.cells #[.int .i64 0] 3)).obj o2'
 have x3:=((Ext.refl (w.setCell ⟨cb,6,none⟩ (.int .i64 (-1)))).alloc (Obj.cells #[.int .i64 0] 3)).obj o3'
 have x6:=((Ext.refl (w.setCell ⟨cb,6,none⟩ (.int .i64 (-1)))).alloc (Obj.cells #[.int .i64 0] 3)).obj o6'
 have x9:=ZE (w.setCell ⟨cb,6,none⟩ (.int .i64 (-1))) #[.int .i64 0] 3
 rw [World.size_setCell] at x9
 generalize hW:World.alloc (w.setCell ⟨cb,6,none⟩ (.int .i64 (-1))) _=W at eW x2 x3 x6 x9
 have hsz:W.heap.size=w.heap.size+1:=by rw [← hW];simp only [World.size_alloc,World.size_setCell]
 clear hW hC1 o2 o3 o6 o2' o3' o6' h
 have lW:a0.heap.size≤W.heap.size:=eW.ext.size
 refine Zt (qr W _ m ⟨fv,rfl,hF.ext eW.ext⟩ hb) ?_
 rintro _ w7 ⟨pb,sv,rfl,hS,hpb,e7⟩
 have s7:=e7.size
 unfold N2
 let rs:=XN m
 let I:Nat→World→Prop:=λ k w'=>CkO a0 w' cb md ms deps strs at_ (-1) fs∧Qo w' pb sv (Z0 m.fields)∧w'.heap[p2]?=some (.cells #[.pointer (some ⟨cb,0,none⟩)] 140 (0,0))∧w'.heap[p3]?=some (.cells (Zx m fv).toArray 24 (0,0)) ∧
  w'.heap[p6]?=some (.cells #[.bool (st&&(rs.take k).all λ s=>(ZC strs s).getD false)] 4 (0,0))∧w'.heap[w.heap.size]?=some (.cells #[.int .i64 ((rs.take k).foldl (λ d s=>Qh d ((ZC deps s).getD 0)) 0)] 3 (0,0))
 have hLI:∀ k,ZO w7.heap.size (I k):=λ k=>ZO.and (CkO.lasts (by omega)) (ZO.and (Qo.lasts _ _ _ _) (ZO.and (ZO.has _ (by simp)) (ZO.and (ZO.has _ (by simp)) (ZO.and (ZO.has _ (by simp)) (ZO.has _ (by simp))))))
 refine ⟨_,_,rs.length,CS rs,λ w=>Qo w pb sv (Z0 m.fields),I,λ _ _=>False,λ _ _=>False,rfl,c69,qz pb sv _,⟨eW.go e7,hS,e7.obj x2,e7.obj x3,?_,e7.obj x9⟩,λ k w h=>h.2.1,hLI,λ _=>ZO.const _ _,?_,?_,?_,?_⟩
 · have:=e7.obj x6
   rw [this];simp
 · intro rec j w3 hj hI3 hrec hready
   refine ⟨hready,λ w4 hbz=>?_⟩
   have hrec4:=hrec.busied hbz
   have hI4:=(hLI j).busied hbz (Nat.le_succ _) hI3
   clear hI3 hrec hready hbz
   obtain ⟨hC4,hS4,y2,y3,y6,y9⟩:=hI4
   obtain ⟨s,hx⟩:=getElem?_lt hj
   have hrs:rs[j]?=some s:=hx
   rw [show CS rs j = .string s by unfold CS;rw [hrs]]
   obtain ⟨dn,mv,ds,mn,fv',h1,h2⟩:=hC4.obj
   have l9:w.heap.size < w4.heap.size:=(Array.getElem?_eq_some_iff.1 y9).1
   have hstep:rs.take (j+1)=rs.take j++[s]:=ZU hrs
   refine ZI ?_
   unfold MG
   simp (disch:=try exact DI) only [↓PR,QR,simprocAttr,(Za y9).1,(Za y2).1,(Za h1).1]
   rw [yO Tryz.underlying161 Tryz.underlying9 ty3 (hC4.mdeps.ext ((Ext.refl w4).wdrew)) s]
   have hg:(Yh (vI deps) s).getD (.int .i64 0) = .int .i64 ((ZC deps s).getD 0):=by rw [Wh];cases ZC deps s<;>rfl
   rw [hg]
   simp (disch:=try exact DI) only [↓PR,QR,simprocAttr,(Za y9).1,(Za y9).2]
   refine YZ ?_
   have e4:Ext w4 w4.drew:=(Ext.refl w4).wdrew
   have hC5:=(hC4.go e4).other (b:=w.heap.size) (o:=0) (by omega) (by omega) (.int .i64 (if (ZC deps s).getD 0 > (rs.take j).foldl (λ d s=>Qh d ((ZC deps s).getD 0)) 0 then (ZC deps s).getD 0 else (rs.take j).foldl (λ d s=>Qh d ((ZC deps s).getD 0)) 0))
   have hS5:Qo (w4.drew.setCell ⟨w.heap.size,0,none⟩ (.int .i64 (if (ZC deps s).getD 0 > (rs.take j).foldl (λ d s=>Qh d ((ZC deps s).getD 0)) 0 then (ZC deps s).getD 0 else (rs.take j).foldl (λ d s=>Qh d ((ZC deps s).getD 0)) 0))) pb sv (Z0 m.fields):=(hS4.ext e4).set (by omega) _
   have hrec5:Xa rec w7.heap.size (w4.drew.setCell ⟨w.heap.size,0,none⟩ (.int .i64 (if (ZC deps s).getD 0 > (rs.take j).foldl (λ d s=>Qh d ((ZC deps s).getD 0)) 0 then (ZC deps s).getD 0 else (rs.take j).foldl (λ d s=>Qh d ((ZC deps s).getD 0)) 0))):=hrec4.drew.setCell _ _
   have z2:=(Yu.setCell w4.drew w.heap.size 0 (.int .i64 (if (ZC deps s).getD 0 > (rs.take j).foldl (λ d s=>Qh d ((ZC deps s).getD 0)) 0 then (ZC deps s).getD 0 else (rs.take j).foldl (λ d s=>Qh d ((ZC deps s).getD 0)) 0)) p2 (by omega)).trans y2
   have z3:=(Yu.setCell w4.drew w.heap.size 0 (.int .i64 (if (ZC deps s).getD 0 > (rs.take j).foldl (λ d s=>Qh d ((ZC deps s).getD 0)) 0 then (ZC deps s).getD 0 else (rs.take j).foldl (λ d s=>Qh d ((ZC deps s).getD 0)) 0)) p3 (by omega)).trans y3
   have z6:=(Yu.setCell w4.drew w.heap.size 0 (.int .i64 (if (ZC deps s).getD 0 > (rs.take j).foldl (λ d s=>Qh d ((ZC deps s).getD 0)) 0 then (ZC deps s).getD 0 else (rs.take j).foldl (λ d s=>Qh d ((ZC deps s).getD 0)) 0)) p6 (by omega)).trans y6
   have z9:=Z2 (w:=w4.drew) (o:=0) y9 (.int .i64 (if (ZC deps s).getD 0 > (rs.take j).foldl (λ d s=>Qh d ((ZC deps s).getD 0)) 0 then (ZC deps s).getD 0 else (rs.take j).foldl (λ d s=>Qh d ((ZC deps s).getD 0)) 0))
   rw [show (#[Value.int .i64 ((rs.take j).foldl (λ d s=>Qh d ((ZC deps s).getD 0)) 0)]:Array Value).setIfInBounds 0 (.int .i64 (if (ZC deps s).getD 0 > (rs.take j).foldl (λ d s=>Qh d ((ZC deps s).getD 0)) 0 then (ZC deps s).getD 0 else (rs.take j).foldl (λ d s=>Qh d ((ZC deps s).getD 0)) 0)) = #[.int .i64 ((rs.take (j+1)).foldl (λ d s=>Qh d ((ZC deps s).getD 0)) 0)] from by rw [hstep,List.foldl_append];rfl] at z9
   generalize w4.drew.setCell ⟨w.heap.size,0,none⟩ _=w5 at hC5 hS5 hrec5 z2 z3 z6 z9 ⊢
   clear hC4 hS4 hrec4 y2 y3 y6 y9 h1 hg
   obtain ⟨dn,mv,ds,mn,fv',h1,h2⟩:=hC5.obj
   have hall:(st&&(rs.take (j+1)).all λ s=>(ZC strs s).getD false)=((st&&(rs.take j).all λ s=>(ZC strs s).getD false)&&(ZC strs s).getD false):=by
    rw [hstep,List.all_append,Bool.and_assoc];simp
   have fin:∀ b,b=(st&&(rs.take (j+1)).all λ s=>(ZC strs s).getD false)→Xa rec w7.heap.size (w5.setCell ⟨p6,0,none⟩ (.bool b))∧I (j+1) (w5.setCell ⟨p6,0,none⟩ (.bool b)):=by
    rintro b rfl
    refine ⟨hrec5.setCell _ _,hC5.other hp6 c6 _,hS5.set (by omega) _,(Yu.setCell w5 p6 0 _ p2 (by omega)).trans z2,(Yu.setCell w5 p6 0 _ p3 (by omega)).trans z3,?_,(Yu.setCell w5 p6 0 _ w.heap.size (by omega)).trans z9⟩
    have:=Z2 (o:=0) z6 (.bool (st&&(rs.take (j+1)).all λ s=>(ZC strs s).getD false))
    simpa using this
   rw [hall] at fin
   generalize (st&&(rs.take j).all λ s=>(ZC strs s).getD false)=sj at z6 fin
   unfold Oh
   have hg:(Yh (vB strs) s).getD (.bool false) = .bool ((ZC strs s).getD false):=by rw [zI];cases ZC strs s<;>rfl
   cases sj with
   | false =>
    simp (disch:=try exact DI) only [↓PR,QR,simprocAttr,(Za z6).1,(Za z6).2,↓Dy,↓M3,↓Oh,↓MG,↓M9,↓OU,↓Nz,↓IU,↓N2,↓BT,↓EU,↓BR,↓j3,↓Fu,↓Fw,↓Hs,↓BW,↓FZ]
    exact fin false rfl
   | true =>
    simp (disch:=try exact DI) only [↓PR,QR,simprocAttr,(Za z6).1,(Za z6).2,(Za z2).1,(Za h1).1]
    rw [WZ Tryz.underlying162 Tryz.underlying9 ty4 hC5.mstrs s,hg]
    generalize (ZC strs s).getD false=b at fin
    simp (disch:=try exact DI) only [↓PR,QR,simprocAttr,(Za z6).1,(Za z6).2,Dy]
    exact fin b (by cases b<;>rfl)
 · rintro w3 hI3 hmk
   obtain ⟨hC3,hS3,y2,y3,y6,y9⟩:=hI3
   rw [List.take_length] at y6 y9
   have hfold:=UA (λ s=>(ZC deps s).getD 0) rs 0 (by decide) (λ s _=>hlow.get s) (by decide)
   refine P0 hC3 p2 p3 p6 w.heap.size w7.heap.size m fv _ _ hfold.1 (by have:=hfold.2;omega) y2 y3 y6 y9 hmk (by omega) r hr K ?_
   rw [hst]
   exact hK
 · rintro c w3 h
   exact h.elim
 · rintro ch w3 h
   exact h.elim
end
section
variable {a0 w:World} {cb md ms:Nat} {deps:List (ByteArray×Int)} {strs:List (ByteArray×Bool)} {at_ fld:Int} {m:ZD}
theorem Pf (hlow:Low deps) (h:CkO a0 w cb md ms deps strs at_ fld m.fields) (p2 p3:Nat) (fv:Value) (hF:Z4 a0 fv m.fields) (hb:(Z0 m.fields).length≤1048576) (ht:∀ f∈m.fields,f.terms.length≤1048576) (hp2:a0.heap.size≤p2) (hp3:a0.heap.size≤p3)
 (o2:w.heap[p2]?=some (.cells #[.pointer (some ⟨cb,0,none⟩)] 140 (0,0))) (o3:w.heap[p3]?=some (.cells (Zx m fv).toArray 24 (0,0)))
 (r:Int×Int) (hr:r=KK deps m (Y2 deps strs [] m.fields)) (K:World→Prop)
 (hK:∀ w',CkO a0 w' cb md ms (deps++[(m.name,XU deps m+1)]) (strs++[(m.name,VU strs m)]) at_ (-1) m.fields→K w') :
 j3 (.pointer (some ⟨p2,0,none⟩)) (.pointer (some ⟨p3,0,none⟩)) [] (Cb a0 at_ r K) w:=by
 obtain ⟨n1,n2,l1,l2,l3⟩:=h.nd
 have lp2:p2 < w.heap.size:=(Array.getElem?_eq_some_iff.1 o2).1
 have lp3:p3 < w.heap.size:=(Array.getElem?_eq_some_iff.1 o3).1
 have lw:=h.ext.size
 obtain ⟨A,c,rfl,hlc,hcm,hlm,hel⟩:=Ze.open hF
 unfold j3
 simp (disch:=try exact DI) only [↓PR,QR,simprocAttr,(Za o3).1]
 refine ZA (λ i w'=>∃ (k:Nat) (fld':Int),i = .int .i64 k∧k≤m.fields.length∧CkO a0 w' cb md ms deps strs at_ fld' m.fields∧w'.heap[p2]?=some (.cells #[.pointer (some ⟨cb,0,none⟩)] 140 (0,0))∧w'.heap[p3]?=some (.cells (Zx m (.slice A m.fields.length c)).toArray 24 (0,0)) ∧
  w'.heap[w.heap.size]?=some (.cells #[.bool ((m.fields.take k).all λ f=>!f.loose)] 4 (0,0))∧r=KK deps m (Y2 deps strs (m.fields.take k) (m.fields.drop k))) (λ i _=>m.fields.length - (intOf i).toNat) ⟨0,fld,rfl,by omega,h.go ((Ext.refl _).alloc _),((Ext.refl _).alloc _).obj o2,((Ext.refl _).alloc _).obj o3,ZE w #[.bool true] 4,hr⟩ ?_
 rintro i w' ⟨k,fld',rfl,hk,hC,y2,y3,y6,hrk⟩
 have l6:w.heap.size < w'.heap.size:=(Array.getElem?_eq_some_iff.1 y6).1
 have lw':=hC.ext.size
 obtain ⟨dn,mv,ds,mn,fv',h1,h2⟩:=hC.obj
 have c2:p2≠cb:=by rintro rfl;rw [y2] at h1;cases h1
 have c3:p3≠cb:=by rintro rfl;rw [y3] at h1;cases h1
 rcases ZB hk with ⟨x,hx,hd,hlt,hdec⟩ | ⟨hk,hd,hdec⟩
 · obtain ⟨b,o,cs,rfl,hl,hA,hE⟩:=hel k x hx
   obtain ⟨tv,cv,rfl,hT,hCa,ht1,hc1⟩:=hE.op
   have hA':=hA.ext hC.ext
   rw [hd] at hrk
   simp only [Y2] at hrk
   unfold BR
   simp (disch:=try exact DI) only [↓PR,QR,simprocAttr,hdec]
   unfold EU
   try unfold X0
   try unfold L0
   rw [YT Tryz.underlying22 VR _ _ _ _ _ k hlt,V1 (hA'.loads VR rfl)]
   simp (disch:=try exact DI) only [↓PR,QR,simprocAttr,(Za y2).1,(Za h1).1,(Za h1).2]
   have hCw:=(hC.setFld (k:Int)).go ((Ext.refl _).alloc (Obj.cells (Zo x tv cv).toArray 48))
   have z2:=((Ext.refl _).alloc (Obj.cells (Zo x tv cv).toArray 48)).obj ((Yu.setCell w' cb 6 (.int .i64 (k:Int)) p2 c2).trans y2)
   have z3:=((Ext.refl _).alloc (Obj.cells (Zo x tv cv).toArray 48)).obj ((Yu.setCell w' cb 6 (.int .i64 (k:Int)) p3 c3).trans y3)
   have z6:=((Ext.refl _).alloc (Obj.cells (Zo x tv cv).toArray 48)).obj ((Yu.setCell w' cb 6 (.int .i64 (k:Int)) w.heap.size (by omega)).trans y6)
   have z8:=ZE (w'.setCell ⟨cb,6,none⟩ (.int .i64 (k:Int))) (Zo x tv cv).toArray 48
   rw [World.size_setCell] at z8
   generalize (World.alloc (w'.setCell ⟨cb,6,none⟩ (.int .i64 (k:Int))) (Obj.cells (Zo x tv cv).toArray 48))=W at hCw z2 z3 z6 z8 ⊢
   have hkt:(m.fields.take k).length=k:=by rw [List.length_take];omega
   refine ZR (CZ hCw.chk k rfl hlt _ x ⟨tv,cv,rfl,ZW.ext hT hCw.ext,Yc.ext hCa hCw.ext⟩ (ht x (List.mem_of_getElem? hx))) (λ w5 e5 h0=>?_) (λ w5 e5 h0=>?_)
   · rw [if_pos h0] at hrk
     have q6:=e5.obj z6
     have q8:=e5.obj z8
     have hC5:=hCw.go e5
     have l5:w'.heap.size < w5.heap.size:=(Array.getElem?_eq_some_iff.1 q8).1
     have htk:=ZU hx
     rw [← htk] at hrk
     have hall:((m.fields.take (k+1)).all λ f=>!f.loose)=(((m.fields.take k).all λ f=>!f.loose)&&!x.loose):=by rw [htk,List.all_append];simp
     have fin:∀ b' w6,Ext w5 w6→b'=((m.fields.take (k+1)).all λ f=>!f.loose)→(∃ (k':Nat) (fld':Int),Value.int .i64 ((k+1:Nat):Int) = .int .i64 k'∧k'≤m.fields.length∧CkO a0 (w6.setCell ⟨w.heap.size,0,none⟩ (.bool b')) cb md ms deps strs at_ fld' m.fields∧w6.heap[p2]?=some (.cells #[.pointer (some ⟨cb,0,none⟩)] 140 (0,0))∧w6.heap[p3]?=some (.cells (Zx m (.slice (some ⟨b,o,none⟩) m.fields.length c)).toArray 24 (0,0)) ∧
      (w6.setCell ⟨w.heap.size,0,none⟩ (.bool b')).heap[w.heap.size]?=some (.cells #[.bool ((m.fields.take k').all λ f=>!f.loose)] 4 (0,0))∧r=KK deps m (Y2 deps strs (m.fields.take k') (m.fields.drop k')))∧m.fields.length - (intOf (Value.int .i64 ((k+1:Nat):Int))).toNat < m.fields.length - (intOf (Value.int IntKind.i64 k)).toNat:=by
      rintro b' w6 e6 rfl
      refine ⟨⟨k+1,k,rfl,by omega,(hC5.go e6).other (by omega) (by omega) _,e6.obj (e5.obj z2),e6.obj (e5.obj z3),?_,hrk⟩,ZF (kd := .i64) hlt⟩
      have:=Z2 (o:=0) (e6.obj q6) (.bool ((m.fields.take (k+1)).all λ f=>!f.loose))
      simpa using this
     unfold M3
     rw [hall] at fin
     generalize ((m.fields.take k).all λ f=>!f.loose)=sj at q6 fin
     cases sj with
     | true =>
      generalize hxl:x.loose=xl at fin
      simp (disch:=try exact DI) only [↓PR,QR,simprocAttr,(Za q6).1,(Za q6).2,(Za q8).1,Dy,hxl]
      simp only [Bool.true_and] at fin
      exact fin _ w5 (Ext.refl _) rfl
     | false =>
      simp (disch:=try exact DI) only [↓PR,QR,simprocAttr,(Za q6).1,(Za q6).2,(Za q8).1,Dy]
      simp only [Bool.false_and] at fin
      exact fin _ w5 (Ext.refl _) rfl
   · rw [if_neg h0] at hrk
     have hr2:r=((k:Int),YH (m.fields.take k) (vI deps) (vB strs) x):=by
      rw [hrk,hkt];unfold KK;rw [if_neg h0]
     show Zw _ _ _ _ _ _
     rw [Vp]
     exact KX (hCw.ext.trans e5) hr2 h0
 · subst hk
   rw [hd] at hrk
   rw [List.take_length] at y6
   unfold BR
   simp (disch:=try exact DI) only [↓PR,QR,simprocAttr,hdec]
   refine I4 hlow hC p2 p3 w.heap.size m _ _ rfl hF hb hp2 hp3 lw lp2 lp3 y2 y3 y6 r ?_ K hK
   rw [hrk]
   rfl
theorem OG {w0:World} {fs0:List Zm} (hlow:Low deps) (h:CkO a0 w0 cb md ms deps strs at_ fld fs0) (v:Value) (hm:Xe a0 v m) (hb:(Z0 m.fields).length≤1048576) (ht:∀ f∈m.fields,f.terms.length≤1048576) (K:World→Prop)
 (hK:∀ w',CkO a0 w' cb md ms (deps++[(m.name,XU deps m+1)]) (strs++[(m.name,VU strs m)]) at_ (-1) m.fields→K w') :
 Calls Pg 124 #[.pointer (some ⟨cb,0,none⟩),v] w0 (Cb a0 at_ (Qg deps strs m) K):=by
 obtain ⟨fv,rfl,hF⟩:=hm
 obtain ⟨n1,n2,l1,l2,l3⟩:=h.nd
 have lw:=h.ext.size
 have hf1:=Ze.oneCell hF
 refine ZgZ ?_;unfold n61
 simp (disch:=try exact DI) only [↓PR,QR,simprocAttr]
 have hC:=h.go (((Ext.refl w0).alloc (Obj.cells #[.pointer (some ⟨cb,0,none⟩)] 140)).alloc (Obj.cells (Zx m fv).toArray 24))
 have z3:=ZE (w0.alloc (Obj.cells #[.pointer (some ⟨cb,0,none⟩)] 140)) (Zx m fv).toArray 24
 have z2:=((Ext.refl (w0.alloc (Obj.cells #[.pointer (some ⟨cb,0,none⟩)] 140))).alloc (Obj.cells (Zx m fv).toArray 24)).obj (ZE w0 _ _)
 simp only [World.size_alloc] at z3 ⊢
 generalize (World.alloc (World.alloc w0 _) _)=W at hC z2 z3 ⊢
 clear h
 obtain ⟨dn,mv,ds,mn,fv',h1,h2⟩:=hC.obj
 refine Ve (w1:=W) cb cb (λ _ _ _ _=>rfl) ?_
 unfold FZ
 simp (disch:=try exact DI) only [↓PR,QR,simprocAttr,(Za z2).1]
 have L3:∀ w',KB W cb cb w'→Wk Pg w' 24 ⟨w0.heap.size+1,0,none⟩ (.agg (Zx m fv).toArray):=λ w' hw'=>Wk.many Uh rfl (λ j u hu=>by
  rw [Addr.add_lit]
  exact KB.cell (b:=w0.heap.size+1) hw' (by omega) (by omega) (by rw [(Za z3).1];simpa using hu))
 rw [M2 L3]
 simp (disch:=try exact DI) only [↓PR,QR,simprocAttr,(Za h1).1,(Za h1).2]
 have eD:Ext W W.drew:=(Ext.refl W).wdrew
 have hC1:=(hC.go eD).setMsg m.name fv m.fields hF
 have y2:=(Yu.setCell (W.drew.setCell ⟨cb,7,none⟩ (.string m.name)) cb 8 fv w0.heap.size (by omega)).trans ((Yu.setCell W.drew cb 7 (.string m.name) w0.heap.size (by omega)).trans (eD.obj z2))
 have y3:=(Yu.setCell (W.drew.setCell ⟨cb,7,none⟩ (.string m.name)) cb 8 fv (w0.heap.size+1) (by omega)).trans ((Yu.setCell W.drew cb 7 (.string m.name) (w0.heap.size+1) (by omega)).trans (eD.obj z3))
 refine ⟨λ b hb b1 _=>(Yu.setCell _ cb 8 fv b b1).trans (Yu.setCell W.drew cb 7 (.string m.name) b b1),?_⟩
 show BW _ _ _ _ _ _ ((W.drew.setCell ⟨cb,7,none⟩ (.string m.name)).setCell ⟨cb,8,none⟩ fv)
 generalize ((W.drew.setCell ⟨cb,7,none⟩ (.string m.name)).setCell ⟨cb,8,none⟩ fv)=W1 at hC1 y2 y3 ⊢
 clear hC z2 z3 h1
 obtain ⟨dn,mv,ds,mn,fv',h1,h2'⟩:=hC1.obj
 unfold BW
 simp (disch:=try exact DI) only [↓PR,QR,simprocAttr,(Za h1).1,(Za h1).2]
 have hC2:=hC1.setFld (-1)
 have x2:=(Yu.setCell W1 cb 6 (.int .i64 (-1)) w0.heap.size (by omega)).trans y2
 have x3:=(Yu.setCell W1 cb 6 (.int .i64 (-1)) (w0.heap.size+1) (by omega)).trans y3
 generalize (W1.setCell ⟨cb,6,none⟩ (.int .i64 (-1)))=W2 at hC2 x2 x3 ⊢
 clear hC1 y2 y3 h1
 refine YZ ?_
 refine ZI ?_
 unfold Hs
 simp (disch:=try exact DI) only [↓PR,QR,simprocAttr,(Za x2).1,(Za x3).1]
 refine zcr (GC _ m.name) λ w3 e3=>?_
 have e3':Ext W2 w3:=(Ext.refl W2).wdrew.trans e3
 refine ⟨e3,?_⟩
 generalize hr:Qg deps strs m=r
 unfold Qg at hr
 refine ZR (Yt (hC2.go e3').chk _ 1 (by decide)) (λ w4 e4 h0=>?_) (λ w4 e4 h0=>?_)
 · have e4':=e3'.trans e4
   have hn:XT m.name=true:=Qz (by decide) h0
   rw [if_pos hn] at hr
   refine ⟨e3.trans e4,?_⟩
   have hC4:=hC2.go e4'
   have x2':=e4'.obj x2
   have x3':=e4'.obj x3
   obtain ⟨dn,mv,ds,mn,fv',h1,h2'⟩:=hC4.obj
   refine ZI ?_
   unfold Fw
   simp (disch:=try exact DI) only [↓PR,QR,simprocAttr,(Za x2').1,(Za x3').1,(Za h1).1]
   have eD4:Ext w4 w4.drew:=(Ext.refl w4).wdrew
   rw [jW Tryz.underlying161 Tryz.underlying9 ty3 (hC4.mdeps.ext eD4) m.name]
   have hsome:(Yh (vI deps) m.name).isSome=(ZC deps m.name).isSome:=by rw [Wh,Option.isSome_map]
   rw [hsome]
   simp (disch:=try exact DI) only [↓PR,QR,simprocAttr,(Za x2').1]
   refine ZR (Yt (hC4.go eD4).chk _ 2 (by decide)) (λ w5 e5 h0=>?_) (λ w5 e5 h0=>?_)
   · have hs:(ZC deps m.name).isSome=false:=by have:=Qz (by decide) h0;simpa using this
     rw [hs,if_neg (by simp)] at hr
     have hC5:=hC4.go (eD4.trans e5)
     have x2'':=(eD4.trans e5).obj x2'
     have x3'':=(eD4.trans e5).obj x3'
     have fin:∀ b,b=decide (1≤m.fields.length∧m.fields.length≤40)→Yq Pg 122 #[.pointer (some ⟨cb,0,none⟩),.bool b,.int .i64 3] (Zw Pg [] [] (Cb a0 at_ r K)) w5 (λ _ w=>j3 (.pointer (some ⟨w0.heap.size,0,none⟩)) (.pointer (some ⟨w0.heap.size+1,0,none⟩)) [] (Cb a0 at_ r K) w):=by
      rintro b rfl
      refine ZR (Yt hC5.chk _ 3 (by decide)) (λ w6 e6 h0=>?_) (λ w6 e6 h0=>?_)
      · have hl:=Qz (by decide) h0
        simp only [decide_eq_true_eq] at hl
        rw [if_pos hl] at hr
        exact Pf hlow (hC5.go e6) w0.heap.size (w0.heap.size+1) fv hF hb ht (by omega) (by omega) (e6.obj x2'') (e6.obj x3'') r hr.symm K hK
      · by_cases hl:1≤m.fields.length∧m.fields.length≤40
        · rw [decide_eq_true hl] at h0;exact absurd rfl h0
        · rw [if_neg hl] at hr
          rw [decide_eq_false hl]
          show Zw _ _ _ _ _ _
          rw [Vp]
          exact KX (hC5.ext.trans e6) hr.symm (by decide)
     obtain ⟨A,c,rfl,hlc,hcm,hlm,hel⟩:=Ze.open hF
     unfold Fu
     by_cases h1l:1≤m.fields.length
     · have d1:decide ((m.fields.length:Int)≥1)=true:=by simp;omega
       by_cases h2l:m.fields.length≤40
       · have d2:decide ((m.fields.length:Int)≤40)=true:=by simp;omega
         simp (disch:=try exact DI) only [↓PR,QR,simprocAttr,(Za x2'').1,(Za x3'').1,d1,d2]
         exact fin _ (by simp [h1l,h2l])
       · have d2:decide ((m.fields.length:Int)≤40)=false:=by simp;omega
         simp (disch:=try exact DI) only [↓PR,QR,simprocAttr,(Za x2'').1,(Za x3'').1,d1,d2]
         exact fin _ (by simp [h2l])
     · have d1:decide ((m.fields.length:Int)≥1)=false:=by simp;omega
       simp (disch:=try exact DI) only [↓PR,QR,simprocAttr,(Za x2'').1,(Za x3'').1,d1]
       exact fin _ (by simp [h1l])
   · have hs:(ZC deps m.name).isSome=true:=by
      cases hq:(ZC deps m.name).isSome with
      | true=>rfl
      | false=>rw [hq] at h0;exact absurd rfl h0
     rw [hs,if_pos rfl] at hr
     rw [hs]
     show Zw _ _ _ _ _ _
     rw [Vp]
     exact KX (hC4.ext.trans (eD4.trans e5)) hr.symm (by decide)
 · have hn:XT m.name=false:=by
    cases hq:XT m.name with
    | false=>rfl
    | true=>rw [hq] at h0;exact absurd rfl h0
   rw [hn,if_neg (by simp)] at hr
   rw [hn]
   show Zw _ _ _ _ _ _
   rw [Vp]
   exact KX (hC2.ext.trans (e3'.trans e4)) hr.symm (by decide)
end
def Ww (deps:List (ByteArray×Int)) (m:ZD):List (ByteArray×Int):=deps++[(m.name,XU deps m+1)]
def WV (strs:List (ByteArray×Bool)) (m:ZD):List (ByteArray×Bool):=strs++[(m.name,VU strs m)]
def ZK (l:List ZD):List (ByteArray×Int):=l.foldl Ww []
def Z7 (l:List ZD):List (ByteArray×Bool):=l.foldl WV []
def Qr (deps:List (ByteArray×Int)) (strs:List (ByteArray×Bool)) (at_:Nat):List ZD→Int×Int×Int
 | []=>(0,0,0)
 | m::l=>if (Qg deps strs m).2=0 then Qr (Ww deps m) (WV strs m) (at_+1) l else (at_,Qg deps strs m)
def FS (d:YF) (r:Int×Int×Int):Int×Int×Int:=if r.2.2=0 then (if (ZC (ZK d.msgs) d.start).isSome then (0,0,0) else (-1,-1,11)) else r
def Yl (d:YF):Int×Int×Int :=
 if XT d.name then (if 1≤d.msgs.length∧d.msgs.length≤60 then FS d (Qr [] [] 0 d.msgs) else (-1,-1,3)) else (-1,-1,1)
theorem Le {deps:List (ByteArray×Int)} {m:ZD} {r:Int×Int} (h:(KK deps m r).2=0):XU deps m < 16:=by
 unfold KK at h
 split at h
 · split at h
   · assumption
   · exact absurd h (by decide)
 · contradiction
theorem BG {deps:List (ByteArray×Int)} {strs:List (ByteArray×Bool)} {m:ZD} (h:(Qg deps strs m).2=0):XU deps m < 16:=by
 unfold Qg at h
 split at h
 · split at h
   · exact absurd h (by decide)
   · split at h
     · exact Le h
     · exact absurd h (by decide)
 · exact absurd h (by decide)
theorem Low.step {deps:List (ByteArray×Int)} {strs:List (ByteArray×Bool)} {m:ZD} (hl:Low deps) (h:(Qg deps strs m).2=0):Low (Ww deps m):=by
 intro p hp
 rcases List.mem_append.1 hp with hp | hp
 · exact hl p hp
 · simp only [List.mem_singleton] at hp
   subst hp
   have h1:=BG h
   have h2:=(UA (λ s=>(ZC deps s).getD 0) (XN m) 0 (by decide) (λ s _=>hl.get s) (by decide)).1
   exact ⟨by show 0≤XU deps m+1;unfold XU;omega,by show XU deps m+1≤16;omega⟩
def UN (d:YF):Prop:=∀ m∈d.msgs,(Z0 m.fields).length≤1048576∧∀ f∈m.fields,f.terms.length≤1048576
abbrev V8 (p3 p4:Nat):Deferred:={ target := .fn (.func 121) #[.pointer (some ⟨p3,0,none⟩),.pointer (some ⟨p4,0,none⟩)],args := #[] }
theorem Mp {p3 p4:Nat} {w:World} {k:FrameMode→World→Prop} (h:k .returning w):Am Pg [V8 p3 p4] .returning w k:=by
 refine ⟨by simp,.inr ⟨.func 121,_,121,#[.pointer (some ⟨p3,0,none⟩),.pointer (some ⟨p4,0,none⟩)],rfl,?_,?_⟩⟩
 · exact Vd ZcW _ w
 · refine ZbB ?_
   unfold n66
   show opV _ (ZM .neq _ true .nilIface .nilIface) _ _ _
   rw [qx Tryz.underlying20]
   simp (disch:=try exact DI) only [↓PR,QR,simprocAttr]
   exact h
theorem Mt {p3 p4:Nat} {w:World} {k:FrameMode→World→Prop} {a f c:Int} {x0 x1 x2 y:Value} (o3:w.heap[p3]?=some (.cells #[x0,x1,x2] 90 (0,0))) (o4:w.heap[p4]?=some (.cells #[y] 4 (0,0)))
 (h:k .returning ((((w.setCell ⟨p3,0,none⟩ (.int .i64 a)).setCell ⟨p3,1,none⟩ (.int .i64 f)).setCell ⟨p3,2,none⟩ (.int .i64 c)).setCell ⟨p4,0,none⟩ (.bool true))):Am Pg [V8 p3 p4] (.panicking [Xc a f c]) w k:=by
 have hne:p3≠p4:=by rintro rfl;rw [o3] at o4;cases o4
 refine ⟨by simp,.inr ⟨.func 121,_,121,#[.pointer (some ⟨p3,0,none⟩),.pointer (some ⟨p4,0,none⟩)],rfl,?_,?_⟩⟩
 · exact Vd ZcW _ w
 · refine ZbB ?_
   rw [show recM (.panicking [Xc a f c])=(.iface 90 (Uv a f c),.panicking [{ v := .iface 90 (Uv a f c),recovered:=true }]) from rfl]
   unfold n66
   rw [qw Tryz.underlying20]
   simp (disch:=try exact DI) only [↓PR,QR,simprocAttr]
   unfold Sj
   rw [BL Tryz.underlying90 rfl]
   simp (disch:=try exact DI) only [↓PR,QR,simprocAttr,(Za o3).1,(Za o3).2,(Za o4).1,(Za o4).2]
   exact h
section
variable {w0:World}
def CkE (w:World) (cb:Nat) (deps:List (ByteArray×Int)) (strs:List (ByteArray×Bool)):Prop:=∃ md ms dn mv ds at_ fld mn fv,w.heap[cb]?=some (.cells #[.string dn,mv,.string ds,.map (some md),.map (some ms),.int .i64 at_,.int .i64 fld,.string mn,fv] 164 (0,0))∧YG w md (vI deps)∧YG w ms (vB strs)
theorem CkE.other {w:World} {cb b o:Nat} {deps:List (ByteArray×Int)} {strs:List (ByteArray×Bool)} (h:CkE w cb deps strs) (hn:b≠cb) (v:Value):CkE (w.setCell ⟨b,o,none⟩ v) cb deps strs:=by
 obtain ⟨md,ms,dn,mv,ds,at_,fld,mn,fv,h1,h2,h3⟩:=h
 exact ⟨md,ms,dn,mv,ds,at_,fld,mn,fv,(Yu.setCell w b o v cb (λ e=>hn e.symm)).trans h1,h2.setCell _ _,h3.setCell _ _⟩
theorem CkE.go {w w':World} {cb:Nat} {deps:List (ByteArray×Int)} {strs:List (ByteArray×Bool)} (h:CkE w cb deps strs) (e:Ext w w'):CkE w' cb deps strs:=by
 obtain ⟨md,ms,dn,mv,ds,at_,fld,mn,fv,h1,h2,h3⟩:=h
 exact ⟨md,ms,dn,mv,ds,at_,fld,mn,fv,e.obj h1,h2.ext e,h3.ext e⟩
theorem CkO.left {a0 w:World} {cb md ms:Nat} {deps:List (ByteArray×Int)} {strs:List (ByteArray×Bool)} {at_ fld:Int} {fs:List Zm} (h:CkO a0 w cb md ms deps strs at_ fld fs):CkE w cb deps strs:=by
 obtain ⟨dn,mv,ds,mn,fv,h1,_⟩:=h.obj
 exact ⟨md,ms,dn,mv,ds,at_,fld,mn,fv,h1,h.mdeps,h.mstrs⟩
def yd (w0:World) (d:YF) (r:Value) (w':World):Prop:=Ext w0 w'∧∃ cb,r = .tuple #[.pointer (some ⟨cb,0,none⟩),Uv (Yl d).1 (Yl d).2.1 (Yl d).2.2,.bool (decide ((Yl d).2.2≠0))] ∧
 ((Yl d).2.2=0→CkE w' cb (ZK d.msgs) (Z7 d.msgs))
abbrev FY (cb p3 p4:Nat):List (Option TypeId×Value):=[(none,.pointer (some ⟨cb,0,none⟩)),(some 90,.pointer (some ⟨p3,0,none⟩)),(some 4,.pointer (some ⟨p4,0,none⟩))]
theorem Iy {w:World} {d:YF} {cb p3 p4:Nat} {a f c:Int} {x0 x1 x2 y:Value} (e:Ext w0 w) (h3:w0.heap.size≤p3) (h4:w0.heap.size≤p4) (o3:w.heap[p3]?=some (.cells #[x0,x1,x2] 90 (0,0))) (o4:w.heap[p4]?=some (.cells #[y] 4 (0,0)))
 (h:Yl d=(a,f,c)) (hc:c≠0):Zw Pg [V8 p3 p4] (FY cb p3 p4) (ZQ (yd w0 d)) [Xc a f c] w:=by
 have hne:p3≠p4:=by rintro rfl;rw [o3] at o4;cases o4
 unfold Zw
 refine Mt o3 o4 ?_
 have q3:=Z2 (o:=2) (Z2 (o:=1) (Z2 (o:=0) o3 (.int .i64 a)) (.int .i64 f)) (.int .i64 c)
 have e1:Ext w0 ((((w.setCell ⟨p3,0,none⟩ (.int .i64 a)).setCell ⟨p3,1,none⟩ (.int .i64 f)).setCell ⟨p3,2,none⟩ (.int .i64 c)).setCell ⟨p4,0,none⟩ (.bool true)):=(((e.setCell h3 _).setCell h3 _).setCell h3 _).setCell h4 _
 have q4:=Z2 (o:=0) ((Yu.setCell ((w.setCell ⟨p3,0,none⟩ (.int .i64 a)).setCell ⟨p3,1,none⟩ (.int .i64 f)) p3 2 (.int .i64 c) p4 (by omega)).trans ((Yu.setCell (w.setCell ⟨p3,0,none⟩ (.int .i64 a)) p3 1 (.int .i64 f) p4 (by omega)).trans ((Yu.setCell w p3 0 (.int .i64 a) p4 (by omega)).trans o4))) (.bool true)
 have q3':=(Yu.setCell _ p4 0 (.bool true) p3 hne).trans q3
 simp only [List.setIfInBounds_toArray,List.set_cons_zero,List.set_cons_succ] at q3' q4
 generalize ((((w.setCell ⟨p3,0,none⟩ (.int .i64 a)).setCell ⟨p3,1,none⟩ (.int .i64 f)).setCell ⟨p3,2,none⟩ (.int .i64 c)).setCell ⟨p4,0,none⟩ (.bool true))=W at e1 q3' q4 ⊢
 unfold Nb jp Qf FY
 simp only
 simp (disch:=try exact DI) only [↓PR,QR,simprocAttr,(Za q3').1,(Za q4).1]
 refine ⟨e1,cb,?_,λ h0=>?_⟩
 · rw [h];simp [hc]
 · rw [h] at h0;exact absurd h0 hc
theorem MY {w:World} {d:YF} {cb p3 p4:Nat} (e:Ext w0 w) (hC:CkE w cb (ZK d.msgs) (Z7 d.msgs)) (o3:w.heap[p3]?=some (.cells #[.int .i64 0,.int .i64 0,.int .i64 0] 90 (0,0))) (o4:w.heap[p4]?=some (.cells #[.bool false] 4 (0,0)))
 (h:Yl d=(0,0,0)):VP Pg [V8 p3 p4] (FY cb p3 p4) (ZQ (yd w0 d)) w:=by
 unfold VP
 refine Mp ?_
 unfold Nb jp Qf FY
 simp only
 simp (disch:=try exact DI) only [↓PR,QR,simprocAttr,(Za o3).1,(Za o4).1]
 refine ⟨e,cb,?_,λ h0=>hC⟩
 rw [h];simp
theorem LV {f:FuncId} {args:Array Value} {QP:List PanicEntry→World→Prop} {a0 w:World} {k:Value→World→Prop} {at_:Int} {r:Int×Int} {K:World→Prop} (h:Calls Pg f args w (Cb a0 at_ r K)) (hk:∀ w',r.2=0→K w'→k (.tuple #[]) w') (hp:∀ w',Ext a0 w'→r.2≠0→QP [Xc at_ r.1 r.2] w'):Yq Pg f args QP w k :=
 xo h (λ v w' h=>by rcases h with ⟨e,⟨h1,h2,h3⟩ | ⟨_,h2⟩⟩<;>cases h2;exact hk w' h1 h3) (λ ch w' h=>by rcases h with ⟨e,⟨_,h2,_⟩ | ⟨h1,h2⟩⟩<;>cases h2;exact hp w' e h1) (λ w' h=>by rcases h with ⟨_,⟨_,h2,_⟩ | ⟨_,h2⟩⟩<;>cases h2)
theorem jd {α β:Type} (g:β→α→β) {l:List α} {k:Nat} {x:α} (b:β) (hx:l[k]?=some x):(l.take (k+1)).foldl g b=g ((l.take k).foldl g b) x:=by rw [ZU hx,List.foldl_append];rfl
theorem Nq {A0 w:World} {d:YF} {cb p1 p3 p4 md ms:Nat} {fs:List Zm} {mv:Value} (ea:Ext w0 A0) (hM:Q0 A0 mv d.msgs) (ht:UN d) (hC:CkO A0 w cb md ms [] [] (-1) (-1) fs) (o1:A0.heap[p1]?=some (.cells (Zz d mv).toArray 28 (0,0)))
 (o3:A0.heap[p3]?=some (.cells #[.int .i64 0,.int .i64 0,.int .i64 0] 90 (0,0))) (o4:A0.heap[p4]?=some (.cells #[.bool false] 4 (0,0))) (h3:w0.heap.size≤p3) (h4:w0.heap.size≤p4) (hr:Yl d=FS d (Qr [] [] 0 d.msgs)) :
 qU (.pointer (some ⟨p1,0,none⟩)) (.pointer (some ⟨p3,0,none⟩)) (.pointer (some ⟨p4,0,none⟩)) (.pointer (some ⟨cb,0,none⟩)) [V8 p3 p4] (ZQ (yd w0 d)) w:=by
 have pan:∀ w' a f c,Ext A0 w'→Yl d=(a,f,c)→c≠0→Zw Pg [V8 p3 p4] (FY cb p3 p4) (ZQ (yd w0 d)) [Xc a f c] w':=λ w' a f c e h h0=>Iy (ea.trans e) h3 h4 (e.obj o3) (e.obj o4) h h0
 obtain ⟨A,c,rfl,hlc,hcm,hlm,hel⟩:=Ze.open hM
 unfold qU
 simp (disch:=try exact DI) only [↓PR,QR,simprocAttr,(Za (hC.ext.obj o1)).1]
 refine ZA (λ i w'=>∃ (k:Nat) (at':Int) (fs':List Zm),i = .int .i64 k∧k≤d.msgs.length∧CkO A0 w' cb md ms (ZK (d.msgs.take k)) (Z7 (d.msgs.take k)) at' (-1) fs'∧Low (ZK (d.msgs.take k))∧Yl d=FS d (Qr (ZK (d.msgs.take k)) (Z7 (d.msgs.take k)) k (d.msgs.drop k))) (λ i _=>d.msgs.length - (intOf i).toNat) ⟨0,-1,fs,rfl,by omega,hC,(λ _ h=>by cases h),hr⟩ ?_
 rintro i w' ⟨k,at',fs',rfl,hk,hC',hlow,hrk⟩
 have lw':=hC'.ext.size
 obtain ⟨dn,mv,ds,mn,fv',x1,x2⟩:=hC'.obj
 obtain ⟨n1,n2,l1,l2,l3⟩:=hC'.nd
 rcases ZB hk with ⟨x,hx,hd,hlt,hdec⟩ | ⟨hk,hd,hdec⟩
 · obtain ⟨b,o,cs,rfl,hl,hA,fv,rfl,hF⟩:=hel k x hx
   have hf1:=Ze.oneCell hF
   rw [hd] at hrk
   simp only [Qr] at hrk
   unfold Bv
   simp (disch:=try exact DI) only [↓PR,QR,simprocAttr,hdec]
   unfold EA
   simp (disch:=try exact DI) only [↓PR,QR,simprocAttr,(hA.c2 hC'.ext).1,(hA.c2 hC'.ext).2,(Za x1).1,(Za x1).2]
   have hCw:=(hC'.setAt (k:Int)).go ((Ext.refl _).alloc (Obj.cells (Zx x fv).toArray 24))
   refine LV (OG (m:=x) hlow hCw _ ⟨fv,rfl,hF⟩ (ht x (List.mem_of_getElem? hx)).1 (ht x (List.mem_of_getElem? hx)).2 (λ w'=>CkO A0 w' cb md ms (Ww (ZK (d.msgs.take k)) x) (WV (Z7 (d.msgs.take k)) x) k (-1) x.fields) (λ w' h=>h)) (λ w5 h0 hC5=>?_) (λ w5 e5 h0=>?_)
   · rw [if_pos h0] at hrk
     have hd1:ZK (d.msgs.take (k+1))=Ww (ZK (d.msgs.take k)) x:=jd Ww [] hx
     have hs1:Z7 (d.msgs.take (k+1))=WV (Z7 (d.msgs.take k)) x:=jd WV [] hx
     rw [← hd1,← hs1] at hrk hC5
     have hlow':Low (ZK (d.msgs.take (k+1))):=by rw [hd1];exact hlow.step h0
     simp (disch:=try exact DI) only [↓PR,QR,simprocAttr]
     exact ⟨⟨k+1,k,x.fields,rfl,by omega,hC5,hlow',hrk⟩,ZF (kd := .i64) hlt⟩
   · rw [if_neg h0] at hrk
     refine pan _ _ _ _ e5 ?_ h0
     rw [hrk]
     unfold FS
     rw [if_neg h0]
 · subst hk
   rw [hd] at hrk
   rw [List.take_length] at hC' hrk
   unfold Bv
   simp (disch:=try exact DI) only [↓PR,QR,simprocAttr,hdec]
   unfold D6
   simp (disch:=try exact DI) only [↓PR,QR,simprocAttr,(Za x1).1,(Za x1).2]
   have hC2:=hC'.setAt (-1)
   generalize (w'.setCell ⟨cb,5,none⟩ (.int .i64 (-1)))=W at hC2 ⊢
   clear x1 x2 hC'
   obtain ⟨dn,mv,ds,mn,fv',x1,x2⟩:=hC2.obj
   refine ZI ?_
   have eD:Ext W W.drew:=(Ext.refl W).wdrew
   unfold Du
   simp (disch:=try exact DI) only [↓PR,QR,simprocAttr,(Za x1).1,(Za (hC2.ext.obj o1)).1]
   rw [jW Tryz.underlying161 Tryz.underlying9 ty3 (hC2.mdeps.ext eD) d.start]
   have hsome:(Yh (vI (ZK d.msgs)) d.start).isSome=(ZC (ZK d.msgs) d.start).isSome:=by rw [Wh,Option.isSome_map]
   rw [hsome]
   simp only [Qr,FS,if_true] at hrk
   simp (disch:=try exact DI) only [↓PR,QR,simprocAttr]
   refine ZR (Yt (hC2.go eD).chk _ 11 (by decide)) (λ w5 e5 h0=>?_) (λ w5 e5 h0=>?_)
   · have hs:=Qz (by decide) h0
     rw [hs,if_pos rfl] at hrk
     have hC5:=hC2.go (eD.trans e5)
     have y3:=hC5.ext.obj o3
     have y4:=hC5.ext.obj o4
     have ne34:p3≠p4:=by rintro rfl;rw [o3] at o4;cases o4
     unfold Dt
     simp (disch:=try exact DI) only [↓PR,QR,simprocAttr,(Za y3).1,(Za y3).2,(Za y4).1,(Za y4).2]
     have c3:p3≠cb:=by have:=hC5.lcb;have:=(Array.getElem?_eq_some_iff.1 o3).1;omega
     have c4:p4≠cb:=by have:=hC5.lcb;have:=(Array.getElem?_eq_some_iff.1 o4).1;omega
     have q3:=Z2 (o:=2) (Z2 (o:=1) (Z2 (o:=0) y3 (.int .i64 0)) (.int .i64 0)) (.int .i64 0)
     have q4:=Z2 (o:=0) ((Yu.setCell ((w5.setCell ⟨p3,0,none⟩ (.int .i64 0)).setCell ⟨p3,1,none⟩ (.int .i64 0)) p3 2 (.int .i64 0) p4 (by omega)).trans ((Yu.setCell (w5.setCell ⟨p3,0,none⟩ (.int .i64 0)) p3 1 (.int .i64 0) p4 (by omega)).trans ((Yu.setCell w5 p3 0 (.int .i64 0) p4 (by omega)).trans y4))) (.bool false)
     have q3':=(Yu.setCell _ p4 0 (.bool false) p3 ne34).trans q3
     exact MY (((((ea.trans hC5.ext).setCell h3 _).setCell h3 _).setCell h3 _).setCell h4 _) ((((hC5.left.other c3 _).other c3 _).other c3 _).other c4 _) (by simpa using q3') (by simpa using q4) hrk
   · have hs:(ZC (ZK d.msgs) d.start).isSome=false:=by
      cases hq:(ZC (ZK d.msgs) d.start).isSome with
      | false=>rfl
      | true=>rw [hq] at h0;exact absurd rfl h0
     rw [hs,if_neg (by simp)] at hrk
     rw [hs]
     exact pan _ _ _ _ (hC2.ext.trans (eD.trans e5)) hrk (by decide)
theorem CE (v:Value) (d:YF) (hd:Yv w0 v d) (ht:UN d):Ret Pg 93 #[v] w0 (yd w0 d):=by
 obtain ⟨mv,rfl,hM⟩:=hd
 have hm1:=Ze.oneCell hM
 refine Zdr (R:=ZQ _) ?_;unfold n65
 simp (disch:=try exact DI) only [↓PR,QR,simprocAttr]
 refine ⟨V8 (w0.heap.size+1) (w0.heap.size+1+1),_,rfl,?_⟩
 simp only [World.size_alloc]
 generalize hA0:((w0.alloc (Obj.cells (Zz d mv).toArray 28)).alloc (Obj.cells #[.int .i64 0,.int .i64 0,.int .i64 0] 90)).alloc (Obj.cells #[.bool false] 4)=A0
 have ea:Ext w0 A0:=by rw [← hA0];exact ee
 have o1:A0.heap[w0.heap.size]?=some (.cells (Zz d mv).toArray 28 (0,0)):=by rw [← hA0];simp (disch:=try exact DI) only [↓PR,QR,simprocAttr]
 have o3:A0.heap[w0.heap.size+1]?=some (.cells #[.int .i64 0,.int .i64 0,.int .i64 0] 90 (0,0)):=by rw [← hA0];simp (disch:=try exact DI) only [↓PR,QR,simprocAttr]
 have o4:A0.heap[w0.heap.size+1+1]?=some (.cells #[.bool false] 4 (0,0)):=by rw [← hA0];simp (disch:=try exact DI) only [↓PR,QR,simprocAttr]
 have hsz:A0.heap.size=w0.heap.size+1+1+1:=by rw [← hA0];simp only [World.size_alloc]
 clear hA0
 have hC:CkO A0 (((A0.alloc (Obj.map #[] 0)).alloc (Obj.map #[] 0)).alloc (Obj.cells #[.string d.name,mv,.string d.start,.map (some (w0.heap.size+1+1+1)),.map (some (w0.heap.size+1+1+1+1)),.int .i64 (-1),.int .i64 (-1),.string ByteArray.empty,.slice none 0 0] 164)) (w0.heap.size+1+1+1+1+1) (w0.heap.size+1+1+1) (w0.heap.size+1+1+1+1) [] [] (-1) (-1) []:=by
  refine ⟨ee,⟨d.name,mv,d.start,ByteArray.empty,.slice none 0 0,?_,Ze.nil _ _ _⟩,?_,?_,by omega,by omega,by omega,by omega⟩
  · have:=ZE ((A0.alloc (Obj.map #[] 0)).alloc (Obj.map #[] 0)) #[.string d.name,mv,.string d.start,.map (some (w0.heap.size+1+1+1)),.map (some (w0.heap.size+1+1+1+1)),.int .i64 (-1),.int .i64 (-1),.string ByteArray.empty,.slice none 0 0] 164
    simp only [World.size_alloc,hsz] at this
    exact this
  · have:=(YG.new A0).ext (((Ext.refl _).alloc (Obj.map #[] 0)).alloc (Obj.cells #[.string d.name,mv,.string d.start,.map (some (w0.heap.size+1+1+1)),.map (some (w0.heap.size+1+1+1+1)),.int .i64 (-1),.int .i64 (-1),.string ByteArray.empty,.slice none 0 0] 164))
    simp only [World.size_alloc,hsz] at this
    exact this
  · have:=(YG.new (A0.alloc (Obj.map #[] 0))).ext ((Ext.refl _).alloc (Obj.cells #[.string d.name,mv,.string d.start,.map (some (w0.heap.size+1+1+1)),.map (some (w0.heap.size+1+1+1+1)),.int .i64 (-1),.int .i64 (-1),.string ByteArray.empty,.slice none 0 0] 164))
    simp only [World.size_alloc,hsz] at this
    exact this
 generalize (((A0.alloc (Obj.map #[] 0)).alloc (Obj.map #[] 0)).alloc (Obj.cells #[.string d.name,mv,.string d.start,.map (some (w0.heap.size+1+1+1)),.map (some (w0.heap.size+1+1+1+1)),.int .i64 (-1),.int .i64 (-1),.string ByteArray.empty,.slice none 0 0] 164))=W at hC ⊢
 generalize hcb:w0.heap.size+1+1+1+1+1=cb at hC ⊢
 generalize hmd:w0.heap.size+1+1+1=md at hC hsz
 generalize hms:w0.heap.size+1+1+1+1=ms at hC
 generalize hp3:w0.heap.size+1+1=p4 at o4 ⊢
 generalize hp4:w0.heap.size+1=p3 at o3 ⊢
 have l3:w0.heap.size≤p3:=by omega
 have l4:w0.heap.size≤p4:=by omega
 simp (disch:=try exact DI) only [↓PR,QR,simprocAttr,(Za (hC.ext.obj o1)).1]
 refine zcr (GC _ d.name) λ w1 e1=>?_
 have hC1:=hC.go e1
 have pan:∀ w' a f c,Ext A0 w'→Yl d=(a,f,c)→c≠0→Zw Pg [V8 p3 p4] (FY cb p3 p4) (ZQ (yd w0 d)) [Xc a f c] w':=λ w' a f c e h h0=>Iy (ea.trans e) l3 l4 (e.obj o3) (e.obj o4) h h0
 generalize hr:Yl d=r
 have hr':=hr
 unfold Yl at hr
 refine ZR (Yt hC1.chk _ 1 (by decide)) (λ w2 e2 h0=>?_) (λ w2 e2 h0=>?_)
 · have hn:XT d.name=true:=Qz (by decide) h0
   rw [if_pos hn] at hr
   have hC2:=hC1.go e2
   have fin:∀ b,b=decide (1≤d.msgs.length∧d.msgs.length≤60)→Yq Pg 122 #[.pointer (some ⟨cb,0,none⟩),.bool b,.int .i64 3] (Zw Pg [V8 p3 p4] (FY cb p3 p4) (ZQ (yd w0 d))) w2 (λ _ w=>qU (.pointer (some ⟨w0.heap.size,0,none⟩)) (.pointer (some ⟨p3,0,none⟩)) (.pointer (some ⟨p4,0,none⟩)) (.pointer (some ⟨cb,0,none⟩)) [V8 p3 p4] (ZQ (yd w0 d)) w):=by
    rintro b rfl
    refine ZR (Yt hC2.chk _ 3 (by decide)) (λ w3 e3 h0=>?_) (λ w3 e3 h0=>?_)
    · have hl:=Qz (by decide) h0
      simp only [decide_eq_true_eq] at hl
      rw [if_pos hl] at hr
      exact Nq ea (hM.ext ea) ht (hC2.go e3) o1 o3 o4 l3 l4 (hr'.trans hr.symm)
    · by_cases hl:1≤d.msgs.length∧d.msgs.length≤60
      · rw [decide_eq_true hl] at h0;exact absurd rfl h0
      · rw [if_neg hl] at hr
        rw [decide_eq_false hl]
        exact pan _ _ _ _ (hC2.ext.trans e3) (hr'.trans hr.symm) (by decide)
   obtain ⟨A,c,rfl,hlc,hcm,hlm,hel⟩:=Ze.open hM
   have x1:=hC2.ext.obj o1
   unfold D2
   by_cases h1l:1≤d.msgs.length
   · have d1:decide ((d.msgs.length:Int)≥1)=true:=by simp;omega
     by_cases h2l:d.msgs.length≤60
     · have d2:decide ((d.msgs.length:Int)≤60)=true:=by simp;omega
       simp (disch:=try exact DI) only [↓PR,QR,simprocAttr,(Za x1).1,d1,d2,↓Dt,↓Du,↓D6,↓EA,↓Bv,↓qU,↓If,↓IA,↓D2]
       exact fin _ (by simp [h1l,h2l])
     · have d2:decide ((d.msgs.length:Int)≤60)=false:=by simp;omega
       simp (disch:=try exact DI) only [↓PR,QR,simprocAttr,(Za x1).1,d1,d2,↓Dt,↓Du,↓D6,↓EA,↓Bv,↓qU,↓If,↓IA,↓D2]
       exact fin _ (by simp [h2l])
   · have d1:decide ((d.msgs.length:Int)≥1)=false:=by simp;omega
     simp (disch:=try exact DI) only [↓PR,QR,simprocAttr,(Za x1).1,d1,↓Dt,↓Du,↓D6,↓EA,↓Bv,↓qU,↓If,↓IA,↓D2]
     exact fin _ (by simp [h1l])
 · have hn:XT d.name=false:=by
    cases hq:XT d.name with
    | false=>rfl
    | true=>rw [hq] at h0;exact absurd rfl h0
   rw [hn,if_neg (by simp)] at hr
   rw [hn]
   exact pan _ _ _ _ (hC1.ext.trans e2) (hr'.trans hr.symm) (by decide)
end
section
variable {w0:World}
abbrev qK (r:Int×Int×Int):Value:=Uv r.1 r.2.1 r.2.2
abbrev Qc (d:YF):Bool:=decide ((Yl d).2.2≠0)
theorem LM (v:Value) (d:YF) (hd:Yv w0 v d) (ht:UN d):Ret Pg 62 #[v] w0 λ r w'=>r = .tuple #[qK (Yl d),.bool (Qc d)]∧Ext w0 w':=by
 obtain ⟨mv,rfl,hM⟩:=hd
 have hm1:=Ze.oneCell hM
 refine ZfF (R:=ZQ _) ?_;unfold n44
 simp (disch:=try exact DI) only [↓PR,QR,simprocAttr]
 refine Zt (CE _ d ⟨mv,rfl,Q0.ext hM ee⟩ ht) ?_
 rintro _ w1 ⟨e1,cb,rfl,_⟩
 have s1:=e1.size
 simp only [World.size_alloc] at s1
 have o2:=e1.obj (ZE (w0.alloc (Obj.cells (Zz d mv).toArray 28)) #[.int .i64 0,.int .i64 0,.int .i64 0] 90)
 rw [World.size_alloc] at o2
 simp (disch:=try exact DI) only [↓PR,QR,simprocAttr,↓RO,(Za o2).1,(Za o2).2]
 exact ⟨by first | trivial | rfl,ee⟩
theorem EZ (v:Value) (d:YF) (hd:Yv w0 v d) (ht:UN d):Ret Pg 29 #[v] w0 λ r w'=>r = .bool (!Qc d)∧Ext w0 w':=by
 obtain ⟨mv,rfl,hM⟩:=hd
 have hm1:=Ze.oneCell hM
 refine Zdt (R:=ZQ _) ?_;unfold n54
 simp (disch:=try exact DI) only [↓PR,QR,simprocAttr]
 refine zcr (LM _ d ⟨mv,rfl,Q0.ext hM ee⟩ ht) λ w1 e1=>?_
 simp (disch:=try exact DI) only [↓PR,QR,simprocAttr,↓Tb]
 exact ⟨by first | trivial | rfl,ee⟩
end
def Sub {β:Type} (a b:List (ByteArray×β)):Prop:=∀ s v,ZC a s=some v→ZC b s=some v
section
variable {β:Type}
theorem Sub.refl (a:List (ByteArray×β)):Sub a a:=λ _ _ h=>h
theorem Sub.trans {a b c:List (ByteArray×β)} (h:Sub a b) (k:Sub b c):Sub a c:=λ s v x=>k s v (h s v x)
theorem Sub.snoc {a:List (ByteArray×β)} {p:ByteArray×β} (h:ZC a p.1=none):Sub a (a++[p]):=λ s v x=>by
 rw [J2]
 by_cases e:p.1=s
 · subst e;rw [h] at x;cases x
 · rw [if_neg e];exact x
theorem Sub.is {a b:List (ByteArray×β)} (h:Sub a b) {s:ByteArray} (k:(ZC a s).isSome=true):(ZC b s).isSome=true:=by
 obtain ⟨v,hv⟩:=Option.isSome_iff_exists.1 k
 rw [h s v hv];rfl
theorem Sub.eq {a b:List (ByteArray×β)} (h:Sub a b) {s:ByteArray} (k:(ZC a s).isSome=true):ZC b s=ZC a s:=by
 obtain ⟨v,hv⟩:=Option.isSome_iff_exists.1 k
 rw [h s v hv,hv]
theorem xW {l:List (ByteArray×β)} {s:ByteArray}:ZC l s=none↔∀ p∈l,p.1≠s:=by
 unfold ZC
 rw [Option.map_eq_none_iff,List.find?_eq_none]
 simp
end
theorem isI (deps:List (ByteArray×Int)) (s:ByteArray):(Yh (vI deps) s).isSome=(ZC deps s).isSome:=by rw [Wh];simp
theorem X9 {a b:Int}:orC a b=0↔a=0∧b=0:=by
 unfold orC
 split
 · rename_i h;simp [h]
 · rename_i h;simp [h]
theorem Qm {b:Bool} {c:Int} (hc:c≠0):Ya b c=0↔b=true:=by
 unfold Ya
 cases b<;>simp [hc]
theorem J8 {s:ByteArray}:∀ {l seen:List ByteArray},s∈Yj seen l→s∈l
 | [],_,h=>by cases h
 | x::l,seen,h=>by
  unfold Yj at h
  split at h
  · exact List.mem_cons_of_mem _ (J8 h)
  · rcases List.mem_cons.1 h with rfl | h
    · exact List.mem_cons_self
    · exact List.mem_cons_of_mem _ (J8 h)
section
variable {deps deps':List (ByteArray×Int)} {strs strs':List (ByteArray×Bool)}
theorem Kb (hd:Sub deps deps') (hi:Int):∀ (l:List V0) (lo:Int),QZ hi (vI deps) lo l=0→QZ hi (vI deps') lo l=0∧∀ c∈l,(ZC deps c.of).isSome=true
 | [],_,_=>⟨rfl,λ _ h=>by cases h⟩
 | x::l,lo,h=>by
  simp only [QZ,X9,Qm (show (8:Int)≠0 by decide),isI] at h ⊢
  obtain ⟨h1,h2,h3⟩:=h
  obtain ⟨i1,i2⟩:=Kb hd hi l _ h3
  refine ⟨⟨h1,hd.is h2,i1⟩,λ c hc=>?_⟩
  rcases List.mem_cons.1 hc with rfl | hc
  · exact h2
  · exact i2 c hc
theorem BI {s:ByteArray} (h:Ci (vB strs) s=true):ZC strs s=some true:=by
 rw [BZ] at h
 cases hl:ZC strs s with
 | none=>rw [hl] at h;cases h
 | some b=>rw [hl] at h;simp at h;rw [h]
theorem CT (hd:Sub deps deps') (hs:Sub strs strs') {bef:List Zm} {f:Zm} (h:YH bef (vI deps) (vB strs) f=0):YH bef (vI deps') (vB strs') f=0:=by
 unfold YH at h ⊢
 simp only [X9] at h ⊢
 refine ⟨h.1,h.2.1,h.2.2.1,h.2.2.2.1,?_⟩
 obtain ⟨_,_,_,_,h⟩:=h
 unfold ZT at h ⊢
 by_cases k1:f.kind=1
 · rw [if_pos k1] at h ⊢;exact h
 rw [if_neg k1] at h ⊢
 by_cases k2:f.kind=2
 · rw [if_pos k2] at h ⊢;exact h
 rw [if_neg k2] at h ⊢
 by_cases k3:f.kind=3
 · rw [if_pos k3] at h ⊢;exact h
 rw [if_neg k3] at h ⊢
 by_cases k4:f.kind=4
 · rw [if_pos k4] at h ⊢;exact h
 rw [if_neg k4] at h ⊢
 by_cases k5:f.kind=5
 · rw [if_pos k5] at h ⊢;exact h
 rw [if_neg k5] at h ⊢
 by_cases k6:f.kind=6
 · rw [if_pos k6] at h ⊢;exact h
 rw [if_neg k6] at h ⊢
 by_cases k7:f.kind=7
 · rw [if_pos k7] at h ⊢
   simp only [X9,Qm (show (8:Int)≠0 by decide),isI] at h ⊢
   exact ⟨hd.is h.1,h.2⟩
 rw [if_neg k7] at h ⊢
 by_cases k8:f.kind=8
 · rw [if_pos k8] at h ⊢
   simp only [Qm (show (8:Int)≠0 by decide),isI] at h ⊢
   exact hd.is h
 rw [if_neg k8] at h ⊢
 by_cases k9:f.kind=9
 · rw [if_pos k9] at h ⊢
   unfold WB at h ⊢
   simp only [X9] at h ⊢
   exact ⟨h.1,h.2.1,(Kb hd _ _ _ h.2.2).1⟩
 rw [if_neg k9] at h ⊢
 by_cases k10:f.kind=10
 · rw [if_pos k10] at h ⊢;exact h
 rw [if_neg k10] at h ⊢
 by_cases k11:f.kind=11
 · rw [if_pos k11] at h ⊢;exact h
 rw [if_neg k11] at h ⊢
 by_cases k12:f.kind=12
 · rw [if_pos k12] at h ⊢
   simp only [X9,Qm (show (8:Int)≠0 by decide)] at h ⊢
   refine ⟨h.1,?_,h.2.2⟩
   rw [BZ,hs _ _ (BI h.2.1)];rfl
 rw [if_neg k12]
theorem B6 (hds:∀ s,(ZC strs s).isSome=true→(ZC deps s).isSome=true) {bef:List Zm} {f:Zm} (h:YH bef (vI deps) (vB strs) f=0):∀ s∈XQ f,(ZC deps s).isSome=true:=by
 intro s hs
 unfold YH at h
 simp only [X9] at h
 obtain ⟨_,_,_,_,h⟩:=h
 unfold ZT at h
 unfold XQ at hs
 split at hs
 · rename_i hk
   simp only [List.mem_singleton] at hs
   subst hs
   rcases hk with hk | hk | hk
   · rw [if_neg (by omega),if_neg (by omega),if_neg (by omega),if_neg (by omega),if_neg (by omega),if_neg (by omega),if_pos hk] at h
     simp only [X9,Qm (show (8:Int)≠0 by decide),isI] at h
     exact h.1
   · rw [if_neg (by omega),if_neg (by omega),if_neg (by omega),if_neg (by omega),if_neg (by omega),if_neg (by omega),if_neg (by omega),if_pos hk] at h
     simp only [Qm (show (8:Int)≠0 by decide),isI] at h
     exact h
   · rw [if_neg (by omega),if_neg (by omega),if_neg (by omega),if_neg (by omega),if_neg (by omega),if_neg (by omega),if_neg (by omega),if_neg (by omega),if_neg (by omega),if_neg (by omega),if_neg (by omega),if_pos hk] at h
     simp only [X9,Qm (show (8:Int)≠0 by decide)] at h
     exact hds _ (by rw [BI h.2.1];rfl)
 · split at hs
   · rename_i hk
     obtain ⟨c,hc,rfl⟩:=List.mem_map.1 hs
     rw [if_neg (by omega),if_neg (by omega),if_neg (by omega),if_neg (by omega),if_neg (by omega),if_neg (by omega),if_neg (by omega),if_neg (by omega),if_pos hk] at h
     unfold WB at h
     simp only [X9] at h
     exact (Kb (Sub.refl deps) _ _ _ h.2.2).2 c hc
   · cases hs
theorem Kg (hd:Sub deps deps') (hs:Sub strs strs') (hds:∀ s,(ZC strs s).isSome=true→(ZC deps s).isSome=true):∀ (l bef:List Zm),(Y2 deps strs bef l).2=0→Y2 deps' strs' bef l=(-1,0)∧∀ s∈Z0 l,(ZC deps s).isSome=true
 | [],bef,h=>⟨rfl,λ s hs=>by cases hs⟩
 | f::l,bef,h=>by
  unfold Y2 at h ⊢
  by_cases h0:YH bef (vI deps) (vB strs) f=0
  · rw [if_pos h0] at h
    rw [if_pos (CT hd hs h0)]
    obtain ⟨i1,i2⟩:=Kg hd hs hds l _ h
    refine ⟨i1,λ s hs=>?_⟩
    rcases List.mem_append.1 (show s∈XQ f++Z0 l from hs) with hs | hs
    · exact B6 hds h0 s hs
    · exact i2 s hs
  · rw [if_neg h0] at h;exact absurd h h0
theorem Vz {m:ZD} (h:(Qg deps strs m).2=0):XT m.name=true∧ZC deps m.name=none∧(1≤m.fields.length∧m.fields.length≤40)∧(Y2 deps strs [] m.fields).2=0∧XU deps m < 16:=by
 have hl:=BG h
 unfold Qg at h
 by_cases h1:XT m.name=true
 · rw [if_pos h1] at h
   by_cases h2:(ZC deps m.name).isSome=true
   · rw [if_pos h2] at h;exact absurd h (by decide)
   · rw [if_neg h2] at h
     by_cases h3:1≤m.fields.length∧m.fields.length≤40
     · rw [if_pos h3] at h
       refine ⟨h1,by simpa using h2,h3,?_,hl⟩
       unfold KK at h
       split at h
       · assumption
       · contradiction
     · rw [if_neg h3] at h;exact absurd h (by decide)
 · rw [if_neg h1] at h;exact absurd h (by decide)
end
section
variable {deps:List (ByteArray×Int)} {strs:List (ByteArray×Bool)}
theorem Gh {m:ZD} {l:List ZD} {i:Nat} (h:(Qg deps strs m).2=0):Qr deps strs i (m::l)=Qr (Ww deps m) (WV strs m) (i+1) l:=if_pos h
theorem UP {m:ZD} {l:List ZD} {i:Nat} (h:¬ (Qg deps strs m).2=0):Qr deps strs i (m::l)=((i:Int),Qg deps strs m):=if_neg h
theorem WY (r:List ZD):∀ (l:List ZD) (deps:List (ByteArray×Int)) (strs:List (ByteArray×Bool)) (i:Nat),((Qr deps strs i l).2.2=0→Qr deps strs i (l++r)=Qr (l.foldl Ww deps) (l.foldl WV strs) (i+l.length) r)∧((Qr deps strs i l).2.2≠0→Qr deps strs i (l++r)=Qr deps strs i l)
 | [],deps,strs,i=>⟨λ _=>rfl,λ h=>absurd rfl h⟩
 | m::l,deps,strs,i=>by
  have ih:=WY r l (Ww deps m) (WV strs m) (i+1)
  by_cases h:(Qg deps strs m).2=0
  · rw [Gh h,List.cons_append,Gh h]
    simp only [List.foldl_cons,List.length_cons]
    rw [show i+(l.length+1)=i+1+l.length by omega]
    exact ih
  · rw [UP h,List.cons_append,UP h]
    exact ⟨λ k=>absurd k h,λ _=>rfl⟩
theorem In {l:List ZD} {deps:List (ByteArray×Int)} {strs:List (ByteArray×Bool)} {i:Nat} (h:(Qr deps strs i l).2.2=0) {k:Nat} {m:ZD} (hk:l[k]?=some m):(Qg ((l.take k).foldl Ww deps) ((l.take k).foldl WV strs) m).2=0∧(Qr deps strs i (l.take k)).2.2=0:=by
 have hl:l=l.take k++m::l.drop (k+1):=by
  have:=(List.take_append_drop k l).symm
  rw [List.drop_eq_getElem_cons (List.getElem?_eq_some_iff.1 hk).1] at this
  rw [(List.getElem?_eq_some_iff.1 hk).2] at this
  exact this
 rw [hl] at h
 by_cases h0:(Qr deps strs i (l.take k)).2.2=0
 · rw [(WY _ _ _ _ _).1 h0] at h
   refine ⟨?_,h0⟩
   by_cases h1:(Qg ((l.take k).foldl Ww deps) ((l.take k).foldl WV strs) m).2=0
   · exact h1
   · rw [UP h1] at h;exact absurd h h1
 · rw [(WY _ _ _ _ _).2 h0] at h;exact absurd h h0
theorem Jh (l:List ZD) (m:ZD):ZK (l++[m])=ZK l++[(m.name,XU (ZK l) m+1)]:=by unfold ZK;rw [List.foldl_append];rfl
theorem AW (l:List ZD) (m:ZD):Z7 (l++[m])=Z7 l++[(m.name,VU (Z7 l) m)]:=by unfold Z7;rw [List.foldl_append];rfl
theorem J5:∀ (l:List ZD) (a:List (ByteArray×Int)) (b:List (ByteArray×Bool)),(l.foldl Ww a).map (·.1)=a.map (·.1)++l.map (·.name)∧(l.foldl WV b).map (·.1)=b.map (·.1)++l.map (·.name)
 | [],a,b=>by simp
 | m::l,a,b=>by
  have ih:=J5 l (Ww a m) (WV b m)
  simp only [List.foldl_cons,List.map_cons]
  rw [ih.1,ih.2]
  simp [Ww,WV]
theorem isD {l:List ZD} {s:ByteArray}:(ZC (ZK l) s).isSome=true↔∃ m∈l,m.name=s:=by
 have h1:=(J5 l [] []).1
 rw [← Option.ne_none_iff_isSome,ne_eq,xW]
 constructor
 · intro h
   apply Classical.byContradiction
   intro hn
   apply h
   intro p hp he
   have:p.1∈(ZK l).map (·.1):=List.mem_map.2 ⟨p,hp,rfl⟩
   rw [show ZK l=l.foldl Ww [] from rfl,h1] at this
   obtain ⟨m,hm,hme⟩:=List.mem_map.1 (show p.1∈l.map (·.name) by simpa using this)
   exact hn ⟨m,hm,hme.trans he⟩
 · rintro ⟨m,hm,rfl⟩ h
   have:m.name∈(ZK l).map (·.1):=by rw [show ZK l=l.foldl Ww [] from rfl,h1];simpa using ⟨m,hm,rfl⟩
   obtain ⟨p,hp,hpe⟩:=List.mem_map.1 this
   exact h p hp hpe
theorem isS {l:List ZD} {s:ByteArray}:(ZC (Z7 l) s).isSome=true↔∃ m∈l,m.name=s:=by
 have h1:=(J5 l [] []).2
 rw [← Option.ne_none_iff_isSome,ne_eq,xW]
 constructor
 · intro h
   apply Classical.byContradiction
   intro hn
   apply h
   intro p hp he
   have:p.1∈(Z7 l).map (·.1):=List.mem_map.2 ⟨p,hp,rfl⟩
   rw [show Z7 l=l.foldl WV [] from rfl,h1] at this
   obtain ⟨m,hm,hme⟩:=List.mem_map.1 (show p.1∈l.map (·.name) by simpa using this)
   exact hn ⟨m,hm,hme.trans he⟩
 · rintro ⟨m,hm,rfl⟩ h
   have:m.name∈(Z7 l).map (·.1):=by rw [show Z7 l=l.foldl WV [] from rfl,h1];simpa using ⟨m,hm,rfl⟩
   obtain ⟨p,hp,hpe⟩:=List.mem_map.1 this
   exact h p hp hpe
def YL (l:List ZD):Prop:=(Qr [] [] 0 l).2.2=0
theorem YL.next {l:List ZD} (h:YL l) {k:Nat} {m:ZD} (hk:l[k]?=some m):(Qg (ZK (l.take k)) (Z7 (l.take k)) m).2=0:=(In h hk).1
theorem YL.take {l:List ZD} (h:YL l) (k:Nat):YL (l.take k):=by
 by_cases hk:k < l.length
 · obtain ⟨m,hm⟩:=getElem?_lt hk
   exact (In h hm).2
 · rw [List.take_of_length_le (by omega)];exact h
theorem YL.sub {l:List ZD} (h:YL l):∀ (n k:Nat),Sub (ZK (l.take k)) (ZK (l.take (k+n)))∧Sub (Z7 (l.take k)) (Z7 (l.take (k+n)))
 | 0,k=>⟨Sub.refl _,Sub.refl _⟩
 | n+1,k=>by
  have ih:=h.sub n k
  rw [← Nat.add_assoc]
  by_cases hk:k+n < l.length
  · obtain ⟨m,hm⟩:=getElem?_lt hk
    have h2:=(Vz (h.next hm)).2.1
    rw [ZU hm,Jh,AW]
    refine ⟨ih.1.trans (Sub.snoc h2),ih.2.trans (Sub.snoc ?_)⟩
    show ZC (Z7 (l.take (k+n))) m.name=none
    rw [← Option.not_isSome_iff_eq_none,isS,← isD,Option.not_isSome_iff_eq_none]
    exact h2
  · rw [List.take_of_length_le (show l.length≤k+n+1 by omega)]
    rw [List.take_of_length_le (show l.length≤k+n by omega)] at ih
    exact ih
theorem YL.suball {l:List ZD} (h:YL l) (k:Nat):Sub (ZK (l.take k)) (ZK l)∧Sub (Z7 (l.take k)) (Z7 l):=by
 have:=h.sub l.length k
 rw [List.take_of_length_le (show l.length≤k+l.length by omega)] at this
 exact this
theorem YL.depth {l:List ZD} (h:YL l) {k:Nat} {m:ZD} (hk:l[k]?=some m):ZC (ZK l) m.name=some (XU (ZK (l.take k)) m+1):=by
 refine (h.suball (k+1)).1 _ _ ?_
 rw [ZU hk,Jh,J2,if_pos rfl]
theorem YL.low {l:List ZD} (h:YL l):∀ k,Low (ZK (l.take k))
 | 0=>λ p hp=>by simp [ZK] at hp
 | k+1=>by
  by_cases hk:k < l.length
  · obtain ⟨m,hm⟩:=getElem?_lt hk
    rw [ZU hm,show ZK (l.take k++[m])=Ww (ZK (l.take k)) m from Jh _ _]
    exact (h.low k).step (h.next hm)
  · rw [List.take_of_length_le (show l.length≤k+1 by omega)]
    have:=h.low k
    rw [List.take_of_length_le (show l.length≤k by omega)] at this
    exact this
theorem D8 (g:ByteArray→Int):∀ (l:List ByteArray) (d:Int),d≤l.foldl (λ d s=>Qh d (g s)) d∧∀ s∈l,g s≤l.foldl (λ d s=>Qh d (g s)) d
 | [],d=>⟨by simp,λ _ h=>by cases h⟩
 | x::l,d=>by
  have ih:=D8 g l (Qh d (g x))
  simp only [List.foldl_cons]
  have h1:d≤Qh d (g x):=Ir _ _
  have h2:g x≤Qh d (g x):=by unfold Qh;split<;>omega
  refine ⟨by omega,λ s hs=>?_⟩
  rcases List.mem_cons.1 hs with rfl | hs
  · omega
  · exact ih.2 s hs
theorem Bw {m:ZD} {s:ByteArray} (h:s∈XN m):s∈Z0 m.fields:=J8 h
theorem Pv (l:List ZD) (s:ByteArray) (h:(ZC (Z7 l) s).isSome=true):(ZC (ZK l) s).isSome=true:=isD.2 (isS.1 h)
theorem YL.refs {l:List ZD} (h:YL l) {k:Nat} {m:ZD} (hk:l[k]?=some m) {s:ByteArray} (hs:s∈XN m) :
 ∃ i m',i < k∧l[i]?=some m'∧m'.name=s∧(∀ j m'',j < i→l[j]?=some m''→m''.name≠s)∧∃ v,ZC (ZK l) s=some v∧v≤XU (ZK (l.take k)) m:=by
 obtain ⟨_,_,_,h4,_⟩:=Vz (h.next hk)
 have h5:=(Kg (Sub.refl _) (Sub.refl _) (Pv _) _ _ h4).2 s (Bw hs)
 obtain ⟨m',hm',hn⟩:=isD.1 h5
 obtain ⟨i,hi⟩:=List.getElem?_of_mem hm'
 have hik:i < k∧l[i]?=some m':=by
  rw [List.getElem?_take] at hi
  split at hi
  · exact ⟨by assumption,hi⟩
  · cases hi
 obtain ⟨v,hv⟩:=Option.isSome_iff_exists.1 h5
 refine ⟨i,m',hik.1,hik.2,hn,λ j m'' hj hj2 hne=>?_,v,(h.suball k).1 _ _ hv,?_⟩
 · have h6:=(Vz (h.next hik.2)).2.1
   rw [← Option.not_isSome_iff_eq_none,isD] at h6
   exact h6 ⟨m'',List.mem_of_getElem? (i:=j) (by rw [List.getElem?_take,if_pos hj];exact hj2),hne.trans hn.symm⟩
 · have:=(D8 (λ s=>(ZC (ZK (l.take k)) s).getD 0) (XN m) 0).2 s hs
   rw [hv] at this
   exact this
end
section
variable {d:YF}
theorem Xh (h:(Yl d).2.2=0):XT d.name=true∧(1≤d.msgs.length∧d.msgs.length≤60)∧YL d.msgs∧(ZC (ZK d.msgs) d.start).isSome=true:=by
 unfold Yl at h
 by_cases h1:XT d.name=true
 · rw [if_pos h1] at h
   by_cases h2:1≤d.msgs.length∧d.msgs.length≤60
   · rw [if_pos h2] at h
     unfold FS at h
     by_cases h3:(Qr [] [] 0 d.msgs).2.2=0
     · rw [if_pos h3] at h
       by_cases h4:(ZC (ZK d.msgs) d.start).isSome=true
       · exact ⟨h1,h2,h3,h4⟩
       · rw [if_neg h4] at h;exact absurd h (by decide)
     · rw [if_neg h3] at h;exact absurd h h3
   · rw [if_neg h2] at h;exact absurd h (by decide)
 · rw [if_neg h1] at h;exact absurd h (by decide)
end
theorem jQ:∀ {a b:List Int},a.Pairwise (· < ·)→b.Pairwise (· < ·)→(∀ x,x∈a↔x∈b)→a=b
 | [],[],_,_,_=>rfl
 | [],y::b,_,_,h=>by have:=(h y).2 (List.mem_cons_self ..);cases this
 | x::a,[],_,_,h=>by have:=(h x).1 (List.mem_cons_self ..);cases this
 | x::a,y::b,ha,hb,h=>by
  obtain ⟨ha1,ha2⟩:=List.pairwise_cons.1 ha
  obtain ⟨hb1,hb2⟩:=List.pairwise_cons.1 hb
  have hxy:x=y:=by
   rcases List.mem_cons.1 ((h x).1 (List.mem_cons_self ..)) with e | e
   · exact e
   · rcases List.mem_cons.1 ((h y).2 (List.mem_cons_self ..)) with e' | e'
     · exact e'.symm
     · have:=hb1 x e
       have:=ha1 y e'
       omega
  subst hxy
  rw [jQ ha2 hb2 λ z=>?_]
  have hz:=h z
  simp only [List.mem_cons] at hz
  constructor
  · intro hm
    have:=ha1 z hm
    rcases hz.1 (.inr hm) with e | e
    · omega
    · exact e
  · intro hm
    have:=hb1 z hm
    rcases hz.2 (.inr hm) with e | e
    · omega
    · exact e
open Go.Lib in
theorem GB {d:Array Int} (hs:∀ i,i+1 < d.size→d[i]! ≤ d[i+1]!):∀ m,m≤d.size→(compactUpTo d m).Pairwise (· < ·)∧(∀ x,x∈compactUpTo d m↔∃ j,j < m∧d[j]! = x)∧∀ x∈compactUpTo d m,x≤d[m - 1]!
 | 0,_=>by simp [compactUpTo]
 | m+1,hm=>by
  obtain ⟨h1,h2,h3⟩:=GB hs m (by omega)
  have hstep:∀ x∈compactUpTo d m,x≤d[m]! := λ x hx=>by
   have h4:=h3 x hx
   cases m with
   | zero=>simp [compactUpTo] at hx
   | succ m=>have:=hs m (by omega);rw [show m+1 - 1=m by omega] at h4;omega
  rw [compactUpTo_succ]
  by_cases hk:keeps d m=true
  · rw [if_pos hk]
    have hlt:∀ x∈compactUpTo d m,x < d[m]! := λ x hx=>by
     have h4:=h3 x hx
     cases m with
     | zero=>simp [compactUpTo] at hx
     | succ m =>
      have:=hs m (by omega)
      unfold keeps at hk
      simp only [decide_eq_true_eq] at hk
      rw [show m+1 - 1=m by omega] at h4 hk
      omega
    refine ⟨List.pairwise_append.2 ⟨h1,List.pairwise_singleton _ _,λ x hx y hy=>?_⟩,λ x=>?_,λ x hx=>?_⟩
    · simp only [List.mem_singleton] at hy;subst hy;exact hlt x hx
    · simp only [List.mem_append,List.mem_singleton,h2]
      constructor
      · rintro (⟨j,hj,e⟩ | e)
        · exact ⟨j,by omega,e⟩
        · exact ⟨m,by omega,e.symm⟩
      · rintro ⟨j,hj,e⟩
        by_cases hjm:j=m
        · subst hjm;exact .inr e.symm
        · exact .inl ⟨j,by omega,e⟩
    · simp only [List.mem_append,List.mem_singleton] at hx
      rw [show m+1 - 1=m by omega]
      rcases hx with hx | hx
      · exact hstep x hx
      · omega
  · rw [if_neg hk,List.append_nil]
    have hm0:0 < m∧d[m]! = d[m - 1]! := by
     unfold keeps at hk
     simp only [decide_eq_true_eq,not_or,Classical.not_not] at hk
     exact ⟨by omega,hk.2⟩
    refine ⟨h1,λ x=>?_,λ x hx=>by rw [show m+1 - 1=m by omega];exact hstep x hx⟩
    rw [h2]
    constructor
    · rintro ⟨j,hj,e⟩
      exact ⟨j,by omega,e⟩
    · rintro ⟨j,hj,e⟩
      by_cases hjm:j=m
      · subst hjm;exact ⟨j - 1,by omega,by rw [← hm0.2];exact e⟩
      · exact ⟨j,by omega,e⟩
theorem Hh {l:List Int} (h:l.Pairwise (· ≤ ·)):∀ i,i+1 < l.toArray.size→l.toArray[i]! ≤ l.toArray[i+1]! := by
 intro i hi
 have hi':i+1 < l.length:=by simpa using hi
 rw [getElem!_pos _ i (by simp;omega),getElem!_pos _ (i+1) (by simpa using hi')]
 simp only [List.getElem_toArray]
 exact List.pairwise_iff_getElem.1 h i (i+1) (by omega) hi' (by omega)
theorem G1 (l:List Int):(l.mergeSort λ x y=>decide (x≤y)).Pairwise (· ≤ ·):=by
 have:=List.pairwise_mergeSort (le:=λ x y:Int=>decide (x≤y)) (λ a b c h1 h2=>by simp only [decide_eq_true_eq] at *;omega) (λ a b=>by simp only [Bool.or_eq_true,decide_eq_true_eq];omega) l
 exact this.imp λ h=>by simpa using h
theorem BF {l:List Int} {x:Int}:x∈l.mergeSort (λ x y=>decide (x≤y))↔x∈l:=(List.mergeSort_perm l _).mem_iff
theorem CC (l:List Int):(Go.Lib.compact (l.mergeSort λ x y=>decide (x≤y))).Pairwise (· < ·)∧∀ x,x∈Go.Lib.compact (l.mergeSort λ x y=>decide (x≤y))↔x∈l:=by
 obtain ⟨h1,h2,_⟩:=GB (Hh (G1 l)) (l.mergeSort λ x y=>decide (x≤y)).length (by simp)
 refine ⟨h1,λ x=>?_⟩
 unfold Go.Lib.compact
 rw [h2,← BF (l:=l)]
 constructor
 · rintro ⟨j,hj,e⟩
   rw [getElem!_pos _ j (by simpa using hj)] at e
   rw [← e]
   simp only [List.getElem_toArray]
   exact List.getElem_mem hj
 · intro hx
   obtain ⟨j,hj,e⟩:=List.getElem_of_mem hx
   exact ⟨j,hj,by rw [getElem!_pos _ j (by simpa using hj)];simpa using e⟩
theorem I9 {l:List Int} (h:l.Nodup):(l.mergeSort λ x y=>decide (x≤y)).Pairwise (· < ·):=by
 have h1:=G1 l
 have h2:(l.mergeSort λ x y=>decide (x≤y)).Nodup:=(List.mergeSort_perm l _).nodup_iff.2 h
 exact (h1.and h2).imp λ ⟨a,b⟩=>by omega
def Wz (n:Nat) (p:Nat→Bool):List Int:=((List.range n).filter p).map λ i:Nat=>(i:Int)
theorem Gv (n:Nat) (p:Nat→Bool):(Wz n p).Pairwise (· < ·):=by
 unfold Wz
 rw [List.pairwise_map]
 exact (List.Pairwise.filter p List.pairwise_lt_range).imp λ h=>by omega
theorem WR {n:Nat} {p:Nat→Bool} {x:Int}:x∈Wz n p↔∃ i:Nat,i < n∧p i=true∧x=i:=by
 unfold Wz
 simp only [List.mem_map,List.mem_filter,List.mem_range]
 constructor
 · rintro ⟨i,⟨h1,h2⟩,rfl⟩;exact ⟨i,h1,h2,rfl⟩
 · rintro ⟨i,h1,h2,rfl⟩;exact ⟨i,⟨h1,h2⟩,rfl⟩
theorem jG (n:Nat) (p:Nat→Bool):Wz (n+1) p=Wz n p++(if p n then [(n:Int)] else []):=by
 unfold Wz
 rw [List.range_succ,List.filter_append,List.map_append]
 congr 1
 cases h:p n<;>simp [h]
theorem Bk {n:Nat} {p q:Nat→Bool} (h:∀ i,i < n→p i=q i):Wz n p=Wz n q:=by
 unfold Wz
 congr 1
 exact List.filter_congr λ i hi=>h i (List.mem_range.1 hi)
theorem UF (n:Nat) (p:Nat→Bool):(Wz n p).length≤n:=by
 unfold Wz
 rw [List.length_map]
 exact Nat.le_trans (List.length_filter_le _ _) (by simp)
def W4 (f:Zm):List ByteArray:=if f.kind=4∨f.kind=7∨f.kind=12 then f.terms.map (·.field) else if f.kind=9 then [f.tag] else if f.kind=11 then [f.fr] else []
def Jw (bef:List Zm) (ns:List ByteArray):List Int:=ns.filterMap λ s=>if bef.any (λ g=>decide (g.name=s)) then some (idx (λ g=>decide (g.name=s)) bef) else none
def IK (l:List Zm) (k i:Nat):Bool:=match l[k]? with
 | some f=>(W4 f).any λ s=>idx (λ g=>decide (g.name=s)) (l.take k) == (i:Int)
 | none=>false
def Kj (l:List Zm) (k:Nat):List Int:=Wz k (IK l k)
def Vq (l:List Zm) (k:Nat):List Int:=Wz l.length λ i=>(Kj l i).contains (k:Int)
def Ee (l:List Zm):List Int:=Wz l.length λ i=>(match l[i]? with
 | some f=>YB f
 | none=>false)&&(Vq l i).isEmpty
theorem OJ {bef:List Zm} {ns:List ByteArray} {x:Int}:x∈Jw bef ns↔∃ s∈ns,idx (λ g=>decide (g.name=s)) bef=x∧0≤x:=by
 unfold Jw
 simp only [List.mem_filterMap]
 constructor
 · rintro ⟨s,hs,h⟩
   split at h
   · rename_i ha
     injection h with h
     refine ⟨s,hs,h,?_⟩
     rw [← Y7] at ha
     rw [← h]
     simpa using ha
   · cases h
 · rintro ⟨s,hs,rfl,h0⟩
   exact ⟨s,hs,by rw [if_pos (by rw [← Y7];simpa using h0)]⟩
theorem DG {l:List Zm} {k:Nat} {f:Zm} (hf:l[k]?=some f):Go.Lib.compact ((Jw (l.take k) (W4 f)).mergeSort λ x y=>decide (x≤y))=Kj l k:=by
 obtain ⟨h1,h2⟩:=CC (Jw (l.take k) (W4 f))
 refine jQ h1 (Gv _ _) λ x=>?_
 rw [h2,OJ,Kj,WR]
 constructor
 · rintro ⟨s,hs,h,h0⟩
   obtain ⟨hb1,hb2⟩:=qA (λ g:Zm=>decide (g.name=s)) (l.take k)
   rw [List.length_take] at hb2
   refine ⟨x.toNat,by omega,?_,by omega⟩
   unfold IK
   rw [hf]
   simp only [List.any_eq_true,beq_iff_eq]
   exact ⟨s,hs,by omega⟩
 · rintro ⟨i,hi,h,rfl⟩
   unfold IK at h
   rw [hf] at h
   simp only [List.any_eq_true,beq_iff_eq] at h
   obtain ⟨s,hs,h⟩:=h
   exact ⟨s,hs,h,by omega⟩
theorem Jl (w0:World) (s:ByteArray):Ret Pg 89 #[.string s] w0 λ r w'=>r = .bool (XT s)∧Ext w0 w':=by
 have hsz:s.data.toList.length=s.size:=by rw [Array.length_toList];rfl
 refine Zgh (R:=ZQ _) ?_;unfold n15
 by_cases h1:1≤s.size
 · have d1:decide ((s.size:Int) < 1)=false:=by simp;omega
   by_cases h2:s.size≤32
   · have d2:decide ((s.size:Int) > 32)=false:=by simp;omega
     simp (disch:=try exact DI) only [↓PR,QR,simprocAttr,d1,d2]
     unfold Id
     have hd:XT s=((match s.data.toList with | []=>false | c::_=>QC c)&&s.data.toList.all W9):=by
      unfold XT
      rw [show decide (1≤(s.size:Int))=true by simp;omega,show decide ((s.size:Int)≤32)=true by simp;omega]
      rfl
     rw [hd]
     clear hd
     obtain ⟨c,cs,hcs⟩:∃ c cs,s.data.toList=c::cs:=by
      cases hd:s.data.toList with
      | nil=>rw [hd] at hsz;simp at hsz;omega
      | cons c cs=>exact ⟨c,cs,rfl⟩
     simp (disch:=try exact DI) only [↓PR,QR,simprocAttr]
     rw [qt Tryz.underlying9 s .i64 (b:=c) (by rw [hcs];rfl)]
     refine Zt (xy _ c) ?_
     rintro r w1 ⟨rfl,e⟩
     rw [show (match s.data.toList with | []=>false | c::_=>QC c)=QC c by rw [hcs]]
     cases hl:QC c with
     | false =>
      simp (disch:=try exact DI) only [↓PR,QR,simprocAttr]
      exact ⟨by trivial,e⟩
     | true =>
      simp (disch:=try exact DI) only [↓PR,QR,simprocAttr]
      clear hl hcs
      refine ZA (λ i w'=>∃ k:Nat,i = .int .i64 k∧k≤s.data.toList.length∧Ext w0 w'∧(s.data.toList.drop k).all W9=s.data.toList.all W9) (λ i _=>s.data.toList.length - (intOf i).toNat) ⟨0,rfl,by omega,e,rfl⟩ ?_
      rintro _ w2 ⟨k,rfl,hk,e2,hI⟩
      rcases ZB hk with ⟨x,hx,hd,hlt,hdec⟩ | ⟨hk,hd,hdec⟩
      · rw [hsz] at hdec
        have hidx:∀ (R:List PanicEntry→World→Prop) (w:World) (K:Value→World→Prop),opV Pg (Instr.index 9 (.string s) (.int .i64 (k:Int))) R w K=K (.int .u8 (x.toNat:Int)) w:=λ R w K=>zV Tryz.underlying9 s .i64 k hx
        have hnext:W9 x=true→∀ w',Ext w0 w'→(∃ k':Nat,Value.int .i64 ((k+1:Nat):Int) = .int .i64 k'∧k'≤s.data.toList.length∧Ext w0 w'∧(s.data.toList.drop k').all W9=s.data.toList.all W9)∧s.data.toList.length - (intOf (Value.int .i64 ((k+1:Nat):Int))).toNat < s.data.toList.length - (intOf (Value.int .i64 (k:Int))).toNat:=by
         intro hx1 w' e'
         refine ⟨⟨k+1,rfl,hlt,e',?_⟩,?_⟩
         · rw [← hI,hd];simp [hx1]
         · show s.data.toList.length - (((k+1:Nat):Int)).toNat < s.data.toList.length - ((k:Int)).toNat
           omega
        have hstop:W9 x=false→s.data.toList.all W9=false:=by
         intro hx1
         rw [← hI,hd];simp [hx1]
        unfold Pc
        simp (disch:=try exact DI) only [↓PR,QR,simprocAttr,hdec]
        rw [hidx]
        refine Zt (xy _ x) ?_
        rintro r w3 ⟨rfl,e3⟩
        have e4:=e2.trans e3
        unfold S6
        cases hl:QC x with
        | true =>
         simp (disch:=try exact DI) only [↓PR,QR,simprocAttr,NJ]
         exact hnext (by unfold W9;rw [hl];rfl) _ e4
        | false =>
         simp (disch:=try exact DI) only [↓PR,QR,simprocAttr]
         rw [hidx]
         refine Zt (Fq _ x) ?_
         rintro r w5 ⟨rfl,e5⟩
         have e6:=e4.trans e5
         unfold NJ
         cases hg:Gg x with
         | true =>
          simp (disch:=try exact DI) only [↓PR,QR,simprocAttr]
          exact hnext (by unfold W9;rw [hl,hg];rfl) _ e6
         | false =>
          simp (disch:=try exact DI) only [↓PR,QR,simprocAttr]
          rw [hidx]
          cases hu:((x.toNat:Int) == 95) with
          | true =>
           have hu':((x.toNat:Int) != 95)=false:=by rw [bne,hu];rfl
           simp (disch:=try exact DI) only [↓PR,QR,simprocAttr,hu']
           exact hnext (by unfold W9;rw [hl,hg,hu];rfl) _ e6
          | false =>
           have hu':((x.toNat:Int) != 95)=true:=by rw [bne,hu];rfl
           simp (disch:=try exact DI) only [↓PR,QR,simprocAttr,hu']
           exact ⟨by rw [hstop (by unfold W9;rw [hl,hg,hu];rfl)],e6⟩
      · rw [hsz] at hdec hk
        unfold Pc
        simp (disch:=try exact DI) only [↓PR,QR,simprocAttr,hdec]
        refine ⟨?_,e2⟩
        rw [← hI,hd]
        rfl
   · have d2:decide ((s.size:Int) > 32)=true:=by simp;omega
     simp (disch:=try exact DI) only [↓PR,QR,simprocAttr,d1,d2]
     unfold Id
     simp (disch:=try exact DI) only [↓PR,QR,simprocAttr]
     refine ⟨?_,Ext.refl _⟩
     unfold XT
     rw [show decide ((s.size:Int)≤32)=false by simp;omega]
     simp
 · have d1:decide ((s.size:Int) < 1)=true:=by simp;omega
   simp (disch:=try exact DI) only [↓PR,QR,simprocAttr,d1]
   unfold Id
   simp (disch:=try exact DI) only [↓PR,QR,simprocAttr]
   refine ⟨?_,Ext.refl _⟩
   unfold XT
   rw [show decide (1≤(s.size:Int))=false by simp;omega]
   simp
theorem xU (w0:World) (v:Int):Ret Pg 190 #[.int .i64 v] w0 λ r w'=>r = .bool (Wc v)∧Ext w0 w':=by
 refine Zdn (R:=ZQ _) ?_;unfold n21
 unfold Wc
 by_cases h : -1048576≤v
 · have d1:decide (v ≥ -1048576)=true:=by simpa using h
   simp (disch:=try exact DI) only [↓PR,QR,simprocAttr,d1]
   exact ⟨by simp [h],Ext.refl _⟩
 · have d1:decide (v ≥ -1048576)=false:=by simpa using h
   simp (disch:=try exact DI) only [↓PR,QR,simprocAttr,d1]
   exact ⟨by simp [h],Ext.refl _⟩
theorem Kp (w0:World) (v:Value) (base:Int) (ts:List ZX) (hs:Q6 w0 v base ts):Ret Pg 174 #[v] w0 λ r w'=>r = .bool (Q3 base ts)∧Ext w0 w':=by
 obtain ⟨tv,rfl,hT⟩:=hs
 obtain ⟨A,c,rfl,hlc,hcm,hlm,hel⟩:=Ze.open hT
 refine ZgD (R:=ZQ _) ?_;unfold n17
 simp (disch:=try exact DI) only [↓PR,QR,simprocAttr]
 have hBW:=ZS.new (w:=w0) ([.int .i64 base,.slice A ts.length c]) (45)
 have eW:Ext w0 (w0.alloc (Obj.cells (List.toArray ([.int .i64 base,.slice A ts.length c])) (45))):=(Ext.refl _).alloc _
 generalize (w0.alloc (Obj.cells (List.toArray ([.int .i64 base,.slice A ts.length c])) (45)))=W at hBW eW ⊢
 refine zcr (xU _ base) λ w1 e1=>?_
 have E1:=eW.trans e1
 unfold R3
 cases hb:Wc base with
 | false =>
  simp (disch:=try exact DI) only [↓PR,QR,simprocAttr]
  exact ⟨by unfold Q3;rw [hb];rfl,E1⟩
 | true =>
 by_cases h4:ts.length≤4
 · have d4:decide ((ts.length:Int) > 4)=false:=by simp;omega
   simp (disch:=try exact DI) only [↓PR,QR,simprocAttr,hBW.c2,d4]
   have hsz:Q3 base ts=KT [] ts:=by unfold Q3;rw [hb];simp [h4]
   rw [hsz]
   have hbad:∀ {k x},ts[k]?=some x→(Un ((ts.take k).map (·.field)) x.field||!Wv x)=true→KT [] ts=false:=by
    intro k x hx hm
    cases ht:KT [] ts with
    | false=>rfl
    | true=>have:=(VJ ts []).1 ht k x hx;rw [List.nil_append,hm] at this;cases this
   refine ZA (λ a0 w=>∃ (k:Nat) , a0 = .int .i64 (k:Int)∧k≤ts.length∧Ext w1 w∧∀ j x,j < k→ts[j]?=some x→(Un ((ts.take j).map (·.field)) x.field||!Wv x)=false) (λ a0 _=>ts.length - (intOf a0).toNat) ⟨0,rfl,Nat.zero_le _,ee,by intro j x h;omega⟩ ?_
   rintro _ w ⟨k,rfl,hk,e,hI⟩
   have se:=e.size
   rcases ZB hk with ⟨x,hx,hd,hlt,hdec⟩ | ⟨hk,hd,hdec⟩
   · obtain ⟨b,o,cs,rfl,hl,hA,rfl⟩:=hel k x hx
     have E:=E1.trans e
     have f:=e1.trans e
     unfold O3
     simp (disch:=try exact DI) only [↓PR,QR,simprocAttr,hBW.c2,hdec]
     unfold Ta
     simp (disch:=try exact DI) only [↓PR,QR,simprocAttr,hBW.c2,(hA.c2 E).1]
     refine zcr (Jl _ x.field) λ w2 e2=>?_
     have E2:=E.trans e2
     have f2:=f.trans e2
     unfold SC
     cases hn:XT x.field with
     | false =>
      simp (disch:=try exact DI) only [↓PR,QR,simprocAttr]
      unfold IC
      simp (disch:=try exact DI) only [↓PR,QR,simprocAttr]
      exact ⟨by rw [hbad hx (by unfold Wv;rw [hn];simp)],E2⟩
     | true =>
     by_cases hf:x.factor=0
     · have d1:(x.factor == 0)=true:=by simpa using hf
       simp (disch:=try exact DI) only [↓PR,QR,simprocAttr,hBW.c2,(hA.c2 E2).2,d1]
       unfold IC
       simp (disch:=try exact DI) only [↓PR,QR,simprocAttr]
       exact ⟨by rw [hbad hx (by unfold Wv;rw [hf];simp)],E2⟩
     have d1:(x.factor == 0)=false:=by simpa using hf
     simp (disch:=try exact DI) only [↓PR,QR,simprocAttr,hBW.c2,(hA.c2 E2).2,d1]
     unfold IC
     simp (disch:=try exact DI) only [↓PR,QR,simprocAttr,hBW.c2,(hA.c2 E2).2]
     refine zcr (xU _ x.factor) λ w3 e3=>?_
     have E3:=E2.trans e3
     have f3:=f2.trans e3
     cases hsm:Wc x.factor with
     | false =>
      simp (disch:=try exact DI) only [↓PR,QR,simprocAttr]
      exact ⟨by rw [hbad hx (by unfold Wv;rw [hsm];simp)],E3⟩
     | true =>
     have hterm:Wv x=true:=by unfold Wv;rw [hn,hsm,bne,d1];rfl
     simp (disch:=try exact DI) only [↓PR,QR,simprocAttr]
     refine ZA (λ i w'=>∃ j:Nat,i = .int .i64 j∧j≤k∧Ext w3 w'∧∀ i y,i < j→ts[i]?=some y→y.field≠x.field) (λ i _=>k - (intOf i).toNat) ⟨0,rfl,by omega,Ext.refl _,by intro i y h;omega⟩ ?_
     rintro _ w4 ⟨j,rfl,hj,e4,hI4⟩
     have E4:=E3.trans e4
     have f4:=f3.trans e4
     unfold Sn
     by_cases hjk:j < k
     · have d2:decide ((j:Int) < (k:Int))=true:=by simp;omega
       obtain ⟨y,hy⟩:=getElem?_lt (l:=ts) (k:=j) (by omega)
       obtain ⟨b',o',cs',hA',_,hB,rfl⟩:=hel j y hy
       injection hA' with hA'
       injection hA' with hb1 ho1 _
       subst hb1 ho1
       have hjl:(j:Int) < (ts.length:Int):=by omega
       have hkl:(k:Int) < (ts.length:Int):=by omega
       simp (disch:=try exact DI) only [↓PR,QR,simprocAttr,d2]
       refine ZI ?_
       unfold Sh
       simp (disch:=try exact DI) only [↓PR,QR,simprocAttr,hBW.c2,(hA.c2 E4).1,(hB.c2 E4).1]
       by_cases hxy:y.field=x.field
       · rw [show decide (y.field=x.field)=true by simp [hxy]]
         simp (disch:=try exact DI) only [↓PR,QR,simprocAttr]
         refine ⟨?_,ee⟩
         rw [hbad hx]
         rw [show Un ((ts.take k).map (·.field)) x.field=true from ?_]
         · rfl
         unfold Un
         rw [List.any_eq_true]
         exact ⟨y.field,List.mem_map.2 ⟨y,List.mem_of_getElem? (i:=j) (by rw [List.getElem?_take,if_pos hjk];exact hy),rfl⟩,by simp [hxy]⟩
       · rw [show decide (y.field=x.field)=false by simp [hxy]]
         simp (disch:=try exact DI) only [↓PR,QR,simprocAttr]
         refine ⟨⟨j+1,rfl,by omega,ee,λ i z hi hz=>?_⟩,ZF (kd := .i64) hjk⟩
         by_cases hij:i=j
         · subst hij;rw [hy] at hz;injection hz with hz;subst hz;exact hxy
         · exact hI4 i z (by omega) hz
     · have d2:decide ((j:Int) < (k:Int))=false:=by simp;omega
       have hjk':j=k:=by omega
       subst hjk'
       simp (disch:=try exact DI) only [↓PR,QR,simprocAttr,d2]
       have hmem:Un ((ts.take j).map (·.field)) x.field=false:=by
        unfold Un
        rw [List.any_eq_false]
        intro s hs
        obtain ⟨y,hy,rfl⟩:=List.mem_map.1 hs
        obtain ⟨i,hi⟩:=List.getElem?_of_mem hy
        rw [List.getElem?_take] at hi
        split at hi
        · simpa using hI4 i y (by assumption) hi
        · cases hi
       refine ⟨⟨j+1,rfl,by omega,e.trans (e2.trans (e3.trans e4)),λ i z hi hz=>?_⟩,ZF (kd := .i64) hlt⟩
       by_cases hij:i=j
       · subst hij;rw [hx] at hz;injection hz with hz;subst hz;rw [hmem,hterm];rfl
       · exact hI i z (by omega) hz
   · subst hk
     have f:=e1.trans e
     unfold O3
     simp (disch:=try exact DI) only [↓PR,QR,simprocAttr,hBW.c2,hdec]
     refine ⟨?_,E1.trans e⟩
     rw [(VJ ts []).2 (λ j x hx=>by rw [List.nil_append];exact hI j x (List.getElem?_eq_some_iff.1 hx).1 hx)]
 · have d4:decide ((ts.length:Int) > 4)=true:=by simp;omega
   simp (disch:=try exact DI) only [↓PR,QR,simprocAttr,hBW.c2,d4]
   refine ⟨?_,E1⟩
   unfold Q3
   simp [h4]
def Wm (f:ZX→Int):List ZX→Int
 | []=>0
 | t::ts=>t.factor*f t+Wm f ts
def XO (rp:List (ByteArray×Int×Int)) (t:ZX):Int×Int:=(Yn rp t.field).getD (0,0)
def jF (rp:List (ByteArray×Int×Int)) (mix i:Nat) (t:ZX):Int:=if mix / 2 ^ i % 2=1 then (XO rp t).2 else (XO rp t).1
def W8 (rp:List (ByteArray×Int×Int)) (mix:Nat):Nat→List ZX→Int
 | _,[]=>0
 | i,t::ts=>t.factor*jF rp mix i t+W8 rp mix (i+1) ts
section
variable {rp:List (ByteArray×Int×Int)}
theorem Ka (b:ZX→Bool):∀ ts:List ZX,∃ mix:Nat,mix < 2 ^ ts.length∧∀ i r:Nat,r < 2 ^ i→W8 rp (mix*2 ^ i+r) i ts=Wm (λ t=>if b t then (XO rp t).2 else (XO rp t).1) ts
 | []=>⟨0,by simp,λ i r _=>rfl⟩
 | t::ts=>by
  obtain ⟨mix,h1,h2⟩:=Ka b ts
  refine ⟨mix*2+(if b t then 1 else 0),?_,λ i r hr=>?_⟩
  · rw [List.length_cons,Nat.pow_succ]
    split<;>omega
  · have hd:((mix*2+(if b t then 1 else 0))*2 ^ i+r) / 2 ^ i=mix*2+(if b t then 1 else 0):=by
     rw [Nat.mul_comm _ (2 ^ i),Nat.mul_add_div (Nat.two_pow_pos i),Nat.div_eq_of_lt hr,Nat.add_zero]
    have hm:(mix*2+(if b t then 1 else 0)) % 2=if b t then 1 else 0:=by split<;>omega
    have he:(mix*2+(if b t then 1 else 0))*2 ^ i+r=mix*2 ^ (i+1)+((if b t then 1 else 0)*2 ^ i+r):=by
     rw [Nat.add_mul,Nat.pow_succ,Nat.mul_assoc,Nat.mul_comm 2 (2 ^ i)];omega
    have hr':(if b t then 1 else 0)*2 ^ i+r < 2 ^ (i+1):=by
     rw [Nat.pow_succ];split<;>omega
    simp only [W8,Wm]
    have h3:=h2 (i+1) _ hr'
    rw [← he] at h3
    rw [h3]
    unfold jF
    rw [hd,hm]
    cases b t<;>rfl
theorem P6 {ts:List ZX} {f g:ZX→Int} (hf:∀ t∈ts,t.factor*f t≤t.factor*(XO rp t).1∧t.factor*f t≤t.factor*(XO rp t).2) (hg:∀ t∈ts,t.factor*(XO rp t).1≤t.factor*g t∧t.factor*(XO rp t).2≤t.factor*g t) (mix:Nat):∀ i,Wm f ts≤W8 rp mix i ts∧W8 rp mix i ts≤Wm g ts:=by
 induction ts with
 | nil=>intro i;exact ⟨Int.le_refl _,Int.le_refl _⟩
 | cons t ts ih =>
  intro i
  have h1:=hf t List.mem_cons_self
  have h2:=hg t List.mem_cons_self
  have h3:=ih (λ t ht=>hf t (List.mem_cons_of_mem _ ht)) (λ t ht=>hg t (List.mem_cons_of_mem _ ht)) (i+1)
  simp only [Wm,W8]
  unfold jF
  split<;>omega
theorem qj {ts:List ZX} {f g:ZX→Int} (h:∀ t∈ts,f t=g t):Wm f ts=Wm g ts:=by
 induction ts with
 | nil=>rfl
 | cons t ts ih =>
  simp only [Wm]
  rw [h t List.mem_cons_self,ih (λ t ht=>h t (List.mem_cons_of_mem _ ht))]
theorem Vk {a b:Int} (h1 : -1048576≤a) (h2:a≤1048576) (h3:0≤b) (h4:b≤34359738368) : -36028797018963968≤a*b∧a*b≤36028797018963968:=by
 have a1:a*b≤1048576*b:=Int.mul_le_mul_of_nonneg_right h2 h3
 have a2 : -1048576*b≤a*b:=Int.mul_le_mul_of_nonneg_right h1 h3
 omega
def zl (rp:List (ByteArray×Int×Int)) (t:ZX):Prop := -1048576≤t.factor∧t.factor≤1048576∧0≤(XO rp t).1∧(XO rp t).1≤(XO rp t).2∧(XO rp t).2≤34359738368
theorem qO {f:ZX→Int}:∀ (ts:List ZX) (n:Int),(∀ t∈ts,-36028797018963968≤t.factor*f t∧t.factor*f t≤36028797018963968) → -4611686018427387904≤n - ts.length*36028797018963968→n+ts.length*36028797018963968≤4611686018427387904→G3 n f ts=n+Wm f ts
 | [],n,_,_,_=>by simp [G3,Wm]
 | t::ts,n,h,h1,h2=>by
  have h3:=h t List.mem_cons_self
  simp only [List.length_cons] at h1 h2
  have e1:IntKind.i64.wrap (t.factor*f t)=t.factor*f t:=Yk (by omega) (by omega)
  have e2:IntKind.i64.wrap (n+t.factor*f t)=n+t.factor*f t:=Yk (by omega) (by omega)
  have ih:=qO (f:=f) ts (n+t.factor*f t) (λ t ht=>h t (List.mem_cons_of_mem _ ht)) (by omega) (by omega)
  simp only [G3,List.foldl_cons,Wm] at ih ⊢
  rw [e1,e2,ih]
  omega
theorem Ke {t:ZX} (h:(Yn rp t.field).isSome=true) (least:Bool):Qu rp least t=if least == decide (t.factor > 0) then (XO rp t).1 else (XO rp t).2:=by
 unfold Qu XO
 obtain ⟨q,hq⟩:=Option.isSome_iff_exists.1 h
 rw [hq]
 rfl
theorem Zaq {t:ZX} (h:(Yn rp t.field).isSome=true) (hs:zl rp t):t.factor*Qu rp true t≤t.factor*(XO rp t).1∧t.factor*Qu rp true t≤t.factor*(XO rp t).2:=by
 rw [Ke h]
 by_cases hp:t.factor > 0
 · have:t.factor*(XO rp t).1≤t.factor*(XO rp t).2:=Int.mul_le_mul_of_nonneg_left hs.2.2.2.1 (by omega)
   simp only [hp,decide_true,BEq.rfl,if_true]
   omega
 · have:t.factor*(XO rp t).2≤t.factor*(XO rp t).1:=Int.mul_le_mul_of_nonpos_left (by omega) hs.2.2.2.1
   rw [show (true == decide (t.factor > 0))=false by simp [hp],if_neg (by decide)]
   omega
theorem Zai {t:ZX} (h:(Yn rp t.field).isSome=true) (hs:zl rp t):t.factor*(XO rp t).1≤t.factor*Qu rp false t∧t.factor*(XO rp t).2≤t.factor*Qu rp false t:=by
 rw [Ke h]
 by_cases hp:t.factor > 0
 · have:t.factor*(XO rp t).1≤t.factor*(XO rp t).2:=Int.mul_le_mul_of_nonneg_left hs.2.2.2.1 (by omega)
   rw [show (false == decide (t.factor > 0))=false by simp [hp],if_neg (by decide)]
   omega
 · have:t.factor*(XO rp t).2≤t.factor*(XO rp t).1:=Int.mul_le_mul_of_nonpos_left (by omega) hs.2.2.2.1
   rw [show (false == decide (t.factor > 0))=true by simp [hp],if_pos rfl]
   omega
theorem Mw {t:ZX} (h:(Yn rp t.field).isSome=true) (hs:zl rp t) (least:Bool) : -36028797018963968≤t.factor*Qu rp least t∧t.factor*Qu rp least t≤36028797018963968:=by
 obtain ⟨h1,h2,h3,h4,h5⟩:=hs
 rw [Ke h]
 split
 · exact Vk h1 h2 h3 (by omega)
 · exact Vk h1 h2 (by omega) h5
theorem I7 {ts:List ZX} (h:∀ t∈ts,(Yn rp t.field).isSome=true∧zl rp t):(∀ mix,Wm (Qu rp true) ts≤W8 rp mix 0 ts∧W8 rp mix 0 ts≤Wm (Qu rp false) ts)∧(∃ mix,mix < 2 ^ ts.length∧W8 rp mix 0 ts=Wm (Qu rp true) ts)∧(∃ mix,mix < 2 ^ ts.length∧W8 rp mix 0 ts=Wm (Qu rp false) ts):=by
 refine ⟨λ mix=>P6 (λ t ht=>Zaq (h t ht).1 (h t ht).2) (λ t ht=>Zai (h t ht).1 (h t ht).2) mix 0,?_,?_⟩
 · obtain ⟨mix,h1,h2⟩:=Ka (rp:=rp) (λ t=>!(true == decide (t.factor > 0))) ts
   refine ⟨mix,h1,?_⟩
   have:=h2 0 0 (by decide)
   rw [Nat.pow_zero,Nat.mul_one,Nat.add_zero] at this
   rw [this]
   refine qj λ t ht=>?_
   rw [Ke (h t ht).1]
   cases (true == decide (t.factor > 0))<;>rfl
 · obtain ⟨mix,h1,h2⟩:=Ka (rp:=rp) (λ t=>!(false == decide (t.factor > 0))) ts
   refine ⟨mix,h1,?_⟩
   have:=h2 0 0 (by decide)
   rw [Nat.pow_zero,Nat.mul_one,Nat.add_zero] at this
   rw [this]
   refine qj λ t ht=>?_
   rw [Ke (h t ht).1]
   cases (false == decide (t.factor > 0))<;>rfl
end
theorem Zax {P:Program} {QP:List PanicEntry→World→Prop} {w:World} {k:Value→World→Prop} (t:TypeId) (c:Bool) (x:Nat) (yk:IntKind) (y:Nat) (h1:y≤64):opV P (ZM .shr t c (.int .i64 (x:Int)) (.int yk (y:Int))) QP w k=k (.int .i64 ((x / 2 ^ y:Nat):Int)) w:=Z3 (by
 have h0:(0:Int)≤(y:Int):=by omega
 have h2:(y:Int)≤64:=by omega
 have h3:(x:Int).fdiv (2 ^ y)=((x / 2 ^ y:Nat):Int):=by
  rw [Int.fdiv_eq_ediv_of_nonneg _ (by exact Int.le_of_lt (Int.pow_pos (by decide)))]
  simp
 simp [ZM,go_sem,h0,h2,h3])
abbrev Ad (p:ByteArray×Int×Int):List Value:=[.string p.1,.int .i64 p.2.1,.int .i64 p.2.2]
def TZ (_:World) (cs:List Value) (p:ByteArray×Int×Int):Prop:=cs=Ad p
theorem P9:jJ TZ:=λ _ _ _ _ _ h=>h
def zW (w:World) (v:Value) (l:List (ByteArray×Int×Int)):Prop:=Ze w 3 TZ v l
theorem zW.ext {w w':World} {v:Value} {l:List (ByteArray×Int×Int)} (h:zW w v l) (e:Ext w w'):zW w' v l:=Ze.ext P9 h e
def qI (rp:List (ByteArray×Int×Int)) (s:ByteArray) (a:Int):Prop:=(a = -1∧Yn rp s=none)∨∃ (j:Nat) (q:Int×Int),a=j∧rp[j]?=some (s,q)∧Yn rp s=some q
theorem Gl (ps:List (ByteArray×Int×Int)) (p:ByteArray×Int×Int) (s:ByteArray):Yn (ps++[p]) s=if p.1=s then some p.2 else Yn ps s:=J2 ps p s
theorem qI.step {rp:List (ByteArray×Int×Int)} {s:ByteArray} {a:Int} {k:Nat} {p:ByteArray×Int×Int} (h:qI (rp.take k) s a) (hk:rp[k]?=some p):qI (rp.take (k+1)) s (if p.1=s then (k:Int) else a):=by
 have hlt:=(List.getElem?_eq_some_iff.1 hk).1
 by_cases he:p.1=s
 · rw [if_pos he]
   refine .inr ⟨k,p.2,rfl,?_,?_⟩
   · rw [List.getElem?_take,if_pos (by omega),hk,← he]
   · rw [ZU hk,Gl,if_pos he]
 · rw [if_neg he]
   rcases h with ⟨h1,h2⟩ | ⟨j,q,h1,h2,h3⟩
   · exact .inl ⟨h1,by rw [ZU hk,Gl,if_neg he];exact h2⟩
   · refine .inr ⟨j,q,h1,?_,by rw [ZU hk,Gl,if_neg he];exact h3⟩
     rw [List.getElem?_take] at h2 ⊢
     split at h2
     · rw [if_pos (by omega)];exact h2
     · cases h2
theorem Kf (w0:World) (v:Value) (rp:List (ByteArray×Int×Int)) (s:ByteArray) (hs:zW w0 v rp):Ret Pg 175 #[v,.string s] w0 λ r w'=>(∃ a,r = .int .i64 a∧qI rp s a)∧Ext w0 w':=by
 obtain ⟨A,c,rfl,hlc,hcm,hlm,hel⟩:=Ze.open hs
 refine Zea (R:=ZQ _) ?_;unfold n13
 refine Ye (λ a0 a1 w=>∃ (k:Nat) (a:Int),a0 = .int .i64 a∧a1 = .int .i64 (k:Int)∧k≤rp.length∧Ext w0 w∧qI (rp.take k) s a) (λ a0 a1 _=>rp.length - (intOf a1).toNat) ⟨0,-1,rfl,rfl,Nat.zero_le _,ee,.inl ⟨rfl,rfl⟩⟩ ?_
 rintro _ _ w ⟨k,a,rfl,rfl,hk,e,hI⟩
 have se:=e.size
 rcases ZB hk with ⟨x,hx,hd,hlt,hdec⟩ | ⟨hk,hd,hdec⟩
 · obtain ⟨b,o,cs,rfl,hl,hA,rfl⟩:=hel k x hx
   have hst:=hI.step hx
   unfold OT
   simp (disch:=try exact DI) only [↓PR,QR,simprocAttr,hdec]
   unfold RY
   by_cases he:x.1=s
   · rw [if_pos he] at hst
     simp (disch:=try exact DI) only [↓PR,QR,simprocAttr,(hA.c3 e).1,show decide (x.1=s)=true by simp [he]]
     exact ⟨⟨k+1,(k:Int),rfl,rfl,by omega,ee,hst⟩,ZF (kd := .i64) hlt⟩
   · rw [if_neg he] at hst
     simp (disch:=try exact DI) only [↓PR,QR,simprocAttr,(hA.c3 e).1,show decide (x.1=s)=false by simp [he]]
     exact ⟨⟨k+1,a,rfl,rfl,by omega,ee,hst⟩,ZF (kd := .i64) hlt⟩
 · subst hk
   rw [List.take_length] at hI
   unfold OT
   simp (disch:=try exact DI) only [↓PR,QR,simprocAttr,hdec]
   exact ⟨⟨_,rfl,hI⟩,e⟩
theorem IM {s:ByteArray} (h:XT s=true):s≠ByteArray.empty:=by
 rintro rfl
 exact absurd h (by decide)
theorem KG {rp:List (ByteArray×Int×Int)}:∀ (ts:List ZX) (no:Bool),(∀ t∈ts,t.field≠ByteArray.empty∧(Yn rp t.field).isSome=true)→YX ByteArray.empty (RP rp) EB ts no=if ts.all (λ t=>Ws (XO rp t).1 (XO rp t).2) then (if no then 9 else 0) else 2
 | [],no,_=>rfl
 | t::ts,no,h=>by
  obtain ⟨h1,h2⟩:=h t List.mem_cons_self
  have ih:=KG (rp:=rp) ts no (λ t ht=>h t (List.mem_cons_of_mem _ ht))
  obtain ⟨q,hq⟩:=Option.isSome_iff_exists.1 h2
  have hr:XO rp t=q:=by unfold XO;rw [hq];rfl
  simp only [YX,if_neg h1,QK,hq,Option.map_some,List.all_cons,hr]
  have hw:EB (Ym q.1 q.2)=Ws q.1 q.2:=rfl
  rw [hw]
  cases Ws q.1 q.2 with
  | false=>rfl
  | true=>simpa using ih
theorem V5 {base:Int} {ts:List ZX} (h:Q3 base ts=true):Wc base=true∧ts.length≤4∧∀ t∈ts,Wv t=true:=by
 unfold Q3 at h
 simp only [Bool.and_eq_true,decide_eq_true_eq] at h
 refine ⟨h.1.1,h.1.2,λ t ht=>?_⟩
 obtain ⟨k,hk⟩:=List.getElem?_of_mem ht
 have:=(VJ ts []).1 h.2 k t hk
 simp only [Bool.or_eq_false_iff,Bool.not_eq_false'] at this
 exact this.2
def Ed (base:Int) (ts:List ZX) (rp:List (ByteArray×Int×Int)):Value := .tuple #[.int .i64 (X3 base ts rp),.int .i64 (X1 base ts rp),.int .i64 (Yw base ts rp)]
theorem M0 {base:Int} {ts:List ZX} {rp:List (ByteArray×Int×Int)} (h:Yw base ts rp=2):Ed base ts rp = .tuple #[.int .i64 0,.int .i64 0,.int .i64 2]:=by
 unfold Ed X3 X1
 rw [h]
 rfl
theorem RC {base:Int} {ts:List ZX} {rp:List (ByteArray×Int×Int)} (hs:Q3 base ts=true) (hin:∀ t∈ts,(Yn rp t.field).isSome=true) (hw:∀ t∈ts,Ws (XO rp t).1 (XO rp t).2=true):(∀ t∈ts,zl rp t)∧Ed base ts rp = .tuple #[.int .i64 (base+Wm (Qu rp true) ts),.int .i64 (base+Wm (Qu rp false) ts),.int .i64 0]:=by
 obtain ⟨h1,h2,h3⟩:=V5 hs
 have h4:∀ t∈ts,zl rp t:=λ t ht=>by
  have a:=h3 t ht
  have b:=hw t ht
  unfold Wv Wc at a
  unfold Ws at b
  simp only [Bool.and_eq_true,decide_eq_true_eq] at a b
  exact ⟨a.2.1,a.2.2,b.1.1,b.1.2,by omega⟩
 have hb : -1048576≤base∧base≤1048576:=by unfold Wc at h1;simpa using h1
 have hE:Yw base ts rp=0:=by
  unfold Yw
  rw [if_pos hs,KG ts false (λ t ht=>⟨IM (by have:=h3 t ht;unfold Wv at this;simp only [Bool.and_eq_true] at this;exact this.1.1),hin t ht⟩),if_pos (by rw [List.all_eq_true];exact hw)]
  rfl
 refine ⟨h4,?_⟩
 unfold Ed X3 X1
 rw [hE,if_pos rfl,if_pos rfl,qO ts base (λ t ht=>Mw (hin t ht) (h4 t ht) true) (by omega) (by omega),qO ts base (λ t ht=>Mw (hin t ht) (h4 t ht) false) (by omega) (by omega)]
theorem PS {base:Int} {ts:List ZX} {rp:List (ByteArray×Int×Int)} (hs:Q3 base ts=true) (hin:∀ t∈ts,(Yn rp t.field).isSome=true) {t:ZX} (ht:t∈ts) (hw:Ws (XO rp t).1 (XO rp t).2=false):Ed base ts rp = .tuple #[.int .i64 0,.int .i64 0,.int .i64 2]:=by
 obtain ⟨h1,h2,h3⟩:=V5 hs
 refine M0 ?_
 unfold Yw
 rw [if_pos hs,KG ts false (λ t ht=>⟨IM (by have:=h3 t ht;unfold Wv at this;simp only [Bool.and_eq_true] at this;exact this.1.1),hin t ht⟩),if_neg (by rw [List.all_eq_true];intro h;rw [h t ht] at hw;cases hw)]
def DY (t1 t7 t34 t42 t54:Value) (C3:World→Prop) (K2:KV) (R:RT) (w:World):Prop :=
 Zu t42 (.bool true) t54 λ t55 =>
 Zq (λ (t62:Value) (w:World) =>
 Zu t55 (.bool true) t62 λ t63 =>
 Zr t63 (
 R (.returned (.tuple #[(.int .i64 0),(.int .i64 0),(.int .i64 2)])) w) (
 K2 t7 w)) λ K5 =>
 Zl t55 false (
 qV Pg C3 (Instr.indexAt 173 t1 t34) λ t59 =>
 qV Pg C3 (Instr.fieldAt 206 t59 2) λ t60 =>
 qV Pg C3 (Instr.loadAt 3 t60) λ t61 =>
 qV Pg C3 (ZM .geq 3 true t61 (.int .i64 34359738368)) λ t62 =>
 K5 t62 w) (
 K5 undef w)
def SJ (t1 t7 t34:Value) (C3:World→Prop) (K2:KV) (R:RT) (w:World):Prop :=
 qV Pg C3 (Instr.indexAt 173 t1 t34) λ t39 =>
 qV Pg C3 (Instr.fieldAt 206 t39 1) λ t40 =>
 qV Pg C3 (Instr.loadAt 3 t40) λ t41 =>
 qV Pg C3 (ZM .lss 3 true t41 (.int .i64 0)) λ t42 =>
 Zq (λ (t54:Value) (w:World) =>
 DY t1 t7 t34 t42 t54 C3 K2 R w) λ K4 =>
 Zl t42 false (
 qV Pg C3 (Instr.indexAt 173 t1 t34) λ t46 =>
 qV Pg C3 (Instr.fieldAt 206 t46 1) λ t47 =>
 qV Pg C3 (Instr.loadAt 3 t47) λ t48 =>
 qV Pg C3 (Instr.indexAt 173 t1 t34) λ t51 =>
 qV Pg C3 (Instr.fieldAt 206 t51 2) λ t52 =>
 qV Pg C3 (Instr.loadAt 3 t52) λ t53 =>
 qV Pg C3 (ZM .gtr 3 false t48 t53) λ t54 =>
 K4 t54 w) (
 K4 undef w)
def M4 (t2 t13 t14 t16:Value) (next7:KW) (R:RT) (w:World):Prop :=
 F0 45 t2 1 R w λ t103 w =>
 L0 43 t103 R w λ t104 w =>
 X0 43 t104 t14 R w λ t106 w =>
 F0 62 t106 1 R w λ t107 w =>
 L0 3 t107 R w λ t108 w =>
 B0 .mul 3 false t108 t16 R w λ t110 w =>
 B0 .add 3 false t13 t110 R w λ t111 w =>
 B0 .add 3 true t14 (.int .i64 1) R w λ t81 w =>
 next7 t111 t81 w
def RG (t1 t2 t12 t13 t14 t90:Value) (next7:KW) (R:RT) (w:World):Prop :=
 X0 173 t1 t90 R w λ t91 w =>
 L0 206 t91 R w λ t92 w =>
 opV Pg (Instr.alloc 206 true (.tuple #[])) (Zd R) w λ t15 w =>
 opU Pg (Instr.storeAt 206 t15 t92) (Zd R) w λ w =>
 F0 206 t15 1 R w λ t93 w =>
 L0 3 t93 R w λ t94 w =>
 B0 .shr 3 false t12 t14 R w λ t97 w =>
 B0 .rem 3 true t97 (.int .i64 2) R w λ t98 w =>
 B0 .eql 3 true t98 (.int .i64 1) R w λ t99 w =>
 Zq (λ (t16:Value) (w:World) =>
 M4 t2 t13 t14 t16 next7 R w) λ K8 =>
 Zr t99 (
 F0 206 t15 2 R w λ t100 w =>
 L0 3 t100 R w λ t101 w =>
 K8 t101 w) (
 K8 t94 w)
def AP (t10 t11 t12 t13 t121 t125:Value) (next6:Value→Value→Value→World→Prop) (R:RT) (w:World):Prop :=
 Zu t121 (.bool true) t125 λ t126 =>
 Zq (λ (t11:Value) (w:World) =>
 B0 .add 3 true t12 (.int .i64 1) R w λ t72 w =>
 next6 t10 t11 t72 w) λ K12 =>
 Zr t126 (
 K12 t13 w) (
 K12 t11 w)
def It (t10 t11 t12 t13:Value) (next6:Value→Value→Value→World→Prop) (R:RT) (w:World):Prop :=
 B0 .eql 3 true t12 (.int .i64 0) R w λ t121 w =>
 Zq (λ (t125:Value) (w:World) =>
 AP t10 t11 t12 t13 t121 t125 next6 R w) λ K11 =>
 Zl t121 false (
 B0 .gtr 3 false t13 t11 R w λ t125 w =>
 K11 t125 w) (
 K11 undef w)
def OY (t10 t11 t12 t13:Value) (next6:Value→Value→Value→World→Prop) (R:RT) (w:World):Prop :=
 B0 .eql 3 true t12 (.int .i64 0) R w λ t113 w =>
 Zq (λ (t117:Value) (w:World) =>
 Zu t113 (.bool true) t117 λ t118 =>
 Zq (λ (t10:Value) (w:World) =>
 It t10 t11 t12 t13 next6 R w) λ K10 =>
 Zr t118 (
 K10 t13 w) (
 K10 t10 w)) λ K9 =>
 Zl t113 false (
 B0 .lss 3 false t13 t10 R w λ t117 w =>
 K9 t117 w) (
 K9 undef w)
def S2 (t1 t2 t12 t13 t14:Value) (next7:KW) (R:RT) (w:World):Prop :=
 F0 45 t2 1 R w λ t84 w =>
 L0 43 t84 R w λ t85 w =>
 X0 43 t85 t14 R w λ t87 w =>
 F0 62 t87 0 R w λ t88 w =>
 L0 9 t88 R w λ t89 w =>
 C0 175 #[t1,t89] R w λ t90 w =>
 RG t1 t2 t12 t13 t14 t90 next7 R w
def MB (t1 t2 t10 t11 t12 t13 t14:Value) (next6:Value→Value→Value→World→Prop) (next7:KW) (R:RT) (w:World):Prop :=
 F0 45 t2 1 R w λ t76 w =>
 L0 43 t76 R w λ t77 w =>
 opV Pg (Builtin.len_ #[43] 3 #[t77]) (Zd R) w λ t78 w =>
 B0 .lss 3 false t14 t78 R w λ t79 w =>
 Zr t79 (
 S2 t1 t2 t12 t13 t14 next7 R w) (
 OY t10 t11 t12 t13 next6 R w)
def OR (t1 t2 t10 t11 t12:Value) (next6:Value→Value→Value→World→Prop) (R:RT) (w:World):Prop :=
 F0 45 t2 0 R w λ t73 w =>
 L0 3 t73 R w λ t74 w =>
 XP (λ t13 t14 w next7 =>
 MB t1 t2 t10 t11 t12 t13 t14 next6 next7 R w) t74 (.int .i64 0) w
def PC (t1 t2 t10 t11 t12:Value) (next6:Value→Value→Value→World→Prop) (R:RT) (w:World):Prop :=
 F0 45 t2 1 R w λ t66 w =>
 L0 43 t66 R w λ t67 w =>
 opV Pg (Builtin.len_ #[43] 3 #[t67]) (Zd R) w λ t68 w =>
 B0 .shl 3 true (.int .i64 1) t68 R w λ t69 w =>
 B0 .lss 3 false t12 t69 R w λ t70 w =>
 Zr t70 (
 OR t1 t2 t10 t11 t12 next6 R w) (
 R (.returned (.tuple #[t10,t11,(.int .i64 0)])) w)
def MF (t1 t2 t7:Value) (R:RT) (w:World):Prop :=
 Zr t7 (
 R (.returned (.tuple #[(.int .i64 0),(.int .i64 0),(.int .i64 9)])) w) (
 ER (λ t10 t11 t12 w next6 =>
 PC t1 t2 t10 t11 t12 next6 R w) (.int .i64 0) (.int .i64 0) (.int .i64 0) w)
def Nm (t1 t2 t7 t8:Value) (next1:KW) (R:RT) (w:World):Prop :=
 Zq (λ (t7:Value) (w:World) =>
 B0 .add 3 true t8 (.int .i64 1) R w λ t26 w =>
 next1 t7 t26 w) λ K2 =>
 F0 45 t2 1 R w λ t28 w =>
 L0 43 t28 R w λ t29 w =>
 X0 43 t29 t8 R w λ t31 w =>
 F0 62 t31 0 R w λ t32 w =>
 L0 9 t32 R w λ t33 w =>
 C0 175 #[t1,t33] R w λ t34 w =>
 B0 .lss 3 true t34 (.int .i64 0) R w λ t36 w =>
 Zr t36 (
 K2 (.bool true) w) (
 Yp w λ C3 w =>
 SJ t1 t7 t34 C3 K2 R w)
def Hz (t1 t2 t7 t8:Value) (next1:KW) (R:RT) (w:World):Prop :=
 F0 45 t2 1 R w λ t21 w =>
 L0 43 t21 R w λ t22 w =>
 opV Pg (Builtin.len_ #[43] 3 #[t22]) (Zd R) w λ t23 w =>
 B0 .lss 3 false t8 t23 R w λ t24 w =>
 Zr t24 (
 Nm t1 t2 t7 t8 next1 R w) (
 MF t1 t2 t7 R w)
def MA (t1 t2 t18:Value) (R:RT) (w:World):Prop :=
 opV Pg (Op.unary .not t18) (Zd R) w λ t19 w =>
 Zr t19 (
 R (.returned (.tuple #[(.int .i64 0),(.int .i64 0),(.int .i64 2)])) w) (
 XP (λ t7 t8 w next1 =>
 Hz t1 t2 t7 t8 next1 R w) (.bool false) (.int .i64 0) w)
def n14 (t0 t1:Value) (R:RT) (w:World):Prop :=
 opV Pg (Instr.box 45 t0) (Zd R) w λ t2 w =>
 L0 45 t2 R w λ t17 w =>
 C0 174 #[t17] R w λ t18 w =>
 MA t1 t2 t18 R w
set_option maxHeartbeats 40000000 in
theorem ZeH {t0 t1:Value} {R:RT} {w:World} (h:n14 t0 t1 R w):Calls Pg 130 #[t0,t1] w R:=by
 refine yD Tryz.func130 ?_
 refine zs<|zr<|yv h λ _ w h=>zm<|zm<|zm<|zn<|zk<|zs<|zs<|zr<|yv h λ _ w h=>yc h Zbo λ _ w h=>yv h λ _ w h=>zn ?_
 refine zk<|yC h (λ h=>zs<|zr<|zm<|zm<|zm<|zn<|zk<|Zk<|Zb<|Js rfl rfl rfl rfl h) λ h=>Zh<|zk<|zs<|zr<|zm<|zn<|zk<|zs<|zs<|zr<|zm<|zn ?_
 refine zk<|Zj<|yl2 [4,5,6,7,8,9,20,21,22,23,24,25,26,27,28,29,30,31,32,33,34,35,36,37,38,39,40,41,42,43,44,45,46,47,48,49,50,51,52,53,54,55,56,57,58,59,60,61,62,63] 7 8 h λ σ w next h=>zs<|zs<|zr<|zm<|yv h λ _ w h=>yv h λ _ w h=>yx h λ _ w h=>yb h λ _ w h=>zn<|zk<|yC h (λ h=>?_) λ h=>?_
 · refine Zh<|zk<|zs<|yJ1 [4,5,6,7,9,27,28,29,30,31,32,33,34,35,36,37,38,39,40,41,42,43,44,45,46,47,48,49,50,51,52,53,54,55,56,57,58,59,60,61,62,63] 7 h (λ _ _ hkK2 h=>?_) λ σ w h=>?_
   · refine Zj<|zs<|zr<|zm<|yv h λ _ w h=>yv h λ _ w h=>zm<|yv h λ _ w h=>yv h λ _ w h=>yv h λ _ w h=>yc h Zc4 λ _ w h=>zm<|zn<|zk<|zs ?_
     refine zs<|zr<|zm<|yb h λ _ w h=>zn<|zk<|yC h (λ h=>?_) λ h=>?_
     · refine zs<|zr<|zm<|zn<|zk<|Zy<|Zc<|Zn<|zk ?_
       exact zt hkK2 h
     refine Zh<|zk<|zs<|yh [37,38,39,40,41,42,43,44,45,46,47,48,49,50,51,52,53,54,55,56,57,58,59,60,61,62,63] h λ C hC h=>yw 0 hC ?_
     refine yw 1 hC ?_
     refine ye 2 hC h λ _ h=>?_
     refine ye 3 hC h λ _ h=>?_
     refine ye 4 hC h λ _ h=>?_
     refine ye 5 hC h λ _ h=>?_
     refine yw 6 hC ?_
     refine yj1 9 [17,16,15,14,13,12,11,10,9,8,7,6,5,4,3,2,1,0] [44,45,46,47,48,49,50,51,52,53,54] 54 h (λ _ hT hb h=>?_) (λ _ hT hb h=>?_) λ σ w hC h=>?_
     · refine yw 7 hC ?_
       refine yw 8 hC ?_
       refine ye 9 hC h λ _ h=>?_
       refine ye 10 hC h λ _ h=>?_
       refine ye 11 hC h λ _ h=>?_
       refine yw 12 hC ?_
       refine yw 13 hC ?_
       refine ye 14 hC h λ _ h=>?_
       refine ye 15 hC h λ _ h=>?_
       refine ye 16 hC h λ _ h=>?_
       refine ye 17 hC h λ _ h=>?_
       exact yt hT hC h
     · refine yi 7 hC ?_
       refine yi 8 hC ?_
       refine yi 9 hC ?_
       refine yi 10 hC ?_
       refine yi 11 hC ?_
       refine yi 12 hC ?_
       refine yi 13 hC ?_
       refine yi 14 hC ?_
       refine yi 15 hC ?_
       refine yi 16 hC ?_
       refine yi 17 hC ?_
       exact yt hT hC h
     refine yP 18 hC h λ _ h=>?_
     refine yw 19 hC ?_
     refine yj1 1 [25,24,23,22,21,20,19,18,17,16,15,14,13,12,11,10,9,8,7,6,5,4,3,2,1,0] [57,58,59,60,61,62] 62 h (λ _ hT hb h=>?_) (λ _ hT hb h=>?_) λ σ w hC h=>?_
     · refine yw 20 hC ?_
       refine yw 21 hC ?_
       refine ye 22 hC h λ _ h=>?_
       refine ye 23 hC h λ _ h=>?_
       refine ye 24 hC h λ _ h=>?_
       refine ye 25 hC h λ _ h=>?_
       exact yt hT hC h
     · refine yi 20 hC ?_
       refine yi 21 hC ?_
       refine yi 22 hC ?_
       refine yi 23 hC ?_
       refine yi 24 hC ?_
       refine yi 25 hC ?_
       exact yt hT hC h
     refine yP 26 hC h λ _ h=>?_
     refine yz<|zk<|yC h (λ h=>zs<|zr<|zm<|zm<|zm<|zn<|zk<|Zk<|Zf<|Zb<|Zb<|Zb<|Zf<|Zb<|Js rfl rfl rfl rfl h) λ h=>Zh<|Zg<|zk ?_
     exact zt hkK2 h
   exact zk<|zr<|zm<|yb h λ _ w h=>zm<|zn<|zk<|⟨rfl,h⟩
 refine Zy<|Zc<|Zc<|Zn<|zk<|zs<|zs<|zr<|zm<|zn<|zk<|yC h (λ h=>zs<|zr<|zm<|zm<|zm<|zn<|zk<|Zk<|Zb<|Js rfl rfl rfl rfl h) λ h=>Zh<|zk ?_
 refine zs<|zr<|zm<|zm<|zn<|zk<|zs<|zs<|zr<|zm<|zn<|zk<|Zj<|yl3 [10,11,12,13,14,15,16,65,66,67,68,69,70,71,72,73,74,75,76,77,78,79,80,81,82,83,84,85,86,87,88,89,90,91,92,93,94,95,96,97,98,99,100,101,102,103,104,105,106,107,108,109,110,111,112,113,114,115,116,117,118,119,120,121,122,123,124,125,126,127] 10 11 12 h λ σ w next h=>zs ?_
 refine zs<|zr<|zm<|yv h λ _ w h=>yv h λ _ w h=>yx h λ _ w h=>yb h λ _ w h=>yb h λ _ w h=>zn<|zk<|yC h (λ h=>?_) λ h=>?_
 · refine Zh<|zk<|zs<|Zj<|zs<|zr<|yv h λ _ w h=>yv h λ _ w h=>zm<|zn<|zk<|zs<|zs<|zr<|zm ?_
   refine zn<|zk<|Zj<|yl2 [13,14,15,16,75,76,77,78,79,80,81,82,83,84,85,86,87,88,89,90,91,92,93,94,95,96,97,98,99,100,101,102,103,104,105,106,107,108,109,110,111] 13 14 h λ σ w next h=>zs<|zs<|zr<|zm<|yv h λ _ w h=>yv h λ _ w h=>yx h λ _ w h=>yb h λ _ w h=>zn<|zk<|yC h (λ h=>?_) λ h=>?_
   · refine Zh<|zk<|zs<|Zj<|zs<|zr<|zm<|zm<|yv h λ _ w h=>yv h λ _ w h=>zm<|yv h λ _ w h=>yv h λ _ w h=>yv h λ _ w h=>yc h Zc4 λ _ w h=>?_
     refine yv h λ _ w h=>yv h λ _ w h=>yv h λ _ w h=>yu h λ w h=>zn<|zk<|zs<|zr<|yv h λ _ w h=>yv h λ _ w h=>zm<|zn<|zk<|zs<|zs ?_
     refine zr<|zm<|zm<|yb h λ _ w h=>yb h λ _ w h=>yb h λ _ w h=>zn<|zk<|yJ1 [16,100,101] 16 h (λ _ _ hkK8 h=>?_) λ σ w h=>?_
     · refine yC h (λ h=>?_) λ h=>?_
       · refine zr<|yv h λ _ w h=>yv h λ _ w h=>zm<|zn<|zk ?_
         exact zt hkK8 h
       refine Zh<|zk ?_
       exact zt hkK8 h
     refine zk<|zr<|zm<|yv h λ _ w h=>yv h λ _ w h=>zm<|yv h λ _ w h=>yv h λ _ w h=>yv h λ _ w h=>zm<|yb h λ _ w h=>yb h λ _ w h=>zm<|zn<|Zg ?_
     exact zk<|zr<|zm<|yb h λ _ w h=>zm<|zn<|zk<|⟨rfl,h⟩
   refine Zy<|Zc<|Zc<|Zn<|zk<|zs<|zs<|Zs<|yG 3<|zm<|yb h λ _ w h=>zm<|zn<|yg1 3 2 false [115,116,117] 117 h (λ _ T hT h=>?_) λ σ w h=>?_
   · refine zm<|zm<|yb h λ _ w h=>zn ?_
     exact zt hT h
   refine yG 1<|yp h λ _ h=>zn<|ZG<|zk<|yJ1 [10,119] 10 h (λ _ _ hkK10 h=>?_) λ σ w h=>?_
   · refine yC h (λ h=>?_) λ h=>?_
     · refine zr<|zm<|zm<|zn<|zk ?_
       exact zt hkK10 h
     refine Zh<|zk ?_
     exact zt hkK10 h
   refine zk<|zs<|Zs<|yG 3<|zm<|yb h λ _ w h=>zm<|zn<|yg1 3 2 false [123,124,125] 125 h (λ _ T hT h=>?_) λ σ w h=>?_
   · refine zm<|zm<|yb h λ _ w h=>zn ?_
     exact zt hT h
   refine yG 1<|yp h λ _ h=>zn<|ZG<|zk<|yJ1 [11,127] 11 h (λ _ _ hkK12 h=>?_) λ σ w h=>?_
   · refine yC h (λ h=>?_) λ h=>?_
     · refine zr<|zm<|zm<|zn<|zk ?_
       exact zt hkK12 h
     refine Zh<|zk ?_
     exact zt hkK12 h
   exact Zg<|zk<|zr<|zm<|yb h λ _ w h=>zm<|zn<|zk<|⟨rfl,h⟩
 refine Zy<|Zc<|Zc<|Zn<|zk<|zs<|zr<|zm<|zm<|zm<|zm<|zm<|zn<|zk<|Zk ?_
 exact Js rfl rfl rfl rfl h
theorem jS {rp:List (ByteArray×Int×Int)} {t:ZX} {q:Int×Int} (h:Yn rp t.field=some q):XO rp t=q:=by unfold XO;rw [h];rfl
theorem AD (w0:World) (v rv:Value) (base:Int) (ts:List ZX) (rp:List (ByteArray×Int×Int)) (hs:Q6 w0 v base ts) (hR:zW w0 rv rp) (hin:∀ t∈ts,(Yn rp t.field).isSome=true):Ret Pg 130 #[v,rv] w0 λ r w'=>r=Ed base ts rp∧Ext w0 w':=by
 obtain ⟨tv,rfl,hT⟩:=hs
 have hS1:=hT
 obtain ⟨A,c,rfl,hlc,hcm,hlm,hel⟩:=Ze.open hT
 obtain ⟨A2,c2,rfl,hlc2,hcm2,hlm2,hel2⟩:=Ze.open hR
 refine ZeH (R:=ZQ _) ?_;unfold n14
 simp (disch:=try exact DI) only [↓PR,QR,simprocAttr]
 have hBW:=ZS.new (w:=w0) ([.int .i64 base,.slice A ts.length c]) (45)
 have eW:Ext w0 (w0.alloc (Obj.cells (List.toArray ([.int .i64 base,.slice A ts.length c])) (45))):=(Ext.refl _).alloc _
 generalize (w0.alloc (Obj.cells (List.toArray ([.int .i64 base,.slice A ts.length c])) (45)))=W at hBW eW ⊢
 refine zcr (Kp _ _ base ts ⟨_,rfl,hS1.ext eW⟩) λ w1 e1=>?_
 have E1:=eW.trans e1
 unfold MA
 cases hsz:Q3 base ts with
 | false =>
  simp (disch:=try exact DI) only [↓PR,QR,simprocAttr]
  refine ⟨?_,E1⟩
  rw [M0 (by unfold Yw;rw [hsz];rfl)]
 | true =>
 obtain ⟨hb,h4,hterm⟩:=V5 hsz
 simp (disch:=try exact DI) only [↓PR,QR,simprocAttr]
 refine Ye (λ a0 a1 w=>∃ (k:Nat) , a0 = .bool false∧a1 = .int .i64 (k:Int)∧k≤ts.length∧Ext w1 w∧∀ j t,j < k→ts[j]?=some t→Ws (XO rp t).1 (XO rp t).2=true) (λ a0 a1 _=>ts.length - (intOf a1).toNat) ⟨0,rfl,rfl,Nat.zero_le _,ee,by intro j x h;omega⟩ ?_
 rintro _ _ w ⟨k,rfl,rfl,hk,e,hI⟩
 have se:=e.size
 rcases ZB hk with ⟨x,hx,hd,hlt,hdec⟩ | ⟨hk,hd,hdec⟩
 · obtain ⟨b,o,cs,rfl,hl,hA,rfl⟩:=hel k x hx
   have E:=E1.trans e
   have f:=e1.trans e
   unfold Hz
   simp (disch:=try exact DI) only [↓PR,QR,simprocAttr,hBW.c2,hdec]
   unfold Nm
   simp (disch:=try exact DI) only [↓PR,QR,simprocAttr,hBW.c2,(hA.c2 E).1]
   refine Zt (Kf _ _ rp x.field (hR.ext E)) ?_
   rintro _ w2 ⟨⟨a,rfl,ha⟩,e2⟩
   have hxm:=List.mem_of_getElem? hx
   rcases ha with ⟨rfl,hno⟩ | ⟨j,q,rfl,hj,hq⟩
   · have:=hin x hxm
     rw [hno] at this;cases this
   obtain ⟨b',o',cs',rfl,_,hB,rfl⟩:=hel2 j _ hj
   have hjl:(j:Int) < (rp.length:Int):=by have:=(List.getElem?_eq_some_iff.1 hj).1;omega
   have E2:=E.trans e2
   have hq':=jS hq
   have d0:decide ((j:Int) < 0)=false:=by simp
   have stop:Ws q.1 q.2=false→(Value.tuple #[.int .i64 0,.int .i64 0,.int .i64 2])=Ed base ts rp:=λ h=>(PS hsz hin hxm (by rw [hq'];exact h)).symm
   simp (disch:=try exact DI) only [↓PR,QR,simprocAttr,d0]
   refine ZI ?_
   unfold SJ
   by_cases h1:q.1 < 0
   · have d1:decide (q.1 < 0)=true:=by simpa using h1
     simp (disch:=try exact DI) only [↓PR,QR,simprocAttr,(hB.c3 E2).1,(hB.c3 E2).2,d1]
     unfold DY
     simp (disch:=try exact DI) only [↓PR,QR,simprocAttr]
     exact ⟨stop (by unfold Ws;simp;omega),ee⟩
   have d1:decide (q.1 < 0)=false:=by simpa using h1
   by_cases h2:q.1 > q.2
   · have d2:decide (q.1 > q.2)=true:=by simpa using h2
     simp (disch:=try exact DI) only [↓PR,QR,simprocAttr,(hB.c3 E2).1,(hB.c3 E2).2,d1,d2]
     unfold DY
     simp (disch:=try exact DI) only [↓PR,QR,simprocAttr]
     exact ⟨stop (by unfold Ws;simp;omega),ee⟩
   have d2:decide (q.1 > q.2)=false:=by simpa using h2
   by_cases h3:q.2≥34359738368
   · have d3:decide (q.2≥34359738368)=true:=by simpa using h3
     simp (disch:=try exact DI) only [↓PR,QR,simprocAttr,(hB.c3 E2).1,(hB.c3 E2).2,d1,d2,d3]
     unfold DY
     simp (disch:=try exact DI) only [↓PR,QR,simprocAttr,(hB.c3 E2).1,(hB.c3 E2).2,d3]
     exact ⟨stop (by unfold Ws;simp;omega),ee⟩
   have d3:decide (q.2≥34359738368)=false:=by simpa using h3
   simp (disch:=try exact DI) only [↓PR,QR,simprocAttr,(hB.c3 E2).1,(hB.c3 E2).2,d1,d2,d3]
   unfold DY
   simp (disch:=try exact DI) only [↓PR,QR,simprocAttr,(hB.c3 E2).1,(hB.c3 E2).2,d3]
   refine ⟨⟨k+1,by first | trivial | rfl,by first | trivial | rfl,by omega,e.trans e2.wdrew,λ i z hi hz=>?_⟩,ZF (kd := .i64) hlt⟩
   by_cases hij:i=k
   · subst hij;rw [hx] at hz;injection hz with hz;subst hz;rw [hq'];unfold Ws;simp;omega
   · exact hI i z (by omega) hz
 · subst hk
   have E:=E1.trans e
   have f:=e1.trans e
   obtain ⟨hsm,hiv⟩:=RC hsz hin (λ t ht=>by obtain ⟨j,hj⟩:=List.getElem?_of_mem ht;exact hI j t (List.getElem?_eq_some_iff.1 hj).1 hj)
   rw [hiv]
   clear hiv hI
   unfold Hz
   simp (disch:=try exact DI) only [↓PR,QR,simprocAttr,hBW.c2,hdec]
   unfold MF
   simp (disch:=try exact DI) only [↓PR,QR,simprocAttr]
   obtain ⟨hall,⟨mL,hmL,hvL⟩,⟨mH,hmH,hvH⟩⟩:=I7 (rp:=rp) (ts:=ts) (λ t ht=>⟨hin t ht,hsm t ht⟩)
   have hp16:2 ^ ts.length≤16:=by
    have:(2:Nat) ^ ts.length≤2 ^ 4:=Nat.pow_le_pow_right (by decide) h4
    exact this
   have hpow:IntKind.i64.wrap (1*2 ^ ((ts.length:Int)).toNat)=((2 ^ ts.length:Nat):Int):=by
    rw [Int.toNat_natCast,Int.one_mul]
    rw [show ((2:Int) ^ ts.length)=((2 ^ ts.length:Nat):Int) by simp]
    exact Yk (by omega) (by omega)
   have hbase : -1048576≤base∧base≤1048576:=by unfold Wc at hb;simpa using hb
   refine D0 (λ x y i w'=>∃ (lo hi:Int) (mix:Nat),x = .int .i64 lo∧y = .int .i64 hi∧i = .int .i64 mix∧mix≤2 ^ ts.length∧Ext w0 w'∧Ext W w'∧(mix≠0→base+Wm (Qu rp true) ts≤lo∧hi≤base+Wm (Qu rp false) ts)∧∀ j,j < mix→lo≤base+W8 rp j 0 ts∧base+W8 rp j 0 ts≤hi) (λ _ _ i _=>2 ^ ts.length - (intOf i).toNat) ⟨0,0,0,rfl,rfl,rfl,Nat.zero_le _,E,f,by simp,by intro j h;omega⟩ ?_
   rintro _ _ _ w3 ⟨lo,hi,mix,rfl,rfl,rfl,hmix,E3,f3,hLH,hall3⟩
   unfold PC
   by_cases hm:mix < 2 ^ ts.length
   · have d1:decide ((mix:Int) < ((2 ^ ts.length:Nat):Int))=true:=by simp only [decide_eq_true_eq];exact Int.ofNat_lt.2 hm
     simp (disch:=try exact DI) only [↓PR,QR,simprocAttr,hBW.c2,hpow,d1]
     unfold OR
     simp (disch:=try exact DI) only [↓PR,QR,simprocAttr,hBW.c2]
     have hnext:∀ (n:Int) (w':World),n=base+W8 rp mix 0 ts→Ext w3 w'→OY (.int .i64 lo) (.int .i64 hi) (.int .i64 (mix:Int)) (.int .i64 n) (λ t10 t11 t12 w'=>(∃ (lo hi:Int) (mix:Nat),t10 = .int .i64 lo∧t11 = .int .i64 hi∧t12 = .int .i64 mix∧mix≤2 ^ ts.length∧Ext w0 w'∧Ext W w'∧(mix≠0→base+Wm (Qu rp true) ts≤lo∧hi≤base+Wm (Qu rp false) ts)∧∀ j,j < mix→lo≤base+W8 rp j 0 ts∧base+W8 rp j 0 ts≤hi)∧2 ^ ts.length - (intOf t12).toNat < 2 ^ ts.length - (intOf (.int .i64 (mix:Int))).toNat) (ZQ λ r w'=>r=Value.tuple #[.int .i64 (base+Wm (Qu rp true) ts),.int .i64 (base+Wm (Qu rp false) ts),.int .i64 0]∧Ext w0 w') w':=by
      intro n w' hn e'
      have hv:=hall mix
      have hw:IntKind.i64.wrap ((mix:Int)+1)=((mix+1:Nat):Int):=by rw [Yk (by omega) (by omega)];omega
      have hgo:∀ lo' hi':Int,(base+Wm (Qu rp true) ts≤lo'∧hi'≤base+Wm (Qu rp false) ts)→(lo'≤n∧n≤hi')→(∀ j,j < mix→lo'≤base+W8 rp j 0 ts∧base+W8 rp j 0 ts≤hi')→(∃ (lo hi:Int) (mix_1:Nat),Value.int .i64 lo' = .int .i64 lo∧Value.int .i64 hi' = .int .i64 hi∧Value.int .i64 ((mix+1:Nat):Int) = .int .i64 mix_1∧mix_1≤2 ^ ts.length∧Ext w0 w'∧Ext W w'∧(mix_1≠0→base+Wm (Qu rp true) ts≤lo∧hi≤base+Wm (Qu rp false) ts)∧∀ j,j < mix_1→lo≤base+W8 rp j 0 ts∧base+W8 rp j 0 ts≤hi)∧2 ^ ts.length - (intOf (Value.int .i64 ((mix+1:Nat):Int))).toNat < 2 ^ ts.length - (intOf (.int .i64 (mix:Int))).toNat:=by
       intro lo' hi' h1 h2 h3
       refine ⟨⟨lo',hi',mix+1,rfl,rfl,rfl,hm,E3.trans e',f3.trans e',λ _=>h1,λ j hj=>?_⟩,ZF (kd := .i64) hm⟩
       by_cases hjm:j=mix
       · subst hjm;rw [← hn];exact h2
       · exact h3 j (by omega)
      unfold OY
      by_cases hz:mix=0
      · subst hz
        simp (disch:=try exact DI) only [↓PR,QR,simprocAttr]
        unfold It
        simp (disch:=try exact DI) only [↓PR,QR,simprocAttr]
        unfold AP
        simp (disch:=try exact DI) only [↓PR,QR,simprocAttr]
        exact hgo n n (by omega) (by omega) (by intro j hj;omega)
      · have d2:((mix:Int) == 0)=false:=by simp;omega
        have hl:=hLH hz
        by_cases hlo:n < lo
        · have d3:decide (n < lo)=true:=by simpa using hlo
          simp (disch:=try exact DI) only [↓PR,QR,simprocAttr,d2,d3]
          unfold It
          by_cases hhi:n > hi
          · have d4:decide (n > hi)=true:=by simpa using hhi
            simp (disch:=try exact DI) only [↓PR,QR,simprocAttr,d2,d4]
            unfold AP
            simp (disch:=try exact DI) only [↓PR,QR,simprocAttr]
            exact hgo n n (by omega) (by omega) (λ j hj=>by have:=hall3 j hj;omega)
          · have d4:decide (n > hi)=false:=by simpa using hhi
            simp (disch:=try exact DI) only [↓PR,QR,simprocAttr,d2,d4]
            unfold AP
            simp (disch:=try exact DI) only [↓PR,QR,simprocAttr]
            exact hgo n hi (by omega) (by omega) (λ j hj=>by have:=hall3 j hj;omega)
        · have d3:decide (n < lo)=false:=by simpa using hlo
          simp (disch:=try exact DI) only [↓PR,QR,simprocAttr,d2,d3]
          unfold It
          by_cases hhi:n > hi
          · have d4:decide (n > hi)=true:=by simpa using hhi
            simp (disch:=try exact DI) only [↓PR,QR,simprocAttr,d2,d4]
            unfold AP
            simp (disch:=try exact DI) only [↓PR,QR,simprocAttr]
            exact hgo lo n (by omega) (by omega) (λ j hj=>by have:=hall3 j hj;omega)
          · have d4:decide (n > hi)=false:=by simpa using hhi
            simp (disch:=try exact DI) only [↓PR,QR,simprocAttr,d2,d4]
            unfold AP
            simp (disch:=try exact DI) only [↓PR,QR,simprocAttr]
            exact hgo lo hi (by omega) (by omega) (λ j hj=>by have:=hall3 j hj;omega)
     refine Ye (λ a0 a1 wb=>∃ (kb:Nat) (n:Int),a0 = .int .i64 n∧a1 = .int .i64 (kb:Int)∧kb≤ts.length∧Ext w3 wb∧n+W8 rp mix kb (ts.drop kb)=base+W8 rp mix 0 ts ∧ -1048576 - kb*36028797018963968≤n∧n≤1048576+kb*36028797018963968) (λ a0 a1 _=>ts.length - (intOf a1).toNat) ⟨0,base,rfl,rfl,Nat.zero_le _,ee,⟨rfl,by omega,by omega⟩⟩ ?_
     rintro _ _ wb ⟨kb,n,rfl,rfl,hkb,eb,hIb⟩
     have seb:=eb.size
     rcases ZB hkb with ⟨xb,hxb,hdb,hltb,hdecb⟩ | ⟨hkb,hdb,hdecb⟩
     · obtain ⟨hsum,hn1,hn2⟩:=hIb
       obtain ⟨b,o,cs,rfl,hl,hA,rfl⟩:=hel kb xb hxb
       have Eb:=E3.trans eb
       have fb:=f3.trans eb
       unfold MB
       simp (disch:=try exact DI) only [↓PR,QR,simprocAttr,hBW.c2,hdecb]
       unfold S2
       simp (disch:=try exact DI) only [↓PR,QR,simprocAttr,hBW.c2,(hA.c2 Eb).1]
       refine Zt (Kf _ _ rp xb.field (hR.ext Eb)) ?_
       rintro _ w5 ⟨⟨a,rfl,ha⟩,e5⟩
       have hxm:=List.mem_of_getElem? hxb
       rcases ha with ⟨rfl,hno⟩ | ⟨j,q,rfl,hj,hq⟩
       · have:=hin xb hxm
         rw [hno] at this;cases this
       obtain ⟨b',o',cs',rfl,_,hB,rfl⟩:=hel2 j _ hj
       have hjl:(j:Int) < (rp.length:Int):=by have:=(List.getElem?_eq_some_iff.1 hj).1;omega
       have E5:=Eb.trans e5
       have f5:=fb.trans e5
       have hq':=jS hq
       obtain ⟨s1,s2,s3,s4,s5⟩:=hsm xb hxm
       rw [hq'] at s3 s4 s5
       unfold RG
       have hmod:(((mix / 2 ^ kb:Nat):Int)).tmod 2=((mix / 2 ^ kb % 2:Nat):Int):=(Int.ofNat_tmod _ 2).symm
       have hstep:∀ u:Int,u=jF rp mix kb xb→(∃ (kb_1:Nat) (n3:Int),Value.int .i64 (n+xb.factor*u) = .int .i64 n3∧Value.int .i64 ((kb+1:Nat):Int) = .int .i64 kb_1∧kb_1≤ts.length∧n3+W8 rp mix kb_1 (ts.drop kb_1)=base+W8 rp mix 0 ts ∧ -1048576 - kb_1*36028797018963968≤n3∧n3≤1048576+kb_1*36028797018963968):=by
        intro u hu
        have hmb : -36028797018963968≤xb.factor*u∧xb.factor*u≤36028797018963968:=by
         rw [hu]
         unfold jF
         rw [hq']
         split
         · exact Vk s1 s2 (by omega) s5
         · exact Vk s1 s2 s3 (by omega)
        refine ⟨kb+1,_,rfl,rfl,hltb,?_,by omega,by omega⟩
        rw [hdb] at hsum
        simp only [W8] at hsum
        rw [hu]
        omega
       simp (disch:=try exact DI) only [↓PR,QR,simprocAttr,hB.c3 E5]
       rw [Zax _ _ mix .i64 kb (by omega)]
       have hmul:∀ u:Int,u=jF rp mix kb xb→IntKind.i64.wrap (xb.factor*u)=xb.factor*u∧IntKind.i64.wrap (n+xb.factor*u)=n+xb.factor*u:=by
        intro u hu
        have hmb : -36028797018963968≤xb.factor*u∧xb.factor*u≤36028797018963968:=by
         rw [hu]
         unfold jF
         rw [hq']
         split
         · exact Vk s1 s2 (by omega) s5
         · exact Vk s1 s2 s3 (by omega)
        exact ⟨Yk (by omega) (by omega),Yk (by omega) (by omega)⟩
       by_cases hbit:mix / 2 ^ kb % 2=1
       · have f6:Ext W (w5.alloc (Obj.cells #[.string xb.field,.int .i64 q.1,.int .i64 q.2] 206)):=f5.alloc _
         have E6:Ext w0 (w5.alloc (Obj.cells #[.string xb.field,.int .i64 q.1,.int .i64 q.2] 206)):=E5.alloc _
         have hu:q.2=jF rp mix kb xb:=by unfold jF;rw [if_pos hbit,hq']
         have d5:((((mix / 2 ^ kb % 2:Nat)):Int) == 1)=true:=by rw [hbit];rfl
         simp (disch:=try exact DI) only [↓PR,QR,simprocAttr,hmod,d5]
         unfold M4
         simp (disch:=try exact DI) only [↓PR,QR,simprocAttr,hBW.c2,(hA.c2 E6).2,(hmul _ hu).1,(hmul _ hu).2]
         obtain ⟨kk,nn,h1,h2,h3,h4,h5,h6⟩:=hstep _ hu
         exact ⟨⟨kk,nn,h1,h2,h3,eb.trans (e5.alloc _),h4,h5,h6⟩,ZF (kd := .i64) hltb⟩
       · have f6:Ext W (w5.alloc (Obj.cells #[.string xb.field,.int .i64 q.1,.int .i64 q.2] 206)):=f5.alloc _
         have E6:Ext w0 (w5.alloc (Obj.cells #[.string xb.field,.int .i64 q.1,.int .i64 q.2] 206)):=E5.alloc _
         have hu:q.1=jF rp mix kb xb:=by unfold jF;rw [if_neg hbit,hq']
         have d5:((((mix / 2 ^ kb % 2:Nat)):Int) == 1)=false:=by simp only [beq_eq_false_iff_ne,ne_eq];omega
         simp (disch:=try exact DI) only [↓PR,QR,simprocAttr,hmod,d5]
         unfold M4
         simp (disch:=try exact DI) only [↓PR,QR,simprocAttr,hBW.c2,(hA.c2 E6).2,(hmul _ hu).1,(hmul _ hu).2]
         obtain ⟨kk,nn,h1,h2,h3,h4,h5,h6⟩:=hstep _ hu
         exact ⟨⟨kk,nn,h1,h2,h3,eb.trans (e5.alloc _),h4,h5,h6⟩,ZF (kd := .i64) hltb⟩
     · subst hkb
       obtain ⟨hsum,_⟩:=hIb
       have fb:=f3.trans eb
       rw [hdb] at hsum
       simp only [W8] at hsum
       unfold MB
       simp (disch:=try exact DI) only [↓PR,QR,simprocAttr,hBW.c2,hdecb]
       exact hnext n wb (by omega) eb
   · have hme:mix=2 ^ ts.length:=by omega
     have d1:decide ((mix:Int) < ((2 ^ ts.length:Nat):Int))=false:=by simp only [decide_eq_false_iff_not];exact λ h=>hm (Int.ofNat_lt.1 h)
     simp (disch:=try exact DI) only [↓PR,QR,simprocAttr,hBW.c2,hpow,d1]
     have hpos:0 < 2 ^ ts.length:=Nat.two_pow_pos _
     have h1:=hLH (by omega)
     have h2:=hall3 mL (by omega)
     have h3:=hall3 mH (by omega)
     rw [hvL] at h2
     rw [hvH] at h3
     have e1:lo=base+Wm (Qu rp true) ts:=by omega
     have e2:hi=base+Wm (Qu rp false) ts:=by omega
     subst e1 e2
     exact ⟨rfl,E3⟩
def Zco (t0:Value) (R:RT) (w:World):Prop :=
 opV Pg (Instr.box 30 t0) (Zd R) w λ t1 w =>
 opV Pg (Instr.makeFunc (.func 86) #[] #[t1]) (Zd R) w λ t3 w =>
 R (.returned t3) w
theorem ZbJ {t0:Value} {R:RT} {w:World} (h:Zco t0 R w):Calls Pg 50 #[t0] w R:=by
 refine yD Tryz.func50 ?_
 exact zs<|zr<|yv h λ _ w h=>zm<|zn<|zk<|zs<|zr<|yF h λ _ w h=>zm<|zn<|zk<|Zk<|Zi rfl rfl h
def FM (t3 t10:Value) (R:RT) (w:World):Prop :=
 opV Pg (Instr.extract t10 0) (Zd R) w λ t11 w =>
 opV Pg (Instr.extract t10 1) (Zd R) w λ t12 w =>
 opV Pg (Instr.makeFunc (.func 88) #[] #[t3]) (Zd R) w λ t14 w =>
 C0 87 #[t11,t14] R w λ t15 w =>
 R (.returned (.tuple #[t15,t12])) w
def Zbp (t0 t1:Value) (R:RT) (w:World):Prop :=
 opV Pg (Instr.box 28 t0) (Zd R) w λ t2 w =>
 opV Pg (Instr.box 4 t1) (Zd R) w λ t3 w =>
 L0 28 t2 R w λ t9 w =>
 C0 55 #[t9] R w λ t10 w =>
 FM t3 t10 R w
theorem ZcD {t0 t1:Value} {R:RT} {w:World} (h:Zbp t0 t1 R w):Calls Pg 51 #[t0,t1] w R:=by
 refine yD Tryz.func51 ?_
 refine zs<|zr<|yv h λ _ w h=>yv h λ _ w h=>zm<|zm<|zn<|zk<|zs<|zr<|yv h λ _ w h=>yc h c55 λ _ w h=>zm<|yv h λ _ w h=>yv h λ _ w h=>?_
 refine zm<|zm<|zn<|zk<|zs<|zr<|zm<|yF h λ _ w h=>yc h c87 λ _ w h=>zm<|zm<|zm<|zn<|zk<|Zk ?_
 exact Yx rfl rfl rfl h
def NP (t2 t5 t7 t79:Value) (R:RT) (w:World):Prop :=
 opV Pg (Instr.build 90 #[(0,t5),(1,t7),(2,t79)]) (Zd R) w λ t85 w =>
 opU Pg (Instr.storeAt 90 t2 t85) (Zd R) w λ w =>
 qW Pg 90 t2 w λ r0 =>
 R (.returned (.tuple #[r0,(.bool true)])) w
def HL (t2 t5 t7 t79:Value) (next4:KV) (R:RT) (w:World):Prop :=
 B0 .neq 3 true t79 (.int .i64 0) R w λ t81 w =>
 Zr t81 (
 NP t2 t5 t7 t79 R w) (
 B0 .add 3 true t7 (.int .i64 1) R w λ t75 w =>
 next4 t75 w)
def MN (t5 t10 t30 t99 t107:Value) (C7:World→Prop) (next5:KV) (R:RT) (w:World):Prop :=
 qV Pg C7 (Instr.indexAt 30 t30 t107) λ t108 =>
 qV Pg C7 (Instr.loadAt 3 t108) λ t109 =>
 qV Pg C7 (Builtin.max_ #[3,3] 3 #[t99,t109]) λ t110 =>
 qV Pg C7 (Instr.indexAt 30 t30 t5) λ t111 =>
 opU Pg (Instr.storeAt 3 t111 t110) (Zd R) w λ w =>
 VS w λ C8 w =>
 B0 .add 3 true t10 (.int .i64 1) R w λ t93 w =>
 next5 t93 w
def MH (t1 t5 t10 t30 t87:Value) (C6:World→Prop) (next5:KV) (R:RT) (w:World):Prop :=
 qV Pg C6 (Instr.indexAt 30 t30 t5) λ t98 =>
 qV Pg C6 (Instr.loadAt 3 t98) λ t99 =>
 qV Pg C6 (Instr.loadAt 28 t1) λ t101 =>
 qV Pg C6 (Instr.indexAt 82 t87 t10) λ t104 =>
 qV Pg C6 (Instr.loadAt 9 t104) λ t105 =>
 C0 53 #[t101,t105,t5] R w λ t107 w =>
 Q8 C6 w λ C7 w =>
 MN t5 t10 t30 t99 t107 C7 next5 R w
def OE (t2 t5:Value) (R:RT) (w:World):Prop :=
 opV Pg (Instr.build 90 #[(0,t5),(1,(.int .i64 (-1))),(2,(.int .i64 10))]) (Zd R) w λ t124 w =>
 opU Pg (Instr.storeAt 90 t2 t124) (Zd R) w λ w =>
 qW Pg 90 t2 w λ r0 =>
 R (.returned (.tuple #[r0,(.bool true)])) w
def H3 (t2 t5 t30:Value) (next2:KV) (R:RT) (w:World):Prop :=
 X0 30 t30 t5 R w λ t114 w =>
 L0 3 t114 R w λ t115 w =>
 B0 .add 3 true t115 (.int .i64 1) R w λ t116 w =>
 X0 30 t30 t5 R w λ t117 w =>
 opU Pg (Instr.storeAt 3 t117 t116) (Zd R) w λ w =>
 X0 30 t30 t5 R w λ t120 w =>
 L0 3 t120 R w λ t121 w =>
 B0 .gtr 3 true t121 (.int .i64 16) R w λ t122 w =>
 Zr t122 (
 OE t2 t5 R w) (
 B0 .add 3 true t5 (.int .i64 1) R w λ t37 w =>
 next2 t37 w)
def Ie (t1 t2 t5 t10 t30 t87:Value) (next2:KV) (next5:KV) (R:RT) (w:World):Prop :=
 opV Pg (Builtin.len_ #[82] 3 #[t87]) (Zd R) w λ t90 w =>
 B0 .lss 3 false t10 t90 R w λ t91 w =>
 Zr t91 (
 Yp w λ C6 w =>
 MH t1 t5 t10 t30 t87 C6 next5 R w) (
 H3 t2 t5 t30 next2 R w)
def MO (t1 t2 t5 t6 t30:Value) (next2:KV) (R:RT) (w:World):Prop :=
 L0 24 t6 R w λ t86 w =>
 C0 54 #[t86] R w λ t87 w =>
 Yi (λ t10 w next5 =>
 Ie t1 t2 t5 t10 t30 t87 next2 next5 R w) (.int .i64 0) w
def Ow (t1 t2 t5 t6 t7 t30:Value) (next2:KV) (next4:KV) (R:RT) (w:World):Prop :=
 F0 24 t6 1 R w λ t70 w =>
 L0 22 t70 R w λ t71 w =>
 opV Pg (Builtin.len_ #[22] 3 #[t71]) (Zd R) w λ t72 w =>
 B0 .lss 3 false t7 t72 R w λ t73 w =>
 Zr t73 (
 L0 28 t1 R w λ t76 w =>
 C0 90 #[t76,t5,t7] R w λ t79 w =>
 HL t2 t5 t7 t79 next4 R w) (
 MO t1 t2 t5 t6 t30 next2 R w)
def MS (t2 t5:Value) (R:RT) (w:World):Prop :=
 opV Pg (Instr.build 90 #[(0,t5),(1,(.int .i64 (-1))),(2,(.int .i64 3))]) (Zd R) w λ t68 w =>
 opU Pg (Instr.storeAt 90 t2 t68) (Zd R) w λ w =>
 qW Pg 90 t2 w λ r0 =>
 R (.returned (.tuple #[r0,(.bool true)])) w
def O8 (t1 t2 t5 t6 t30 t60 t65:Value) (next2:KV) (R:RT) (w:World):Prop :=
 Zu t60 (.bool true) t65 λ t66 =>
 Zr t66 (
 MS t2 t5 R w) (
 Yi (λ t7 w next4 =>
 Ow t1 t2 t5 t6 t7 t30 next2 next4 R w) (.int .i64 0) w)
def Fa (t2 t5:Value) (R:RT) (w:World):Prop :=
 opV Pg (Instr.build 90 #[(0,t5),(1,(.int .i64 (-1))),(2,(.int .i64 2))]) (Zd R) w λ t56 w =>
 opU Pg (Instr.storeAt 90 t2 t56) (Zd R) w λ w =>
 qW Pg 90 t2 w λ r0 =>
 R (.returned (.tuple #[r0,(.bool true)])) w
def N0 (t1 t2 t5 t6 t30:Value) (next2:KV) (R:RT) (w:World):Prop :=
 F0 24 t6 1 R w λ t57 w =>
 L0 22 t57 R w λ t58 w =>
 opV Pg (Builtin.len_ #[22] 3 #[t58]) (Zd R) w λ t59 w =>
 B0 .lss 3 true t59 (.int .i64 1) R w λ t60 w =>
 Zq (λ (t65:Value) (w:World) =>
 O8 t1 t2 t5 t6 t30 t60 t65 next2 R w) λ K3 =>
 Zl t60 false (
 F0 24 t6 1 R w λ t62 w =>
 L0 22 t62 R w λ t63 w =>
 opV Pg (Builtin.len_ #[22] 3 #[t63]) (Zd R) w λ t64 w =>
 B0 .gtr 3 true t64 (.int .i64 40) R w λ t65 w =>
 K3 t65 w) (
 K3 undef w)
def Hp (t2 t5:Value) (R:RT) (w:World):Prop :=
 opV Pg (Instr.build 90 #[(0,t5),(1,(.int .i64 (-1))),(2,(.int .i64 1))]) (Zd R) w λ t48 w =>
 opU Pg (Instr.storeAt 90 t2 t48) (Zd R) w λ w =>
 qW Pg 90 t2 w λ r0 =>
 R (.returned (.tuple #[r0,(.bool true)])) w
def HA (t1 t2 t5 t6 t30:Value) (next2:KV) (R:RT) (w:World):Prop :=
 L0 28 t1 R w λ t49 w =>
 F0 24 t6 0 R w λ t50 w =>
 L0 9 t50 R w λ t51 w =>
 C0 53 #[t49,t51,t5] R w λ t53 w =>
 B0 .geq 3 true t53 (.int .i64 0) R w λ t54 w =>
 Zr t54 (
 Fa t2 t5 R w) (
 N0 t1 t2 t5 t6 t30 next2 R w)
def Fs (t2:Value) (R:RT) (w:World):Prop :=
 opV Pg (Instr.build 90 #[(0,(.int .i64 (-1))),(1,(.int .i64 (-1))),(2,(.int .i64 11))]) (Zd R) w λ t133 w =>
 opU Pg (Instr.storeAt 90 t2 t133) (Zd R) w λ w =>
 qW Pg 90 t2 w λ r0 =>
 R (.returned (.tuple #[r0,(.bool true)])) w
def HE (t2:Value) (R:RT) (w:World):Prop :=
 opV Pg (Instr.build 90 #[]) (Zd R) w λ t134 w =>
 opU Pg (Instr.storeAt 90 t2 t134) (Zd R) w λ w =>
 qW Pg 90 t2 w λ r0 =>
 R (.returned (.tuple #[r0,(.bool false)])) w
def F5 (t1 t2:Value) (R:RT) (w:World):Prop :=
 L0 28 t1 R w λ t125 w =>
 F0 28 t1 2 R w λ t126 w =>
 L0 9 t126 R w λ t127 w =>
 F0 28 t1 1 R w λ t128 w =>
 L0 26 t128 R w λ t129 w =>
 opV Pg (Builtin.len_ #[26] 3 #[t129]) (Zd R) w λ t130 w =>
 C0 53 #[t125,t127,t130] R w λ t131 w =>
 B0 .lss 3 true t131 (.int .i64 0) R w λ t132 w =>
 Zr t132 (
 Fs t2 R w) (
 HE t2 R w)
def Ht (t1 t2 t5 t30:Value) (next2:KV) (R:RT) (w:World):Prop :=
 F0 28 t1 1 R w λ t38 w =>
 L0 26 t38 R w λ t39 w =>
 X0 26 t39 t5 R w λ t41 w =>
 L0 24 t41 R w λ t42 w =>
 opV Pg (Instr.alloc 24 true (.tuple #[])) (Zd R) w λ t6 w =>
 opU Pg (Instr.storeAt 24 t6 t42) (Zd R) w λ w =>
 F0 24 t6 0 R w λ t43 w =>
 L0 9 t43 R w λ t44 w =>
 C0 89 #[t44] R w λ t45 w =>
 opV Pg (Op.unary .not t45) (Zd R) w λ t46 w =>
 Zr t46 (
 Hp t2 t5 R w) (
 HA t1 t2 t5 t6 t30 next2 R w)
def Fi (t1 t2 t5 t30:Value) (next2:KV) (R:RT) (w:World):Prop :=
 F0 28 t1 1 R w λ t32 w =>
 L0 26 t32 R w λ t33 w =>
 opV Pg (Builtin.len_ #[26] 3 #[t33]) (Zd R) w λ t34 w =>
 B0 .lss 3 false t5 t34 R w λ t35 w =>
 Zr t35 (
 Ht t1 t2 t5 t30 next2 R w) (
 F5 t1 t2 R w)
def FU (t2:Value) (R:RT) (w:World):Prop :=
 opV Pg (Instr.build 90 #[(0,(.int .i64 (-1))),(1,(.int .i64 (-1))),(2,(.int .i64 3))]) (Zd R) w λ t26 w =>
 opU Pg (Instr.storeAt 90 t2 t26) (Zd R) w λ w =>
 qW Pg 90 t2 w λ r0 =>
 R (.returned (.tuple #[r0,(.bool true)])) w
def He (t1 t2:Value) (R:RT) (w:World):Prop :=
 F0 28 t1 1 R w λ t27 w =>
 L0 26 t27 R w λ t28 w =>
 opV Pg (Builtin.len_ #[26] 3 #[t28]) (Zd R) w λ t29 w =>
 opV Pg (Instr.makeSlice 30 t29 t29) (Zd R) w λ t30 w =>
 Yi (λ t5 w next2 =>
 Fi t1 t2 t5 t30 next2 R w) (.int .i64 0) w
def E7 (t2:Value) (R:RT) (w:World):Prop :=
 opV Pg (Instr.build 90 #[(0,(.int .i64 (-1))),(1,(.int .i64 (-1))),(2,(.int .i64 1))]) (Zd R) w λ t15 w =>
 opU Pg (Instr.storeAt 90 t2 t15) (Zd R) w λ w =>
 qW Pg 90 t2 w λ r0 =>
 R (.returned (.tuple #[r0,(.bool true)])) w
def Fy (t1 t2:Value) (R:RT) (w:World):Prop :=
 F0 28 t1 1 R w λ t16 w =>
 L0 26 t16 R w λ t17 w =>
 opV Pg (Builtin.len_ #[26] 3 #[t17]) (Zd R) w λ t18 w =>
 B0 .lss 3 true t18 (.int .i64 1) R w λ t19 w =>
 Zq (λ (t24:Value) (w:World) =>
 Zu t19 (.bool true) t24 λ t25 =>
 Zr t25 (
 FU t2 R w) (
 He t1 t2 R w)) λ K1 =>
 Zl t19 false (
 F0 28 t1 1 R w λ t21 w =>
 L0 26 t21 R w λ t22 w =>
 opV Pg (Builtin.len_ #[26] 3 #[t22]) (Zd R) w λ t23 w =>
 B0 .gtr 3 true t23 (.int .i64 60) R w λ t24 w =>
 K1 t24 w) (
 K1 undef w)
def n22 (t0:Value) (R:RT) (w:World):Prop :=
 opV Pg (Instr.box 28 t0) (Zd R) w λ t1 w =>
 opV Pg (Instr.alloc 90 true (.tuple #[])) (Zd R) w λ t2 w =>
 F0 28 t1 0 R w λ t11 w =>
 L0 9 t11 R w λ t12 w =>
 C0 89 #[t12] R w λ t13 w =>
 opV Pg (Op.unary .not t13) (Zd R) w λ t14 w =>
 Zr t14 (
 E7 t2 R w) (
 Fy t1 t2 R w)
set_option maxHeartbeats 40000000 in
theorem Zfs {t0:Value} {R:RT} {w:World} (h:n22 t0 R w):Calls Pg 52 #[t0] w R:=by
 refine yD Tryz.func52 ?_
 refine zs<|zr<|yv h λ _ w h=>yv h λ _ w h=>zm<|zn<|zk<|zs<|zs<|zr<|yv h λ _ w h=>yv h λ _ w h=>yc h c89 λ _ w h=>yv h λ _ w h=>zn ?_
 refine zk<|yC h (λ h=>zs<|zr<|yB h λ _ w h=>yu h λ w h=>zm<|zn<|zk<|Zk<|Zb<|Yr rfl rfl rfl h) λ h=>Zh<|zk<|zs<|zs<|Zs<|yG 5<|yv h λ _ w h=>yv h λ _ w h=>yx h λ _ w h=>yb h λ _ w h=>zm<|zn ?_
 refine yg1 4 4 false [21,22,23,24] 24 h (λ _ T hT h=>?_) λ σ w h=>?_
 · refine yv h λ _ w h=>yv h λ _ w h=>yx h λ _ w h=>yb h λ _ w h=>zn ?_
   exact zt hT h
 refine yG 1<|yp h λ _ h=>zn<|ZG<|zk<|yC h (λ h=>zs<|zr<|yB h λ _ w h=>yu h λ w h=>zm<|zn<|zk<|Zk<|Zb<|Yr rfl rfl rfl h) λ h=>Zh<|zk<|zs<|zr<|yv h λ _ w h=>yv h λ _ w h=>yx h λ _ w h=>yv h λ _ w h=>?_
 refine zm<|zn<|zk<|zs<|zs<|zr<|zm<|zn<|zk<|Zj<|yl1 [3,5,6,7,8,9,10,31,32,33,34,35,36,37,38,39,40,41,42,43,44,45,46,47,48,49,50,51,52,53,54,55,56,57,58,59,60,61,62,63,64,65,66,67,68,69,70,71,72,73,74,75,76,77,78,79,80,81,82,83,84,85,86,87,88,89,90,91,92,93,94,95,96,97,98,99,100,101,102,103,104,105,106,107,108,109,110,111,112,113,114,115,116,117,118,119,120,121,122,123,124] 5 h λ σ w next h=>zs<|zs<|zr<|zm ?_
 refine yv h λ _ w h=>yv h λ _ w h=>yx h λ _ w h=>yb h λ _ w h=>zn<|zk<|yC h (λ h=>?_) λ h=>?_
 · refine Zh<|zk<|zs<|Zj<|zs<|zr<|yv h λ _ w h=>yv h λ _ w h=>zm<|yv h λ _ w h=>yv h λ _ w h=>yv h λ _ w h=>yu h λ w h=>zn<|zk ?_
   refine zs<|zs<|zr<|yv h λ _ w h=>yv h λ _ w h=>yc h c89 λ _ w h=>yv h λ _ w h=>zn<|zk<|yC h (λ h=>?_) λ h=>?_
   · refine zs<|zr<|zm<|yB h λ _ w h=>yu h λ w h=>zm<|zn<|zk<|Zk<|Zb<|Zf<|Zb<|Zb<|Zf<|Zb ?_
     exact Yr rfl rfl rfl h
   refine Zh<|zk<|zs<|zs<|zr<|yv h λ _ w h=>yv h λ _ w h=>yv h λ _ w h=>zm<|yc h c53 λ _ w h=>yb h λ _ w h=>zn<|zk<|yC h (λ h=>?_) λ h=>?_
   · refine zs<|zr<|zm<|yB h λ _ w h=>yu h λ w h=>zm<|zn<|zk<|Zk<|Zb<|Zf<|Zb<|Zb<|Zf<|Zb ?_
     exact Yr rfl rfl rfl h
   refine Zh<|zk<|zs<|zs<|Zs<|yG 5<|yv h λ _ w h=>yv h λ _ w h=>yx h λ _ w h=>yb h λ _ w h=>zm<|zn<|yg1 4 4 false [62,63,64,65] 65 h (λ _ T hT h=>?_) λ σ w h=>?_
   · refine yv h λ _ w h=>yv h λ _ w h=>yx h λ _ w h=>yb h λ _ w h=>zn ?_
     exact zt hT h
   refine yG 1<|yp h λ _ h=>zn<|ZG<|zk<|yC h (λ h=>?_) λ h=>?_
   · refine zs<|zr<|zm<|yB h λ _ w h=>yu h λ w h=>zm<|zn<|zk<|Zk<|Zb<|Zf<|Zb<|Zb<|Zf<|Zb ?_
     exact Yr rfl rfl rfl h
   refine Zh<|zk<|zs<|zs<|zr<|zm<|zn<|zk<|Zj<|yl1 [3,7,8,69,70,71,72,73,74,75,76,77,78,79,80,81,82,83,84,85] 7 h λ σ w next h=>zs<|zs<|zr<|zm<|yv h λ _ w h=>?_
   refine yv h λ _ w h=>yx h λ _ w h=>yb h λ _ w h=>zn<|zk<|yC h (λ h=>?_) λ h=>?_
   · refine Zh<|zk<|zs<|Zj<|zs<|zr<|yv h λ _ w h=>zm<|zm<|yc h c90 λ _ w h=>zm<|zn<|zk<|zs<|zr ?_
     refine zm<|yb h λ _ w h=>zn<|zk<|yC h (λ h=>?_) λ h=>?_
     · refine zs<|zr<|zm<|zm<|zm<|yB h λ _ w h=>yu h λ w h=>zm<|zn<|zk<|Zk<|Zf<|Zb<|Zb<|Zf ?_
       exact Zb<|Zf<|Zb<|Zb<|Zf<|Zb<|Yr rfl rfl rfl h
     exact Zh<|Zg<|zk<|zr<|zm<|yb h λ _ w h=>zm<|zn<|zk<|⟨rfl,h⟩
   refine Zy<|Zc<|Zc<|Zn<|zk<|zs<|zr<|yv h λ _ w h=>yc h c54 λ _ w h=>zm<|zn<|zk<|zs<|zs<|zr ?_
   refine zm<|zn<|zk<|Zj<|yl1 [10,88,89,90,91,92,93,94,95,96,97,98,99,100,101,102,103,104,105,106,107,108,109,110,111] 10 h λ σ w next h=>zs<|zs<|zr<|zm<|zm<|yx h λ _ w h=>yb h λ _ w h=>zn<|zk<|yC h (λ h=>?_) λ h=>?_
   · refine Zh<|zk<|zs<|Zj<|yh [94,95,96,97,98,99,100,101,102,103,104,105,106,107,108,109,110,111] h λ C hC h=>yw 0 hC ?_
     refine yw 1 hC ?_
     refine yw 2 hC ?_
     refine yw 3 hC ?_
     refine ye 4 hC h λ _ h=>?_
     refine ye 5 hC h λ _ h=>?_
     refine yw 6 hC ?_
     refine ye 7 hC h λ _ h=>?_
     refine yw 8 hC ?_
     refine yw 9 hC ?_
     refine ye 10 hC h λ _ h=>?_
     refine ye 11 hC h λ _ h=>?_
     refine yw 12 hC ?_
     refine yr 13 ?_
     refine yc h c53 λ _ w h=>zn ?_
     obtain ⟨C7,hs,hC,h⟩:=h
     refine ⟨C7,hs,hC,?_⟩
     refine ye 14 hC h λ _ h=>?_
     refine ye 15 hC h λ _ h=>?_
     refine ye 16 hC h λ _ h=>?_
     refine ye 17 hC h λ _ h=>?_
     refine yq 18 1 ?_
     refine yu h λ w h=>zn ?_
     obtain ⟨C8,hC,h⟩:=h
     refine ⟨C8,hC,?_⟩
     exact yz<|Zg<|zk<|zr<|zm<|yb h λ _ w h=>zm<|zn<|zk<|⟨rfl,h⟩
   refine Zy<|Zc<|Zc<|Zn<|zk<|zs<|zr<|zm<|zm<|yv h λ _ w h=>yv h λ _ w h=>yb h λ _ w h=>yv h λ _ w h=>yu h λ w h=>zn ?_
   refine zk<|zs<|zr<|zm<|zm<|yv h λ _ w h=>yv h λ _ w h=>yb h λ _ w h=>zn<|zk<|yC h (λ h=>zs<|zr<|zm<|yB h λ _ w h=>yu h λ w h=>zm<|zn<|zk<|Zk<|Zf<|Zb<|Zb<|Zf<|Zb<|Yr rfl rfl rfl h) λ h=>Zh<|Zg<|zk ?_
   exact zr<|zm<|yb h λ _ w h=>zm<|zn<|zk<|⟨rfl,h⟩
 refine Zy<|Zc<|Zc<|Zn<|zk<|zs<|zs<|zr<|yv h λ _ w h=>yv h λ _ w h=>yv h λ _ w h=>yv h λ _ w h=>yv h λ _ w h=>yx h λ _ w h=>yc h c53 λ _ w h=>?_
 refine yb h λ _ w h=>zn<|zk<|yC h (λ h=>zs<|zr<|yB h λ _ w h=>yu h λ w h=>zm<|zn<|zk<|Zk<|Zb<|Yr rfl rfl rfl h) λ h=>Zh<|zk<|zs<|zr<|yB h λ _ w h=>yu h λ w h=>zm<|zn<|zk<|Zk ?_
 exact Yr rfl rfl rfl h
def NL (t1 t3 t7:Value) (next1:KV) (R:RT) (w:World):Prop :=
 F0 28 t3 1 R w λ t13 w =>
 L0 26 t13 R w λ t14 w =>
 X0 26 t14 t7 R w λ t16 w =>
 F0 24 t16 0 R w λ t17 w =>
 L0 9 t17 R w λ t18 w =>
 B0 .eql 9 false t18 t1 R w λ t20 w =>
 Zr t20 (
 R (.returned t7) w) (
 B0 .add 3 true t7 (.int .i64 1) R w λ t12 w =>
 next1 t12 w)
def n25 (t0 t1 t2:Value) (R:RT) (w:World):Prop :=
 opV Pg (Instr.box 28 t0) (Zd R) w λ t3 w =>
 Yi (λ t7 w next1 =>
 B0 .lss 3 false t7 t2 R w λ t10 w =>
 Zr t10 (
 NL t1 t3 t7 next1 R w) (
 R (.returned (.int .i64 (-1))) w)) (.int .i64 0) w
theorem ZfW {t0 t1 t2:Value} {R:RT} {w:World} (h:n25 t0 t1 t2 R w):Calls Pg 53 #[t0,t1,t2] w R:=by
 refine yD Tryz.func53 ?_
 refine zs<|zr<|yv h λ _ w h=>zm<|zn<|zk<|zs<|zs<|zr<|zm<|zn<|zk<|Zj<|yl1 [6,7,8,9,10,11,12,13,14,15,16,17,18,19,20,21] 7 h λ σ w next h=>zs ?_
 refine zs<|zr<|zm<|zm<|yb h λ _ w h=>zn<|zk<|yC h (λ h=>?_) λ h=>?_
 · refine Zh<|zk<|zs<|Zj<|zs<|zr<|yv h λ _ w h=>yv h λ _ w h=>zm<|yv h λ _ w h=>yv h λ _ w h=>yv h λ _ w h=>zm<|yb h λ _ w h=>zn ?_
   exact zk<|yC h (λ h=>zs<|zr<|zm<|zm<|zn<|zk<|Zk<|Zf<|Zb<|Zb<|Zf<|Zb<|Zi rfl rfl h) λ h=>Zh<|Zg<|zk<|zr<|zm<|yb h λ _ w h=>zm<|zn<|zk<|⟨rfl,h⟩
 exact Zy<|Zc<|Zc<|Zn<|zk<|zs<|zr<|zm<|zn<|zk<|Zk<|Zi rfl rfl h
theorem GN {α:Type} {l:List α} {n k:Nat} {x:α} (h:(l.take n)[k]?=some x):l[k]?=some x:=by
 rw [List.getElem?_take] at h
 split at h
 · exact h
 · cases h
theorem Qk (w0:World) (v:Value) (d:YF) (s:ByteArray) (n:Nat) (hd:Yv w0 v d) (hn:n≤d.msgs.length) :
 Ret Pg 53 #[v,.string s,.int .i64 (n:Int)] w0 λ r w'=>r = .int .i64 (idx (λ m=>decide (m.name=s)) (d.msgs.take n))∧Ext w0 w':=by
 obtain ⟨mv,rfl,hM⟩:=hd
 obtain ⟨A,c,rfl,hlc,hcm,hlm,hel⟩:=Ze.open hM
 have hlen:(d.msgs.take n).length=n:=by rw [List.length_take];omega
 refine ZfW (R:=ZQ _) ?_;unfold n25
 simp (disch:=try exact DI) only [↓PR,QR,simprocAttr]
 generalize hW:World.alloc w0 _=W
 have e0:Ext w0 W:=by rw [← hW];exact ee
 have o3:W.heap[w0.heap.size]?=some (.cells #[.string d.name,.slice A d.msgs.length c,.string d.start] 28 (0,0)):=by rw [← hW];simp (disch:=try exact DI) only [↓PR,QR,simprocAttr]
 clear hW
 refine ZA (λ a0 w=>∃ (k:Nat) , a0 = .int .i64 (k:Int)∧k≤(d.msgs.take n).length∧Ext W w∧∀ (j:Nat) y,j < k→(d.msgs.take n)[j]?=some y→decide (y.name=s)=false) (λ a0 _=>(d.msgs.take n).length - (intOf a0).toNat) ⟨0,rfl,Nat.zero_le _,ee,λ j y h=>by omega⟩ ?_
 rintro _ w ⟨k,rfl,hk,e,hI⟩
 have se:=e.size
 rcases ZB hk with ⟨x,hx,hd,hlt,hdec⟩ | ⟨hk,hd,hdec⟩
 · obtain ⟨b,o,cs,rfl,_,hA,hE⟩:=hel k x (GN hx)
   obtain ⟨fv,rfl,hF⟩:=hE
   rw [hlen] at hdec hlt
   have hlt':k < d.msgs.length:=by omega
   have e0':=e0.trans e
   simp (disch:=try exact DI) only [↓PR,QR,simprocAttr,↓NL,hdec,(Za (e.obj o3)).1,hA.c2]
   cases hp:decide (x.name=s) with
   | true =>
    simp (disch:=try exact DI) only [↓PR,QR,simprocAttr]
    exact ⟨by rw [Qs hx hp hI],e0'⟩
   | false =>
    simp (disch:=try exact DI) only [↓PR,QR,simprocAttr]
    have hlt:k < (d.msgs.take n).length:=by omega
    exact ⟨⟨k+1,rfl,by omega,ee,Wi hI hx hp⟩,ZF (kd := .i64) hlt⟩
 · rw [hlen] at hk hdec
   subst hk
   simp (disch:=try exact DI) only [↓PR,QR,simprocAttr,↓NL,hdec]
   exact ⟨by rw [Wq λ j y hy=>hI j y (by have:=(List.getElem?_eq_some_iff.1 hy).1;omega) hy],e0.trans e⟩
theorem UB (w0:World) (v:Value) (d:ZD) (s:ByteArray) (n:Nat) (hd:Xe w0 v d) (hn:n≤d.fields.length) :
 Ret Pg 45 #[v,.string s,.int .i64 (n:Int)] w0 λ r w'=>r = .int .i64 (idx (λ m=>decide (m.name=s)) (d.fields.take n))∧Ext w0 w':=by
 obtain ⟨mv,rfl,hM⟩:=hd
 obtain ⟨A,c,rfl,hlc,hcm,hlm,hel⟩:=Ze.open hM
 have hlen:(d.fields.take n).length=n:=by rw [List.length_take];omega
 refine ZgB (R:=ZQ _) ?_;unfold n24
 simp (disch:=try exact DI) only [↓PR,QR,simprocAttr]
 generalize hW:World.alloc w0 _=W
 have e0:Ext w0 W:=by rw [← hW];exact ee
 have o3:W.heap[w0.heap.size]?=some (.cells #[.string d.name,.slice A d.fields.length c] 24 (0,0)):=by rw [← hW];simp (disch:=try exact DI) only [↓PR,QR,simprocAttr]
 clear hW
 refine ZA (λ a0 w=>∃ (k:Nat) , a0 = .int .i64 (k:Int)∧k≤(d.fields.take n).length∧Ext W w∧∀ (j:Nat) y,j < k→(d.fields.take n)[j]?=some y→decide (y.name=s)=false) (λ a0 _=>(d.fields.take n).length - (intOf a0).toNat) ⟨0,rfl,Nat.zero_le _,ee,λ j y h=>by omega⟩ ?_
 rintro _ w ⟨k,rfl,hk,e,hI⟩
 have se:=e.size
 rcases ZB hk with ⟨x,hx,hd,hlt,hdec⟩ | ⟨hk,hd,hdec⟩
 · obtain ⟨b,o,cs,rfl,_,hA,hE⟩:=hel k x (GN hx)
   obtain ⟨tv,cv,rfl,hT,hC,ht1,hc1⟩:=hE.op
   rw [hlen] at hdec hlt
   have hlt':k < d.fields.length:=by omega
   have e0':=e0.trans e
   simp (disch:=try exact DI) only [↓PR,QR,simprocAttr,↓On,hdec,(Za (e.obj o3)).1,hA.c15]
   cases hp:decide (x.name=s) with
   | true =>
    simp (disch:=try exact DI) only [↓PR,QR,simprocAttr]
    exact ⟨by rw [Qs hx hp hI],e0'⟩
   | false =>
    simp (disch:=try exact DI) only [↓PR,QR,simprocAttr]
    have hlt:k < (d.fields.take n).length:=by omega
    exact ⟨⟨k+1,rfl,by omega,ee,Wi hI hx hp⟩,ZF (kd := .i64) hlt⟩
 · rw [hlen] at hk hdec
   subst hk
   simp (disch:=try exact DI) only [↓PR,QR,simprocAttr,↓On,hdec]
   exact ⟨by rw [Wq λ j y hy=>hI j y (by have:=(List.getElem?_eq_some_iff.1 hy).1;omega) hy],e0.trans e⟩
def ZL (s:ByteArray) (c:Int):Bool:=s.data.toList.any (λ x=>(x.toNat:Int) == c)
theorem N5 (w0:World) (s:ByteArray) (c:Int) (hl:s.size≤9223372036854775806):Ret Pg 147 #[.string s,.int .u8 c] w0 λ r w'=>r = .bool (ZL s c)∧w'=w0:=by
 have hsz:s.data.toList.length=s.size:=by rw [Array.length_toList];rfl
 refine ZfO (R:=ZQ _) ?_;unfold n34
 refine ZA (λ i w'=>∃ k:Nat,i = .int .i64 k∧k≤s.data.toList.length∧w'=w0∧(s.data.toList.drop k).any (λ x=>(x.toNat:Int) == c)=ZL s c) (λ i _=>s.data.toList.length - (intOf i).toNat) ⟨0,rfl,by omega,rfl,rfl⟩ ?_
 rintro _ w2 ⟨k,rfl,hk,rfl,hI⟩
 unfold RK
 rcases ZB hk with ⟨x,hx,hd,hlt,hdec⟩ | ⟨hk,hd,hdec⟩
 · rw [hsz] at hdec
   rw [hd,List.any_cons] at hI
   simp (disch:=try exact DI) only [↓PR,QR,simprocAttr,hdec]
   unfold SD
   rw [zV Tryz.underlying9 s .i64 k hx]
   cases hb:((x.toNat:Int) == c) with
   | true =>
    rw [hb] at hI
    simp (disch:=try exact DI) only [↓PR,QR,simprocAttr,hb]
    exact ⟨by rw [← hI];rfl,by trivial⟩
   | false =>
    rw [hb] at hI
    simp (disch:=try exact DI) only [↓PR,QR,simprocAttr,hb]
    exact ⟨⟨k+1,rfl,hlt,by trivial,by simpa using hI⟩,ZF (kd := .i64) hlt⟩
 · rw [hsz] at hdec
   rw [hd] at hI
   simp (disch:=try exact DI) only [↓PR,QR,simprocAttr,hdec]
   exact ⟨by rw [← hI];rfl,by trivial⟩
theorem Lc (w0:World) (lo hi:Int):Ret Pg 149 #[.int .i64 lo,.int .i64 hi] w0 λ r w'=>r = .bool (Ws lo hi)∧Ext w0 w':=by
 refine ZgI (R:=ZQ _) ?_;unfold n41
 unfold Ws
 by_cases h1:0≤lo
 · have d1:decide (lo≥0)=true:=by simpa using h1
   by_cases h2:lo≤hi
   · have d2:decide (lo≤hi)=true:=by simpa using h2
     simp (disch:=try exact DI) only [↓PR,QR,simprocAttr,d1,d2]
     unfold Ib
     simp (disch:=try exact DI) only [↓PR,QR,simprocAttr]
     exact ⟨by simp [h1,h2],Ext.refl _⟩
   · have d2:decide (lo≤hi)=false:=by simpa using h2
     simp (disch:=try exact DI) only [↓PR,QR,simprocAttr,d1,d2]
     unfold Ib
     simp (disch:=try exact DI) only [↓PR,QR,simprocAttr]
     exact ⟨by simp [h2],Ext.refl _⟩
 · have d1:decide (lo≥0)=false:=by simpa using h1
   simp (disch:=try exact DI) only [↓PR,QR,simprocAttr,d1]
   unfold Ib
   simp (disch:=try exact DI) only [↓PR,QR,simprocAttr]
   exact ⟨by simp [h1],Ext.refl _⟩
def Zv (k:Int):ByteArray:=if k=1 then ⟨#[98,108,120,104]⟩ else if k=2 then ⟨#[98,108,120]⟩ else if k=3 then ⟨#[111,120,104]⟩ else if k=4 then ⟨#[115]⟩ else if k=5 then ⟨#[120,104]⟩ else if k=6 then ⟨#[111,104]⟩ else if k=7 then ⟨#[102,115]⟩ else if k=8 then ⟨#[102]⟩ else if k=9 then ⟨#[116,99]⟩ else if k=10 then ⟨#[98]⟩ else if k=11 then ⟨#[114,107]⟩ else if k=12 then ⟨#[102,115,121]⟩ else ByteArray.empty
theorem Li (w0:World) (k:Int) (h1:1≤k) (h2:k≤12):Ret Pg 146 #[.int .i64 k] w0 λ r w'=>r = .string (Zv k)∧Ext w0 w':=by
 refine Zgk (R:=ZQ _) ?_;unfold n40
 obtain ⟨n,rfl⟩:∃ n:Nat,k=n:=⟨k.toNat,by omega⟩
 have:n=1∨n=2∨n=3∨n=4∨n=5∨n=6∨n=7∨n=8∨n=9∨n=10∨n=11∨n=12:=by omega
 have hn:(n:Int) < ((13:Nat):Int):=by omega
 have hget:[Value.string ⟨#[]⟩,.string ⟨#[98,108,120,104]⟩,.string ⟨#[98,108,120]⟩,.string ⟨#[111,120,104]⟩,.string ⟨#[115]⟩,.string ⟨#[120,104]⟩,.string ⟨#[111,104]⟩,.string ⟨#[102,115]⟩,.string ⟨#[102]⟩,.string ⟨#[116,99]⟩,.string ⟨#[98]⟩,.string ⟨#[114,107]⟩,.string ⟨#[102,115,121]⟩][n*1]?=some (.string (Zv (n:Int))):=by
  rcases this with rfl | rfl | rfl | rfl | rfl | rfl | rfl | rfl | rfl | rfl | rfl | rfl<;>rfl
 simp (disch:=try exact DI) only [↓PR,QR,simprocAttr,hget]
 exact ⟨by first | trivial | rfl,ee⟩
end Go.Proofs.YtfjjgjjlebllmaaGreat
