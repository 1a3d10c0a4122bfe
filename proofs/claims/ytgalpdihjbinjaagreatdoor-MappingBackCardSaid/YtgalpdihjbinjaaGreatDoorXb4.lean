/-
  Lemmas for the claim.
-/
import Derived.Test.YtgalpdihjbinjaaGreatDoorXb3
set_option linter.all false
set_option maxHeartbeats 4000000
set_option maxRecDepth 100000
open Go.Instr (loadAt storeAt fieldAt indexAt buildSlice mapUpdate makeFunc alloc build box extract fill sliceAt lookup makeInterface)
open Go.Proofs.Tryz
namespace Go.Proofs.YtgalpdihjbinjaaGreatDoor
open Sw
open Go.RowKit (intOf Below)
def ZS {β:Type} (l:List (BAr×β)) (s:BAr):Option β:=(l.reverse.find? (λ p=>decide (p.1=s))).map (·.2)
theorem N1 {β:Type} {ps:List (BAr×β)} {s:BAr} {v:β} (h:ZS ps s=some v):(s,v)∈ps:=by
 unfold ZS at h
 obtain ⟨q,hq,rfl⟩:=Option.map_eq_some_iff.1 h
 have h1:=List.find?_some hq
 have h2:=List.mem_of_find?_eq_some hq
 simp only [decide_eq_true_eq] at h1
 subst h1
 exact List.mem_reverse.1 h2
def vI (l:List (BAr×Int)):List (BAr×Vl):=l.map λ p=>(p.1,.int .i64 p.2)
def vB (l:List (BAr×Bool)):List (BAr×Vl):=l.map λ p=>(p.1,.bool p.2)
theorem AE {β:Type} (g:β→Vl) (l:List (BAr×β)) (s:BAr):Yw (l.map λ p=>(p.1,g p.2)) s=(ZS l s).map g:=by
 unfold Yw ZS
 rw [← List.map_reverse,List.find?_map]
 simp only [Option.map_map]
 rfl
theorem UV (l:List (BAr×Int)) (s:BAr):Yw (vI l) s=(ZS l s).map λ n => .int .i64 n:=AE _ l s
theorem xA (l:List (BAr×Bool)) (s:BAr):Yw (vB l) s=(ZS l s).map Value.bool:=AE _ l s
theorem Nf (l:List (BAr×Bool)) (s:BAr):Ig (vB l) s=(ZS l s).getD false:=by
 unfold Ig;rw [xA];cases ZS l s<;>rfl
structure CkO (a0 w:Wd) (cb md ms:Nat) (Zr:List (BAr×Int)) (ZC:List (BAr×Bool)) (at_ fld:Int) (fs:List Zq):Prop where
 ext:Ext a0 w
 obj:∃ dn mv ds mn fv,w.heap[cb]?=some (.cells #[.string dn,mv,.string ds,.map (some md),.map (some ms),.int .i64 at_,.int .i64 fld,.string mn,fv] 201 (0,0))∧YR a0 fv fs
 mdeps:Y7 w md (vI Zr)
 mstrs:Y7 w ms (vB ZC)
 lcb:a0.heap.size≤cb
 lmd:a0.heap.size≤md
 lms:a0.heap.size≤ms
 ne:md≠ms
section
variable {a0 w w':Wd} {cb md ms:Nat} {Zr:List (BAr×Int)} {ZC:List (BAr×Bool)} {at_ fld:Int} {fs:List Zq}
theorem CkO.chk (h:CkO a0 w cb md ms Zr ZC at_ fld fs):Chk w cb md ms (vI Zr) (vB ZC) at_ fld fs:=by
 obtain ⟨dn,mv,ds,mn,fv,h1,h2⟩:=h.obj
 refine ⟨⟨dn,mv,ds,mn,fv,h1,h2.ext h.ext⟩,h.mdeps,h.mstrs,λ k v hv=>?_,λ k v hv=>?_⟩
 · rw [UV] at hv;obtain ⟨n,_,rfl⟩:=Option.map_eq_some_iff.1 hv;exact ⟨n,rfl⟩
 · rw [xA] at hv;obtain ⟨n,_,rfl⟩:=Option.map_eq_some_iff.1 hv;exact ⟨n,rfl⟩
theorem CkO.nd (h:CkO a0 w cb md ms Zr ZC at_ fld fs):cb≠md∧cb≠ms∧cb < w.heap.size∧md < w.heap.size∧ms < w.heap.size:=by
 obtain ⟨dn,mv,ds,mn,fv,h1,h2⟩:=h.obj
 refine ⟨?_,?_,(Array.getElem?_eq_some_iff.1 h1).1,h.mdeps.lt,h.mstrs.lt⟩
 · rintro rfl;have:=h.mdeps.obj;rw [h1] at this;cases this
 · rintro rfl;have:=h.mstrs.obj;rw [h1] at this;cases this
theorem CkO.go (h:CkO a0 w cb md ms Zr ZC at_ fld fs) (e:Ext w w'):CkO a0 w' cb md ms Zr ZC at_ fld fs:=by
 obtain ⟨dn,mv,ds,mn,fv,h1,h2⟩:=h.obj
 exact ⟨h.ext.trans e,⟨dn,mv,ds,mn,fv,e.obj h1,h2⟩,h.mdeps.ext e,h.mstrs.ext e,h.lcb,h.lmd,h.lms,h.ne⟩
theorem CkO.other (h:CkO a0 w cb md ms Zr ZC at_ fld fs) {b o:Nat} (hb:a0.heap.size≤b) (hn:b≠cb) (v:Vl):CkO a0 (w.setCell ⟨b,o,none⟩ v) cb md ms Zr ZC at_ fld fs:=by
 obtain ⟨dn,mv,ds,mn,fv,h1,h2⟩:=h.obj
 refine ⟨h.ext.setCell hb v,⟨dn,mv,ds,mn,fv,?_,h2⟩,h.mdeps.setCell _ _,h.mstrs.setCell _ _,h.lcb,h.lmd,h.lms,h.ne⟩
 rw [YG.setCell w b o v cb (λ e=>hn e.symm)];exact h1
theorem CkO.setFld (h:CkO a0 w cb md ms Zr ZC at_ fld fs) (n:Int):CkO a0 (w.setCell ⟨cb,6,none⟩ (.int .i64 n)) cb md ms Zr ZC at_ n fs:=by
 obtain ⟨dn,mv,ds,mn,fv,h1,h2⟩:=h.obj
 exact ⟨h.ext.setCell h.lcb _,⟨dn,mv,ds,mn,fv,Zw h1 _,h2⟩,h.mdeps.setCell _ _,h.mstrs.setCell _ _,h.lcb,h.lmd,h.lms,h.ne⟩
theorem CkO.setAt (h:CkO a0 w cb md ms Zr ZC at_ fld fs) (n:Int):CkO a0 (w.setCell ⟨cb,5,none⟩ (.int .i64 n)) cb md ms Zr ZC n fld fs:=by
 obtain ⟨dn,mv,ds,mn,fv,h1,h2⟩:=h.obj
 exact ⟨h.ext.setCell h.lcb _,⟨dn,mv,ds,mn,fv,Zw h1 _,h2⟩,h.mdeps.setCell _ _,h.mstrs.setCell _ _,h.lcb,h.lmd,h.lms,h.ne⟩
theorem CkO.setMsg (h:CkO a0 w cb md ms Zr ZC at_ fld fs) (s:BAr) (fv':Vl) (fs':List Zq) (hf:YR a0 fv' fs'):CkO a0 ((w.setCell ⟨cb,7,none⟩ (.string s)).setCell ⟨cb,8,none⟩ fv') cb md ms Zr ZC at_ fld fs':=by
 obtain ⟨dn,mv,ds,mn,fv,h1,h2⟩:=h.obj
 exact ⟨(h.ext.setCell h.lcb _).setCell h.lcb _,⟨dn,mv,ds,s,fv',Zw (Zw h1 _) _,hf⟩,(h.mdeps.setCell _ _).setCell _ _,(h.mstrs.setCell _ _).setCell _ _,h.lcb,h.lmd,h.lms,h.ne⟩
theorem CkO.putOther (h:CkO a0 w cb md ms Zr ZC at_ fld fs) {B:Nat} (o:Obj) (hB:a0.heap.size≤B) (h1:B≠cb) (h2:B≠md) (h3:B≠ms):CkO a0 (w.putObj B o) cb md ms Zr ZC at_ fld fs:=by
 obtain ⟨dn,mv,ds,mn,fv,h4,h5⟩:=h.obj
 exact ⟨h.ext.putObj hB o,⟨dn,mv,ds,mn,fv,(World.putObj_heap_other (λ e=>h1 e.symm)).trans h4,h5⟩,Xw.putOther h.mdeps (λ e=>h2 e.symm) o,Xw.putOther h.mstrs (λ e=>h3 e.symm) o,h.lcb,h.lmd,h.lms,h.ne⟩
theorem CkO.unmark (h:CkO a0 w cb md ms Zr ZC at_ fld fs) {B:Nat} (hm:Z5 B w) (hB:a0.heap.size≤B):CkO a0 (w.putObj B (.deferred none)) cb md ms Zr ZC at_ fld fs:=by
 obtain ⟨dn,mv,ds,mn,fv,h4,h5⟩:=h.obj
 refine h.putOther _ hB ?_ ?_ ?_
 · rintro rfl;unfold Z5 at hm;rw [h4] at hm;cases hm
 · rintro rfl;unfold Z5 at hm;have:=h.mdeps.obj;rw [hm] at this;cases this
 · rintro rfl;unfold Z5 at hm;have:=h.mstrs.obj;rw [hm] at this;cases this
theorem CkO.lasts {B:Nat} (hB:a0.heap.size≤B):ZP B (λ w=>CkO a0 w cb md ms Zr ZC at_ fld fs):=by
 refine ⟨λ w w' h e=>h.go e,λ w l r r' hl h hr=>?_⟩
 obtain ⟨dn,mv,ds,mn,fv,h4,h5⟩:=h.obj
 refine h.putOther _ (by omega) ?_ ?_ ?_
 · rintro rfl;rw [h4] at hr;cases hr
 · rintro rfl;have:=h.mdeps.obj;rw [hr] at this;cases this
 · rintro rfl;have:=h.mstrs.obj;rw [hr] at this;cases this
theorem Qe.lasts (B pb:Nat) (sv:Vl) (l:List BAr):ZP B (λ w=>Qe w pb sv l):=
 ZP.and (ZP.cell B) (ZP.and ⟨λ _ _ h e=>h.ext Gj e,λ _ _ _ _ _ h hl=>Zc.putLoop (λ _ _ h=>h) hl h⟩ (ZP.const _ _))
theorem Qe.set {w:Wd} {pb:Nat} {sv:Vl} {l:List BAr} (h:Qe w pb sv l) {b o:Nat} (hb:b < pb) (u:Vl):Qe (w.setCell ⟨b,o,none⟩ u) pb sv l:=
 ⟨by rw [YJ (by omega)];exact h.1,Zc.setOther h.2.1 u (λ A m c e=>by have:=h.2.2 A m c e;omega) (λ _ _ h=>h),h.2.2⟩
end
def M8 (m:YT):List BAr:=Z3 [] (YW m.fields)
def Xb (Zr:List (BAr×Int)) (ZC:List (BAr×Bool)) (bef:List Zq):List Zq→Int×Int
 | []=>(-1,0)
 | f::l=>if X9 bef (vI Zr) (vB ZC) f=0 then Xb Zr ZC (bef++[f]) l else (bef.length,X9 bef (vI Zr) (vB ZC) f)
def W5 (a b:Int):Int:=if b > a then b else a
def Vi (Zr:List (BAr×Int)) (m:YT):Int:=(M8 m).foldl (λ d s=>W5 d ((ZS Zr s).getD 0)) 0
def jJ (ZC:List (BAr×Bool)) (m:YT):Bool:=(m.fields.all λ f=>!f.loose)&&(M8 m).all λ s=>(ZS ZC s).getD false
def KH (Zr:List (BAr×Int)) (m:YT) (r:Int×Int):Int×Int:=if r.2=0 then (if Vi Zr m < 16 then (-1,0) else (-1,10)) else r
def W6 (Zr:List (BAr×Int)) (ZC:List (BAr×Bool)) (m:YT):Int×Int:=
 if Z4 m.name then (if (ZS Zr m.name).isSome then (-1,2) else (if 1≤m.fields.length∧m.fields.length≤40 then KH Zr m (Xb Zr ZC [] m.fields) else (-1,3))) else (-1,1)
def ES (a0:Wd) (at_:Int) (r:Int×Int) (K:WPr):Ending→Wd→Prop:=λ e w'=>Ext a0 w'∧(r.2=0∧e = .returned (.tuple #[])∧K w'∨r.2≠0∧e = .panicked [XG at_ r.1 r.2])
theorem SP {a0 w':Wd} {at_:Int} {r:Int×Int} {K:WPr} (e:Ext a0 w') (h:r.2=0) (hK:K w'):ES a0 at_ r K (.returned (.tuple #[])) w':=⟨e,.inl ⟨h,rfl,hK⟩⟩
theorem JT {a0 w':Wd} {at_ a b:Int} {r:Int×Int} {K:WPr} (e:Ext a0 w') (h:r=(a,b)) (h0:b≠0):ES a0 at_ r K (.panicked [XG at_ a b]) w':=by subst h;exact ⟨e,.inr ⟨h0,rfl⟩⟩
theorem HV {P:Program} {C:WPr} [Yv C] {T:TypeId} {a:Addr} {v:Vl} {k:Vl→Prop} (h:∀ w',C w'→QU P w' T a v):qV P C (loadAt T (.pointer (some a))) k=k v:=
 JX λ w' e=>Qv λ QP k=>Gr (h w' e)
section
variable {a0 w:Wd} {cb md ms:Nat} {Zr:List (BAr×Int)} {ZC:List (BAr×Bool)} {at_ fld:Int} {fs:List Zq}
theorem ZaW (h:CkO a0 w cb md ms Zr ZC at_ (-1) fs) (p2 p3 p6 p9 B:Nat) (m:YT) (fv:Vl) (st:Bool) (dp:Int) (hd0:0≤dp) (hd1:dp≤1000)
 (o2:w.heap[p2]?=some (.cells #[.pointer (some ⟨cb,0,none⟩)] 167 (0,0))) (o3:w.heap[p3]?=some (.cells (Yf m fv).toArray 74 (0,0))) (o6:w.heap[p6]?=some (.cells #[.bool st] 4 (0,0))) (o9:w.heap[p9]?=some (.cells #[.int .i64 dp] 3 (0,0)))
 (hmk:Z5 B w) (hB:a0.heap.size≤B) (r:Int×Int) (hr:r=if dp < 16 then (-1,0) else (-1,10)) (K:WPr)
 (hK:∀ w',CkO a0 w' cb md ms (Zr++[(m.name,dp+1)]) (ZC++[(m.name,st)]) at_ (-1) fs→K w') :
 Yg w λ C12 w=>MU (.pointer (some ⟨p2,0,none⟩)) (.pointer (some ⟨p3,0,none⟩)) (.pointer (some ⟨p6,0,none⟩)) (.pointer (some ⟨p9,0,none⟩)) C12 [Sw.mark B] (ES a0 at_ r K) w:=by
 obtain ⟨n1,n2,l1,l2,l3⟩:=h.nd
 have YN:=h.ne
 obtain ⟨dn,mv,ds,mn,fv',h1,h2⟩:=h.obj
 have m2:p2≠md:=by rintro rfl;have:=h.mdeps.obj;rw [o2] at this;cases this
 have m3:p3≠md:=by rintro rfl;have:=h.mdeps.obj;rw [o3] at this;cases this
 have m6:p6≠md:=by rintro rfl;have:=h.mdeps.obj;rw [o6] at this;cases this
 have m9:p9≠md:=by rintro rfl;have:=h.mdeps.obj;rw [o9] at this;cases this
 have q2:p2≠ms:=by rintro rfl;have:=h.mstrs.obj;rw [o2] at this;cases this
 have q3:p3≠ms:=by rintro rfl;have:=h.mstrs.obj;rw [o3] at this;cases this
 have q6:p6≠ms:=by rintro rfl;have:=h.mstrs.obj;rw [o6] at this;cases this
 have q9:p9≠ms:=by rintro rfl;have:=h.mstrs.obj;rw [o9] at this;cases this
 refine Xy (w1:=w) md ms (λ _ _ _ _=>rfl) ?_
 unfold MU
 simp (disch:=try exact DI) only [↓PR,QR,simprocAttr,(Za h1).1,(Za o2).1,(Za o3).1,(Za o6).1,(Za o9).1]
 have eD:Ext w w.drew:=(Ext.refl w).drew
 have hmd:Y7 w.drew md (vI Zr):=h.mdeps.ext eD
 rw [yR underlying198 underlying9 ty3 hmd m.name]
 refine ⟨λ b hb b1 b2=>(World.putObj_heap_other b1),?_⟩
 unfold SF
 simp (disch:=try exact DI) only [↓PR,QR,simprocAttr]
 rw [GG (Xw.ent hmd m.name _) (Hb _ _),Mz,GK]
 have hw1:w.drew.putObj md (WM (λ s:BAr=>Value.string s) (Uz (bld (vI Zr)).1 (bld (vI Zr)).2 m.name (.int .i64 (IntKind.i64.wrap (dp+1)))) (U5 (bld (vI Zr)).1 (bld (vI Zr)).2 m.name))=putW w.drew md (vI Zr) m.name (.int .i64 (IntKind.i64.wrap (dp+1))):=by
  unfold putW;rw [UN]
 rw [hw1]
 have hms:Y7 (putW w.drew md (vI Zr) m.name (.int .i64 (IntKind.i64.wrap (dp+1)))) ms (vB ZC):=Xw.putOther (h.mstrs.ext eD) (λ e=>YN e.symm) _
 refine ⟨λ b hb b1 b2=>(World.putObj_heap_other b1),?_⟩
 rw [yR underlying199 underlying9 ty4 hms m.name]
 refine ⟨λ b hb b1 b2=>(World.putObj_heap_other b2).trans (World.putObj_heap_other b1),?_⟩
 unfold SE
 simp (disch:=try exact DI) only [↓PR,QR,simprocAttr]
 rw [GG (Xw.ent hms m.name _) (Hb _ _),Mz,GK]
 have hw2:(putW w.drew md (vI Zr) m.name (.int .i64 (IntKind.i64.wrap (dp+1)))).putObj ms (WM (λ s:BAr=>Value.string s) (Uz (bld (vB ZC)).1 (bld (vB ZC)).2 m.name (.bool st)) (U5 (bld (vB ZC)).1 (bld (vB ZC)).2 m.name))=putW (putW w.drew md (vI Zr) m.name (.int .i64 (IntKind.i64.wrap (dp+1)))) ms (vB ZC) m.name (.bool st):=by
  unfold putW;rw [UN,UN]
 rw [hw2]
 have hwr:IntKind.i64.wrap (dp+1)=dp+1:=XC (by omega) (by omega)
 rw [hwr]
 have hC2:CkO a0 (putW (putW w.drew md (vI Zr) m.name (.int .i64 (dp+1))) ms (vB ZC) m.name (.bool st)) cb md ms (Zr++[(m.name,dp+1)]) (ZC++[(m.name,st)]) at_ (-1) fs:=by
  refine ⟨(h.ext.drew.putObj h.lmd _).putObj h.lms _,⟨dn,mv,ds,mn,fv',((World.putObj_heap_other n2).trans (World.putObj_heap_other n1)).trans h1,h2⟩,?_,?_,h.lcb,h.lmd,h.lms,YN⟩
  · have:=Xw.putOther (hmd.put m.name (.int .i64 (dp+1))) YN (Gm (bld (vB ZC++[(m.name,.bool st)])).1 (bld (vB ZC++[(m.name,.bool st)])).2)
    unfold vI at this ⊢
    rw [List.map_append]
    exact this
  · rw [hwr] at hms
    have:=hms.put m.name (.bool st)
    unfold vB at this ⊢
    rw [List.map_append]
    exact this
 have hk2:Z5 B (putW (putW w.drew md (vI Zr) m.name (.int .i64 (dp+1))) ms (vB ZC) m.name (.bool st)):=by
  have b1:B≠md:=by rintro rfl;have:=h.mdeps.obj;unfold Z5 at hmk;rw [hmk] at this;cases this
  have b2:B≠ms:=by rintro rfl;have:=h.mstrs.obj;unfold Z5 at hmk;rw [hmk] at this;cases this
  exact ((World.putObj_heap_other b2).trans (World.putObj_heap_other b1)).trans hmk
 have o2':(putW (putW w.drew md (vI Zr) m.name (.int .i64 (dp+1))) ms (vB ZC) m.name (.bool st)).heap[p2]?=some (.cells #[.pointer (some ⟨cb,0,none⟩)] 167 (0,0)):=((World.putObj_heap_other q2).trans (World.putObj_heap_other m2)).trans o2
 have o9':(putW (putW w.drew md (vI Zr) m.name (.int .i64 (dp+1))) ms (vB ZC) m.name (.bool st)).heap[p9]?=some (.cells #[.int .i64 dp] 3 (0,0)):=((World.putObj_heap_other q9).trans (World.putObj_heap_other m9)).trans o9
 generalize putW (putW w.drew md (vI Zr) m.name (.int .i64 (dp+1))) ms (vB ZC) m.name (.bool st)=W at hC2 hk2 o2' o9' ⊢
 refine Xq ?_
 unfold SD
 simp (disch:=try exact DI) only [↓PR,QR,simprocAttr,(Za o2').1,(Za o9').1]
 refine ZR (YK hC2.chk _ 10 (by decide)) (λ w' e h0=>?_) (λ w' e h0=>?_)
 · refine Wm (hk2.ext e) ?_
   rw [Wz]
   have hC3:=(hC2.go e).unmark (hk2.ext e) hB
   refine SP hC3.ext ?_ (hK _ hC3)
   rw [hr]
   by_cases hdp:dp < 16
   · rw [if_pos hdp]
   · rw [decide_eq_false hdp] at h0;exact absurd h0 (by decide)
 · refine qd (hk2.ext e) ?_
   rw [V0]
   have hC3:=(hC2.go e).unmark (hk2.ext e) hB
   by_cases hdp:dp < 16
   · rw [decide_eq_true hdp] at h0;exact absurd rfl h0
   · rw [decide_eq_false hdp]
     rw [if_neg hdp] at hr
     exact JT hC3.ext hr (by decide)
theorem ZaQ {a b c:Int} (h1:a≤c) (h2:b≤c):W5 a b≤c:=by unfold W5;split<;>assumption
theorem ZaK (a b:Int):a≤W5 a b:=by unfold W5;split<;>omega
theorem G2 (g:BAr→Int):∀ (l:List BAr) (d:Int),0≤d→(∀ s∈l,0≤g s∧g s≤16)→d≤16→0≤l.foldl (λ d s=>W5 d (g s)) d∧l.foldl (λ d s=>W5 d (g s)) d≤16
 | [],d,h0,_,h1=>⟨h0,h1⟩
 | s::l,d,h0,h,h1=>G2 g l _ (Int.le_trans h0 (ZaK _ _)) (λ u hu=>h u (List.mem_cons_of_mem _ hu)) (ZaQ h1 (h s (List.mem_cons_self ..)).2)
def Low (Zr:List (BAr×Int)):Prop:=∀ p∈Zr,0≤p.2∧p.2≤16
theorem Low.get {Zr:List (BAr×Int)} (h:Low Zr) (s:BAr):0≤(ZS Zr s).getD 0∧(ZS Zr s).getD 0≤16:=by
 cases hl:ZS Zr s with
 | none=>exact ⟨by decide,by decide⟩
 | some n=>exact h _ (N1 hl)
theorem N9 (hlow:Low Zr) (h:CkO a0 w cb md ms Zr ZC at_ fld fs) (p2 p3 p6:Nat) (m:YT) (fv:Vl) (st:Bool) (hst:st=m.fields.all λ f=>!f.loose) (hF:YR a0 fv m.fields) (hb:(YW m.fields).length≤1048576) (hp2:a0.heap.size≤p2) (hp3:a0.heap.size≤p3) (hp6:a0.heap.size≤p6) (h26:p2 < p6) (h36:p3 < p6)
 (o2:w.heap[p2]?=some (.cells #[.pointer (some ⟨cb,0,none⟩)] 167 (0,0))) (o3:w.heap[p3]?=some (.cells (Yf m fv).toArray 74 (0,0))) (o6:w.heap[p6]?=some (.cells #[.bool st] 4 (0,0)))
 (r:Int×Int) (hr:r=if Vi Zr m < 16 then (-1,0) else (-1,10)) (K:WPr)
 (hK:∀ w',CkO a0 w' cb md ms (Zr++[(m.name,Vi Zr m+1)]) (ZC++[(m.name,jJ ZC m)]) at_ (-1) fs→K w') :
 EO (.pointer (some ⟨p2,0,none⟩)) (.pointer (some ⟨p3,0,none⟩)) (.pointer (some ⟨p6,0,none⟩)) [] (ES a0 at_ r K) w:=by
 obtain ⟨n1,n2,l1,l2,l3⟩:=h.nd
 obtain ⟨dn,mv,ds,mn,fv',h1,h2⟩:=h.obj
 have c2:p2≠cb:=by rintro rfl;rw [o2] at h1;cases h1
 have c3:p3≠cb:=by rintro rfl;rw [o3] at h1;cases h1
 have c6:p6≠cb:=by rintro rfl;rw [o6] at h1;cases h1
 have lp6:p6 < w.heap.size:=(Array.getElem?_eq_some_iff.1 o6).1
 have lp3:p3 < w.heap.size:=(Array.getElem?_eq_some_iff.1 o3).1
 unfold EO
 simp (disch:=try exact DI) only [↓PR,QR,simprocAttr,(Za h1).1,(Za h1).2,(Za o2).1,(Za o3).1]
 have hC1:=h.setFld (-1)
 have o2':(w.setCell ⟨cb,6,none⟩ (.int .i64 (-1))).heap[p2]?=some (.cells #[.pointer (some ⟨cb,0,none⟩)] 167 (0,0)):=by rw [YG.setCell w cb 6 _ p2 c2];exact o2
 have o3':(w.setCell ⟨cb,6,none⟩ (.int .i64 (-1))).heap[p3]?=some (.cells (Yf m fv).toArray 74 (0,0)):=by rw [YG.setCell w cb 6 _ p3 c3];exact o3
 have o6':(w.setCell ⟨cb,6,none⟩ (.int .i64 (-1))).heap[p6]?=some (.cells #[.bool st] 4 (0,0)):=by rw [YG.setCell w cb 6 _ p6 c6];exact o6
 simp only [World.size_setCell]
 have eW:=hC1.go ((Ext.refl (w.setCell ⟨cb,6,none⟩ (.int .i64 (-1)))).alloc (Obj.cells #[.int .i64 0] 3))
 have x2:=((Ext.refl (w.setCell ⟨cb,6,none⟩ (.int .i64 (-1)))).alloc (Obj.cells #[.int .i64 0] 3)).obj o2'
 have x3:=((Ext.refl (w.setCell ⟨cb,6,none⟩ (.int .i64 (-1)))).alloc (Obj.cells #[.int .i64 0] 3)).obj o3'
 have x6:=((Ext.refl (w.setCell ⟨cb,6,none⟩ (.int .i64 (-1)))).alloc (Obj.cells #[.int .i64 0] 3)).obj o6'
 have x9:=Zv (w.setCell ⟨cb,6,none⟩ (.int .i64 (-1))) #[.int .i64 0] 3
 rw [World.size_setCell] at x9
 generalize hW:World.alloc (w.setCell ⟨cb,6,none⟩ (.int .i64 (-1))) _=W at eW x2 x3 x6 x9
 have Jj:W.heap.size=w.heap.size+1:=by rw [← hW];simp only [World.size_alloc,World.size_setCell]
 clear hW hC1 o2 o3 o6 o2' o3' o6' h
 have lW:a0.heap.size≤W.heap.size:=eW.ext.size
 refine Zk (jX W _ m ⟨fv,rfl,hF.ext eW.ext⟩ hb) ?_
 rintro _ w7 ⟨pb,sv,rfl,hS,hpb,e7⟩
 have s7:=e7.size
 unfold SG
 let rs:=M8 m
 let I:Nat→Wd→Prop:=λ k w'=>CkO a0 w' cb md ms Zr ZC at_ (-1) fs∧Qe w' pb sv (YW m.fields)∧w'.heap[p2]?=some (.cells #[.pointer (some ⟨cb,0,none⟩)] 167 (0,0))∧w'.heap[p3]?=some (.cells (Yf m fv).toArray 74 (0,0)) ∧
  w'.heap[p6]?=some (.cells #[.bool (st&&(rs.take k).all λ s=>(ZS ZC s).getD false)] 4 (0,0))∧w'.heap[w.heap.size]?=some (.cells #[.int .i64 ((rs.take k).foldl (λ d s=>W5 d ((ZS Zr s).getD 0)) 0)] 3 (0,0))
 have hLI:∀ k,ZP w7.heap.size (I k):=λ k=>ZP.and (CkO.lasts (by omega)) (ZP.and (Qe.lasts _ _ _ _) (ZP.and (ZP.has _ (by simp)) (ZP.and (ZP.has _ (by simp)) (ZP.and (ZP.has _ (by simp)) (ZP.has _ (by simp))))))
 refine ⟨_,_,rs.length,OC rs,λ w=>Qe w pb sv (YW m.fields),I,λ _ _=>False,λ _ _=>False,rfl,Ze9,Iv pb sv _,⟨eW.go e7,hS,e7.obj x2,e7.obj x3,?_,e7.obj x9⟩,λ k w h=>h.2.1,hLI,λ _=>ZP.const _ _,?_,?_,?_,?_⟩
 · have:=e7.obj x6
   rw [this];simp
 · intro rec j w3 hj hI3 hrec hready
   refine ⟨hready,λ w4 hbz=>?_⟩
   have hrec4:=hrec.busied hbz
   have hI4:=(hLI j).busied hbz (Nat.le_succ _) hI3
   clear hI3 hrec hready hbz
   obtain ⟨hC4,hS4,y2,y3,y6,y9⟩:=hI4
   obtain ⟨s,hx⟩:=getElem?_lt hj
   have hrs:rs[j]?=some s:=hx
   rw [show OC rs j = .string s by unfold OC;rw [hrs]]
   obtain ⟨dn,mv,ds,mn,fv',h1,h2⟩:=hC4.obj
   have l9:w.heap.size < w4.heap.size:=(Array.getElem?_eq_some_iff.1 y9).1
   have XY:rs.take (j+1)=rs.take j++[s]:=Qw hrs
   refine ZE ?_
   unfold SC
   simp (disch:=try exact DI) only [↓PR,QR,simprocAttr,(Za y9).1,(Za y2).1,(Za h1).1]
   rw [je underlying198 underlying9 ty3 (hC4.mdeps.ext ((Ext.refl w4).wdrew)) s]
   have hg:(Yw (vI Zr) s).getD (.int .i64 0) = .int .i64 ((ZS Zr s).getD 0):=by rw [UV];cases ZS Zr s<;>rfl
   rw [hg]
   simp (disch:=try exact DI) only [↓PR,QR,simprocAttr,(Za y9).1,(Za y9).2]
   refine Xq ?_
   have e4:Ext w4 w4.drew:=(Ext.refl w4).wdrew
   have hC5:=(hC4.go e4).other (b:=w.heap.size) (o:=0) (by omega) (by omega) (.int .i64 (if (ZS Zr s).getD 0 > (rs.take j).foldl (λ d s=>W5 d ((ZS Zr s).getD 0)) 0 then (ZS Zr s).getD 0 else (rs.take j).foldl (λ d s=>W5 d ((ZS Zr s).getD 0)) 0))
   have hS5:Qe (w4.drew.setCell ⟨w.heap.size,0,none⟩ (.int .i64 (if (ZS Zr s).getD 0 > (rs.take j).foldl (λ d s=>W5 d ((ZS Zr s).getD 0)) 0 then (ZS Zr s).getD 0 else (rs.take j).foldl (λ d s=>W5 d ((ZS Zr s).getD 0)) 0))) pb sv (YW m.fields):=(hS4.ext e4).set (by omega) _
   have hrec5:Xg rec w7.heap.size (w4.drew.setCell ⟨w.heap.size,0,none⟩ (.int .i64 (if (ZS Zr s).getD 0 > (rs.take j).foldl (λ d s=>W5 d ((ZS Zr s).getD 0)) 0 then (ZS Zr s).getD 0 else (rs.take j).foldl (λ d s=>W5 d ((ZS Zr s).getD 0)) 0))):=hrec4.drew.setCell _ _
   have z2:=(YG.setCell w4.drew w.heap.size 0 (.int .i64 (if (ZS Zr s).getD 0 > (rs.take j).foldl (λ d s=>W5 d ((ZS Zr s).getD 0)) 0 then (ZS Zr s).getD 0 else (rs.take j).foldl (λ d s=>W5 d ((ZS Zr s).getD 0)) 0)) p2 (by omega)).trans y2
   have z3:=(YG.setCell w4.drew w.heap.size 0 (.int .i64 (if (ZS Zr s).getD 0 > (rs.take j).foldl (λ d s=>W5 d ((ZS Zr s).getD 0)) 0 then (ZS Zr s).getD 0 else (rs.take j).foldl (λ d s=>W5 d ((ZS Zr s).getD 0)) 0)) p3 (by omega)).trans y3
   have z6:=(YG.setCell w4.drew w.heap.size 0 (.int .i64 (if (ZS Zr s).getD 0 > (rs.take j).foldl (λ d s=>W5 d ((ZS Zr s).getD 0)) 0 then (ZS Zr s).getD 0 else (rs.take j).foldl (λ d s=>W5 d ((ZS Zr s).getD 0)) 0)) p6 (by omega)).trans y6
   have z9:=Zw (w:=w4.drew) (o:=0) y9 (.int .i64 (if (ZS Zr s).getD 0 > (rs.take j).foldl (λ d s=>W5 d ((ZS Zr s).getD 0)) 0 then (ZS Zr s).getD 0 else (rs.take j).foldl (λ d s=>W5 d ((ZS Zr s).getD 0)) 0))
   rw [show (#[Value.int .i64 ((rs.take j).foldl (λ d s=>W5 d ((ZS Zr s).getD 0)) 0)]:AVl).setIfInBounds 0 (.int .i64 (if (ZS Zr s).getD 0 > (rs.take j).foldl (λ d s=>W5 d ((ZS Zr s).getD 0)) 0 then (ZS Zr s).getD 0 else (rs.take j).foldl (λ d s=>W5 d ((ZS Zr s).getD 0)) 0)) = #[.int .i64 ((rs.take (j+1)).foldl (λ d s=>W5 d ((ZS Zr s).getD 0)) 0)] from by rw [XY,List.foldl_append];rfl] at z9
   generalize w4.drew.setCell ⟨w.heap.size,0,none⟩ _=w5 at hC5 hS5 hrec5 z2 z3 z6 z9 ⊢
   clear hC4 hS4 hrec4 y2 y3 y6 y9 h1 hg
   obtain ⟨dn,mv,ds,mn,fv',h1,h2⟩:=hC5.obj
   have hall:(st&&(rs.take (j+1)).all λ s=>(ZS ZC s).getD false)=((st&&(rs.take j).all λ s=>(ZS ZC s).getD false)&&(ZS ZC s).getD false):=by
    rw [XY,List.all_append,Bool.and_assoc];simp
   have fin:∀ b,b=(st&&(rs.take (j+1)).all λ s=>(ZS ZC s).getD false)→Xg rec w7.heap.size (w5.setCell ⟨p6,0,none⟩ (.bool b))∧I (j+1) (w5.setCell ⟨p6,0,none⟩ (.bool b)):=by
    rintro b rfl
    refine ⟨hrec5.setCell _ _,hC5.other hp6 c6 _,hS5.set (by omega) _,(YG.setCell w5 p6 0 _ p2 (by omega)).trans z2,(YG.setCell w5 p6 0 _ p3 (by omega)).trans z3,?_,(YG.setCell w5 p6 0 _ w.heap.size (by omega)).trans z9⟩
    have:=Zw (o:=0) z6 (.bool (st&&(rs.take (j+1)).all λ s=>(ZS ZC s).getD false))
    simpa using this
   rw [hall] at fin
   generalize (st&&(rs.take j).all λ s=>(ZS ZC s).getD false)=sj at z6 fin
   unfold SB
   have hg:(Yw (vB ZC) s).getD (.bool false) = .bool ((ZS ZC s).getD false):=by rw [xA];cases ZS ZC s<;>rfl
   cases sj with
   | false=>
    simp (disch:=try exact DI) only [↓PR,QR,simprocAttr,(Za z6).1,(Za z6).2,↓HC,↓SA,↓SB,↓SC,↓SD,↓SE,↓SF,↓MU,↓SG,↓EO,↓Ln,↓EP,↓Bv,↓Lo,↓Lp,↓Lq,↓ER,↓Lr]
    exact fin false rfl
   | true=>
    simp (disch:=try exact DI) only [↓PR,QR,simprocAttr,(Za z6).1,(Za z6).2,(Za z2).1,(Za h1).1]
    rw [W8 underlying199 underlying9 ty4 hC5.mstrs s,hg]
    generalize (ZS ZC s).getD false=b at fin
    simp (disch:=try exact DI) only [↓PR,QR,simprocAttr,(Za z6).1,(Za z6).2,HC]
    exact fin b (by cases b<;>rfl)
 · rintro w3 hI3 hmk
   obtain ⟨hC3,hS3,y2,y3,y6,y9⟩:=hI3
   rw [List.take_length] at y6 y9
   have hfold:=G2 (λ s=>(ZS Zr s).getD 0) rs 0 (by decide) (λ s _=>hlow.get s) (by decide)
   refine ZaW hC3 p2 p3 p6 w.heap.size w7.heap.size m fv _ _ hfold.1 (by have:=hfold.2;omega) y2 y3 y6 y9 hmk (by omega) r hr K ?_
   rw [hst]
   exact hK
 · rintro c w3 h
   exact h.elim
 · rintro ch w3 h
   exact h.elim
end
section
variable {a0 w:Wd} {cb md ms:Nat} {Zr:List (BAr×Int)} {ZC:List (BAr×Bool)} {at_ fld:Int} {m:YT}
theorem U2 {a b:Int} (h:orC a b=0):a=0∧b=0:=by
 unfold orC at h
 split at h
 · rename_i ha
   exact ⟨ha,h⟩
 · rename_i ha
   exact absurd h ha
theorem Am (Zr:List (BAr×Int)) (ZC:List (BAr×Bool)):∀ (l bef:List Zq),(Xb Zr ZC bef l).2≠0→0≤(Xb Zr ZC bef l).1
 | [],_,h=>absurd rfl h
 | f::l,bef,h=>by
  rw [Xb] at h ⊢
  split
  · rename_i hc
    rw [if_pos hc] at h
    exact Am Zr ZC l _ h
  · exact Int.natCast_nonneg _
theorem qg (Zr:List (BAr×Int)) (ZC:List (BAr×Bool)):∀ (l bef:List Zq),(Xb Zr ZC bef l).2=0→(YW l).length≤40*l.length
 | [],_,_=>Nat.zero_le _
 | f::l,bef,h=>by
  rw [Xb] at h
  split at h
  · rename_i hc
    have ih:=qg Zr ZC l _ h
    have hf:(Yy f).length≤40:=by
     unfold Yy
     split
     · simp
     · split
       · rename_i hk
         obtain ⟨_,h1⟩:=U2 hc
         obtain ⟨_,h1⟩:=U2 h1
         obtain ⟨_,h1⟩:=U2 h1
         obtain ⟨_,h1⟩:=U2 h1
         rw [show YQ bef (vI Zr) (vB ZC) f=Vh bef (vI Zr) f by unfold YQ;rw [hk];rfl] at h1
         obtain ⟨_,h1⟩:=U2 h1
         obtain ⟨h1,_⟩:=U2 h1
         have h2:=Ql (by decide) h1
         simp only [Bool.and_eq_true,decide_eq_true_eq] at h2
         rw [List.length_map]
         omega
       · simp
    unfold YW at ih ⊢
    rw [List.flatMap_cons,List.length_append,List.length_cons]
    omega
  · rename_i hc
    exact absurd h hc
theorem SQ (hlow:Low Zr) (h:CkO a0 w cb md ms Zr ZC at_ fld m.fields) (p2 p3:Nat) (fv:Vl) (hF:YR a0 fv m.fields) (h40:m.fields.length≤40) (hp2:a0.heap.size≤p2) (hp3:a0.heap.size≤p3)
 (o2:w.heap[p2]?=some (.cells #[.pointer (some ⟨cb,0,none⟩)] 167 (0,0))) (o3:w.heap[p3]?=some (.cells (Yf m fv).toArray 74 (0,0)))
 (r:Int×Int) (hr:r=KH Zr m (Xb Zr ZC [] m.fields)) (K:WPr)
 (hK:∀ w',CkO a0 w' cb md ms (Zr++[(m.name,Vi Zr m+1)]) (ZC++[(m.name,jJ ZC m)]) at_ (-1) m.fields→K w') :
 Bv (.pointer (some ⟨p2,0,none⟩)) (.pointer (some ⟨p3,0,none⟩)) [] (ES a0 at_ r K) w:=by
 obtain ⟨n1,n2,l1,l2,l3⟩:=h.nd
 have lp2:p2 < w.heap.size:=(Array.getElem?_eq_some_iff.1 o2).1
 have lp3:p3 < w.heap.size:=(Array.getElem?_eq_some_iff.1 o3).1
 have lw:=h.ext.size
 obtain ⟨A,c,rfl,hlc,hcm,hlm,Y1⟩:=Zc.open hF
 unfold Bv
 simp (disch:=try exact DI) only [↓PR,QR,simprocAttr,(Za o3).1]
 refine ZJ (λ i w'=>∃ (k:Nat) (fld':Int),i = .int .i64 k∧k≤m.fields.length∧CkO a0 w' cb md ms Zr ZC at_ fld' m.fields∧w'.heap[p2]?=some (.cells #[.pointer (some ⟨cb,0,none⟩)] 167 (0,0))∧w'.heap[p3]?=some (.cells (Yf m (.slice A m.fields.length c)).toArray 74 (0,0)) ∧
  w'.heap[w.heap.size]?=some (.cells #[.bool ((m.fields.take k).all λ f=>!f.loose)] 4 (0,0))∧r=KH Zr m (Xb Zr ZC (m.fields.take k) (m.fields.drop k))) (λ i _=>m.fields.length - (intOf i).toNat) ⟨0,fld,rfl,by omega,h.go ((Ext.refl _).alloc _),((Ext.refl _).alloc _).obj o2,((Ext.refl _).alloc _).obj o3,Zv w #[.bool true] 4,hr⟩ ?_
 rintro i w' ⟨k,fld',rfl,hk,hC,y2,y3,y6,hrk⟩
 have l6:w.heap.size < w'.heap.size:=(Array.getElem?_eq_some_iff.1 y6).1
 have lw':=hC.ext.size
 obtain ⟨dn,mv,ds,mn,fv',h1,h2⟩:=hC.obj
 have c2:p2≠cb:=by rintro rfl;rw [y2] at h1;cases h1
 have c3:p3≠cb:=by rintro rfl;rw [y3] at h1;cases h1
 rcases ZT hk with ⟨x,hx,hd,Yq,ZY⟩ | ⟨hk,hd,ZY⟩
 · obtain ⟨b,o,cs,rfl,hl,hA,hE⟩:=Y1 k x hx
   obtain ⟨tv,cv,rfl,hT,hCa,ht1,hc1⟩:=hE.op
   have hA':=hA.ext hC.ext
   rw [hd] at hrk
   simp only [Xb] at hrk
   unfold EP
   simp (disch:=try exact DI) only [↓PR,QR,simprocAttr,ZY]
   unfold Ln
   try unfold X0
   try unfold L0
   rw [XH underlying72 Ve _ _ _ _ _ k Yq,Gr (hA'.loads Ve rfl)]
   simp (disch:=try exact DI) only [↓PR,QR,simprocAttr,(Za y2).1,(Za h1).1,(Za h1).2]
   have hCw:=(hC.setFld (k:Int)).go ((Ext.refl _).alloc (Obj.cells (Zp x tv cv).toArray 123))
   have z2:=((Ext.refl _).alloc (Obj.cells (Zp x tv cv).toArray 123)).obj ((YG.setCell w' cb 6 (.int .i64 (k:Int)) p2 c2).trans y2)
   have z3:=((Ext.refl _).alloc (Obj.cells (Zp x tv cv).toArray 123)).obj ((YG.setCell w' cb 6 (.int .i64 (k:Int)) p3 c3).trans y3)
   have z6:=((Ext.refl _).alloc (Obj.cells (Zp x tv cv).toArray 123)).obj ((YG.setCell w' cb 6 (.int .i64 (k:Int)) w.heap.size (by omega)).trans y6)
   have z8:=Zv (w'.setCell ⟨cb,6,none⟩ (.int .i64 (k:Int))) (Zp x tv cv).toArray 123
   rw [World.size_setCell] at z8
   generalize (World.alloc (w'.setCell ⟨cb,6,none⟩ (.int .i64 (k:Int))) (Obj.cells (Zp x tv cv).toArray 123))=W at hCw z2 z3 z6 z8 ⊢
   have hkt:(m.fields.take k).length=k:=by rw [List.length_take];omega
   refine ZR (FV hCw.chk k rfl Yq _ x ⟨tv,cv,rfl,ZZ.ext hT hCw.ext,Yl.ext hCa hCw.ext⟩) (λ w5 e5 h0=>?_) (λ w5 e5 h0=>?_)
   · rw [if_pos h0] at hrk
     have q6:=e5.obj z6
     have q8:=e5.obj z8
     have hC5:=hCw.go e5
     have l5:w'.heap.size < w5.heap.size:=(Array.getElem?_eq_some_iff.1 q8).1
     have htk:=Qw hx
     rw [← htk] at hrk
     have hall:((m.fields.take (k+1)).all λ f=>!f.loose)=(((m.fields.take k).all λ f=>!f.loose)&&!x.loose):=by rw [htk,List.all_append];simp
     have fin:∀ b' w6,Ext w5 w6→b'=((m.fields.take (k+1)).all λ f=>!f.loose)→(∃ (k':Nat) (fld':Int),Value.int .i64 ((k+1:Nat):Int) = .int .i64 k'∧k'≤m.fields.length∧CkO a0 (w6.setCell ⟨w.heap.size,0,none⟩ (.bool b')) cb md ms Zr ZC at_ fld' m.fields∧w6.heap[p2]?=some (.cells #[.pointer (some ⟨cb,0,none⟩)] 167 (0,0))∧w6.heap[p3]?=some (.cells (Yf m (.slice (some ⟨b,o,none⟩) m.fields.length c)).toArray 74 (0,0)) ∧
      (w6.setCell ⟨w.heap.size,0,none⟩ (.bool b')).heap[w.heap.size]?=some (.cells #[.bool ((m.fields.take k').all λ f=>!f.loose)] 4 (0,0))∧r=KH Zr m (Xb Zr ZC (m.fields.take k') (m.fields.drop k')))∧m.fields.length - (intOf (Value.int .i64 ((k+1:Nat):Int))).toNat < m.fields.length - (intOf (Value.int IntKind.i64 k)).toNat:=by
      rintro b' w6 e6 rfl
      refine ⟨⟨k+1,k,rfl,by omega,(hC5.go e6).other (by omega) (by omega) _,e6.obj (e5.obj z2),e6.obj (e5.obj z3),?_,hrk⟩,Ya (kd := .i64) Yq⟩
      have:=Zw (o:=0) (e6.obj q6) (.bool ((m.fields.take (k+1)).all λ f=>!f.loose))
      simpa using this
     unfold SA
     rw [hall] at fin
     generalize ((m.fields.take k).all λ f=>!f.loose)=sj at q6 fin
     cases sj with
     | true=>
      generalize hxl:x.loose=xl at fin
      simp (disch:=try exact DI) only [↓PR,QR,simprocAttr,(Za q6).1,(Za q6).2,(Za q8).1,HC,hxl]
      simp only [Bool.true_and] at fin
      exact fin _ w5 (Ext.refl _) rfl
     | false=>
      simp (disch:=try exact DI) only [↓PR,QR,simprocAttr,(Za q6).1,(Za q6).2,(Za q8).1,HC]
      simp only [Bool.false_and] at fin
      exact fin _ w5 (Ext.refl _) rfl
   · rw [if_neg h0] at hrk
     have hr2:r=((k:Int),X9 (m.fields.take k) (vI Zr) (vB ZC) x):=by
      rw [hrk,hkt];unfold KH;rw [if_neg h0]
     show ZB _ _ _ _ _ _
     rw [V0]
     exact JT (hCw.ext.trans e5) hr2 h0
 · subst hk
   rw [hd] at hrk
   rw [List.take_length] at y6
   unfold EP
   simp (disch:=try exact DI) only [↓PR,QR,simprocAttr,ZY]
   have hfl:(Xb Zr ZC [] m.fields).2=0:=by
    by_cases h0:(Xb Zr ZC [] m.fields).2=0
    · exact h0
    · exfalso
      have h1:=Am Zr ZC m.fields [] h0
      have h2:KH Zr m (Xb Zr ZC (List.take m.fields.length m.fields) [])=Xb Zr ZC [] m.fields:=by
       rw [← hrk,hr]
       unfold KH
       rw [if_neg h0]
      have h3:(KH Zr m (Xb Zr ZC (List.take m.fields.length m.fields) [])).1 = -1:=by
       unfold KH Xb
       simp only [if_true]
       split<;>rfl
      rw [h2] at h3
      omega
   have hb:(YW m.fields).length≤1048576:=by
    have:=qg Zr ZC m.fields [] hfl
    omega
   refine N9 hlow hC p2 p3 w.heap.size m _ _ rfl hF hb hp2 hp3 lw lp2 lp3 y2 y3 y6 r ?_ K hK
   rw [hrk]
   rfl
theorem SN {w0:Wd} {fs0:List Zq} (hlow:Low Zr) (h:CkO a0 w0 cb md ms Zr ZC at_ fld fs0) (v:Vl) (hm:Wa a0 v m) (K:WPr)
 (hK:∀ w',CkO a0 w' cb md ms (Zr++[(m.name,Vi Zr m+1)]) (ZC++[(m.name,jJ ZC m)]) at_ (-1) m.fields→K w') :
 Calls Pg 136 #[.pointer (some ⟨cb,0,none⟩),v] w0 (ES a0 at_ (W6 Zr ZC m) K):=by
 obtain ⟨fv,rfl,hF⟩:=hm
 obtain ⟨n1,n2,l1,l2,l3⟩:=h.nd
 have lw:=h.ext.size
 have hf1:=Zc.oneCell hF
 refine ZkP ?_;unfold n77
 simp (disch:=try exact DI) only [↓PR,QR,simprocAttr]
 have hC:=h.go (((Ext.refl w0).alloc (Obj.cells #[.pointer (some ⟨cb,0,none⟩)] 167)).alloc (Obj.cells (Yf m fv).toArray 74))
 have z3:=Zv (w0.alloc (Obj.cells #[.pointer (some ⟨cb,0,none⟩)] 167)) (Yf m fv).toArray 74
 have z2:=((Ext.refl (w0.alloc (Obj.cells #[.pointer (some ⟨cb,0,none⟩)] 167))).alloc (Obj.cells (Yf m fv).toArray 74)).obj (Zv w0 _ _)
 simp only [World.size_alloc] at z3 ⊢
 generalize (World.alloc (World.alloc w0 _) _)=W at hC z2 z3 ⊢
 clear h
 obtain ⟨dn,mv,ds,mn,fv',h1,h2⟩:=hC.obj
 refine Xy (w1:=W) cb cb (λ _ _ _ _=>rfl) ?_
 unfold Lr
 simp (disch:=try exact DI) only [↓PR,QR,simprocAttr,(Za z2).1]
 have L3:∀ w',KB W cb cb w'→QU Pg w' 74 ⟨w0.heap.size+1,0,none⟩ (.agg (Yf m fv).toArray):=λ w' hw'=>QU.many qn rfl (λ j u hu=>by
  rw [Addr.add_lit]
  exact KB.cell (b:=w0.heap.size+1) hw' (by omega) (by omega) (by rw [(Za z3).1];simpa using hu))
 rw [HV L3]
 simp (disch:=try exact DI) only [↓PR,QR,simprocAttr,(Za h1).1,(Za h1).2]
 have eD:Ext W W.drew:=(Ext.refl W).wdrew
 have hC1:=(hC.go eD).setMsg m.name fv m.fields hF
 have y2:=(YG.setCell (W.drew.setCell ⟨cb,7,none⟩ (.string m.name)) cb 8 fv w0.heap.size (by omega)).trans ((YG.setCell W.drew cb 7 (.string m.name) w0.heap.size (by omega)).trans (eD.obj z2))
 have y3:=(YG.setCell (W.drew.setCell ⟨cb,7,none⟩ (.string m.name)) cb 8 fv (w0.heap.size+1) (by omega)).trans ((YG.setCell W.drew cb 7 (.string m.name) (w0.heap.size+1) (by omega)).trans (eD.obj z3))
 refine ⟨λ b hb b1 _=>(YG.setCell _ cb 8 fv b b1).trans (YG.setCell W.drew cb 7 (.string m.name) b b1),?_⟩
 show ER _ _ _ _ _ _ ((W.drew.setCell ⟨cb,7,none⟩ (.string m.name)).setCell ⟨cb,8,none⟩ fv)
 generalize ((W.drew.setCell ⟨cb,7,none⟩ (.string m.name)).setCell ⟨cb,8,none⟩ fv)=W1 at hC1 y2 y3 ⊢
 clear hC z2 z3 h1
 obtain ⟨dn,mv,ds,mn,fv',h1,h2'⟩:=hC1.obj
 unfold ER
 simp (disch:=try exact DI) only [↓PR,QR,simprocAttr,(Za h1).1,(Za h1).2]
 have hC2:=hC1.setFld (-1)
 have x2:=(YG.setCell W1 cb 6 (.int .i64 (-1)) w0.heap.size (by omega)).trans y2
 have x3:=(YG.setCell W1 cb 6 (.int .i64 (-1)) (w0.heap.size+1) (by omega)).trans y3
 generalize (W1.setCell ⟨cb,6,none⟩ (.int .i64 (-1)))=W2 at hC2 x2 x3 ⊢
 clear hC1 y2 y3 h1
 refine Xq ?_
 refine ZE ?_
 unfold Lq
 simp (disch:=try exact DI) only [↓PR,QR,simprocAttr,(Za x2).1,(Za x3).1]
 refine zcr (UG _ m.name) λ w3 e3=>?_
 have e3':Ext W2 w3:=(Ext.refl W2).wdrew.trans e3
 refine ⟨e3,?_⟩
 generalize hr:W6 Zr ZC m=r
 unfold W6 at hr
 refine ZR (YK (hC2.go e3').chk _ 1 (by decide)) (λ w4 e4 h0=>?_) (λ w4 e4 h0=>?_)
 · have e4':=e3'.trans e4
   have hn:Z4 m.name=true:=Ql (by decide) h0
   rw [if_pos hn] at hr
   refine ⟨e3.trans e4,?_⟩
   have hC4:=hC2.go e4'
   have x2':=e4'.obj x2
   have x3':=e4'.obj x3
   obtain ⟨dn,mv,ds,mn,fv',h1,h2'⟩:=hC4.obj
   refine ZE ?_
   unfold Lp
   simp (disch:=try exact DI) only [↓PR,QR,simprocAttr,(Za x2').1,(Za x3').1,(Za h1).1]
   have eD4:Ext w4 w4.drew:=(Ext.refl w4).wdrew
   rw [BE underlying198 underlying9 ty3 (hC4.mdeps.ext eD4) m.name]
   have hsome:(Yw (vI Zr) m.name).isSome=(ZS Zr m.name).isSome:=by rw [UV,Option.isSome_map]
   rw [hsome]
   simp (disch:=try exact DI) only [↓PR,QR,simprocAttr,(Za x2').1]
   refine ZR (YK (hC4.go eD4).chk _ 2 (by decide)) (λ w5 e5 h0=>?_) (λ w5 e5 h0=>?_)
   · have hs:(ZS Zr m.name).isSome=false:=by have:=Ql (by decide) h0;simpa using this
     rw [hs,if_neg (by simp)] at hr
     have hC5:=hC4.go (eD4.trans e5)
     have x2'':=(eD4.trans e5).obj x2'
     have x3'':=(eD4.trans e5).obj x3'
     have fin:∀ b,b=decide (1≤m.fields.length∧m.fields.length≤40)→ZV Pg 135 #[.pointer (some ⟨cb,0,none⟩),.bool b,.int .i64 3] (ZB Pg [] [] (ES a0 at_ r K)) w5 (λ _ w=>Bv (.pointer (some ⟨w0.heap.size,0,none⟩)) (.pointer (some ⟨w0.heap.size+1,0,none⟩)) [] (ES a0 at_ r K) w):=by
      rintro b rfl
      refine ZR (YK hC5.chk _ 3 (by decide)) (λ w6 e6 h0=>?_) (λ w6 e6 h0=>?_)
      · have hl:=Ql (by decide) h0
        simp only [decide_eq_true_eq] at hl
        rw [if_pos hl] at hr
        exact SQ hlow (hC5.go e6) w0.heap.size (w0.heap.size+1) fv hF hl.2 (by omega) (by omega) (e6.obj x2'') (e6.obj x3'') r hr.symm K hK
      · by_cases hl:1≤m.fields.length∧m.fields.length≤40
        · rw [decide_eq_true hl] at h0;exact absurd rfl h0
        · rw [if_neg hl] at hr
          rw [decide_eq_false hl]
          show ZB _ _ _ _ _ _
          rw [V0]
          exact JT (hC5.ext.trans e6) hr.symm (by decide)
     obtain ⟨A,c,rfl,hlc,hcm,hlm,Y1⟩:=Zc.open hF
     unfold Lo
     by_cases h1l:1≤m.fields.length
     · have d1:decide ((m.fields.length:Int)≥1)=true:=by simp;omega
       by_cases h2l:m.fields.length≤40
       · have d2:decide ((m.fields.length:Int)≤40)=true:=by simp;omega
         simp (disch:=try exact DI) only [↓PR,QR,simprocAttr,(Za x2'').1,(Za x3'').1,d1,d2]
         exact fin _ (by simp [h1l,h2l])
       · have d2:decide ((m.fields.length:Int)≤40)=false:=by simp;omega
         simp (disch:=try exact DI) only [↓PR,QR,simprocAttr,(Za x2'').1,(Za x3'').1,d1,d2]
         exact fin _ (by simp [h2l])
     · have d1:decide ((m.fields.length:Int)≥1)=false:=by simp;omega
       simp (disch:=try exact DI) only [↓PR,QR,simprocAttr,(Za x2'').1,(Za x3'').1,d1]
       exact fin _ (by simp [h1l])
   · have hs:(ZS Zr m.name).isSome=true:=by
      cases hq:(ZS Zr m.name).isSome with
      | true=>rfl
      | false=>rw [hq] at h0;exact absurd rfl h0
     rw [hs,if_pos rfl] at hr
     rw [hs]
     show ZB _ _ _ _ _ _
     rw [V0]
     exact JT (hC4.ext.trans (eD4.trans e5)) hr.symm (by decide)
 · have hn:Z4 m.name=false:=by
    cases hq:Z4 m.name with
    | false=>rfl
    | true=>rw [hq] at h0;exact absurd rfl h0
   rw [hn,if_neg (by simp)] at hr
   rw [hn]
   show ZB _ _ _ _ _ _
   rw [V0]
   exact JT (hC2.ext.trans (e3'.trans e4)) hr.symm (by decide)
end
theorem YB {P:Program} {QP:PEn} {w:Wd} {k:KV} (T:TypeId) (cs:AVl):opV P (box T (.agg cs)) QP w k=k (.pointer (some ⟨w.heap.size,0,none⟩)) (w.alloc (.cells cs T)):=SW T (.agg cs)
theorem HR {α:Type} {w:Wd} {n:Nat} {E:Wd→List Vl→α→Prop} {v:Vl} {l:List α} (h:Zc w n E v l) {i:Nat} {x:α} (hi:l[i]?=some x) :
 ∃ b o c,v = .slice (some ⟨b,o,none⟩) l.length c∧l.length≤c∧c≤9223372036854775807∧l.length≤9223372036854775807∧i < l.length∧∀ k x,l[k]?=some x→∃ cs,cs.length=n∧Yn w b (o+k*n) cs∧E w cs x:=by
 obtain ⟨A,c,h1,h2,h3,h4⟩:=h
 obtain ⟨b,o,rfl,h5⟩:=h4 (by rintro rfl;cases hi)
 exact ⟨b,o,c,h1,h2,h3,by omega,(List.getElem?_eq_some_iff.1 hi).1,h5⟩
open Go.Shelf
def V6:Go.Shelf.Ren:=⟨λ | 156=>59 | 165=>98 | 166=>99 | 169=>100 | 240=>130 | 241=>131 | 276=>157 | 277=>158 | n=>n,λ | 31=>94 | 9=>9 | 3=>3 | 4=>4 | 0=>0 | 20=>20 | 72=>159 | 76=>163 | 70=>157 | 37=>40 | 75=>162 | 127=>195 | 164=>220 | 5=>5 | 80=>165 | n=>n,λ | n=>n⟩
theorem BT:Go.Proofs.Lays.n156 Pg V6:={
 mixed:=by kernel_rfl
 f156:=func59.trans (congrArg some (by kernel_rfl))
 f165:=func98.trans (congrArg some (by kernel_rfl))
 f166:=func99.trans (congrArg some (by kernel_rfl))
 f169:=func100.trans (congrArg some (by kernel_rfl))
 f240:=func130.trans (congrArg some (by kernel_rfl))
 f241:=func131.trans (congrArg some (by kernel_rfl))
 f276:=func157.trans (congrArg some (by kernel_rfl))
 f277:=func158.trans (congrArg some (by kernel_rfl))
 t0:=underlying0
 a0:=Tryz.isAgg0
 z0:=Tryz.sizeOf0
 v0:=Tryz.zeroValue0
 t3:=underlying3
 a3:=Tryz.isAgg3
 z3:=Tryz.sizeOf3
 v3:=Tryz.zeroValue3
 t4:=underlying4
 a4:=Tryz.isAgg4
 z4:=Tryz.sizeOf4
 v4:=Tryz.zeroValue4
 t9:=underlying9
 a9:=Tryz.isAgg9
 z9:=Tryz.sizeOf9
 v9:=Tryz.zeroValue9
 t20:=underlying20
 a20:=Tryz.isAgg20
 z20:=Tryz.sizeOf20
 v20:=Tryz.zeroValue20
 t31:=underlying94
 a31:=Tryz.isAgg94
 z31:=Tryz.sizeOf94
 v31:=Tryz.zeroValue94
 t37:=underlying40
 a37:=Tryz.isAgg40
 z37:=Tryz.sizeOf40
 v37:=Tryz.zeroValue40
 t70:=underlying157
 a70:=Tryz.isAgg157
 z70:=Tryz.sizeOf157
 v70:=Tryz.zeroValue157
 t72:=underlying159
 a72:=Tryz.isAgg159
 z72:=Tryz.sizeOf159
 v72:=Tryz.zeroValue159
 t75:=underlying162
 a75:=Tryz.isAgg162
 z75:=Tryz.sizeOf162
 v75:=Tryz.zeroValue162
 t76:=underlying163
 a76:=Tryz.isAgg163
 z76:=Tryz.sizeOf163
 v76:=Tryz.zeroValue163
 t127:=underlying195
 a127:=Tryz.isAgg195
 z127:=Tryz.sizeOf195
 v127:=Tryz.zeroValue195
 t164:=underlying220
 a164:=Tryz.isAgg220
 z164:=Tryz.sizeOf220
 v164:=Tryz.zeroValue220 }
theorem Vb:Builder.Extra Pg V6:={
 sizeBuilder:=by kernel_rfl
 liesBuilder:=by kernel_rfl
 t5:=underlying5
 a5:=Tryz.isAgg5
 z5:=Tryz.sizeOf5
 v5:=Tryz.zeroValue5
 infoByte:=by kernel_rfl
 cellsByte:=by kernel_rfl
 sizeByte:=by kernel_rfl
 neB5:=by decide }
open Go.RowKit in
theorem jy (bk o c:Nat) (xs:List ByteArray) (sep:ByteArray) (w:World) (hcells:∀ (j:Nat) x,xs[j]?=some x→w.cell? ⟨bk,o+j,none⟩=some (.string x)) (hbk:bk < w.heap.size) (hN:xs.length≤140737488355328) (hcap:xs.length≤c) (Y8:(Lib.join (xs.map (·.data.toList)) sep.data.toList).length≤140737488355328) :
 Calls Pg 59 #[.slice (some ⟨bk,o,none⟩) xs.length c,.string sep] w λ e w'=>e = .returned (.string ⟨(Lib.join (xs.map (·.data.toList)) sep.data.toList).toArray⟩)∧Below w.heap.size w w':=Any.strings_Join BT Vb bk o c xs sep w hcells hbk hN hcap Y8
def BQ:Go.Shelf.Ren:=⟨λ | 103=>128 | 210=>156 | 206=>190 | n=>n,λ | 9=>9 | 4=>4 | 24=>65 | 3=>3 | n=>n,λ | n=>n⟩
theorem Mb:Go.Proofs.Lays.n103 Pg BQ:={
 mixed:=by kernel_rfl
 f103:=func128.trans (congrArg some (by kernel_rfl))
 f206:=func190.trans (congrArg some (by kernel_rfl))
 f210:=func156.trans (congrArg some (by kernel_rfl))
 t3:=underlying3
 a3:=Tryz.isAgg3
 z3:=Tryz.sizeOf3
 v3:=Tryz.zeroValue3
 t4:=underlying4
 a4:=Tryz.isAgg4
 z4:=Tryz.sizeOf4
 v4:=Tryz.zeroValue4
 t9:=underlying9
 a9:=Tryz.isAgg9
 z9:=Tryz.sizeOf9
 v9:=Tryz.zeroValue9
 t24:=underlying65
 a24:=Tryz.isAgg65
 z24:=Tryz.sizeOf65
 v24:=Tryz.zeroValue65 }
open Go.RowKit in
theorem J7 (s p:ByteArray) (w:World) :
 Calls Pg 128 #[.string s,.string p] w λ e w'=>e = .returned (.tuple #[.string ⟨(Lib.trimPrefix s.data.toList p.data.toList).toArray⟩,.bool (Lib.hasPrefix s.data.toList p.data.toList)])∧w'=w:=Any.strings_CutPrefix Mb s p w
def BR:Go.Shelf.Ren:=⟨λ | 104=>49 | 211=>86 | 207=>124 | n=>n,λ | 9=>9 | 4=>4 | 24=>65 | 3=>3 | n=>n,λ | n=>n⟩
theorem Mc:Go.Proofs.Lays.n104 Pg BR:={
 mixed:=by kernel_rfl
 f104:=func49.trans (congrArg some (by kernel_rfl))
 f207:=func124.trans (congrArg some (by kernel_rfl))
 f211:=func86.trans (congrArg some (by kernel_rfl))
 t3:=underlying3
 a3:=Tryz.isAgg3
 z3:=Tryz.sizeOf3
 v3:=Tryz.zeroValue3
 t4:=underlying4
 a4:=Tryz.isAgg4
 z4:=Tryz.sizeOf4
 v4:=Tryz.zeroValue4
 t9:=underlying9
 a9:=Tryz.isAgg9
 z9:=Tryz.sizeOf9
 v9:=Tryz.zeroValue9
 t24:=underlying65
 a24:=Tryz.isAgg65
 z24:=Tryz.sizeOf65
 v24:=Tryz.zeroValue65 }
open Go.RowKit in
theorem J8 (s p:ByteArray) (w:World) (hs:s.size≤9223372036854775807) :
 Calls Pg 49 #[.string s,.string p] w λ e w'=>e = .returned (.tuple #[.string ⟨(Lib.trimSuffix s.data.toList p.data.toList).toArray⟩,.bool (Lib.hasSuffix s.data.toList p.data.toList)])∧w'=w:=Any.strings_CutSuffix Mc s p w hs
def jw:Go.Shelf.Ren:=⟨λ | 171=>101 | 243=>132 | 246=>159 | 283=>191 | 284=>192 | 285=>193 | 286=>194 | 129=>208 | 317=>207 | 318=>209 | 319=>210 | 320=>211 | 337=>244 | 338=>245 | n=>n,λ | 3=>3 | 9=>9 | 2=>2 | 4=>4 | 171=>246 | 0=>0 | 53=>191 | 37=>40 | 5=>5 | 173=>249 | 212=>281 | 51=>273 | 20=>20 | 213=>282 | 46=>197 | 232=>305 | 233=>306 | n=>n,λ | 17=>5 | 18=>6 | 19=>7 | n=>n⟩
theorem H9:Go.Proofs.LaysM.n171 Pg jw:={
 mixed:=by kernel_rfl
 f129:=func208.trans (congrArg some (by kernel_rfl))
 f171:=func101.trans (congrArg some (by kernel_rfl))
 f243:=func132.trans (congrArg some (by kernel_rfl))
 f246:=func159.trans (congrArg some (by kernel_rfl))
 f283:=func191.trans (congrArg some (by kernel_rfl))
 f284:=func192.trans (congrArg some (by kernel_rfl))
 f285:=func193.trans (congrArg some (by kernel_rfl))
 f286:=func194.trans (congrArg some (by kernel_rfl))
 f317:=func207.trans (congrArg some (by kernel_rfl))
 f318:=func209.trans (congrArg some (by kernel_rfl))
 f319:=func210.trans (congrArg some (by kernel_rfl))
 f320:=func211.trans (congrArg some (by kernel_rfl))
 f337:=func244.trans (congrArg some (by kernel_rfl))
 f338:=func245.trans (congrArg some (by kernel_rfl))
 t0:=underlying0
 a0:=Tryz.isAgg0
 z0:=Tryz.sizeOf0
 v0:=Tryz.zeroValue0
 t2:=underlying2
 a2:=Tryz.isAgg2
 z2:=Tryz.sizeOf2
 v2:=Tryz.zeroValue2
 t3:=underlying3
 a3:=Tryz.isAgg3
 z3:=Tryz.sizeOf3
 v3:=Tryz.zeroValue3
 t4:=underlying4
 a4:=Tryz.isAgg4
 z4:=Tryz.sizeOf4
 v4:=Tryz.zeroValue4
 t5:=underlying5
 a5:=Tryz.isAgg5
 z5:=Tryz.sizeOf5
 v5:=Tryz.zeroValue5
 t9:=underlying9
 a9:=Tryz.isAgg9
 z9:=Tryz.sizeOf9
 v9:=Tryz.zeroValue9
 t20:=underlying20
 a20:=Tryz.isAgg20
 z20:=Tryz.sizeOf20
 v20:=Tryz.zeroValue20
 t37:=underlying40
 a37:=Tryz.isAgg40
 z37:=Tryz.sizeOf40
 v37:=Tryz.zeroValue40
 t46:=underlying197
 a46:=Tryz.isAgg197
 z46:=Tryz.sizeOf197
 v46:=Tryz.zeroValue197
 t51:=underlying273
 a51:=Tryz.isAgg273
 z51:=Tryz.sizeOf273
 v51:=Tryz.zeroValue273
 t53:=underlying191
 a53:=Tryz.isAgg191
 z53:=Tryz.sizeOf191
 v53:=Tryz.zeroValue191
 t171:=underlying246
 a171:=Tryz.isAgg246
 z171:=Tryz.sizeOf246
 v171:=Tryz.zeroValue246
 t173:=underlying249
 a173:=Tryz.isAgg249
 z173:=Tryz.sizeOf249
 v173:=Tryz.zeroValue249
 t212:=underlying281
 a212:=Tryz.isAgg281
 z212:=Tryz.sizeOf281
 v212:=Tryz.zeroValue281
 t213:=underlying282
 a213:=Tryz.isAgg282
 z213:=Tryz.sizeOf282
 t232:=underlying305
 a232:=Tryz.isAgg305
 z232:=Tryz.sizeOf305
 v232:=Tryz.zeroValue305
 t233:=underlying306
 a233:=Tryz.isAgg306
 z233:=Tryz.sizeOf306
 v233:=Tryz.zeroValue306
 g17:=by kernel_rfl
 g18:=by kernel_rfl
 g19:=by kernel_rfl
 i0:=by kernel_rfl
 i2:=by kernel_rfl
 i3:=by kernel_rfl
 i4:=by kernel_rfl
 i5:=by kernel_rfl
 i9:=by kernel_rfl
 i20:=by kernel_rfl
 i37:=by kernel_rfl
 i46:=by kernel_rfl
 i51:=by kernel_rfl
 i53:=by kernel_rfl
 i171:=by kernel_rfl
 i173:=by kernel_rfl
 i212:=by kernel_rfl
 i232:=by kernel_rfl
 i233:=by kernel_rfl
 m17:=by kernel_rfl
 m18:=by kernel_rfl
 m19:=by kernel_rfl }
open Go.RowKit Go.Sort Go.Lib in
theorem jx (n:Int) (h0 : -9223372036854775808≤n) (h1:n≤9223372036854775807) (w:World) (htab:Lib.TabIs Pg w "internal/strconv.uint64pow10" .u64 Lib.pow10Tab) :
 Calls Pg 101 #[.int .i64 n] w λ e w'=>e = .returned (.string ⟨(Lib.itoa n).toArray⟩)∧∃ k os,w'=grow (w.drewN k) os:=Any.strconv_Itoa H9 n h0 h1 w htab
def KG:Go.Shelf.Ren:=⟨λ | 172=>125 | 244=>152 | 245=>153 | 247=>183 | 279=>184 | 280=>185 | 281=>186 | 282=>187 | 287=>155 | 316=>205 | 171=>101 | 205=>206 | 321=>188 | 322=>189 | 243=>132 | 246=>159 | 283=>191 | 284=>192 | 285=>193 | 286=>194 | 129=>208 | 317=>207 | 318=>209 | 319=>210 | 320=>211 | 337=>244 | 338=>245 | n=>n,λ | 9=>9 | 3=>3 | 75=>162 | 76=>163 | 4=>4 | 5=>5 | 167=>239 | 37=>40 | 0=>0 | 85=>240 | 2=>2 | 168=>242 | 53=>191 | 175=>192 | 46=>197 | 210=>278 | 127=>195 | 145=>294 | 143=>292 | 21=>21 | 171=>246 | 173=>249 | 212=>281 | 51=>273 | 20=>20 | 213=>282 | 232=>305 | 233=>306 | 80=>165 | n=>n,λ | 15=>3 | 16=>4 | 17=>5 | 18=>6 | 19=>7 | n=>n⟩
theorem Uq:Go.Proofs.LaysC.n172 Pg KG:={
 mixed:=by kernel_rfl
 f129:=func208.trans (congrArg some (by kernel_rfl))
 f171:=func101.trans (congrArg some (by kernel_rfl))
 f172:=func125.trans (congrArg some (by kernel_rfl))
 f205:=func206.trans (congrArg some (by kernel_rfl))
 f243:=func132.trans (congrArg some (by kernel_rfl))
 f244:=func152.trans (congrArg some (by kernel_rfl))
 f245:=func153.trans (congrArg some (by kernel_rfl))
 f246:=func159.trans (congrArg some (by kernel_rfl))
 f247:=func183.trans (congrArg some (by kernel_rfl))
 f279:=func184.trans (congrArg some (by kernel_rfl))
 f280:=func185.trans (congrArg some (by kernel_rfl))
 f281:=func186.trans (congrArg some (by kernel_rfl))
 f282:=func187.trans (congrArg some (by kernel_rfl))
 f283:=func191.trans (congrArg some (by kernel_rfl))
 f284:=func192.trans (congrArg some (by kernel_rfl))
 f285:=func193.trans (congrArg some (by kernel_rfl))
 f286:=func194.trans (congrArg some (by kernel_rfl))
 f287:=func155.trans (congrArg some (by kernel_rfl))
 f316:=func205.trans (congrArg some (by kernel_rfl))
 f317:=func207.trans (congrArg some (by kernel_rfl))
 f318:=func209.trans (congrArg some (by kernel_rfl))
 f319:=func210.trans (congrArg some (by kernel_rfl))
 f320:=func211.trans (congrArg some (by kernel_rfl))
 f321:=func188.trans (congrArg some (by kernel_rfl))
 f322:=func189.trans (congrArg some (by kernel_rfl))
 f337:=func244.trans (congrArg some (by kernel_rfl))
 f338:=func245.trans (congrArg some (by kernel_rfl))
 t0:=underlying0
 a0:=Tryz.isAgg0
 z0:=Tryz.sizeOf0
 v0:=Tryz.zeroValue0
 t2:=underlying2
 a2:=Tryz.isAgg2
 z2:=Tryz.sizeOf2
 v2:=Tryz.zeroValue2
 t3:=underlying3
 a3:=Tryz.isAgg3
 z3:=Tryz.sizeOf3
 v3:=Tryz.zeroValue3
 t4:=underlying4
 a4:=Tryz.isAgg4
 z4:=Tryz.sizeOf4
 v4:=Tryz.zeroValue4
 t5:=underlying5
 a5:=Tryz.isAgg5
 z5:=Tryz.sizeOf5
 v5:=Tryz.zeroValue5
 t9:=underlying9
 a9:=Tryz.isAgg9
 z9:=Tryz.sizeOf9
 v9:=Tryz.zeroValue9
 t20:=underlying20
 a20:=Tryz.isAgg20
 z20:=Tryz.sizeOf20
 v20:=Tryz.zeroValue20
 t21:=underlying21
 a21:=Tryz.isAgg21
 z21:=Tryz.sizeOf21
 v21:=Tryz.zeroValue21
 t37:=underlying40
 a37:=Tryz.isAgg40
 z37:=Tryz.sizeOf40
 v37:=Tryz.zeroValue40
 t46:=underlying197
 a46:=Tryz.isAgg197
 z46:=Tryz.sizeOf197
 v46:=Tryz.zeroValue197
 t51:=underlying273
 a51:=Tryz.isAgg273
 z51:=Tryz.sizeOf273
 v51:=Tryz.zeroValue273
 t53:=underlying191
 a53:=Tryz.isAgg191
 z53:=Tryz.sizeOf191
 v53:=Tryz.zeroValue191
 t75:=underlying162
 a75:=Tryz.isAgg162
 z75:=Tryz.sizeOf162
 v75:=Tryz.zeroValue162
 t76:=underlying163
 a76:=Tryz.isAgg163
 z76:=Tryz.sizeOf163
 v76:=Tryz.zeroValue163
 t85:=underlying240
 a85:=Tryz.isAgg240
 z85:=Tryz.sizeOf240
 v85:=Tryz.zeroValue240
 t127:=underlying195
 a127:=Tryz.isAgg195
 z127:=Tryz.sizeOf195
 v127:=Tryz.zeroValue195
 t143:=underlying292
 a143:=Tryz.isAgg292
 z143:=Tryz.sizeOf292
 v143:=Tryz.zeroValue292
 t145:=underlying294
 a145:=Tryz.isAgg294
 z145:=Tryz.sizeOf294
 v145:=Tryz.zeroValue294
 t167:=underlying239
 a167:=Tryz.isAgg239
 z167:=Tryz.sizeOf239
 v167:=Tryz.zeroValue239
 t168:=underlying242
 a168:=Tryz.isAgg242
 z168:=Tryz.sizeOf242
 v168:=Tryz.zeroValue242
 t171:=underlying246
 a171:=Tryz.isAgg246
 z171:=Tryz.sizeOf246
 v171:=Tryz.zeroValue246
 t173:=underlying249
 a173:=Tryz.isAgg249
 z173:=Tryz.sizeOf249
 v173:=Tryz.zeroValue249
 t175:=underlying192
 a175:=Tryz.isAgg192
 z175:=Tryz.sizeOf192
 v175:=Tryz.zeroValue192
 t210:=underlying278
 a210:=Tryz.isAgg278
 z210:=Tryz.sizeOf278
 v210:=Tryz.zeroValue278
 t212:=underlying281
 a212:=Tryz.isAgg281
 z212:=Tryz.sizeOf281
 v212:=Tryz.zeroValue281
 t213:=underlying282
 a213:=Tryz.isAgg282
 z213:=Tryz.sizeOf282
 t232:=underlying305
 a232:=Tryz.isAgg305
 z232:=Tryz.sizeOf305
 v232:=Tryz.zeroValue305
 t233:=underlying306
 a233:=Tryz.isAgg306
 z233:=Tryz.sizeOf306
 v233:=Tryz.zeroValue306
 g15:=by kernel_rfl
 g16:=by kernel_rfl
 g17:=by kernel_rfl
 g18:=by kernel_rfl
 g19:=by kernel_rfl
 t80:=underlying165
 a80:=Tryz.isAgg165
 z80:=Tryz.sizeOf165
 v80:=Tryz.zeroValue165
 i0:=by kernel_rfl
 i2:=by kernel_rfl
 i3:=by kernel_rfl
 i4:=by kernel_rfl
 i5:=by kernel_rfl
 i9:=by kernel_rfl
 i20:=by kernel_rfl
 i21:=by kernel_rfl
 i37:=by kernel_rfl
 i46:=by kernel_rfl
 i51:=by kernel_rfl
 i53:=by kernel_rfl
 i75:=by kernel_rfl
 i76:=by kernel_rfl
 i80:=by kernel_rfl
 i85:=by kernel_rfl
 i127:=by kernel_rfl
 i143:=by kernel_rfl
 i145:=by kernel_rfl
 i167:=by kernel_rfl
 i168:=by kernel_rfl
 i171:=by kernel_rfl
 i173:=by kernel_rfl
 i175:=by kernel_rfl
 i210:=by kernel_rfl
 i212:=by kernel_rfl
 i232:=by kernel_rfl
 i233:=by kernel_rfl
 m15:=by kernel_rfl
 m16:=by kernel_rfl
 m17:=by kernel_rfl
 m18:=by kernel_rfl
 m19:=by kernel_rfl
 c0:=by kernel_rfl
 c2:=by kernel_rfl
 c3:=by kernel_rfl
 c4:=by kernel_rfl
 c5:=by kernel_rfl
 c9:=by kernel_rfl
 c20:=by kernel_rfl
 c21:=by kernel_rfl
 c37:=by kernel_rfl
 c46:=by kernel_rfl
 c51:=by kernel_rfl
 c53:=by kernel_rfl
 c75:=by kernel_rfl
 c76:=by kernel_rfl
 c80:=by kernel_rfl
 c85:=by kernel_rfl
 c127:=by kernel_rfl
 c143:=by kernel_rfl
 c145:=by kernel_rfl
 c167:=by kernel_rfl
 c168:=by kernel_rfl
 c171:=by kernel_rfl
 c173:=by kernel_rfl
 c175:=by kernel_rfl
 c210:=by kernel_rfl
 c212:=by kernel_rfl
 c213:=by kernel_rfl
 c232:=by kernel_rfl
 c233:=by kernel_rfl }
open Go.RowKit in
theorem zA (s:ByteArray) (hmax:s.size≤9223372036854775806) (v:Int) (h:Lib.atoiAll s.data.toList = .ok v) (w:World) :
 Calls Pg 125 #[.string s] w λ e w'=>e = .returned (.tuple #[.int .i64 v,.nilIface])∧(w'=w∨∃ t,w'=Lib.bytesWorld w 5 t):=Any.strconv_Atoi_ok Uq s hmax v h w
open Go.RowKit in
theorem Kw (s:ByteArray) (hlim:s.size≤281474976710656) (h:Lib.atoiAll s.data.toList=Go.Lib.NumEnd.syntax) (ev:Value) (w:World) (hv:w.cell? ⟨3,0,none⟩=some ev) (hev:ev = .nilIface∨∃ te pe,ev = .iface te pe) :
 Calls Pg 125 #[.string s] w λ e w'=>∃ N,e = .returned (.tuple #[.int .i64 (0),.iface 242 (.pointer (some ⟨N,0,none⟩))])∧w.heap.size≤N∧w'.heap[N]?=some (.cells #[.string ⟨#[65,116,111,105]⟩,.string s,ev] 278 (0,0))∧Below w.heap.size w w':=Any.strconv_Atoi_syntax Uq s hlim h ev w hv hev
open Go.RowKit in
theorem KQ (s:ByteArray) (hlim:s.size≤281474976710656) (h:Lib.atoiAll s.data.toList = .range) (ev:Value) (w:World) (hv:w.cell? ⟨4,0,none⟩=some ev) (hev:ev = .nilIface∨∃ te pe,ev = .iface te pe) :
 Calls Pg 125 #[.string s] w λ e w'=>∃ N,e = .returned (.tuple #[.int .i64 (Lib.atoiSat s.data.toList),.iface 242 (.pointer (some ⟨N,0,none⟩))])∧w.heap.size≤N∧w'.heap[N]?=some (.cells #[.string ⟨#[65,116,111,105]⟩,.string s,ev] 278 (0,0))∧Below w.heap.size w w':=Any.strconv_Atoi_range Uq s hlim h ev w hv hev
def BU:Go.Shelf.Ren:=⟨λ | 221=>85 | 268=>121 | 138=>122 | 143=>123 | 195=>148 | 197=>149 | 218=>150 | 219=>151 | 260=>178 | 217=>179 | 225=>180 | 224=>181 | 267=>182 | 266=>203 | 314=>204 | n=>n,λ | 9=>9 | 3=>3 | 31=>94 | 4=>4 | 0=>0 | 105=>215 | 21=>21 | 5=>5 | 46=>197 | 119=>269 | 139=>272 | 138=>271 | 146=>274 | 51=>273 | n=>n,λ | 1=>0 | 3=>1 | 4=>2 | n=>n⟩
theorem Mf:Go.Proofs.Lays.n221 Pg BU:={
 mixed:=by kernel_rfl
 f138:=func122.trans (congrArg some (by kernel_rfl))
 f143:=func123.trans (congrArg some (by kernel_rfl))
 f195:=func148.trans (congrArg some (by kernel_rfl))
 f197:=func149.trans (congrArg some (by kernel_rfl))
 f217:=func179.trans (congrArg some (by kernel_rfl))
 f218:=func150.trans (congrArg some (by kernel_rfl))
 f219:=func151.trans (congrArg some (by kernel_rfl))
 f221:=func85.trans (congrArg some (by kernel_rfl))
 f224:=func181.trans (congrArg some (by kernel_rfl))
 f225:=func180.trans (congrArg some (by kernel_rfl))
 f260:=func178.trans (congrArg some (by kernel_rfl))
 f266:=func203.trans (congrArg some (by kernel_rfl))
 f267:=func182.trans (congrArg some (by kernel_rfl))
 f268:=func121.trans (congrArg some (by kernel_rfl))
 f314:=func204.trans (congrArg some (by kernel_rfl))
 t0:=underlying0
 a0:=Tryz.isAgg0
 z0:=Tryz.sizeOf0
 v0:=Tryz.zeroValue0
 t3:=underlying3
 a3:=Tryz.isAgg3
 z3:=Tryz.sizeOf3
 v3:=Tryz.zeroValue3
 t4:=underlying4
 a4:=Tryz.isAgg4
 z4:=Tryz.sizeOf4
 v4:=Tryz.zeroValue4
 t5:=underlying5
 a5:=Tryz.isAgg5
 z5:=Tryz.sizeOf5
 v5:=Tryz.zeroValue5
 t9:=underlying9
 a9:=Tryz.isAgg9
 z9:=Tryz.sizeOf9
 v9:=Tryz.zeroValue9
 t21:=underlying21
 a21:=Tryz.isAgg21
 z21:=Tryz.sizeOf21
 v21:=Tryz.zeroValue21
 t31:=underlying94
 a31:=Tryz.isAgg94
 z31:=Tryz.sizeOf94
 v31:=Tryz.zeroValue94
 t46:=underlying197
 a46:=Tryz.isAgg197
 z46:=Tryz.sizeOf197
 v46:=Tryz.zeroValue197
 t51:=underlying273
 a51:=Tryz.isAgg273
 z51:=Tryz.sizeOf273
 v51:=Tryz.zeroValue273
 t105:=underlying215
 a105:=Tryz.isAgg215
 z105:=Tryz.sizeOf215
 v105:=Tryz.zeroValue215
 t119:=underlying269
 a119:=Tryz.isAgg269
 z119:=Tryz.sizeOf269
 t138:=underlying271
 a138:=Tryz.isAgg271
 z138:=Tryz.sizeOf271
 v138:=Tryz.zeroValue271
 t139:=underlying272
 a139:=Tryz.isAgg272
 z139:=Tryz.sizeOf272
 v139:=Tryz.zeroValue272
 t146:=underlying274
 a146:=Tryz.isAgg274
 z146:=Tryz.sizeOf274
 v146:=Tryz.zeroValue274
 g1:=by kernel_rfl
 g3:=by kernel_rfl
 g4:=by kernel_rfl }
open Go.RowKit Go.Lib in
theorem Gx (s sep:ByteArray) (sv:Nat) (n:Int) (N:Nat) (m:Int) (w:World) (hs:s.size < 4294967281) (hm:w.cell? ⟨0,0,none⟩=some (.int .i64 m)) (h1:1≤sep.size) (hsv:sv≤sep.size) (hn0:n≠0) (hn63:n≤9223372036854775807) (hN:(N:Int)=min (if n < 0 then (Lib.countB s sep:Int)+1 else n) ((s.size:Int)+1)) :
 Calls Pg 85 #[.string s,.string sep,.int .i64 sv,.int .i64 n] w λ e w'=>
  e = .returned (.slice (some ⟨w.heap.size,0,none⟩) (Lib.splitB sep sv (N - 1) s).length N)∧w'=w.alloc (.cells (Lib.cellsOf (Lib.splitB sep sv (N - 1) s) N) 9):=Any.strings_genSplit Mf (by kernel_rfl) s sep sv n N m w hs hm h1 hsv hn0 hn63 hN
def BS:Go.Shelf.Ren:=⟨λ | 146=>50 | 221=>85 | 268=>121 | 138=>122 | 143=>123 | 195=>148 | 197=>149 | 218=>150 | 219=>151 | 260=>178 | 217=>179 | 225=>180 | 224=>181 | 267=>182 | 266=>203 | 314=>204 | n=>n,λ | 9=>9 | 31=>94 | 3=>3 | 4=>4 | 0=>0 | 105=>215 | 21=>21 | 5=>5 | 46=>197 | 119=>269 | 139=>272 | 138=>271 | 146=>274 | 51=>273 | n=>n,λ | 1=>0 | 3=>1 | 4=>2 | n=>n⟩
theorem Md:Go.Proofs.Lays.n146 Pg BS:={
 mixed:=by kernel_rfl
 f138:=func122.trans (congrArg some (by kernel_rfl))
 f143:=func123.trans (congrArg some (by kernel_rfl))
 f146:=func50.trans (congrArg some (by kernel_rfl))
 f195:=func148.trans (congrArg some (by kernel_rfl))
 f197:=func149.trans (congrArg some (by kernel_rfl))
 f217:=func179.trans (congrArg some (by kernel_rfl))
 f218:=func150.trans (congrArg some (by kernel_rfl))
 f219:=func151.trans (congrArg some (by kernel_rfl))
 f221:=func85.trans (congrArg some (by kernel_rfl))
 f224:=func181.trans (congrArg some (by kernel_rfl))
 f225:=func180.trans (congrArg some (by kernel_rfl))
 f260:=func178.trans (congrArg some (by kernel_rfl))
 f266:=func203.trans (congrArg some (by kernel_rfl))
 f267:=func182.trans (congrArg some (by kernel_rfl))
 f268:=func121.trans (congrArg some (by kernel_rfl))
 f314:=func204.trans (congrArg some (by kernel_rfl))
 t0:=underlying0
 a0:=Tryz.isAgg0
 z0:=Tryz.sizeOf0
 v0:=Tryz.zeroValue0
 t3:=underlying3
 a3:=Tryz.isAgg3
 z3:=Tryz.sizeOf3
 v3:=Tryz.zeroValue3
 t4:=underlying4
 a4:=Tryz.isAgg4
 z4:=Tryz.sizeOf4
 v4:=Tryz.zeroValue4
 t5:=underlying5
 a5:=Tryz.isAgg5
 z5:=Tryz.sizeOf5
 v5:=Tryz.zeroValue5
 t9:=underlying9
 a9:=Tryz.isAgg9
 z9:=Tryz.sizeOf9
 v9:=Tryz.zeroValue9
 t21:=underlying21
 a21:=Tryz.isAgg21
 z21:=Tryz.sizeOf21
 v21:=Tryz.zeroValue21
 t31:=underlying94
 a31:=Tryz.isAgg94
 z31:=Tryz.sizeOf94
 v31:=Tryz.zeroValue94
 t46:=underlying197
 a46:=Tryz.isAgg197
 z46:=Tryz.sizeOf197
 v46:=Tryz.zeroValue197
 t51:=underlying273
 a51:=Tryz.isAgg273
 z51:=Tryz.sizeOf273
 v51:=Tryz.zeroValue273
 t105:=underlying215
 a105:=Tryz.isAgg215
 z105:=Tryz.sizeOf215
 v105:=Tryz.zeroValue215
 t119:=underlying269
 a119:=Tryz.isAgg269
 z119:=Tryz.sizeOf269
 t138:=underlying271
 a138:=Tryz.isAgg271
 z138:=Tryz.sizeOf271
 v138:=Tryz.zeroValue271
 t139:=underlying272
 a139:=Tryz.isAgg272
 z139:=Tryz.sizeOf272
 v139:=Tryz.zeroValue272
 t146:=underlying274
 a146:=Tryz.isAgg274
 z146:=Tryz.sizeOf274
 v146:=Tryz.zeroValue274
 g1:=by kernel_rfl
 g3:=by kernel_rfl
 g4:=by kernel_rfl }
open Go.RowKit Go.Lib in
theorem qj (s sep:ByteArray) (m:Int) (w:World) (hs:s.size < 4294967281) (hm:w.cell? ⟨0,0,none⟩=some (.int .i64 m)) (h1:1≤sep.size) :
 Calls Pg 50 #[.string s,.string sep] w λ e w'=>
  e = .returned (.slice (some ⟨w.heap.size,0,none⟩) (Lib.countB s sep+1) (Lib.countB s sep+1))∧w'=w.alloc (.cells ((Lib.splitB sep 0 (Lib.countB s sep) s).map Value.string).toArray 9):=Any.strings_Split Md (by kernel_rfl) s sep m w hs hm h1
def Eh (n:Int):BAr:=⟨(Go.Lib.itoa n).toArray⟩
def Ky (sep:BAr) (xs:List BAr):BAr:=⟨(Go.Lib.join (xs.map (·.data.toList)) sep.data.toList).toArray⟩
theorem Ge {a b:BAr} (h:a.data.toList=b.data.toList):a=b:=by
 cases a;cases b
 congr
 exact Array.toList_inj.1 h
theorem NV (sep:BAr):Ky sep []=ByteArray.empty:=rfl
theorem size_append (a b:BAr):(a++b).size=a.size+b.size:=by simp [ByteArray.size_append]
theorem MH {B:Nat}:∀ {xs:List (List UInt8)},(∀ x∈xs,x.length≤B)→Go.Lib.lens xs≤xs.length*B
 | [],_=>by simp [Go.Lib.lens]
 | a::l,h=>by
  have h1:=h a (List.mem_cons_self ..)
  have h2:=MH (xs:=l) λ x hx=>h x (List.mem_cons_of_mem _ hx)
  unfold Go.Lib.lens at *
  rw [List.map_cons,List.sum_cons,List.length_cons,Nat.add_mul]
  omega
theorem IS {sep:BAr} {B:Nat} {xs:List BAr} (h:∀ x∈xs,x.size≤B):(Ky sep xs).size≤xs.length*(B+sep.size):=by
 cases xs with
 | nil=>simp [NV]
 | cons a l=>
  have h1:(Ky sep (a::l)).size=(Go.Lib.join ((a::l).map (·.data.toList)) sep.data.toList).length:=by unfold Ky ByteArray.size;simp
  have h2:=MH (B:=B) (xs:=(a::l).map (·.data.toList)) λ x hx=>by
   obtain ⟨y,hy,rfl⟩:=List.mem_map.1 hx
   have:=h y hy
   unfold ByteArray.size at this
   simpa using this
  rw [List.map_cons] at h1 h2
  rw [h1,Go.Lib.join_length]
  rw [List.length_cons,List.length_map] at h2
  have h3:sep.data.toList.length=sep.size:=by unfold ByteArray.size;simp
  rw [h3,List.length_map,List.length_cons,Nat.mul_add,Nat.mul_comm sep.size,Nat.add_mul l.length 1 sep.size]
  omega
theorem xq {n:Int} (h0 : -9223372036854775808≤n) (h1:n≤9223372036854775807):(Eh n).size≤21:=by
 have:=Go.Lib.itoa_length_le n h0 h1
 unfold Eh ByteArray.size
 simpa using this
def UJ (w:Wd):Prop:=Go.Lib.TabIs Pg w "internal/strconv.uint64pow10" .u64 Go.Lib.pow10Tab
theorem Zfq:(Pg.globalNamed "internal/strconv.uint64pow10").isSome=true:=by kernel_rfl
theorem UJ.lt {w:Wd} (h:UJ w) {g:Nat} (hg:Pg.globalNamed "internal/strconv.uint64pow10" = some g):g < w.heap.size:=by
 unfold UJ Go.Lib.TabIs World.var? at h
 rw [hg] at h
 simp only [Option.bind_some] at h
 rcases Nat.lt_or_ge g w.heap.size with h' | h'
 · exact h'
 · rw [Array.getElem?_eq_none h'] at h;cases h
theorem UJ.same {w w':Wd} (h:UJ w) (hb:∀ g,Pg.globalNamed "internal/strconv.uint64pow10" = some g→w'.heap[g]?=w.heap[g]?):UJ w':=by
 obtain ⟨g,hg⟩:=Option.isSome_iff_exists.1 Zfq
 have:=hb g hg
 unfold UJ Go.Lib.TabIs World.var? at h ⊢
 rw [hg] at h ⊢
 simp only [Option.bind_some] at h ⊢
 rw [this]
 exact h
theorem UJ.ext {w w':Wd} (h:UJ w) (e:Ext w w'):UJ w':=h.same λ g hg=>e.block g (h.lt hg)
theorem Pu (w:Wd) (k:Nat) (os:Array Obj):Ext w (Sort.grow (w.drewN k) os):=⟨rfl,rfl,rfl,by show w.heap.size≤(w.heap++os).size;simp,λ i hi=>by show (w.heap++os)[i]?=_;rw [Array.getElem?_append_left hi]⟩
theorem KX {w:Wd} (hT:UJ w) (n:Int) (h0 : -9223372036854775808≤n) (h1:n≤9223372036854775807):Ret Pg 101 #[.int .i64 n] w λ r w'=>r = .string (Eh n)∧Ext w w':=by
 refine Calls.mono (jx n h0 h1 w hT) ?_
 rintro e w' ⟨rfl,k,os,rfl⟩
 exact ⟨_,rfl,rfl,Pu w k os⟩
theorem jR {w:Wd} {base:Nat} {v:Vl} {l:List BAr} (h:UH w base v l) (sep:BAr) (hl:0 < l.length) (hn:l.length≤100000) (hz:(Ky sep l).size≤1000000000):Ret Pg 59 #[v,.string sep] w λ r w'=>r = .string (Ky sep l)∧Ext w w':=by
 obtain ⟨g,cap,rfl,_,hg,_,_,hE⟩:=h.row (λ _=>rfl) hl
 obtain ⟨A,c,hv,hlc,_⟩:=Zc.open (h.slice (E:=zH) (λ _=>rfl) (λ _ _=>rfl))
 injection hv with _ _ hv
 subst hv
 have hzz:(Go.Lib.join (l.map (·.data.toList)) sep.data.toList).length≤140737488355328:=by
  unfold Ky ByteArray.size at hz
  simp only [List.size_toArray] at hz
  omega
 refine Calls.mono (jy g 0 cap l sep w (λ j x hx=>?_) hg (by omega) hlc hzz) ?_
 · have:=hE j x hx 0 _ rfl
   rw [Nat.zero_add]
   simpa using this
 · rintro e w' ⟨rfl,hb⟩
   exact ⟨_,rfl,rfl,Ext.of_below hb⟩
structure UD (w:Wd):Prop where
 tab:UJ w
 len:∃ m,w.cell? ⟨0,0,none⟩=some (.int .i64 m)
 syn:∃ ev,w.cell? ⟨3,0,none⟩=some ev∧(ev = .nilIface∨∃ te pe,ev = .iface te pe)
 rng:∃ ev,w.cell? ⟨4,0,none⟩=some ev∧(ev = .nilIface∨∃ te pe,ev = .iface te pe)
theorem UD.ext {w w':Wd} (h:UD w) (e:Ext w w'):UD w':=⟨h.tab.ext e,h.len.imp λ _ h=>e.cell h,h.syn.imp λ _ h=>⟨e.cell h.1,h.2⟩,h.rng.imp λ _ h=>⟨e.cell h.1,h.2⟩⟩
theorem Zbo {w:Wd} {b n c:Nat} {l:List BAr} (hn:n=l.length) (h1:l.length≤c) (h2:c≤9223372036854775807) (hc:∀ k x,l[k]?=some x→w.cell? ⟨b,k,none⟩=some (.string x)):Zc w 1 zH (.slice (some ⟨b,0,none⟩) n c) l:=by
 subst hn
 refine ⟨_,_,rfl,h1,h2,λ _=>⟨_,_,rfl,λ k x hx=>⟨[.string x],rfl,λ j v hv=>?_,rfl⟩⟩⟩
 cases j with
 | zero=>injection hv with hv;subst hv;simpa using hc k x hx
 | succ j=>cases hv
theorem Nn {w:Wd} (hE:UD w) (s:BAr) (c:UInt8) (hs:s.size≤100000):Ret Pg 50 #[.string s,.string ⟨#[c]⟩] w λ r w'=>Ext w w'∧∃ n,r = .slice (some ⟨w.heap.size,0,none⟩) n n∧Zc w' 1 zH r (Go.Lib.splitB ⟨#[c]⟩ 0 (Go.Lib.countB s ⟨#[c]⟩) s):=by
 obtain ⟨m,hm⟩:=hE.len
 have hl:=Go.Lib.splitB_all ⟨#[c]⟩ (Nat.le_refl _) 0 _ s rfl
 have hle:=Go.Lib.countB_le ⟨#[c]⟩ (Nat.le_refl _) s.size s (Nat.le_refl _)
 refine Calls.mono (qj s ⟨#[c]⟩ m w (by omega) hm (Nat.le_refl _)) ?_
 rintro e w' ⟨rfl,rfl⟩
 refine ⟨_,rfl,(Ext.refl w).alloc _,_,rfl,?_⟩
 refine Zbo hl.symm (by omega) (by omega) λ k x hx=>?_
 generalize Go.Lib.splitB ⟨#[c]⟩ 0 (Go.Lib.countB s ⟨#[c]⟩) s=L at hx ⊢
 rw [QF,List.getElem?_toArray,List.getElem?_map,hx]
 rfl
def WK (c:UInt8):Bool:=decide (48≤c.toNat)&&decide (c.toNat≤57)
def BY (n:Nat) (c:UInt8):Nat:=n*10+(c.toNat - 48)
def OM (l:List UInt8):Nat:=l.foldl BY 0
theorem ON (l:List UInt8) (c:UInt8):OM (l++[c])=OM l*10+(c.toNat - 48):=by simp [OM,BY]
theorem VJ {c:UInt8}:WK c=true↔48≤c.toNat∧c.toNat≤57:=by simp [WK]
theorem O1 {l:List UInt8} {c:UInt8}:(l++[c]).all WK=true↔l.all WK=true∧WK c=true:=by simp
theorem NQ {l:List UInt8} (h:l≠[]) (c:UInt8):(l++[c]).head?=l.head?:=by
 cases l with
 | nil=>exact absurd rfl h
 | cons a l=>rfl
theorem UR {u:Nat} (h:u < 10):(UInt8.ofNat (48+u)).toNat=48+u:=by
 rw [UInt8.toNat_ofNat']
 exact Nat.mod_eq_of_lt (by omega)
theorem Ah (u:Nat):Go.Lib.decDigits u≠[]∧(Go.Lib.decDigits u).all WK=true∧OM (Go.Lib.decDigits u)=u∧((Go.Lib.decDigits u).head?=some 48→u=0):=by
 induction u using Nat.strongRecOn with
 | ind u ih=>
  by_cases h:u < 10
  · rw [Go.Lib.decDigits_one h]
    refine ⟨by simp,?_,?_,λ e=>?_⟩
    · rw [List.all_cons,List.all_nil,Bool.and_true,VJ,UR h];omega
    · show 0*10+((UInt8.ofNat (48+u)).toNat - 48)=u
      rw [UR h];omega
    · injection e with e
      have:=UR h
      rw [e] at this
      have h48:(48:UInt8).toNat=48:=rfl
      omega
  · obtain ⟨a1,a2,a3,a4⟩:=ih (u / 10) (by omega)
    rw [Go.Lib.decDigits,dif_neg h]
    have hm:u % 10 < 10:=Nat.mod_lt _ (by omega)
    refine ⟨by simp,O1.2 ⟨a2,?_⟩,?_,λ e=>?_⟩
    · rw [VJ,UR hm];omega
    · rw [ON,a3,UR hm];omega
    · rw [NQ a1] at e
      have:=a4 e
      omega
theorem OF (l:List UInt8):(ByteArray.mk l.toArray).data.toList=l:=rfl
theorem AA {n:Int} (h:n < 0):Go.Lib.itoa n=45::Go.Lib.decDigits n.natAbs:=by unfold Go.Lib.itoa;rw [if_pos h]
theorem AB {n:Int} (h:¬ n < 0):Go.Lib.itoa n=Go.Lib.decDigits n.toNat:=by unfold Go.Lib.itoa;rw [if_neg h]
def Yi (c:UInt8):List UInt8→List (List UInt8)
 | []=>[[]]
 | b::l=>if b=c then []::Yi c l else match Yi c l with
  | []=>[[b]]
  | x::r=>(b::x)::r
theorem WV (c:UInt8):∀ l,Yi c l≠[]
 | []=>by simp [Yi]
 | b::l=>by
  unfold Yi
  split
  · simp
  · cases Yi c l<;>simp
theorem WI (c:UInt8) (l:List UInt8):Yi c (c::l)=[]::Yi c l:=by rw [Yi,if_pos rfl]
theorem X2 {c b:UInt8} (h:b≠c) {l x:List UInt8} {r:List (List UInt8)} (hl:Yi c l=x::r):Yi c (b::l)=(b::x)::r:=by rw [Yi,if_neg h,hl]
theorem UO {c:UInt8}:∀ {x:List UInt8},c ∉ x→Yi c x=[x]
 | [],_=>rfl
 | b::l,h=>by
  have h1:b≠c:=λ e=>h (by rw [e];exact List.mem_cons_self ..)
  exact X2 h1 (UO λ e=>h (List.mem_cons_of_mem _ e))
theorem UP {c:UInt8}:∀ {x:List UInt8} (l:List UInt8),c ∉ x→Yi c (x++c::l)=x::Yi c l
 | [],l,_=>WI c l
 | b::x,l,h=>by
  have h1:b≠c:=λ e=>h (by rw [e];exact List.mem_cons_self ..)
  exact X2 h1 (UP (x:=x) l λ e=>h (List.mem_cons_of_mem _ e))
theorem Hi {b c:UInt8} (l:List UInt8) (h:b≠c):Go.Lib.index (b::l) [c]=if Go.Lib.index l [c] == -1 then -1 else Go.Lib.index l [c]+1:=by
 have hp:([c]:List UInt8).isPrefixOf (b::l)=false:=by simp [List.isPrefixOf,Ne.symm h]
 rw [Go.Lib.index,hp];simp
theorem Hh (c:UInt8) (l:List UInt8):Go.Lib.index (c::l) [c]=0:=by
 rw [Go.Lib.index];simp [List.isPrefixOf]
theorem BX (c:UInt8):∀ s:List UInt8,Go.Lib.splitK [c] 0 (Go.Lib.count s [c]) s=Yi c s
 | []=>by rw [Go.Lib.count_one];rfl
 | b::l=>by
  have ih:=BX c l
  by_cases h:b=c
  · subst h
    rw [Go.Lib.count_cons_eq,Nat.add_comm,Go.Lib.splitK,Hh,if_neg (by decide),WI,← ih]
    rfl
  · rw [Go.Lib.count_cons_ne b c l h]
    cases hk:Go.Lib.count l [c] with
    | zero=>
     rw [hk] at ih
     exact (X2 h ih.symm).symm
    | succ k=>
     rw [hk] at ih
     have hge:=Go.Lib.index_ge l [c]
     have hm:Go.Lib.index l [c] ≠ -1:=λ e=>by rw [Go.Lib.count_miss e] at hk;cases hk
     obtain ⟨i,hi⟩:∃ i:Nat,Go.Lib.index l [c]=i:=⟨(Go.Lib.index l [c]).toNat,by omega⟩
     have n1:¬ (((i:Int) == -1)=true):=λ e=>by have:=beq_iff_eq.1 e;omega
     have n2:¬ ((((i:Int)+1) == -1)=true):=λ e=>by have:=beq_iff_eq.1 e;omega
     have t2:((i:Int)+1).toNat=i+1:=by omega
     rw [Go.Lib.splitK,hi,if_neg n1] at ih
     rw [Go.Lib.splitK,Hi l h,hi,if_neg n1,if_neg n2,t2]
     refine Eq.trans ?_ (X2 h ih.symm).symm
     simp only [Int.toNat_natCast,List.length_singleton,Nat.add_zero,List.take_succ_cons]
     rfl
def mkB (l:List UInt8):BAr:=⟨l.toArray⟩
theorem AM (s:BAr):mkB s.data.toList=s:=rfl
def ZdO (c:UInt8) (s:BAr):List BAr:=(Yi c s.data.toList).map mkB
theorem OB (c:UInt8) (s:BAr):Go.Lib.splitB ⟨#[c]⟩ 0 (Go.Lib.countB s ⟨#[c]⟩) s=ZdO c s:=by
 have h:=Go.Lib.splitB_data ⟨#[c]⟩ 0 (Go.Lib.countB s ⟨#[c]⟩) s
 have hs:Go.Lib.splitK [c] 0 (Go.Lib.countB s ⟨#[c]⟩) s.data.toList=Yi c s.data.toList:=BX c s.data.toList
 have h:(Go.Lib.splitB ⟨#[c]⟩ 0 (Go.Lib.countB s ⟨#[c]⟩) s).map (·.data.toList)=Yi c s.data.toList:=h.trans hs
 unfold ZdO
 rw [← h,List.map_map]
 have:(mkB ∘ λ x:BAr=>x.data.toList)=id:=by funext x;rfl
 rw [this,List.map_id]
theorem Qs (c:UInt8) (x y:List UInt8) (r:List (List UInt8)):Go.Lib.join (x::y::r) [c]=x++c::Go.Lib.join (y::r) [c]:=by
 rw [Go.Lib.join_cons,Go.Lib.join_cons]
 unfold Go.Lib.joinTail
 simp
theorem xp (c:UInt8):∀ {xs:List (List UInt8)},xs≠[]→(∀ x∈xs,c ∉ x)→Yi c (Go.Lib.join xs [c])=xs
 | [],h,_=>absurd rfl h
 | [x],_,h=>by rw [Go.Lib.join_one];exact UO (h x (List.mem_cons_self ..))
 | x::y::r,_,h=>by
  rw [Qs,UP _ (h x (List.mem_cons_self ..)),xp c (by simp) λ z hz=>h z (List.mem_cons_of_mem _ hz)]
theorem Gi (c:UInt8):∀ l:List UInt8,Go.Lib.join (Yi c l) [c]=l
 | []=>rfl
 | b::l=>by
  have ih:=Gi c l
  by_cases h:b=c
  · subst h
    rw [WI]
    obtain ⟨x,r,hx⟩:∃ x r,Yi b l=x::r:=by
     cases hc:Yi b l with
     | nil=>exact absurd hc (WV b l)
     | cons x r=>exact ⟨x,r,rfl⟩
    rw [hx] at ih ⊢
    rw [Qs,ih]
    rfl
  · obtain ⟨x,r,hx⟩:∃ x r,Yi c l=x::r:=by
     cases hc:Yi c l with
     | nil=>exact absurd hc (WV c l)
     | cons x r=>exact ⟨x,r,rfl⟩
    rw [X2 h hx]
    rw [hx,Go.Lib.join_cons] at ih
    rw [Go.Lib.join_cons,List.cons_append,ih]
theorem FY:∀ (l:List UInt8) (a:Nat),a≤l.foldl BY a
 | [],a=>Nat.le_refl _
 | c::l,a=>by
  have:=FY l (BY a c)
  rw [List.foldl_cons]
  unfold BY at this ⊢
  omega
def ZdF (o:Go.Lib.NumEnd Nat) (n:Nat):Prop:=(o = .ok n)∨(o = .range∧18446744073709551616≤n)
theorem qe:∀ (l:List UInt8) (a:Nat),l.all WK=true→ZdF (Go.Lib.parseUint10 a l) (l.foldl BY a)
 | [],a,_ => .inl rfl
 | c::r,a,h=>by
  rw [List.all_cons,Bool.and_eq_true] at h
  have h2:=VJ.1 h.1
  have hle:=FY r (a*10+(c.toNat - 48))
  simp only [Go.Lib.parseUint10]
  rw [if_pos h2,List.foldl_cons,show BY a c=a*10+(c.toNat - 48) from rfl]
  by_cases h3:1844674407370955162≤a
  · rw [if_pos h3]
    exact .inr ⟨rfl,by omega⟩
  · rw [if_neg h3]
    by_cases h4:18446744073709551616≤a*10+(c.toNat - 48)
    · rw [if_pos h4]
      exact .inr ⟨rfl,by omega⟩
    · rw [if_neg h4]
      exact qe r _ h.2
def Ub (n:Nat):UInt8:=UInt8.ofNat (if n < 10 then 48+n else 87+n)
def xu (l:List UInt8):List UInt8:=l.flatMap λ c=>[Ub (c.toNat / 16),Ub (c.toNat % 16)]
def PD (c:UInt8):Bool:=(decide (48≤c.toNat)&&decide (c.toNat≤57))||(decide (97≤c.toNat)&&decide (c.toNat≤102))
theorem Ay (l:List UInt8):(xu l).length=2*l.length:=by
 induction l with
 | nil=>rfl
 | cons a l ih=>
  show (xu (a::l)).length=_
  unfold xu at ih ⊢
  rw [List.flatMap_cons,List.length_append,ih,List.length_cons,List.length_cons,List.length_cons,List.length_nil]
  omega
theorem Np {n:Int} (h0 : -9223372036854775808≤n) (h1:n≤9223372036854775807):Go.Lib.atoiAll (Go.Lib.itoa n) = .ok n:=by
 by_cases hn:n < 0
 · obtain ⟨a1,a2,a3,_⟩:=Ah n.natAbs
   have hp:=qe (Go.Lib.decDigits n.natAbs) 0 a2
   change ZdF _ (OM (Go.Lib.decDigits n.natAbs)) at hp
   rw [a3] at hp
   rw [AA hn,Go.Lib.atoiAll_minus]
   rcases hp with hp | ⟨_,hb⟩
   · unfold Go.Lib.parseMag Go.Lib.signed
     rw [if_neg a1,hp]
     simp only
     rw [if_neg (by omega)]
     congr 1
     omega
   · omega
 · obtain ⟨a1,a2,a3,_⟩:=Ah n.toNat
   have hp:=qe (Go.Lib.decDigits n.toNat) 0 a2
   change ZdF _ (OM (Go.Lib.decDigits n.toNat)) at hp
   rw [a3] at hp
   rw [AB hn]
   cases hd:Go.Lib.decDigits n.toNat with
   | nil=>exact absurd hd a1
   | cons c r=>
    rw [hd] at hp a2
    have hc:=List.all_eq_true.1 a2 c (List.mem_cons_self ..)
    rw [VJ] at hc
    rw [Go.Lib.atoiAll_plain c r (by omega) (by omega)]
    rcases hp with hp | ⟨_,hb⟩
    · unfold Go.Lib.parseMag Go.Lib.signless
      rw [if_neg (by simp),hp]
      simp only
      rw [if_neg (by omega)]
      congr 1
      omega
    · omega
def ZdS:BAr:=⟨#[101,110,100]⟩
def kwW (k:Int):List UInt8:=if k=1 then [99,111,112,121] else if k=2 then [97,100,100] else if k=3 then [118,97,108,117,101] else if k=4 then [98,121,116,101,115] else if k=6 then [110,101,115,116,101,100] else if k=7 then [102,105,116] else [116,97,98,108,101]
def Qh (l:List UInt8):List UInt8:=if l=[] then [45] else xu l
def V4 (x:Qx):List UInt8:=Go.Lib.itoa x.low++45::(Go.Lib.itoa x.high++58::Go.Lib.itoa x.to)
def Vd (r:FrD):List (List UInt8):=if r.kind=1 then [r.fr.data.toList] else if r.kind=2 then [r.fr.data.toList,Go.Lib.itoa r.add] else if r.kind=3 then [Go.Lib.itoa r.value] else if r.kind=4 then [Qh r.bytes] else if r.kind=6 then [r.fr.data.toList] else if r.kind=7 then [] else r.fr.data.toList::r.table.map V4
def YV (r:FrD):List (List UInt8):=r.to.data.toList::kwW r.kind::Vd r
def YY (r:FrD):List UInt8:=Go.Lib.join (YV r) [32]
def Yu (r:FrD):Bool:=match XR r.kind with
 | none=>false
 | some u=>Ws r u&&(Z4 r.to&&(decide (r.to≠ZdS)&&(!u.fr||Z4 r.fr)))
theorem Zbt {s:BAr} (h:Z4 s=true):∀ c∈s.data.toList,Cc c=true:=by
 unfold Z4 at h
 simp only [Bool.and_eq_true] at h
 exact λ c hc=>List.all_eq_true.1 h.2 c hc
theorem Wj {s:BAr} (h:Z4 s=true) {c:UInt8} (hc:Cc c=false):c ∉ s.data.toList:=λ hm=>by
 have:=Zbt h c hm
 rw [hc] at this
 cases this
theorem FN (n:Nat) {c:UInt8} (hc:WK c=false):c ∉ Go.Lib.decDigits n:=λ hm=>by
 have:=List.all_eq_true.1 (Ah n).2.1 c hm
 rw [hc] at this
 cases this
theorem UU (n:Int) {c:UInt8} (hc:WK c=false) (h45:c≠45):c ∉ Go.Lib.itoa n:=by
 by_cases hn:n < 0
 · rw [AA hn]
   intro hm
   rcases List.mem_cons.1 hm with h | h
   · exact h45 h
   · exact FN _ hc h
 · rw [AB hn]
   exact FN _ hc
theorem Hd (n:Nat) (h:n < 16):PD (Ub n)=true:=by
 have:∀ n:Fin 16,PD (Ub n.1)=true:=by decide
 exact this ⟨n,h⟩
theorem He:∀ l:List UInt8,(xu l).all PD=true
 | []=>rfl
 | a::l=>by
  have ih:=He l
  unfold xu at ih ⊢
  rw [List.flatMap_cons,List.all_append,ih,Bool.and_true]
  have h1:a.toNat < 256:=a.toNat_lt
  rw [List.all_cons,List.all_cons,List.all_nil,Bool.and_true,Hd _ (by omega),Hd _ (by omega)]
  rfl
theorem FQ (l:List UInt8) {c:UInt8} (hc:PD c=false) (h45:c≠45):c ∉ Qh l:=by
 unfold Qh
 split
 · intro h
   exact h45 (List.mem_singleton.1 h)
 · intro hm
   have:=List.all_eq_true.1 (He l) c hm
   rw [hc] at this
   cases this
theorem Tq (x:Qx) {c:UInt8} (hc:WK c=false) (h45:c≠45) (h58:c≠58):c ∉ V4 x:=by
 unfold V4
 intro h
 rcases List.mem_append.1 h with h | h
 · exact UU _ hc h45 h
 rcases List.mem_cons.1 h with h | h
 · exact h45 h
 rcases List.mem_append.1 h with h | h
 · exact UU _ hc h45 h
 rcases List.mem_cons.1 h with h | h
 · exact h58 h
 · exact UU _ hc h45 h
theorem MG (k:Int):(32:UInt8) ∉ kwW k∧(10:UInt8) ∉ kwW k:=by
 unfold kwW
 repeat' split
 all_goals decide
theorem Cd {r:FrD} (h:Yu r=true) {c:UInt8} (h1:Cc c=false) (h2:WK c=false) (h3:PD c=false) (h45:c≠45) (h58:c≠58) (hk:c ∉ kwW r.kind):∀ x∈YV r,c ∉ x:=by
 unfold Yu at h
 cases hu:XR r.kind with
 | none=>rw [hu] at h;cases h
 | some u=>
  rw [hu] at h
  simp only [Bool.and_eq_true,decide_eq_true_eq,Bool.or_eq_true,Bool.not_eq_true'] at h
  obtain ⟨_,hto,_,hfr⟩:=h
  have hf:u.fr=true→c ∉ r.fr.data.toList:=λ hu=>by
   rcases hfr with hfr | hfr
   · rw [hu] at hfr;cases hfr
   · exact Wj hfr h1
  intro x hx
  unfold YV at hx
  rcases List.mem_cons.1 hx with rfl | hx
  · exact Wj hto h1
  rcases List.mem_cons.1 hx with rfl | hx
  · exact hk
  unfold Vd at hx
  unfold XR at hu
  split at hx
  · rename_i k1
    rw [if_pos k1] at hu
    injection hu with hu
    rw [List.mem_singleton.1 hx]
    exact hf (by rw [← hu])
  rename_i k1
  rw [if_neg k1] at hu
  split at hx
  · rename_i k2
    rw [if_pos k2] at hu
    injection hu with hu
    rcases List.mem_cons.1 hx with rfl | hx
    · exact hf (by rw [← hu])
    · rw [List.mem_singleton.1 hx];exact UU _ h2 h45
  rename_i k2
  rw [if_neg k2] at hu
  split at hx
  · rw [List.mem_singleton.1 hx];exact UU _ h2 h45
  rename_i k3
  rw [if_neg k3] at hu
  split at hx
  · rw [List.mem_singleton.1 hx];exact FQ _ h3 h45
  rename_i k4
  rw [if_neg k4] at hu
  have h5:r.kind=5∨r.kind=6→u.fr=true:=λ h=>by
   rcases h with h | h
   · rw [if_pos h] at hu
     injection hu with hu
     rw [← hu]
   · rw [if_neg (by omega),if_pos h] at hu
     injection hu with hu
     rw [← hu]
  split at hx
  · rename_i k6
    rw [List.mem_singleton.1 hx]
    exact hf (h5 (.inr k6))
  rename_i k6
  split at hx
  · cases hx
  rename_i k7
  have k5:r.kind=5:=by
   by_cases h:r.kind=5
   · exact h
   · rw [if_neg h,if_neg k6,if_neg k7] at hu
     cases hu
  rcases List.mem_cons.1 hx with rfl | hx
  · exact hf (h5 (.inl k5))
  · obtain ⟨y,_,rfl⟩:=List.mem_map.1 hx
    exact Tq y h2 h45 h58
theorem TW {r:FrD} (h:Yu r=true):∀ x∈YV r,(32:UInt8) ∉ x:=Cd h (by decide) (by decide) (by decide) (by decide) (by decide) (MG _).1
theorem TV {r:FrD} (h:Yu r=true):∀ x∈YV r,(10:UInt8) ∉ x:=Cd h (by decide) (by decide) (by decide) (by decide) (by decide) (MG _).2
theorem z7 {r:FrD} (h:Yu r=true):Yi 32 (YY r)=YV r:=xp 32 (by unfold YV;simp) (TW h)
def Qm (n:Int):Bool:=decide (-9223372036854775808≤n)&&decide (n≤9223372036854775807)
def Vo (x:Qx):Bool:=Qm x.low&&(Qm x.high&&Qm x.to)
def inF (r:FrD):Bool:=Qm r.add&&(Qm r.value&&r.table.all Vo)
def okF (r:FrD):Bool:=Yu r&&inF r
def Yc (s:List UInt8):List UInt8:=match s with
 | 45::r=>45::r.takeWhile WK
 | s=>s.takeWhile WK
def jW (l:List UInt8):Prop:=l=[]∨∃ c r,l=c::r∧WK c=false
theorem Ih {d rest:List UInt8} (h:d.all WK=true) (hr:jW rest):(d++rest).takeWhile WK=d:=by
 induction d with
 | nil=>
  rcases hr with rfl | ⟨c,r,rfl,hc⟩
  · rfl
  · rw [List.nil_append,List.takeWhile_cons,hc]
    rfl
 | cons a d ih=>
  rw [List.all_cons,Bool.and_eq_true] at h
  rw [List.cons_append,List.takeWhile_cons,h.1,if_pos rfl,ih h.2]
theorem U4 (n:Int) {rest:List UInt8} (hr:jW rest):Yc (Go.Lib.itoa n++rest)=Go.Lib.itoa n:=by
 by_cases hn:n < 0
 · rw [AA hn]
   show 45::(Go.Lib.decDigits n.natAbs++rest).takeWhile WK=_
   rw [Ih (Ah _).2.1 hr]
 · rw [AB hn]
   obtain ⟨a1,a2,_⟩:=Ah n.toNat
   cases hd:Go.Lib.decDigits n.toNat with
   | nil=>exact absurd hd a1
   | cons c r=>
    rw [hd] at a2
    have hc:=List.all_eq_true.1 a2 c (List.mem_cons_self ..)
    rw [VJ] at hc
    have YN:c≠45:=λ e=>by rw [e] at hc;exact absurd hc.1 (by decide)
    have:Yc (c::r++rest)=(c::r++rest).takeWhile WK:=by
     unfold Yc
     split
     · rename_i heq
       injection heq with h1 _
       exact absurd h1 YN
     · rfl
    rw [this,Ih a2 hr]
def UL (l:List UInt8):Option Int:=match Go.Lib.atoiAll l with
 | .ok n=>some n
 | _=>none
theorem VE {n:Int} (h:Qm n=true):UL (Go.Lib.itoa n)=some n:=by
 unfold Qm at h
 simp only [Bool.and_eq_true,decide_eq_true_eq] at h
 unfold UL
 rw [Np h.1 h.2]
def Cq (s:List UInt8):Option (Int×List UInt8):=(UL (Yc s)).map λ n=>(n,s.drop (Yc s).length)
theorem Gf {n:Int} (h:Qm n=true) {rest:List UInt8} (hr:jW rest):Cq (Go.Lib.itoa n++rest)=some (n,rest):=by
 unfold Cq
 rw [U4 n hr,VE h,Option.map_some,List.drop_left]
def Zey (s:List UInt8):Option Qx:=match Cq s with
 | some (low,45::s2)=>match Cq s2 with
  | some (high,58::s3)=>match Cq s3 with
   | some (to,[])=>some ⟨low,high,to⟩
   | _=>none
  | _=>none
 | _=>none
theorem Zbd {x:Qx} (h:Vo x=true):Zey (V4 x)=some x:=by
 unfold Vo at h
 simp only [Bool.and_eq_true] at h
 unfold Zey V4
 rw [Gf h.1 (.inr ⟨45,_,rfl,by decide⟩)]
 simp only
 rw [Gf h.2.1 (.inr ⟨58,_,rfl,by decide⟩)]
 simp only
 have:=Gf h.2.2 (rest:=[]) (.inl rfl)
 rw [List.append_nil] at this
 rw [this]
def VL (c:UInt8):Option Nat:=if 48≤c.toNat∧c.toNat≤57 then some (c.toNat - 48) else if 97≤c.toNat∧c.toNat≤102 then some (c.toNat - 87) else if 65≤c.toNat∧c.toNat≤70 then some (c.toNat - 55) else none
def XN:List UInt8→Option (List UInt8)
 | []=>some []
 | [a]=>(VL a).map λ x=>[UInt8.ofNat x]
 | a::b::l=>match VL a,VL b,XN l with
  | some x,some y,some r=>some (UInt8.ofNat (16*x+y)::r)
  | _,_,_=>none
def QN (s:List UInt8):List UInt8:=(XN s).getD []
theorem Da {n:Nat} (h:n < 16):VL (Ub n)=some n:=by
 have:∀ n:Fin 16,VL (Ub n.1)=some n.1:=by decide
 exact this ⟨n,h⟩
theorem B7:∀ l:List UInt8,XN (xu l)=some l
 | []=>rfl
 | a::l=>by
  have h1:a.toNat < 256:=a.toNat_lt
  show XN (Ub (a.toNat / 16)::Ub (a.toNat % 16)::xu l)=_
  rw [XN,Da (by omega),Da (by omega),B7 l]
  simp only
  rw [show 16*(a.toNat / 16)+a.toNat % 16=a.toNat by omega,UInt8.ofNat_toNat]
theorem GQ (l:List UInt8):QN (Qh l)=l:=by
 unfold QN Qh
 by_cases h:l=[]
 · rw [if_pos h,h]
   rfl
 · rw [if_neg h,B7]
   rfl
def HY:List (List UInt8)→Option (List Qx)
 | []=>some []
 | w::l=>match Zey w,HY l with
  | some x,some r=>some (x::r)
  | _,_=>none
theorem HZ:∀ {l:List Qx},l.all Vo=true→HY (l.map V4)=some l
 | [],_=>rfl
 | x::l,h=>by
  rw [List.all_cons,Bool.and_eq_true] at h
  rw [List.map_cons,HY,Zbd h.1,HZ h.2]
def Zif:List (List UInt8)→Option FrD
 | t::k::rest=>
  let a:=rest[0]?.getD []
  if k=kwW 1 then some ⟨mkB t,1,mkB a,0,0,[],[]⟩
  else if k=kwW 2 then (Cq (rest[1]?.getD [])).map λ q=>⟨mkB t,2,mkB a,q.1,0,[],[]⟩
  else if k=kwW 3 then (Cq a).map λ q=>⟨mkB t,3,⟨#[]⟩,0,q.1,[],[]⟩
  else if k=kwW 4 then some ⟨mkB t,4,⟨#[]⟩,0,0,QN a,[]⟩
  else if k=kwW 5 then (HY rest.tail).map λ l=>⟨mkB t,5,mkB a,0,0,[],l⟩
  else if k=kwW 6 then some ⟨mkB t,6,mkB a,0,0,[],[]⟩
  else if k=kwW 7 then some ⟨mkB t,7,⟨#[]⟩,0,0,[],[]⟩
  else none
 | _=>none
theorem Af {r:FrD} {u:Ck} (h:Ws r u=true):(u.fr=false→r.fr=⟨#[]⟩)∧(u.add=false→r.add=0)∧(u.value=false→r.value=0)∧(u.bytes=false→r.bytes=[])∧(u.table=false→r.table=[]):=by
 unfold Ws at h
 simp only [Bool.and_eq_true,Bool.or_eq_true,decide_eq_true_eq,List.length_eq_zero_iff] at h
 obtain ⟨h1,h2,h3,h4,h5⟩:=h
 exact ⟨λ e=>h1.resolve_left (by rw [e];decide),λ e=>h2.resolve_left (by rw [e];decide),λ e=>h3.resolve_left (by rw [e];decide),λ e=>h4.resolve_left (by rw [e];decide),λ e=>h5.resolve_left (by rw [e];decide)⟩
theorem HX {r:FrD} (h:okF r=true):Zif (YV r)=some r:=by
 unfold okF at h
 rw [Bool.and_eq_true] at h
 obtain ⟨h,hi⟩:=h
 unfold inF at hi
 simp only [Bool.and_eq_true] at hi
 obtain ⟨i1,i2,i3⟩:=hi
 obtain ⟨to,kind,fr,add,value,bytes,table⟩:=r
 unfold Yu at h
 simp only at i1 i2 i3 h
 have hint:∀ n,Qm n=true→Cq (Go.Lib.itoa n)=some (n,[]):=λ n hn=>by
  have:=Gf hn (rest:=[]) (.inl rfl)
  rwa [List.append_nil] at this
 cases hu:XR kind with
 | none=>rw [hu] at h;cases h
 | some u=>
  rw [hu] at h
  simp only [Bool.and_eq_true] at h
  obtain ⟨c1,c2,c3,c4,c5⟩:=Af h.1
  simp only at c1 c2 c3 c4 c5
  unfold XR at hu
  unfold YV Vd
  simp only
  by_cases k1:kind=1
  · subst k1
    rw [if_pos rfl] at hu
    injection hu with hu
    subst hu
    rw [c2 rfl,c3 rfl,c4 rfl,c5 rfl]
    rfl
  by_cases k2:kind=2
  · subst k2
    rw [if_neg (by decide),if_pos rfl] at hu
    injection hu with hu
    subst hu
    rw [c3 rfl,c4 rfl,c5 rfl,if_neg (by decide),if_pos rfl]
    show (Cq (Go.Lib.itoa add)).map _=_
    rw [hint _ i1]
    rfl
  by_cases k3:kind=3
  · subst k3
    rw [if_neg (by decide),if_neg (by decide),if_pos rfl] at hu
    injection hu with hu
    subst hu
    rw [c1 rfl,c2 rfl,c4 rfl,c5 rfl,if_neg (by decide),if_neg (by decide),if_pos rfl]
    show (Cq (Go.Lib.itoa value)).map _=_
    rw [hint _ i2]
    rfl
  by_cases k4:kind=4
  · subst k4
    rw [if_neg (by decide),if_neg (by decide),if_neg (by decide),if_pos rfl] at hu
    injection hu with hu
    subst hu
    rw [c1 rfl,c2 rfl,c3 rfl,c5 rfl,if_neg (by decide),if_neg (by decide),if_neg (by decide),if_pos rfl]
    show some (FrD.mk (mkB to.data.toList) 4 ⟨#[]⟩ 0 0 (QN (Qh bytes)) [])=_
    rw [GQ]
    rfl
  by_cases k5:kind=5
  · subst k5
    rw [if_neg (by decide),if_neg (by decide),if_neg (by decide),if_neg (by decide),if_pos rfl] at hu
    injection hu with hu
    subst hu
    rw [c2 rfl,c3 rfl,c4 rfl,if_neg (by decide),if_neg (by decide),if_neg (by decide),if_neg (by decide),if_neg (by decide),if_neg (by decide)]
    show (HY (table.map V4)).map _=_
    rw [HZ i3]
    rfl
  by_cases k6:kind=6
  · subst k6
    rw [if_neg (by decide),if_neg (by decide),if_neg (by decide),if_neg (by decide),if_neg (by decide),if_pos rfl] at hu
    injection hu with hu
    subst hu
    rw [c2 rfl,c3 rfl,c4 rfl,c5 rfl]
    rfl
  by_cases k7:kind=7
  · subst k7
    rw [if_neg (by decide),if_neg (by decide),if_neg (by decide),if_neg (by decide),if_neg (by decide),if_neg (by decide),if_pos rfl] at hu
    injection hu with hu
    subst hu
    rw [c1 rfl,c2 rfl,c3 rfl,c4 rfl,c5 rfl]
    rfl
  · rw [if_neg k1,if_neg k2,if_neg k3,if_neg k4,if_neg k5,if_neg k6,if_neg k7] at hu
    cases hu
theorem PT {r s:FrD} (hr:okF r=true) (hs:okF s=true) (h:YY r=YY s):r=s:=by
 have pr:Yu r=true:=by unfold okF at hr;rw [Bool.and_eq_true] at hr;exact hr.1
 have ps:Yu s=true:=by unfold okF at hs;rw [Bool.and_eq_true] at hs;exact hs.1
 have hw:YV r=YV s:=by rw [← z7 pr,← z7 ps,h]
 have h1:=HX hr
 rw [hw,HX hs] at h1
 injection h1 with h1
 exact h1.symm
noncomputable def QB (s:List UInt8):Option FrD:=open Classical in if h:∃ r,okF r=true∧YY r=s then some (Classical.choose h) else none
theorem VN {s:List UInt8} {r:FrD}:QB s=some r↔okF r=true∧YY r=s:=by
 unfold QB
 constructor
 · intro h
   split at h
   · rename_i he
     injection h with h
     rw [← h]
     exact Classical.choose_spec he
   · cases h
 · intro h
   have he:∃ r,okF r=true∧YY r=s:=⟨r,h⟩
   rw [dif_pos he]
   congr 1
   have:=Classical.choose_spec he
   exact PT this.1 h.1 (this.2.trans h.2.symm)
theorem AI {s:List UInt8}:QB s=none↔∀ r,okF r=true→YY r≠s:=by
 constructor
 · intro h r hr hl
   rw [VN.2 ⟨hr,hl⟩] at h
   cases h
 · intro h
   cases ho:QB s with
   | none=>rfl
   | some r=>
    obtain ⟨h1,h2⟩:=VN.1 ho
    exact absurd h2 (h r h1)
def TK (s:List UInt8):Option FrD→Option FrD
 | none=>none
 | some x=>if okF x=true∧YY x=s then some x else none
theorem IW {s:List UInt8} {o:Option FrD} (h:∀ r,okF r=true→YY r=s→o=some r):QB s=TK s o:=by
 cases o with
 | none=>
  refine AI.2 λ r hr hl=>?_
  have:=h r hr hl
  cases this
 | some x=>
  show QB s=if okF x=true∧YY x=s then some x else none
  by_cases hx:okF x=true∧YY x=s
  · rw [if_pos hx]
    exact VN.2 hx
  · rw [if_neg hx]
    refine AI.2 λ r hr hl=>?_
    have:=h r hr hl
    injection this with this
    subst this
    exact hx ⟨hr,hl⟩
def n30 (b:Vl) (R:RT) (w:Wd):Prop:=
 B0 .geq 3 true b (.int .i64 0) R w λ c w=>
 Zo (λ (a:Vl) (w:Wd)=>
 Zy c a (.bool false) λ e=>
 R (.returned e) w) λ d=>
 Zn c true (
 B0 .lss 3 true b (.int .i64 34359738368) R w λ a w=>
 d a w) (
 d undef w)
theorem Zj5 {t0:Vl} {R:RT} {w:Wd} (h:n30 t0 R w):Calls Pg 42 #[t0] w R:=by
 refine yD func42 ?_
 refine zs<|zr<|zm<|zn<|zk<|zs<|Zt<|yG 3<|zm<|yb h λ _ w h=>zm<|zn<|yg1 2 2 true [6,7] 7 h (λ _ T hT h=>?_) λ σ w h=>?_
 · refine zm<|yb h λ _ w h=>zn ?_
   exact zt hT h
 exact yG 2<|yp h λ _ h=>zm<|zn<|ZK<|zk<|Zg<|Zi rfl rfl h
def Rc (b c a:Vl) (Zx:KV) (R:RT) (w:Wd):Prop:=
 X0 41 b a R w λ d w=>
 L0 78 d R w λ e w=>
 XW Pg c #[e] (Zd R) w λ f w=>
 Zs f (
 R (.returned a) w) (
 B0 .add 3 true a (.int .i64 1) R w λ g w=>
 Zx g w)
def Zg7 (a c:Vl) (R:RT) (w:Wd):Prop:=
 G0 41 3 a R w λ d w=>
 Y6 (λ b w Zx=>
 B0 .lss 3 false b d R w λ e w=>
 Zs e (
 Rc a c b Zx R w) (
 R (.returned (.int .i64 (-1))) w)) (.int .i64 0) w
theorem Zg8 {t0 t1:Vl} {R:RT} {w:Wd} (h:Zg7 t0 t1 R w):Calls Pg 43 #[t0,t1] w R:=by
 refine yD func43 ?_
 refine zs<|zr<|zm<|zn<|zk<|zs<|zs<|zr<|zm<|yx h λ _ w h=>zm<|zn<|zk<|Zl<|yl1 [4,5,8,9,10,11,12,13,14,15,16,17,18] 8 h λ σ w next h=>?_
 refine zs<|zr<|yb h λ _ w h=>zn<|zk<|zs<|yC h (λ h=>?_) λ h=>?_
 · refine Zj<|zk<|zs<|Zl<|zs<|zr<|zm<|zm<|zn<|zk<|zs<|zr<|zm<|zm<|zm ?_
   refine yv h λ _ w h=>yv h λ _ w h=>yV h λ _ w h=>zn<|zk<|yC h (λ h=>zs<|zr<|zm<|zm<|zn<|zk<|Zg<|Zh<|Zb<|Zb<|Zh<|Zb<|Zi rfl rfl h) λ h=>Zj<|Zf<|zk<|zr<|yb h λ _ w h=>zm<|zn<|zk ?_
   exact ⟨rfl,h⟩
 exact ZM<|Ze<|Ze<|Zu<|zk<|zs<|zr<|zm<|zn<|zk<|Zg<|Zi rfl rfl h
def n22 (f b:Vl) (R:RT) (w:Wd):Prop:=
 opV Pg (box 78 f) (Zd R) w λ c w=>
 L0 3 b R w λ g w=>
 F0 78 c 0 R w λ h w=>
 L0 3 h R w λ i w=>
 B0 .geq 3 false g i R w λ d w=>
 Zo (λ (a:Vl) (w:Wd)=>
 Zy d a (.bool false) λ j=>
 R (.returned j) w) λ e=>
 Zn d true (
 L0 3 b R w λ k w=>
 F0 78 c 1 R w λ l w=>
 L0 3 l R w λ m w=>
 B0 .leq 3 false k m R w λ a w=>
 e a w) (
 e undef w)
theorem ZjZ {t0 t1:Vl} {R:RT} {w:Wd} (h:n22 t0 t1 R w):Calls Pg 44 #[t0,t1] w R:=by
 refine yD func44 ?_
 refine zs<|zr<|yv h λ _ w h=>zm<|zn<|zk<|zs<|Zt<|yG 5<|yv h λ _ w h=>yv h λ _ w h=>yv h λ _ w h=>yb h λ _ w h=>zm<|zn ?_
 refine yg1 4 4 true [9,10,11,12] 12 h (λ _ T hT h=>?_) λ σ w h=>?_
 · refine yv h λ _ w h=>yv h λ _ w h=>yv h λ _ w h=>yb h λ _ w h=>zn ?_
   exact zt hT h
 exact yG 2<|yp h λ _ h=>zm<|zn<|ZK<|zk<|Zg<|Zi rfl rfl h
def Rb (b c a:Vl) (Zx:KV) (R:RT) (w:Wd):Prop:=
 X0 22 b a R w λ d w=>
 L0 60 d R w λ e w=>
 XW Pg c #[e] (Zd R) w λ f w=>
 Zs f (
 R (.returned a) w) (
 B0 .add 3 true a (.int .i64 1) R w λ g w=>
 Zx g w)
def Zg5 (a c:Vl) (R:RT) (w:Wd):Prop:=
 G0 22 3 a R w λ d w=>
 Y6 (λ b w Zx=>
 B0 .lss 3 false b d R w λ e w=>
 Zs e (
 Rb a c b Zx R w) (
 R (.returned (.int .i64 (-1))) w)) (.int .i64 0) w
theorem Zg6 {t0 t1:Vl} {R:RT} {w:Wd} (h:Zg5 t0 t1 R w):Calls Pg 46 #[t0,t1] w R:=by
 refine yD func46 ?_
 refine zs<|zr<|zm<|zn<|zk<|zs<|zs<|zr<|zm<|yx h λ _ w h=>zm<|zn<|zk<|Zl<|yl1 [4,5,8,9,10,11,12,13,14,15,16,17,18] 8 h λ σ w next h=>?_
 refine zs<|zr<|yb h λ _ w h=>zn<|zk<|zs<|yC h (λ h=>?_) λ h=>?_
 · refine Zj<|zk<|zs<|Zl<|zs<|zr<|zm<|zm<|zn<|zk<|zs<|zr<|zm<|zm<|zm ?_
   refine yv h λ _ w h=>yv h λ _ w h=>yV h λ _ w h=>zn<|zk<|yC h (λ h=>zs<|zr<|zm<|zm<|zn<|zk<|Zg<|Zh<|Zb<|Zb<|Zh<|Zb<|Zi rfl rfl h) λ h=>Zj<|Zf<|zk<|zr<|yb h λ _ w h=>zm<|zn<|zk ?_
   exact ⟨rfl,h⟩
 exact ZM<|Ze<|Ze<|Zu<|zk<|zs<|zr<|zm<|zn<|zk<|Zg<|Zi rfl rfl h
def n28 (a b:Vl) (R:RT) (w:Wd):Prop:=
 opV Pg (box 60 a) (Zd R) w λ c w=>
 F0 60 c 0 R w λ d w=>
 L0 9 d R w λ e w=>
 L0 9 b R w λ f w=>
 B0 .eql 9 false e f R w λ g w=>
 R (.returned g) w
theorem Zj3 {t0 t1:Vl} {R:RT} {w:Wd} (h:n28 t0 t1 R w):Calls Pg 47 #[t0,t1] w R:=by
 refine yD func47 ?_
 refine zs<|zr<|yv h λ _ w h=>zm<|zn<|zk<|zs<|zr<|yv h λ _ w h=>yv h λ _ w h=>yv h λ _ w h=>yb h λ _ w h=>zm<|zn<|zk ?_
 exact Zg<|Zi rfl rfl h
def ZcG (f b g d:Vl) (a:WPr) (R:RT) (w:Wd):Prop:=
 Zo (λ (c:Vl) (w:Wd)=>
 Zy d c (.bool false) λ h=>
 S0 43 b g R w λ w=>
 a w∧(
 qW Pg 43 b w λ r0=>
 R (.returned (.tuple #[r0,h])) w)) λ e=>
 Zn d true (
 I0 43 b a λ i=>
 C0 60 #[i] R w λ j w=>
 a w∧(
 ZV Pg 59 #[j,(.string { data := #[32] })] (Zd R) w λ k w=>
 a w∧(
 qV Pg a (ZF .eql 9 false k f) λ c=>
 e c w))) (
 e undef w)
def MR (c b:Vl) (a:WPr) (R:RT) (w:Wd):Prop:=
 I0 43 b a λ d=>
 I0 43 b a λ e=>
 C0 58 #[e] R w λ f w=>
 a w∧(
 ZcG c b d f a R w)
def R7 (b c:Vl) (a:WPr) (d:WPr) (R:RT) (w:Wd):Prop:=
 qV Pg a (indexAt 94 c (.int .i64 0)) λ e=>
 I0 9 e a λ f=>
 J0 43 b 1 a λ g=>
 opU Pg (storeAt 39 g (.int .i64 1)) (Zd R) w λ w=>
 a w∧(
 J0 43 b 2 a λ h=>
 S0 9 h f R w λ w=>
 Ut w λ i w=>
 d w)
def ZcH (b a:Vl) (c:WPr) (R:RT) (w:Wd):Prop:=
 E0q a 0 R w λ d w=>
 E0q a 1 R w λ f w=>
 E0q a 2 R w λ g w=>
 F0 43 b 3 R w λ e w=>
 S0 3 e d R w λ w=>
 c w
def R8 (a b:Vl) (c:WPr) (R:RT) (w:Wd):Prop:=
 opV Pg (indexAt 94 b (.int .i64 1)) (Zd R) w λ d w=>
 L0 9 d R w λ e w=>
 C0 87 #[e] R w λ f w=>
 ZcH a f c R w
def R9 (b c:Vl) (a:WPr) (d:WPr) (R:RT) (w:Wd):Prop:=
 qV Pg a (indexAt 94 c (.int .i64 0)) λ e=>
 I0 9 e a λ f=>
 J0 43 b 1 a λ g=>
 opU Pg (storeAt 39 g (.int .i64 2)) (Zd R) w λ w=>
 a w∧(
 J0 43 b 2 a λ h=>
 S0 9 h f R w λ w=>
 Ut w λ i w=>
 R8 b c d R w)
def ZcI (b a:Vl) (c:WPr) (R:RT) (w:Wd):Prop:=
 E0q a 0 R w λ d w=>
 E0q a 1 R w λ f w=>
 E0q a 2 R w λ g w=>
 F0 43 b 4 R w λ e w=>
 S0 3 e d R w λ w=>
 c w
def ZcJ (a b:Vl) (c:WPr) (R:RT) (w:Wd):Prop:=
 F0 43 a 1 R w λ d w=>
 opU Pg (storeAt 39 d (.int .i64 4)) (Zd R) w λ w=>
 F0 43 a 5 R w λ e w=>
 S0 40 e b R w λ w=>
 c w
def Sa (a:Vl) (R:RT) (w:Wd):Prop:=
 L0 43 a R w λ b w=>
 S0 43 a b R w λ w=>
 qW Pg 43 a w λ r0=>
 R (.returned (.tuple #[r0,(.bool false)])) w
def RU (a b c:Vl) (zv:KV) (R:RT) (w:Wd):Prop:=
 F0 43 a 6 R w λ d w=>
 L0 41 d R w λ e w=>
 L0 78 b R w λ f w=>
 opV Pg (buildSlice 41 1 #[(0,f)]) (Zd R) w λ g w=>
 opV Pg (Builtin.append_ #[41,41] 41 #[e,g]) (Zd R) w λ h w=>
 F0 43 a 6 R w λ i w=>
 S0 41 i h R w λ w=>
 B0 .add 3 true c (.int .i64 1) R w λ j w=>
 zv j w
def RV (a d b:Vl) (zv:KV) (R:RT) (w:Wd):Prop:=
 E0q b 0 R w λ e w=>
 E0q b 1 R w λ f w=>
 opV Pg (alloc 78 true (.tuple #[])) (Zd R) w λ c w=>
 S0 78 c e R w λ w=>
 N0 f R w λ g w=>
 Zs g (
 Sa a R w) (
 RU a c d zv R w)
def RW (b c a:Vl) (zv:KV) (R:RT) (w:Wd):Prop:=
 X0 94 c a R w λ d w=>
 L0 9 d R w λ e w=>
 C0 89 #[e] R w λ f w=>
 RV b a f zv R w
def EL (d a:Vl) (e:WPr) (R:RT) (w:Wd):Prop:=
 G0 94 3 a R w λ f w=>
 opV Pg (Builtin.min_ #[3,3] 3 #[(.int .i64 3),f]) (Zd R) w λ g w=>
 opV Pg (sliceAt 94 a (some g) none none) (Zd R) w λ b w=>
 G0 94 3 b R w λ h w=>
 Y6 (λ c w zv=>
 B0 .lss 3 false c h R w λ i w=>
 Zs i (
 RW d b c zv R w) (
 e w)) (.int .i64 0) w
def I8 (b c d:Vl) (a:WPr) (e:WPr) (R:RT) (w:Wd):Prop:=
 qV Pg a (indexAt 94 d (.int .i64 0)) λ f=>
 I0 9 f a λ g=>
 J0 43 b 1 a λ h=>
 opU Pg (storeAt 39 h (.int .i64 5)) (Zd R) w λ w=>
 a w∧(
 J0 43 b 2 a λ i=>
 S0 9 i g R w λ w=>
 Ut w λ j w=>
 EL b c e R w)
def I9 (b c:Vl) (a:WPr) (d:WPr) (R:RT) (w:Wd):Prop:=
 qV Pg a (indexAt 94 c (.int .i64 0)) λ e=>
 I0 9 e a λ f=>
 J0 43 b 1 a λ g=>
 opU Pg (storeAt 39 g (.int .i64 6)) (Zd R) w λ w=>
 a w∧(
 J0 43 b 2 a λ h=>
 S0 9 h f R w λ w=>
 Ut w λ i w=>
 d w)
def Zeg (a:Vl) (R:RT) (w:Wd):Prop:=
 L0 43 a R w λ b w=>
 S0 43 a b R w λ w=>
 qW Pg 43 a w λ r0=>
 R (.returned (.tuple #[r0,(.bool false)])) w
def RX (a b:Vl) (c:WPr) (R:RT) (w:Wd):Prop:=
 opV Pg (ZF .eql 9 true b (.string { data := #[102,105,116] })) (Zd R) w λ d w=>
 Zs d (
 F0 43 a 1 R w λ e w=>
 opU Pg (storeAt 39 e (.int .i64 7)) (Zd R) w λ w=>
 c w) (
 Zeg a R w)
def RY (a d b:Vl) (c:WPr) (R:RT) (w:Wd):Prop:=
 opV Pg (ZF .eql 9 true b (.string { data := #[110,101,115,116,101,100] })) (Zd R) w λ e w=>
 Zs e (
 Yg w λ f w=>
 I9 a d f c R w) (
 RX a b c R w)
def RZ (a b:Vl) (c:WPr) (R:RT) (w:Wd):Prop:=
 opV Pg (indexAt 94 b (.int .i64 0)) (Zd R) w λ d w=>
 L0 9 d R w λ e w=>
 C0 88 #[e] R w λ f w=>
 ZcJ a f c R w
def R0 (a e b c:Vl) (d:WPr) (R:RT) (w:Wd):Prop:=
 opV Pg (ZF .eql 9 true c (.string { data := #[116,97,98,108,101] })) (Zd R) w λ f w=>
 Zs f (
 Yg w λ g w=>
 I8 a e b g d R w) (
 RY a b c d R w)
def R1 (a b:Vl) (c:WPr) (R:RT) (w:Wd):Prop:=
 F0 43 a 1 R w λ d w=>
 opU Pg (storeAt 39 d (.int .i64 3)) (Zd R) w λ w=>
 opV Pg (indexAt 94 b (.int .i64 0)) (Zd R) w λ e w=>
 L0 9 e R w λ f w=>
 C0 87 #[f] R w λ g w=>
 ZcI a g c R w
def R2 (a e b c:Vl) (d:WPr) (R:RT) (w:Wd):Prop:=
 opV Pg (ZF .eql 9 true c (.string { data := #[98,121,116,101,115] })) (Zd R) w λ f w=>
 Zs f (
 RZ a b d R w) (
 R0 a e b c d R w)
def R3 (a e b c:Vl) (d:WPr) (R:RT) (w:Wd):Prop:=
 opV Pg (ZF .eql 9 true c (.string { data := #[118,97,108,117,101] })) (Zd R) w λ f w=>
 Zs f (
 R1 a b d R w) (
 R2 a e b c d R w)
def R4 (a e b c:Vl) (d:WPr) (R:RT) (w:Wd):Prop:=
 opV Pg (ZF .eql 9 true c (.string { data := #[97,100,100] })) (Zd R) w λ f w=>
 Zs f (
 Yg w λ g w=>
 R9 a b g d R w) (
 R3 a e b c d R w)
def Zeh (a:Vl) (R:RT) (w:Wd):Prop:=
 L0 43 a R w λ b w=>
 S0 43 a b R w λ w=>
 qW Pg 43 a w λ r0=>
 R (.returned (.tuple #[r0,(.bool false)])) w
def R5 (f b a:Vl) (R:RT) (w:Wd):Prop:=
 opV Pg (indexAt 94 a (.int .i64 0)) (Zd R) w λ g w=>
 L0 9 g R w λ h w=>
 F0 43 b 0 R w λ i w=>
 S0 9 i h R w λ w=>
 G0 94 3 a R w λ j w=>
 G0 94 3 a R w λ k w=>
 opV Pg (sliceAt 94 a (some (.int .i64 2)) (some j) (some k)) (Zd R) w λ l w=>
 opV Pg (buildSlice 94 2 #[(0,(.string { data := #[] })),(1,(.string { data := #[] }))]) (Zd R) w λ m w=>
 opV Pg (Builtin.append_ #[94,94] 94 #[l,m]) (Zd R) w λ c w=>
 opV Pg (indexAt 94 a (.int .i64 1)) (Zd R) w λ n w=>
 L0 9 n R w λ d w=>
 opV Pg (ZF .eql 9 true d (.string { data := #[99,111,112,121] })) (Zd R) w λ o w=>
 Zo (λ (w:Wd)=>
 Yg w λ p w=>
 MR f b p R w) λ e=>
 Zs o (
 Yg w λ q w=>
 R7 b c q e R w) (
 R4 b a c d e R w)
def R6 (c a b:Vl) (R:RT) (w:Wd):Prop:=
 G0 94 3 b R w λ d w=>
 B0 .lss 3 true d (.int .i64 2) R w λ e w=>
 Zs e (
 Zeh a R w) (
 R5 c a b R w)
def n51 (a:Vl) (R:RT) (w:Wd):Prop:=
 opV Pg (alloc 43 true (.tuple #[])) (Zd R) w λ b w=>
 ZV Pg 50 #[a,(.string { data := #[32] })] (Zd R) w λ c w=>
 R6 a b c R w
set_option maxHeartbeats 40000000 in
theorem Zkq {t0:Vl} {R:RT} {w:Wd} (h:n51 t0 R w):Calls Pg 51 #[t0] w R:=by
 refine yD func51 ?_
 refine zs<|zr<|yv h λ _ w h=>zm<|zn<|zk<|zs<|zr<|zm<|yc h c50 λ _ w h=>zm<|zn<|zk<|zs<|zs ?_
 refine zr<|zm<|yx h λ _ w h=>yb h λ _ w h=>zn<|zk<|yC h (λ h=>zs<|zr<|yv h λ _ w h=>yu h λ w h=>zm<|zn<|zk<|Zg<|Zb<|YH rfl rfl rfl h) λ h=>Zj<|zk<|zs<|zr<|zm<|yv h λ _ w h=>yv h λ _ w h=>?_
 refine yv h λ _ w h=>yu h λ w h=>zn<|zk<|zs<|zr<|zm<|zm<|yx h λ _ w h=>zm<|yx h λ _ w h=>yv h λ _ w h=>yS h λ _ w h=>yx h λ _ w h=>zm ?_
 refine zn<|zk<|zs<|zs<|zr<|zm<|yv h λ _ w h=>yv h λ _ w h=>zn<|zk<|Zl<|zs<|zr<|yb h λ _ w h=>zm ?_
 refine zn<|zk<|yJ0 [3,7,8,9,31,34,35,36,37,38,39,40,41,42,43,44,45,46,47,48,49,50,51,52,53,54,55,56,57,58,59,60,61,62,63,64,65,66,67,68,69,70,71,72,73,74,75,76,77,78,79,80,81,82,83,84,85,86,87,88,89,90,91,92,93,94,95,96,97,98,99,100,101,102,103,104,105,106,107,108,109,110,111,112,113,114,115,116] h (λ _ _ hkK1 h=>?_) λ σ w h=>?_
 · refine yC h (λ h=>?_) λ h=>?_
   · refine yh [34,35,36,37,38] h λ C hC h=>yw 0 hC ?_
     refine ye 1 hC h λ _ h=>?_
     refine ye 2 hC h λ _ h=>?_
     refine ye 3 hC h λ _ h=>?_
     refine yo 4 ?_
     refine yu h λ w h=>zn ?_
     obtain ⟨hC,h⟩:=h
     refine ⟨hC,?_⟩
     refine ye 5 hC h λ _ h=>?_
     refine yq 6 1 ?_
     refine yu h λ w h=>zn ?_
     obtain ⟨C5,hC,h⟩:=h
     refine ⟨C5,hC,?_⟩
     refine yz<|zk ?_
     exact zt hkK1 h
   refine zs<|zr<|yb h λ _ w h=>zm<|zn<|zk<|yC h (λ h=>?_) λ h=>?_
   · refine zs<|yh [41,42,43,44,45] h λ C hC h=>yw 0 hC ?_
     refine ye 1 hC h λ _ h=>?_
     refine ye 2 hC h λ _ h=>?_
     refine ye 3 hC h λ _ h=>?_
     refine yo 4 ?_
     refine yu h λ w h=>zn ?_
     obtain ⟨hC,h⟩:=h
     refine ⟨hC,?_⟩
     refine ye 5 hC h λ _ h=>?_
     refine yq 6 1 ?_
     refine yu h λ w h=>zn ?_
     obtain ⟨C7,hC,h⟩:=h
     refine ⟨C7,hC,?_⟩
     refine yz<|zk<|zr<|zm<|yv h λ _ w h=>yv h λ _ w h=>yc h c87 λ _ w h=>zm<|yv h λ _ w h=>yv h λ _ w h=>yv h λ _ w h=>yv h λ _ w h=>yu h λ w h=>zn<|zk ?_
     exact zt hkK1 h
   refine zs<|zr<|yb h λ _ w h=>zm<|zn<|zk<|yC h (λ h=>?_) λ h=>?_
   · refine zs<|zr<|yv h λ _ w h=>yu h λ w h=>zn<|zk<|zr<|zm<|yv h λ _ w h=>yv h λ _ w h=>yc h c87 λ _ w h=>zm<|yv h λ _ w h=>yv h λ _ w h=>yv h λ _ w h=>?_
     refine yv h λ _ w h=>yu h λ w h=>zn<|zk ?_
     exact zt hkK1 h
   refine zs<|zr<|yb h λ _ w h=>zm<|zn<|zk<|yC h (λ h=>?_) λ h=>?_
   · refine zr<|zm<|yv h λ _ w h=>yv h λ _ w h=>yc h c88 λ _ w h=>yv h λ _ w h=>yu h λ w h=>yv h λ _ w h=>yu h λ w h=>zn<|zk ?_
     exact zt hkK1 h
   refine zs<|zr<|yb h λ _ w h=>zm<|zn<|zk<|yC h (λ h=>?_) λ h=>?_
   · refine zs<|yh [77,78,79,80,81] h λ C hC h=>yw 0 hC ?_
     refine ye 1 hC h λ _ h=>?_
     refine ye 2 hC h λ _ h=>?_
     refine ye 3 hC h λ _ h=>?_
     refine yo 4 ?_
     refine yu h λ w h=>zn ?_
     obtain ⟨hC,h⟩:=h
     refine ⟨hC,?_⟩
     refine ye 5 hC h λ _ h=>?_
     refine yq 6 1 ?_
     refine yu h λ w h=>zn ?_
     obtain ⟨C9,hC,h⟩:=h
     refine ⟨C9,hC,?_⟩
     refine yz<|zk<|zs<|zr<|zm<|zm<|yx h λ _ w h=>yx h λ _ w h=>yv h λ _ w h=>yx h λ _ w h=>zm<|zn<|zk<|Zl<|yl1 [3,7,8,9,88,89,90,91,92,93,94,95,96,97,98,99,100,101,102,103,104,105,106] 88 h λ σ w next h=>?_
     refine zs<|zr<|yb h λ _ w h=>zn<|zk<|zs<|yC h (λ h=>?_) λ h=>?_
     · refine Zj<|zk<|zs<|Zl<|zs<|zr<|yv h λ _ w h=>yv h λ _ w h=>zm<|zn<|zk<|zs<|zr<|zm<|yc h c89 λ _ w h=>?_
       refine zm<|yv h λ _ w h=>yv h λ _ w h=>yv h λ _ w h=>yu h λ w h=>zm<|zn<|zk<|zs<|zs<|zr<|zm<|yv h λ _ w h=>zn<|zk ?_
       refine yC h (λ h=>?_) λ h=>?_
       · refine zs<|zr<|yv h λ _ w h=>yu h λ w h=>zm<|zn<|zk<|Zg<|Zb<|Zh<|Zb<|Zb<|Zh<|Zb<|Zh ?_
         exact Zb<|YH rfl rfl rfl h
       refine Zj<|zk<|zr<|yv h λ _ w h=>yv h λ _ w h=>yv h λ _ w h=>yS h λ _ w h=>yx h λ _ w h=>yv h λ _ w h=>yu h λ w h=>zn<|Zf<|zk<|zr<|yb h λ _ w h=>?_
       exact zm<|zn<|zk<|⟨rfl,h⟩
     refine ZM<|Ze<|Ze<|Zu<|zk ?_
     exact zt hkK1 h
   refine zs<|zr<|yb h λ _ w h=>zm<|zn<|zk<|yC h (λ h=>?_) λ h=>?_
   · refine yh [109,110,111,112,113] h λ C hC h=>yw 0 hC ?_
     refine ye 1 hC h λ _ h=>?_
     refine ye 2 hC h λ _ h=>?_
     refine ye 3 hC h λ _ h=>?_
     refine yo 4 ?_
     refine yu h λ w h=>zn ?_
     obtain ⟨hC,h⟩:=h
     refine ⟨hC,?_⟩
     refine ye 5 hC h λ _ h=>?_
     refine yq 6 1 ?_
     refine yu h λ w h=>zn ?_
     obtain ⟨C12,hC,h⟩:=h
     refine ⟨C12,hC,?_⟩
     refine yz<|zk ?_
     exact zt hkK1 h
   refine zs<|zr<|yb h λ _ w h=>zm<|zn<|zk<|yC h (λ h=>?_) λ h=>?_
   · refine zr<|yv h λ _ w h=>yu h λ w h=>zn<|zk ?_
     exact zt hkK1 h
   exact zs<|zr<|yv h λ _ w h=>yu h λ w h=>zm<|zn<|zk<|Zg<|Zb<|Zh<|Zb<|YH rfl rfl rfl h
 refine Zf<|zk<|zs<|yh [3,117,118,119,120,121,122,123,124,125,126] h λ C hC h=>ye 0 hC h λ _ h=>?_
 refine ye 1 hC h λ _ h=>?_
 refine yo 2 ?_
 refine yc h c58 λ _ w h=>zn ?_
 obtain ⟨hC,h⟩:=h
 refine ⟨hC,?_⟩
 refine yw 3 hC ?_
 refine yj1 3 [8,6,5,7,4,3,2,1,0] [121,122,123,124,125] 125 h (λ _ hT hb h=>?_) (λ _ hT hb h=>?_) λ σ w hC h=>?_
 · refine ye 4 hC h λ _ h=>?_
   refine yw 7 hC ?_
   refine yo 5 ?_
   refine yc h c60 λ _ w h=>zn ?_
   obtain ⟨hC,h⟩:=h
   refine ⟨hC,?_⟩
   refine yo 6 ?_
   refine yc h c59 λ _ w h=>zn ?_
   obtain ⟨hC,h⟩:=h
   refine ⟨hC,?_⟩
   refine ye 8 hC h λ _ h=>?_
   exact yt hT hC h
 · refine yi 4 hC ?_
   refine yi 7 hC ?_
   refine yi 5 hC ?_
   refine yi 6 hC ?_
   refine yi 8 hC ?_
   exact yt hT hC h
 refine yP 9 hC h λ _ h=>?_
 refine yo 10 ?_
 refine yu h λ w h=>zn ?_
 obtain ⟨hC,h⟩:=h
 refine ⟨hC,?_⟩
 refine yw 11 hC ?_
 exact yz<|zk<|Zg<|YH rfl rfl rfl h
def n45 (a:Vl) (R:RT) (w:Wd):Prop:=
 ZV Pg 90 #[a,(.func (.func 91) #[] #[])] (Zd R) w λ b w=>
 N0 b R w λ c w=>
 R (.returned c) w
theorem Zkk {t0:Vl} {R:RT} {w:Wd} (h:n45 t0 R w):Calls Pg 52 #[t0] w R:=by
 refine yD func52 ?_
 exact zs<|zr<|zm<|zn<|zk<|zs<|zr<|zm<|yc h c90 λ _ w h=>yv h λ _ w h=>zm<|zn<|zk<|Zg<|Zi rfl rfl h
def n43 (R:RT) (w:Wd):Prop:=
 opV Pg (Instr.makeMap 106 none) (Zd R) w λ a w=>
 opV Pg (build 105 #[(0,(.bool true))]) (Zd R) w λ b w=>
 opU Pg (mapUpdate 106 a (.int .i64 1) b) (Zd R) w λ w=>
 opV Pg (build 105 #[(0,(.bool true)),(1,(.bool true))]) (Zd R) w λ c w=>
 opU Pg (mapUpdate 106 a (.int .i64 2) c) (Zd R) w λ w=>
 opV Pg (build 105 #[(2,(.bool true))]) (Zd R) w λ d w=>
 opU Pg (mapUpdate 106 a (.int .i64 3) d) (Zd R) w λ w=>
 opV Pg (build 105 #[(3,(.bool true))]) (Zd R) w λ e w=>
 opU Pg (mapUpdate 106 a (.int .i64 4) e) (Zd R) w λ w=>
 opV Pg (build 105 #[(0,(.bool true)),(4,(.bool true))]) (Zd R) w λ f w=>
 opU Pg (mapUpdate 106 a (.int .i64 5) f) (Zd R) w λ w=>
 opV Pg (build 105 #[(0,(.bool true))]) (Zd R) w λ g w=>
 opU Pg (mapUpdate 106 a (.int .i64 6) g) (Zd R) w λ w=>
 opV Pg (build 105 #[]) (Zd R) w λ h w=>
 opU Pg (mapUpdate 106 a (.int .i64 7) h) (Zd R) w λ w=>
 R (.returned a) w
theorem Zki {R:RT} {w:Wd} (h:n43 R w):Calls Pg 57 #[] w R:=by
 refine yD func57 ?_
 refine zs<|zr<|zm<|zn<|zk<|zs<|zr<|yv h λ _ w h=>yB h λ _ w h=>yu h λ w h=>yB h λ _ w h=>yu h λ w h=>yB h λ _ w h=>yu h λ w h=>yB h λ _ w h=>?_
 exact yu h λ w h=>yB h λ _ w h=>yu h λ w h=>yB h λ _ w h=>yu h λ w h=>yB h λ _ w h=>yu h λ w h=>zm<|zm<|zn<|zk<|Zg<|Zi rfl rfl h
theorem FM (f:Zq):(f.kind=1∨f.kind=2∨f.kind=3∨f.kind=4∨f.kind=5∨f.kind=6∨f.kind=7∨f.kind=8∨f.kind=9∨f.kind=10∨f.kind=11∨f.kind=12)∨((f.kind == 1)=false∧(f.kind == 3)=false∧(f.kind == 4)=false∧(f.kind == 5)=false∧(f.kind == 6)=false∧(f.kind == 7)=false∧(f.kind == 8)=false∧(f.kind == 12)=false∧(f.kind == 9)=false):=by
 by_cases h:1≤f.kind∧f.kind≤12
 · left;omega
 · right
   have key:∀ n:Int,(1≤n∧n≤12)→(f.kind == n)=false:=λ n hn=>by
    have:f.kind≠n:=by omega
    simpa using this
   exact ⟨key 1 (by omega),key 3 (by omega),key 4 (by omega),key 5 (by omega),key 6 (by omega),key 7 (by omega),key 8 (by omega),key 12 (by omega),key 9 (by omega)⟩
theorem D7 {f:Zq} (h1:(f.kind == 1)=false) (h3:(f.kind == 3)=false) (h4:(f.kind == 4)=false) (h5:(f.kind == 5)=false) (h6:(f.kind == 6)=false) (h7:(f.kind == 7)=false) (h8:(f.kind == 8)=false) (h12:(f.kind == 12)=false) (h9:(f.kind == 9)=false):YU f=0:=by
 have e:∀ n:Int,(f.kind == n)=false→f.kind≠n:=λ n h=>by simpa using h
 unfold YU
 rw [if_neg (by have:=e _ h1;have:=e _ h3;omega),if_neg (by have:=e _ h4;have:=e _ h5;omega),if_neg (e _ h6),if_neg (e _ h7),if_neg (by have:=e _ h8;have:=e _ h12;omega),if_neg (e _ h9)]
theorem Jd (w0:Wd) (v:Vl) (f:Zq) (hf:Z0 w0 v f):Ret Pg 68 #[v] w0 λ r w'=>r = .int .i64 (YU f)∧Ext w0 w':=by
 obtain ⟨tv,cv,rfl,hT,hC,_,_⟩:=hf.op
 refine Zkd (R:=ZI _) ?_;unfold n38
 rcases FM f with (h | h | h | h | h | h | h | h | h | h | h | h) | ⟨h1,h3,h4,h5,h6,h7,h8,h12,h9⟩
 case inr=>
  simp (disch:=try exact DI) only [↓PR,QR,simprocAttr,↓Ry,↓Rz,↓RA,↓RB,h1,h3,h4,h5,h6,h7,h8,h12,h9]
  exact ⟨by rw [D7 h1 h3 h4 h5 h6 h7 h8 h12 h9],ee⟩
 all_goals
  simp (disch:=try exact DI) only [↓PR,QR,simprocAttr,↓Ry,↓Rz,↓RA,↓RB,h]
  exact ⟨by unfold YU;rw [h];rfl,ee⟩
theorem QE (w0:Wd) (n:Int):Ret Pg 42 #[.int .i64 n] w0 λ r w'=>r = .bool (Wy n)∧w'=w0:=by
 refine Zj5 (R:=ZI _) ?_;unfold n30
 unfold Wy
 by_cases h1:0≤n
 · have d1:decide (n≥0)=true:=by simpa using h1
   by_cases h2:n < 34359738368
   · have d2:decide (n < 34359738368)=true:=by simpa using h2
     simp (disch:=try exact DI) only [↓PR,QR,simprocAttr,d1,d2]
     exact ⟨by simp [h1,h2],by trivial⟩
   · have d2:decide (n < 34359738368)=false:=by simpa using h2
     simp (disch:=try exact DI) only [↓PR,QR,simprocAttr,d1,d2]
     exact ⟨by simp [h2],by trivial⟩
 · have d1:decide (n≥0)=false:=by simpa using h1
   simp (disch:=try exact DI) only [↓PR,QR,simprocAttr,d1]
   exact ⟨by simp [h1],by trivial⟩
def CH (u:Ck):Vl := .agg #[.bool u.fr,.bool u.add,.bool u.value,.bool u.bytes,.bool u.table]
def OU (L:List (Int×Vl×Nat)):Prop:=∀ k,Sw.look L k=(XR k).map CH
theorem Wc {w0 w:Wd} {m c:Nat} {L:List (Int×Vl×Nat)} {QP:PEn} {ku:WPr} (hM:Xw w m XA L c) (e:Ext w0 w) (hm:w0.heap.size≤m) (k:Int) (v:Vl)
 (h:∀ w' L' c',Xw w' m XA L' c'→(∀ k',Sw.look L' k'=if k'=k then some v else Sw.look L k')→Ext w0 w'→ku w'):opU Pg (mapUpdate 106 (.map (some m)) (.int .i64 k) v) QP w ku:=by
 rw [Kq underlying106 (QC.int underlying39) hM k v]
 exact h _ _ _ (hM.put k v) (λ k'=>ya _ _ _ _ _) (e.putObj hm _)
theorem Kh (w0:Wd):Ret Pg 57 #[] w0 λ r w'=>∃ m L c,r = .map (some m)∧w0.heap.size≤m∧Xw w' m XA L c∧OU L∧Ext w0 w':=by
 refine Zki (R:=ZI _) ?_;unfold n43
 simp (disch:=try exact DI) only [↓PR,QR,simprocAttr]
 have hM0:Xw (w0.alloc (.map #[] 0)) w0.heap.size XA [] 0:=Xw.new w0 _
 have e0:Ext w0 (w0.alloc (.map #[] 0)):=ee
 refine Wc hM0 e0 (Nat.le_refl _) 1 _ (λ w1 L1 c1 hM1 hl1 e1=>?_)
 simp (disch:=try exact DI) only [↓PR,QR,simprocAttr]
 refine Wc hM1 e1 (Nat.le_refl _) 2 _ (λ w2 L2 c2 hM2 hl2 e2=>?_)
 simp (disch:=try exact DI) only [↓PR,QR,simprocAttr]
 refine Wc hM2 e2 (Nat.le_refl _) 3 _ (λ w3 L3 c3 hM3 hl3 e3=>?_)
 simp (disch:=try exact DI) only [↓PR,QR,simprocAttr]
 refine Wc hM3 e3 (Nat.le_refl _) 4 _ (λ w4 L4 c4 hM4 hl4 e4=>?_)
 simp (disch:=try exact DI) only [↓PR,QR,simprocAttr]
 refine Wc hM4 e4 (Nat.le_refl _) 5 _ (λ w5 L5 c5 hM5 hl5 e5=>?_)
 simp (disch:=try exact DI) only [↓PR,QR,simprocAttr]
 refine Wc hM5 e5 (Nat.le_refl _) 6 _ (λ w6 L6 c6 hM6 hl6 e6=>?_)
 simp (disch:=try exact DI) only [↓PR,QR,simprocAttr]
 refine Wc hM6 e6 (Nat.le_refl _) 7 _ (λ w7 L7 c7 hM7 hl7 e7=>?_)
 simp (disch:=try exact DI) only [↓PR,QR,simprocAttr]
 refine ⟨_,L7,c7,rfl,Nat.le_refl _,hM7,λ k=>?_,e7⟩
 rw [hl7,hl6,hl5,hl4,hl3,hl2,hl1]
 unfold XR
 by_cases k1:k=1
 · subst k1;rfl
 by_cases k2:k=2
 · subst k2;rfl
 by_cases k3:k=3
 · subst k3;rfl
 by_cases k4:k=4
 · subst k4;rfl
 by_cases k5:k=5
 · subst k5;rfl
 by_cases k6:k=6
 · subst k6;rfl
 by_cases k7:k=7
 · subst k7;rfl
 rw [if_neg k1,if_neg k2,if_neg k3,if_neg k4,if_neg k5,if_neg k6,if_neg k7,if_neg k1,if_neg k2,if_neg k3,if_neg k4,if_neg k5,if_neg k6,if_neg k7]
 rfl
def RC (b d e:Vl) (R:RT) (w:Wd):Prop:=
 Zo (λ (a:Vl) (w:Wd)=>
 Zy b a (.bool false) λ f=>
 R (.returned f) w) λ c=>
 Zn b true (
 Zy d (.bool true) e λ a=>
 c a w) (
 c undef w)
def RD (d e b:Vl) (R:RT) (w:Wd):Prop:=
 Zo (λ (a:Vl) (w:Wd)=>
 RC e b a R w) λ c=>
 Zn b false (
 F0 43 d 6 R w λ f w=>
 L0 41 f R w λ g w=>
 G0 41 3 g R w λ h w=>
 B0 .eql 3 true h (.int .i64 0) R w λ a w=>
 c a w) (
 c undef w)
def RE (c d e f:Vl) (R:RT) (w:Wd):Prop:=
 Zy e f (.bool false) λ a=>
 Zo (λ (g:Vl) (w:Wd)=>
 RD c a g R w) λ b=>
 Zn a true (
 F0 105 d 4 R w λ h w=>
 L0 4 h R w λ i w=>
 b i w) (
 b undef w)
def RF (c h d e:Vl) (R:RT) (w:Wd):Prop:=
 Zo (λ (a:Vl) (w:Wd)=>
 Zo (λ (b:Vl) (w:Wd)=>
 RE c h d b R w) λ f=>
 Zn d true (
 Zy e (.bool true) a λ b=>
 f b w) (
 f undef w)) λ g=>
 Zn e false (
 F0 43 c 5 R w λ i w=>
 L0 40 i R w λ j w=>
 G0 40 3 j R w λ k w=>
 B0 .eql 3 true k (.int .i64 0) R w λ a w=>
 g a w) (
 g undef w)
def RG (d a e f:Vl) (R:RT) (w:Wd):Prop:=
 Zy e f (.bool false) λ b=>
 Zo (λ (g:Vl) (w:Wd)=>
 RF d a b g R w) λ c=>
 Zn b true (
 F0 105 a 3 R w λ h w=>
 L0 4 h R w λ i w=>
 c i w) (
 c undef w)
def RH (c h d e:Vl) (R:RT) (w:Wd):Prop:=
 Zo (λ (a:Vl) (w:Wd)=>
 Zo (λ (b:Vl) (w:Wd)=>
 RG c h d b R w) λ f=>
 Zn d true (
 Zy e (.bool true) a λ b=>
 f b w) (
 f undef w)) λ g=>
 Zn e false (
 F0 43 c 4 R w λ i w=>
 L0 3 i R w λ j w=>
 B0 .eql 3 true j (.int .i64 0) R w λ a w=>
 g a w) (
 g undef w)
def RI (d a e f:Vl) (R:RT) (w:Wd):Prop:=
 Zy e f (.bool false) λ b=>
 Zo (λ (g:Vl) (w:Wd)=>
 RH d a b g R w) λ c=>
 Zn b true (
 F0 105 a 2 R w λ h w=>
 L0 4 h R w λ i w=>
 c i w) (
 c undef w)
def RJ (c h d e:Vl) (R:RT) (w:Wd):Prop:=
 Zo (λ (a:Vl) (w:Wd)=>
 Zo (λ (b:Vl) (w:Wd)=>
 RI c h d b R w) λ f=>
 Zn d true (
 Zy e (.bool true) a λ b=>
 f b w) (
 f undef w)) λ g=>
 Zn e false (
 F0 43 c 3 R w λ i w=>
 L0 3 i R w λ j w=>
 B0 .eql 3 true j (.int .i64 0) R w λ a w=>
 g a w) (
 g undef w)
def RK (d a e f:Vl) (R:RT) (w:Wd):Prop:=
 Zy e (.bool true) f λ b=>
 Zo (λ (g:Vl) (w:Wd)=>
 RJ d a b g R w) λ c=>
 Zn b true (
 F0 105 a 1 R w λ h w=>
 L0 4 h R w λ i w=>
 c i w) (
 c undef w)
def n39 (f g:Vl) (R:RT) (w:Wd):Prop:=
 opV Pg (box 43 f) (Zd R) w λ b w=>
 opV Pg (box 105 g) (Zd R) w λ c w=>
 F0 105 c 0 R w λ h w=>
 L0 4 h R w λ d w=>
 Zo (λ (a:Vl) (w:Wd)=>
 RK b c d a R w) λ e=>
 Zn d false (
 F0 43 b 2 R w λ i w=>
 L0 9 i R w λ j w=>
 opV Pg (ZF .eql 9 true j (.string { data := #[] })) (Zd R) w λ a w=>
 e a w) (
 e undef w)
theorem Zke {t0 t1:Vl} {R:RT} {w:Wd} (h:n39 t0 t1 R w):Calls Pg 97 #[t0,t1] w R:=by
 refine yD func97 ?_
 refine zs<|zr<|yv h λ _ w h=>yv h λ _ w h=>zm<|zn<|zk<|zs<|Zt<|yG 3<|yv h λ _ w h=>yv h λ _ w h=>zm<|zn<|yg1 3 2 false [8,9,10] 10 h (λ _ T hT h=>?_) λ σ w h=>?_
 · refine yv h λ _ w h=>yv h λ _ w h=>yb h λ _ w h=>zn ?_
   exact zt hT h
 refine yG 2<|yp h λ _ h=>zm<|zn<|yg1 3 7 true [13,14,15] 15 h (λ _ T hT h=>?_) λ σ w h=>?_
 · refine yv h λ _ w h=>yv h λ _ w h=>zm<|zn ?_
   exact zt hT h
 refine yg1 3 10 false [16,17,18] 18 h (λ _ T hT h=>?_) λ σ w h=>?_
 · refine yv h λ _ w h=>yv h λ _ w h=>yb h λ _ w h=>zn ?_
   exact zt hT h
 refine yg1 1 7 true [19] 19 h (λ _ T hT h=>?_) λ σ w h=>?_
 · refine yp h λ _ h=>zn ?_
   exact zt hT h
 refine yG 2<|yp h λ _ h=>zm<|zn<|yg1 3 16 true [22,23,24] 24 h (λ _ T hT h=>?_) λ σ w h=>?_
 · refine yv h λ _ w h=>yv h λ _ w h=>zm<|zn ?_
   exact zt hT h
 refine yg1 3 19 false [25,26,27] 27 h (λ _ T hT h=>?_) λ σ w h=>?_
 · refine yv h λ _ w h=>yv h λ _ w h=>yb h λ _ w h=>zn ?_
   exact zt hT h
 refine yg1 1 16 true [28] 28 h (λ _ T hT h=>?_) λ σ w h=>?_
 · refine yp h λ _ h=>zn ?_
   exact zt hT h
 refine yG 2<|yp h λ _ h=>zm<|zn<|yg1 3 25 true [31,32,33] 33 h (λ _ T hT h=>?_) λ σ w h=>?_
 · refine yv h λ _ w h=>yv h λ _ w h=>zm<|zn ?_
   exact zt hT h
 refine yg1 4 28 false [34,35,36,37] 37 h (λ _ T hT h=>?_) λ σ w h=>?_
 · refine yv h λ _ w h=>yv h λ _ w h=>yx h λ _ w h=>yb h λ _ w h=>zn ?_
   exact zt hT h
 refine yg1 1 25 true [38] 38 h (λ _ T hT h=>?_) λ σ w h=>?_
 · refine yp h λ _ h=>zn ?_
   exact zt hT h
 refine yG 2<|yp h λ _ h=>zm<|zn<|yg1 3 35 true [41,42,43] 43 h (λ _ T hT h=>?_) λ σ w h=>?_
 · refine yv h λ _ w h=>yv h λ _ w h=>zm<|zn ?_
   exact zt hT h
 refine yg1 4 38 false [44,45,46,47] 47 h (λ _ T hT h=>?_) λ σ w h=>?_
 · refine yv h λ _ w h=>yv h λ _ w h=>yx h λ _ w h=>yb h λ _ w h=>zn ?_
   exact zt hT h
 refine yg1 1 35 true [48] 48 h (λ _ T hT h=>?_) λ σ w h=>?_
 · refine yp h λ _ h=>zn ?_
   exact zt hT h
 exact yG 2<|yp h λ _ h=>zm<|zn<|ZK<|zk<|Zg<|Zi rfl rfl h
def Zcb (a b c d:Vl) (Zx:KV) (R:RT) (w:Wd):Prop:=
 B0 .add 9 false c d R w λ e w=>
 C0 99 #[a,e] R w λ g w=>
 B0 .add 3 true b (.int .i64 1) R w λ f w=>
 Zx f w
def Zcc (a b c d:Vl) (Zx:KV) (R:RT) (w:Wd):Prop:=
 opV Pg (ZF .and 5 true c (.int .u8 15)) (Zd R) w λ e w=>
 opV Pg (Go.convert 5 191 e) (Zd R) w λ f w=>
 C0 133 #[f,(.int .i64 16)] R w λ g w=>
 Zcb a b d g Zx R w
def Zcd (c d a:Vl) (Zx:KV) (R:RT) (w:Wd):Prop:=
 X0 40 c a R w λ e w=>
 L0 5 e R w λ b w=>
 opV Pg (ZF .shr 5 true b (.int .u64 4)) (Zd R) w λ f w=>
 opV Pg (Go.convert 5 191 f) (Zd R) w λ g w=>
 C0 133 #[g,(.int .i64 16)] R w λ h w=>
 Zcc d a b h Zx R w
def Zce (c a d b:Vl) (Zx:KV) (R:RT) (w:Wd):Prop:=
 B0 .lss 3 false b d R w λ e w=>
 Zs e (
 Zcd c a b Zx R w) (
 C0 100 #[a] R w λ f w=>
 R (.returned f) w)
def Zcf (a:Vl) (R:RT) (w:Wd):Prop:=
 opV Pg (alloc 159 true (.tuple #[])) (Zd R) w λ b w=>
 G0 40 3 a R w λ c w=>
 Y6 (λ d w Zx=>
 Zce a b c d Zx R w) (.int .i64 0) w
def n40 (a:Vl) (R:RT) (w:Wd):Prop:=
 G0 40 3 a R w λ b w=>
 B0 .eql 3 true b (.int .i64 0) R w λ c w=>
 Zs c (
 R (.returned (.string { data := #[45] })) w) (
 Zcf a R w)
theorem Zkf {t0:Vl} {R:RT} {w:Wd} (h:n40 t0 R w):Calls Pg 102 #[t0] w R:=by
 refine yD func102 ?_
 refine zs<|zr<|zm<|zn<|zk<|zs<|zs<|zr<|zm<|yx h λ _ w h=>yb h λ _ w h=>zn<|zk<|yC h (λ h=>zs<|zr<|zm<|zn<|zk<|Zg<|Zb<|Zi rfl rfl h) λ h=>?_
 refine Zj<|zk<|zs<|zr<|yv h λ _ w h=>zn<|zk<|zs<|zs<|zr<|zm<|yx h λ _ w h=>zm<|zn<|zk ?_
 refine Zl<|yl1 [5,11,12,13,14,15,16,17,18,19,20,21,22,23,24,25] 11 h λ σ w next h=>zs<|zr<|yb h λ _ w h=>zn<|zk<|zs<|yC h (λ h=>?_) λ h=>?_
 · refine Zj<|zk<|zs<|Zl<|zs<|zr<|yv h λ _ w h=>yv h λ _ w h=>zm<|zn<|zk<|zr<|zm<|yb h λ _ w h=>yv h λ _ w h=>?_
   refine yc h Ze3 λ _ w h=>zm<|yb h λ _ w h=>yv h λ _ w h=>yc h Ze3 λ _ w h=>yb h λ _ w h=>yc h c99 λ _ w h=>zn<|Zf<|zk<|zr<|yb h λ _ w h=>zm<|zn<|zk ?_
   exact ⟨rfl,h⟩
 exact ZM<|Ze<|Ze<|Zu<|zk<|zs<|zr<|yc h ZiB λ _ w h=>zm<|zn<|zk<|Zg<|Zi rfl rfl h
theorem CS (w0:Wd) (v:Vl) (r:FrD) (hr:Wf w0 v r) (x:Ck):Ret Pg 97 #[v,CH x] w0 λ q w'=>q = .bool (Ws r x)∧Ext w0 w':=by
 obtain ⟨bv,tv,rfl,hB,hT,o1,o2⟩:=hr.op
 obtain ⟨Ab,cb,rfl,_⟩:=Zc.open hB
 obtain ⟨At,ct,rfl,_⟩:=Zc.open hT
 obtain ⟨u1,u2,u3,u4,u5⟩:=x
 unfold CH
 refine Zke (R:=ZI _) ?_;unfold n39
 rw [YB]
 have c1:=Zv w0 #[.string r.to,.int .i64 r.kind,.string r.fr,.int .i64 r.add,.int .i64 r.value,.slice Ab r.bytes.length cb,.slice At r.table.length ct] 43
 have e1:Ext w0 (w0.alloc (.cells #[.string r.to,.int .i64 r.kind,.string r.fr,.int .i64 r.add,.int .i64 r.value,.slice Ab r.bytes.length cb,.slice At r.table.length ct] 43)):=ee
 generalize (w0.alloc (.cells #[.string r.to,.int .i64 r.kind,.string r.fr,.int .i64 r.add,.int .i64 r.value,.slice Ab r.bytes.length cb,.slice At r.table.length ct] 43))=w1 at *
 rw [YB]
 have c2:=Zv w1 #[.bool u1,.bool u2,.bool u3,.bool u4,.bool u5] 105
 have e2:Ext w1 (w1.alloc (.cells #[.bool u1,.bool u2,.bool u3,.bool u4,.bool u5] 105)):=ee
 generalize (w1.alloc (.cells #[.bool u1,.bool u2,.bool u3,.bool u4,.bool u5] 105))=w2 at *
 have c1:=e2.obj c1
 have e:=e1.trans e2
 have k1:=(Za c1).1
 have k2:=(Za c2).1
 clear c1 c2 e1 e2 hr hB hT
 simp (disch:=try exact DI) only [↓PR,QR,simprocAttr,k1,k2]
 have hcl:Ws r ⟨u1,u2,u3,u4,u5⟩=((u1||decide (r.fr=⟨#[]⟩))&&((u2||r.add == 0)&&((u3||r.value == 0)&&((u4||(r.bytes.length:Int) == 0)&&(u5||(r.table.length:Int) == 0))))):=by
  unfold Ws
  have z:∀ n:Nat,((n:Int) == 0)=decide (n=0):=λ n=>by rw [Bool.eq_iff_iff];simp
  rw [z,z]
  rfl
 rw [hcl]
 clear hcl
 repeat' first
  | exact ⟨by simp [*],e⟩
  | (simp [*];done)
  | (refine F8 (λ _=>?_) (λ _=>?_)<;>simp (disch:=try exact DI) only [↓PR,QR,simprocAttr,↓RC,↓RD,↓RE,↓RF,↓RG,↓RH,↓RI,↓RJ,↓RK, *])
  | (refine IJ (λ _=>?_) (λ _=>?_)<;>simp (disch:=try exact DI) only [↓PR,QR,simprocAttr,↓RC,↓RD,↓RE,↓RF,↓RG,↓RH,↓RI,↓RJ,↓RK, *])
def RL (c d a:Vl) (R:RT) (w:Wd):Prop:=
 E0q a 0 R w λ e w=>
 E0q a 1 R w λ f w=>
 Yg w λ b w=>
 qV Pg b (sliceAt 9 c (some d) none none) λ g=>
 qV Pg b (ZF .eql 162 true f .nilIface) λ h=>
 R (.returned (.tuple #[e,g,h])) w
def qK (b a c d:Vl) (Zx:KV) (R:RT) (w:Wd):Prop:=
 Zy c d (.bool false) λ e=>
 Zs e (
 B0 .add 3 true a (.int .i64 1) R w λ f w=>
 Zx f w) (
 opV Pg (sliceAt 9 b none (some a) none) (Zd R) w λ g w=>
 C0 125 #[g] R w λ h w=>
 RL b a h R w)
def qL (g h c d i j:Vl) (Zx:KV) (R:RT) (w:Wd):Prop:=
 Zo (λ (a:Vl) (w:Wd)=>
 Zo (λ (b:Vl) (w:Wd)=>
 qK g h c b Zx R w) λ e=>
 Zn c true (
 Zy d (.bool true) a λ b=>
 e b w) (
 e undef w)) λ f=>
 Zn d false (
 Zy i j (.bool false) λ a=>
 f a w) (
 f undef w)
def qM (b e f g c:Vl) (Zx:KV) (R:RT) (w:Wd):Prop:=
 Zo (λ (a:Vl) (w:Wd)=>
 qL b e f g c a Zx R w) λ d=>
 Zn c true (
 opV Pg (Instr.index 9 b (.int .i64 0)) (Zd R) w λ h w=>
 opV Pg (ZF .eql 5 true h (.int .u8 45)) (Zd R) w λ a w=>
 d a w) (
 d undef w)
def qO (d a e b:Vl) (Zx:KV) (R:RT) (w:Wd):Prop:=
 Zo (λ (f:Vl) (w:Wd)=>
 qM d a e b f Zx R w) λ c=>
 Zn b false (
 B0 .eql 3 true a (.int .i64 0) R w λ g w=>
 c g w) (
 c undef w)
def qP (b c d e:Vl) (Zx:KV) (R:RT) (w:Wd):Prop:=
 Zo (λ (a:Vl) (w:Wd)=>
 Zo (λ (h:Vl) (w:Wd)=>
 qO b c d h Zx R w) λ f=>
 Zn d true (
 Zy e a (.bool false) λ i=>
 f i w) (
 f undef w)) λ g=>
 Zn e true (
 opV Pg (Instr.index 9 b c) (Zd R) w λ j w=>
 opV Pg (ZF .leq 5 true j (.int .u8 57)) (Zd R) w λ a w=>
 g a w) (
 g undef w)
def Zcj (a b:Vl) (Zx:KV) (R:RT) (w:Wd):Prop:=
 G0 9 3 a R w λ e w=>
 B0 .lss 3 false b e R w λ c w=>
 Zo (λ (f:Vl) (w:Wd)=>
 qP a b c f Zx R w) λ d=>
 Zn c true (
 opV Pg (Instr.index 9 a b) (Zd R) w λ g w=>
 opV Pg (ZF .geq 5 true g (.int .u8 48)) (Zd R) w λ h w=>
 d h w) (
 d undef w)
def n42 (a:Vl) (R:RT) (w:Wd):Prop:=
 Y6 (λ b w Zx=>
 Zcj a b Zx R w) (.int .i64 0) w
theorem Zkh {t0:Vl} {R:RT} {w:Wd} (h:n42 t0 R w):Calls Pg 87 #[t0] w R:=by
 refine yD func87 ?_
 refine zs<|zr<|zm<|zm<|zm<|zn<|zk<|zs<|zr<|zm<|zn<|zk<|zs<|Zl<|yl1 [5,8,9,10,11,12,13,14,15,16,17,18,19,20,21,22,23,24,25,26,27,28,29,30,31,32,33,34] 5 h λ σ w next h=>?_
 refine zs<|zs<|Zt<|yG 5<|zm<|zm<|yx h λ _ w h=>yb h λ _ w h=>zm<|zn<|yg1 5 4 true [13,14,15,16,17] 17 h (λ _ T hT h=>?_) λ σ w h=>?_
 · refine zm<|zm<|yv h λ _ w h=>yb h λ _ w h=>zm<|zn ?_
   exact zt hT h
 refine yg1 4 9 true [18,19,20,21] 21 h (λ _ T hT h=>?_) λ σ w h=>?_
 · refine zm<|zm<|yv h λ _ w h=>yb h λ _ w h=>zn ?_
   exact zt hT h
 refine yg1 2 4 true [22,23] 23 h (λ _ T hT h=>?_) λ σ w h=>?_
 · refine yp h λ _ h=>zm<|zn ?_
   exact zt hT h
 refine yg1 3 15 false [24,25,26] 26 h (λ _ T hT h=>?_) λ σ w h=>?_
 · refine zm<|yb h λ _ w h=>zm<|zn ?_
   exact zt hT h
 refine yg1 3 18 true [27,28,29] 29 h (λ _ T hT h=>?_) λ σ w h=>?_
 · refine zm<|yv h λ _ w h=>yb h λ _ w h=>zn ?_
   exact zt hT h
 refine yg1 1 15 false [30] 30 h (λ _ T hT h=>?_) λ σ w h=>?_
 · refine yp h λ _ h=>zn ?_
   exact zt hT h
 refine yg1 1 4 true [31] 31 h (λ _ T hT h=>?_) λ σ w h=>?_
 · refine yp h λ _ h=>zn ?_
   exact zt hT h
 refine yG 1<|yp h λ _ h=>zn<|ZK<|zk<|yC h (λ h=>Zj<|zk<|Zl<|zr<|zm<|yb h λ _ w h=>zm<|zn<|Zf<|zk<|⟨rfl,h⟩) λ h=>ZM<|Ze<|Ze<|Zu<|zk<|zs<|zr<|zm ?_
 refine zm<|yv h λ _ w h=>yc h ZiL λ _ w h=>zm<|yv h λ _ w h=>yv h λ _ w h=>zm<|zm<|zn<|zk<|zs<|yh [2,3,4,42,43,44,45,46,47] h λ C hC h=>yw 0 hC ?_
 refine yw 1 hC ?_
 refine yw 2 hC ?_
 refine ye 3 hC h λ _ h=>?_
 refine yw 4 hC ?_
 refine ye 5 hC h λ _ h=>?_
 refine yw 6 hC ?_
 refine yw 7 hC ?_
 refine yw 8 hC ?_
 exact yz<|zk<|Zg<|Nq rfl rfl rfl rfl h
def ZcK (b c:Vl) (d:WPr) (a:PEn) (R:RT) (w:Wd):Prop:=
 opV Pg (loadAt 40 b) a w λ e w=>
 opV Pg (Go.convert 191 5 c) a w λ f w=>
 opV Pg (buildSlice 40 1 #[(0,f)]) a w λ g w=>
 opV Pg (Builtin.append_ #[40,40] 40 #[e,g]) a w λ h w=>
 opU Pg (storeAt 40 b h) a w λ w=>
 d w
def ZcL (b c:Vl) (d:WPr) (a:PEn) (e:Nat→Wd→Prop) (R:RT) (w:Wd):Prop:=
 opV Pg (extract c 0) a w λ f w=>
 opV Pg (extract c 1) a w λ g w=>
 opV Pg (ZF .neq 162 true g .nilIface) a w λ h w=>
 Zs h (
 opU Pg (storeAt 40 b (Value.slice none 0 0)) a w λ w=>
 e 0 w) (
 ZcK b f d a R w)
def Zhq (b c:Vl) (d:WPr) (a:PEn) (e:Nat→Wd→Prop) (l1:Nat) (R:RT) (w:Wd):Prop:=
 Aa l1 w λ w=>
 opV Pg (Go.convert 40 9 c) a w λ f w=>
 ZV Pg 127 #[f,(.int .i64 16),(.int .i64 8)] a w λ g w=>
 ZcL b g d a e R w
def ZcM (a:Vl) (ds:LDf) (R:RT) (w:Wd):Prop:=
 opV Pg (loadAt 40 a) (OQ0 ds 40 a R) w λ b w=>
 opU Pg (storeAt 40 a b) (OQ0 ds 40 a R) w λ w=>
 Uc Pg ds [(some 40,a)] R w
def ZcN (a b:Vl) (ds:LDf) (R:RT) (w:Wd):Prop:=
 BH Pg b ds (λ l1 c w d e f=>
 Zhq a c d f e l1 R w) (λ ch ds w=>OQ0 ds 40 a R ch w) w (λ ds w=>
 ZcM a ds R w) [λ ds w=>
 Uc Pg ds [(some 40,a)] R w]
def n52 (b:Vl) (R:RT) (w:Wd):Prop:=
 (λ (ds:LDf)=>
 opV Pg (alloc 40 true (.tuple #[])) (ZB Pg ds [(some 40,undef)] R) w λ a w=>
 opV Pg (Go.convert 9 40 b) (OQ0 ds 40 a R) w λ c w=>
 ZV Pg 126 #[c,(.int .i64 2)] (OQ0 ds 40 a R) w λ d w=>
 ZcN a d ds R w) []
theorem Zkr {t0:Vl} {R:RT} {w:Wd} (h:n52 t0 R w):Calls Pg 88 #[t0] w R:=by
 refine yE func88 ?_
 unfold n52 at h
 dsimp only at h
 refine zs<|zr<|yv h λ _ w h=>zn<|zk<|zs<|zs<|zr<|zm<|yv h λ _ w h=>yc h ZiM λ _ w h=>zn<|zk<|Zl<|Gt [.ret] h rfl (λ l1 t9 w Kr1 Xr1 Qr1 h=>?_) (λ ds w h=>?_) (λ c ds w h=>?_) (λ ch ds w h=>X7 rfl h)
 · refine zr<|zm<|zn<|zk ?_
   obtain ⟨hr,h⟩:=h
   refine ⟨rfl,hr,λ w hb=>?_⟩
   have h:=h w hb
   refine Zl<|zs<|zr<|zm<|yv h λ _ w h=>yc h c127 λ _ w h=>zm<|yv h λ _ w h=>yv h λ _ w h=>zm<|zm<|zn<|zk<|zs<|zs ?_
   refine zr<|zm<|yb h λ _ w h=>zn<|zk<|yC h (λ h=>zs<|zr<|yu h λ w h=>zn<|zk<|Zg<|Zb<|Zh<|⟨rfl,0,rfl,h⟩) λ h=>Zj<|zk<|zr<|yv h λ _ w h=>zm<|yv h λ _ w h=>yS h λ _ w h=>yx h λ _ w h=>?_
   exact yu h λ w h=>zn<|Zf<|⟨rfl,h⟩
 · exact Zf<|zk<|zs<|zr<|yv h λ _ w h=>yu h λ w h=>zn<|zk<|Zg<|X8 rfl h
 rcases c with _ | c
 · refine ⟨_,rfl,.inl ⟨rfl,?_⟩⟩
   exact Zh<|Zb<|X8 rfl h
 exact h.elim
def Zcz (b e f g h:Vl) (R:RT) (w:Wd):Prop:=
 Zy g h (.bool false) λ c=>
 Zo (λ (a:Vl) (w:Wd)=>
 Zy c a (.bool false) λ i=>
 S0 78 b f R w λ w=>
 qW Pg 78 b w λ r0=>
 R (.returned (.tuple #[r0,i])) w) λ d=>
 Zn c true (
 opV Pg (ZF .eql 9 true e (.string { data := #[] })) (Zd R) w λ a w=>
 d a w) (
 d undef w)
def ZcA (a c g b:Vl) (R:RT) (w:Wd):Prop:=
 E0q b 0 R w λ h w=>
 E0q b 1 R w λ i w=>
 E0q b 2 R w λ j w=>
 F0 78 a 2 R w λ k w=>
 S0 3 k h R w λ w=>
 L0 78 a R w λ l w=>
 Zo (λ (m:Vl) (w:Wd)=>
 Zy c m (.bool false) λ d=>
 Zo (λ (n:Vl) (w:Wd)=>
 Zcz a i l d n R w) λ e=>
 Zn d true (
 e j w) (
 e undef w)) λ f=>
 Zn c true (
 f g w) (
 f undef w)
def ZcB (b c a:Vl) (R:RT) (w:Wd):Prop:=
 E0q a 0 R w λ d w=>
 E0q a 1 R w λ e w=>
 C0 87 #[d] R w λ f w=>
 ZcA b c e f R w
def ZcC (c d e f g:Vl) (R:RT) (w:Wd):Prop:=
 Zy d g (.bool false) λ a=>
 Zo (λ (h:Vl) (w:Wd)=>
 Zy a h (.bool false) λ i=>
 ZV Pg 128 #[e,(.string { data := #[58] })] (Zd R) w λ j w=>
 ZcB c i j R w) λ b=>
 Zn a true (
 b f w) (
 b undef w)
def ZcD (b c e a:Vl) (R:RT) (w:Wd):Prop:=
 E0q a 0 R w λ f w=>
 E0q a 1 R w λ g w=>
 E0q a 2 R w λ h w=>
 F0 78 b 1 R w λ i w=>
 S0 3 i f R w λ w=>
 Zo (λ (j:Vl) (w:Wd)=>
 ZcC b c g h j R w) λ d=>
 Zn c true (
 d e w) (
 d undef w)
def ZcE (b c a:Vl) (R:RT) (w:Wd):Prop:=
 E0q a 0 R w λ d w=>
 E0q a 1 R w λ e w=>
 C0 87 #[d] R w λ f w=>
 ZcD b c e f R w
def ZcF (b a:Vl) (R:RT) (w:Wd):Prop:=
 E0q a 0 R w λ c w=>
 E0q a 1 R w λ d w=>
 E0q a 2 R w λ e w=>
 F0 78 b 0 R w λ f w=>
 S0 3 f c R w λ w=>
 ZV Pg 128 #[d,(.string { data := #[45] })] (Zd R) w λ g w=>
 ZcE b e g R w
def n50 (a:Vl) (R:RT) (w:Wd):Prop:=
 opV Pg (alloc 78 true (.tuple #[])) (Zd R) w λ b w=>
 C0 87 #[a] R w λ c w=>
 ZcF b c R w
theorem Zkp {t0:Vl} {R:RT} {w:Wd} (h:n50 t0 R w):Calls Pg 89 #[t0] w R:=by
 refine yD func89 ?_
 refine zs<|zr<|yv h λ _ w h=>zm<|zn<|zk<|zs<|zr<|zm<|zm<|zm<|zn<|zk<|zs<|zr ?_
 refine zm<|yc h c87 λ _ w h=>zm<|yv h λ _ w h=>yv h λ _ w h=>yv h λ _ w h=>yv h λ _ w h=>yu h λ w h=>zm<|zm<|zn<|zk<|zs<|zr<|zm ?_
 refine yc h Ze2 λ _ w h=>zm<|yv h λ _ w h=>yv h λ _ w h=>zm<|zm<|zn<|zk<|zs<|zr<|zm<|yc h c87 λ _ w h=>zm<|yv h λ _ w h=>yv h λ _ w h=>?_
 refine yv h λ _ w h=>yv h λ _ w h=>yu h λ w h=>zm<|zm<|zn<|zk<|zs<|Zt<|yG 2<|zm<|zm<|zn<|yg1 1 1 true [28] 28 h (λ _ T hT h=>?_) λ σ w h=>?_
 · refine zm<|zn ?_
   exact zt hT h
 refine yG 2<|yp h λ _ h=>zm<|zn<|yg1 1 4 true [31] 31 h (λ _ T hT h=>?_) λ σ w h=>?_
 · refine zm<|zn ?_
   exact zt hT h
 refine yG 2<|yp h λ _ h=>zm<|zn<|ZK<|zk<|zs<|zr<|zm<|yc h Ze2 λ _ w h=>zm<|yv h λ _ w h=>yv h λ _ w h=>zm<|zm ?_
 refine zn<|zk<|zs<|zr<|zm<|yc h c87 λ _ w h=>zm<|yv h λ _ w h=>yv h λ _ w h=>yv h λ _ w h=>yv h λ _ w h=>yu h λ w h=>zm<|zm<|zn ?_
 refine zk<|zs<|Zt<|yG 3<|yv h λ _ w h=>zm<|zm<|zn<|yg1 1 2 true [48] 48 h (λ _ T hT h=>?_) λ σ w h=>?_
 · refine zm<|zn ?_
   exact zt hT h
 refine yG 2<|yp h λ _ h=>zm<|zn<|yg1 1 5 true [51] 51 h (λ _ T hT h=>?_) λ σ w h=>?_
 · refine zm<|zn ?_
   exact zt hT h
 refine yG 2<|yp h λ _ h=>zm<|zn<|yg1 2 8 true [54,55] 55 h (λ _ T hT h=>?_) λ σ w h=>?_
 · refine zm<|yb h λ _ w h=>zn ?_
   exact zt hT h
 exact yG 3<|yp h λ _ h=>yu h λ w h=>zm<|zn<|ZK<|zk<|Zg<|YH rfl rfl rfl h
def ZgH (a b:Vl) (R:RT) (w:Wd):Prop:=
 C0 129 #[a,b] R w λ c w=>
 B0 .geq 3 true c (.int .i64 0) R w λ d w=>
 R (.returned d) w
theorem ZgI {t0 t1:Vl} {R:RT} {w:Wd} (h:ZgH t0 t1 R w):Calls Pg 90 #[t0,t1] w R:=by
 refine yD func90 ?_
 refine zs<|zr<|zm<|zn<|zk<|zs<|zr<|zm<|zm<|yc h ZiN λ _ w h=>yb h λ _ w h=>zm<|zn<|zk<|Zg ?_
 exact Zi rfl rfl h
def n46 (a:Vl) (R:RT) (w:Wd):Prop:=
 C0 35 #[a] R w λ b w=>
 N0 b R w λ c w=>
 R (.returned c) w
theorem Zkl {t0:Vl} {R:RT} {w:Wd} (h:n46 t0 R w):Calls Pg 91 #[t0] w R:=by
 refine yD func91 ?_
 exact zs<|zr<|zm<|zn<|zk<|zs<|zr<|zm<|yc h c35 λ _ w h=>yv h λ _ w h=>zm<|zn<|zk<|Zg<|Zi rfl rfl h
def Rl (a b:Vl) (R:RT) (w:Wd):Prop:=
 N0 b R w λ c w=>
 Zs c (
 R (.returned (.tuple #[(.int .i64 0),(.bool false)])) w) (
 L0 3 a R w λ d w=>
 R (.returned (.tuple #[d,(.bool true)])) w)
def ZbR (b a:Vl) (c:WPr) (R:RT) (w:Wd):Prop:=
 L0 3 a R w λ d w=>
 F0 43 b 3 R w λ e w=>
 L0 3 e R w λ f w=>
 B0 .add 3 false d f R w λ g w=>
 S0 3 a g R w λ w=>
 c w
def ZbS (a b c:Vl) (d:WPr) (R:RT) (w:Wd):Prop:=
 F0 43 a 6 R w λ e w=>
 L0 41 e R w λ f w=>
 X0 41 f c R w λ g w=>
 F0 78 g 2 R w λ h w=>
 L0 3 h R w λ i w=>
 S0 3 b i R w λ w=>
 d w
def ZbT (a b:Vl) (d:WPr) (R:RT) (w:Wd):Prop:=
 F0 43 a 6 R w λ e w=>
 L0 41 e R w λ f w=>
 opV Pg (makeFunc (.func 44) #[] #[b]) (Zd R) w λ g w=>
 C0 43 #[f,g] R w λ c w=>
 B0 .lss 3 true c (.int .i64 0) R w λ h w=>
 Zs h (
 R (.returned (.tuple #[(.int .i64 0),(.bool false)])) w) (
 ZbS a b c d R w)
def ZbU (a b:Vl) (c:WPr) (R:RT) (w:Wd):Prop:=
 F0 43 a 4 R w λ d w=>
 L0 3 d R w λ e w=>
 S0 3 b e R w λ w=>
 c w
def ZbV (a b:Vl) (c:WPr) (R:RT) (w:Wd):Prop:=
 F0 43 a 3 R w λ d w=>
 L0 3 d R w λ e w=>
 F0 43 a 3 R w λ f w=>
 L0 3 f R w λ g w=>
 opV Pg (Op.unary .neg g) (Zd R) w λ h w=>
 opV Pg (Builtin.max_ #[3,3] 3 #[e,h]) (Zd R) w λ i w=>
 C0 42 #[i] R w λ j w=>
 N0 j R w λ k w=>
 Zs k (
 R (.returned (.tuple #[(.int .i64 0),(.bool false)])) w) (
 ZbR a b c R w)
def MM (a b c:Vl) (d:WPr) (R:RT) (w:Wd):Prop:=
 B0 .eql 39 true c (.int .i64 3) R w λ e w=>
 Zs e (
 ZbU a b d R w) (
 B0 .eql 39 true c (.int .i64 5) R w λ f w=>
 Zs f (
 ZbT a b d R w) (
 R (.returned (.tuple #[(.int .i64 0),(.bool false)])) w))
def ZbW (b a:Vl) (R:RT) (w:Wd):Prop:=
 F0 43 b 1 R w λ e w=>
 L0 39 e R w λ c w=>
 B0 .eql 39 true c (.int .i64 1) R w λ f w=>
 Zo (λ (w:Wd)=>
 L0 3 a R w λ g w=>
 C0 42 #[g] R w λ h w=>
 Rl a h R w) λ d=>
 Zs f (
 d w) (
 B0 .eql 39 true c (.int .i64 2) R w λ i w=>
 Zs i (
 ZbV b a d R w) (
 MM b a c d R w))
def n21 (b c:Vl) (R:RT) (w:Wd):Prop:=
 opV Pg (box 43 b) (Zd R) w λ d w=>
 opV Pg (box 3 c) (Zd R) w λ a w=>
 L0 3 a R w λ e w=>
 C0 42 #[e] R w λ f w=>
 N0 f R w λ g w=>
 Zs g (
 R (.returned (.tuple #[(.int .i64 0),(.bool false)])) w) (
 ZbW d a R w)
theorem ZjY {t0 t1:Vl} {R:RT} {w:Wd} (h:n21 t0 t1 R w):Calls Pg 18 #[t0,t1] w R:=by
 refine yD func18 ?_
 refine zs<|zr<|yv h λ _ w h=>yv h λ _ w h=>zm<|zm<|zn<|zk<|zs<|zs<|zr<|yv h λ _ w h=>yc h c42 λ _ w h=>yv h λ _ w h=>zn ?_
 refine zk<|yC h (λ h=>zs<|zr<|zm<|zm<|zn<|zk<|Zg<|Zb<|Yk rfl rfl rfl h) λ h=>Zj<|zk<|zs<|zs<|zr<|yv h λ _ w h=>yv h λ _ w h=>zn<|zk<|Zl<|zs<|zr ?_
 refine yb h λ _ w h=>zm<|zn<|zk<|yJ0 [4,5,6,14,15,16,17,18,19,20,21,22,23,24,25,26,27,28,29,30,31,32,33,34,35,36,37,38,39,40,41,42,43,44,45] h (λ _ _ hkK1 h=>?_) λ σ w h=>?_
 · refine yC h (λ h=>?_) λ h=>?_
   · refine Zj<|zk ?_
     exact zt hkK1 h
   refine zs<|zr<|yb h λ _ w h=>zm<|zn<|zk<|yC h (λ h=>?_) λ h=>?_
   · refine zs<|zs<|zr<|yv h λ _ w h=>yv h λ _ w h=>yv h λ _ w h=>yv h λ _ w h=>yv h λ _ w h=>yx h λ _ w h=>yc h c42 λ _ w h=>yv h λ _ w h=>zn<|zk<|yC h (λ h=>zs<|zr<|zm<|zm<|zn<|zk<|Zg<|Zb<|Zb<|Zh<|Zb<|Yk rfl rfl rfl h) λ h=>?_
     refine Zj<|zk<|zr<|yv h λ _ w h=>yv h λ _ w h=>yv h λ _ w h=>yb h λ _ w h=>yu h λ w h=>zn<|zk ?_
     exact zt hkK1 h
   refine zs<|zr<|yb h λ _ w h=>zm<|zn<|zk<|yC h (λ h=>?_) λ h=>?_
   · refine zr<|yv h λ _ w h=>yv h λ _ w h=>yu h λ w h=>zn<|zk ?_
     exact zt hkK1 h
   refine zs<|zr<|yb h λ _ w h=>zm<|zn<|zk<|yC h (λ h=>?_) λ h=>?_
   · refine zs<|zr<|yv h λ _ w h=>yv h λ _ w h=>yF h λ _ w h=>yc h c43 λ _ w h=>zm<|zn<|zk<|zs<|zs<|zr<|zm<|yb h λ _ w h=>zn ?_
     refine zk<|yC h (λ h=>zs<|zr<|zm<|zm<|zn<|zk<|Zg<|Zb<|Zb<|Zh<|Zb<|Yk rfl rfl rfl h) λ h=>Zj<|zk<|zr<|yv h λ _ w h=>yv h λ _ w h=>zm<|yv h λ _ w h=>yv h λ _ w h=>yv h λ _ w h=>yu h λ w h=>zn<|zk ?_
     exact zt hkK1 h
   exact zs<|zr<|zm<|zm<|zn<|zk<|Zg<|Zb<|Zh<|Zb<|Yk rfl rfl rfl h
 refine Zf<|zk<|zs<|zs<|zr<|yv h λ _ w h=>yc h c42 λ _ w h=>yv h λ _ w h=>zn<|zk<|yC h (λ h=>zs<|zr<|zm<|zm<|zn<|zk<|Zg<|Zb<|Yk rfl rfl rfl h) λ h=>Zj<|zk<|zs ?_
 exact zr<|yv h λ _ w h=>zm<|zm<|zn<|zk<|Zg<|Yk rfl rfl rfl h
def Zb5 (a:Vl) (R:RT) (w:Wd):Prop:=
 opV Pg (Builtin.max_ #[3,3] 3 #[a,(.int .i64 0)]) (Zd R) w λ b w=>
 B0 .geq 3 true a (.int .i64 0) R w λ c w=>
 R (.returned (.tuple #[b,c])) w
def n27 (a b:Vl) (R:RT) (w:Wd):Prop:=
 opV Pg (box 24 a) (Zd R) w λ c w=>
 opV Pg (box 9 b) (Zd R) w λ d w=>
 F0 24 c 1 R w λ e w=>
 L0 22 e R w λ f w=>
 opV Pg (makeFunc (.func 47) #[] #[d]) (Zd R) w λ g w=>
 C0 46 #[f,g] R w λ h w=>
 Zb5 h R w
theorem Zj2 {t0 t1:Vl} {R:RT} {w:Wd} (h:n27 t0 t1 R w):Calls Pg 20 #[t0,t1] w R:=by
 refine yD func20 ?_
 refine zs<|zr<|yv h λ _ w h=>yv h λ _ w h=>zm<|zm<|zn<|zk<|zs<|zr<|yv h λ _ w h=>yv h λ _ w h=>yF h λ _ w h=>yc h c46 λ _ w h=>zm ?_
 exact zn<|zk<|zs<|zr<|zm<|yx h λ _ w h=>zm<|yb h λ _ w h=>zm<|zm<|zn<|zk<|Zg<|Yk rfl rfl rfl h
abbrev UI (w:Wd) (v:Vl) (l:List BAr):Prop:=Zc w 1 zH v l
theorem before_succ {α:Type} {p:α→Bool} {l:List α} {k:Nat} {x:α} (h:∀ (j:Nat) y,j < k→l[j]?=some y→p y=false) (hx:l[k]?=some x) (hp:p x=false):∀ (j:Nat) y,j < k+1→l[j]?=some y→p y=false:=λ j y hj hy=>by
 by_cases hjk:j=k
 · subst hjk;rw [hx] at hy;injection hy with hy;subst hy;exact hp
 · exact h j y (by omega) hy
theorem Gw (w0:Wd) (v:Vl) (l:List MrD) (g:FuncId) (caps:AVl) (p:MrD→Bool) (hs:VC w0 v l) (hg:Callable Pg g) (hc:UK w0 UF g caps p l) :
 Ret Pg 46 #[v,.func (.func g) #[] caps] w0 λ r w'=>r = .int .i64 (idx p l)∧Ext w0 w':=by
 obtain ⟨A,c,rfl,hlc,hcm,hlm,Y1⟩:=Zc.open hs
 refine Zg6 (R:=ZI _) ?_;unfold Zg5
 simp (disch:=try exact DI) only [↓PR,QR,simprocAttr]
 refine ZJ (λ i w=>∃ k:Nat,i = .int .i64 k∧k≤l.length∧Ext w0 w∧∀ (j:Nat) y,j < k→l[j]?=some y→p y=false) (λ i _=>l.length - (intOf i).toNat) ⟨0,rfl,by omega,Ext.refl _,λ j y h=>by omega⟩ ?_
 rintro i w ⟨k,rfl,hk,e,hb⟩
 by_cases Yq:k < l.length
 · obtain ⟨x,hx⟩:=getElem?_lt Yq
   obtain ⟨b,o,cs,rfl,hl,hA,hE⟩:=Y1 k x hx
   have hd:decide ((k:Int) < (l.length:Int))=true:=by simp;omega
   simp (disch:=try exact DI) only [↓PR,QR,simprocAttr,hd]
   unfold Rb
   simp (disch:=try exact DI) only [↓PR,QR,simprocAttr]
   obtain ⟨fv,rfl,hF⟩:=hE
   have o1:=Zc.oneCell hF
   have hV:UF w0 (.agg (Z6 x fv).toArray) x:=⟨fv,rfl,hF⟩
   simp (disch:=try exact DI) only [↓PR,QR,simprocAttr,hA.c3 e]
   rw [YI hg]
   simp only [Array.empty_append]
   refine Zk (hc w _ x (List.mem_of_getElem? hx) e (hV.ext e)) ?_
   rintro r w' ⟨rfl,e'⟩
   cases hp:p x with
   | true=>
    simp (disch:=try exact DI) only [↓PR,QR,simprocAttr]
    exact ⟨by rw [Q2 hx hp hb],e.trans e'⟩
   | false=>
    simp (disch:=try exact DI) only [↓PR,QR,simprocAttr]
    exact ⟨⟨k+1,rfl,by omega,e.trans e',before_succ hb hx hp⟩,by simp [intOf];omega⟩
 · have hd:decide ((k:Int) < (l.length:Int))=false:=by simp;omega
   simp (disch:=try exact DI) only [↓PR,QR,simprocAttr,hd]
   exact ⟨by rw [Q3 λ j y hy=>hb j y (by have:=(List.getElem?_eq_some_iff.1 hy).1;omega) hy],e⟩
theorem zI (w0:Wd) (v:Vl) (l:List Qx) (g:FuncId) (caps:AVl) (p:Qx→Bool) (hs:QX w0 v l) (hg:Callable Pg g) (hc:UK w0 (λ _ v x=>v = .agg (Z9 x).toArray) g caps p l) :
 Ret Pg 43 #[v,.func (.func g) #[] caps] w0 λ r w'=>r = .int .i64 (idx p l)∧Ext w0 w':=by
 obtain ⟨A,c,rfl,hlc,hcm,hlm,Y1⟩:=Zc.open hs
 refine Zg8 (R:=ZI _) ?_;unfold Zg7
 simp (disch:=try exact DI) only [↓PR,QR,simprocAttr]
 refine ZJ (λ i w=>∃ k:Nat,i = .int .i64 k∧k≤l.length∧Ext w0 w∧∀ (j:Nat) y,j < k→l[j]?=some y→p y=false) (λ i _=>l.length - (intOf i).toNat) ⟨0,rfl,by omega,Ext.refl _,λ j y h=>by omega⟩ ?_
 rintro i w ⟨k,rfl,hk,e,hb⟩
 by_cases Yq:k < l.length
 · obtain ⟨x,hx⟩:=getElem?_lt Yq
   obtain ⟨b,o,cs,rfl,hl,hA,hE⟩:=Y1 k x hx
   have hd:decide ((k:Int) < (l.length:Int))=true:=by simp;omega
   simp (disch:=try exact DI) only [↓PR,QR,simprocAttr,hd]
   unfold Rc
   simp (disch:=try exact DI) only [↓PR,QR,simprocAttr]
   obtain rfl:=hE
   have hV:(.agg (Z9 x).toArray:Vl) = .agg (Z9 x).toArray:=rfl
   simp (disch:=try exact DI) only [↓PR,QR,simprocAttr,hA.c3 e]
   rw [YI hg]
   simp only [Array.empty_append]
   refine Zk (hc w _ x (List.mem_of_getElem? hx) e (hV)) ?_
   rintro r w' ⟨rfl,e'⟩
   cases hp:p x with
   | true=>
    simp (disch:=try exact DI) only [↓PR,QR,simprocAttr]
    exact ⟨by rw [Q2 hx hp hb],e.trans e'⟩
   | false=>
    simp (disch:=try exact DI) only [↓PR,QR,simprocAttr]
    exact ⟨⟨k+1,rfl,by omega,e.trans e',before_succ hb hx hp⟩,by simp [intOf];omega⟩
 · have hd:decide ((k:Int) < (l.length:Int))=false:=by simp;omega
   simp (disch:=try exact DI) only [↓PR,QR,simprocAttr,hd]
   exact ⟨by rw [Q3 λ j y hy=>hb j y (by have:=(List.getElem?_eq_some_iff.1 hy).1;omega) hy],e⟩
theorem Gv (w0:Wd) (v:Vl) (l:List FrD) (g:FuncId) (caps:AVl) (p:FrD→Bool) (hs:QZ w0 v l) (hg:Callable Pg g) (hc:UK w0 Wf g caps p l) :
 Ret Pg 114 #[v,.func (.func g) #[] caps] w0 λ r w'=>r = .int .i64 (idx p l)∧Ext w0 w':=by
 obtain ⟨A,c,rfl,hlc,hcm,hlm,Y1⟩:=Zc.open hs
 refine Zg2 (R:=ZI _) ?_;unfold Zg1
 simp (disch:=try exact DI) only [↓PR,QR,simprocAttr]
 refine ZJ (λ i w=>∃ k:Nat,i = .int .i64 k∧k≤l.length∧Ext w0 w∧∀ (j:Nat) y,j < k→l[j]?=some y→p y=false) (λ i _=>l.length - (intOf i).toNat) ⟨0,rfl,by omega,Ext.refl _,λ j y h=>by omega⟩ ?_
 rintro i w ⟨k,rfl,hk,e,hb⟩
 by_cases Yq:k < l.length
 · obtain ⟨x,hx⟩:=getElem?_lt Yq
   obtain ⟨b,o,cs,rfl,hl,hA,hE⟩:=Y1 k x hx
   have hd:decide ((k:Int) < (l.length:Int))=true:=by simp;omega
   simp (disch:=try exact DI) only [↓PR,QR,simprocAttr,hd]
   unfold P9
   simp (disch:=try exact DI) only [↓PR,QR,simprocAttr]
   obtain ⟨bv,tv,rfl,hB,hT,o1,o2⟩:=hE.op
   have hV:Wf w0 (.agg (Zz x bv tv).toArray) x:=⟨bv,tv,rfl,hB,hT⟩
   simp (disch:=try exact DI) only [↓PR,QR,simprocAttr,hA.c7 e]
   rw [YI hg]
   simp only [Array.empty_append]
   refine Zk (hc w _ x (List.mem_of_getElem? hx) e (hV.ext e)) ?_
   rintro r w' ⟨rfl,e'⟩
   cases hp:p x with
   | true=>
    simp (disch:=try exact DI) only [↓PR,QR,simprocAttr]
    exact ⟨by rw [Q2 hx hp hb],e.trans e'⟩
   | false=>
    simp (disch:=try exact DI) only [↓PR,QR,simprocAttr]
    exact ⟨⟨k+1,rfl,by omega,e.trans e',before_succ hb hx hp⟩,by simp [intOf];omega⟩
 · have hd:decide ((k:Int) < (l.length:Int))=false:=by simp;omega
   simp (disch:=try exact DI) only [↓PR,QR,simprocAttr,hd]
   exact ⟨by rw [Q3 λ j y hy=>hb j y (by have:=(List.getElem?_eq_some_iff.1 hy).1;omega) hy],e⟩
theorem Wq (w0:Wd) (v:Vl) (l:List FrD) (g:FuncId) (caps:AVl) (p:FrD→Bool) (hs:QZ w0 v l) (hg:Callable Pg g) (hc:UK w0 Wf g caps p l) :
 Ret Pg 78 #[v,.func (.func g) #[] caps] w0 λ r w'=>r = .bool (l.any p)∧Ext w0 w':=by
 refine ZgC (R:=ZI _) ?_;unfold ZgB
 refine Zk (Gv _ _ l g caps p hs hg hc) ?_
 rintro r w' ⟨rfl,e⟩
 simp (disch:=try exact DI) only [↓PR,QR,simprocAttr,joinK_eq]
 exact ⟨by rw [Vu],e⟩
theorem KU (w0:Wd) (v:Vl) (l:List BAr) (g:FuncId) (caps:AVl) (p:BAr→Bool) (hs:UI w0 v l) (hg:Callable Pg g) (hc:UK w0 (λ _ v x=>v = .string x) g caps p l) :
 Ret Pg 129 #[v,.func (.func g) #[] caps] w0 λ r w'=>r = .int .i64 (idx p l)∧Ext w0 w':=by
 obtain ⟨A,c,rfl,hlc,hcm,hlm,Y1⟩:=Zc.open hs
 refine Zhe (R:=ZI _) ?_;unfold Zhd
 simp (disch:=try exact DI) only [↓PR,QR,simprocAttr]
 refine ZJ (λ i w=>∃ k:Nat,i = .int .i64 k∧k≤l.length∧Ext w0 w∧∀ (j:Nat) y,j < k→l[j]?=some y→p y=false) (λ i _=>l.length - (intOf i).toNat) ⟨0,rfl,by omega,Ext.refl _,λ j y h=>by omega⟩ ?_
 rintro i w ⟨k,rfl,hk,e,hb⟩
 by_cases Yq:k < l.length
 · obtain ⟨x,hx⟩:=getElem?_lt Yq
   obtain ⟨b,o,cs,rfl,hl,hA,hE⟩:=Y1 k x hx
   have hd:decide ((k:Int) < (l.length:Int))=true:=by simp;omega
   simp (disch:=try exact DI) only [↓PR,QR,simprocAttr,hd]
   unfold Rf
   simp (disch:=try exact DI) only [↓PR,QR,simprocAttr]
   obtain rfl:=hE
   have hV:(.string x:Vl) = .string x:=rfl
   simp (disch:=try exact DI) only [↓PR,QR,simprocAttr,hA.c1 e]
   rw [YI hg]
   simp only [Array.empty_append]
   refine Zk (hc w _ x (List.mem_of_getElem? hx) e (hV)) ?_
   rintro r w' ⟨rfl,e'⟩
   cases hp:p x with
   | true=>
    simp (disch:=try exact DI) only [↓PR,QR,simprocAttr]
    exact ⟨by rw [Q2 hx hp hb],e.trans e'⟩
   | false=>
    simp (disch:=try exact DI) only [↓PR,QR,simprocAttr]
    exact ⟨⟨k+1,rfl,by omega,e.trans e',before_succ hb hx hp⟩,by simp [intOf];omega⟩
 · have hd:decide ((k:Int) < (l.length:Int))=false:=by simp;omega
   simp (disch:=try exact DI) only [↓PR,QR,simprocAttr,hd]
   exact ⟨by rw [Q3 λ j y hy=>hb j y (by have:=(List.getElem?_eq_some_iff.1 hy).1;omega) hy],e⟩
theorem UC (w0:Wd) (v:Vl) (l:List BAr) (g:FuncId) (caps:AVl) (p:BAr→Bool) (hs:UI w0 v l) (hg:Callable Pg g) (hc:UK w0 (λ _ v x=>v = .string x) g caps p l) :
 Ret Pg 90 #[v,.func (.func g) #[] caps] w0 λ r w'=>r = .bool (l.any p)∧Ext w0 w':=by
 refine ZgI (R:=ZI _) ?_;unfold ZgH
 refine Zk (KU _ _ l g caps p hs hg hc) ?_
 rintro r w' ⟨rfl,e⟩
 simp (disch:=try exact DI) only [↓PR,QR,simprocAttr,joinK_eq]
 exact ⟨by rw [Vu],e⟩
theorem Iw (w:Wd) (v:Vl) (x:MrD) (hv:UF w v x) (q:Nat) (s:BAr) (hq:w.heap[q]?=some (.cells #[.string s] 9 (0,0))):Ret Pg 47 #[v,.pointer (some ⟨q,0,none⟩)] w λ r w'=>r = .bool (decide (x.fr=s))∧Ext w w':=by
 obtain ⟨fv,rfl,hF,o1⟩:=hv.op
 refine Zj3 (R:=ZI _) ?_;unfold n28
 rw [YB]
 have jr:=Yn.new (w:=w) (Z6 x fv) (60)
 have eW:Ext w (w.alloc (Obj.cells (List.toArray (Z6 x fv)) (60))):=(Ext.refl _).alloc _
 generalize (w.alloc (Obj.cells (List.toArray (Z6 x fv)) (60)))=W at jr eW ⊢
 have c:=Za (eW.obj hq)
 simp (disch:=try exact DI) only [↓PR,QR,simprocAttr,jr.c3 (Ext.refl W),c.1]
 exact ⟨by trivial,eW⟩
theorem Oa (w:Wd) (v:Vl) (x y:FrD) (hv:Wf w v x) (q:Nat) (bv tv:Vl) (hq:w.heap[q]?=some (.cells (Zz y bv tv).toArray 43 (0,0))):Ret Pg 111 #[v,.pointer (some ⟨q,0,none⟩)] w λ r w'=>r = .bool (decide (x.to=y.to))∧Ext w w':=by
 obtain ⟨bx,tx,rfl,hB,hT,o1,o2⟩:=hv.op
 refine Zkb (R:=ZI _) ?_;unfold n36
 rw [YB]
 have jr:=Yn.new (w:=w) (Zz x bx tx) (43)
 have eW:Ext w (w.alloc (Obj.cells (List.toArray (Zz x bx tx)) (43))):=(Ext.refl _).alloc _
 generalize (w.alloc (Obj.cells (List.toArray (Zz x bx tx)) (43)))=W at jr eW ⊢
 have c:=Za (eW.obj hq)
 simp (disch:=try exact DI) only [↓PR,QR,simprocAttr,jr.c7 (Ext.refl W),c.1]
 exact ⟨by trivial,eW⟩
theorem AL (w:Wd) (v:Vl) (x:FrD) (f:Zq) (hv:Wf w v x) (q:Nat) (bv tv:Vl) (hq:w.heap[q]?=some (.cells (Zp f bv tv).toArray 123 (0,0))):Ret Pg 79 #[v,.pointer (some ⟨q,0,none⟩)] w λ r w'=>r = .bool (decide (x.to=f.name))∧Ext w w':=by
 obtain ⟨bx,tx,rfl,hB,hT,o1,o2⟩:=hv.op
 refine Zj7 (R:=ZI _) ?_;unfold n32
 rw [YB]
 have jr:=Yn.new (w:=w) (Zz x bx tx) (43)
 have eW:Ext w (w.alloc (Obj.cells (List.toArray (Zz x bx tx)) (43))):=(Ext.refl _).alloc _
 generalize (w.alloc (Obj.cells (List.toArray (Zz x bx tx)) (43)))=W at jr eW ⊢
 have c:=Za (eW.obj hq)
 simp (disch:=try exact DI) only [↓PR,QR,simprocAttr,jr.c7 (Ext.refl W),c.1]
 exact ⟨by trivial,eW⟩
theorem Fl {α:Type} (p:α→Bool) (l:List α):(l.find? p=none∧l.findIdx? p=none∧l.any p=false∧NU p l=0∧idx p l = -1)∨∃ (k:Nat) (x:α),l[k]?=some x∧l.find? p=some x∧l.findIdx? p=some k∧l.any p=true∧NU p l=k∧idx p l=k:=by
 cases h:l.findIdx? p with
 | none=>
  have hi:idx p l = -1:=by unfold idx;rw [h]
  have hn:=List.findIdx?_eq_none_iff.1 h
  exact .inl ⟨List.find?_eq_none.2 λ x hx=>by simp [hn x hx],rfl,List.any_eq_false.2 λ x hx=>by simp [hn x hx],by unfold NU;rw [hi];rfl,hi⟩
 | some k=>
  have hi:idx p l=k:=by unfold idx;rw [h]
  obtain ⟨hk,h1,h2⟩:=List.findIdx?_eq_some_iff_getElem.1 h
  refine .inr ⟨k,l[k],List.getElem?_eq_getElem hk,?_,rfl,List.any_eq_true.2 ⟨_,List.getElem_mem hk,h1⟩,by unfold NU;rw [hi,if_neg (by omega)],hi⟩
  exact List.find?_eq_some_iff_getElem.2 ⟨h1,k,hk,rfl,λ j hj=>by simpa using h2 j hj⟩
theorem jZ (w0:Wd) (v:Vl) (m:Yo) (s:BAr) (hm:YO w0 v m):Ret Pg 20 #[v,.string s] w0 λ r w'=>r = .tuple #[.int .i64 (((KF m s).getD 0:Nat):Int),.bool (KF m s).isSome]∧Ext w0 w':=by
 obtain ⟨rv,rfl,hR,o1⟩:=hm.op
 refine Zj2 (R:=ZI _) ?_;unfold n27
 rw [YB]
 have jr:=Yn.new (w:=w0) (ZL m rv) (24)
 have eW:Ext w0 (w0.alloc (Obj.cells (List.toArray (ZL m rv)) (24))):=(Ext.refl _).alloc _
 generalize (w0.alloc (Obj.cells (List.toArray (ZL m rv)) (24)))=W at jr eW ⊢
 simp (disch:=try exact DI) only [↓PR,QR,simprocAttr,λ o=>jr.c2 ((Ext.refl W).alloc o)]
 generalize hV:World.alloc W _=V
 have oV:V.heap[W.heap.size]?=some (.cells #[.string s] 9 (0,0)):=by rw [← hV];exact Zv _ _ _
 have eV:Ext W V:=by rw [← hV];exact (Ext.refl W).alloc _
 clear hV
 refine Zk (Gw V _ m.rules _ _ (λ r=>decide (r.fr=s)) (hR.ext (eW.trans eV)) c47 λ w u x _ e hu=>Iw w u x hu _ s (e.obj oV)) ?_
 rintro _ w' ⟨rfl,e⟩
 unfold Zb5 KF
 rcases Fl (λ r:MrD=>decide (r.fr=s)) m.rules with ⟨_,h2,_,_,h5⟩ | ⟨k,x,_,_,h2,_,_,h5⟩
 · rw [h2,h5]
   simp (disch:=try exact DI) only [↓PR,QR,simprocAttr]
   exact ⟨by trivial,eW.trans (eV.trans e)⟩
 · rw [h2,h5]
   have hk:¬ (0:Int) > (k:Int):=by omega
   have hk2:decide ((0:Int)≤(k:Int))=true:=by simp
   simp (disch:=try exact DI) only [↓PR,QR,simprocAttr,hk,hk2]
   exact ⟨by trivial,eW.trans (eV.trans e)⟩
def Vj (a f c:Int):PanicEntry:={ v := .iface 82 (Vt a f c),recovered:=false }
def mR (w:Wd) (b:Bool) (a f c:Int):Ending→Wd→Prop:=λ e w'=>Ext w w'∧(b=true∧e = .returned (.tuple #[])∨b=false∧e = .panicked [Vj a f c])
theorem YP {f:FuncId} {args:AVl} {QP:PEn} {w:Wd} {k:KV} {b:Bool} {a fl c:Int} (h:Calls Pg f args w (mR w b a fl c)) (hk:∀ w',Ext w w'→b=true→k (.tuple #[]) w') (hp:∀ w',Ext w w'→b=false→QP [Vj a fl c] w'):ZV Pg f args QP w k:=
 Uf h (λ v w' h=>by rcases h with ⟨e,⟨h1,h2⟩ | ⟨_,h2⟩⟩<;>cases h2;exact hk w' e h1) (λ ch w' h=>by rcases h with ⟨e,⟨_,h2⟩ | ⟨h1,h2⟩⟩<;>cases h2;exact hp w' e h1) (λ w' h=>by rcases h with ⟨_,⟨_,h2⟩ | ⟨_,h2⟩⟩<;>cases h2)
theorem EA {w w':Wd} {b:Bool} {a f c:Int} (e:Ext w w') (h:b=true):mR w b a f c (.returned (.tuple #[])) w':=⟨e,.inl ⟨h,rfl⟩⟩
theorem xD {w w':Wd} {b:Bool} {a f c c':Int} (e:Ext w w') (h:b=false) (hc:c=c'):Zd (mR w b a f c) [Vj a f c'] w':=⟨e,.inr ⟨h,by rw [hc]⟩⟩
structure CkM (a0 w:Wd) (cb:Nat) (m:Yo) (d e:Xv) (ru fi:Int):Prop where
 ext:Ext a0 w
 low:a0.heap.size≤cb
 obj:∃ rv dv ev,w.heap[cb]?=some (.cells #[.string m.name,rv,.string d.name,dv,.string d.start,.string e.name,ev,.string e.start,.int .i64 ru,.int .i64 fi] 81 (0,0))∧VC a0 rv m.rules∧Vg a0 dv d.msgs∧Vg a0 ev e.msgs
section
variable {a0 w:Wd} {cb:Nat} {m:Yo} {d e:Xv} {ru fi:Int}
theorem CkM.go {w':Wd} (h:CkM a0 w cb m d e ru fi) (x:Ext w w'):CkM a0 w' cb m d e ru fi:=by
 obtain ⟨h1,h2,rv,dv,ev,h3,h4⟩:=h
 exact ⟨h1.trans x,h2,rv,dv,ev,x.obj h3,h4⟩
theorem CkM.setField (h:CkM a0 w cb m d e ru fi) (n:Int):CkM a0 (w.setCell ⟨cb,9,none⟩ (.int .i64 n)) cb m d e ru n:=by
 obtain ⟨h1,h2,rv,dv,ev,h3,h4⟩:=h
 refine ⟨h1.setCell h2 _,h2,rv,dv,ev,?_,h4⟩
 have:=Zw (o:=9) h3 (.int .i64 n)
 simpa using this
theorem CkM.setRule (h:CkM a0 w cb m d e ru fi) (n:Int):CkM a0 (w.setCell ⟨cb,8,none⟩ (.int .i64 n)) cb m d e n fi:=by
 obtain ⟨h1,h2,rv,dv,ev,h3,h4⟩:=h
 refine ⟨h1.setCell h2 _,h2,rv,dv,ev,?_,h4⟩
 have:=Zw (o:=8) h3 (.int .i64 n)
 simpa using this
theorem XB (h:CkM a0 w cb m d e ru fi) (b:Bool) (c:Int):Calls Pg 33 #[.pointer (some ⟨cb,0,none⟩),.bool b,.int .i64 c] w (mR w b ru fi c):=by
 obtain ⟨_,_,rv,dv,ev,h1,_⟩:=h
 refine Zj8 ?_;unfold n33
 cases b with
 | true=>
  simp (disch:=try exact DI) only [↓PR,QR,simprocAttr,↓MP]
  exact EA (Ext.refl _) rfl
 | false=>
  simp (disch:=try exact DI) only [↓PR,QR,simprocAttr,↓MP]
  refine ZE ?_
  simp (disch:=try exact DI) only [↓PR,QR,simprocAttr,↓MP,(Za h1).1]
  rw [HO]
  exact xD (Ext.refl _).drew rfl rfl
def Gd:YT:=⟨ByteArray.empty,[]⟩
theorem Uk (b0 w0:Wd) (e0:Ext b0 w0) (v:Vl) (d:Xv) (s:BAr) (hd:Xk b0 v d):Ret Pg 76 #[v,.string s] w0 λ r w'=>(∃ u,r = .tuple #[u,.bool (AO d s).isSome]∧Wa b0 u ((AO d s).getD Gd))∧Ext w0 w':=by
 obtain ⟨mv,rfl,hM⟩:=hd
 have hM0:=hM
 refine Zkj (R:=ZI _) ?_;unfold n44
 rw [YB]
 have jr:=Yn.new (w:=w0) (Yd d mv) (27)
 have eW:Ext w0 (w0.alloc (Obj.cells (List.toArray (Yd d mv)) (27))):=(Ext.refl _).alloc _
 generalize (w0.alloc (Obj.cells (List.toArray (Yd d mv)) (27)))=W at jr eW ⊢
 have sW:=eW.size
 simp (disch:=try exact DI) only [↓PR,QR,simprocAttr,λ o=>jr.c3 ((Ext.refl W).alloc o)]
 generalize hV:World.alloc W _=V
 have oV:=Zv W #[.string ByteArray.empty,.slice none 0 0] 74
 rw [hV] at oV
 have eV:Ext W V:=by rw [← hV];exact (Ext.refl W).alloc _
 clear hV
 refine zcr (OT V _ d s ⟨_,rfl,hM.ext (e0.trans (eW.trans eV))⟩) λ w1 e1=>?_
 have E1:=(eW.trans eV).trans e1
 have o1:=e1.obj oV
 unfold Zcm
 rcases Fl (λ x:YT=>decide (x.name=s)) d.msgs with ⟨h1,_,h3,h4,_⟩ | ⟨k,x,hx,h1,_,h3,h4,_⟩
 · have hp:AO d s=none:=h1
   rw [h3,h4,hp]
   simp (disch:=try exact DI) only [↓PR,QR,simprocAttr,Zck,(Za o1).1,(Za o1).2]
   exact ⟨⟨_,rfl,_,rfl,Zc.nil _ _ _⟩,(E1.setCell sW _).setCell sW _⟩
 · have hp:AO d s=some x:=h1
   obtain ⟨b,o,c,rfl,_,_,_,hkl,Y1⟩:=HR hM hx
   obtain ⟨cs,_,hA,fv,rfl,hF⟩:=Y1 k x hx
   have f1:=Zc.oneCell hF
   rw [h3,h4,hp]
   simp (disch:=try exact DI) only [↓PR,QR,simprocAttr,Zcl,jr.c3 (eV.trans e1),hA.c2 (e0.trans E1),(Za o1).1,(Za o1).2]
   exact ⟨⟨_,rfl,_,rfl,hF⟩,(E1.setCell sW _).setCell sW _⟩
def Vq:Zq:=⟨ByteArray.empty,0,0,false,false,0,0,0,[],ByteArray.empty,ByteArray.empty,ByteArray.empty,[],0,0⟩
theorem TH {w:Wd} {b:Nat} {cs:AVl} (ho:w.heap[b]?=some (.cells cs 123 (0,0))) (hc:cs.size=15) (f:Zq) (tv cv:Vl) (t1:tv.oneCell'=true) (c1:cv.oneCell'=true) {QP:PEn} {ku:WPr}
 (h:∀ w',w'.heap[b]?=some (.cells (Zp f tv cv).toArray 123 (0,0))→(∀ a,Ext a w→a.heap.size≤b→Ext a w')→ku w'):opU Pg (storeAt 123 (.pointer (some ⟨b,0,none⟩)) (.agg (Zp f tv cv).toArray)) QP w ku:=by
 rw [U1 Ve ho (vs:=Zp f tv cv) rfl (by omega) (by intro v hv;simp only [List.mem_cons,List.not_mem_nil,or_false] at hv;rcases hv with rfl | rfl | rfl | rfl | rfl | rfl | rfl | rfl | rfl | rfl | rfl | rfl | rfl | rfl | rfl<;>first | rfl | assumption)]
 refine h _ ?_ λ a e hb=>Kv _ _ _ _ e hb
 rw [Q8 _ 0 ho,BP (by rw [hc];rfl)]
theorem CU (w0:Wd) (v:Vl) (d:YT) (s:BAr) (hd:Wa w0 v d):Ret Pg 110 #[v,.string s] w0 λ r w'=>(∃ u,r = .tuple #[u,.int .i64 (Co (Qa d s))]∧Z0 w' u ((Qa d s).getD Vq))∧Ext w0 w':=by
 obtain ⟨mv,rfl,hM⟩:=hd
 have hM0:=hM
 refine Zkg (R:=ZI _) ?_;unfold n41
 rw [YB]
 have jr:=Yn.new (w:=w0) (Yf d mv) (74)
 have eW:Ext w0 (w0.alloc (Obj.cells (List.toArray (Yf d mv)) (74))):=(Ext.refl _).alloc _
 generalize (w0.alloc (Obj.cells (List.toArray (Yf d mv)) (74)))=W at jr eW ⊢
 have sW:=eW.size
 simp (disch:=try exact DI) only [↓PR,QR,simprocAttr,λ o=>jr.c2 ((Ext.refl W).alloc o)]
 generalize hV:World.alloc W _=V
 have oV:=Zv W #[.string ByteArray.empty,.int .i64 0,.int .i64 0,.bool false,.bool false,.int .i64 0,.int .i64 0,.int .i64 0,.slice none 0 0,.string ByteArray.empty,.string ByteArray.empty,.string ByteArray.empty,.slice none 0 0,.int .i64 0,.int .i64 0] 123
 rw [hV] at oV
 have eV:Ext W V:=by rw [← hV];exact (Ext.refl W).alloc _
 clear hV
 refine zcr (xe V _ d s ⟨_,rfl,hM.ext (eW.trans eV)⟩) λ w1 e1=>?_
 have E1:=(eW.trans eV).trans e1
 have o1:=e1.obj oV
 unfold Zci
 rcases Fl (λ x:Zq=>decide (x.name=s)) d.fields with ⟨h1,_,h3,h4,_⟩ | ⟨k,x,hx,h1,_,h3,h4,_⟩
 · have hp:Qa d s=none:=h1
   rw [h3,h4,hp]
   unfold Zch
   simp (disch:=try exact DI) only [↓PR,QR,simprocAttr]
   refine TH o1 rfl Vq (.slice none 0 0) (.slice none 0 0) rfl rfl λ w2 o2 hx=>?_
   have E2:=hx _ E1 sW
   simp (disch:=try exact DI) only [↓PR,QR,simprocAttr,(Za o2).1]
   exact ⟨⟨_,rfl,_,_,rfl,Zc.nil _ _ _,Zc.nil _ _ _⟩,E2⟩
 · have hp:Qa d s=some x:=h1
   obtain ⟨b,o,c,rfl,_,_,_,hkl,Y1⟩:=HR hM hx
   obtain ⟨cs,_,hA,hE⟩:=Y1 k x hx
   obtain ⟨tv,cv,rfl,hT,hC,t1,c1⟩:=hE.op
   rw [h3,h4,hp]
   simp (disch:=try exact DI) only [↓PR,QR,simprocAttr]
   refine ZE ?_
   simp (disch:=try exact DI) only [↓PR,QR,simprocAttr,Zcg,jr.c2 (eV.trans e1),hA.c15 E1]
   refine zcr (Jd _ _ x ⟨_,_,rfl,hT.ext E1.drew,hC.ext E1.drew⟩) λ w2 e2=>?_
   refine ⟨e2,?_⟩
   have E2:=E1.drew.trans e2
   refine TH (((Ext.refl w1).drew.trans e2).obj o1) rfl x tv cv t1 c1 λ w3 o3 hx=>?_
   have E3:=hx _ E2 sW
   refine Xq ?_
   simp (disch:=try exact DI) only [↓PR,QR,simprocAttr,(Za o3).1]
   exact ⟨⟨_,rfl,_,_,rfl,hT.ext E3,hC.ext E3⟩,E3⟩
end
def Vp (Zr:List (BAr×Int)) (m:YT):List (BAr×Int):=Zr++[(m.name,Vi Zr m+1)]
def V7 (ZC:List (BAr×Bool)) (m:YT):List (BAr×Bool):=ZC++[(m.name,jJ ZC m)]
def Xx (l:List YT):List (BAr×Int):=l.foldl Vp []
def WC (l:List YT):List (BAr×Bool):=l.foldl V7 []
def Wi (Zr:List (BAr×Int)) (ZC:List (BAr×Bool)) (at_:Nat):List YT→Int×Int×Int
 | []=>(0,0,0)
 | m::l=>if (W6 Zr ZC m).2=0 then Wi (Vp Zr m) (V7 ZC m) (at_+1) l else (at_,W6 Zr ZC m)
def NL (d:Xv) (r:Int×Int×Int):Int×Int×Int:=if r.2.2=0 then (if (ZS (Xx d.msgs) d.start).isSome then (0,0,0) else (-1,-1,11)) else r
def Xo (d:Xv):Int×Int×Int:=
 if Z4 d.name then (if 1≤d.msgs.length∧d.msgs.length≤60 then NL d (Wi [] [] 0 d.msgs) else (-1,-1,3)) else (-1,-1,1)
theorem OE {Zr:List (BAr×Int)} {m:YT} {r:Int×Int} (h:(KH Zr m r).2=0):Vi Zr m < 16:=by
 unfold KH at h
 split at h
 · split at h
   · assumption
   · exact absurd h (by decide)
 · contradiction
theorem Dx {Zr:List (BAr×Int)} {ZC:List (BAr×Bool)} {m:YT} (h:(W6 Zr ZC m).2=0):Vi Zr m < 16:=by
 unfold W6 at h
 split at h
 · split at h
   · exact absurd h (by decide)
   · split at h
     · exact OE h
     · exact absurd h (by decide)
 · exact absurd h (by decide)
theorem Low.step {Zr:List (BAr×Int)} {ZC:List (BAr×Bool)} {m:YT} (hl:Low Zr) (h:(W6 Zr ZC m).2=0):Low (Vp Zr m):=by
 intro p hp
 rcases List.mem_append.1 hp with hp | hp
 · exact hl p hp
 · simp only [List.mem_singleton] at hp
   subst hp
   have h1:=Dx h
   have h2:=(G2 (λ s=>(ZS Zr s).getD 0) (M8 m) 0 (by decide) (λ s _=>hl.get s) (by decide)).1
   exact ⟨by show 0≤Vi Zr m+1;unfold Vi;omega,by show Vi Zr m+1≤16;omega⟩
abbrev Uv (p3 p4:Nat):Deferred:={ target := .fn (.func 134) #[.pointer (some ⟨p3,0,none⟩),.pointer (some ⟨p4,0,none⟩)],args := #[] }
theorem NB {p3 p4:Nat} {w:Wd} {k:FrameMode→Wd→Prop} (h:k .returning w):jv Pg [Uv p3 p4] .returning w k:=by
 refine ⟨by simp,.inr ⟨.func 134,_,134,#[.pointer (some ⟨p3,0,none⟩),.pointer (some ⟨p4,0,none⟩)],rfl,?_,?_⟩⟩
 · exact Qg Ze4 _ w
 · refine Zht ?_
   unfold n82
   show opV _ (ZF .neq _ true .nilIface .nilIface) _ _ _
   rw [VX underlying20]
   simp (disch:=try exact DI) only [↓PR,QR,simprocAttr]
   exact h
theorem NA {p3 p4:Nat} {w:Wd} {k:FrameMode→Wd→Prop} {a f c:Int} {x0 x1 x2 y:Vl} (o3:w.heap[p3]?=some (.cells #[x0,x1,x2] 131 (0,0))) (o4:w.heap[p4]?=some (.cells #[y] 4 (0,0)))
 (h:k .returning ((((w.setCell ⟨p3,0,none⟩ (.int .i64 a)).setCell ⟨p3,1,none⟩ (.int .i64 f)).setCell ⟨p3,2,none⟩ (.int .i64 c)).setCell ⟨p4,0,none⟩ (.bool true))):jv Pg [Uv p3 p4] (.panicking [XG a f c]) w k:=by
 have YN:p3≠p4:=by rintro rfl;rw [o3] at o4;cases o4
 refine ⟨by simp,.inr ⟨.func 134,_,134,#[.pointer (some ⟨p3,0,none⟩),.pointer (some ⟨p4,0,none⟩)],rfl,?_,?_⟩⟩
 · exact Qg Ze4 _ w
 · refine Zht ?_
   rw [show recM (.panicking [XG a f c])=(.iface 131 (Vt a f c),.panicking [{ v := .iface 131 (Vt a f c),recovered:=true }]) from rfl]
   unfold n82
   rw [VY underlying20]
   simp (disch:=try exact DI) only [↓PR,QR,simprocAttr]
   unfold Zdj
   rw [EZ underlying131 rfl]
   simp (disch:=try exact DI) only [↓PR,QR,simprocAttr,(Za o3).1,(Za o3).2,(Za o4).1,(Za o4).2]
   exact h
section
variable {w0:Wd}
def CkE (w:Wd) (cb:Nat) (Zr:List (BAr×Int)) (ZC:List (BAr×Bool)):Prop:=∃ md ms dn mv ds at_ fld mn fv,w.heap[cb]?=some (.cells #[.string dn,mv,.string ds,.map (some md),.map (some ms),.int .i64 at_,.int .i64 fld,.string mn,fv] 201 (0,0))∧Y7 w md (vI Zr)∧Y7 w ms (vB ZC)
theorem CkE.other {w:Wd} {cb b o:Nat} {Zr:List (BAr×Int)} {ZC:List (BAr×Bool)} (h:CkE w cb Zr ZC) (hn:b≠cb) (v:Vl):CkE (w.setCell ⟨b,o,none⟩ v) cb Zr ZC:=by
 obtain ⟨md,ms,dn,mv,ds,at_,fld,mn,fv,h1,h2,h3⟩:=h
 exact ⟨md,ms,dn,mv,ds,at_,fld,mn,fv,(YG.setCell w b o v cb (λ e=>hn e.symm)).trans h1,h2.setCell _ _,h3.setCell _ _⟩
theorem CkO.left {a0 w:Wd} {cb md ms:Nat} {Zr:List (BAr×Int)} {ZC:List (BAr×Bool)} {at_ fld:Int} {fs:List Zq} (h:CkO a0 w cb md ms Zr ZC at_ fld fs):CkE w cb Zr ZC:=by
 obtain ⟨dn,mv,ds,mn,fv,h1,_⟩:=h.obj
 exact ⟨md,ms,dn,mv,ds,at_,fld,mn,fv,h1,h.mdeps,h.mstrs⟩
def qy (w0:Wd) (d:Xv) (r:Vl) (w':Wd):Prop:=Ext w0 w'∧∃ cb,r = .tuple #[.pointer (some ⟨cb,0,none⟩),Vt (Xo d).1 (Xo d).2.1 (Xo d).2.2,.bool (decide ((Xo d).2.2≠0))] ∧
 ((Xo d).2.2=0→CkE w' cb (Xx d.msgs) (WC d.msgs))
abbrev LS (cb p3 p4:Nat):List (Option TypeId×Vl):=[(none,.pointer (some ⟨cb,0,none⟩)),(some 131,.pointer (some ⟨p3,0,none⟩)),(some 4,.pointer (some ⟨p4,0,none⟩))]
theorem MC {w:Wd} {d:Xv} {cb p3 p4:Nat} {a f c:Int} {x0 x1 x2 y:Vl} (e:Ext w0 w) (h3:w0.heap.size≤p3) (h4:w0.heap.size≤p4) (o3:w.heap[p3]?=some (.cells #[x0,x1,x2] 131 (0,0))) (o4:w.heap[p4]?=some (.cells #[y] 4 (0,0)))
 (h:Xo d=(a,f,c)) (hc:c≠0):ZB Pg [Uv p3 p4] (LS cb p3 p4) (ZI (qy w0 d)) [XG a f c] w:=by
 have YN:p3≠p4:=by rintro rfl;rw [o3] at o4;cases o4
 unfold ZB
 refine NA o3 o4 ?_
 have q3:=Zw (o:=2) (Zw (o:=1) (Zw (o:=0) o3 (.int .i64 a)) (.int .i64 f)) (.int .i64 c)
 have e1:Ext w0 ((((w.setCell ⟨p3,0,none⟩ (.int .i64 a)).setCell ⟨p3,1,none⟩ (.int .i64 f)).setCell ⟨p3,2,none⟩ (.int .i64 c)).setCell ⟨p4,0,none⟩ (.bool true)):=(((e.setCell h3 _).setCell h3 _).setCell h3 _).setCell h4 _
 have q4:=Zw (o:=0) ((YG.setCell ((w.setCell ⟨p3,0,none⟩ (.int .i64 a)).setCell ⟨p3,1,none⟩ (.int .i64 f)) p3 2 (.int .i64 c) p4 (by omega)).trans ((YG.setCell (w.setCell ⟨p3,0,none⟩ (.int .i64 a)) p3 1 (.int .i64 f) p4 (by omega)).trans ((YG.setCell w p3 0 (.int .i64 a) p4 (by omega)).trans o4))) (.bool true)
 have q3':=(YG.setCell _ p4 0 (.bool true) p3 YN).trans q3
 simp only [List.setIfInBounds_toArray,List.set_cons_zero,List.set_cons_succ] at q3' q4
 generalize ((((w.setCell ⟨p3,0,none⟩ (.int .i64 a)).setCell ⟨p3,1,none⟩ (.int .i64 f)).setCell ⟨p3,2,none⟩ (.int .i64 c)).setCell ⟨p4,0,none⟩ (.bool true))=W at e1 q3' q4 ⊢
 unfold endM yW XT LS
 simp only
 simp (disch:=try exact DI) only [↓PR,QR,simprocAttr,(Za q3').1,(Za q4).1]
 refine ⟨e1,cb,?_,λ h0=>?_⟩
 · rw [h];simp [hc]
 · rw [h] at h0;exact absurd h0 hc
theorem Pm {w:Wd} {d:Xv} {cb p3 p4:Nat} (e:Ext w0 w) (hC:CkE w cb (Xx d.msgs) (WC d.msgs)) (o3:w.heap[p3]?=some (.cells #[.int .i64 0,.int .i64 0,.int .i64 0] 131 (0,0))) (o4:w.heap[p4]?=some (.cells #[.bool false] 4 (0,0)))
 (h:Xo d=(0,0,0)):Uc Pg [Uv p3 p4] (LS cb p3 p4) (ZI (qy w0 d)) w:=by
 unfold Uc
 refine NB ?_
 unfold endM yW XT LS
 simp only
 simp (disch:=try exact DI) only [↓PR,QR,simprocAttr,(Za o3).1,(Za o4).1]
 refine ⟨e,cb,?_,λ h0=>hC⟩
 rw [h];simp
theorem Nv {f:FuncId} {args:AVl} {QP:PEn} {a0 w:Wd} {k:KV} {at_:Int} {r:Int×Int} {K:WPr} (h:Calls Pg f args w (ES a0 at_ r K)) (hk:∀ w',r.2=0→K w'→k (.tuple #[]) w') (hp:∀ w',Ext a0 w'→r.2≠0→QP [XG at_ r.1 r.2] w'):ZV Pg f args QP w k:=
 Uf h (λ v w' h=>by rcases h with ⟨e,⟨h1,h2,h3⟩ | ⟨_,h2⟩⟩<;>cases h2;exact hk w' h1 h3) (λ ch w' h=>by rcases h with ⟨e,⟨_,h2,_⟩ | ⟨h1,h2⟩⟩<;>cases h2;exact hp w' e h1) (λ w' h=>by rcases h with ⟨_,⟨_,h2,_⟩ | ⟨_,h2⟩⟩<;>cases h2)
theorem Ar {α β:Type} (g:β→α→β) {l:List α} {k:Nat} {x:α} (b:β) (hx:l[k]?=some x):(l.take (k+1)).foldl g b=g ((l.take k).foldl g b) x:=by rw [Qw hx,List.foldl_append];rfl
theorem Pn {A0 w:Wd} {d:Xv} {cb p1 p3 p4 md ms:Nat} {fs:List Zq} {mv:Vl} (ea:Ext w0 A0) (hM:Vg A0 mv d.msgs) (hC:CkO A0 w cb md ms [] [] (-1) (-1) fs) (o1:A0.heap[p1]?=some (.cells (Yd d mv).toArray 27 (0,0)))
 (o3:A0.heap[p3]?=some (.cells #[.int .i64 0,.int .i64 0,.int .i64 0] 131 (0,0))) (o4:A0.heap[p4]?=some (.cells #[.bool false] 4 (0,0))) (h3:w0.heap.size≤p3) (h4:w0.heap.size≤p4) (hr:Xo d=NL d (Wi [] [] 0 d.msgs)) :
 Bw (.pointer (some ⟨p1,0,none⟩)) (.pointer (some ⟨p3,0,none⟩)) (.pointer (some ⟨p4,0,none⟩)) (.pointer (some ⟨cb,0,none⟩)) [Uv p3 p4] (ZI (qy w0 d)) w:=by
 have pan:∀ w' a f c,Ext A0 w'→Xo d=(a,f,c)→c≠0→ZB Pg [Uv p3 p4] (LS cb p3 p4) (ZI (qy w0 d)) [XG a f c] w':=λ w' a f c e h h0=>MC (ea.trans e) h3 h4 (e.obj o3) (e.obj o4) h h0
 obtain ⟨A,c,rfl,hlc,hcm,hlm,Y1⟩:=Zc.open hM
 unfold Bw
 simp (disch:=try exact DI) only [↓PR,QR,simprocAttr,(Za (hC.ext.obj o1)).1]
 refine ZJ (λ i w'=>∃ (k:Nat) (at':Int) (fs':List Zq),i = .int .i64 k∧k≤d.msgs.length∧CkO A0 w' cb md ms (Xx (d.msgs.take k)) (WC (d.msgs.take k)) at' (-1) fs'∧Low (Xx (d.msgs.take k))∧Xo d=NL d (Wi (Xx (d.msgs.take k)) (WC (d.msgs.take k)) k (d.msgs.drop k))) (λ i _=>d.msgs.length - (intOf i).toNat) ⟨0,-1,fs,rfl,by omega,hC,(λ _ h=>by cases h),hr⟩ ?_
 rintro i w' ⟨k,at',fs',rfl,hk,hC',hlow,hrk⟩
 have lw':=hC'.ext.size
 obtain ⟨dn,mv,ds,mn,fv',x1,x2⟩:=hC'.obj
 obtain ⟨n1,n2,l1,l2,l3⟩:=hC'.nd
 rcases ZT hk with ⟨x,hx,hd,Yq,ZY⟩ | ⟨hk,hd,ZY⟩
 · obtain ⟨b,o,cs,rfl,hl,hA,fv,rfl,hF⟩:=Y1 k x hx
   have hf1:=Zc.oneCell hF
   rw [hd] at hrk
   simp only [Wi] at hrk
   unfold Dv
   simp (disch:=try exact DI) only [↓PR,QR,simprocAttr,ZY]
   unfold HG
   simp (disch:=try exact DI) only [↓PR,QR,simprocAttr,(hA.c2 hC'.ext).1,(hA.c2 hC'.ext).2,(Za x1).1,(Za x1).2]
   have hCw:=(hC'.setAt (k:Int)).go ((Ext.refl _).alloc (Obj.cells (Yf x fv).toArray 74))
   refine Nv (SN (m:=x) hlow hCw _ ⟨fv,rfl,hF⟩ (λ w'=>CkO A0 w' cb md ms (Vp (Xx (d.msgs.take k)) x) (V7 (WC (d.msgs.take k)) x) k (-1) x.fields) (λ w' h=>h)) (λ w5 h0 hC5=>?_) (λ w5 e5 h0=>?_)
   · rw [if_pos h0] at hrk
     have hd1:Xx (d.msgs.take (k+1))=Vp (Xx (d.msgs.take k)) x:=Ar Vp [] hx
     have hs1:WC (d.msgs.take (k+1))=V7 (WC (d.msgs.take k)) x:=Ar V7 [] hx
     rw [← hd1,← hs1] at hrk hC5
     have hlow':Low (Xx (d.msgs.take (k+1))):=by rw [hd1];exact hlow.step h0
     simp (disch:=try exact DI) only [↓PR,QR,simprocAttr]
     exact ⟨⟨k+1,k,x.fields,rfl,by omega,hC5,hlow',hrk⟩,Ya (kd := .i64) Yq⟩
   · rw [if_neg h0] at hrk
     refine pan _ _ _ _ e5 ?_ h0
     rw [hrk]
     unfold NL
     rw [if_neg h0]
 · subst hk
   rw [hd] at hrk
   rw [List.take_length] at hC' hrk
   unfold Dv
   simp (disch:=try exact DI) only [↓PR,QR,simprocAttr,ZY]
   unfold HF
   simp (disch:=try exact DI) only [↓PR,QR,simprocAttr,(Za x1).1,(Za x1).2]
   have hC2:=hC'.setAt (-1)
   generalize (w'.setCell ⟨cb,5,none⟩ (.int .i64 (-1)))=W at hC2 ⊢
   clear x1 x2 hC'
   obtain ⟨dn,mv,ds,mn,fv',x1,x2⟩:=hC2.obj
   refine ZE ?_
   have eD:Ext W W.drew:=(Ext.refl W).wdrew
   unfold HE
   simp (disch:=try exact DI) only [↓PR,QR,simprocAttr,(Za x1).1,(Za (hC2.ext.obj o1)).1]
   rw [BE underlying198 underlying9 ty3 (hC2.mdeps.ext eD) d.start]
   have hsome:(Yw (vI (Xx d.msgs)) d.start).isSome=(ZS (Xx d.msgs) d.start).isSome:=by rw [UV,Option.isSome_map]
   rw [hsome]
   simp only [Wi,NL,if_true] at hrk
   simp (disch:=try exact DI) only [↓PR,QR,simprocAttr]
   refine ZR (YK (hC2.go eD).chk _ 11 (by decide)) (λ w5 e5 h0=>?_) (λ w5 e5 h0=>?_)
   · have hs:=Ql (by decide) h0
     rw [hs,if_pos rfl] at hrk
     have hC5:=hC2.go (eD.trans e5)
     have y3:=hC5.ext.obj o3
     have y4:=hC5.ext.obj o4
     have ne34:p3≠p4:=by rintro rfl;rw [o3] at o4;cases o4
     unfold HD
     simp (disch:=try exact DI) only [↓PR,QR,simprocAttr,(Za y3).1,(Za y3).2,(Za y4).1,(Za y4).2]
     have c3:p3≠cb:=by have:=hC5.lcb;have:=(Array.getElem?_eq_some_iff.1 o3).1;omega
     have c4:p4≠cb:=by have:=hC5.lcb;have:=(Array.getElem?_eq_some_iff.1 o4).1;omega
     have q3:=Zw (o:=2) (Zw (o:=1) (Zw (o:=0) y3 (.int .i64 0)) (.int .i64 0)) (.int .i64 0)
     have q4:=Zw (o:=0) ((YG.setCell ((w5.setCell ⟨p3,0,none⟩ (.int .i64 0)).setCell ⟨p3,1,none⟩ (.int .i64 0)) p3 2 (.int .i64 0) p4 (by omega)).trans ((YG.setCell (w5.setCell ⟨p3,0,none⟩ (.int .i64 0)) p3 1 (.int .i64 0) p4 (by omega)).trans ((YG.setCell w5 p3 0 (.int .i64 0) p4 (by omega)).trans y4))) (.bool false)
     have q3':=(YG.setCell _ p4 0 (.bool false) p3 ne34).trans q3
     exact Pm (((((ea.trans hC5.ext).setCell h3 _).setCell h3 _).setCell h3 _).setCell h4 _) ((((hC5.left.other c3 _).other c3 _).other c3 _).other c4 _) (by simpa using q3') (by simpa using q4) hrk
   · have hs:(ZS (Xx d.msgs) d.start).isSome=false:=by
      cases hq:(ZS (Xx d.msgs) d.start).isSome with
      | false=>rfl
      | true=>rw [hq] at h0;exact absurd rfl h0
     rw [hs,if_neg (by simp)] at hrk
     rw [hs]
     exact pan _ _ _ _ (hC2.ext.trans (eD.trans e5)) hrk (by decide)
theorem Ep (v:Vl) (d:Xv) (hd:Xk w0 v d):Ret Pg 106 #[v] w0 (qy w0 d):=by
 obtain ⟨mv,rfl,hM⟩:=hd
 have hm1:=Zc.oneCell hM
 refine ZkV (R:=ZI _) ?_;unfold n81
 simp (disch:=try exact DI) only [↓PR,QR,simprocAttr]
 refine ⟨Uv (w0.heap.size+1) (w0.heap.size+1+1),_,rfl,?_⟩
 simp only [World.size_alloc]
 generalize hA0:((w0.alloc (Obj.cells (Yd d mv).toArray 27)).alloc (Obj.cells #[.int .i64 0,.int .i64 0,.int .i64 0] 131)).alloc (Obj.cells #[.bool false] 4)=A0
 have ea:Ext w0 A0:=by rw [← hA0];exact ee
 have o1:A0.heap[w0.heap.size]?=some (.cells (Yd d mv).toArray 27 (0,0)):=by rw [← hA0];simp (disch:=try exact DI) only [↓PR,QR,simprocAttr]
 have o3:A0.heap[w0.heap.size+1]?=some (.cells #[.int .i64 0,.int .i64 0,.int .i64 0] 131 (0,0)):=by rw [← hA0];simp (disch:=try exact DI) only [↓PR,QR,simprocAttr]
 have o4:A0.heap[w0.heap.size+1+1]?=some (.cells #[.bool false] 4 (0,0)):=by rw [← hA0];simp (disch:=try exact DI) only [↓PR,QR,simprocAttr]
 have Jj:A0.heap.size=w0.heap.size+1+1+1:=by rw [← hA0];simp only [World.size_alloc]
 clear hA0
 have hC:CkO A0 (((A0.alloc (Obj.map #[] 0)).alloc (Obj.map #[] 0)).alloc (Obj.cells #[.string d.name,mv,.string d.start,.map (some (w0.heap.size+1+1+1)),.map (some (w0.heap.size+1+1+1+1)),.int .i64 (-1),.int .i64 (-1),.string ByteArray.empty,.slice none 0 0] 201)) (w0.heap.size+1+1+1+1+1) (w0.heap.size+1+1+1) (w0.heap.size+1+1+1+1) [] [] (-1) (-1) []:=by
  refine ⟨ee,⟨d.name,mv,d.start,ByteArray.empty,.slice none 0 0,?_,Zc.nil _ _ _⟩,?_,?_,by omega,by omega,by omega,by omega⟩
  · have:=Zv ((A0.alloc (Obj.map #[] 0)).alloc (Obj.map #[] 0)) #[.string d.name,mv,.string d.start,.map (some (w0.heap.size+1+1+1)),.map (some (w0.heap.size+1+1+1+1)),.int .i64 (-1),.int .i64 (-1),.string ByteArray.empty,.slice none 0 0] 201
    simp only [World.size_alloc,Jj] at this
    exact this
  · have:=(Y7.new A0).ext (((Ext.refl _).alloc (Obj.map #[] 0)).alloc (Obj.cells #[.string d.name,mv,.string d.start,.map (some (w0.heap.size+1+1+1)),.map (some (w0.heap.size+1+1+1+1)),.int .i64 (-1),.int .i64 (-1),.string ByteArray.empty,.slice none 0 0] 201))
    simp only [World.size_alloc,Jj] at this
    exact this
  · have:=(Y7.new (A0.alloc (Obj.map #[] 0))).ext ((Ext.refl _).alloc (Obj.cells #[.string d.name,mv,.string d.start,.map (some (w0.heap.size+1+1+1)),.map (some (w0.heap.size+1+1+1+1)),.int .i64 (-1),.int .i64 (-1),.string ByteArray.empty,.slice none 0 0] 201))
    simp only [World.size_alloc,Jj] at this
    exact this
 generalize (((A0.alloc (Obj.map #[] 0)).alloc (Obj.map #[] 0)).alloc (Obj.cells #[.string d.name,mv,.string d.start,.map (some (w0.heap.size+1+1+1)),.map (some (w0.heap.size+1+1+1+1)),.int .i64 (-1),.int .i64 (-1),.string ByteArray.empty,.slice none 0 0] 201))=W at hC ⊢
 generalize hcb:w0.heap.size+1+1+1+1+1=cb at hC ⊢
 generalize hmd:w0.heap.size+1+1+1=md at hC Jj
 generalize hms:w0.heap.size+1+1+1+1=ms at hC
 generalize hp3:w0.heap.size+1+1=p4 at o4 ⊢
 generalize hp4:w0.heap.size+1=p3 at o3 ⊢
 have l3:w0.heap.size≤p3:=by omega
 have l4:w0.heap.size≤p4:=by omega
 simp (disch:=try exact DI) only [↓PR,QR,simprocAttr,(Za (hC.ext.obj o1)).1]
 refine zcr (UG _ d.name) λ w1 e1=>?_
 have hC1:=hC.go e1
 have pan:∀ w' a f c,Ext A0 w'→Xo d=(a,f,c)→c≠0→ZB Pg [Uv p3 p4] (LS cb p3 p4) (ZI (qy w0 d)) [XG a f c] w':=λ w' a f c e h h0=>MC (ea.trans e) l3 l4 (e.obj o3) (e.obj o4) h h0
 generalize hr:Xo d=r
 have hr':=hr
 unfold Xo at hr
 refine ZR (YK hC1.chk _ 1 (by decide)) (λ w2 e2 h0=>?_) (λ w2 e2 h0=>?_)
 · have hn:Z4 d.name=true:=Ql (by decide) h0
   rw [if_pos hn] at hr
   have hC2:=hC1.go e2
   have fin:∀ b,b=decide (1≤d.msgs.length∧d.msgs.length≤60)→ZV Pg 135 #[.pointer (some ⟨cb,0,none⟩),.bool b,.int .i64 3] (ZB Pg [Uv p3 p4] (LS cb p3 p4) (ZI (qy w0 d))) w2 (λ _ w=>Bw (.pointer (some ⟨w0.heap.size,0,none⟩)) (.pointer (some ⟨p3,0,none⟩)) (.pointer (some ⟨p4,0,none⟩)) (.pointer (some ⟨cb,0,none⟩)) [Uv p3 p4] (ZI (qy w0 d)) w):=by
    rintro b rfl
    refine ZR (YK hC2.chk _ 3 (by decide)) (λ w3 e3 h0=>?_) (λ w3 e3 h0=>?_)
    · have hl:=Ql (by decide) h0
      simp only [decide_eq_true_eq] at hl
      rw [if_pos hl] at hr
      exact Pn ea (hM.ext ea) (hC2.go e3) o1 o3 o4 l3 l4 (hr'.trans hr.symm)
    · by_cases hl:1≤d.msgs.length∧d.msgs.length≤60
      · rw [decide_eq_true hl] at h0;exact absurd rfl h0
      · rw [if_neg hl] at hr
        rw [decide_eq_false hl]
        exact pan _ _ _ _ (hC2.ext.trans e3) (hr'.trans hr.symm) (by decide)
   obtain ⟨A,c,rfl,hlc,hcm,hlm,Y1⟩:=Zc.open hM
   have x1:=hC2.ext.obj o1
   unfold HH
   by_cases h1l:1≤d.msgs.length
   · have d1:decide ((d.msgs.length:Int)≥1)=true:=by simp;omega
     by_cases h2l:d.msgs.length≤60
     · have d2:decide ((d.msgs.length:Int)≤60)=true:=by simp;omega
       simp (disch:=try exact DI) only [↓PR,QR,simprocAttr,(Za x1).1,d1,d2,↓HD,↓HE,↓HF,↓HG,↓Dv,↓Bw,↓MX,↓MY,↓HH]
       exact fin _ (by simp [h1l,h2l])
     · have d2:decide ((d.msgs.length:Int)≤60)=false:=by simp;omega
       simp (disch:=try exact DI) only [↓PR,QR,simprocAttr,(Za x1).1,d1,d2,↓HD,↓HE,↓HF,↓HG,↓Dv,↓Bw,↓MX,↓MY,↓HH]
       exact fin _ (by simp [h2l])
   · have d1:decide ((d.msgs.length:Int)≥1)=false:=by simp;omega
     simp (disch:=try exact DI) only [↓PR,QR,simprocAttr,(Za x1).1,d1,↓HD,↓HE,↓HF,↓HG,↓Dv,↓Bw,↓MX,↓MY,↓HH]
     exact fin _ (by simp [h1l])
 · have hn:Z4 d.name=false:=by
    cases hq:Z4 d.name with
    | false=>rfl
    | true=>rw [hq] at h0;exact absurd rfl h0
   rw [hn,if_neg (by simp)] at hr
   rw [hn]
   exact pan _ _ _ _ (hC1.ext.trans e2) (hr'.trans hr.symm) (by decide)
end
section
variable {w0:Wd}
abbrev ZdU (r:Int×Int×Int):Vl:=Vt r.1 r.2.1 r.2.2
abbrev Xn (d:Xv):Bool:=decide ((Xo d).2.2≠0)
theorem Nk (v:Vl) (d:Xv) (hd:Xk w0 v d):Ret Pg 70 #[v] w0 λ r w'=>r = .tuple #[ZdU (Xo d),.bool (Xn d)]∧Ext w0 w':=by
 obtain ⟨mv,rfl,hM⟩:=hd
 have hm1:=Zc.oneCell hM
 refine ZkA (R:=ZI _) ?_;unfold n61
 simp (disch:=try exact DI) only [↓PR,QR,simprocAttr]
 refine Zk (Ep _ d ⟨mv,rfl,Vg.ext hM ee⟩) ?_
 rintro _ w1 ⟨e1,cb,rfl,_⟩
 have s1:=e1.size
 simp only [World.size_alloc] at s1
 have o2:=e1.obj (Zv (w0.alloc (Obj.cells (Yd d mv).toArray 27)) #[.int .i64 0,.int .i64 0,.int .i64 0] 131)
 rw [World.size_alloc] at o2
 simp (disch:=try exact DI) only [↓PR,QR,simprocAttr,↓Zc9,(Za o2).1,(Za o2).2]
 exact ⟨by first | trivial | rfl,ee⟩
theorem xi (v:Vl) (d:Xv) (hd:Xk w0 v d):Ret Pg 34 #[v] w0 λ r w'=>r = .bool (!Xn d)∧Ext w0 w':=by
 obtain ⟨mv,rfl,hM⟩:=hd
 have hm1:=Zc.oneCell hM
 refine ZkI (R:=ZI _) ?_;unfold n70
 simp (disch:=try exact DI) only [↓PR,QR,simprocAttr]
 refine zcr (Nk _ d ⟨mv,rfl,Vg.ext hM ee⟩) λ w1 e1=>?_
 simp (disch:=try exact DI) only [↓PR,QR,simprocAttr,↓Zdb]
 exact ⟨by first | trivial | rfl,ee⟩
end
def Sub {β:Type} (a b:List (BAr×β)):Prop:=∀ s v,ZS a s=some v→ZS b s=some v
section
variable {β:Type}
theorem Sub.refl (a:List (BAr×β)):Sub a a:=λ _ _ h=>h
theorem Sub.is {a b:List (BAr×β)} (h:Sub a b) {s:BAr} (k:(ZS a s).isSome=true):(ZS b s).isSome=true:=by
 obtain ⟨v,hv⟩:=Option.isSome_iff_exists.1 k
 rw [h s v hv];rfl
theorem AF {l:List (BAr×β)} {s:BAr}:ZS l s=none↔∀ p∈l,p.1≠s:=by
 unfold ZS
 rw [Option.map_eq_none_iff,List.find?_eq_none]
 simp
end
theorem isI (Zr:List (BAr×Int)) (s:BAr):(Yw (vI Zr) s).isSome=(ZS Zr s).isSome:=by rw [UV];simp
theorem WX {a b:Int}:orC a b=0↔a=0∧b=0:=by
 unfold orC
 split
 · rename_i h;simp [h]
 · rename_i h;simp [h]
theorem Wk {b:Bool} {c:Int} (hc:c≠0):Yr b c=0↔b=true:=by
 unfold Yr
 cases b<;>simp [hc]
section
variable {Zr deps':List (BAr×Int)} {ZC strs':List (BAr×Bool)}
theorem Jb (hd:Sub Zr deps') (hi:Int):∀ (l:List zF) (lo:Int),Kc hi (vI Zr) lo l=0→Kc hi (vI deps') lo l=0∧∀ c∈l,(ZS Zr c.of).isSome=true
 | [],_,_=>⟨rfl,λ _ h=>by cases h⟩
 | x::l,lo,h=>by
  simp only [Kc,WX,Wk (show (8:Int)≠0 by decide),isI] at h ⊢
  obtain ⟨h1,h2,h3⟩:=h
  obtain ⟨i1,i2⟩:=Jb hd hi l _ h3
  refine ⟨⟨h1,hd.is h2,i1⟩,λ c hc=>?_⟩
  rcases List.mem_cons.1 hc with rfl | hc
  · exact h2
  · exact i2 c hc
theorem DL {s:BAr} (h:Ig (vB ZC) s=true):ZS ZC s=some true:=by
 rw [Nf] at h
 cases hl:ZS ZC s with
 | none=>rw [hl] at h;cases h
 | some b=>rw [hl] at h;simp at h;rw [h]
theorem En (hd:Sub Zr deps') (hs:Sub ZC strs') {bef:List Zq} {f:Zq} (h:X9 bef (vI Zr) (vB ZC) f=0):X9 bef (vI deps') (vB strs') f=0:=by
 unfold X9 at h ⊢
 simp only [WX] at h ⊢
 refine ⟨h.1,h.2.1,h.2.2.1,h.2.2.2.1,?_⟩
 obtain ⟨_,_,_,_,h⟩:=h
 unfold YQ at h ⊢
 by_cases k1:f.kind=1
 · rw [if_pos k1] at h ⊢;exact h
 rw [if_neg k1] at h ⊢
 by_cases k2:f.kind=2
 · rw [if_pos k2] at h ⊢;exact h
 rw [if_neg k2] at h ⊢
 by_cases k3:f.kind=3
 · rw [if_pos k3] at h ⊢;exact h
 rw [if_neg k3] at h ⊢
 by_cases k4:f.kind=4
 · rw [if_pos k4] at h ⊢;exact h
 rw [if_neg k4] at h ⊢
 by_cases k5:f.kind=5
 · rw [if_pos k5] at h ⊢;exact h
 rw [if_neg k5] at h ⊢
 by_cases k6:f.kind=6
 · rw [if_pos k6] at h ⊢;exact h
 rw [if_neg k6] at h ⊢
 by_cases k7:f.kind=7
 · rw [if_pos k7] at h ⊢
   simp only [WX,Wk (show (8:Int)≠0 by decide),isI] at h ⊢
   exact ⟨hd.is h.1,h.2⟩
 rw [if_neg k7] at h ⊢
 by_cases k8:f.kind=8
 · rw [if_pos k8] at h ⊢
   simp only [Wk (show (8:Int)≠0 by decide),isI] at h ⊢
   exact hd.is h
 rw [if_neg k8] at h ⊢
 by_cases k9:f.kind=9
 · rw [if_pos k9] at h ⊢
   unfold Vh at h ⊢
   simp only [WX] at h ⊢
   exact ⟨h.1,h.2.1,(Jb hd _ _ _ h.2.2).1⟩
 rw [if_neg k9] at h ⊢
 by_cases k10:f.kind=10
 · rw [if_pos k10] at h ⊢;exact h
 rw [if_neg k10] at h ⊢
 by_cases k11:f.kind=11
 · rw [if_pos k11] at h ⊢;exact h
 rw [if_neg k11] at h ⊢
 by_cases k12:f.kind=12
 · rw [if_pos k12] at h ⊢
   simp only [WX,Wk (show (8:Int)≠0 by decide)] at h ⊢
   refine ⟨h.1,?_,h.2.2⟩
   rw [Nf,hs _ _ (DL h.2.1)];rfl
 rw [if_neg k12]
theorem Eo (hds:∀ s,(ZS ZC s).isSome=true→(ZS Zr s).isSome=true) {bef:List Zq} {f:Zq} (h:X9 bef (vI Zr) (vB ZC) f=0):∀ s∈Yy f,(ZS Zr s).isSome=true:=by
 intro s hs
 unfold X9 at h
 simp only [WX] at h
 obtain ⟨_,_,_,_,h⟩:=h
 unfold YQ at h
 unfold Yy at hs
 split at hs
 · rename_i hk
   simp only [List.mem_singleton] at hs
   subst hs
   rcases hk with hk | hk | hk
   · rw [if_neg (by omega),if_neg (by omega),if_neg (by omega),if_neg (by omega),if_neg (by omega),if_neg (by omega),if_pos hk] at h
     simp only [WX,Wk (show (8:Int)≠0 by decide),isI] at h
     exact h.1
   · rw [if_neg (by omega),if_neg (by omega),if_neg (by omega),if_neg (by omega),if_neg (by omega),if_neg (by omega),if_neg (by omega),if_pos hk] at h
     simp only [Wk (show (8:Int)≠0 by decide),isI] at h
     exact h
   · rw [if_neg (by omega),if_neg (by omega),if_neg (by omega),if_neg (by omega),if_neg (by omega),if_neg (by omega),if_neg (by omega),if_neg (by omega),if_neg (by omega),if_neg (by omega),if_neg (by omega),if_pos hk] at h
     simp only [WX,Wk (show (8:Int)≠0 by decide)] at h
     exact hds _ (by rw [DL h.2.1];rfl)
 · split at hs
   · rename_i hk
     obtain ⟨c,hc,rfl⟩:=List.mem_map.1 hs
     rw [if_neg (by omega),if_neg (by omega),if_neg (by omega),if_neg (by omega),if_neg (by omega),if_neg (by omega),if_neg (by omega),if_neg (by omega),if_pos hk] at h
     unfold Vh at h
     simp only [WX] at h
     exact (Jb (Sub.refl Zr) _ _ _ h.2.2).2 c hc
   · cases hs
theorem qB (hd:Sub Zr deps') (hs:Sub ZC strs') (hds:∀ s,(ZS ZC s).isSome=true→(ZS Zr s).isSome=true):∀ (l bef:List Zq),(Xb Zr ZC bef l).2=0→Xb deps' strs' bef l=(-1,0)∧∀ s∈YW l,(ZS Zr s).isSome=true
 | [],bef,h=>⟨rfl,λ s hs=>by cases hs⟩
 | f::l,bef,h=>by
  unfold Xb at h ⊢
  by_cases h0:X9 bef (vI Zr) (vB ZC) f=0
  · rw [if_pos h0] at h
    rw [if_pos (En hd hs h0)]
    obtain ⟨i1,i2⟩:=qB hd hs hds l _ h
    refine ⟨i1,λ s hs=>?_⟩
    rcases List.mem_append.1 (show s∈Yy f++YW l from hs) with hs | hs
    · exact Eo hds h0 s hs
    · exact i2 s hs
  · rw [if_neg h0] at h;exact absurd h h0
theorem Kn {m:YT} (h:(W6 Zr ZC m).2=0):Z4 m.name=true∧ZS Zr m.name=none∧(1≤m.fields.length∧m.fields.length≤40)∧(Xb Zr ZC [] m.fields).2=0∧Vi Zr m < 16:=by
 have hl:=Dx h
 unfold W6 at h
 by_cases h1:Z4 m.name=true
 · rw [if_pos h1] at h
   by_cases h2:(ZS Zr m.name).isSome=true
   · rw [if_pos h2] at h;exact absurd h (by decide)
   · rw [if_neg h2] at h
     by_cases h3:1≤m.fields.length∧m.fields.length≤40
     · rw [if_pos h3] at h
       refine ⟨h1,by simpa using h2,h3,?_,hl⟩
       unfold KH at h
       split at h
       · assumption
       · contradiction
     · rw [if_neg h3] at h;exact absurd h (by decide)
 · rw [if_neg h1] at h;exact absurd h (by decide)
end
section
variable {Zr:List (BAr×Int)} {ZC:List (BAr×Bool)}
theorem AQ {m:YT} {l:List YT} {i:Nat} (h:(W6 Zr ZC m).2=0):Wi Zr ZC i (m::l)=Wi (Vp Zr m) (V7 ZC m) (i+1) l:=if_pos h
theorem G5 {m:YT} {l:List YT} {i:Nat} (h:¬ (W6 Zr ZC m).2=0):Wi Zr ZC i (m::l)=((i:Int),W6 Zr ZC m):=if_neg h
theorem Jo (r:List YT):∀ (l:List YT) (Zr:List (BAr×Int)) (ZC:List (BAr×Bool)) (i:Nat),((Wi Zr ZC i l).2.2=0→Wi Zr ZC i (l++r)=Wi (l.foldl Vp Zr) (l.foldl V7 ZC) (i+l.length) r)∧((Wi Zr ZC i l).2.2≠0→Wi Zr ZC i (l++r)=Wi Zr ZC i l)
 | [],Zr,ZC,i=>⟨λ _=>rfl,λ h=>absurd rfl h⟩
 | m::l,Zr,ZC,i=>by
  have ih:=Jo r l (Vp Zr m) (V7 ZC m) (i+1)
  by_cases h:(W6 Zr ZC m).2=0
  · rw [AQ h,List.cons_append,AQ h]
    simp only [List.foldl_cons,List.length_cons]
    rw [show i+(l.length+1)=i+1+l.length by omega]
    exact ih
  · rw [G5 h,List.cons_append,G5 h]
    exact ⟨λ k=>absurd k h,λ _=>rfl⟩
theorem ZaR {l:List YT} {Zr:List (BAr×Int)} {ZC:List (BAr×Bool)} {i:Nat} (h:(Wi Zr ZC i l).2.2=0) {k:Nat} {m:YT} (hk:l[k]?=some m):(W6 ((l.take k).foldl Vp Zr) ((l.take k).foldl V7 ZC) m).2=0∧(Wi Zr ZC i (l.take k)).2.2=0:=by
 have hl:l=l.take k++m::l.drop (k+1):=by
  have:=(List.take_append_drop k l).symm
  rw [List.drop_eq_getElem_cons (List.getElem?_eq_some_iff.1 hk).1] at this
  rw [(List.getElem?_eq_some_iff.1 hk).2] at this
  exact this
 rw [hl] at h
 by_cases h0:(Wi Zr ZC i (l.take k)).2.2=0
 · rw [(Jo _ _ _ _ _).1 h0] at h
   refine ⟨?_,h0⟩
   by_cases h1:(W6 ((l.take k).foldl Vp Zr) ((l.take k).foldl V7 ZC) m).2=0
   · exact h1
   · rw [G5 h1] at h;exact absurd h h1
 · rw [(Jo _ _ _ _ _).2 h0] at h;exact absurd h h0
theorem G1:∀ (l:List YT) (a:List (BAr×Int)) (b:List (BAr×Bool)),(l.foldl Vp a).map (·.1)=a.map (·.1)++l.map (·.name)∧(l.foldl V7 b).map (·.1)=b.map (·.1)++l.map (·.name)
 | [],a,b=>by simp
 | m::l,a,b=>by
  have ih:=G1 l (Vp a m) (V7 b m)
  simp only [List.foldl_cons,List.map_cons]
  rw [ih.1,ih.2]
  simp [Vp,V7]
theorem isD {l:List YT} {s:BAr}:(ZS (Xx l) s).isSome=true↔∃ m∈l,m.name=s:=by
 have h1:=(G1 l [] []).1
 rw [← Option.ne_none_iff_isSome,ne_eq,AF]
 constructor
 · intro h
   apply Classical.byContradiction
   intro hn
   apply h
   intro p hp he
   have:p.1∈(Xx l).map (·.1):=List.mem_map.2 ⟨p,hp,rfl⟩
   rw [show Xx l=l.foldl Vp [] from rfl,h1] at this
   obtain ⟨m,hm,hme⟩:=List.mem_map.1 (show p.1∈l.map (·.name) by simpa using this)
   exact hn ⟨m,hm,hme.trans he⟩
 · rintro ⟨m,hm,rfl⟩ h
   have:m.name∈(Xx l).map (·.1):=by rw [show Xx l=l.foldl Vp [] from rfl,h1];simpa using ⟨m,hm,rfl⟩
   obtain ⟨p,hp,hpe⟩:=List.mem_map.1 this
   exact h p hp hpe
theorem isS {l:List YT} {s:BAr}:(ZS (WC l) s).isSome=true↔∃ m∈l,m.name=s:=by
 have h1:=(G1 l [] []).2
 rw [← Option.ne_none_iff_isSome,ne_eq,AF]
 constructor
 · intro h
   apply Classical.byContradiction
   intro hn
   apply h
   intro p hp he
   have:p.1∈(WC l).map (·.1):=List.mem_map.2 ⟨p,hp,rfl⟩
   rw [show WC l=l.foldl V7 [] from rfl,h1] at this
   obtain ⟨m,hm,hme⟩:=List.mem_map.1 (show p.1∈l.map (·.name) by simpa using this)
   exact hn ⟨m,hm,hme.trans he⟩
 · rintro ⟨m,hm,rfl⟩ h
   have:m.name∈(WC l).map (·.1):=by rw [show WC l=l.foldl V7 [] from rfl,h1];simpa using ⟨m,hm,rfl⟩
   obtain ⟨p,hp,hpe⟩:=List.mem_map.1 this
   exact h p hp hpe
def ZdG (l:List YT):Prop:=(Wi [] [] 0 l).2.2=0
theorem ZdG.next {l:List YT} (h:ZdG l) {k:Nat} {m:YT} (hk:l[k]?=some m):(W6 (Xx (l.take k)) (WC (l.take k)) m).2=0:=(ZaR h hk).1
theorem Zfk (l:List YT) (s:BAr) (h:(ZS (WC l) s).isSome=true):(ZS (Xx l) s).isSome=true:=isD.2 (isS.1 h)
end
section
variable {d:Xv}
theorem VF (h:(Xo d).2.2=0):Z4 d.name=true∧(1≤d.msgs.length∧d.msgs.length≤60)∧ZdG d.msgs∧(ZS (Xx d.msgs) d.start).isSome=true:=by
 unfold Xo at h
 by_cases h1:Z4 d.name=true
 · rw [if_pos h1] at h
   by_cases h2:1≤d.msgs.length∧d.msgs.length≤60
   · rw [if_pos h2] at h
     unfold NL at h
     by_cases h3:(Wi [] [] 0 d.msgs).2.2=0
     · rw [if_pos h3] at h
       by_cases h4:(ZS (Xx d.msgs) d.start).isSome=true
       · exact ⟨h1,h2,h3,h4⟩
       · rw [if_neg h4] at h;exact absurd h (by decide)
     · rw [if_neg h3] at h;exact absurd h h3
   · rw [if_neg h2] at h;exact absurd h (by decide)
 · rw [if_neg h1] at h;exact absurd h (by decide)
end
def Zbv (D:List BAr) (seen:List Vl) (v:Vl):Prop:=∃ s,seen=(D.take seen.length).map Value.string∧D[seen.length]?=some s∧v = .string s
def ZdC (D:List BAr) (seen:List Vl):Prop:=seen=D.map Value.string
theorem FA (pb:Nat) (sv:Vl) (l:List BAr):OY Pg 198 #[.pointer (some ⟨pb,0,none⟩)] (Zbv (Z3 [] l)) (ZdC (Z3 [] l)) (λ w=>Qe w pb sv l):=by
 intro yv J Jx Jp w _ hFP hJe hJx hJp XY h0
 obtain ⟨hc,hT,_⟩:=hFP _ w h0
 obtain ⟨A,c,rfl,hlc,hcm,hlm,Y1⟩:=Zc.open hT
 refine Zhr (t0:=yv) (t1 := .pointer (some ⟨pb,0,none⟩)) ?_
 unfold n69
 simp (disch:=try exact DI) only [↓PR,QR,simprocAttr,hc]
 refine ZJ (λ i w'=>∃ k j:Nat,i = .int .i64 k∧k≤l.length∧J (((Z3 [] l).take j).map Value.string) w'∧j≤(Z3 [] l).length∧(Z3 [] l).drop j=Z3 (l.take k) (l.drop k)) (λ i _=>l.length - (intOf i).toNat) ⟨0,0,rfl,by omega,h0,by omega,rfl⟩ ?_
 rintro i w' ⟨k,j,rfl,hk,hJ,hj,hD⟩
 rcases ZT hk with ⟨x,hx,hd,Yq,ZY⟩ | ⟨hk,hd,ZY⟩
 · obtain ⟨hc',hT',_⟩:=hFP _ w' hJ
   obtain ⟨A',c',hv,_,hcm',_,hel'⟩:=Zc.open hT'
   injection hv with hv _ hv'
   subst hv hv'
   obtain ⟨b,o,cs,rfl,hl,hA,rfl⟩:=hel' k x hx
   have er:=Ext.refl w'
   rw [hd] at hD
   simp only [Z3] at hD
   simp (disch:=try exact DI) only [↓PR,QR,simprocAttr,↓UX,↓UY,ZY,hA.c1,hc']
   rw [VZ underlying94 ty9 b o l.length c .i64 k (by omega)]
   have Y8:(l.take k).length=k:=by rw [List.length_take];omega
   have hpre:Zc w' 1 zH (.slice (some ⟨b,o,none⟩) k c) (l.take k):=by
    refine ⟨_,c,by rw [Y8],by rw [Y8];omega,hcm,λ _=>⟨b,o,rfl,λ i y hy=>?_⟩⟩
    rw [List.getElem?_take] at hy
    split at hy
    · obtain ⟨b',o',cs,hA',h1,h2,h3⟩:=hel' i y hy
      injection hA' with hA'
      injection hA' with h5 h6
      subst h5 h6
      exact ⟨cs,h1,h2,h3⟩
    · cases hy
   refine zcr (QW w' _ _ x hpre) λ w2 e2=>?_
   have hJ2:=(hJe _).ext hJ e2
   have htk:l.take (k+1)=l.take k++[x]:=Qw hx
   cases hany:(l.take k).any (λ y=>decide (x=y)) with
   | true=>
    rw [hany,if_pos rfl,← htk] at hD
    simp (disch:=try exact DI) only [↓PR,QR,simprocAttr,↓UX,↓UY]
    exact ⟨⟨k+1,j,rfl,by omega,hJ2,hj,hD⟩,Ya (kd := .i64) Yq⟩
   | false=>
    rw [hany,if_neg (by simp),← htk] at hD
    have NS:j < (Z3 [] l).length:=by
     have:=congrArg List.length hD
     simp at this
     omega
    have hxj:(Z3 [] l)[j]?=some x:=by
     have:=congrArg (λ l=>l[0]?) hD
     simpa using this
    have hD2:(Z3 [] l).drop (j+1)=Z3 (l.take (k+1)) (l.drop (k+1)):=by
     rw [← List.tail_drop,hD];rfl
    have hjm:(((Z3 [] l).take j).map Value.string).length=j:=by rw [List.length_map,List.length_take];omega
    have hs:=XY _ (.string x) ⟨x,by rw [hjm],by rw [hjm];exact hxj,rfl⟩ (λ _=>True) Gz.true w2 hJ2 trivial
    rw [show ((Z3 [] l).take j).map Value.string++[.string x]=((Z3 [] l).take (j+1)).map Value.string by rw [Qw hxj];simp] at hs
    simp (disch:=try exact DI) only [↓PR,QR,simprocAttr,↓UX,↓UY]
    refine Kb hs (λ ch w h=>h.2) ?_
    rintro v w3 ⟨_,⟨rfl,h2⟩ | ⟨rfl,h2⟩⟩
    · simp (disch:=try exact DI) only [↓PR,QR,simprocAttr,↓UX,↓UY]
      exact ⟨⟨k+1,j+1,rfl,by omega,h2,NS,hD2⟩,Ya (kd := .i64) Yq⟩
    · simp (disch:=try exact DI) only [↓PR,QR,simprocAttr,↓UX,↓UY]
      exact .inr h2
 · subst hk
   simp (disch:=try exact DI) only [↓PR,QR,simprocAttr,↓UX,↓UY,ZY]
   rw [hd] at hD
   have NS:j=(Z3 [] l).length:=by
    have:=congrArg List.length hD
    simp [Z3] at this
    omega
   exact .inl ⟨_,by unfold ZdC;rw [NS,List.take_length],hJ⟩
theorem ZW.cellsAt {α:Type} {w:Wd} {base n:Nat} {T:TypeId} {enc:α→List Vl} {v:Vl} {l:List α} (h:ZW w base T n enc v l) (g:Nat) (hg:v.ownBlock=some g):∃ cs T f,w.heap[g]?=some (.cells cs T f):=by
 rcases h.2 with ⟨rfl,h0⟩ | ⟨g',cap,cur,rfl,hb,hg',hc,hm,hs,ht⟩
 · cases hg
 · have:g'=g:=by simpa [Value.ownBlock] using hg
   subst this
   exact ⟨_,_,_,hg'⟩
theorem ZW.keep {α:Type} {w w':Wd} {base n:Nat} {T:TypeId} {enc:α→List Vl} {v:Vl} {l:List α} (h:ZW w base T n enc v l) (hk:∀ b,v.ownBlock=some b→w'.heap[b]?=w.heap[b]?):ZW w' base T n enc v l:=by
 obtain ⟨h1,h2⟩:=h
 refine ⟨h1,?_⟩
 rcases h2 with h2 | ⟨g,cap,cur,hv,a1,a2,a3⟩
 · exact .inl h2
 · exact .inr ⟨g,cap,cur,hv,a1,by rw [hk g (by rw [hv];rfl)];exact a2,a3⟩
theorem BZ:∀ {a b:List BAr},a.map Value.string=b.map Value.string→a=b
 | [],[],_=>rfl
 | [],_::_,h=>by cases h
 | _::_,[],h=>by cases h
 | x::a,y::b,h=>by
  rw [List.map_cons,List.map_cons] at h
  injection h with h1 h2
  injection h1 with h1
  rw [h1,BZ h2]
theorem xd (w0:Wd) (pb:Nat) (sv:Vl) (l:List BAr) (hS:Qe w0 pb sv l) (hL:(Z3 [] l).length≤1048576) :
 Ret Pg 200 #[.slice none 0 0,.func (.func 198) #[] #[.pointer (some ⟨pb,0,none⟩)]] w0 λ r w'=>ZW w' w0.heap.size 9 1 Xu r (Z3 [] l)∧Ext w0 w':=by
 have hseq:=FA pb sv l
 generalize hDD:Z3 [] l=D at hseq hL ⊢
 refine Zgq (R:=ZI _) ?_;unfold Zee
 simp (disch:=try exact DI) only [↓PR,QR,simprocAttr]
 let I:List Vl→Wd→Prop:=λ seen w=>Ext w0 w∧∃ (ss:List BAr) (tv:Vl),seen=ss.map Value.string∧ss.length≤D.length∧w.heap[w0.heap.size]?=some (.cells #[tv] 94 (0,0))∧ZW w (w0.heap.size+1) 9 1 Xu tv ss
 have hLI:∀ B,w0.heap.size≤B→∀ k,Z8 B (I k):=λ B hB k=>Z8.and (Z8.from hB) (Z8.ex λ ss=>Z8.ex λ tv=>Z8.and (Z8.const _ _) (Z8.and (Z8.const _ _) (Z8.and (Z8.has B rfl) Z8.own)))
 refine ⟨_,_,Zbv D,ZdC D,(λ w=>Qe w pb sv l),I,λ _ _=>False,λ _ _=>False,rfl,Ze9,hseq,?_,λ k w h=>hS.ext h.1,λ k=>hLI _ (by simp) k,λ _=>Z8.const _ _,λ _=>Z8.const _ _,?_,?_,?_,?_⟩
 · refine ⟨ee,[],.slice none 0 0,rfl,Nat.zero_le _,?_,ZW.nil _ _ _ _ _⟩
   simp (disch:=try exact DI) only [↓PR,QR,simprocAttr]
 · intro Rk hF seen x w1 hal hI1 hR1 hlt1 hready
   refine ⟨hready,λ w4 hbz=>?_⟩
   have hR4:=hF _ _ (KR6.busied hbz) hR1
   have hI4:=(hLI (w0.alloc (.cells #[.slice none 0 0] 94)).heap.size (by simp) seen).busied hbz (Nat.le_succ _) hI1
   clear hI1 hR1 hready hbz hlt1
   obtain ⟨x0,_,hx0,rfl⟩:=hal
   obtain ⟨e4,ss,tv,rfl,hsub,h24,hO⟩:=hI4
   rw [List.length_map] at hx0
   have Yq:=(List.getElem?_eq_some_iff.1 hx0).1
   have Y8:ss.length≤1048576:=by omega
   have z2:=(Array.getElem?_eq_some_iff.1 h24).1
   have hr:∀ g,tv.ownBlock=some g→w0.heap.size+1≤g:=λ g hb=>(World.ownsRow.lt hO g hb).1
   have eA:Ext w4 (w4.alloc (.cells #[.string x0] 9)):=(Ext.refl _).alloc _
   unfold P5
   simp (disch:=try exact DI) only [↓PR,QR,simprocAttr,(Za h24).1]
   refine VD x0 (b:=w4.heap.size) (hO.ext eA) (by rw [QF];rfl) (by have:=eA.size;omega) Y8 ?_
   intro v' w' hO' hg
   have h2':w'.heap[w0.heap.size]?=some (.cells #[tv] 94 (0,0)):=(hg.block w0.heap.size (by have:=eA.size;omega) λ e=>by have:=hr _ e.symm;omega).trans (eA.obj h24)
   have ht1:v'.oneCell'=true:=Zc.oneCell (ZW.slice (E:=λ _ cs s=>cs=Xu s) hO' (λ _=>rfl) (λ _ _=>rfl))
   simp (disch:=try exact DI) only [↓PR,QR,simprocAttr,(Za h2').1,(Za h2').2]
   have hE5:Ext w0 (w'.setCell ⟨w0.heap.size,0,none⟩ v'):=((e4.trans eA).grown hg λ g hb=>by have:=hr g hb;omega).setCell (p:=⟨w0.heap.size,0,none⟩) (Nat.le_refl _) _
   refine ⟨hF _ _ ((((KR6.refl _ w4).ext eA).grown hg λ g hb=>ZW.cellsAt (hO.ext eA) g hb).cell h2' 0 v') hR4,hE5,ss++[x0],v',by simp,by simp;omega,Zw (o:=0) h2' v',ZW.keep hO' λ g hb=>?_⟩
   have:=(World.ownsRow.lt hO' g hb).1
   rw [YG.setCell _ w0.heap.size _ _ g (by omega)]
 · intro seen w1 hfin hI1 hmk
   obtain ⟨e1,ss,tv,rfl,_,h24,hO⟩:=hI1
   have hz:(w0.alloc (.cells #[.slice none 0 0] 94)).heap.size=w0.heap.size+1:=by simp
   rw [hz] at hmk ⊢
   show Ux _ _ _
   rw [(Za h24).1]
   show Uc _ _ _ _ _
   refine Wm hmk ?_
   simp (disch:=try exact DI) only [↓PR,QR,simprocAttr,Wz,yW,XT]
   rw [← BZ hfin]
   refine ⟨(ZW.keep hO λ g hb=>?_).base (Nat.le_succ _),e1.putObj (Nat.le_succ _) _⟩
   have YN:g≠w0.heap.size+1:=by
    rintro rfl
    obtain ⟨cs,T,f,hc⟩:=ZW.cellsAt hO _ hb
    have:w1.heap[w0.heap.size+1]?=some (.deferred (some [])):=hmk
    rw [hc] at this
    cases this
   exact World.putObj_heap_other YN
 · exact λ _ _ h=>h.elim
 · exact λ _ _ h=>h.elim
theorem xr:∀ (seen l:List BAr),(Z3 seen l).length≤l.length
 | _,[]=>Nat.le_refl _
 | seen,s::l=>by
  unfold Z3
  split
  · exact Nat.le_trans (xr _ l) (Nat.le_succ _)
  · simp only [List.length_cons]
    exact Nat.succ_le_succ (xr _ l)
theorem jM (w0:Wd) (pb:Nat) (sv:Vl) (l:List BAr) (hS:Qe w0 pb sv l) (hL:(Z3 [] l).length≤1048576) :
 Ret Pg 166 #[.func (.func 198) #[] #[.pointer (some ⟨pb,0,none⟩)]] w0 λ r w'=>ZW w' w0.heap.size 9 1 Xu r (Z3 [] l)∧Ext w0 w':=by
 refine Zgy (R:=ZI _) ?_;unfold Zgx
 refine Zk (xd w0 pb sv l hS hL) ?_
 rintro v w1 ⟨h,e1⟩
 simp (disch:=try exact DI) only [↓PR,QR,simprocAttr]
 exact ⟨h,e1⟩
theorem BJ (w0:Wd) (v:Vl) (f:Zq) (hf:Z0 w0 v f) (hb:(Yy f).length≤1048576):Ret Pg 141 #[v] w0 λ r w'=>Zc w' 1 zH r (Z3 [] (Yy f))∧Ext w0 w':=by
 obtain ⟨tv,cv,rfl,hT,hC,t1,c1⟩:=hf.op
 have hr:YW [f]=Yy f:=by unfold YW;simp
 refine Zko (R:=ZI _) ?_;unfold n49
 rw [YB]
 have jr:=Yn.new (w:=w0) (Zp f tv cv) (123)
 have eW:Ext w0 (w0.alloc (Obj.cells (List.toArray (Zp f tv cv)) (123))):=(Ext.refl _).alloc _
 generalize (w0.alloc (Obj.cells (List.toArray (Zp f tv cv)) (123)))=W at jr eW ⊢
 simp (disch:=try exact DI) only [↓PR,QR,simprocAttr,jr.c15 (Ext.refl W)]
 have hA:Yn (W.alloc (.cells (Zp f tv cv).toArray 123)) W.heap.size 0 (Zp f tv cv):=Yn.new _ _
 have eV:Ext W (W.alloc (.cells (Zp f tv cv).toArray 123)):=(Ext.refl W).alloc _
 generalize (W.alloc (.cells (Zp f tv cv).toArray 123))=V at hA eV ⊢
 have hM:Wa V (.agg #[.string ByteArray.empty,.slice (some ⟨W.heap.size,0,none⟩) 1 1]) ⟨ByteArray.empty,[f]⟩:=by
  refine ⟨_,rfl,_,1,rfl,Nat.le_refl _,by decide,λ _=>⟨_,0,rfl,λ k x hx=>?_⟩⟩
  cases k with
  | zero=>
   simp only [List.getElem?_cons_zero,Option.some.injEq] at hx
   subst hx
   exact ⟨_,rfl,hA,tv,cv,rfl,hT.ext (eW.trans eV),hC.ext (eW.trans eV)⟩
  | succ k=>simp at hx
 refine Zk (jX V _ ⟨ByteArray.empty,[f]⟩ hM (by rw [hr];exact hb)) ?_
 rintro _ w1 ⟨pb,sv,rfl,hS,hpb,e1⟩
 rw [hr] at hS
 refine Zk (jM w1 pb sv _ hS (Nat.le_trans (xr _ _) hb)) ?_
 rintro v w2 ⟨hO,e2⟩
 simp (disch:=try exact DI) only [↓PR,QR,simprocAttr]
 exact ⟨hO.slice (λ _=>rfl) (λ _ _=>rfl),eW.trans (eV.trans (e1.trans e2))⟩
section
variable {a0 w:Wd} {cb:Nat} {m:Yo} {d e:Xv} {ru fi:Int}
def BM (last:Int) (x:Qx):Bool:=decide (last < x.low)&&(decide (x.low≤x.high)&&(Wy x.high&&Wy x.to))
theorem LX (last:Int) (x:Qx) (l:List Qx):J2 last (x::l)=(BM last x&&J2 x.high l):=by
 rw [J2];unfold BM;simp only [Bool.and_assoc]
theorem ZeA (h:CkM a0 w cb m d e ru fi) (v:Vl) (l:List Qx) (hs:QX w v l):Calls Pg 112 #[.pointer (some ⟨cb,0,none⟩),v] w (mR w (decide (QY l=0)) ru fi (QY l)):=by
 obtain ⟨A,c,rfl,hlc,hcm,hlm,Y1⟩:=Zc.open hs
 refine Zkc ?_;unfold n37
 have first:∀ b,b=decide (1≤l.length∧l.length≤40)→ZV Pg 33 #[.pointer (some ⟨cb,0,none⟩),.bool b,.int .i64 2] (Zd (mR w (decide (QY l=0)) ru fi (QY l))) w (λ _ w'=>qJ (.pointer (some ⟨cb,0,none⟩)) (.slice A l.length c) (mR w (decide (QY l=0)) ru fi (QY l)) w'):=by
  rintro b rfl
  refine YP (XB h _ 2) (λ w1 e1 hb=>?_) (λ w1 e1 hb=>?_)
  · simp only [decide_eq_true_eq] at hb
    have ht:QY l=if J2 (-1) l=true then 0 else 8:=by unfold QY;rw [if_neg (by omega)]
    unfold qJ
    simp (disch:=try exact DI) only [↓PR,QR,simprocAttr]
    refine Wh (λ a b w'=>∃ (k:Nat) (last:Int),a = .int .i64 last∧b = .int .i64 k∧k≤l.length∧Ext w w'∧J2 (-1) l=J2 last (l.drop k)) (λ _ b _=>l.length - (intOf b).toNat) ⟨0,-1,rfl,rfl,by omega,e1,rfl⟩ ?_
    rintro _ _ w2 ⟨k,last,rfl,rfl,hk,e2,hR⟩
    rcases ZT hk with ⟨x,hx,hdr,Yq,ZY⟩ | ⟨hk,hdr,ZY⟩
    · obtain ⟨bt,ot,cst,rfl,_,hAt,rfl⟩:=Y1 k x hx
      rw [hdr,LX] at hR
      simp (disch:=try exact DI) only [↓PR,QR,simprocAttr,ZY]
      unfold Bp
      simp (disch:=try exact DI) only [↓PR,QR,simprocAttr,hAt.c3 e2]
      have oV:=Zv w2 (Z9 x).toArray 78
      have eV:Ext w2 (w2.alloc (.cells (Z9 x).toArray 78)):=(Ext.refl w2).alloc _
      generalize (w2.alloc (.cells (Z9 x).toArray 78))=V at oV eV ⊢
      have e3:=e2.trans eV
      have last3:∀ b,b=BM last x→∀ k1:Vl→Wd→Prop,(∀ w4,Ext V w4→BM last x=true→k1 (.tuple #[]) w4)→ZV Pg 33 #[.pointer (some ⟨cb,0,none⟩),.bool b,.int .i64 8] (Zd (mR w (decide (QY l=0)) ru fi (QY l))) V k1:=by
       rintro b rfl k1 hk1
       refine YP (XB (h.go e3) _ 8) (λ w4 e4 hb=>hk1 w4 e4 hb) (λ w4 e4 hb=>?_)
       rw [hb,Bool.false_and] at hR
       rw [hR,if_neg (by simp)] at ht
       exact xD (e3.trans e4) (by rw [ht];rfl) ht
      have q:=Za oV
      have goOn:∀ w4,Ext V w4→BM last x=true→qI (.pointer (some ⟨w2.heap.size,0,none⟩)) (.int .i64 k) (λ a b w'=>(∃ (k:Nat) (last:Int),a = .int .i64 last∧b = .int .i64 k∧k≤l.length∧Ext w w'∧J2 (-1) l=J2 last (l.drop k))∧l.length - (intOf b).toNat < l.length - (intOf (Value.int IntKind.i64 k)).toNat) (mR w (decide (QY l=0)) ru fi (QY l)) w4:=by
       intro w4 e4 hb
       rw [hb,Bool.true_and] at hR
       have q4:=Za (e4.obj oV)
       unfold qI
       simp (disch:=try exact DI) only [↓PR,QR,simprocAttr,q4.1]
       exact ⟨⟨k+1,_,rfl,rfl,Yq,e3.trans e4,hR⟩,Ya (kd := .i64) Yq⟩
      by_cases h1:last < x.low
      · have d1:decide (x.low > last)=true:=by simpa using h1
        by_cases h2:x.low≤x.high
        · have d2:decide (x.low≤x.high)=true:=by simpa using h2
          have hB:BM last x=(Wy x.high&&Wy x.to):=by unfold BM;simp [h1,h2]
          simp (disch:=try exact DI) only [↓PR,QR,simprocAttr,q.1,d1,d2,↓qI,↓Dk,↓Dl,↓Bp,↓qJ]
          refine Zk (QE V x.high) ?_
          rintro _ w' ⟨rfl,hw⟩
          rw [hw]
          generalize hn:Wy x.high=nh at hB
          cases nh with
          | true=>
           simp (disch:=try exact DI) only [↓PR,QR,simprocAttr,q.1,↓qI,↓Dk,↓Dl,↓Bp,↓qJ]
           refine Zk (QE V x.to) ?_
           rintro _ w' ⟨rfl,hw⟩
           rw [hw]
           simp (disch:=try exact DI) only [↓PR,QR,simprocAttr]
           exact last3 _ (by rw [hB,Bool.true_and]) _ goOn
          | false=>
           simp (disch:=try exact DI) only [↓PR,QR,simprocAttr,q.1,↓qI,↓Dk,↓Dl,↓Bp,↓qJ]
           exact last3 _ (by rw [hB,Bool.false_and]) _ goOn
        · have d2:decide (x.low≤x.high)=false:=by simpa using h2
          have hB:BM last x=false:=by unfold BM;simp [h2]
          simp (disch:=try exact DI) only [↓PR,QR,simprocAttr,q.1,d1,d2,↓qI,↓Dk,↓Dl,↓Bp,↓qJ]
          exact last3 _ hB.symm _ goOn
      · have d1:decide (x.low > last)=false:=by simpa using h1
        have hB:BM last x=false:=by unfold BM;simp [h1]
        simp (disch:=try exact DI) only [↓PR,QR,simprocAttr,q.1,d1,↓qI,↓Dk,↓Dl,↓Bp,↓qJ]
        exact last3 _ hB.symm _ goOn
    · subst hk
      rw [hdr,J2] at hR
      rw [hR,if_pos rfl] at ht
      simp (disch:=try exact DI) only [↓PR,QR,simprocAttr,ZY]
      exact EA e2 (by rw [ht];rfl)
  · have ht:QY l=2:=by
     unfold QY
     rw [if_pos]
     simp only [decide_eq_false_iff_not] at hb
     omega
    exact xD e1 (by rw [ht];rfl) ht
 by_cases h1:1≤l.length
 · have d1:decide ((l.length:Int)≥1)=true:=by simp;omega
   by_cases h2:l.length≤40
   · have d2:decide ((l.length:Int)≤40)=true:=by simp;omega
     simp (disch:=try exact DI) only [↓PR,QR,simprocAttr,d1,d2]
     exact first _ (by simp [h1,h2])
   · have d2:decide ((l.length:Int)≤40)=false:=by simp;omega
     simp (disch:=try exact DI) only [↓PR,QR,simprocAttr,d1,d2]
     exact first _ (by simp [h2])
 · have d1:decide ((l.length:Int)≥1)=false:=by simp;omega
   simp (disch:=try exact DI) only [↓PR,QR,simprocAttr,d1]
   exact first _ (by simp [h1])
end
section
variable {a0 w:Wd} {cb:Nat} {m:Yo} {d e:Xv} {ru fi:Int}
def qY (m:Yo) (f t:Zq):Bool:=(Z3 [] (Yy f)).all (okN m (Z3 [] (Yy t)))
theorem SM (h:CkM a0 w cb m d e ru fi) (u v:Vl) (f t:Zq) (hf:Z0 w u f) (ht:Z0 w v t) (bf:(Yy f).length≤1048576) (bt:(Yy t).length≤1048576):Calls Pg 113 #[.pointer (some ⟨cb,0,none⟩),u,v] w (mR w (qY m f t) ru fi 9):=by
 obtain ⟨tf,cf,rfl,hTf,hCf,o1,o2⟩:=hf.op
 obtain ⟨tt,ct,rfl,hTt,hCt,o3,o4⟩:=ht.op
 refine Zj9 ?_;unfold n34
 rw [YB]
 have jr:=Yn.new (w:=w) (Zp f tf cf) (123)
 have eW:Ext w (w.alloc (Obj.cells (List.toArray (Zp f tf cf)) (123))):=(Ext.refl _).alloc _
 generalize (w.alloc (Obj.cells (List.toArray (Zp f tf cf)) (123)))=W at jr eW ⊢
 rw [YB]
 have hBX:=Yn.new (w:=W) (Zp t tt ct) (123)
 have eX:Ext W (W.alloc (Obj.cells (List.toArray (Zp t tt ct)) (123))):=(Ext.refl _).alloc _
 generalize (W.alloc (Obj.cells (List.toArray (Zp t tt ct)) (123)))=X at hBX eX ⊢
 simp (disch:=try exact DI) only [↓PR,QR,simprocAttr,jr.c15 eX]
 refine Zk (BJ X _ f ⟨_,_,rfl,hTf.ext (eW.trans eX),hCf.ext (eW.trans eX)⟩ bf) ?_
 rintro v1 w1 ⟨hD,e1⟩
 have E1:=eW.trans (eX.trans e1)
 have hNB:qY m f t=(Z3 [] (Yy f)).all (okN m (Z3 [] (Yy t))):=rfl
 generalize Z3 [] (Yy f)=D at hD hNB
 obtain ⟨A,c,rfl,hlc,hcm,hlm,Y1⟩:=Zc.open hD
 unfold Zca
 simp (disch:=try exact DI) only [↓PR,QR,simprocAttr]
 refine ZJ (λ b w'=>∃ k:Nat,b = .int .i64 k∧k≤D.length∧Ext w1 w'∧qY m f t=(D.drop k).all (okN m (Z3 [] (Yy t)))) (λ b _=>D.length - (intOf b).toNat) ⟨0,rfl,by omega,Ext.refl _,hNB⟩ ?_
 rintro _ w2 ⟨k,rfl,hk,e2,hR⟩
 have E2:=E1.trans e2
 have hC:=h.go E2
 rcases ZT hk with ⟨s,hx,hdr,Yq,ZY⟩ | ⟨hk,hdr,ZY⟩
 · obtain ⟨bt',ot,cst,rfl,_,hAt,rfl⟩:=Y1 k s hx
   rw [hdr,List.all_cons] at hR
   obtain ⟨rv,dv,ev,q,hRv,hdv,hev⟩:=hC.obj
   have rv1:=Zc.oneCell hRv
   simp (disch:=try exact DI) only [↓PR,QR,simprocAttr,ZY]
   unfold Zb9
   simp (disch:=try exact DI) only [↓PR,QR,simprocAttr,hAt.c1 e2,(Za q).1,(Za q).2]
   refine zcr (jZ w2 _ m s ⟨_,rfl,hRv.ext hC.ext⟩) λ w3 e3=>?_
   unfold Zb8
   have fin:∀ (b:Bool) w4,Ext w3 w4→EC w3.drew w4→b=okN m (Z3 [] (Yy t)) s→ZV Pg 33 #[.pointer (some ⟨cb,0,none⟩),.bool b,.int .i64 9] (Zd (mR w (qY m f t) ru fi 9)) w4 (λ _ w5=>EC w3.drew w5∧(opV Pg (ZF .add 3 true (.int .i64 k) (.int .i64 1)) (Zd (mR w (qY m f t) ru fi 9)) w5 λ b w'=>(∃ k:Nat,b = .int .i64 k∧k≤D.length∧Ext w1 w'∧qY m f t=(D.drop k).all (okN m (Z3 [] (Yy t))))∧D.length - (intOf b).toNat < D.length - (intOf (Value.int IntKind.i64 k)).toNat)):=by
    rintro b w4 e4 x4 rfl
    refine YP (XB (h.go (E2.trans (e3.trans e4))) _ 9) (λ w5 e5 hb=>?_) (λ w5 e5 hb=>?_)
    · rw [hb,Bool.true_and] at hR
      refine ⟨Ext.trans x4 e5,?_⟩
      simp (disch:=try exact DI) only [↓PR,QR,simprocAttr]
      exact ⟨⟨k+1,rfl,Yq,e2.trans (e3.trans (e4.trans e5)),hR⟩,Ya (kd := .i64) Yq⟩
    · rw [hb,Bool.false_and] at hR
      exact xD (E2.trans (e3.trans (e4.trans e5))) hR rfl
   rcases Fl (λ r:MrD=>decide (r.fr=s)) m.rules with ⟨h1,h2,_,_,_⟩ | ⟨i,x,hxi,h1,h2,_,_,_⟩
   · have hp:KF m s=none:=h2
     have hk0:okN m (Z3 [] (Yy t)) s=false:=by unfold okN;rw [h1]
     rw [hp,Option.getD_none,show (none:Option Nat).isSome=false from rfl]
     simp (disch:=try exact DI) only [↓PR,QR,simprocAttr]
     refine ZE ?_
     simp (disch:=try exact DI) only [↓PR,QR,simprocAttr]
     unfold Rx
     exact fin false _ (Ext.refl w3).drew (Ext.refl _) hk0.symm
   · have hp:KF m s=some i:=h2
     rw [hp,Option.getD_some,show (some i).isSome=true from rfl]
     simp (disch:=try exact DI) only [↓PR,QR,simprocAttr]
     refine ZE ?_
     obtain ⟨br,or',cr,rfl,_,_,_,hil,helr⟩:=HR hRv hxi
     obtain ⟨csr,_,hAr,hEr⟩:=helr i x hxi
     obtain ⟨fv,rfl,hFr⟩:=hEr
     have q3:=Za (e3.obj q)
     unfold Zb7
     simp (disch:=try exact DI) only [↓PR,QR,simprocAttr,q3.1,q3.2,hBX.c15 (e1.trans (e2.trans e3)),hAr.c3 (hC.ext.trans e3)]
     have E3:=E2.trans e3.drew
     refine Zk (BJ _ _ t ⟨_,_,rfl,hTt.ext E3,hCt.ext E3⟩ bt) ?_
     rintro v2 w4 ⟨hT2,e4⟩
     refine ⟨e4,?_⟩
     refine zcr (QW w4 _ _ x.to hT2) λ w5 e5=>?_
     refine ⟨e4.trans e5,?_⟩
     have hk1:okN m (Z3 [] (Yy t)) s=(Z3 [] (Yy t)).any λ y=>decide (x.to=y):=by unfold okN;rw [h1]
     unfold Rx
     simp (disch:=try exact DI) only [↓PR,QR,simprocAttr]
     exact fin _ w5 ((Ext.refl w3).drew.trans (e4.trans e5)) (e4.trans e5) hk1.symm
 · subst hk
   rw [hdr] at hR
   simp (disch:=try exact DI) only [↓PR,QR,simprocAttr,ZY]
   exact EA E2 (by rw [hR];rfl)
end
theorem CT {s:BAr} {l:List BAr}:s∈Z3 [] l↔s∈l:=by rw [xG];simp
theorem T2 {α:Type} {p:α→Bool} {a b:List α} (h:∀ x,x∈a↔x∈b):a.all p=b.all p:=by
 rw [Bool.eq_iff_iff,List.all_eq_true,List.all_eq_true]
 exact ⟨λ k x hx=>k x ((h x).2 hx),λ k x hx=>k x ((h x).1 hx)⟩
theorem T4 {α:Type} {p:α→Bool} {a b:List α} (h:∀ x,x∈a↔x∈b):a.any p=b.any p:=by
 rw [Bool.eq_iff_iff,List.any_eq_true,List.any_eq_true]
 exact ⟨λ ⟨x,hx,k⟩=>⟨x,(h x).1 hx,k⟩,λ ⟨x,hx,k⟩=>⟨x,(h x).2 hx,k⟩⟩
theorem IH {f:Zq} (h:4≤YU f):f.kind=7∨f.kind=8∨f.kind=12∨f.kind=9:=by
 unfold YU at h
 split at h
 · omega
 · split at h
   · omega
   · split at h
     · omega
     · split at h
       · omega
       · split at h
         · omega
         · split at h<;>omega
theorem GX {f:Zq} (h:4≤YU f):Yy f=M9 (some f):=by
 unfold M9 Yy
 rcases IH h with k | k | k | k<;>simp [k]
theorem ZaX {m:Yo} {s:BAr} {a b:List BAr} (h:∀ x,x∈a↔x∈b):okN m a s=okN m b s:=by
 unfold okN
 cases m.rules.find? λ r=>decide (r.fr=s) with
 | none=>rfl
 | some r=>exact T4 h
theorem ZaV {m:Yo} {f t:Zq} (hf:4≤YU f) (ht:4≤YU t):Dw m (some f) (some t)=if qY m f t=true then 0 else 9:=by
 unfold Dw qY
 rw [← GX hf,← GX ht]
 have:((Yy f).all (okN m (Yy t)))=((Z3 [] (Yy f)).all (okN m (Z3 [] (Yy t)))):=by
  rw [T2 (a:=Z3 [] (Yy f)) (b:=Yy f) λ _=>CT]
  congr 1
  funext s
  exact ZaX λ _=>CT.symm
 rw [this]
section
variable {a0 w w0:Wd} {cb p6 p10:Nat} {m:Yo} {d e:Xv} {ru fi:Int}
theorem OZ {r:FrD} (h:inF r=true):Wy (if IntKind.i64.wrap (0 - r.add) > r.add then IntKind.i64.wrap (0 - r.add) else r.add)=j5 r.add:=by
 unfold inF Qm at h
 simp only [Bool.and_eq_true,decide_eq_true_eq] at h
 obtain ⟨⟨h1,h2⟩,_⟩:=h
 generalize r.add=n at h1 h2
 by_cases hn:n = -9223372036854775808
 · subst hn;decide
 · rw [XC (by omega) (by omega)]
   unfold Wy j5
   rw [Bool.eq_iff_iff]
   simp only [Bool.and_eq_true,decide_eq_true_eq]
   split<;>omega
theorem SS (h:CkM a0 w cb m d e ru fi) (e0:Ext w0 w) (r:FrD) (bv tv:Vl) (o6:w.heap[p6]?=some (.cells (Zz r bv tv).toArray 43 (0,0))) (hT:QX w tv r.table) (hB:zD w bv r.bytes)
 (fo to:Option Zq) (tt tc:Vl) (o10:w.heap[p10]?=some (.cells (Zp (to.getD Vq) tt tc).toArray 123 (0,0))) (hTt:ZZ w tt (to.getD Vq).terms) (hTc:Yl w tc (to.getD Vq).cases) (u:Vl) (hu:Z0 w u (fo.getD Vq))
 (bf:(Yy (fo.getD Vq)).length≤1048576) (bt:(Yy (to.getD Vq)).length≤1048576) (hk:1≤r.kind∧r.kind≤7) (hin:inF r=true) :
 Kj (.pointer (some ⟨cb,0,none⟩)) (.pointer (some ⟨p6,0,none⟩)) (.pointer (some ⟨p10,0,none⟩)) (.int .i64 (Co to)) (.tuple #[u,.int .i64 (Co fo)]) (mR w0 (decide (QV m r fo to=0)) ru fi (QV m r fo to)) w:=by
 obtain ⟨tf,cf,rfl,hTf,hCf,f1,f2⟩:=hu.op
 obtain ⟨At,ct,rfl,_,_,_,_⟩:=Zc.open hT
 obtain ⟨Ab,cby,rfl,_,_,hbl,_⟩:=Zc.open hB
 unfold Kj
 simp (disch:=try exact DI) only [↓PR,QR,simprocAttr]
 have oV:=Zv w (Zp (fo.getD Vq) tf cf).toArray 123
 have eV:Ext w (w.alloc (.cells (Zp (fo.getD Vq) tf cf).toArray 123)):=(Ext.refl w).alloc _
 generalize (w.alloc (.cells (Zp (fo.getD Vq) tf cf).toArray 123))=V at oV eV ⊢
 generalize w.heap.size=p14 at oV ⊢
 have hC:=h.go eV
 have E:=e0.trans eV
 have q:=(Za (eV.obj o6)).1
 have fin:∀ w',Ext V w'→QV m r fo to=0→mR w0 (decide (QV m r fo to=0)) ru fi (QV m r fo to) (.returned (.tuple #[])) w':=λ w' e' hc=>EA (E.trans e') (by rw [hc];rfl)
 have pan:∀ w' c,Ext V w'→QV m r fo to=c→c≠0→Zd (mR w0 (decide (QV m r fo to=0)) ru fi (QV m r fo to)) [Vj ru fi c] w':=λ w' c e' hc h0=>xD (E.trans e') (by rw [hc];simpa using h0) hc
 generalize hx:Co fo=x
 generalize hy:Co to=y
 have this:r.kind=1∨r.kind=2∨r.kind=3∨r.kind=4∨r.kind=5∨r.kind=6∨r.kind=7:=by omega
 have hkc:QV m r fo to=QV m r fo to:=rfl
 conv at hkc=>rhs;unfold QV;rw [hx,hy];simp only
 rcases this with hk | hk | hk | hk | hk | hk | hk
 all_goals rw [hk] at hkc
 all_goals simp (disch:=try exact DI) only [↓PR,QR,simprocAttr,q,hk,↓Bg,↓Bh,↓Bi,↓Bj,↓Bk,↓Bl,↓Bm,↓Bn,↓Bo,↓zg,↓zh,↓zi,↓zj,↓zl,↓Kj,↓JE,↓Kk,↓JF,↓JG,↓JH,↓JI,↓JJ]
 · replace hkc:QV m r fo to=if x≠y∨3 < y then 5 else 0:=hkc
   refine YP (XB hC _ 5) (λ w1 e1 hb=>?_) (λ w1 e1 hb=>?_)
   · simp only [Bool.and_eq_true,beq_iff_eq,decide_eq_true_eq] at hb
     exact fin _ e1 (by rw [hkc,if_neg (by omega)])
   · simp only [Bool.and_eq_false_iff,beq_eq_false_iff_ne,decide_eq_false_iff_not] at hb
     exact pan _ _ e1 (by rw [hkc,if_pos (by omega)]) (by decide)
 · replace hkc:QV m r fo to=if x≠1∨y≠1 then 5 else if j5 r.add=true then 0 else 8:=hkc
   refine YP (XB hC _ 5) (λ w1 e1 hb=>?_) (λ w1 e1 hb=>?_)
   · simp only [Bool.and_eq_true,beq_iff_eq] at hb
     rw [if_neg (by omega)] at hkc
     have q1:=(Za ((eV.trans e1).obj o6)).1
     simp (disch:=try exact DI) only [↓PR,QR,simprocAttr,q1,↓Bg,↓Bh,↓Bi,↓Bj,↓Bk,↓Bl,↓Bm,↓Bn,↓Bo,↓zg,↓zh,↓zi,↓zj,↓zl,↓Kj,↓JE,↓Kk,↓JF,↓JG,↓JH,↓JI,↓JJ]
     refine Zk (QE w1 _) ?_
     rintro _ w2 ⟨rfl,hw⟩
     rw [hw,OZ hin]
     refine YP (XB (hC.go e1) _ 8) (λ w3 e3 hb=>?_) (λ w3 e3 hb=>?_)
     · exact fin _ (e1.trans e3) (by rw [hkc,if_pos hb])
     · exact pan _ _ (e1.trans e3) (by rw [hkc,hb];rfl) (by decide)
   · simp only [Bool.and_eq_false_iff,beq_eq_false_iff_ne] at hb
     exact pan _ _ e1 (by rw [hkc,if_pos (by omega)]) (by decide)
 · replace hkc:QV m r fo to=if y≠1 then 5 else if Wy r.value=true then 0 else 8:=hkc
   refine YP (XB hC _ 5) (λ w1 e1 hb=>?_) (λ w1 e1 hb=>?_)
   · simp only [beq_iff_eq] at hb
     rw [if_neg (by omega)] at hkc
     have q1:=(Za ((eV.trans e1).obj o6)).1
     simp (disch:=try exact DI) only [↓PR,QR,simprocAttr,q1,↓Bg,↓Bh,↓Bi,↓Bj,↓Bk,↓Bl,↓Bm,↓Bn,↓Bo,↓zg,↓zh,↓zi,↓zj,↓zl,↓Kj,↓JE,↓Kk,↓JF,↓JG,↓JH,↓JI,↓JJ]
     refine Zk (QE w1 _) ?_
     rintro _ w2 ⟨rfl,hw⟩
     rw [hw]
     refine YP (XB (hC.go e1) _ 8) (λ w3 e3 hb=>?_) (λ w3 e3 hb=>?_)
     · exact fin _ (e1.trans e3) (by rw [hkc,if_pos hb])
     · exact pan _ _ (e1.trans e3) (by rw [hkc,hb];rfl) (by decide)
   · simp only [beq_eq_false_iff_ne] at hb
     exact pan _ _ e1 (by rw [hkc,if_pos (by omega)]) (by decide)
 · replace hkc:QV m r fo to=if y≠2 then 5 else if 1000 < r.bytes.length then 2 else 0:=hkc
   refine YP (XB hC _ 5) (λ w1 e1 hb=>?_) (λ w1 e1 hb=>?_)
   · simp only [beq_iff_eq] at hb
     rw [if_neg (by omega)] at hkc
     have q1:=(Za ((eV.trans e1).obj o6)).1
     simp (disch:=try exact DI) only [↓PR,QR,simprocAttr,q1,↓Bg,↓Bh,↓Bi,↓Bj,↓Bk,↓Bl,↓Bm,↓Bn,↓Bo,↓zg,↓zh,↓zi,↓zj,↓zl,↓Kj,↓JE,↓Kk,↓JF,↓JG,↓JH,↓JI,↓JJ]
     refine YP (XB (hC.go e1) _ 2) (λ w3 e3 hb=>?_) (λ w3 e3 hb=>?_)
     · simp only [decide_eq_true_eq] at hb
       exact fin _ (e1.trans e3) (by rw [hkc,if_neg (by omega)])
     · simp only [decide_eq_false_iff_not] at hb
       exact pan _ _ (e1.trans e3) (by rw [hkc,if_pos (by omega)]) (by decide)
   · simp only [beq_eq_false_iff_ne] at hb
     exact pan _ _ e1 (by rw [hkc,if_pos (by omega)]) (by decide)
 · replace hkc:QV m r fo to=if x≠1∨y≠1 then 5 else QY r.table:=hkc
   refine YP (XB hC _ 5) (λ w1 e1 hb=>?_) (λ w1 e1 hb=>?_)
   · simp only [Bool.and_eq_true,beq_iff_eq] at hb
     rw [if_neg (by omega)] at hkc
     have q1:=(Za ((eV.trans e1).obj o6)).1
     simp (disch:=try exact DI) only [↓PR,QR,simprocAttr,q1,↓Bg,↓Bh,↓Bi,↓Bj,↓Bk,↓Bl,↓Bm,↓Bn,↓Bo,↓zg,↓zh,↓zi,↓zj,↓zl,↓Kj,↓JE,↓Kk,↓JF,↓JG,↓JH,↓JI,↓JJ]
     refine YP (ZeA (hC.go e1) _ _ (hT.ext (eV.trans e1))) (λ w3 e3 hb=>?_) (λ w3 e3 hb=>?_)
     · exact fin _ (e1.trans e3) (by rw [hkc];simpa using hb)
     · exact pan _ _ (e1.trans e3) hkc (by simpa using hb)
   · simp only [Bool.and_eq_false_iff,beq_eq_false_iff_ne] at hb
     exact pan _ _ e1 (by rw [hkc,if_pos (by omega)]) (by decide)
 · replace hkc:QV m r fo to=if x≠y∨y < 4 then 5 else Dw m fo to:=hkc
   refine YP (XB hC _ 5) (λ w1 e1 hb=>?_) (λ w1 e1 hb=>?_)
   · simp only [Bool.and_eq_true,beq_iff_eq,decide_eq_true_eq] at hb
     rw [if_neg (by omega)] at hkc
     cases fo with
     | none=>have:(0:Int)=x:=hx;omega
     | some f=>
     cases to with
     | none=>have:(0:Int)=y:=hy;omega
     | some t=>
     have c1:YU f=x:=hx
     have c2:YU t=y:=hy
     rw [ZaV (by omega) (by omega)] at hkc
     have e01:=eV.trans e1
     have q2:=(Za (e1.obj oV)).1
     have q3:=(Za (e01.obj o10)).1
     simp (disch:=try exact DI) only [↓PR,QR,simprocAttr,q2,q3,↓Bg,↓Bh,↓Bi,↓Bj,↓Bk,↓Bl,↓Bm,↓Bn,↓Bo,↓zg,↓zh,↓zi,↓zj,↓zl,↓Kj,↓JE,↓Kk,↓JF,↓JG,↓JH,↓JI,↓JJ]
     refine YP (SM (hC.go e1) _ _ f t ⟨_,_,rfl,ZZ.ext hTf e01,Yl.ext hCf e01⟩ ⟨_,_,rfl,ZZ.ext hTt e01,Yl.ext hTc e01⟩ bf bt) (λ w3 e3 hb=>?_) (λ w3 e3 hb=>?_)
     · exact fin _ (e1.trans e3) (by rw [hkc,if_pos hb])
     · exact pan _ _ (e1.trans e3) (by rw [hkc,hb];rfl) (by decide)
   · simp only [Bool.and_eq_false_iff,beq_eq_false_iff_ne,decide_eq_false_iff_not] at hb
     exact pan _ _ e1 (by rw [hkc,if_pos (by omega)]) (by decide)
 · replace hkc:QV m r fo to=if y≠1 then 5 else 0:=hkc
   refine YP (XB hC _ 5) (λ w1 e1 hb=>?_) (λ w1 e1 hb=>?_)
   · simp only [beq_iff_eq] at hb
     exact fin _ e1 (by rw [hkc,if_neg (by omega)])
   · simp only [beq_eq_false_iff_ne] at hb
     exact pan _ _ e1 (by rw [hkc,if_pos (by omega)]) (by decide)
end
theorem OL {k:Int} {u:Ck} (h:XR k=some u):1≤k∧k≤7:=by
 unfold XR at h
 by_cases h7:1≤k∧k≤7
 · exact h7
 · rw [if_neg (by omega),if_neg (by omega),if_neg (by omega),if_neg (by omega),if_neg (by omega),if_neg (by omega),if_neg (by omega)] at h
   cases h
def JS:Ck:=⟨false,false,false,false,false⟩
section
variable {a0 w:Wd} {cb:Nat} {m:Yo} {d e:Xv} {ru fi:Int}
theorem Zib (h:CkM a0 w cb m d e ru fi) (rv av bv lv:Vl) (r:FrD) (a b:YT) (l:List FrD) (hr:Wf w rv r) (ha:Wa w av a) (hb:Wa w bv b) (hl:QZ w lv l) (hin:inF r=true)
 (ba:∀ f∈a.fields,(Yy f).length≤1048576) (bb:∀ f∈b.fields,(Yy f).length≤1048576) :
 Calls Pg 77 #[.pointer (some ⟨cb,0,none⟩),rv,av,bv,lv] w (mR w (decide (x8 m r a b l=0)) ru fi (x8 m r a b l)):=by
 obtain ⟨bv1,tv1,rfl,hB,hT,o1,o2⟩:=hr.op
 obtain ⟨fa,rfl,hFa⟩:=ha
 obtain ⟨fb,rfl,hFb⟩:=hb
 have p1:=Zc.oneCell hFa
 have p2:=Zc.oneCell hFb
 have refb:∀ (f:Option Zq),f=Qa b r.to→(Yy (f.getD Vq)).length≤1048576:=by
  rintro _ rfl
  cases hp:Qa b r.to with
  | none=>decide
  | some f=>exact bb f (List.mem_of_find?_eq_some hp)
 have refa:∀ (f:Option Zq),f=Qa a r.fr→(Yy (f.getD Vq)).length≤1048576:=by
  rintro _ rfl
  cases hp:Qa a r.fr with
  | none=>decide
  | some f=>exact ba f (List.mem_of_find?_eq_some hp)
 refine Zka ?_;unfold n35
 rw [YB]
 have oW:=Zv w (Zz r bv1 tv1).toArray 43
 have eW:Ext w (w.alloc (.cells (Zz r bv1 tv1).toArray 43)):=(Ext.refl w).alloc _
 generalize (w.alloc (.cells (Zz r bv1 tv1).toArray 43))=W at oW eW ⊢
 generalize w.heap.size=p6 at oW ⊢
 rw [YB]
 have hBX:=Yn.new (w:=W) (Yf a fa) (74)
 have eX:Ext W (W.alloc (Obj.cells (List.toArray (Yf a fa)) (74))):=(Ext.refl _).alloc _
 generalize (W.alloc (Obj.cells (List.toArray (Yf a fa)) (74)))=X at hBX eX ⊢
 rw [YB]
 have hBY:=Yn.new (w:=X) (Yf b fb) (74)
 have eY:Ext X (X.alloc (Obj.cells (List.toArray (Yf b fb)) (74))):=(Ext.refl _).alloc _
 generalize (X.alloc (Obj.cells (List.toArray (Yf b fb)) (74)))=Y at hBY eY ⊢
 have EY:=eW.trans (eX.trans eY)
 generalize hCC:x8 m r a b l=C
 have pan:∀ w' c,Ext w w'→C=c→c≠0→Zd (mR w (decide (C=0)) ru fi C) [Vj ru fi c] w':=λ w' c e' hc h0=>xD e' (by rw [hc];simpa using h0) hc
 unfold x8 at hCC
 simp (disch:=try exact DI) only [↓PR,QR,simprocAttr,hBY.c2 (Ext.refl Y),(Za ((eX.trans eY).obj oW)).1]
 refine Zk (CU Y _ b r.to ⟨_,rfl,hFb.ext EY⟩) ?_
 rintro _ w1 ⟨⟨u,rfl,hu⟩,e1⟩
 obtain ⟨tf,cf,rfl,hTf,hCf,f1,f2⟩:=hu.op
 unfold JJ
 simp (disch:=try exact DI) only [↓PR,QR,simprocAttr]
 have oV:=Zv w1 (Zp ((Qa b r.to).getD Vq) tf cf).toArray 123
 have eV:Ext w1 (w1.alloc (.cells (Zp ((Qa b r.to).getD Vq) tf cf).toArray 123)):=(Ext.refl w1).alloc _
 generalize (w1.alloc (.cells (Zp ((Qa b r.to).getD Vq) tf cf).toArray 123))=V at oV eV ⊢
 generalize w1.heap.size=p10 at oV ⊢
 have EV:=EY.trans (e1.trans eV)
 refine YP (XB (h.go EV) _ 5) (λ w2 e2 hb=>?_) (λ w2 e2 hb=>?_)
 case refine_2=>
  simp only [bne_eq_false_iff_eq] at hb
  rw [if_pos hb] at hCC
  exact pan _ _ (EV.trans e2) hCC.symm (by decide)
 simp only [bne_iff_ne,ne_eq] at hb
 rw [if_neg hb] at hCC
 simp (disch:=try exact DI) only [↓PR,QR,simprocAttr]
 refine Zk (Wq w2 _ l _ _ (λ x=>decide (x.to=r.to)) (hl.ext (EV.trans e2)) ZiH λ w' v x _ e' hv=>?_) ?_
 · exact Oa w' v x r hv _ bv1 tv1 (((eX.trans eY).trans (e1.trans (eV.trans (e2.trans e')))).obj oW)
 rintro _ w3 ⟨rfl,e3⟩
 have E3:=EV.trans (e2.trans e3)
 unfold JI
 simp (disch:=try exact DI) only [↓PR,QR,simprocAttr]
 refine YP (XB (h.go E3) _ 4) (λ w4 e4 hq=>?_) (λ w4 e4 hq=>?_)
 case refine_2=>
  simp only [Bool.not_eq_false'] at hq
  rw [if_pos hq] at hCC
  exact pan _ _ (E3.trans e4) hCC.symm (by decide)
 simp only [Bool.not_eq_true'] at hq
 rw [hq,if_neg (by simp)] at hCC
 have E4:=E3.trans e4
 have rest:∀ (w5:Wd) (p12:Nat) (us:Option Ck),us=XR r.kind→Ext w4 w5→w5.heap[p12]?=some (.cells #[.bool (us.getD JS).fr,.bool (us.getD JS).add,.bool (us.getD JS).value,.bool (us.getD JS).bytes,.bool (us.getD JS).table] 105 (0,0)) →
  ZV Pg 33 #[.pointer (some ⟨cb,0,none⟩),.bool us.isSome,.int .i64 6] (Zd (mR w (decide (C=0)) ru fi C)) w5 λ _ w6=>Kk (.pointer (some ⟨cb,0,none⟩)) (.pointer (some ⟨p6,0,none⟩)) (.pointer (some ⟨W.heap.size,0,none⟩)) (.pointer (some ⟨p10,0,none⟩)) (.pointer (some ⟨p12,0,none⟩)) (.int .i64 (Co (Qa b r.to))) (mR w (decide (C=0)) ru fi C) w6:=by
  intro w5 p12 us hus e5 o12
  have E5:=E4.trans e5
  rw [← hus] at hCC
  refine YP (XB (h.go E5) _ 6) (λ w6 e6 hq=>?_) (λ w6 e6 hq=>?_)
  case refine_2=>
   cases us with
   | some _=>cases hq
   | none=>exact pan _ _ (E5.trans e6) hCC.symm (by decide)
  cases us with
  | none=>cases hq
  | some x=>
  have E6:=E5.trans e6
  have e46:=e5.trans e6
  have hk:=OL hus.symm
  have o6:w6.heap[p6]?=some (.cells (Zz r bv1 tv1).toArray 43 (0,0)):=((eX.trans eY).trans (e1.trans (eV.trans (e2.trans (e3.trans (e4.trans e46)))))).obj oW
  have q12:=(Za (e6.obj o12)).1
  unfold Kk
  simp (disch:=try exact DI) only [↓PR,QR,simprocAttr,(Za o6).1,q12]
  refine zcr (CS w6 _ r ⟨_,_,rfl,hB.ext E6,hT.ext E6⟩ x) λ w7 e7=>?_
  replace hCC:(if Ws r x=false then 7 else QV m r (Qa a r.fr) (Qa b r.to))=C:=hCC
  have E7:=E6.trans e7
  refine YP (XB (h.go E7) _ 7) (λ w8 e8 hq=>?_) (λ w8 e8 hq=>?_)
  case refine_2=>
   rw [if_pos hq] at hCC
   exact pan _ _ (E7.trans e8) hCC.symm (by decide)
  rw [hq,if_neg (by decide)] at hCC
  have E8:=E7.trans e8
  have e68:=e7.trans e8
  have e48:=e46.trans e68
  have eV8:Ext V w8:=e2.trans (e3.trans (e4.trans e48))
  unfold JE
  simp (disch:=try exact DI) only [↓PR,QR,simprocAttr,hBX.c2 (eY.trans (e1.trans (eV.trans eV8))),(Za (e68.obj o6)).1]
  refine Zk (CU w8 _ a r.fr ⟨_,rfl,hFa.ext E8⟩) ?_
  rintro _ w9 ⟨⟨u2,rfl,hu2⟩,e9⟩
  rw [← hCC]
  have E9:=E8.trans e9
  exact SS (h.go E9) E9 r bv1 tv1 ((e68.trans e9).obj o6) (hT.ext E9) (hB.ext E9) (Qa a r.fr) (Qa b r.to) tf cf ((eV8.trans e9).obj oV) (hTf.ext (eV.trans (eV8.trans e9))) (hCf.ext (eV.trans (eV8.trans e9))) u2 hu2 (refa _ rfl) (refb _ rfl) hk hin
 refine ZE ?_
 unfold JH
 have eD:Ext w4 w4.drew:=(Ext.refl _).wdrew
 have o64:w4.heap[p6]?=some (.cells (Zz r bv1 tv1).toArray 43 (0,0)):=((eX.trans eY).trans (e1.trans (eV.trans (e2.trans (e3.trans e4))))).obj oW
 simp (disch:=try exact DI) only [↓PR,QR,simprocAttr,(Za o64).1]
 have hget:((XR r.kind).map CH).getD (.agg #[.bool false,.bool false,.bool false,.bool false,.bool false]) = .agg #[.bool ((XR r.kind).getD JS).fr,.bool ((XR r.kind).getD JS).add,.bool ((XR r.kind).getD JS).value,.bool ((XR r.kind).getD JS).bytes,.bool ((XR r.kind).getD JS).table]:=by cases XR r.kind<;>rfl
 refine ⟨?_,(Ext.refl _).alloc _,?_⟩
 · refine Zk (Kh _) ?_
   rintro _ w6 ⟨mm,L,c,rfl,hm,hM,hL,e6⟩
   refine VQ e6 hM ?_
   unfold JF
   simp only [Ke]
   rw [W9 underlying106 (QC.int underlying39) U7 ⟨w6,e6,hM⟩,hL r.kind,hget,Option.isSome_map]
   haveI:Yv (KM w4.drew mm XA L c):=⟨⟨w6,e6,hM⟩⟩
   simp (disch:=try exact DI) only [↓PR,QR,simprocAttr]
   exact ⟨⟨e6.alloc _,hM.ext ((Ext.refl _).alloc _)⟩,⟨e6.alloc _,hM.ext ((Ext.refl _).alloc _)⟩,rest _ _ _ rfl (eD.trans (e6.alloc _)) (Zv _ _ _)⟩
 · refine Zk (Kh _) ?_
   rintro _ w6 ⟨mm,L,c,rfl,hm,hM,hL,e6⟩
   have e6':=((Ext.refl w4.drew).alloc (Obj.cells #[Value.bool false,Value.bool false,Value.bool false,Value.bool false,Value.bool false] 105)).trans e6
   refine VQ e6' hM ?_
   unfold JG
   simp only [Ke]
   rw [W9 underlying106 (QC.int underlying39) U7 ⟨w6,e6',hM⟩,hL r.kind,hget,Option.isSome_map]
   haveI:Yv (KM w4.drew mm XA L c):=⟨⟨w6,e6',hM⟩⟩
   have o12:w6.heap[w4.heap.size]?=some (.cells #[Value.bool false,Value.bool false,Value.bool false,Value.bool false,Value.bool false] 105 (0,0)):=e6.obj (Zv w4.drew #[Value.bool false,Value.bool false,Value.bool false,Value.bool false,Value.bool false] 105)
   simp (disch:=try exact DI) only [↓PR,QR,simprocAttr,(Za o12).1,(Za o12).2]
   generalize hU:(XR r.kind).getD JS=U at rest
   have z:=Zw (o:=4) (Zw (o:=3) (Zw (o:=2) (Zw (o:=1) (Zw (o:=0) o12 (.bool U.fr)) (.bool U.add)) (.bool U.value)) (.bool U.bytes)) (.bool U.table)
   have hz:w4.drew.heap.size≤w4.heap.size:=Nat.le_refl _
   have eZ:=((((e6'.setCell (p:=⟨w4.heap.size,0,none⟩) hz (.bool U.fr)).setCell (p:=⟨w4.heap.size,1,none⟩) hz (.bool U.add)).setCell (p:=⟨w4.heap.size,2,none⟩) hz (.bool U.value)).setCell (p:=⟨w4.heap.size,3,none⟩) hz (.bool U.bytes)).setCell (p:=⟨w4.heap.size,4,none⟩) hz (.bool U.table)
   exact ⟨⟨eZ,((((hM.setCell _ _).setCell _ _).setCell _ _).setCell _ _).setCell _ _⟩,rest _ _ _ rfl (eD.trans eZ) (by rw [hU];simpa using z)⟩
end
section
variable {a0 w:Wd} {cb:Nat} {m:Yo} {d e:Xv} {ru fi:Int}
def msR (a0:Wd) (cb:Nat) (m:Yo) (d e:Xv) (ru:Int) (q:Int×Int):Ending→Wd→Prop:=λ x w'=>Ext a0 w'∧(q.2=0∧x = .returned (.tuple #[])∧CkM a0 w' cb m d e ru (-1)∨q.2≠0∧x = .panicked [Vj ru q.1 q.2])
theorem jG {w':Wd} {q:Int×Int} {f c:Int} (x:Ext a0 w') (h:q=(f,c)) (h0:c≠0):Zd (msR a0 cb m d e ru q) [Vj ru f c] w':=⟨x,.inr ⟨by rw [h];exact h0,by rw [h]⟩⟩
theorem Zc.pre {α:Type} {w:Wd} {n:Nat} {E:Wd→List Vl→α→Prop} {A:Option Addr} {c:Nat} {l:List α} (h:Zc w n E (.slice A l.length c) l) (k:Nat) (hk:k≤l.length):Zc w n E (.slice A k c) (l.take k):=by
 obtain ⟨A',c',hv,h2,h3,h4⟩:=h
 injection hv with hA _ hc
 subst hA hc
 have hl:(l.take k).length=k:=by rw [List.length_take];omega
 refine ⟨_,_,by rw [hl],by rw [hl];omega,h3,λ YN=>?_⟩
 obtain ⟨b,o,hA,Y1⟩:=h4 (by rintro rfl;simp at YN)
 refine ⟨b,o,hA,λ i y hy=>Y1 i y ?_⟩
 rw [List.getElem?_take] at hy
 split at hy
 · exact hy
 · cases hy
theorem N5 (h:CkM a0 w cb m d e ru fi) (l:List FrD) (fv:Vl) (hF:QZ a0 fv l) (b:YT) (fb:Vl) (hFb:YR a0 fb b.fields) (p3 p6:Nat) (n3:p3≠cb) (n6:p6≠cb) (fr to:BAr) (o3:w.heap[p3]?=some (.cells #[.string fr,.string to,fv] 60 (0,0))) (o6:w.heap[p6]?=some (.cells (Yf b fb).toArray 74 (0,0)))
 (Q:Int×Int) (hq:Q=if (b.fields.any (UW l))=true then (-1,10) else (-1,0)) :
 Di (.pointer (some ⟨cb,0,none⟩)) (.pointer (some ⟨p3,0,none⟩)) (.pointer (some ⟨p6,0,none⟩)) (msR a0 cb m d e ru Q) w:=by
 obtain ⟨rv',dv,ev,q,hRv,hdv,hev⟩:=h.obj
 have p1:=Zc.oneCell hF
 obtain ⟨A,c,rfl,hlc,hcm,hlm,Y1⟩:=Zc.open hFb
 unfold Di
 simp (disch:=try exact DI) only [↓PR,QR,simprocAttr,(Za q).1,(Za q).2,(Za o6).1]
 have hC2:=h.setField (-1)
 have y3:=(YG.setCell w cb 9 (.int .i64 (-1)) p3 n3).trans o3
 have y6:=(YG.setCell w cb 9 (.int .i64 (-1)) p6 n6).trans o6
 generalize (w.setCell ⟨cb,9,none⟩ (.int .i64 (-1)))=X at hC2 y3 y6 ⊢
 refine ZJ (λ i w'=>∃ k:Nat,i = .int .i64 k∧k≤b.fields.length∧Ext X w'∧b.fields.any (UW l)=(b.fields.drop k).any (UW l)) (λ i _=>b.fields.length - (intOf i).toNat) ⟨0,rfl,by omega,Ext.refl _,rfl⟩ ?_
 rintro _ w1 ⟨k,rfl,hk,e1,hR⟩
 have E1:=hC2.ext.trans e1
 rcases ZT hk with ⟨x,hx,hdr,Yq,ZY⟩ | ⟨hk,hdr,ZY⟩
 · obtain ⟨bt,ot,cst,rfl,_,hAt,hE⟩:=Y1 k x hx
   obtain ⟨tv,cv,rfl,hT,hC,t1,c1⟩:=hE.op
   rw [hdr,List.any_cons] at hR
   simp (disch:=try exact DI) only [↓PR,QR,simprocAttr,ZY]
   unfold Hw
   simp (disch:=try exact DI) only [↓PR,QR,simprocAttr,hAt.c15 E1]
   have oV:=Zv w1 (Zp x tv cv).toArray 123
   have eV:Ext w1 (w1.alloc (.cells (Zp x tv cv).toArray 123)):=(Ext.refl w1).alloc _
   generalize (w1.alloc (.cells (Zp x tv cv).toArray 123))=V at oV eV ⊢
   generalize w1.heap.size=p13 at oV ⊢
   have e2:=e1.trans eV
   have E2:=hC2.ext.trans e2
   simp (disch:=try exact DI) only [↓PR,QR,simprocAttr,(Za (e2.obj y3)).1]
   refine zcr (Wq V _ l _ _ (λ y=>decide (y.to=x.name)) (hF.ext E2) c79 λ w' v y _ e' hv=>AL w' v y x hv _ tv cv (e'.obj oV)) λ w3 e3=>?_
   have e13:=e2.trans e3
   have fin:∀ (w4:Wd) (bb:Bool),Ext X w4→bb=!UW l x→ZV Pg 33 #[.pointer (some ⟨cb,0,none⟩),.bool bb,.int .i64 10] (Zd (msR a0 cb m d e ru Q)) w4 λ _ w5=>opV Pg (ZF .add 3 true (.int .i64 k) (.int .i64 1)) (Zd (msR a0 cb m d e ru Q)) w5 λ i w'=>(∃ k:Nat,i = .int .i64 k∧k≤b.fields.length∧Ext X w'∧b.fields.any (UW l)=(b.fields.drop k).any (UW l))∧b.fields.length - (intOf i).toNat < b.fields.length - (intOf (Value.int IntKind.i64 k)).toNat:=by
    rintro w4 bb e4 rfl
    refine YP (XB (hC2.go e4) _ 10) (λ w5 e5 hb=>?_) (λ w5 e5 hb=>?_)
    · simp only [Bool.not_eq_true'] at hb
      rw [hb,Bool.false_or] at hR
      simp (disch:=try exact DI) only [↓PR,QR,simprocAttr]
      exact ⟨⟨k+1,rfl,Yq,e4.trans e5,hR⟩,Ya (kd := .i64) Yq⟩
    · simp only [Bool.not_eq_false'] at hb
      rw [hb,Bool.true_or] at hR
      exact jG (hC2.ext.trans (e4.trans e5)) (by rw [hq,if_pos hR]) (by decide)
   unfold Hv
   unfold UW at fin
   generalize (l.any λ y=>decide (y.to=x.name))=g at fin
   cases g with
   | true=>
    simp (disch:=try exact DI) only [↓PR,QR,simprocAttr,↓Hu,↓MO,↓Hv,↓Hw,↓Di,↓Hx,↓Dj,↓Hy,↓Hz,↓xV,↓Bb,↓Bc,↓xW,↓Bd,↓Be,↓Bf]
    exact fin w3 _ e13 (by simp)
   | false=>
    simp (disch:=try exact DI) only [↓PR,QR,simprocAttr,↓Hu,↓MO,↓Hv,↓Hw,↓Di,↓Hx,↓Dj,↓Hy,↓Hz,↓xV,↓Bb,↓Bc,↓xW,↓Bd,↓Be,↓Bf,(Za (e3.obj oV)).1]
    refine zcr (Jd w3 _ x ⟨_,_,rfl,hT.ext (E2.trans e3),hC.ext (E2.trans e3)⟩) λ w4 e4=>?_
    simp (disch:=try exact DI) only [↓PR,QR,simprocAttr,↓Hu,↓MO,↓Hv,↓Hw,↓Di,↓Hx,↓Dj,↓Hy,↓Hz,↓xV,↓Bb,↓Bc,↓xW,↓Bd,↓Be,↓Bf]
    exact fin w4 _ (e13.trans e4) (by by_cases hz:YU x=0<;>simp [hz])
 · subst hk
   rw [hdr,List.any_nil] at hR
   rw [hR,if_neg (by simp)] at hq
   simp (disch:=try exact DI) only [↓PR,QR,simprocAttr,ZY]
   exact ⟨E1,.inl ⟨by rw [hq],rfl,hC2.go e1⟩⟩
theorem Pq (h:CkM a0 w cb m d e ru (-1)) (r:MrD) (fv:Vl) (hF:QZ a0 fv r.fields) (a b:YT) (fa fb:Vl) (hFa:YR a0 fa a.fields) (hFb:YR a0 fb b.fields) (hin:∀ x∈r.fields,inF x=true)
 (ba:∀ f∈a.fields,(Yy f).length≤1048576) (bb:∀ f∈b.fields,(Yy f).length≤1048576) (p3 p4 p6:Nat) (n3:p3≠cb) (n4:p4≠cb) (n6:p6≠cb) (o3:w.heap[p3]?=some (.cells (Z6 r fv).toArray 60 (0,0))) (o4:w.heap[p4]?=some (.cells (Yf a fa).toArray 74 (0,0))) (o6:w.heap[p6]?=some (.cells (Yf b fb).toArray 74 (0,0)))
 (Q:Int×Int) (hq:Q=if (X6 m a b r.fields 0 r.fields).2≠0 then X6 m a b r.fields 0 r.fields else if (b.fields.any (UW r.fields))=true then (-1,10) else (-1,0)) :
 Dj (.pointer (some ⟨cb,0,none⟩)) (.pointer (some ⟨p3,0,none⟩)) (.pointer (some ⟨p4,0,none⟩)) (.pointer (some ⟨p6,0,none⟩)) (msR a0 cb m d e ru Q) w:=by
 obtain ⟨A,c,rfl,hlc,hcm,hlm,Y1⟩:=Zc.open hF
 have p1:=Zc.oneCell hFa
 have p2:=Zc.oneCell hFb
 unfold Dj
 simp (disch:=try exact DI) only [↓PR,QR,simprocAttr,(Za o3).1]
 refine ZJ (λ i w'=>∃ (k:Nat) (fl:Int),i = .int .i64 k∧k≤r.fields.length∧CkM a0 w' cb m d e ru fl∧w'.heap[p3]?=some (.cells (Z6 r (.slice A r.fields.length c)).toArray 60 (0,0))∧w'.heap[p4]?=some (.cells (Yf a fa).toArray 74 (0,0))∧w'.heap[p6]?=some (.cells (Yf b fb).toArray 74 (0,0))∧X6 m a b r.fields 0 r.fields=X6 m a b r.fields k (r.fields.drop k)) (λ i _=>r.fields.length - (intOf i).toNat) ⟨0,-1,rfl,by omega,h,o3,o4,o6,rfl⟩ ?_
 rintro _ w1 ⟨k,fl,rfl,hk,hC,x3,x4,x6,hR⟩
 obtain ⟨rv',dv,ev,q,hRv,hdv,hev⟩:=hC.obj
 rcases ZT hk with ⟨x,hx,hdr,Yq,ZY⟩ | ⟨hk,hdr,ZY⟩
 · obtain ⟨bt,ot,cst,rfl,_,hAt,hE⟩:=Y1 k x hx
   obtain ⟨bv1,tv1,rfl,hB,hT,z1,z2⟩:=hE.op
   simp (disch:=try exact DI) only [↓PR,QR,simprocAttr,ZY]
   unfold Hx
   have lcb:=(Array.getElem?_eq_some_iff.1 q).1
   simp (disch:=try exact DI) only [↓PR,QR,simprocAttr,hAt.c7 hC.ext]
   have oV:=Zv w1 (Zz x bv1 tv1).toArray 43
   have eV:Ext w1 (w1.alloc (.cells (Zz x bv1 tv1).toArray 43)):=(Ext.refl w1).alloc _
   generalize (w1.alloc (.cells (Zz x bv1 tv1).toArray 43))=V at oV eV ⊢
   have n11:w1.heap.size≠cb:=by omega
   generalize w1.heap.size=p11 at oV n11 ⊢
   have qV:=Za (eV.obj q)
   simp (disch:=try exact DI) only [↓PR,QR,simprocAttr,(Za q).1,qV.1,qV.2]
   have hC2:=(hC.go eV).setField (k:Int)
   have y3:=(YG.setCell V cb 9 (.int .i64 (k:Int)) p3 n3).trans (eV.obj x3)
   have y4:=(YG.setCell V cb 9 (.int .i64 (k:Int)) p4 n4).trans (eV.obj x4)
   have y6:=(YG.setCell V cb 9 (.int .i64 (k:Int)) p6 n6).trans (eV.obj x6)
   have y11:=(YG.setCell V cb 9 (.int .i64 (k:Int)) p11 n11).trans oV
   generalize (V.setCell ⟨cb,9,none⟩ (.int .i64 (k:Int)))=X at hC2 y3 y4 y6 y11 ⊢
   refine ZE ?_
   unfold Hu
   simp (disch:=try exact DI) only [↓PR,QR,simprocAttr,(Za y3).1,(Za y4).1,(Za y6).1,(Za y11).1]
   rw [Ym λ QP w' k'=>VZ underlying58 Ud bt ot r.fields.length c .i64 k (by omega)]
   simp (disch:=try exact DI) only [↓PR,QR,simprocAttr]
   have eD:Ext X X.drew:=(Ext.refl X).wdrew
   have E:=hC2.ext.trans eD
   have Y8:(r.fields.take k).length=k:=by rw [List.length_take];omega
   have XY:X6 m a b r.fields 0 r.fields=if x8 m x a b (r.fields.take k)≠0 then ((k:Int),x8 m x a b (r.fields.take k)) else X6 m a b r.fields (k+1) (r.fields.drop (k+1)):=by rw [hR,hdr,X6]
   refine YP (Zib (hC2.go eD) _ _ _ _ x a b (r.fields.take k) ⟨_,_,rfl,hB.ext E,hT.ext E⟩ ⟨_,rfl,hFa.ext E⟩ ⟨_,rfl,hFb.ext E⟩ ((Zc.pre hF k (by omega)).ext PM E) (hin x (List.mem_of_getElem? hx)) ba bb) (λ w5 e5 hb=>?_) (λ w5 e5 hb=>?_)
   · have h0:x8 m x a b (r.fields.take k)=0:=by simpa using hb
     rw [if_neg (by simpa using h0)] at XY
     refine ⟨e5,?_⟩
     have e':=eD.trans e5
     simp (disch:=try exact DI) only [↓PR,QR,simprocAttr]
     exact ⟨⟨k+1,k,rfl,Yq,hC2.go e',e'.obj y3,e'.obj y4,e'.obj y6,XY⟩,Ya (kd := .i64) Yq⟩
   · have h0:x8 m x a b (r.fields.take k)≠0:=by simpa using hb
     rw [if_pos h0] at XY
     exact jG (E.trans e5) (by rw [hq,XY,if_pos h0]) h0
 · subst hk
   rw [hdr,X6] at hR
   rw [hR,if_neg (by simp)] at hq
   simp (disch:=try exact DI) only [↓PR,QR,simprocAttr,ZY]
   exact N5 hC r.fields _ hF b fb hFb p3 p6 n3 n6 r.fr r.to x3 x6 Q hq
theorem IY (h:CkM a0 w cb m d e ru (-1)) (i:Nat) (hru:ru=i) (rv:Vl) (r:MrD) (hr:UF a0 rv r) (hri:m.rules[i]?=some r) (hin:∀ x∈r.fields,inF x=true)
 (bd:∀ x∈d.msgs,∀ f∈x.fields,(Yy f).length≤1048576) (be:∀ x∈e.msgs,∀ f∈x.fields,(Yy f).length≤1048576) :
 Calls Pg 36 #[.pointer (some ⟨cb,0,none⟩),rv] w (msR a0 cb m d e ru (yX m d e i r)):=by
 obtain ⟨fv,rfl,hF,o1⟩:=hr.op
 have E0:=h.ext
 refine Zj6 ?_;unfold n31
 rw [YB]
 have oW:=Zv w (Z6 r fv).toArray 60
 have eW:Ext w (w.alloc (.cells (Z6 r fv).toArray 60)):=(Ext.refl w).alloc _
 generalize (w.alloc (.cells (Z6 r fv).toArray 60))=W at oW eW ⊢
 have lcb0:cb < w.heap.size:=by obtain ⟨_,_,_,z,_⟩:=h.obj;exact (Array.getElem?_eq_some_iff.1 z).1
 generalize w.heap.size=p3 at oW lcb0 ⊢
 have hC:=h.go eW
 obtain ⟨rv',dv,ev,q,hRv,hdv,hev⟩:=hC.obj
 have d1:=Zc.oneCell hdv
 have d2:=Zc.oneCell hev
 generalize hq:yX m d e i r=Q
 refine ZE ?_
 unfold Bf
 simp (disch:=try exact DI) only [↓PR,QR,simprocAttr,(Za q).1,(Za oW).1]
 obtain ⟨A,hA⟩:∃ A,AO d r.fr=A:=⟨_,rfl⟩
 obtain ⟨B,hB⟩:∃ B,AO e r.to=B:=⟨_,rfl⟩
 have rest2:∀ (w5:Wd) (p4 p6:Nat) (fa fb:Vl),Ext W w5→p4≠cb→p6≠cb→w5.heap[p4]?=some (.cells (Yf (A.getD Gd) fa).toArray 74 (0,0))→YR a0 fa (A.getD Gd).fields→w5.heap[p6]?=some (.cells (Yf (B.getD Gd) fb).toArray 74 (0,0))→YR a0 fb (B.getD Gd).fields →
  xV (.pointer (some ⟨cb,0,none⟩)) (.pointer (some ⟨p3,0,none⟩)) (.pointer (some ⟨p4,0,none⟩)) (.bool A.isSome) (.pointer (some ⟨p6,0,none⟩)) (.bool B.isSome) (msR a0 cb m d e ru Q) w5:=by
  intro w5 p4 p6 fa fb e5 n4 n6 o4 hFa o6 hFb
  have hC5:=hC.go e5
  unfold xV
  simp (disch:=try exact DI) only [↓PR,QR,simprocAttr]
  refine YP (XB hC5 _ 3) (λ w7 e7 hb=>?_) (λ w7 e7 hb=>?_)
  case refine_2=>
   refine jG (hC5.ext.trans e7) ?_ (by decide)
   rw [← hq]
   unfold yX
   rw [hA,hB]
   cases A with
   | none=>rfl
   | some a=>cases B with
    | none=>rfl
    | some b=>cases hb
  cases A with
  | none=>cases hb
  | some a=>
  cases B with
  | none=>cases hb
  | some b=>
  replace hq:(if KF m r.fr≠some i then ((-1:Int),(4:Int)) else if (X6 m a b r.fields 0 r.fields).2≠0 then X6 m a b r.fields 0 r.fields else if (b.fields.any (UW r.fields))=true then (-1,10) else (-1,0))=Q:=by
   rw [← hq];unfold yX;rw [hA,hB]
  have ham:=List.mem_of_find?_eq_some hA
  have hbm:=List.mem_of_find?_eq_some hB
  have hC7:=hC5.go e7
  have q7:=Za ((e5.trans e7).obj q)
  have r7:=Za ((e5.trans e7).obj oW)
  have rv1:=Zc.oneCell hRv
  refine ZE ?_
  unfold Hz
  simp (disch:=try exact DI) only [↓PR,QR,simprocAttr,q7.1,q7.2,r7.1]
  refine zcr (jZ _ _ m r.fr ⟨_,rfl,hRv.ext hC7.ext.wdrew⟩) λ w8 e8=>?_
  refine ⟨e8,?_⟩
  have e78:=(Ext.refl w7).wdrew.trans e8
  have q8:=Za (((e5.trans e7).trans e78).obj q)
  have r8:=Za (((e5.trans e7).trans e78).obj oW)
  have hC8:=hC7.go e78
  unfold Hy
  simp (disch:=try exact DI) only [↓PR,QR,simprocAttr,q8.1,q8.2,r8.1]
  obtain ⟨j,hj⟩:∃ j,KF m r.fr=some j:=by
   rcases Fl (λ x:MrD=>decide (x.fr=r.fr)) m.rules with ⟨h1,_⟩ | ⟨k,x,_,_,h2,_⟩
   · have:=List.find?_eq_none.1 h1 r (List.mem_of_getElem? hri)
     simp at this
   · exact ⟨k,h2⟩
  rw [hj] at hq
  rw [hj,Option.getD_some]
  refine YP (XB hC8 _ 4) (λ w9 e9 hb=>?_) (λ w9 e9 hb=>?_)
  case refine_2=>
   refine jG (hC8.ext.trans e9) ?_ (by decide)
   rw [← hq,if_pos]
   rintro h
   injection h with h
   rw [hru,h] at hb
   simp at hb
  rw [if_neg (by rw [hru] at hb;simp only [beq_iff_eq] at hb;intro h;apply h;congr 1;omega)] at hq
  exact Pq (hC8.go e9) r fv hF a b fa fb hFa hFb hin (bd a ham) (be b hbm) p3 p4 p6 (by omega) n4 n6 ((e5.trans (e7.trans (e78.trans e9))).obj oW) ((e7.trans (e78.trans e9)).obj o4) ((e7.trans (e78.trans e9)).obj o6) Q hq.symm
 have rest1:∀ (w5:Wd) (p4:Nat) (fa:Vl),Ext W w5→p4≠cb→w5.heap[p4]?=some (.cells (Yf (A.getD Gd) fa).toArray 74 (0,0))→YR a0 fa (A.getD Gd).fields →
  Yg w5 λ C3 w6=>xW (.pointer (some ⟨cb,0,none⟩)) (.pointer (some ⟨p3,0,none⟩)) (.pointer (some ⟨p4,0,none⟩)) (.bool A.isSome) C3 (msR a0 cb m d e ru Q) w6:=by
  intro w5 p4 fa e5 n4 o4 h4
  refine ZE ?_
  unfold xW
  have q5:=Za (e5.obj q)
  have r5:=Za (e5.obj oW)
  have lcb:=(Array.getElem?_eq_some_iff.1 (e5.obj q)).1
  have E5:=hC.ext.trans e5
  simp (disch:=try exact DI) only [↓PR,QR,simprocAttr,q5.1,r5.1]
  refine ⟨?_,(Ext.refl _).alloc _,?_⟩
  · refine Zk (Uk a0 _ E5.wdrew _ e r.to ⟨_,rfl,hev⟩) ?_
    rintro _ w6 ⟨⟨u,rfl,fb,rfl,hFb⟩,e6⟩
    rw [hB] at hFb ⊢
    have g1:=Zc.oneCell hFb
    refine ⟨e6,?_⟩
    unfold Bb
    simp (disch:=try exact DI) only [↓PR,QR,simprocAttr]
    have sz:=e6.size
    exact ⟨e6.alloc _,e6.alloc _,rest2 _ _ _ fa fb (e5.wdrew.trans (e6.alloc _)) n4 (by have:w5.drew.heap.size=w5.heap.size:=rfl;omega) ((((Ext.refl w5).wdrew.trans e6).alloc _).obj o4) h4 (Zv _ _ _) hFb⟩
  · refine Zk (Uk a0 _ (E5.wdrew.alloc _) _ e r.to ⟨_,rfl,hev⟩) ?_
    rintro _ w6 ⟨⟨u,rfl,fb,rfl,hFb⟩,e6⟩
    rw [hB] at hFb ⊢
    have g1:=Zc.oneCell hFb
    have e6':=((Ext.refl w5.drew).alloc _).trans e6
    have o6:w6.heap[w5.heap.size]?=some (.cells #[.string ByteArray.empty,.slice none 0 0] 74 (0,0)):=e6.obj (Zv w5.drew _ _)
    unfold Bc
    simp (disch:=try exact DI) only [↓PR,QR,simprocAttr,(Za o6).1,(Za o6).2]
    have hz:w5.drew.heap.size≤w5.heap.size:=Nat.le_refl _
    have eZ:=(e6'.setCell (p:=⟨w5.heap.size,0,none⟩) hz (.string (B.getD Gd).name)).setCell (p:=⟨w5.heap.size,1,none⟩) hz fb
    have z:=Zw (o:=1) (Zw (o:=0) o6 (.string (B.getD Gd).name)) fb
    exact ⟨e6',eZ,rest2 _ _ _ fa fb (e5.wdrew.trans eZ) n4 (by omega) (((Ext.refl w5).wdrew.trans eZ).obj o4) h4 (by simpa using z) hFb⟩
 have lcb:=(Array.getElem?_eq_some_iff.1 q).1
 refine ⟨?_,(Ext.refl _).alloc _,?_⟩
 · refine Zk (Uk a0 _ hC.ext.wdrew _ d r.fr ⟨_,rfl,hdv⟩) ?_
   rintro _ w6 ⟨⟨u,rfl,fb,rfl,hFb⟩,e6⟩
   rw [hA] at hFb ⊢
   have g1:=Zc.oneCell hFb
   refine ⟨e6,?_⟩
   unfold Bd
   simp (disch:=try exact DI) only [↓PR,QR,simprocAttr]
   have sz:=e6.size
   exact ⟨e6.alloc _,e6.alloc _,rest1 _ _ fb ((Ext.refl W).wdrew.trans (e6.alloc _)) (by have:W.drew.heap.size=W.heap.size:=rfl;omega) (Zv _ _ _) hFb⟩
 · refine Zk (Uk a0 _ (hC.ext.wdrew.alloc _) _ d r.fr ⟨_,rfl,hdv⟩) ?_
   rintro _ w6 ⟨⟨u,rfl,fb,rfl,hFb⟩,e6⟩
   rw [hA] at hFb ⊢
   have g1:=Zc.oneCell hFb
   have e6':=((Ext.refl W.drew).alloc _).trans e6
   have o6:w6.heap[W.heap.size]?=some (.cells #[.string ByteArray.empty,.slice none 0 0] 74 (0,0)):=e6.obj (Zv W.drew _ _)
   unfold Be
   simp (disch:=try exact DI) only [↓PR,QR,simprocAttr,(Za o6).1,(Za o6).2]
   have hz:W.drew.heap.size≤W.heap.size:=Nat.le_refl _
   have eZ:=(e6'.setCell (p:=⟨W.heap.size,0,none⟩) hz (.string (A.getD Gd).name)).setCell (p:=⟨W.heap.size,1,none⟩) hz fb
   have z:=Zw (o:=1) (Zw (o:=0) o6 (.string (A.getD Gd).name)) fb
   exact ⟨e6',eZ,rest1 _ W.heap.size fb ((Ext.refl W).wdrew.trans eZ) (by omega) (by simpa using z) hFb⟩
end
def Ga (m:Yo) (d e:Xv):Bool:=match m.rules.find? λ r=>decide (r.fr=d.start) with
 | none=>false
 | some r=>decide (r.to=e.start)
def Em (m:Yo) (d e:Xv) (q:Int×Int×Int):Option (Int×Int×Int):=if q.2.2≠0 then some q else if Ga m d e=true then none else some (-1,-1,11)
def KK (m:Yo) (d e:Xv):Option (Int×Int×Int):=
 if (!Xn d&&!Xn e)=false then some (-1,-1,0) else if Z4 m.name=false then some (-1,-1,1) else if ¬ (1≤m.rules.length∧m.rules.length≤60) then some (-1,-1,2) else Em m d e (Ku m d e 0 m.rules)
def EB (o:Option (Int×Int×Int)):Vl := .tuple #[Vt (o.getD (0,0,0)).1 (o.getD (0,0,0)).2.1 (o.getD (0,0,0)).2.2,.bool o.isSome]
theorem Lz {P:Program} {QP:PEn} {w:Wd} {k:KV} {xt t:TypeId} {d:TypeDesc} (hu:P.underlying t=some d) (hn:(match d with | .interface _=>false | _=>true)=true) (v:Vl):opV P (Instr.typeAssert (.iface t v) xt t false) QP w k=k v w:=by
 refine ZX ?_
 unfold Instr.typeAssert
 simp only [Sem.run_bind,run_underlying hu,Result.andThen_ok]
 cases d<;>simp at hn<;>simp
abbrev Wb (p3 p4:Nat):Deferred:={ target := .fn (.func 32) #[.pointer (some ⟨p3,0,none⟩),.pointer (some ⟨p4,0,none⟩)],args := #[] }
theorem IE {p3 p4:Nat} {w:Wd} {k:FrameMode→Wd→Prop} (h:k .returning w):jv Pg [Wb p3 p4] .returning w k:=by
 refine ⟨by simp,.inr ⟨.func 32,_,32,#[.pointer (some ⟨p3,0,none⟩),.pointer (some ⟨p4,0,none⟩)],rfl,?_,?_⟩⟩
 · exact Qg c32 _ w
 · refine Zhl ?_
   unfold n15
   show opV _ (ZF .neq _ true .nilIface .nilIface) _ _ _
   rw [VX underlying20]
   simp (disch:=try exact DI) only [↓PR,QR,simprocAttr]
   exact h
theorem ID {p3 p4:Nat} {w:Wd} {k:FrameMode→Wd→Prop} {a f c:Int} {x0 x1 x2 y:Vl} (o3:w.heap[p3]?=some (.cells #[x0,x1,x2] 34 (0,0))) (o4:w.heap[p4]?=some (.cells #[y] 4 (0,0)))
 (h:k .returning ((((w.setCell ⟨p3,0,none⟩ (.int .i64 a)).setCell ⟨p3,1,none⟩ (.int .i64 f)).setCell ⟨p3,2,none⟩ (.int .i64 c)).setCell ⟨p4,0,none⟩ (.bool true))):jv Pg [Wb p3 p4] (.panicking [Vj a f c]) w k:=by
 have YN:p3≠p4:=by rintro rfl;rw [o3] at o4;cases o4
 refine ⟨by simp,.inr ⟨.func 32,_,32,#[.pointer (some ⟨p3,0,none⟩),.pointer (some ⟨p4,0,none⟩)],rfl,?_,?_⟩⟩
 · exact Qg c32 _ w
 · refine Zhl ?_
   rw [show recM (.panicking [Vj a f c])=(.iface 82 (Vt a f c),.panicking [{ v := .iface 82 (Vt a f c),recovered:=true }]) from rfl]
   unfold n15
   rw [VY underlying20]
   simp (disch:=try exact DI) only [↓PR,QR,simprocAttr]
   unfold ZbF
   rw [Lz underlying82 rfl]
   simp (disch:=try exact DI) only [↓PR,QR,simprocAttr,(Za o3).1,(Za o3).2,(Za o4).1,(Za o4).2]
   exact h
section
variable {w0:Wd}
abbrev Fe (p3 p4:Nat):List (Option TypeId×Vl):=[(some 34,.pointer (some ⟨p3,0,none⟩)),(some 4,.pointer (some ⟨p4,0,none⟩))]
def xE (w0:Wd) (o:Option (Int×Int×Int)) (r:Vl) (w':Wd):Prop:=r=EB o∧Ext w0 w'
theorem ZaO {w:Wd} {o:Option (Int×Int×Int)} {p3 p4:Nat} {a f c:Int} {x0 x1 x2 y:Vl} (e:Ext w0 w) (h3:w0.heap.size≤p3) (h4:w0.heap.size≤p4) (o3:w.heap[p3]?=some (.cells #[x0,x1,x2] 34 (0,0))) (o4:w.heap[p4]?=some (.cells #[y] 4 (0,0)))
 (h:o=some (a,f,c)):ZB Pg [Wb p3 p4] (Fe p3 p4) (ZI (xE w0 o)) [Vj a f c] w:=by
 have YN:p3≠p4:=by rintro rfl;rw [o3] at o4;cases o4
 unfold ZB
 refine ID o3 o4 ?_
 have q3:=Zw (o:=2) (Zw (o:=1) (Zw (o:=0) o3 (.int .i64 a)) (.int .i64 f)) (.int .i64 c)
 have e1:Ext w0 ((((w.setCell ⟨p3,0,none⟩ (.int .i64 a)).setCell ⟨p3,1,none⟩ (.int .i64 f)).setCell ⟨p3,2,none⟩ (.int .i64 c)).setCell ⟨p4,0,none⟩ (.bool true)):=(((e.setCell h3 _).setCell h3 _).setCell h3 _).setCell h4 _
 have q4:=Zw (o:=0) ((YG.setCell ((w.setCell ⟨p3,0,none⟩ (.int .i64 a)).setCell ⟨p3,1,none⟩ (.int .i64 f)) p3 2 (.int .i64 c) p4 (by omega)).trans ((YG.setCell (w.setCell ⟨p3,0,none⟩ (.int .i64 a)) p3 1 (.int .i64 f) p4 (by omega)).trans ((YG.setCell w p3 0 (.int .i64 a) p4 (by omega)).trans o4))) (.bool true)
 have q3':=(YG.setCell _ p4 0 (.bool true) p3 YN).trans q3
 simp only [List.setIfInBounds_toArray,List.set_cons_zero,List.set_cons_succ] at q3' q4
 generalize ((((w.setCell ⟨p3,0,none⟩ (.int .i64 a)).setCell ⟨p3,1,none⟩ (.int .i64 f)).setCell ⟨p3,2,none⟩ (.int .i64 c)).setCell ⟨p4,0,none⟩ (.bool true))=W at e1 q3' q4 ⊢
 unfold Sw.endM yW XT Fe
 simp only
 simp (disch:=try exact DI) only [↓PR,QR,simprocAttr,(Za q3').1,(Za q4).1]
 exact ⟨by rw [h];rfl,e1⟩
end
end Go.Proofs.YtgalpdihjbinjaaGreatDoor
