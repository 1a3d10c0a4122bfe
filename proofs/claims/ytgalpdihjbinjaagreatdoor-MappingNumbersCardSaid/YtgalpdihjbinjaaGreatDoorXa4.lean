/-
  Lemmas for the claim.
-/
import Derived.Test.YtgalpdihjbinjaaGreatDoorXa3
set_option linter.all false
set_option maxHeartbeats 4000000
set_option maxRecDepth 100000
open Go.Instr (loadAt storeAt fieldAt indexAt buildSlice mapUpdate makeFunc)
open Go.Proofs.Tryz
namespace Go.Proofs.YtgalpdihjbinjaaGreatDoor
open Sw
open Go.RowKit (intOf Below)
def Z2 {β:Type} (l:List (BAr×β)) (s:BAr):Option β:=(l.reverse.find? (λ p=>decide (p.1=s))).map (·.2)
theorem LV {β:Type} {ps:List (BAr×β)} {s:BAr} {v:β} (h:Z2 ps s=some v):(s,v)∈ps:=by
 unfold Z2 at h
 obtain ⟨q,hq,rfl⟩:=Option.map_eq_some_iff.1 h
 have h1:=List.find?_some hq
 have h2:=List.mem_of_find?_eq_some hq
 simp only [decide_eq_true_eq] at h1
 subst h1
 exact List.mem_reverse.1 h2
def vI (l:List (BAr×Int)):List (BAr×Vl):=l.map λ p=>(p.1,.int .i64 p.2)
def vB (l:List (BAr×Bool)):List (BAr×Vl):=l.map λ p=>(p.1,.bool p.2)
theorem jk {β:Type} (g:β→Vl) (l:List (BAr×β)) (s:BAr):Yr (l.map λ p=>(p.1,g p.2)) s=(Z2 l s).map g:=by
 unfold Yr Z2
 rw [← List.map_reverse,List.find?_map]
 simp only [Option.map_map]
 rfl
theorem JF (l:List (BAr×Int)) (s:BAr):Yr (vI l) s=(Z2 l s).map λ n => .int .i64 n:=jk _ l s
theorem BE (l:List (BAr×Bool)) (s:BAr):Yr (vB l) s=(Z2 l s).map Value.bool:=jk _ l s
structure CkO (a0 w:Wd) (cb md ms:Nat) (Zs:List (BAr×Int)) (ZE:List (BAr×Bool)) (at_ fld:Int) (fs:List Zt):Prop where
 ext:Ext a0 w
 obj:∃ dn mv ds mn fv,w.heap[cb]?=some (.cells #[.string dn,mv,.string ds,.map (some md),.map (some ms),.int .i64 at_,.int .i64 fld,.string mn,fv] 201 (0,0))∧YC a0 fv fs
 mdeps:YQ w md (vI Zs)
 mstrs:YQ w ms (vB ZE)
 lcb:a0.heap.size≤cb
 lmd:a0.heap.size≤md
 lms:a0.heap.size≤ms
 ne:md≠ms
section
variable {a0 w w':Wd} {cb md ms:Nat} {Zs:List (BAr×Int)} {ZE:List (BAr×Bool)} {at_ fld:Int} {fs:List Zt}
theorem CkO.chk (h:CkO a0 w cb md ms Zs ZE at_ fld fs):Chk w cb md ms (vI Zs) (vB ZE) at_ fld fs:=by
 obtain ⟨dn,mv,ds,mn,fv,h1,h2⟩:=h.obj
 refine ⟨⟨dn,mv,ds,mn,fv,h1,h2.ext h.ext⟩,h.mdeps,h.mstrs,λ k v hv=>?_,λ k v hv=>?_⟩
 · rw [JF] at hv;obtain ⟨n,_,rfl⟩:=Option.map_eq_some_iff.1 hv;exact ⟨n,rfl⟩
 · rw [BE] at hv;obtain ⟨n,_,rfl⟩:=Option.map_eq_some_iff.1 hv;exact ⟨n,rfl⟩
theorem CkO.nd (h:CkO a0 w cb md ms Zs ZE at_ fld fs):cb≠md∧cb≠ms∧cb < w.heap.size∧md < w.heap.size∧ms < w.heap.size:=by
 obtain ⟨dn,mv,ds,mn,fv,h1,h2⟩:=h.obj
 refine ⟨?_,?_,(Array.getElem?_eq_some_iff.1 h1).1,h.mdeps.lt,h.mstrs.lt⟩
 · rintro rfl;have:=h.mdeps.obj;rw [h1] at this;cases this
 · rintro rfl;have:=h.mstrs.obj;rw [h1] at this;cases this
theorem CkO.go (h:CkO a0 w cb md ms Zs ZE at_ fld fs) (e:Ext w w'):CkO a0 w' cb md ms Zs ZE at_ fld fs:=by
 obtain ⟨dn,mv,ds,mn,fv,h1,h2⟩:=h.obj
 exact ⟨h.ext.trans e,⟨dn,mv,ds,mn,fv,e.obj h1,h2⟩,h.mdeps.ext e,h.mstrs.ext e,h.lcb,h.lmd,h.lms,h.ne⟩
theorem CkO.other (h:CkO a0 w cb md ms Zs ZE at_ fld fs) {b o:Nat} (hb:a0.heap.size≤b) (hn:b≠cb) (v:Vl):CkO a0 (w.setCell ⟨b,o,none⟩ v) cb md ms Zs ZE at_ fld fs:=by
 obtain ⟨dn,mv,ds,mn,fv,h1,h2⟩:=h.obj
 refine ⟨h.ext.setCell hb v,⟨dn,mv,ds,mn,fv,?_,h2⟩,h.mdeps.setCell _ _,h.mstrs.setCell _ _,h.lcb,h.lmd,h.lms,h.ne⟩
 rw [YH.setCell w b o v cb (λ e=>hn e.symm)];exact h1
theorem CkO.setFld (h:CkO a0 w cb md ms Zs ZE at_ fld fs) (n:Int):CkO a0 (w.setCell ⟨cb,6,none⟩ (.int .i64 n)) cb md ms Zs ZE at_ n fs:=by
 obtain ⟨dn,mv,ds,mn,fv,h1,h2⟩:=h.obj
 exact ⟨h.ext.setCell h.lcb _,⟨dn,mv,ds,mn,fv,Zw h1 _,h2⟩,h.mdeps.setCell _ _,h.mstrs.setCell _ _,h.lcb,h.lmd,h.lms,h.ne⟩
theorem CkO.setAt (h:CkO a0 w cb md ms Zs ZE at_ fld fs) (n:Int):CkO a0 (w.setCell ⟨cb,5,none⟩ (.int .i64 n)) cb md ms Zs ZE n fld fs:=by
 obtain ⟨dn,mv,ds,mn,fv,h1,h2⟩:=h.obj
 exact ⟨h.ext.setCell h.lcb _,⟨dn,mv,ds,mn,fv,Zw h1 _,h2⟩,h.mdeps.setCell _ _,h.mstrs.setCell _ _,h.lcb,h.lmd,h.lms,h.ne⟩
theorem CkO.setMsg (h:CkO a0 w cb md ms Zs ZE at_ fld fs) (s:BAr) (fv':Vl) (fs':List Zt) (hf:YC a0 fv' fs'):CkO a0 ((w.setCell ⟨cb,7,none⟩ (.string s)).setCell ⟨cb,8,none⟩ fv') cb md ms Zs ZE at_ fld fs':=by
 obtain ⟨dn,mv,ds,mn,fv,h1,h2⟩:=h.obj
 exact ⟨(h.ext.setCell h.lcb _).setCell h.lcb _,⟨dn,mv,ds,s,fv',Zw (Zw h1 _) _,hf⟩,(h.mdeps.setCell _ _).setCell _ _,(h.mstrs.setCell _ _).setCell _ _,h.lcb,h.lmd,h.lms,h.ne⟩
theorem CkO.putOther (h:CkO a0 w cb md ms Zs ZE at_ fld fs) {B:Nat} (o:Obj) (hB:a0.heap.size≤B) (h1:B≠cb) (h2:B≠md) (h3:B≠ms):CkO a0 (w.putObj B o) cb md ms Zs ZE at_ fld fs:=by
 obtain ⟨dn,mv,ds,mn,fv,h4,h5⟩:=h.obj
 exact ⟨h.ext.putObj hB o,⟨dn,mv,ds,mn,fv,(World.putObj_heap_other (λ e=>h1 e.symm)).trans h4,h5⟩,Xj.putOther h.mdeps (λ e=>h2 e.symm) o,Xj.putOther h.mstrs (λ e=>h3 e.symm) o,h.lcb,h.lmd,h.lms,h.ne⟩
theorem CkO.unmark (h:CkO a0 w cb md ms Zs ZE at_ fld fs) {B:Nat} (hm:Z0 B w) (hB:a0.heap.size≤B):CkO a0 (w.putObj B (.deferred none)) cb md ms Zs ZE at_ fld fs:=by
 obtain ⟨dn,mv,ds,mn,fv,h4,h5⟩:=h.obj
 refine h.putOther _ hB ?_ ?_ ?_
 · rintro rfl;unfold Z0 at hm;rw [h4] at hm;cases hm
 · rintro rfl;unfold Z0 at hm;have:=h.mdeps.obj;rw [hm] at this;cases this
 · rintro rfl;unfold Z0 at hm;have:=h.mstrs.obj;rw [hm] at this;cases this
theorem CkO.lasts {B:Nat} (hB:a0.heap.size≤B):ZM B (λ w=>CkO a0 w cb md ms Zs ZE at_ fld fs):=by
 refine ⟨λ w w' h e=>h.go e,λ w l r r' hl h hr=>?_⟩
 obtain ⟨dn,mv,ds,mn,fv,h4,h5⟩:=h.obj
 refine h.putOther _ (by omega) ?_ ?_ ?_
 · rintro rfl;rw [h4] at hr;cases hr
 · rintro rfl;have:=h.mdeps.obj;rw [hr] at this;cases this
 · rintro rfl;have:=h.mstrs.obj;rw [hr] at this;cases this
theorem XV.lasts (B pb:Nat) (sv:Vl) (l:List BAr):ZM B (λ w=>XV w pb sv l):=
 ZM.and (ZM.cell B) (ZM.and ⟨λ _ _ h e=>h.ext JE e,λ _ _ _ _ _ h hl=>Zd.putLoop (λ _ _ h=>h) hl h⟩ (ZM.const _ _))
theorem XV.set {w:Wd} {pb:Nat} {sv:Vl} {l:List BAr} (h:XV w pb sv l) {b o:Nat} (hb:b < pb) (u:Vl):XV (w.setCell ⟨b,o,none⟩ u) pb sv l:=
 ⟨by rw [YX (by omega)];exact h.1,Zd.setOther h.2.1 u (λ A m c e=>by have:=h.2.2 A m c e;omega) (λ _ _ h=>h),h.2.2⟩
end
def I8 (m:Y8):List BAr:=ZV [] (YR m.fields)
def Xz (Zs:List (BAr×Int)) (ZE:List (BAr×Bool)) (bef:List Zt):List Zt→Int×Int
 | []=>(-1,0)
 | f::l=>if Km bef (vI Zs) (vB ZE) f=0 then Xz Zs ZE (bef++[f]) l else (bef.length,Km bef (vI Zs) (vB ZE) f)
def WG (a b:Int):Int:=if b > a then b else a
def WS (Zs:List (BAr×Int)) (m:Y8):Int:=(I8 m).foldl (λ d s=>WG d ((Z2 Zs s).getD 0)) 0
def qt (ZE:List (BAr×Bool)) (m:Y8):Bool:=(m.fields.all λ f=>!f.loose)&&(I8 m).all λ s=>(Z2 ZE s).getD false
def U6 (Zs:List (BAr×Int)) (m:Y8) (r:Int×Int):Int×Int:=if r.2=0 then (if WS Zs m < 16 then (-1,0) else (-1,10)) else r
def WI (Zs:List (BAr×Int)) (ZE:List (BAr×Bool)) (m:Y8):Int×Int:=
 if Yj m.name then (if (Z2 Zs m.name).isSome then (-1,2) else (if 1≤m.fields.length∧m.fields.length≤40 then U6 Zs m (Xz Zs ZE [] m.fields) else (-1,3))) else (-1,1)
def Df (a0:Wd) (at_:Int) (r:Int×Int) (K:WPr):Ending→Wd→Prop:=λ e w'=>Ext a0 w'∧(r.2=0∧e = .returned (.tuple #[])∧K w'∨r.2≠0∧e = .panicked [Xq at_ r.1 r.2])
theorem Pw {a0 w':Wd} {at_:Int} {r:Int×Int} {K:WPr} (e:Ext a0 w') (h:r.2=0) (hK:K w'):Df a0 at_ r K (.returned (.tuple #[])) w':=⟨e,.inl ⟨h,rfl,hK⟩⟩
theorem Jc {a0 w':Wd} {at_ a b:Int} {r:Int×Int} {K:WPr} (e:Ext a0 w') (h:r=(a,b)) (h0:b≠0):Df a0 at_ r K (.panicked [Xq at_ a b]) w':=by subst h;exact ⟨e,.inr ⟨h0,rfl⟩⟩
theorem Fa {P:Program} {C:WPr} [Yn C] {T:TypeId} {a:Addr} {v:Vl} {k:Vl→Prop} (h:∀ w',C w'→QE P w' T a v):qV P C (loadAt T (.pointer (some a))) k=k v:=
 Jf λ w' e=>Qd λ QP k=>JL (h w' e)
section
variable {a0 w:Wd} {cb md ms:Nat} {Zs:List (BAr×Int)} {ZE:List (BAr×Bool)} {at_ fld:Int} {fs:List Zt}
theorem St (h:CkO a0 w cb md ms Zs ZE at_ (-1) fs) (p2 p3 p6 p9 B:Nat) (m:Y8) (fv:Vl) (st:Bool) (dp:Int) (hd0:0≤dp) (hd1:dp≤1000)
 (o2:w.heap[p2]?=some (.cells #[.pointer (some ⟨cb,0,none⟩)] 167 (0,0))) (o3:w.heap[p3]?=some (.cells (Yc m fv).toArray 74 (0,0))) (o6:w.heap[p6]?=some (.cells #[.bool st] 4 (0,0))) (o9:w.heap[p9]?=some (.cells #[.int .i64 dp] 3 (0,0)))
 (hmk:Z0 B w) (hB:a0.heap.size≤B) (r:Int×Int) (hr:r=if dp < 16 then (-1,0) else (-1,10)) (K:WPr)
 (hK:∀ w',CkO a0 w' cb md ms (Zs++[(m.name,dp+1)]) (ZE++[(m.name,st)]) at_ (-1) fs→K w') :
 Ye w λ C12 w=>IV (.pointer (some ⟨p2,0,none⟩)) (.pointer (some ⟨p3,0,none⟩)) (.pointer (some ⟨p6,0,none⟩)) (.pointer (some ⟨p9,0,none⟩)) C12 [Sw.mark B] (Df a0 at_ r K) w:=by
 obtain ⟨n1,n2,l1,l2,l3⟩:=h.nd
 have YW:=h.ne
 obtain ⟨dn,mv,ds,mn,fv',h1,h2⟩:=h.obj
 have m2:p2≠md:=by rintro rfl;have:=h.mdeps.obj;rw [o2] at this;cases this
 have m3:p3≠md:=by rintro rfl;have:=h.mdeps.obj;rw [o3] at this;cases this
 have m6:p6≠md:=by rintro rfl;have:=h.mdeps.obj;rw [o6] at this;cases this
 have m9:p9≠md:=by rintro rfl;have:=h.mdeps.obj;rw [o9] at this;cases this
 have q2:p2≠ms:=by rintro rfl;have:=h.mstrs.obj;rw [o2] at this;cases this
 have q3:p3≠ms:=by rintro rfl;have:=h.mstrs.obj;rw [o3] at this;cases this
 have q6:p6≠ms:=by rintro rfl;have:=h.mstrs.obj;rw [o6] at this;cases this
 have q9:p9≠ms:=by rintro rfl;have:=h.mstrs.obj;rw [o9] at this;cases this
 refine Xl (w1:=w) md ms (λ _ _ _ _=>rfl) ?_
 unfold IV
 simp (disch:=try exact DI) only [↓PR,QR,simprocAttr,(Za h1).1,(Za o2).1,(Za o3).1,(Za o6).1,(Za o9).1]
 have eD:Ext w w.drew:=(Ext.refl w).drew
 have hmd:YQ w.drew md (vI Zs):=h.mdeps.ext eD
 rw [zv underlying198 underlying9 ty3 hmd m.name]
 refine ⟨λ b hb b1 b2=>(World.putObj_heap_other b1),?_⟩
 unfold Pm
 simp (disch:=try exact DI) only [↓PR,QR,simprocAttr]
 rw [J3 (Xj.ent hmd m.name _) (Eb _ _),Iz,J6]
 have hw1:w.drew.putObj md (Wp (λ s:BAr=>Value.string s) (V7 (bld (vI Zs)).1 (bld (vI Zs)).2 m.name (.int .i64 (IntKind.i64.wrap (dp+1)))) (Uz (bld (vI Zs)).1 (bld (vI Zs)).2 m.name))=putW w.drew md (vI Zs) m.name (.int .i64 (IntKind.i64.wrap (dp+1))):=by
  unfold putW;rw [Uk]
 rw [hw1]
 have hms:YQ (putW w.drew md (vI Zs) m.name (.int .i64 (IntKind.i64.wrap (dp+1)))) ms (vB ZE):=Xj.putOther (h.mstrs.ext eD) (λ e=>YW e.symm) _
 refine ⟨λ b hb b1 b2=>(World.putObj_heap_other b1),?_⟩
 rw [zv underlying199 underlying9 ty4 hms m.name]
 refine ⟨λ b hb b1 b2=>(World.putObj_heap_other b2).trans (World.putObj_heap_other b1),?_⟩
 unfold Pk
 simp (disch:=try exact DI) only [↓PR,QR,simprocAttr]
 rw [J3 (Xj.ent hms m.name _) (Eb _ _),Iz,J6]
 have hw2:(putW w.drew md (vI Zs) m.name (.int .i64 (IntKind.i64.wrap (dp+1)))).putObj ms (Wp (λ s:BAr=>Value.string s) (V7 (bld (vB ZE)).1 (bld (vB ZE)).2 m.name (.bool st)) (Uz (bld (vB ZE)).1 (bld (vB ZE)).2 m.name))=putW (putW w.drew md (vI Zs) m.name (.int .i64 (IntKind.i64.wrap (dp+1)))) ms (vB ZE) m.name (.bool st):=by
  unfold putW;rw [Uk,Uk]
 rw [hw2]
 have hwr:IntKind.i64.wrap (dp+1)=dp+1:=Xf (by omega) (by omega)
 rw [hwr]
 have hC2:CkO a0 (putW (putW w.drew md (vI Zs) m.name (.int .i64 (dp+1))) ms (vB ZE) m.name (.bool st)) cb md ms (Zs++[(m.name,dp+1)]) (ZE++[(m.name,st)]) at_ (-1) fs:=by
  refine ⟨(h.ext.drew.putObj h.lmd _).putObj h.lms _,⟨dn,mv,ds,mn,fv',((World.putObj_heap_other n2).trans (World.putObj_heap_other n1)).trans h1,h2⟩,?_,?_,h.lcb,h.lmd,h.lms,YW⟩
  · have:=Xj.putOther (hmd.put m.name (.int .i64 (dp+1))) YW (JH (bld (vB ZE++[(m.name,.bool st)])).1 (bld (vB ZE++[(m.name,.bool st)])).2)
    unfold vI at this ⊢
    rw [List.map_append]
    exact this
  · rw [hwr] at hms
    have:=hms.put m.name (.bool st)
    unfold vB at this ⊢
    rw [List.map_append]
    exact this
 have hk2:Z0 B (putW (putW w.drew md (vI Zs) m.name (.int .i64 (dp+1))) ms (vB ZE) m.name (.bool st)):=by
  have b1:B≠md:=by rintro rfl;have:=h.mdeps.obj;unfold Z0 at hmk;rw [hmk] at this;cases this
  have b2:B≠ms:=by rintro rfl;have:=h.mstrs.obj;unfold Z0 at hmk;rw [hmk] at this;cases this
  exact ((World.putObj_heap_other b2).trans (World.putObj_heap_other b1)).trans hmk
 have o2':(putW (putW w.drew md (vI Zs) m.name (.int .i64 (dp+1))) ms (vB ZE) m.name (.bool st)).heap[p2]?=some (.cells #[.pointer (some ⟨cb,0,none⟩)] 167 (0,0)):=((World.putObj_heap_other q2).trans (World.putObj_heap_other m2)).trans o2
 have o9':(putW (putW w.drew md (vI Zs) m.name (.int .i64 (dp+1))) ms (vB ZE) m.name (.bool st)).heap[p9]?=some (.cells #[.int .i64 dp] 3 (0,0)):=((World.putObj_heap_other q9).trans (World.putObj_heap_other m9)).trans o9
 generalize putW (putW w.drew md (vI Zs) m.name (.int .i64 (dp+1))) ms (vB ZE) m.name (.bool st)=W at hC2 hk2 o2' o9' ⊢
 refine Xb ?_
 unfold Pj
 simp (disch:=try exact DI) only [↓PR,QR,simprocAttr,(Za o2').1,(Za o9').1]
 refine ZP (Yy hC2.chk _ 10 (by decide)) (λ w' e h0=>?_) (λ w' e h0=>?_)
 · refine Q3 (hk2.ext e) ?_
   rw [Wf]
   have hC3:=(hC2.go e).unmark (hk2.ext e) hB
   refine Pw hC3.ext ?_ (hK _ hC3)
   rw [hr]
   by_cases hdp:dp < 16
   · rw [if_pos hdp]
   · rw [decide_eq_false hdp] at h0;exact absurd h0 (by decide)
 · refine yW (hk2.ext e) ?_
   rw [Vw]
   have hC3:=(hC2.go e).unmark (hk2.ext e) hB
   by_cases hdp:dp < 16
   · rw [decide_eq_true hdp] at h0;exact absurd rfl h0
   · rw [decide_eq_false hdp]
     rw [if_neg hdp] at hr
     exact Jc hC3.ext hr (by decide)
theorem Sn {a b c:Int} (h1:a≤c) (h2:b≤c):WG a b≤c:=by unfold WG;split<;>assumption
theorem Sj (a b:Int):a≤WG a b:=by unfold WG;split<;>omega
theorem Gm (g:BAr→Int):∀ (l:List BAr) (d:Int),0≤d→(∀ s∈l,0≤g s∧g s≤16)→d≤16→0≤l.foldl (λ d s=>WG d (g s)) d∧l.foldl (λ d s=>WG d (g s)) d≤16
 | [],d,h0,_,h1=>⟨h0,h1⟩
 | s::l,d,h0,h,h1=>Gm g l _ (Int.le_trans h0 (Sj _ _)) (λ u hu=>h u (List.mem_cons_of_mem _ hu)) (Sn h1 (h s (List.mem_cons_self ..)).2)
def Low (Zs:List (BAr×Int)):Prop:=∀ p∈Zs,0≤p.2∧p.2≤16
theorem Low.get {Zs:List (BAr×Int)} (h:Low Zs) (s:BAr):0≤(Z2 Zs s).getD 0∧(Z2 Zs s).getD 0≤16:=by
 cases hl:Z2 Zs s with
 | none=>exact ⟨by decide,by decide⟩
 | some n=>exact h _ (LV hl)
theorem Md (hlow:Low Zs) (h:CkO a0 w cb md ms Zs ZE at_ fld fs) (p2 p3 p6:Nat) (m:Y8) (fv:Vl) (st:Bool) (hst:st=m.fields.all λ f=>!f.loose) (hF:YC a0 fv m.fields) (hb:(YR m.fields).length≤1048576) (hp2:a0.heap.size≤p2) (hp3:a0.heap.size≤p3) (hp6:a0.heap.size≤p6) (h26:p2 < p6) (h36:p3 < p6)
 (o2:w.heap[p2]?=some (.cells #[.pointer (some ⟨cb,0,none⟩)] 167 (0,0))) (o3:w.heap[p3]?=some (.cells (Yc m fv).toArray 74 (0,0))) (o6:w.heap[p6]?=some (.cells #[.bool st] 4 (0,0)))
 (r:Int×Int) (hr:r=if WS Zs m < 16 then (-1,0) else (-1,10)) (K:WPr)
 (hK:∀ w',CkO a0 w' cb md ms (Zs++[(m.name,WS Zs m+1)]) (ZE++[(m.name,qt ZE m)]) at_ (-1) fs→K w') :
 Dc (.pointer (some ⟨p2,0,none⟩)) (.pointer (some ⟨p3,0,none⟩)) (.pointer (some ⟨p6,0,none⟩)) [] (Df a0 at_ r K) w:=by
 obtain ⟨n1,n2,l1,l2,l3⟩:=h.nd
 obtain ⟨dn,mv,ds,mn,fv',h1,h2⟩:=h.obj
 have c2:p2≠cb:=by rintro rfl;rw [o2] at h1;cases h1
 have c3:p3≠cb:=by rintro rfl;rw [o3] at h1;cases h1
 have c6:p6≠cb:=by rintro rfl;rw [o6] at h1;cases h1
 have lp6:p6 < w.heap.size:=(Array.getElem?_eq_some_iff.1 o6).1
 have lp3:p3 < w.heap.size:=(Array.getElem?_eq_some_iff.1 o3).1
 unfold Dc
 simp (disch:=try exact DI) only [↓PR,QR,simprocAttr,(Za h1).1,(Za h1).2,(Za o2).1,(Za o3).1]
 have hC1:=h.setFld (-1)
 have o2':(w.setCell ⟨cb,6,none⟩ (.int .i64 (-1))).heap[p2]?=some (.cells #[.pointer (some ⟨cb,0,none⟩)] 167 (0,0)):=by rw [YH.setCell w cb 6 _ p2 c2];exact o2
 have o3':(w.setCell ⟨cb,6,none⟩ (.int .i64 (-1))).heap[p3]?=some (.cells (Yc m fv).toArray 74 (0,0)):=by rw [YH.setCell w cb 6 _ p3 c3];exact o3
 have o6':(w.setCell ⟨cb,6,none⟩ (.int .i64 (-1))).heap[p6]?=some (.cells #[.bool st] 4 (0,0)):=by rw [YH.setCell w cb 6 _ p6 c6];exact o6
 simp only [World.size_setCell]
 have eW:=hC1.go ((Ext.refl (w.setCell ⟨cb,6,none⟩ (.int .i64 (-1)))).alloc (Obj.cells #[.int .i64 0] 3))
 have x2:=((Ext.refl (w.setCell ⟨cb,6,none⟩ (.int .i64 (-1)))).alloc (Obj.cells #[.int .i64 0] 3)).obj o2'
 have x3:=((Ext.refl (w.setCell ⟨cb,6,none⟩ (.int .i64 (-1)))).alloc (Obj.cells #[.int .i64 0] 3)).obj o3'
 have x6:=((Ext.refl (w.setCell ⟨cb,6,none⟩ (.int .i64 (-1)))).alloc (Obj.cells #[.int .i64 0] 3)).obj o6'
 have x9:=Zz (w.setCell ⟨cb,6,none⟩ (.int .i64 (-1))) #[.int .i64 0] 3
 rw [World.size_setCell] at x9
 generalize hW:World.alloc (w.setCell ⟨cb,6,none⟩ (.int .i64 (-1))) _=W at eW x2 x3 x6 x9
 have JA:W.heap.size=w.heap.size+1:=by rw [← hW];simp only [World.size_alloc,World.size_setCell]
 clear hW hC1 o2 o3 o6 o2' o3' o6' h
 have lW:a0.heap.size≤W.heap.size:=eW.ext.size
 refine Zl (qG W _ m ⟨fv,rfl,hF.ext eW.ext⟩ hb) ?_
 rintro _ w7 ⟨pb,sv,rfl,hS,hpb,e7⟩
 have s7:=e7.size
 unfold Pn
 let rs:=I8 m
 let I:Nat→Wd→Prop:=λ k w'=>CkO a0 w' cb md ms Zs ZE at_ (-1) fs∧XV w' pb sv (YR m.fields)∧w'.heap[p2]?=some (.cells #[.pointer (some ⟨cb,0,none⟩)] 167 (0,0))∧w'.heap[p3]?=some (.cells (Yc m fv).toArray 74 (0,0)) ∧
  w'.heap[p6]?=some (.cells #[.bool (st&&(rs.take k).all λ s=>(Z2 ZE s).getD false)] 4 (0,0))∧w'.heap[w.heap.size]?=some (.cells #[.int .i64 ((rs.take k).foldl (λ d s=>WG d ((Z2 Zs s).getD 0)) 0)] 3 (0,0))
 have hLI:∀ k,ZM w7.heap.size (I k):=λ k=>ZM.and (CkO.lasts (by omega)) (ZM.and (XV.lasts _ _ _ _) (ZM.and (ZM.has _ (by simp)) (ZM.and (ZM.has _ (by simp)) (ZM.and (ZM.has _ (by simp)) (ZM.has _ (by simp))))))
 refine ⟨_,_,rs.length,MD rs,λ w=>XV w pb sv (YR m.fields),I,λ _ _=>False,λ _ _=>False,rfl,Zcl,FH pb sv _,⟨eW.go e7,hS,e7.obj x2,e7.obj x3,?_,e7.obj x9⟩,λ k w h=>h.2.1,hLI,λ _=>ZM.const _ _,?_,?_,?_,?_⟩
 · have:=e7.obj x6
   rw [this];simp
 · intro rec j w3 hj hI3 hrec hready
   refine ⟨hready,λ w4 hbz=>?_⟩
   have hrec4:=hrec.busied hbz
   have hI4:=(hLI j).busied hbz (Nat.le_succ _) hI3
   clear hI3 hrec hready hbz
   obtain ⟨hC4,hS4,y2,y3,y6,y9⟩:=hI4
   obtain ⟨s,hx⟩:=getElem?_lt hj
   have hrs:rs[j]?=some s:=hx
   rw [show MD rs j = .string s by unfold MD;rw [hrs]]
   obtain ⟨dn,mv,ds,mn,fv',h1,h2⟩:=hC4.obj
   have l9:w.heap.size < w4.heap.size:=(Array.getElem?_eq_some_iff.1 y9).1
   have XG:rs.take (j+1)=rs.take j++[s]:=Qe hrs
   refine ZG ?_
   unfold Pi
   simp (disch:=try exact DI) only [↓PR,QR,simprocAttr,(Za y9).1,(Za y2).1,(Za h1).1]
   rw [xX underlying198 underlying9 ty3 (hC4.mdeps.ext ((Ext.refl w4).wdrew)) s]
   have hg:(Yr (vI Zs) s).getD (.int .i64 0) = .int .i64 ((Z2 Zs s).getD 0):=by rw [JF];cases Z2 Zs s<;>rfl
   rw [hg]
   simp (disch:=try exact DI) only [↓PR,QR,simprocAttr,(Za y9).1,(Za y9).2]
   refine Xb ?_
   have e4:Ext w4 w4.drew:=(Ext.refl w4).wdrew
   have hC5:=(hC4.go e4).other (b:=w.heap.size) (o:=0) (by omega) (by omega) (.int .i64 (if (Z2 Zs s).getD 0 > (rs.take j).foldl (λ d s=>WG d ((Z2 Zs s).getD 0)) 0 then (Z2 Zs s).getD 0 else (rs.take j).foldl (λ d s=>WG d ((Z2 Zs s).getD 0)) 0))
   have hS5:XV (w4.drew.setCell ⟨w.heap.size,0,none⟩ (.int .i64 (if (Z2 Zs s).getD 0 > (rs.take j).foldl (λ d s=>WG d ((Z2 Zs s).getD 0)) 0 then (Z2 Zs s).getD 0 else (rs.take j).foldl (λ d s=>WG d ((Z2 Zs s).getD 0)) 0))) pb sv (YR m.fields):=(hS4.ext e4).set (by omega) _
   have hrec5:Y0 rec w7.heap.size (w4.drew.setCell ⟨w.heap.size,0,none⟩ (.int .i64 (if (Z2 Zs s).getD 0 > (rs.take j).foldl (λ d s=>WG d ((Z2 Zs s).getD 0)) 0 then (Z2 Zs s).getD 0 else (rs.take j).foldl (λ d s=>WG d ((Z2 Zs s).getD 0)) 0))):=hrec4.drew.setCell _ _
   have z2:=(YH.setCell w4.drew w.heap.size 0 (.int .i64 (if (Z2 Zs s).getD 0 > (rs.take j).foldl (λ d s=>WG d ((Z2 Zs s).getD 0)) 0 then (Z2 Zs s).getD 0 else (rs.take j).foldl (λ d s=>WG d ((Z2 Zs s).getD 0)) 0)) p2 (by omega)).trans y2
   have z3:=(YH.setCell w4.drew w.heap.size 0 (.int .i64 (if (Z2 Zs s).getD 0 > (rs.take j).foldl (λ d s=>WG d ((Z2 Zs s).getD 0)) 0 then (Z2 Zs s).getD 0 else (rs.take j).foldl (λ d s=>WG d ((Z2 Zs s).getD 0)) 0)) p3 (by omega)).trans y3
   have z6:=(YH.setCell w4.drew w.heap.size 0 (.int .i64 (if (Z2 Zs s).getD 0 > (rs.take j).foldl (λ d s=>WG d ((Z2 Zs s).getD 0)) 0 then (Z2 Zs s).getD 0 else (rs.take j).foldl (λ d s=>WG d ((Z2 Zs s).getD 0)) 0)) p6 (by omega)).trans y6
   have z9:=Zw (w:=w4.drew) (o:=0) y9 (.int .i64 (if (Z2 Zs s).getD 0 > (rs.take j).foldl (λ d s=>WG d ((Z2 Zs s).getD 0)) 0 then (Z2 Zs s).getD 0 else (rs.take j).foldl (λ d s=>WG d ((Z2 Zs s).getD 0)) 0))
   rw [show (#[Value.int .i64 ((rs.take j).foldl (λ d s=>WG d ((Z2 Zs s).getD 0)) 0)]:AVl).setIfInBounds 0 (.int .i64 (if (Z2 Zs s).getD 0 > (rs.take j).foldl (λ d s=>WG d ((Z2 Zs s).getD 0)) 0 then (Z2 Zs s).getD 0 else (rs.take j).foldl (λ d s=>WG d ((Z2 Zs s).getD 0)) 0)) = #[.int .i64 ((rs.take (j+1)).foldl (λ d s=>WG d ((Z2 Zs s).getD 0)) 0)] from by rw [XG,List.foldl_append];rfl] at z9
   generalize w4.drew.setCell ⟨w.heap.size,0,none⟩ _=w5 at hC5 hS5 hrec5 z2 z3 z6 z9 ⊢
   clear hC4 hS4 hrec4 y2 y3 y6 y9 h1 hg
   obtain ⟨dn,mv,ds,mn,fv',h1,h2⟩:=hC5.obj
   have hall:(st&&(rs.take (j+1)).all λ s=>(Z2 ZE s).getD false)=((st&&(rs.take j).all λ s=>(Z2 ZE s).getD false)&&(Z2 ZE s).getD false):=by
    rw [XG,List.all_append,Bool.and_assoc];simp
   have fin:∀ b,b=(st&&(rs.take (j+1)).all λ s=>(Z2 ZE s).getD false)→Y0 rec w7.heap.size (w5.setCell ⟨p6,0,none⟩ (.bool b))∧I (j+1) (w5.setCell ⟨p6,0,none⟩ (.bool b)):=by
    rintro b rfl
    refine ⟨hrec5.setCell _ _,hC5.other hp6 c6 _,hS5.set (by omega) _,(YH.setCell w5 p6 0 _ p2 (by omega)).trans z2,(YH.setCell w5 p6 0 _ p3 (by omega)).trans z3,?_,(YH.setCell w5 p6 0 _ w.heap.size (by omega)).trans z9⟩
    have:=Zw (o:=0) z6 (.bool (st&&(rs.take (j+1)).all λ s=>(Z2 ZE s).getD false))
    simpa using this
   rw [hall] at fin
   generalize (st&&(rs.take j).all λ s=>(Z2 ZE s).getD false)=sj at z6 fin
   unfold Ph
   have hg:(Yr (vB ZE) s).getD (.bool false) = .bool ((Z2 ZE s).getD false):=by rw [BE];cases Z2 ZE s<;>rfl
   cases sj with
   | false=>
    simp (disch:=try exact DI) only [↓PR,QR,simprocAttr,(Za z6).1,(Za z6).2,↓EF,↓Pf,↓Ph,↓Pi,↓Pj,↓Pk,↓Pm,↓IV,↓Pn,↓Dc,↓Hz,↓Dd,↓j7,↓HA,↓HB,↓HC,↓De,↓HD]
    exact fin false rfl
   | true=>
    simp (disch:=try exact DI) only [↓PR,QR,simprocAttr,(Za z6).1,(Za z6).2,(Za z2).1,(Za h1).1]
    rw [WK underlying199 underlying9 ty4 hC5.mstrs s,hg]
    generalize (Z2 ZE s).getD false=b at fin
    simp (disch:=try exact DI) only [↓PR,QR,simprocAttr,(Za z6).1,(Za z6).2,EF]
    exact fin b (by cases b<;>rfl)
 · rintro w3 hI3 hmk
   obtain ⟨hC3,hS3,y2,y3,y6,y9⟩:=hI3
   rw [List.take_length] at y6 y9
   have hfold:=Gm (λ s=>(Z2 Zs s).getD 0) rs 0 (by decide) (λ s _=>hlow.get s) (by decide)
   refine St hC3 p2 p3 p6 w.heap.size w7.heap.size m fv _ _ hfold.1 (by have:=hfold.2;omega) y2 y3 y6 y9 hmk (by omega) r hr K ?_
   rw [hst]
   exact hK
 · rintro c w3 h
   exact h.elim
 · rintro ch w3 h
   exact h.elim
end
section
variable {a0 w:Wd} {cb md ms:Nat} {Zs:List (BAr×Int)} {ZE:List (BAr×Bool)} {at_ fld:Int} {m:Y8}
theorem Uv {a b:Int} (h:orC a b=0):a=0∧b=0:=by
 unfold orC at h
 split at h
 · rename_i ha
   exact ⟨ha,h⟩
 · rename_i ha
   exact absurd h ha
theorem qY (Zs:List (BAr×Int)) (ZE:List (BAr×Bool)):∀ (l bef:List Zt),(Xz Zs ZE bef l).2≠0→0≤(Xz Zs ZE bef l).1
 | [],_,h=>absurd rfl h
 | f::l,bef,h=>by
  rw [Xz] at h ⊢
  split
  · rename_i hc
    rw [if_pos hc] at h
    exact qY Zs ZE l _ h
  · exact Int.natCast_nonneg _
theorem y8 (Zs:List (BAr×Int)) (ZE:List (BAr×Bool)):∀ (l bef:List Zt),(Xz Zs ZE bef l).2=0→(YR l).length≤40*l.length
 | [],_,_=>Nat.zero_le _
 | f::l,bef,h=>by
  rw [Xz] at h
  split at h
  · rename_i hc
    have ih:=y8 Zs ZE l _ h
    have hf:(Yx f).length≤40:=by
     unfold Yx
     split
     · simp
     · split
       · rename_i hk
         obtain ⟨_,h1⟩:=Uv hc
         obtain ⟨_,h1⟩:=Uv h1
         obtain ⟨_,h1⟩:=Uv h1
         obtain ⟨_,h1⟩:=Uv h1
         rw [show YI bef (vI Zs) (vB ZE) f=V0 bef (vI Zs) f by unfold YI;rw [hk];rfl] at h1
         obtain ⟨_,h1⟩:=Uv h1
         obtain ⟨h1,_⟩:=Uv h1
         have h2:=X5 (by decide) h1
         simp only [Bool.and_eq_true,decide_eq_true_eq] at h2
         rw [List.length_map]
         omega
       · simp
    unfold YR at ih ⊢
    rw [List.flatMap_cons,List.length_append,List.length_cons]
    omega
  · rename_i hc
    exact absurd h hc
theorem Px (hlow:Low Zs) (h:CkO a0 w cb md ms Zs ZE at_ fld m.fields) (p2 p3:Nat) (fv:Vl) (hF:YC a0 fv m.fields) (h40:m.fields.length≤40) (hp2:a0.heap.size≤p2) (hp3:a0.heap.size≤p3)
 (o2:w.heap[p2]?=some (.cells #[.pointer (some ⟨cb,0,none⟩)] 167 (0,0))) (o3:w.heap[p3]?=some (.cells (Yc m fv).toArray 74 (0,0)))
 (r:Int×Int) (hr:r=U6 Zs m (Xz Zs ZE [] m.fields)) (K:WPr)
 (hK:∀ w',CkO a0 w' cb md ms (Zs++[(m.name,WS Zs m+1)]) (ZE++[(m.name,qt ZE m)]) at_ (-1) m.fields→K w') :
 j7 (.pointer (some ⟨p2,0,none⟩)) (.pointer (some ⟨p3,0,none⟩)) [] (Df a0 at_ r K) w:=by
 obtain ⟨n1,n2,l1,l2,l3⟩:=h.nd
 have lp2:p2 < w.heap.size:=(Array.getElem?_eq_some_iff.1 o2).1
 have lp3:p3 < w.heap.size:=(Array.getElem?_eq_some_iff.1 o3).1
 have lw:=h.ext.size
 obtain ⟨A,c,rfl,hlc,hcm,hlm,YV⟩:=Zd.open hF
 unfold j7
 simp (disch:=try exact DI) only [↓PR,QR,simprocAttr,(Za o3).1]
 refine ZQ (λ i w'=>∃ (k:Nat) (fld':Int),i = .int .i64 k∧k≤m.fields.length∧CkO a0 w' cb md ms Zs ZE at_ fld' m.fields∧w'.heap[p2]?=some (.cells #[.pointer (some ⟨cb,0,none⟩)] 167 (0,0))∧w'.heap[p3]?=some (.cells (Yc m (.slice A m.fields.length c)).toArray 74 (0,0)) ∧
  w'.heap[w.heap.size]?=some (.cells #[.bool ((m.fields.take k).all λ f=>!f.loose)] 4 (0,0))∧r=U6 Zs m (Xz Zs ZE (m.fields.take k) (m.fields.drop k))) (λ i _=>m.fields.length - (intOf i).toNat) ⟨0,fld,rfl,by omega,h.go ((Ext.refl _).alloc _),((Ext.refl _).alloc _).obj o2,((Ext.refl _).alloc _).obj o3,Zz w #[.bool true] 4,hr⟩ ?_
 rintro i w' ⟨k,fld',rfl,hk,hC,y2,y3,y6,hrk⟩
 have l6:w.heap.size < w'.heap.size:=(Array.getElem?_eq_some_iff.1 y6).1
 have lw':=hC.ext.size
 obtain ⟨dn,mv,ds,mn,fv',h1,h2⟩:=hC.obj
 have c2:p2≠cb:=by rintro rfl;rw [y2] at h1;cases h1
 have c3:p3≠cb:=by rintro rfl;rw [y3] at h1;cases h1
 rcases ZY hk with ⟨x,hx,hd,Yq,Z5⟩ | ⟨hk,hd,Z5⟩
 · obtain ⟨b,o,cs,rfl,hl,hA,hE⟩:=YV k x hx
   obtain ⟨tv,cv,rfl,hT,hCa,ht1,hc1⟩:=hE.op
   have hA':=hA.ext hC.ext
   rw [hd] at hrk
   simp only [Xz] at hrk
   unfold Dd
   simp (disch:=try exact DI) only [↓PR,QR,simprocAttr,Z5]
   unfold Hz
   try unfold X0
   try unfold L0
   rw [Xr underlying72 WQ _ _ _ _ _ k Yq,JL (hA'.loads WQ rfl)]
   simp (disch:=try exact DI) only [↓PR,QR,simprocAttr,(Za y2).1,(Za h1).1,(Za h1).2]
   have hCw:=(hC.setFld (k:Int)).go ((Ext.refl _).alloc (Obj.cells (Zv x tv cv).toArray 123))
   have z2:=((Ext.refl _).alloc (Obj.cells (Zv x tv cv).toArray 123)).obj ((YH.setCell w' cb 6 (.int .i64 (k:Int)) p2 c2).trans y2)
   have z3:=((Ext.refl _).alloc (Obj.cells (Zv x tv cv).toArray 123)).obj ((YH.setCell w' cb 6 (.int .i64 (k:Int)) p3 c3).trans y3)
   have z6:=((Ext.refl _).alloc (Obj.cells (Zv x tv cv).toArray 123)).obj ((YH.setCell w' cb 6 (.int .i64 (k:Int)) w.heap.size (by omega)).trans y6)
   have z8:=Zz (w'.setCell ⟨cb,6,none⟩ (.int .i64 (k:Int))) (Zv x tv cv).toArray 123
   rw [World.size_setCell] at z8
   generalize (World.alloc (w'.setCell ⟨cb,6,none⟩ (.int .i64 (k:Int))) (Obj.cells (Zv x tv cv).toArray 123))=W at hCw z2 z3 z6 z8 ⊢
   have hkt:(m.fields.take k).length=k:=by rw [List.length_take];omega
   refine ZP (D2 hCw.chk k rfl Yq _ x ⟨tv,cv,rfl,ZW.ext hT hCw.ext,Yh.ext hCa hCw.ext⟩) (λ w5 e5 h0=>?_) (λ w5 e5 h0=>?_)
   · rw [if_pos h0] at hrk
     have q6:=e5.obj z6
     have q8:=e5.obj z8
     have hC5:=hCw.go e5
     have l5:w'.heap.size < w5.heap.size:=(Array.getElem?_eq_some_iff.1 q8).1
     have htk:=Qe hx
     rw [← htk] at hrk
     have hall:((m.fields.take (k+1)).all λ f=>!f.loose)=(((m.fields.take k).all λ f=>!f.loose)&&!x.loose):=by rw [htk,List.all_append];simp
     have fin:∀ b' w6,Ext w5 w6→b'=((m.fields.take (k+1)).all λ f=>!f.loose)→(∃ (k':Nat) (fld':Int),Value.int .i64 ((k+1:Nat):Int) = .int .i64 k'∧k'≤m.fields.length∧CkO a0 (w6.setCell ⟨w.heap.size,0,none⟩ (.bool b')) cb md ms Zs ZE at_ fld' m.fields∧w6.heap[p2]?=some (.cells #[.pointer (some ⟨cb,0,none⟩)] 167 (0,0))∧w6.heap[p3]?=some (.cells (Yc m (.slice (some ⟨b,o,none⟩) m.fields.length c)).toArray 74 (0,0)) ∧
      (w6.setCell ⟨w.heap.size,0,none⟩ (.bool b')).heap[w.heap.size]?=some (.cells #[.bool ((m.fields.take k').all λ f=>!f.loose)] 4 (0,0))∧r=U6 Zs m (Xz Zs ZE (m.fields.take k') (m.fields.drop k')))∧m.fields.length - (intOf (Value.int .i64 ((k+1:Nat):Int))).toNat < m.fields.length - (intOf (Value.int IntKind.i64 k)).toNat:=by
      rintro b' w6 e6 rfl
      refine ⟨⟨k+1,k,rfl,by omega,(hC5.go e6).other (by omega) (by omega) _,e6.obj (e5.obj z2),e6.obj (e5.obj z3),?_,hrk⟩,Yf (kd := .i64) Yq⟩
      have:=Zw (o:=0) (e6.obj q6) (.bool ((m.fields.take (k+1)).all λ f=>!f.loose))
      simpa using this
     unfold Pf
     rw [hall] at fin
     generalize ((m.fields.take k).all λ f=>!f.loose)=sj at q6 fin
     cases sj with
     | true=>
      generalize hxl:x.loose=xl at fin
      simp (disch:=try exact DI) only [↓PR,QR,simprocAttr,(Za q6).1,(Za q6).2,(Za q8).1,EF,hxl]
      simp only [Bool.true_and] at fin
      exact fin _ w5 (Ext.refl _) rfl
     | false=>
      simp (disch:=try exact DI) only [↓PR,QR,simprocAttr,(Za q6).1,(Za q6).2,(Za q8).1,EF]
      simp only [Bool.false_and] at fin
      exact fin _ w5 (Ext.refl _) rfl
   · rw [if_neg h0] at hrk
     have hr2:r=((k:Int),Km (m.fields.take k) (vI Zs) (vB ZE) x):=by
      rw [hrk,hkt];unfold U6;rw [if_neg h0]
     show Zy _ _ _ _ _ _
     rw [Vw]
     exact Jc (hCw.ext.trans e5) hr2 h0
 · subst hk
   rw [hd] at hrk
   rw [List.take_length] at y6
   unfold Dd
   simp (disch:=try exact DI) only [↓PR,QR,simprocAttr,Z5]
   have hfl:(Xz Zs ZE [] m.fields).2=0:=by
    by_cases h0:(Xz Zs ZE [] m.fields).2=0
    · exact h0
    · exfalso
      have h1:=qY Zs ZE m.fields [] h0
      have h2:U6 Zs m (Xz Zs ZE (List.take m.fields.length m.fields) [])=Xz Zs ZE [] m.fields:=by
       rw [← hrk,hr]
       unfold U6
       rw [if_neg h0]
      have h3:(U6 Zs m (Xz Zs ZE (List.take m.fields.length m.fields) [])).1 = -1:=by
       unfold U6 Xz
       simp only [if_true]
       split<;>rfl
      rw [h2] at h3
      omega
   have hb:(YR m.fields).length≤1048576:=by
    have:=y8 Zs ZE m.fields [] hfl
    omega
   refine Md hlow hC p2 p3 w.heap.size m _ _ rfl hF hb hp2 hp3 lw lp2 lp3 y2 y3 y6 r ?_ K hK
   rw [hrk]
   rfl
theorem Pu {w0:Wd} {fs0:List Zt} (hlow:Low Zs) (h:CkO a0 w0 cb md ms Zs ZE at_ fld fs0) (v:Vl) (hm:QV a0 v m) (K:WPr)
 (hK:∀ w',CkO a0 w' cb md ms (Zs++[(m.name,WS Zs m+1)]) (ZE++[(m.name,qt ZE m)]) at_ (-1) m.fields→K w') :
 Calls Pg 136 #[.pointer (some ⟨cb,0,none⟩),v] w0 (Df a0 at_ (WI Zs ZE m) K):=by
 obtain ⟨fv,rfl,hF⟩:=hm
 obtain ⟨n1,n2,l1,l2,l3⟩:=h.nd
 have lw:=h.ext.size
 have hf1:=Zd.oneCell hF
 refine ZhD ?_;unfold n74
 simp (disch:=try exact DI) only [↓PR,QR,simprocAttr]
 have hC:=h.go (((Ext.refl w0).alloc (Obj.cells #[.pointer (some ⟨cb,0,none⟩)] 167)).alloc (Obj.cells (Yc m fv).toArray 74))
 have z3:=Zz (w0.alloc (Obj.cells #[.pointer (some ⟨cb,0,none⟩)] 167)) (Yc m fv).toArray 74
 have z2:=((Ext.refl (w0.alloc (Obj.cells #[.pointer (some ⟨cb,0,none⟩)] 167))).alloc (Obj.cells (Yc m fv).toArray 74)).obj (Zz w0 _ _)
 simp only [World.size_alloc] at z3 ⊢
 generalize (World.alloc (World.alloc w0 _) _)=W at hC z2 z3 ⊢
 clear h
 obtain ⟨dn,mv,ds,mn,fv',h1,h2⟩:=hC.obj
 refine Xl (w1:=W) cb cb (λ _ _ _ _=>rfl) ?_
 unfold HD
 simp (disch:=try exact DI) only [↓PR,QR,simprocAttr,(Za z2).1]
 have L3:∀ w',KB W cb cb w'→QE Pg w' 74 ⟨w0.heap.size+1,0,none⟩ (.agg (Yc m fv).toArray):=λ w' hw'=>QE.many xi rfl (λ j u hu=>by
  rw [Addr.add_lit]
  exact KB.cell (b:=w0.heap.size+1) hw' (by omega) (by omega) (by rw [(Za z3).1];simpa using hu))
 rw [Fa L3]
 simp (disch:=try exact DI) only [↓PR,QR,simprocAttr,(Za h1).1,(Za h1).2]
 have eD:Ext W W.drew:=(Ext.refl W).wdrew
 have hC1:=(hC.go eD).setMsg m.name fv m.fields hF
 have y2:=(YH.setCell (W.drew.setCell ⟨cb,7,none⟩ (.string m.name)) cb 8 fv w0.heap.size (by omega)).trans ((YH.setCell W.drew cb 7 (.string m.name) w0.heap.size (by omega)).trans (eD.obj z2))
 have y3:=(YH.setCell (W.drew.setCell ⟨cb,7,none⟩ (.string m.name)) cb 8 fv (w0.heap.size+1) (by omega)).trans ((YH.setCell W.drew cb 7 (.string m.name) (w0.heap.size+1) (by omega)).trans (eD.obj z3))
 refine ⟨λ b hb b1 _=>(YH.setCell _ cb 8 fv b b1).trans (YH.setCell W.drew cb 7 (.string m.name) b b1),?_⟩
 show De _ _ _ _ _ _ ((W.drew.setCell ⟨cb,7,none⟩ (.string m.name)).setCell ⟨cb,8,none⟩ fv)
 generalize ((W.drew.setCell ⟨cb,7,none⟩ (.string m.name)).setCell ⟨cb,8,none⟩ fv)=W1 at hC1 y2 y3 ⊢
 clear hC z2 z3 h1
 obtain ⟨dn,mv,ds,mn,fv',h1,h2'⟩:=hC1.obj
 unfold De
 simp (disch:=try exact DI) only [↓PR,QR,simprocAttr,(Za h1).1,(Za h1).2]
 have hC2:=hC1.setFld (-1)
 have x2:=(YH.setCell W1 cb 6 (.int .i64 (-1)) w0.heap.size (by omega)).trans y2
 have x3:=(YH.setCell W1 cb 6 (.int .i64 (-1)) (w0.heap.size+1) (by omega)).trans y3
 generalize (W1.setCell ⟨cb,6,none⟩ (.int .i64 (-1)))=W2 at hC2 x2 x3 ⊢
 clear hC1 y2 y3 h1
 refine Xb ?_
 refine ZG ?_
 unfold HC
 simp (disch:=try exact DI) only [↓PR,QR,simprocAttr,(Za x2).1,(Za x3).1]
 refine zcr (Ud _ m.name) λ w3 e3=>?_
 have e3':Ext W2 w3:=(Ext.refl W2).wdrew.trans e3
 refine ⟨e3,?_⟩
 generalize hr:WI Zs ZE m=r
 unfold WI at hr
 refine ZP (Yy (hC2.go e3').chk _ 1 (by decide)) (λ w4 e4 h0=>?_) (λ w4 e4 h0=>?_)
 · have e4':=e3'.trans e4
   have hn:Yj m.name=true:=X5 (by decide) h0
   rw [if_pos hn] at hr
   refine ⟨e3.trans e4,?_⟩
   have hC4:=hC2.go e4'
   have x2':=e4'.obj x2
   have x3':=e4'.obj x3
   obtain ⟨dn,mv,ds,mn,fv',h1,h2'⟩:=hC4.obj
   refine ZG ?_
   unfold HB
   simp (disch:=try exact DI) only [↓PR,QR,simprocAttr,(Za x2').1,(Za x3').1,(Za h1).1]
   have eD4:Ext w4 w4.drew:=(Ext.refl w4).wdrew
   rw [Aj underlying198 underlying9 ty3 (hC4.mdeps.ext eD4) m.name]
   have hsome:(Yr (vI Zs) m.name).isSome=(Z2 Zs m.name).isSome:=by rw [JF,Option.isSome_map]
   rw [hsome]
   simp (disch:=try exact DI) only [↓PR,QR,simprocAttr,(Za x2').1]
   refine ZP (Yy (hC4.go eD4).chk _ 2 (by decide)) (λ w5 e5 h0=>?_) (λ w5 e5 h0=>?_)
   · have hs:(Z2 Zs m.name).isSome=false:=by have:=X5 (by decide) h0;simpa using this
     rw [hs,if_neg (by simp)] at hr
     have hC5:=hC4.go (eD4.trans e5)
     have x2'':=(eD4.trans e5).obj x2'
     have x3'':=(eD4.trans e5).obj x3'
     have fin:∀ b,b=decide (1≤m.fields.length∧m.fields.length≤40)→Zg Pg 135 #[.pointer (some ⟨cb,0,none⟩),.bool b,.int .i64 3] (Zy Pg [] [] (Df a0 at_ r K)) w5 (λ _ w=>j7 (.pointer (some ⟨w0.heap.size,0,none⟩)) (.pointer (some ⟨w0.heap.size+1,0,none⟩)) [] (Df a0 at_ r K) w):=by
      rintro b rfl
      refine ZP (Yy hC5.chk _ 3 (by decide)) (λ w6 e6 h0=>?_) (λ w6 e6 h0=>?_)
      · have hl:=X5 (by decide) h0
        simp only [decide_eq_true_eq] at hl
        rw [if_pos hl] at hr
        exact Px hlow (hC5.go e6) w0.heap.size (w0.heap.size+1) fv hF hl.2 (by omega) (by omega) (e6.obj x2'') (e6.obj x3'') r hr.symm K hK
      · by_cases hl:1≤m.fields.length∧m.fields.length≤40
        · rw [decide_eq_true hl] at h0;exact absurd rfl h0
        · rw [if_neg hl] at hr
          rw [decide_eq_false hl]
          show Zy _ _ _ _ _ _
          rw [Vw]
          exact Jc (hC5.ext.trans e6) hr.symm (by decide)
     obtain ⟨A,c,rfl,hlc,hcm,hlm,YV⟩:=Zd.open hF
     unfold HA
     by_cases h1l:1≤m.fields.length
     · have d1:decide ((m.fields.length:Int)≥1)=true:=by simp;omega
       by_cases h2l:m.fields.length≤40
       · have d2:decide ((m.fields.length:Int)≤40)=true:=by simp;omega
         simp (disch:=try exact DI) only [↓PR,QR,simprocAttr,(Za x2'').1,(Za x3'').1,d1,d2]
         exact fin _ (by simp [h1l,h2l])
       · have d2:decide ((m.fields.length:Int)≤40)=false:=by simp;omega
         simp (disch:=try exact DI) only [↓PR,QR,simprocAttr,(Za x2'').1,(Za x3'').1,d1,d2]
         exact fin _ (by simp [h2l])
     · have d1:decide ((m.fields.length:Int)≥1)=false:=by simp;omega
       simp (disch:=try exact DI) only [↓PR,QR,simprocAttr,(Za x2'').1,(Za x3'').1,d1]
       exact fin _ (by simp [h1l])
   · have hs:(Z2 Zs m.name).isSome=true:=by
      cases hq:(Z2 Zs m.name).isSome with
      | true=>rfl
      | false=>rw [hq] at h0;exact absurd rfl h0
     rw [hs,if_pos rfl] at hr
     rw [hs]
     show Zy _ _ _ _ _ _
     rw [Vw]
     exact Jc (hC4.ext.trans (eD4.trans e5)) hr.symm (by decide)
 · have hn:Yj m.name=false:=by
    cases hq:Yj m.name with
    | false=>rfl
    | true=>rw [hq] at h0;exact absurd rfl h0
   rw [hn,if_neg (by simp)] at hr
   rw [hn]
   show Zy _ _ _ _ _ _
   rw [Vw]
   exact Jc (hC2.ext.trans (e3'.trans e4)) hr.symm (by decide)
end
theorem YS {P:Program} {QP:PEn} {w:Wd} {k:KV} (T:TypeId) (cs:AVl):opV P (Instr.box T (.agg cs)) QP w k=k (.pointer (some ⟨w.heap.size,0,none⟩)) (w.alloc (.cells cs T)):=PB T (.agg cs)
theorem EU {α:Type} {w:Wd} {n:Nat} {E:Wd→List Vl→α→Prop} {v:Vl} {l:List α} (h:Zd w n E v l) {i:Nat} {x:α} (hi:l[i]?=some x) :
 ∃ b o c,v = .slice (some ⟨b,o,none⟩) l.length c∧l.length≤c∧c≤9223372036854775807∧l.length≤9223372036854775807∧i < l.length∧∀ k x,l[k]?=some x→∃ cs,cs.length=n∧Yg w b (o+k*n) cs∧E w cs x:=by
 obtain ⟨A,c,h1,h2,h3,h4⟩:=h
 obtain ⟨b,o,rfl,h5⟩:=h4 (by rintro rfl;cases hi)
 exact ⟨b,o,c,h1,h2,h3,by omega,(List.getElem?_eq_some_iff.1 hi).1,h5⟩
open Go.Shelf
def VC:Go.Shelf.Ren:=⟨λ | 156=>59 | 165=>98 | 166=>99 | 169=>100 | 240=>130 | 241=>131 | 276=>157 | 277=>158 | n=>n,λ | 31=>94 | 9=>9 | 3=>3 | 4=>4 | 0=>0 | 20=>20 | 72=>159 | 76=>163 | 70=>157 | 37=>40 | 75=>162 | 127=>195 | 164=>220 | 5=>5 | 80=>165 | n=>n,λ | n=>n⟩
theorem AA:Go.Proofs.Lays.n156 Pg VC:={
 mixed:=by kernel_rfl
 f156:=func59.trans (congrArg some (by kernel_rfl))
 f165:=func98.trans (congrArg some (by kernel_rfl))
 f166:=func99.trans (congrArg some (by kernel_rfl))
 f169:=func100.trans (congrArg some (by kernel_rfl))
 f240:=func130.trans (congrArg some (by kernel_rfl))
 f241:=func131.trans (congrArg some (by kernel_rfl))
 f276:=func157.trans (congrArg some (by kernel_rfl))
 f277:=func158.trans (congrArg some (by kernel_rfl))
 t0:=underlying0
 a0:=Tryz.isAgg0
 z0:=Tryz.sizeOf0
 v0:=Tryz.zeroValue0
 t3:=underlying3
 a3:=Tryz.isAgg3
 z3:=Tryz.sizeOf3
 v3:=Tryz.zeroValue3
 t4:=underlying4
 a4:=Tryz.isAgg4
 z4:=Tryz.sizeOf4
 v4:=Tryz.zeroValue4
 t9:=underlying9
 a9:=Tryz.isAgg9
 z9:=Tryz.sizeOf9
 v9:=Tryz.zeroValue9
 t20:=underlying20
 a20:=Tryz.isAgg20
 z20:=Tryz.sizeOf20
 v20:=Tryz.zeroValue20
 t31:=underlying94
 a31:=Tryz.isAgg94
 z31:=Tryz.sizeOf94
 v31:=Tryz.zeroValue94
 t37:=underlying40
 a37:=Tryz.isAgg40
 z37:=Tryz.sizeOf40
 v37:=Tryz.zeroValue40
 t70:=underlying157
 a70:=Tryz.isAgg157
 z70:=Tryz.sizeOf157
 v70:=Tryz.zeroValue157
 t72:=underlying159
 a72:=Tryz.isAgg159
 z72:=Tryz.sizeOf159
 v72:=Tryz.zeroValue159
 t75:=underlying162
 a75:=Tryz.isAgg162
 z75:=Tryz.sizeOf162
 v75:=Tryz.zeroValue162
 t76:=underlying163
 a76:=Tryz.isAgg163
 z76:=Tryz.sizeOf163
 v76:=Tryz.zeroValue163
 t127:=underlying195
 a127:=Tryz.isAgg195
 z127:=Tryz.sizeOf195
 v127:=Tryz.zeroValue195
 t164:=underlying220
 a164:=Tryz.isAgg220
 z164:=Tryz.sizeOf220
 v164:=Tryz.zeroValue220 }
theorem WO:Builder.Extra Pg VC:={
 sizeBuilder:=by kernel_rfl
 liesBuilder:=by kernel_rfl
 t5:=underlying5
 a5:=Tryz.isAgg5
 z5:=Tryz.sizeOf5
 v5:=Tryz.zeroValue5
 infoByte:=by kernel_rfl
 cellsByte:=by kernel_rfl
 sizeByte:=by kernel_rfl
 neB5:=by decide }
open Go.RowKit in
theorem qh (bk o c:Nat) (xs:List ByteArray) (sep:ByteArray) (w:World) (hcells:∀ (j:Nat) x,xs[j]?=some x→w.cell? ⟨bk,o+j,none⟩=some (.string x)) (hbk:bk < w.heap.size) (hN:xs.length≤140737488355328) (hcap:xs.length≤c) (XA:(Lib.join (xs.map (·.data.toList)) sep.data.toList).length≤140737488355328) :
 Calls Pg 59 #[.slice (some ⟨bk,o,none⟩) xs.length c,.string sep] w λ e w'=>e = .returned (.string ⟨(Lib.join (xs.map (·.data.toList)) sep.data.toList).toArray⟩)∧Below w.heap.size w w':=Any.strings_Join AA WO bk o c xs sep w hcells hbk hN hcap XA
def Ax:Go.Shelf.Ren:=⟨λ | 103=>128 | 210=>156 | 206=>190 | n=>n,λ | 9=>9 | 4=>4 | 24=>65 | 3=>3 | n=>n,λ | n=>n⟩
theorem H8:Go.Proofs.Lays.n103 Pg Ax:={
 mixed:=by kernel_rfl
 f103:=func128.trans (congrArg some (by kernel_rfl))
 f206:=func190.trans (congrArg some (by kernel_rfl))
 f210:=func156.trans (congrArg some (by kernel_rfl))
 t3:=underlying3
 a3:=Tryz.isAgg3
 z3:=Tryz.sizeOf3
 v3:=Tryz.zeroValue3
 t4:=underlying4
 a4:=Tryz.isAgg4
 z4:=Tryz.sizeOf4
 v4:=Tryz.zeroValue4
 t9:=underlying9
 a9:=Tryz.isAgg9
 z9:=Tryz.sizeOf9
 v9:=Tryz.zeroValue9
 t24:=underlying65
 a24:=Tryz.isAgg65
 z24:=Tryz.sizeOf65
 v24:=Tryz.zeroValue65 }
open Go.RowKit in
theorem Jq (s p:ByteArray) (w:World) :
 Calls Pg 128 #[.string s,.string p] w λ e w'=>e = .returned (.tuple #[.string ⟨(Lib.trimPrefix s.data.toList p.data.toList).toArray⟩,.bool (Lib.hasPrefix s.data.toList p.data.toList)])∧w'=w:=Any.strings_CutPrefix H8 s p w
def Ay:Go.Shelf.Ren:=⟨λ | 104=>49 | 211=>86 | 207=>124 | n=>n,λ | 9=>9 | 4=>4 | 24=>65 | 3=>3 | n=>n,λ | n=>n⟩
theorem H9:Go.Proofs.Lays.n104 Pg Ay:={
 mixed:=by kernel_rfl
 f104:=func49.trans (congrArg some (by kernel_rfl))
 f207:=func124.trans (congrArg some (by kernel_rfl))
 f211:=func86.trans (congrArg some (by kernel_rfl))
 t3:=underlying3
 a3:=Tryz.isAgg3
 z3:=Tryz.sizeOf3
 v3:=Tryz.zeroValue3
 t4:=underlying4
 a4:=Tryz.isAgg4
 z4:=Tryz.sizeOf4
 v4:=Tryz.zeroValue4
 t9:=underlying9
 a9:=Tryz.isAgg9
 z9:=Tryz.sizeOf9
 v9:=Tryz.zeroValue9
 t24:=underlying65
 a24:=Tryz.isAgg65
 z24:=Tryz.sizeOf65
 v24:=Tryz.zeroValue65 }
open Go.RowKit in
theorem Jr (s p:ByteArray) (w:World) (hs:s.size≤9223372036854775807) :
 Calls Pg 49 #[.string s,.string p] w λ e w'=>e = .returned (.tuple #[.string ⟨(Lib.trimSuffix s.data.toList p.data.toList).toArray⟩,.bool (Lib.hasSuffix s.data.toList p.data.toList)])∧w'=w:=Any.strings_CutSuffix H9 s p w hs
def qf:Go.Shelf.Ren:=⟨λ | 171=>101 | 243=>132 | 246=>159 | 283=>191 | 284=>192 | 285=>193 | 286=>194 | 129=>208 | 317=>207 | 318=>209 | 319=>210 | 320=>211 | 337=>244 | 338=>245 | n=>n,λ | 3=>3 | 9=>9 | 2=>2 | 4=>4 | 171=>246 | 0=>0 | 53=>191 | 37=>40 | 5=>5 | 173=>249 | 212=>281 | 51=>273 | 20=>20 | 213=>282 | 46=>197 | 232=>305 | 233=>306 | n=>n,λ | 17=>5 | 18=>6 | 19=>7 | n=>n⟩
theorem Fp:Go.Proofs.LaysM.n171 Pg qf:={
 mixed:=by kernel_rfl
 f129:=func208.trans (congrArg some (by kernel_rfl))
 f171:=func101.trans (congrArg some (by kernel_rfl))
 f243:=func132.trans (congrArg some (by kernel_rfl))
 f246:=func159.trans (congrArg some (by kernel_rfl))
 f283:=func191.trans (congrArg some (by kernel_rfl))
 f284:=func192.trans (congrArg some (by kernel_rfl))
 f285:=func193.trans (congrArg some (by kernel_rfl))
 f286:=func194.trans (congrArg some (by kernel_rfl))
 f317:=func207.trans (congrArg some (by kernel_rfl))
 f318:=func209.trans (congrArg some (by kernel_rfl))
 f319:=func210.trans (congrArg some (by kernel_rfl))
 f320:=func211.trans (congrArg some (by kernel_rfl))
 f337:=func244.trans (congrArg some (by kernel_rfl))
 f338:=func245.trans (congrArg some (by kernel_rfl))
 t0:=underlying0
 a0:=Tryz.isAgg0
 z0:=Tryz.sizeOf0
 v0:=Tryz.zeroValue0
 t2:=underlying2
 a2:=Tryz.isAgg2
 z2:=Tryz.sizeOf2
 v2:=Tryz.zeroValue2
 t3:=underlying3
 a3:=Tryz.isAgg3
 z3:=Tryz.sizeOf3
 v3:=Tryz.zeroValue3
 t4:=underlying4
 a4:=Tryz.isAgg4
 z4:=Tryz.sizeOf4
 v4:=Tryz.zeroValue4
 t5:=underlying5
 a5:=Tryz.isAgg5
 z5:=Tryz.sizeOf5
 v5:=Tryz.zeroValue5
 t9:=underlying9
 a9:=Tryz.isAgg9
 z9:=Tryz.sizeOf9
 v9:=Tryz.zeroValue9
 t20:=underlying20
 a20:=Tryz.isAgg20
 z20:=Tryz.sizeOf20
 v20:=Tryz.zeroValue20
 t37:=underlying40
 a37:=Tryz.isAgg40
 z37:=Tryz.sizeOf40
 v37:=Tryz.zeroValue40
 t46:=underlying197
 a46:=Tryz.isAgg197
 z46:=Tryz.sizeOf197
 v46:=Tryz.zeroValue197
 t51:=underlying273
 a51:=Tryz.isAgg273
 z51:=Tryz.sizeOf273
 v51:=Tryz.zeroValue273
 t53:=underlying191
 a53:=Tryz.isAgg191
 z53:=Tryz.sizeOf191
 v53:=Tryz.zeroValue191
 t171:=underlying246
 a171:=Tryz.isAgg246
 z171:=Tryz.sizeOf246
 v171:=Tryz.zeroValue246
 t173:=underlying249
 a173:=Tryz.isAgg249
 z173:=Tryz.sizeOf249
 v173:=Tryz.zeroValue249
 t212:=underlying281
 a212:=Tryz.isAgg281
 z212:=Tryz.sizeOf281
 v212:=Tryz.zeroValue281
 t213:=underlying282
 a213:=Tryz.isAgg282
 z213:=Tryz.sizeOf282
 t232:=underlying305
 a232:=Tryz.isAgg305
 z232:=Tryz.sizeOf305
 v232:=Tryz.zeroValue305
 t233:=underlying306
 a233:=Tryz.isAgg306
 z233:=Tryz.sizeOf306
 v233:=Tryz.zeroValue306
 g17:=by kernel_rfl
 g18:=by kernel_rfl
 g19:=by kernel_rfl
 i0:=by kernel_rfl
 i2:=by kernel_rfl
 i3:=by kernel_rfl
 i4:=by kernel_rfl
 i5:=by kernel_rfl
 i9:=by kernel_rfl
 i20:=by kernel_rfl
 i37:=by kernel_rfl
 i46:=by kernel_rfl
 i51:=by kernel_rfl
 i53:=by kernel_rfl
 i171:=by kernel_rfl
 i173:=by kernel_rfl
 i212:=by kernel_rfl
 i232:=by kernel_rfl
 i233:=by kernel_rfl
 m17:=by kernel_rfl
 m18:=by kernel_rfl
 m19:=by kernel_rfl }
open Go.RowKit Go.Sort Go.Lib in
theorem qg (n:Int) (h0 : -9223372036854775808≤n) (h1:n≤9223372036854775807) (w:World) (htab:Lib.TabIs Pg w "internal/strconv.uint64pow10" .u64 Lib.pow10Tab) :
 Calls Pg 101 #[.int .i64 n] w λ e w'=>e = .returned (.string ⟨(Lib.itoa n).toArray⟩)∧∃ k os,w'=grow (w.drewN k) os:=Any.strconv_Itoa Fp n h0 h1 w htab
def U5:Go.Shelf.Ren:=⟨λ | 172=>125 | 244=>152 | 245=>153 | 247=>183 | 279=>184 | 280=>185 | 281=>186 | 282=>187 | 287=>155 | 316=>205 | 171=>101 | 205=>206 | 321=>188 | 322=>189 | 243=>132 | 246=>159 | 283=>191 | 284=>192 | 285=>193 | 286=>194 | 129=>208 | 317=>207 | 318=>209 | 319=>210 | 320=>211 | 337=>244 | 338=>245 | n=>n,λ | 9=>9 | 3=>3 | 75=>162 | 76=>163 | 4=>4 | 5=>5 | 167=>239 | 37=>40 | 0=>0 | 85=>240 | 2=>2 | 168=>242 | 53=>191 | 175=>192 | 46=>197 | 210=>278 | 127=>195 | 145=>294 | 143=>292 | 21=>21 | 171=>246 | 173=>249 | 212=>281 | 51=>273 | 20=>20 | 213=>282 | 232=>305 | 233=>306 | 80=>165 | n=>n,λ | 15=>3 | 16=>4 | 17=>5 | 18=>6 | 19=>7 | n=>n⟩
theorem VV:Go.Proofs.LaysC.n172 Pg U5:={
 mixed:=by kernel_rfl
 f129:=func208.trans (congrArg some (by kernel_rfl))
 f171:=func101.trans (congrArg some (by kernel_rfl))
 f172:=func125.trans (congrArg some (by kernel_rfl))
 f205:=func206.trans (congrArg some (by kernel_rfl))
 f243:=func132.trans (congrArg some (by kernel_rfl))
 f244:=func152.trans (congrArg some (by kernel_rfl))
 f245:=func153.trans (congrArg some (by kernel_rfl))
 f246:=func159.trans (congrArg some (by kernel_rfl))
 f247:=func183.trans (congrArg some (by kernel_rfl))
 f279:=func184.trans (congrArg some (by kernel_rfl))
 f280:=func185.trans (congrArg some (by kernel_rfl))
 f281:=func186.trans (congrArg some (by kernel_rfl))
 f282:=func187.trans (congrArg some (by kernel_rfl))
 f283:=func191.trans (congrArg some (by kernel_rfl))
 f284:=func192.trans (congrArg some (by kernel_rfl))
 f285:=func193.trans (congrArg some (by kernel_rfl))
 f286:=func194.trans (congrArg some (by kernel_rfl))
 f287:=func155.trans (congrArg some (by kernel_rfl))
 f316:=func205.trans (congrArg some (by kernel_rfl))
 f317:=func207.trans (congrArg some (by kernel_rfl))
 f318:=func209.trans (congrArg some (by kernel_rfl))
 f319:=func210.trans (congrArg some (by kernel_rfl))
 f320:=func211.trans (congrArg some (by kernel_rfl))
 f321:=func188.trans (congrArg some (by kernel_rfl))
 f322:=func189.trans (congrArg some (by kernel_rfl))
 f337:=func244.trans (congrArg some (by kernel_rfl))
 f338:=func245.trans (congrArg some (by kernel_rfl))
 t0:=underlying0
 a0:=Tryz.isAgg0
 z0:=Tryz.sizeOf0
 v0:=Tryz.zeroValue0
 t2:=underlying2
 a2:=Tryz.isAgg2
 z2:=Tryz.sizeOf2
 v2:=Tryz.zeroValue2
 t3:=underlying3
 a3:=Tryz.isAgg3
 z3:=Tryz.sizeOf3
 v3:=Tryz.zeroValue3
 t4:=underlying4
 a4:=Tryz.isAgg4
 z4:=Tryz.sizeOf4
 v4:=Tryz.zeroValue4
 t5:=underlying5
 a5:=Tryz.isAgg5
 z5:=Tryz.sizeOf5
 v5:=Tryz.zeroValue5
 t9:=underlying9
 a9:=Tryz.isAgg9
 z9:=Tryz.sizeOf9
 v9:=Tryz.zeroValue9
 t20:=underlying20
 a20:=Tryz.isAgg20
 z20:=Tryz.sizeOf20
 v20:=Tryz.zeroValue20
 t21:=underlying21
 a21:=Tryz.isAgg21
 z21:=Tryz.sizeOf21
 v21:=Tryz.zeroValue21
 t37:=underlying40
 a37:=Tryz.isAgg40
 z37:=Tryz.sizeOf40
 v37:=Tryz.zeroValue40
 t46:=underlying197
 a46:=Tryz.isAgg197
 z46:=Tryz.sizeOf197
 v46:=Tryz.zeroValue197
 t51:=underlying273
 a51:=Tryz.isAgg273
 z51:=Tryz.sizeOf273
 v51:=Tryz.zeroValue273
 t53:=underlying191
 a53:=Tryz.isAgg191
 z53:=Tryz.sizeOf191
 v53:=Tryz.zeroValue191
 t75:=underlying162
 a75:=Tryz.isAgg162
 z75:=Tryz.sizeOf162
 v75:=Tryz.zeroValue162
 t76:=underlying163
 a76:=Tryz.isAgg163
 z76:=Tryz.sizeOf163
 v76:=Tryz.zeroValue163
 t85:=underlying240
 a85:=Tryz.isAgg240
 z85:=Tryz.sizeOf240
 v85:=Tryz.zeroValue240
 t127:=underlying195
 a127:=Tryz.isAgg195
 z127:=Tryz.sizeOf195
 v127:=Tryz.zeroValue195
 t143:=underlying292
 a143:=Tryz.isAgg292
 z143:=Tryz.sizeOf292
 v143:=Tryz.zeroValue292
 t145:=underlying294
 a145:=Tryz.isAgg294
 z145:=Tryz.sizeOf294
 v145:=Tryz.zeroValue294
 t167:=underlying239
 a167:=Tryz.isAgg239
 z167:=Tryz.sizeOf239
 v167:=Tryz.zeroValue239
 t168:=underlying242
 a168:=Tryz.isAgg242
 z168:=Tryz.sizeOf242
 v168:=Tryz.zeroValue242
 t171:=underlying246
 a171:=Tryz.isAgg246
 z171:=Tryz.sizeOf246
 v171:=Tryz.zeroValue246
 t173:=underlying249
 a173:=Tryz.isAgg249
 z173:=Tryz.sizeOf249
 v173:=Tryz.zeroValue249
 t175:=underlying192
 a175:=Tryz.isAgg192
 z175:=Tryz.sizeOf192
 v175:=Tryz.zeroValue192
 t210:=underlying278
 a210:=Tryz.isAgg278
 z210:=Tryz.sizeOf278
 v210:=Tryz.zeroValue278
 t212:=underlying281
 a212:=Tryz.isAgg281
 z212:=Tryz.sizeOf281
 v212:=Tryz.zeroValue281
 t213:=underlying282
 a213:=Tryz.isAgg282
 z213:=Tryz.sizeOf282
 t232:=underlying305
 a232:=Tryz.isAgg305
 z232:=Tryz.sizeOf305
 v232:=Tryz.zeroValue305
 t233:=underlying306
 a233:=Tryz.isAgg306
 z233:=Tryz.sizeOf306
 v233:=Tryz.zeroValue306
 g15:=by kernel_rfl
 g16:=by kernel_rfl
 g17:=by kernel_rfl
 g18:=by kernel_rfl
 g19:=by kernel_rfl
 t80:=underlying165
 a80:=Tryz.isAgg165
 z80:=Tryz.sizeOf165
 v80:=Tryz.zeroValue165
 i0:=by kernel_rfl
 i2:=by kernel_rfl
 i3:=by kernel_rfl
 i4:=by kernel_rfl
 i5:=by kernel_rfl
 i9:=by kernel_rfl
 i20:=by kernel_rfl
 i21:=by kernel_rfl
 i37:=by kernel_rfl
 i46:=by kernel_rfl
 i51:=by kernel_rfl
 i53:=by kernel_rfl
 i75:=by kernel_rfl
 i76:=by kernel_rfl
 i80:=by kernel_rfl
 i85:=by kernel_rfl
 i127:=by kernel_rfl
 i143:=by kernel_rfl
 i145:=by kernel_rfl
 i167:=by kernel_rfl
 i168:=by kernel_rfl
 i171:=by kernel_rfl
 i173:=by kernel_rfl
 i175:=by kernel_rfl
 i210:=by kernel_rfl
 i212:=by kernel_rfl
 i232:=by kernel_rfl
 i233:=by kernel_rfl
 m15:=by kernel_rfl
 m16:=by kernel_rfl
 m17:=by kernel_rfl
 m18:=by kernel_rfl
 m19:=by kernel_rfl
 c0:=by kernel_rfl
 c2:=by kernel_rfl
 c3:=by kernel_rfl
 c4:=by kernel_rfl
 c5:=by kernel_rfl
 c9:=by kernel_rfl
 c20:=by kernel_rfl
 c21:=by kernel_rfl
 c37:=by kernel_rfl
 c46:=by kernel_rfl
 c51:=by kernel_rfl
 c53:=by kernel_rfl
 c75:=by kernel_rfl
 c76:=by kernel_rfl
 c80:=by kernel_rfl
 c85:=by kernel_rfl
 c127:=by kernel_rfl
 c143:=by kernel_rfl
 c145:=by kernel_rfl
 c167:=by kernel_rfl
 c168:=by kernel_rfl
 c171:=by kernel_rfl
 c173:=by kernel_rfl
 c175:=by kernel_rfl
 c210:=by kernel_rfl
 c212:=by kernel_rfl
 c213:=by kernel_rfl
 c232:=by kernel_rfl
 c233:=by kernel_rfl }
open Go.RowKit in
theorem GK (s:ByteArray) (hmax:s.size≤9223372036854775806) (v:Int) (h:Lib.atoiAll s.data.toList = .ok v) (w:World) :
 Calls Pg 125 #[.string s] w λ e w'=>e = .returned (.tuple #[.int .i64 v,.nilIface])∧(w'=w∨∃ t,w'=Lib.bytesWorld w 5 t):=Any.strconv_Atoi_ok VV s hmax v h w
open Go.RowKit in
theorem UV (s:ByteArray) (hlim:s.size≤281474976710656) (h:Lib.atoiAll s.data.toList=Go.Lib.NumEnd.syntax) (ev:Value) (w:World) (hv:w.cell? ⟨3,0,none⟩=some ev) (hev:ev = .nilIface∨∃ te pe,ev = .iface te pe) :
 Calls Pg 125 #[.string s] w λ e w'=>∃ N,e = .returned (.tuple #[.int .i64 (0),.iface 242 (.pointer (some ⟨N,0,none⟩))])∧w.heap.size≤N∧w'.heap[N]?=some (.cells #[.string ⟨#[65,116,111,105]⟩,.string s,ev] 278 (0,0))∧Below w.heap.size w w':=Any.strconv_Atoi_syntax VV s hlim h ev w hv hev
open Go.RowKit in
theorem Kb (s:ByteArray) (hlim:s.size≤281474976710656) (h:Lib.atoiAll s.data.toList = .range) (ev:Value) (w:World) (hv:w.cell? ⟨4,0,none⟩=some ev) (hev:ev = .nilIface∨∃ te pe,ev = .iface te pe) :
 Calls Pg 125 #[.string s] w λ e w'=>∃ N,e = .returned (.tuple #[.int .i64 (Lib.atoiSat s.data.toList),.iface 242 (.pointer (some ⟨N,0,none⟩))])∧w.heap.size≤N∧w'.heap[N]?=some (.cells #[.string ⟨#[65,116,111,105]⟩,.string s,ev] 278 (0,0))∧Below w.heap.size w w':=Any.strconv_Atoi_range VV s hlim h ev w hv hev
def AB:Go.Shelf.Ren:=⟨λ | 221=>85 | 268=>121 | 138=>122 | 143=>123 | 195=>148 | 197=>149 | 218=>150 | 219=>151 | 260=>178 | 217=>179 | 225=>180 | 224=>181 | 267=>182 | 266=>203 | 314=>204 | n=>n,λ | 9=>9 | 3=>3 | 31=>94 | 4=>4 | 0=>0 | 105=>215 | 21=>21 | 5=>5 | 46=>197 | 119=>269 | 139=>272 | 138=>271 | 146=>274 | 51=>273 | n=>n,λ | 1=>0 | 3=>1 | 4=>2 | n=>n⟩
theorem Ic:Go.Proofs.Lays.n221 Pg AB:={
 mixed:=by kernel_rfl
 f138:=func122.trans (congrArg some (by kernel_rfl))
 f143:=func123.trans (congrArg some (by kernel_rfl))
 f195:=func148.trans (congrArg some (by kernel_rfl))
 f197:=func149.trans (congrArg some (by kernel_rfl))
 f217:=func179.trans (congrArg some (by kernel_rfl))
 f218:=func150.trans (congrArg some (by kernel_rfl))
 f219:=func151.trans (congrArg some (by kernel_rfl))
 f221:=func85.trans (congrArg some (by kernel_rfl))
 f224:=func181.trans (congrArg some (by kernel_rfl))
 f225:=func180.trans (congrArg some (by kernel_rfl))
 f260:=func178.trans (congrArg some (by kernel_rfl))
 f266:=func203.trans (congrArg some (by kernel_rfl))
 f267:=func182.trans (congrArg some (by kernel_rfl))
 f268:=func121.trans (congrArg some (by kernel_rfl))
 f314:=func204.trans (congrArg some (by kernel_rfl))
 t0:=underlying0
 a0:=Tryz.isAgg0
 z0:=Tryz.sizeOf0
 v0:=Tryz.zeroValue0
 t3:=underlying3
 a3:=Tryz.isAgg3
 z3:=Tryz.sizeOf3
 v3:=Tryz.zeroValue3
 t4:=underlying4
 a4:=Tryz.isAgg4
 z4:=Tryz.sizeOf4
 v4:=Tryz.zeroValue4
 t5:=underlying5
 a5:=Tryz.isAgg5
 z5:=Tryz.sizeOf5
 v5:=Tryz.zeroValue5
 t9:=underlying9
 a9:=Tryz.isAgg9
 z9:=Tryz.sizeOf9
 v9:=Tryz.zeroValue9
 t21:=underlying21
 a21:=Tryz.isAgg21
 z21:=Tryz.sizeOf21
 v21:=Tryz.zeroValue21
 t31:=underlying94
 a31:=Tryz.isAgg94
 z31:=Tryz.sizeOf94
 v31:=Tryz.zeroValue94
 t46:=underlying197
 a46:=Tryz.isAgg197
 z46:=Tryz.sizeOf197
 v46:=Tryz.zeroValue197
 t51:=underlying273
 a51:=Tryz.isAgg273
 z51:=Tryz.sizeOf273
 v51:=Tryz.zeroValue273
 t105:=underlying215
 a105:=Tryz.isAgg215
 z105:=Tryz.sizeOf215
 v105:=Tryz.zeroValue215
 t119:=underlying269
 a119:=Tryz.isAgg269
 z119:=Tryz.sizeOf269
 t138:=underlying271
 a138:=Tryz.isAgg271
 z138:=Tryz.sizeOf271
 v138:=Tryz.zeroValue271
 t139:=underlying272
 a139:=Tryz.isAgg272
 z139:=Tryz.sizeOf272
 v139:=Tryz.zeroValue272
 t146:=underlying274
 a146:=Tryz.isAgg274
 z146:=Tryz.sizeOf274
 v146:=Tryz.zeroValue274
 g1:=by kernel_rfl
 g3:=by kernel_rfl
 g4:=by kernel_rfl }
open Go.RowKit Go.Lib in
theorem JV (s sep:ByteArray) (sv:Nat) (n:Int) (N:Nat) (m:Int) (w:World) (hs:s.size < 4294967281) (hm:w.cell? ⟨0,0,none⟩=some (.int .i64 m)) (h1:1≤sep.size) (hsv:sv≤sep.size) (hn0:n≠0) (hn63:n≤9223372036854775807) (hN:(N:Int)=min (if n < 0 then (Lib.countB s sep:Int)+1 else n) ((s.size:Int)+1)) :
 Calls Pg 85 #[.string s,.string sep,.int .i64 sv,.int .i64 n] w λ e w'=>
  e = .returned (.slice (some ⟨w.heap.size,0,none⟩) (Lib.splitB sep sv (N - 1) s).length N)∧w'=w.alloc (.cells (Lib.cellsOf (Lib.splitB sep sv (N - 1) s) N) 9):=Any.strings_genSplit Ic (by kernel_rfl) s sep sv n N m w hs hm h1 hsv hn0 hn63 hN
def Az:Go.Shelf.Ren:=⟨λ | 146=>50 | 221=>85 | 268=>121 | 138=>122 | 143=>123 | 195=>148 | 197=>149 | 218=>150 | 219=>151 | 260=>178 | 217=>179 | 225=>180 | 224=>181 | 267=>182 | 266=>203 | 314=>204 | n=>n,λ | 9=>9 | 31=>94 | 3=>3 | 4=>4 | 0=>0 | 105=>215 | 21=>21 | 5=>5 | 46=>197 | 119=>269 | 139=>272 | 138=>271 | 146=>274 | 51=>273 | n=>n,λ | 1=>0 | 3=>1 | 4=>2 | n=>n⟩
theorem Ia:Go.Proofs.Lays.n146 Pg Az:={
 mixed:=by kernel_rfl
 f138:=func122.trans (congrArg some (by kernel_rfl))
 f143:=func123.trans (congrArg some (by kernel_rfl))
 f146:=func50.trans (congrArg some (by kernel_rfl))
 f195:=func148.trans (congrArg some (by kernel_rfl))
 f197:=func149.trans (congrArg some (by kernel_rfl))
 f217:=func179.trans (congrArg some (by kernel_rfl))
 f218:=func150.trans (congrArg some (by kernel_rfl))
 f219:=func151.trans (congrArg some (by kernel_rfl))
 f221:=func85.trans (congrArg some (by kernel_rfl))
 f224:=func181.trans (congrArg some (by kernel_rfl))
 f225:=func180.trans (congrArg some (by kernel_rfl))
 f260:=func178.trans (congrArg some (by kernel_rfl))
 f266:=func203.trans (congrArg some (by kernel_rfl))
 f267:=func182.trans (congrArg some (by kernel_rfl))
 f268:=func121.trans (congrArg some (by kernel_rfl))
 f314:=func204.trans (congrArg some (by kernel_rfl))
 t0:=underlying0
 a0:=Tryz.isAgg0
 z0:=Tryz.sizeOf0
 v0:=Tryz.zeroValue0
 t3:=underlying3
 a3:=Tryz.isAgg3
 z3:=Tryz.sizeOf3
 v3:=Tryz.zeroValue3
 t4:=underlying4
 a4:=Tryz.isAgg4
 z4:=Tryz.sizeOf4
 v4:=Tryz.zeroValue4
 t5:=underlying5
 a5:=Tryz.isAgg5
 z5:=Tryz.sizeOf5
 v5:=Tryz.zeroValue5
 t9:=underlying9
 a9:=Tryz.isAgg9
 z9:=Tryz.sizeOf9
 v9:=Tryz.zeroValue9
 t21:=underlying21
 a21:=Tryz.isAgg21
 z21:=Tryz.sizeOf21
 v21:=Tryz.zeroValue21
 t31:=underlying94
 a31:=Tryz.isAgg94
 z31:=Tryz.sizeOf94
 v31:=Tryz.zeroValue94
 t46:=underlying197
 a46:=Tryz.isAgg197
 z46:=Tryz.sizeOf197
 v46:=Tryz.zeroValue197
 t51:=underlying273
 a51:=Tryz.isAgg273
 z51:=Tryz.sizeOf273
 v51:=Tryz.zeroValue273
 t105:=underlying215
 a105:=Tryz.isAgg215
 z105:=Tryz.sizeOf215
 v105:=Tryz.zeroValue215
 t119:=underlying269
 a119:=Tryz.isAgg269
 z119:=Tryz.sizeOf269
 t138:=underlying271
 a138:=Tryz.isAgg271
 z138:=Tryz.sizeOf271
 v138:=Tryz.zeroValue271
 t139:=underlying272
 a139:=Tryz.isAgg272
 z139:=Tryz.sizeOf272
 v139:=Tryz.zeroValue272
 t146:=underlying274
 a146:=Tryz.isAgg274
 z146:=Tryz.sizeOf274
 v146:=Tryz.zeroValue274
 g1:=by kernel_rfl
 g3:=by kernel_rfl
 g4:=by kernel_rfl }
open Go.RowKit Go.Lib in
theorem xd (s sep:ByteArray) (m:Int) (w:World) (hs:s.size < 4294967281) (hm:w.cell? ⟨0,0,none⟩=some (.int .i64 m)) (h1:1≤sep.size) :
 Calls Pg 50 #[.string s,.string sep] w λ e w'=>
  e = .returned (.slice (some ⟨w.heap.size,0,none⟩) (Lib.countB s sep+1) (Lib.countB s sep+1))∧w'=w.alloc (.cells ((Lib.splitB sep 0 (Lib.countB s sep) s).map Value.string).toArray 9):=Any.strings_Split Ia (by kernel_rfl) s sep m w hs hm h1
def CG (n:Int):BAr:=⟨(Go.Lib.itoa n).toArray⟩
def UZ (sep:BAr) (xs:List BAr):BAr:=⟨(Go.Lib.join (xs.map (·.data.toList)) sep.data.toList).toArray⟩
theorem Jz {a b:BAr} (h:a.data.toList=b.data.toList):a=b:=by
 cases a;cases b
 congr
 exact Array.toList_inj.1 h
theorem LP (sep:BAr):UZ sep []=ByteArray.empty:=rfl
theorem size_append (a b:BAr):(a++b).size=a.size+b.size:=by simp [ByteArray.size_append]
theorem IG {B:Nat}:∀ {xs:List (List UInt8)},(∀ x∈xs,x.length≤B)→Go.Lib.lens xs≤xs.length*B
 | [],_=>by simp [Go.Lib.lens]
 | a::l,h=>by
  have h1:=h a (List.mem_cons_self ..)
  have h2:=IG (xs:=l) λ x hx=>h x (List.mem_cons_of_mem _ hx)
  unfold Go.Lib.lens at *
  rw [List.map_cons,List.sum_cons,List.length_cons,Nat.add_mul]
  omega
theorem F4 {sep:BAr} {B:Nat} {xs:List BAr} (h:∀ x∈xs,x.size≤B):(UZ sep xs).size≤xs.length*(B+sep.size):=by
 cases xs with
 | nil=>simp [LP]
 | cons a l=>
  have h1:(UZ sep (a::l)).size=(Go.Lib.join ((a::l).map (·.data.toList)) sep.data.toList).length:=by unfold UZ ByteArray.size;simp
  have h2:=IG (B:=B) (xs:=(a::l).map (·.data.toList)) λ x hx=>by
   obtain ⟨y,hy,rfl⟩:=List.mem_map.1 hx
   have:=h y hy
   unfold ByteArray.size at this
   simpa using this
  rw [List.map_cons] at h1 h2
  rw [h1,Go.Lib.join_length]
  rw [List.length_cons,List.length_map] at h2
  have h3:sep.data.toList.length=sep.size:=by unfold ByteArray.size;simp
  rw [h3,List.length_map,List.length_cons,Nat.mul_add,Nat.mul_comm sep.size,Nat.add_mul l.length 1 sep.size]
  omega
theorem zM {n:Int} (h0 : -9223372036854775808≤n) (h1:n≤9223372036854775807):(CG n).size≤21:=by
 have:=Go.Lib.itoa_length_le n h0 h1
 unfold CG ByteArray.size
 simpa using this
def Ug (w:Wd):Prop:=Go.Lib.TabIs Pg w "internal/strconv.uint64pow10" .u64 Go.Lib.pow10Tab
theorem Zcz:(Pg.globalNamed "internal/strconv.uint64pow10").isSome=true:=by kernel_rfl
theorem Ug.lt {w:Wd} (h:Ug w) {g:Nat} (hg:Pg.globalNamed "internal/strconv.uint64pow10" = some g):g < w.heap.size:=by
 unfold Ug Go.Lib.TabIs World.var? at h
 rw [hg] at h
 simp only [Option.bind_some] at h
 rcases Nat.lt_or_ge g w.heap.size with h' | h'
 · exact h'
 · rw [Array.getElem?_eq_none h'] at h;cases h
theorem Ug.same {w w':Wd} (h:Ug w) (hb:∀ g,Pg.globalNamed "internal/strconv.uint64pow10" = some g→w'.heap[g]?=w.heap[g]?):Ug w':=by
 obtain ⟨g,hg⟩:=Option.isSome_iff_exists.1 Zcz
 have:=hb g hg
 unfold Ug Go.Lib.TabIs World.var? at h ⊢
 rw [hg] at h ⊢
 simp only [Option.bind_some] at h ⊢
 rw [this]
 exact h
theorem Ug.ext {w w':Wd} (h:Ug w) (e:Ext w w'):Ug w':=h.same λ g hg=>e.block g (h.lt hg)
theorem Ns (w:Wd) (k:Nat) (os:Array Obj):Ext w (Sort.grow (w.drewN k) os):=⟨rfl,rfl,rfl,by show w.heap.size≤(w.heap++os).size;simp,λ i hi=>by show (w.heap++os)[i]?=_;rw [Array.getElem?_append_left hi]⟩
theorem Kf {w:Wd} (hT:Ug w) (n:Int) (h0 : -9223372036854775808≤n) (h1:n≤9223372036854775807):Ret Pg 101 #[.int .i64 n] w λ r w'=>r = .string (CG n)∧Ext w w':=by
 refine Calls.mono (qg n h0 h1 w hT) ?_
 rintro e w' ⟨rfl,k,os,rfl⟩
 exact ⟨_,rfl,rfl,Ns w k os⟩
theorem qB {w:Wd} {base:Nat} {v:Vl} {l:List BAr} (h:Ue w base v l) (sep:BAr) (hl:0 < l.length) (hn:l.length≤100000) (hz:(UZ sep l).size≤1000000000):Ret Pg 59 #[v,.string sep] w λ r w'=>r = .string (UZ sep l)∧Ext w w':=by
 obtain ⟨g,cap,rfl,_,hg,_,_,hE⟩:=h.row (λ _=>rfl) hl
 obtain ⟨A,c,hv,hlc,_⟩:=Zd.open (h.slice (E:=GQ) (λ _=>rfl) (λ _ _=>rfl))
 injection hv with _ _ hv
 subst hv
 have hzz:(Go.Lib.join (l.map (·.data.toList)) sep.data.toList).length≤140737488355328:=by
  unfold UZ ByteArray.size at hz
  simp only [List.size_toArray] at hz
  omega
 refine Calls.mono (qh g 0 cap l sep w (λ j x hx=>?_) hg (by omega) hlc hzz) ?_
 · have:=hE j x hx 0 _ rfl
   rw [Nat.zero_add]
   simpa using this
 · rintro e w' ⟨rfl,hb⟩
   exact ⟨_,rfl,rfl,Ext.of_below hb⟩
structure Uc (w:Wd):Prop where
 tab:Ug w
 len:∃ m,w.cell? ⟨0,0,none⟩=some (.int .i64 m)
 syn:∃ ev,w.cell? ⟨3,0,none⟩=some ev∧(ev = .nilIface∨∃ te pe,ev = .iface te pe)
 rng:∃ ev,w.cell? ⟨4,0,none⟩=some ev∧(ev = .nilIface∨∃ te pe,ev = .iface te pe)
theorem Uc.ext {w w':Wd} (h:Uc w) (e:Ext w w'):Uc w':=⟨h.tab.ext e,h.len.imp λ _ h=>e.cell h,h.syn.imp λ _ h=>⟨e.cell h.1,h.2⟩,h.rng.imp λ _ h=>⟨e.cell h.1,h.2⟩⟩
theorem SS {w:Wd} {b n c:Nat} {l:List BAr} (hn:n=l.length) (h1:l.length≤c) (h2:c≤9223372036854775807) (hc:∀ k x,l[k]?=some x→w.cell? ⟨b,k,none⟩=some (.string x)):Zd w 1 GQ (.slice (some ⟨b,0,none⟩) n c) l:=by
 subst hn
 refine ⟨_,_,rfl,h1,h2,λ _=>⟨_,_,rfl,λ k x hx=>⟨[.string x],rfl,λ j v hv=>?_,rfl⟩⟩⟩
 cases j with
 | zero=>injection hv with hv;subst hv;simpa using hc k x hx
 | succ j=>cases hv
theorem Ll {w:Wd} (hE:Uc w) (s:BAr) (c:UInt8) (hs:s.size≤100000):Ret Pg 50 #[.string s,.string ⟨#[c]⟩] w λ r w'=>Ext w w'∧∃ n,r = .slice (some ⟨w.heap.size,0,none⟩) n n∧Zd w' 1 GQ r (Go.Lib.splitB ⟨#[c]⟩ 0 (Go.Lib.countB s ⟨#[c]⟩) s):=by
 obtain ⟨m,hm⟩:=hE.len
 have hl:=Go.Lib.splitB_all ⟨#[c]⟩ (Nat.le_refl _) 0 _ s rfl
 have hle:=Go.Lib.countB_le ⟨#[c]⟩ (Nat.le_refl _) s.size s (Nat.le_refl _)
 refine Calls.mono (xd s ⟨#[c]⟩ m w (by omega) hm (Nat.le_refl _)) ?_
 rintro e w' ⟨rfl,rfl⟩
 refine ⟨_,rfl,(Ext.refl w).alloc _,_,rfl,?_⟩
 refine SS hl.symm (by omega) (by omega) λ k x hx=>?_
 generalize Go.Lib.splitB ⟨#[c]⟩ 0 (Go.Lib.countB s ⟨#[c]⟩) s=L at hx ⊢
 rw [Qp,List.getElem?_toArray,List.getElem?_map,hx]
 rfl
def Wn (c:UInt8):Bool:=decide (48≤c.toNat)&&decide (c.toNat≤57)
def AF (n:Nat) (c:UInt8):Nat:=n*10+(c.toNat - 48)
def MN (l:List UInt8):Nat:=l.foldl AF 0
theorem MO (l:List UInt8) (c:UInt8):MN (l++[c])=MN l*10+(c.toNat - 48):=by simp [MN,AF]
theorem Vg {c:UInt8}:Wn c=true↔48≤c.toNat∧c.toNat≤57:=by simp [Wn]
theorem M1 {l:List UInt8} {c:UInt8}:(l++[c]).all Wn=true↔l.all Wn=true∧Wn c=true:=by simp
theorem LL {l:List UInt8} (h:l≠[]) (c:UInt8):(l++[c]).head?=l.head?:=by
 cases l with
 | nil=>exact absurd rfl h
 | cons a l=>rfl
theorem Ul {u:Nat} (h:u < 10):(UInt8.ofNat (48+u)).toNat=48+u:=by
 rw [UInt8.toNat_ofNat']
 exact Nat.mod_eq_of_lt (by omega)
theorem qS (u:Nat):Go.Lib.decDigits u≠[]∧(Go.Lib.decDigits u).all Wn=true∧MN (Go.Lib.decDigits u)=u∧((Go.Lib.decDigits u).head?=some 48→u=0):=by
 induction u using Nat.strongRecOn with
 | ind u ih=>
  by_cases h:u < 10
  · rw [Go.Lib.decDigits_one h]
    refine ⟨by simp,?_,?_,λ e=>?_⟩
    · rw [List.all_cons,List.all_nil,Bool.and_true,Vg,Ul h];omega
    · show 0*10+((UInt8.ofNat (48+u)).toNat - 48)=u
      rw [Ul h];omega
    · injection e with e
      have:=Ul h
      rw [e] at this
      have h48:(48:UInt8).toNat=48:=rfl
      omega
  · obtain ⟨a1,a2,a3,a4⟩:=ih (u / 10) (by omega)
    rw [Go.Lib.decDigits,dif_neg h]
    have hm:u % 10 < 10:=Nat.mod_lt _ (by omega)
    refine ⟨by simp,M1.2 ⟨a2,?_⟩,?_,λ e=>?_⟩
    · rw [Vg,Ul hm];omega
    · rw [MO,a3,Ul hm];omega
    · rw [LL a1] at e
      have:=a4 e
      omega
theorem MG (l:List UInt8):(ByteArray.mk l.toArray).data.toList=l:=rfl
theorem jg {n:Int} (h:n < 0):Go.Lib.itoa n=45::Go.Lib.decDigits n.natAbs:=by unfold Go.Lib.itoa;rw [if_pos h]
theorem jh {n:Int} (h:¬ n < 0):Go.Lib.itoa n=Go.Lib.decDigits n.toNat:=by unfold Go.Lib.itoa;rw [if_neg h]
def Yv (c:UInt8):List UInt8→List (List UInt8)
 | []=>[[]]
 | b::l=>if b=c then []::Yv c l else match Yv c l with
  | []=>[[b]]
  | x::r=>(b::x)::r
theorem VL (c:UInt8):∀ l,Yv c l≠[]
 | []=>by simp [Yv]
 | b::l=>by
  unfold Yv
  split
  · simp
  · cases Yv c l<;>simp
theorem W7 (c:UInt8) (l:List UInt8):Yv c (c::l)=[]::Yv c l:=by rw [Yv,if_pos rfl]
theorem XY {c b:UInt8} (h:b≠c) {l x:List UInt8} {r:List (List UInt8)} (hl:Yv c l=x::r):Yv c (b::l)=(b::x)::r:=by rw [Yv,if_neg h,hl]
theorem Br {c:UInt8}:∀ {x:List UInt8},c ∉ x→Yv c x=[x]
 | [],_=>rfl
 | b::l,h=>by
  have h1:b≠c:=λ e=>h (by rw [e];exact List.mem_cons_self ..)
  exact XY h1 (Br λ e=>h (List.mem_cons_of_mem _ e))
theorem Bs {c:UInt8}:∀ {x:List UInt8} (l:List UInt8),c ∉ x→Yv c (x++c::l)=x::Yv c l
 | [],l,_=>W7 c l
 | b::x,l,h=>by
  have h1:b≠c:=λ e=>h (by rw [e];exact List.mem_cons_self ..)
  exact XY h1 (Bs (x:=x) l λ e=>h (List.mem_cons_of_mem _ e))
theorem Ej {b c:UInt8} (l:List UInt8) (h:b≠c):Go.Lib.index (b::l) [c]=if Go.Lib.index l [c] == -1 then -1 else Go.Lib.index l [c]+1:=by
 have hp:([c]:List UInt8).isPrefixOf (b::l)=false:=by simp [List.isPrefixOf,Ne.symm h]
 rw [Go.Lib.index,hp];simp
theorem Ei (c:UInt8) (l:List UInt8):Go.Lib.index (c::l) [c]=0:=by
 rw [Go.Lib.index];simp [List.isPrefixOf]
theorem AE (c:UInt8):∀ s:List UInt8,Go.Lib.splitK [c] 0 (Go.Lib.count s [c]) s=Yv c s
 | []=>by rw [Go.Lib.count_one];rfl
 | b::l=>by
  have ih:=AE c l
  by_cases h:b=c
  · subst h
    rw [Go.Lib.count_cons_eq,Nat.add_comm,Go.Lib.splitK,Ei,if_neg (by decide),W7,← ih]
    rfl
  · rw [Go.Lib.count_cons_ne b c l h]
    cases hk:Go.Lib.count l [c] with
    | zero=>
     rw [hk] at ih
     exact (XY h ih.symm).symm
    | succ k=>
     rw [hk] at ih
     have hge:=Go.Lib.index_ge l [c]
     have hm:Go.Lib.index l [c] ≠ -1:=λ e=>by rw [Go.Lib.count_miss e] at hk;cases hk
     obtain ⟨i,hi⟩:∃ i:Nat,Go.Lib.index l [c]=i:=⟨(Go.Lib.index l [c]).toNat,by omega⟩
     have n1:¬ (((i:Int) == -1)=true):=λ e=>by have:=beq_iff_eq.1 e;omega
     have n2:¬ ((((i:Int)+1) == -1)=true):=λ e=>by have:=beq_iff_eq.1 e;omega
     have t2:((i:Int)+1).toNat=i+1:=by omega
     rw [Go.Lib.splitK,hi,if_neg n1] at ih
     rw [Go.Lib.splitK,Ej l h,hi,if_neg n1,if_neg n2,t2]
     refine Eq.trans ?_ (XY h ih.symm).symm
     simp only [Int.toNat_natCast,List.length_singleton,Nat.add_zero,List.take_succ_cons]
     rfl
def mkB (l:List UInt8):BAr:=⟨l.toArray⟩
theorem ZbD (s:BAr):mkB s.data.toList=s:=rfl
def Zbj (c:UInt8) (s:BAr):List BAr:=(Yv c s.data.toList).map mkB
theorem MC (c:UInt8) (s:BAr):Go.Lib.splitB ⟨#[c]⟩ 0 (Go.Lib.countB s ⟨#[c]⟩) s=Zbj c s:=by
 have h:=Go.Lib.splitB_data ⟨#[c]⟩ 0 (Go.Lib.countB s ⟨#[c]⟩) s
 have hs:Go.Lib.splitK [c] 0 (Go.Lib.countB s ⟨#[c]⟩) s.data.toList=Yv c s.data.toList:=AE c s.data.toList
 have h:(Go.Lib.splitB ⟨#[c]⟩ 0 (Go.Lib.countB s ⟨#[c]⟩) s).map (·.data.toList)=Yv c s.data.toList:=h.trans hs
 unfold Zbj
 rw [← h,List.map_map]
 have:(mkB ∘ λ x:BAr=>x.data.toList)=id:=by funext x;rfl
 rw [this,List.map_id]
theorem Ek (c:UInt8) (x y:List UInt8) (r:List (List UInt8)):Go.Lib.join (x::y::r) [c]=x++c::Go.Lib.join (y::r) [c]:=by
 rw [Go.Lib.join_cons,Go.Lib.join_cons]
 unfold Go.Lib.joinTail
 simp
theorem Bt (c:UInt8):∀ {xs:List (List UInt8)},xs≠[]→(∀ x∈xs,c ∉ x)→Yv c (Go.Lib.join xs [c])=xs
 | [],h,_=>absurd rfl h
 | [x],_,h=>by rw [Go.Lib.join_one];exact Br (h x (List.mem_cons_self ..))
 | x::y::r,_,h=>by
  rw [Ek,Bs _ (h x (List.mem_cons_self ..)),Bt c (by simp) λ z hz=>h z (List.mem_cons_of_mem _ hz)]
theorem D4:∀ (l:List UInt8) (a:Nat),a≤l.foldl AF a
 | [],a=>Nat.le_refl _
 | c::l,a=>by
  have:=D4 l (AF a c)
  rw [List.foldl_cons]
  unfold AF at this ⊢
  omega
def Zbb (o:Go.Lib.NumEnd Nat) (n:Nat):Prop:=(o = .ok n)∨(o = .range∧18446744073709551616≤n)
theorem yY:∀ (l:List UInt8) (a:Nat),l.all Wn=true→Zbb (Go.Lib.parseUint10 a l) (l.foldl AF a)
 | [],a,_ => .inl rfl
 | c::r,a,h=>by
  rw [List.all_cons,Bool.and_eq_true] at h
  have h2:=Vg.1 h.1
  have hle:=D4 r (a*10+(c.toNat - 48))
  simp only [Go.Lib.parseUint10]
  rw [if_pos h2,List.foldl_cons,show AF a c=a*10+(c.toNat - 48) from rfl]
  by_cases h3:1844674407370955162≤a
  · rw [if_pos h3]
    exact .inr ⟨rfl,by omega⟩
  · rw [if_neg h3]
    by_cases h4:18446744073709551616≤a*10+(c.toNat - 48)
    · rw [if_pos h4]
      exact .inr ⟨rfl,by omega⟩
    · rw [if_neg h4]
      exact yY r _ h.2
def VG (n:Nat):UInt8:=UInt8.ofNat (if n < 10 then 48+n else 87+n)
def zO (l:List UInt8):List UInt8:=l.flatMap λ c=>[VG (c.toNat / 16),VG (c.toNat % 16)]
def NA (c:UInt8):Bool:=(decide (48≤c.toNat)&&decide (c.toNat≤57))||(decide (97≤c.toNat)&&decide (c.toNat≤102))
theorem Ef (l:List UInt8):(zO l).length=2*l.length:=by
 induction l with
 | nil=>rfl
 | cons a l ih=>
  show (zO (a::l)).length=_
  unfold zO at ih ⊢
  rw [List.flatMap_cons,List.length_append,ih,List.length_cons,List.length_cons,List.length_cons,List.length_nil]
  omega
theorem Lo {n:Int} (h0 : -9223372036854775808≤n) (h1:n≤9223372036854775807):Go.Lib.atoiAll (Go.Lib.itoa n) = .ok n:=by
 by_cases hn:n < 0
 · obtain ⟨a1,a2,a3,_⟩:=qS n.natAbs
   have hp:=yY (Go.Lib.decDigits n.natAbs) 0 a2
   change Zbb _ (MN (Go.Lib.decDigits n.natAbs)) at hp
   rw [a3] at hp
   rw [jg hn,Go.Lib.atoiAll_minus]
   rcases hp with hp | ⟨_,hb⟩
   · unfold Go.Lib.parseMag Go.Lib.signed
     rw [if_neg a1,hp]
     simp only
     rw [if_neg (by omega)]
     congr 1
     omega
   · omega
 · obtain ⟨a1,a2,a3,_⟩:=qS n.toNat
   have hp:=yY (Go.Lib.decDigits n.toNat) 0 a2
   change Zbb _ (MN (Go.Lib.decDigits n.toNat)) at hp
   rw [a3] at hp
   rw [jh hn]
   cases hd:Go.Lib.decDigits n.toNat with
   | nil=>exact absurd hd a1
   | cons c r=>
    rw [hd] at hp a2
    have hc:=List.all_eq_true.1 a2 c (List.mem_cons_self ..)
    rw [Vg] at hc
    rw [Go.Lib.atoiAll_plain c r (by omega) (by omega)]
    rcases hp with hp | ⟨_,hb⟩
    · unfold Go.Lib.parseMag Go.Lib.signless
      rw [if_neg (by simp),hp]
      simp only
      rw [if_neg (by omega)]
      congr 1
      omega
    · omega
def Zbm:BAr:=⟨#[101,110,100]⟩
def kwW (k:Int):List UInt8:=if k=1 then [99,111,112,121] else if k=2 then [97,100,100] else if k=3 then [118,97,108,117,101] else if k=4 then [98,121,116,101,115] else if k=6 then [110,101,115,116,101,100] else if k=7 then [102,105,116] else [116,97,98,108,101]
def QS (l:List UInt8):List UInt8:=if l=[] then [45] else zO l
def Vz (x:Qm):List UInt8:=Go.Lib.itoa x.low++45::(Go.Lib.itoa x.high++58::Go.Lib.itoa x.to)
def VD (r:FrD):List (List UInt8):=if r.kind=1 then [r.fr.data.toList] else if r.kind=2 then [r.fr.data.toList,Go.Lib.itoa r.add] else if r.kind=3 then [Go.Lib.itoa r.value] else if r.kind=4 then [QS r.bytes] else if r.kind=6 then [r.fr.data.toList] else if r.kind=7 then [] else r.fr.data.toList::r.table.map Vz
def Xc (r:FrD):List (List UInt8):=r.to.data.toList::kwW r.kind::VD r
def Xu (r:FrD):List UInt8:=Go.Lib.join (Xc r) [32]
def YF (r:FrD):Bool:=match XK r.kind with
 | none=>false
 | some u=>V3 r u&&(Yj r.to&&(decide (r.to≠Zbm)&&(!u.fr||Yj r.fr)))
theorem SV {s:BAr} (h:Yj s=true):∀ c∈s.data.toList,AQ c=true:=by
 unfold Yj at h
 simp only [Bool.and_eq_true] at h
 exact λ c hc=>List.all_eq_true.1 h.2 c hc
theorem BV {s:BAr} (h:Yj s=true) {c:UInt8} (hc:AQ c=false):c ∉ s.data.toList:=λ hm=>by
 have:=SV h c hm
 rw [hc] at this
 cases this
theorem DW (n:Nat) {c:UInt8} (hc:Wn c=false):c ∉ Go.Lib.decDigits n:=λ hm=>by
 have:=List.all_eq_true.1 (qS n).2.1 c hm
 rw [hc] at this
 cases this
theorem Uo (n:Int) {c:UInt8} (hc:Wn c=false) (h45:c≠45):c ∉ Go.Lib.itoa n:=by
 by_cases hn:n < 0
 · rw [jg hn]
   intro hm
   rcases List.mem_cons.1 hm with h | h
   · exact h45 h
   · exact DW _ hc h
 · rw [jh hn]
   exact DW _ hc
theorem Ed (n:Nat) (h:n < 16):NA (VG n)=true:=by
 have:∀ n:Fin 16,NA (VG n.1)=true:=by decide
 exact this ⟨n,h⟩
theorem Ee:∀ l:List UInt8,(zO l).all NA=true
 | []=>rfl
 | a::l=>by
  have ih:=Ee l
  unfold zO at ih ⊢
  rw [List.flatMap_cons,List.all_append,ih,Bool.and_true]
  have h1:a.toNat < 256:=a.toNat_lt
  rw [List.all_cons,List.all_cons,List.all_nil,Bool.and_true,Ed _ (by omega),Ed _ (by omega)]
  rfl
theorem DY (l:List UInt8) {c:UInt8} (hc:NA c=false) (h45:c≠45):c ∉ QS l:=by
 unfold QS
 split
 · intro h
   exact h45 (List.mem_singleton.1 h)
 · intro hm
   have:=List.all_eq_true.1 (Ee l) c hm
   rw [hc] at this
   cases this
theorem P3 (x:Qm) {c:UInt8} (hc:Wn c=false) (h45:c≠45) (h58:c≠58):c ∉ Vz x:=by
 unfold Vz
 intro h
 rcases List.mem_append.1 h with h | h
 · exact Uo _ hc h45 h
 rcases List.mem_cons.1 h with h | h
 · exact h45 h
 rcases List.mem_append.1 h with h | h
 · exact Uo _ hc h45 h
 rcases List.mem_cons.1 h with h | h
 · exact h58 h
 · exact Uo _ hc h45 h
theorem Si (k:Int):(32:UInt8) ∉ kwW k∧(10:UInt8) ∉ kwW k:=by
 unfold kwW
 repeat' split
 all_goals decide
theorem Iq {r:FrD} (h:YF r=true) {c:UInt8} (h1:AQ c=false) (h2:Wn c=false) (h3:NA c=false) (h45:c≠45) (h58:c≠58) (hk:c ∉ kwW r.kind):∀ x∈Xc r,c ∉ x:=by
 unfold YF at h
 cases hu:XK r.kind with
 | none=>rw [hu] at h;cases h
 | some u=>
  rw [hu] at h
  simp only [Bool.and_eq_true,decide_eq_true_eq,Bool.or_eq_true,Bool.not_eq_true'] at h
  obtain ⟨_,hto,_,hfr⟩:=h
  have hf:u.fr=true→c ∉ r.fr.data.toList:=λ hu=>by
   rcases hfr with hfr | hfr
   · rw [hu] at hfr;cases hfr
   · exact BV hfr h1
  intro x hx
  unfold Xc at hx
  rcases List.mem_cons.1 hx with rfl | hx
  · exact BV hto h1
  rcases List.mem_cons.1 hx with rfl | hx
  · exact hk
  unfold VD at hx
  unfold XK at hu
  split at hx
  · rename_i k1
    rw [if_pos k1] at hu
    injection hu with hu
    rw [List.mem_singleton.1 hx]
    exact hf (by rw [← hu])
  rename_i k1
  rw [if_neg k1] at hu
  split at hx
  · rename_i k2
    rw [if_pos k2] at hu
    injection hu with hu
    rcases List.mem_cons.1 hx with rfl | hx
    · exact hf (by rw [← hu])
    · rw [List.mem_singleton.1 hx];exact Uo _ h2 h45
  rename_i k2
  rw [if_neg k2] at hu
  split at hx
  · rw [List.mem_singleton.1 hx];exact Uo _ h2 h45
  rename_i k3
  rw [if_neg k3] at hu
  split at hx
  · rw [List.mem_singleton.1 hx];exact DY _ h3 h45
  rename_i k4
  rw [if_neg k4] at hu
  have h5:r.kind=5∨r.kind=6→u.fr=true:=λ h=>by
   rcases h with h | h
   · rw [if_pos h] at hu
     injection hu with hu
     rw [← hu]
   · rw [if_neg (by omega),if_pos h] at hu
     injection hu with hu
     rw [← hu]
  split at hx
  · rename_i k6
    rw [List.mem_singleton.1 hx]
    exact hf (h5 (.inr k6))
  rename_i k6
  split at hx
  · cases hx
  rename_i k7
  have k5:r.kind=5:=by
   by_cases h:r.kind=5
   · exact h
   · rw [if_neg h,if_neg k6,if_neg k7] at hu
     cases hu
  rcases List.mem_cons.1 hx with rfl | hx
  · exact hf (h5 (.inl k5))
  · obtain ⟨y,_,rfl⟩:=List.mem_map.1 hx
    exact P3 y h2 h45 h58
theorem Ry {r:FrD} (h:YF r=true):∀ x∈Xc r,(32:UInt8) ∉ x:=Iq h (by decide) (by decide) (by decide) (by decide) (by decide) (Si _).1
theorem jo {r:FrD} (h:YF r=true):Yv 32 (Xu r)=Xc r:=Bt 32 (by unfold Xc;simp) (Ry h)
def X6 (n:Int):Bool:=decide (-9223372036854775808≤n)&&decide (n≤9223372036854775807)
def WW (x:Qm):Bool:=X6 x.low&&(X6 x.high&&X6 x.to)
def inF (r:FrD):Bool:=X6 r.add&&(X6 r.value&&r.table.all WW)
def okF (r:FrD):Bool:=YF r&&inF r
def Z8 (s:List UInt8):List UInt8:=match s with
 | 45::r=>45::r.takeWhile Wn
 | s=>s.takeWhile Wn
def qF (l:List UInt8):Prop:=l=[]∨∃ c r,l=c::r∧Wn c=false
theorem Fw {d rest:List UInt8} (h:d.all Wn=true) (hr:qF rest):(d++rest).takeWhile Wn=d:=by
 induction d with
 | nil=>
  rcases hr with rfl | ⟨c,r,rfl,hc⟩
  · rfl
  · rw [List.nil_append,List.takeWhile_cons,hc]
    rfl
 | cons a d ih=>
  rw [List.all_cons,Bool.and_eq_true] at h
  rw [List.cons_append,List.takeWhile_cons,h.1,if_pos rfl,ih h.2]
theorem Uy (n:Int) {rest:List UInt8} (hr:qF rest):Z8 (Go.Lib.itoa n++rest)=Go.Lib.itoa n:=by
 by_cases hn:n < 0
 · rw [jg hn]
   show 45::(Go.Lib.decDigits n.natAbs++rest).takeWhile Wn=_
   rw [Fw (qS _).2.1 hr]
 · rw [jh hn]
   obtain ⟨a1,a2,_⟩:=qS n.toNat
   cases hd:Go.Lib.decDigits n.toNat with
   | nil=>exact absurd hd a1
   | cons c r=>
    rw [hd] at a2
    have hc:=List.all_eq_true.1 a2 c (List.mem_cons_self ..)
    rw [Vg] at hc
    have YW:c≠45:=λ e=>by rw [e] at hc;exact absurd hc.1 (by decide)
    have:Z8 (c::r++rest)=(c::r++rest).takeWhile Wn:=by
     unfold Z8
     split
     · rename_i heq
       injection heq with h1 _
       exact absurd h1 YW
     · rfl
    rw [this,Fw a2 hr]
def Ui (l:List UInt8):Option Int:=match Go.Lib.atoiAll l with
 | .ok n=>some n
 | _=>none
theorem Vc {n:Int} (h:X6 n=true):Ui (Go.Lib.itoa n)=some n:=by
 unfold X6 at h
 simp only [Bool.and_eq_true,decide_eq_true_eq] at h
 unfold Ui
 rw [Lo h.1 h.2]
def A5 (s:List UInt8):Option (Int×List UInt8):=(Ui (Z8 s)).map λ n=>(n,s.drop (Z8 s).length)
theorem JB {n:Int} (h:X6 n=true) {rest:List UInt8} (hr:qF rest):A5 (Go.Lib.itoa n++rest)=some (n,rest):=by
 unfold A5
 rw [Uy n hr,Vc h,Option.map_some,List.drop_left]
def ZbX (s:List UInt8):Option Qm:=match A5 s with
 | some (low,45::s2)=>match A5 s2 with
  | some (high,58::s3)=>match A5 s3 with
   | some (to,[])=>some ⟨low,high,to⟩
   | _=>none
  | _=>none
 | _=>none
theorem SI {x:Qm} (h:WW x=true):ZbX (Vz x)=some x:=by
 unfold WW at h
 simp only [Bool.and_eq_true] at h
 unfold ZbX Vz
 rw [JB h.1 (.inr ⟨45,_,rfl,by decide⟩)]
 simp only
 rw [JB h.2.1 (.inr ⟨58,_,rfl,by decide⟩)]
 simp only
 have:=JB h.2.2 (rest:=[]) (.inl rfl)
 rw [List.append_nil] at this
 rw [this]
def Vi (c:UInt8):Option Nat:=if 48≤c.toNat∧c.toNat≤57 then some (c.toNat - 48) else if 97≤c.toNat∧c.toNat≤102 then some (c.toNat - 87) else if 65≤c.toNat∧c.toNat≤70 then some (c.toNat - 55) else none
def Xx:List UInt8→Option (List UInt8)
 | []=>some []
 | [a]=>(Vi a).map λ x=>[UInt8.ofNat x]
 | a::b::l=>match Vi a,Vi b,Xx l with
  | some x,some y,some r=>some (UInt8.ofNat (16*x+y)::r)
  | _,_,_=>none
def Qy (s:List UInt8):List UInt8:=(Xx s).getD []
theorem BB {n:Nat} (h:n < 16):Vi (VG n)=some n:=by
 have:∀ n:Fin 16,Vi (VG n.1)=some n.1:=by decide
 exact this ⟨n,h⟩
theorem AM:∀ l:List UInt8,Xx (zO l)=some l
 | []=>rfl
 | a::l=>by
  have h1:a.toNat < 256:=a.toNat_lt
  show Xx (VG (a.toNat / 16)::VG (a.toNat % 16)::zO l)=_
  rw [Xx,BB (by omega),BB (by omega),AM l]
  simp only
  rw [show 16*(a.toNat / 16)+a.toNat % 16=a.toNat by omega,UInt8.ofNat_toNat]
theorem Gd (l:List UInt8):Qy (QS l)=l:=by
 unfold Qy QS
 by_cases h:l=[]
 · rw [if_pos h,h]
   rfl
 · rw [if_neg h,AM]
   rfl
def Fe:List (List UInt8)→Option (List Qm)
 | []=>some []
 | w::l=>match ZbX w,Fe l with
  | some x,some r=>some (x::r)
  | _,_=>none
theorem Ff:∀ {l:List Qm},l.all WW=true→Fe (l.map Vz)=some l
 | [],_=>rfl
 | x::l,h=>by
  rw [List.all_cons,Bool.and_eq_true] at h
  rw [List.map_cons,Fe,SI h.1,Ff h.2]
def Ze7:List (List UInt8)→Option FrD
 | t::k::rest=>
  let a:=rest[0]?.getD []
  if k=kwW 1 then some ⟨mkB t,1,mkB a,0,0,[],[]⟩
  else if k=kwW 2 then (A5 (rest[1]?.getD [])).map λ q=>⟨mkB t,2,mkB a,q.1,0,[],[]⟩
  else if k=kwW 3 then (A5 a).map λ q=>⟨mkB t,3,⟨#[]⟩,0,q.1,[],[]⟩
  else if k=kwW 4 then some ⟨mkB t,4,⟨#[]⟩,0,0,Qy a,[]⟩
  else if k=kwW 5 then (Fe rest.tail).map λ l=>⟨mkB t,5,mkB a,0,0,[],l⟩
  else if k=kwW 6 then some ⟨mkB t,6,mkB a,0,0,[],[]⟩
  else if k=kwW 7 then some ⟨mkB t,7,⟨#[]⟩,0,0,[],[]⟩
  else none
 | _=>none
theorem DU {r:FrD} {u:AX} (h:V3 r u=true):(u.fr=false→r.fr=⟨#[]⟩)∧(u.add=false→r.add=0)∧(u.value=false→r.value=0)∧(u.bytes=false→r.bytes=[])∧(u.table=false→r.table=[]):=by
 unfold V3 at h
 simp only [Bool.and_eq_true,Bool.or_eq_true,decide_eq_true_eq,List.length_eq_zero_iff] at h
 obtain ⟨h1,h2,h3,h4,h5⟩:=h
 exact ⟨λ e=>h1.resolve_left (by rw [e];decide),λ e=>h2.resolve_left (by rw [e];decide),λ e=>h3.resolve_left (by rw [e];decide),λ e=>h4.resolve_left (by rw [e];decide),λ e=>h5.resolve_left (by rw [e];decide)⟩
theorem Fc {r:FrD} (h:okF r=true):Ze7 (Xc r)=some r:=by
 unfold okF at h
 rw [Bool.and_eq_true] at h
 obtain ⟨h,hi⟩:=h
 unfold inF at hi
 simp only [Bool.and_eq_true] at hi
 obtain ⟨i1,i2,i3⟩:=hi
 obtain ⟨to,kind,fr,add,value,bytes,table⟩:=r
 unfold YF at h
 simp only at i1 i2 i3 h
 have hint:∀ n,X6 n=true→A5 (Go.Lib.itoa n)=some (n,[]):=λ n hn=>by
  have:=JB hn (rest:=[]) (.inl rfl)
  rwa [List.append_nil] at this
 cases hu:XK kind with
 | none=>rw [hu] at h;cases h
 | some u=>
  rw [hu] at h
  simp only [Bool.and_eq_true] at h
  obtain ⟨c1,c2,c3,c4,c5⟩:=DU h.1
  simp only at c1 c2 c3 c4 c5
  unfold XK at hu
  unfold Xc VD
  simp only
  by_cases k1:kind=1
  · subst k1
    rw [if_pos rfl] at hu
    injection hu with hu
    subst hu
    rw [c2 rfl,c3 rfl,c4 rfl,c5 rfl]
    rfl
  by_cases k2:kind=2
  · subst k2
    rw [if_neg (by decide),if_pos rfl] at hu
    injection hu with hu
    subst hu
    rw [c3 rfl,c4 rfl,c5 rfl,if_neg (by decide),if_pos rfl]
    show (A5 (Go.Lib.itoa add)).map _=_
    rw [hint _ i1]
    rfl
  by_cases k3:kind=3
  · subst k3
    rw [if_neg (by decide),if_neg (by decide),if_pos rfl] at hu
    injection hu with hu
    subst hu
    rw [c1 rfl,c2 rfl,c4 rfl,c5 rfl,if_neg (by decide),if_neg (by decide),if_pos rfl]
    show (A5 (Go.Lib.itoa value)).map _=_
    rw [hint _ i2]
    rfl
  by_cases k4:kind=4
  · subst k4
    rw [if_neg (by decide),if_neg (by decide),if_neg (by decide),if_pos rfl] at hu
    injection hu with hu
    subst hu
    rw [c1 rfl,c2 rfl,c3 rfl,c5 rfl,if_neg (by decide),if_neg (by decide),if_neg (by decide),if_pos rfl]
    show some (FrD.mk (mkB to.data.toList) 4 ⟨#[]⟩ 0 0 (Qy (QS bytes)) [])=_
    rw [Gd]
    rfl
  by_cases k5:kind=5
  · subst k5
    rw [if_neg (by decide),if_neg (by decide),if_neg (by decide),if_neg (by decide),if_pos rfl] at hu
    injection hu with hu
    subst hu
    rw [c2 rfl,c3 rfl,c4 rfl,if_neg (by decide),if_neg (by decide),if_neg (by decide),if_neg (by decide),if_neg (by decide),if_neg (by decide)]
    show (Fe (table.map Vz)).map _=_
    rw [Ff i3]
    rfl
  by_cases k6:kind=6
  · subst k6
    rw [if_neg (by decide),if_neg (by decide),if_neg (by decide),if_neg (by decide),if_neg (by decide),if_pos rfl] at hu
    injection hu with hu
    subst hu
    rw [c2 rfl,c3 rfl,c4 rfl,c5 rfl]
    rfl
  by_cases k7:kind=7
  · subst k7
    rw [if_neg (by decide),if_neg (by decide),if_neg (by decide),if_neg (by decide),if_neg (by decide),if_neg (by decide),if_pos rfl] at hu
    injection hu with hu
    subst hu
    rw [c1 rfl,c2 rfl,c3 rfl,c4 rfl,c5 rfl]
    rfl
  · rw [if_neg k1,if_neg k2,if_neg k3,if_neg k4,if_neg k5,if_neg k6,if_neg k7] at hu
    cases hu
theorem NJ {r s:FrD} (hr:okF r=true) (hs:okF s=true) (h:Xu r=Xu s):r=s:=by
 have pr:YF r=true:=by unfold okF at hr;rw [Bool.and_eq_true] at hr;exact hr.1
 have ps:YF s=true:=by unfold okF at hs;rw [Bool.and_eq_true] at hs;exact hs.1
 have hw:Xc r=Xc s:=by rw [← jo pr,← jo ps,h]
 have h1:=Fc hr
 rw [hw,Fc hs] at h1
 injection h1 with h1
 exact h1.symm
noncomputable def Qt (s:List UInt8):Option FrD:=open Classical in if h:∃ r,okF r=true∧Xu r=s then some (Classical.choose h) else none
theorem Gn {s:List UInt8} {r:FrD}:Qt s=some r↔okF r=true∧Xu r=s:=by
 unfold Qt
 constructor
 · intro h
   split at h
   · rename_i he
     injection h with h
     rw [← h]
     exact Classical.choose_spec he
   · cases h
 · intro h
   have he:∃ r,okF r=true∧Xu r=s:=⟨r,h⟩
   rw [dif_pos he]
   congr 1
   have:=Classical.choose_spec he
   exact NJ this.1 h.1 (this.2.trans h.2.symm)
theorem jn {s:List UInt8}:Qt s=none↔∀ r,okF r=true→Xu r≠s:=by
 constructor
 · intro h r hr hl
   rw [Gn.2 ⟨hr,hl⟩] at h
   cases h
 · intro h
   cases ho:Qt s with
   | none=>rfl
   | some r=>
    obtain ⟨h1,h2⟩:=Gn.1 ho
    exact absurd h2 (h r h1)
def Rn (s:List UInt8):Option FrD→Option FrD
 | none=>none
 | some x=>if okF x=true∧Xu x=s then some x else none
theorem F9 {s:List UInt8} {o:Option FrD} (h:∀ r,okF r=true→Xu r=s→o=some r):Qt s=Rn s o:=by
 cases o with
 | none=>
  refine jn.2 λ r hr hl=>?_
  have:=h r hr hl
  cases this
 | some x=>
  show Qt s=if okF x=true∧Xu x=s then some x else none
  by_cases hx:okF x=true∧Xu x=s
  · rw [if_pos hx]
    exact Gn.2 hx
  · rw [if_neg hx]
    refine jn.2 λ r hr hl=>?_
    have:=h r hr hl
    injection this with this
    subst this
    exact hx ⟨hr,hl⟩
def n25 (b:Vl) (R:RT) (w:Wd):Prop:=
 opV Pg (Zh .geq 3 true b (.int .i64 0)) (Zb R) w λ c w=>
 Zq (λ (a:Vl) (w:Wd)=>
 ZD c a (.bool false) λ e=>
 R (.returned e) w) λ d=>
 Zp c true (
 opV Pg (Zh .lss 3 true b (.int .i64 34359738368)) (Zb R) w λ a w=>
 d a w) (
 d undef w)
theorem ZgR {t0:Vl} {R:RT} {w:Wd} (h:n25 t0 R w):Calls Pg 42 #[t0] w R:=by
 refine yD func42 ?_
 refine zs<|zr<|zm<|zn<|zk<|zs<|Zr<|yG 3<|zm<|yb h λ _ w h=>zm<|zn<|yg1 2 2 true [6,7] 7 h (λ _ T hT h=>?_) λ σ w h=>?_
 · refine zm<|yb h λ _ w h=>zn ?_
   exact zt hT h
 exact yG 2<|yp h λ _ h=>zm<|zn<|ZK<|zk<|Zi<|Zk rfl rfl h
def N0 (b c a:Vl) (ZA:KV) (R:RT) (w:Wd):Prop:=
 opV Pg (indexAt 41 b a) (Zb R) w λ d w=>
 opV Pg (loadAt 78 d) (Zb R) w λ e w=>
 XO Pg c #[e] (Zb R) w λ f w=>
 Zu f (
 R (.returned a) w) (
 opV Pg (Zh .add 3 true a (.int .i64 1)) (Zb R) w λ g w=>
 ZA g w)
def Zd0 (a c:Vl) (R:RT) (w:Wd):Prop:=
 opV Pg (Builtin.len_ #[41] 3 #[a]) (Zb R) w λ d w=>
 Xd (λ b w ZA=>
 opV Pg (Zh .lss 3 false b d) (Zb R) w λ e w=>
 Zu e (
 N0 a c b ZA R w) (
 R (.returned (.int .i64 (-1))) w)) (.int .i64 0) w
theorem Zd1 {t0 t1:Vl} {R:RT} {w:Wd} (h:Zd0 t0 t1 R w):Calls Pg 43 #[t0,t1] w R:=by
 refine yD func43 ?_
 refine zs<|zr<|zm<|zn<|zk<|zs<|zs<|zr<|zm<|yx h λ _ w h=>zm<|zn<|zk<|Zn<|yl1 [4,5,8,9,10,11,12,13,14,15,16,17,18] 8 h λ σ w next h=>?_
 refine zs<|zr<|yb h λ _ w h=>zn<|zk<|zs<|yC h (λ h=>?_) λ h=>?_
 · refine Zo<|zk<|zs<|Zn<|zs<|zr<|zm<|zm<|zn<|zk<|zs<|zr<|zm<|zm<|zm ?_
   refine yv h λ _ w h=>yv h λ _ w h=>yV h λ _ w h=>zn<|zk<|yC h (λ h=>zs<|zr<|zm<|zm<|zn<|zk<|Zi<|Zj<|Zc<|Zc<|Zj<|Zc<|Zk rfl rfl h) λ h=>Zo<|Zf<|zk<|zr<|yb h λ _ w h=>zm<|zn<|zk ?_
   exact ⟨rfl,h⟩
 exact ZR<|Ze<|Ze<|Zx<|zk<|zs<|zr<|zm<|zn<|zk<|Zi<|Zk rfl rfl h
def n18 (f b:Vl) (R:RT) (w:Wd):Prop:=
 opV Pg (Instr.box 78 f) (Zb R) w λ c w=>
 opV Pg (loadAt 3 b) (Zb R) w λ g w=>
 opV Pg (fieldAt 78 c 0) (Zb R) w λ h w=>
 opV Pg (loadAt 3 h) (Zb R) w λ i w=>
 opV Pg (Zh .geq 3 false g i) (Zb R) w λ d w=>
 Zq (λ (a:Vl) (w:Wd)=>
 ZD d a (.bool false) λ j=>
 R (.returned j) w) λ e=>
 Zp d true (
 opV Pg (loadAt 3 b) (Zb R) w λ k w=>
 opV Pg (fieldAt 78 c 1) (Zb R) w λ l w=>
 opV Pg (loadAt 3 l) (Zb R) w λ m w=>
 opV Pg (Zh .leq 3 false k m) (Zb R) w λ a w=>
 e a w) (
 e undef w)
theorem ZgL {t0 t1:Vl} {R:RT} {w:Wd} (h:n18 t0 t1 R w):Calls Pg 44 #[t0,t1] w R:=by
 refine yD func44 ?_
 refine zs<|zr<|yv h λ _ w h=>zm<|zn<|zk<|zs<|Zr<|yG 5<|yv h λ _ w h=>yv h λ _ w h=>yv h λ _ w h=>yb h λ _ w h=>zm<|zn ?_
 refine yg1 4 4 true [9,10,11,12] 12 h (λ _ T hT h=>?_) λ σ w h=>?_
 · refine yv h λ _ w h=>yv h λ _ w h=>yv h λ _ w h=>yb h λ _ w h=>zn ?_
   exact zt hT h
 exact yG 2<|yp h λ _ h=>zm<|zn<|ZK<|zk<|Zi<|Zk rfl rfl h
def n57 (b:Vl) (R:RT) (w:Wd):Prop:=
 opV Pg (Zh .geq 3 true b (.int .i64 0)) (Zb R) w λ c w=>
 Zq (λ (a:Vl) (w:Wd)=>
 ZD c a (.bool false) λ e=>
 R (.returned e) w) λ d=>
 Zp c true (
 opV Pg (Zh .lss 3 true b (.int .i64 34359738368)) (Zb R) w λ a w=>
 d a w) (
 d undef w)
theorem Zhn {t0:Vl} {R:RT} {w:Wd} (h:n57 t0 R w):Calls Pg 45 #[t0] w R:=by
 refine yD func45 ?_
 refine zs<|zr<|zm<|zn<|zk<|zs<|Zr<|yG 3<|zm<|yb h λ _ w h=>zm<|zn<|yg1 2 2 true [6,7] 7 h (λ _ T hT h=>?_) λ σ w h=>?_
 · refine zm<|yb h λ _ w h=>zn ?_
   exact zt hT h
 exact yG 2<|yp h λ _ h=>zm<|zn<|ZK<|zk<|Zi<|Zk rfl rfl h
def NZ (b c a:Vl) (ZA:KV) (R:RT) (w:Wd):Prop:=
 opV Pg (indexAt 22 b a) (Zb R) w λ d w=>
 opV Pg (loadAt 60 d) (Zb R) w λ e w=>
 XO Pg c #[e] (Zb R) w λ f w=>
 Zu f (
 R (.returned a) w) (
 opV Pg (Zh .add 3 true a (.int .i64 1)) (Zb R) w λ g w=>
 ZA g w)
def ZdY (a c:Vl) (R:RT) (w:Wd):Prop:=
 opV Pg (Builtin.len_ #[22] 3 #[a]) (Zb R) w λ d w=>
 Xd (λ b w ZA=>
 opV Pg (Zh .lss 3 false b d) (Zb R) w λ e w=>
 Zu e (
 NZ a c b ZA R w) (
 R (.returned (.int .i64 (-1))) w)) (.int .i64 0) w
theorem ZdZ {t0 t1:Vl} {R:RT} {w:Wd} (h:ZdY t0 t1 R w):Calls Pg 46 #[t0,t1] w R:=by
 refine yD func46 ?_
 refine zs<|zr<|zm<|zn<|zk<|zs<|zs<|zr<|zm<|yx h λ _ w h=>zm<|zn<|zk<|Zn<|yl1 [4,5,8,9,10,11,12,13,14,15,16,17,18] 8 h λ σ w next h=>?_
 refine zs<|zr<|yb h λ _ w h=>zn<|zk<|zs<|yC h (λ h=>?_) λ h=>?_
 · refine Zo<|zk<|zs<|Zn<|zs<|zr<|zm<|zm<|zn<|zk<|zs<|zr<|zm<|zm<|zm ?_
   refine yv h λ _ w h=>yv h λ _ w h=>yV h λ _ w h=>zn<|zk<|yC h (λ h=>zs<|zr<|zm<|zm<|zn<|zk<|Zi<|Zj<|Zc<|Zc<|Zj<|Zc<|Zk rfl rfl h) λ h=>Zo<|Zf<|zk<|zr<|yb h λ _ w h=>zm<|zn<|zk ?_
   exact ⟨rfl,h⟩
 exact ZR<|Ze<|Ze<|Zx<|zk<|zs<|zr<|zm<|zn<|zk<|Zi<|Zk rfl rfl h
def n22 (a b:Vl) (R:RT) (w:Wd):Prop:=
 opV Pg (Instr.box 60 a) (Zb R) w λ c w=>
 opV Pg (fieldAt 60 c 0) (Zb R) w λ d w=>
 opV Pg (loadAt 9 d) (Zb R) w λ e w=>
 opV Pg (loadAt 9 b) (Zb R) w λ f w=>
 opV Pg (Zh .eql 9 false e f) (Zb R) w λ g w=>
 R (.returned g) w
theorem ZgP {t0 t1:Vl} {R:RT} {w:Wd} (h:n22 t0 t1 R w):Calls Pg 47 #[t0,t1] w R:=by
 refine yD func47 ?_
 refine zs<|zr<|yv h λ _ w h=>zm<|zn<|zk<|zs<|zr<|yv h λ _ w h=>yv h λ _ w h=>yv h λ _ w h=>yb h λ _ w h=>zm<|zn<|zk ?_
 exact Zi<|Zk rfl rfl h
def T0 (f b g d:Vl) (a:WPr) (R:RT) (w:Wd):Prop:=
 Zq (λ (c:Vl) (w:Wd)=>
 ZD d c (.bool false) λ h=>
 opU Pg (storeAt 43 b g) (Zb R) w λ w=>
 a w∧(
 qW Pg 43 b w λ r0=>
 R (.returned (.tuple #[r0,h])) w)) λ e=>
 Zp d true (
 qV Pg a (loadAt 43 b) λ i=>
 Zg Pg 60 #[i] (Zb R) w λ j w=>
 a w∧(
 Zg Pg 59 #[j,(.string { data := #[32] })] (Zb R) w λ k w=>
 a w∧(
 qV Pg a (Zh .eql 9 false k f) λ c=>
 e c w))) (
 e undef w)
def IR (c b:Vl) (a:WPr) (R:RT) (w:Wd):Prop:=
 qV Pg a (loadAt 43 b) λ d=>
 qV Pg a (loadAt 43 b) λ e=>
 Zg Pg 58 #[e] (Zb R) w λ f w=>
 a w∧(
 T0 c b d f a R w)
def OQ (b c:Vl) (a:WPr) (d:WPr) (R:RT) (w:Wd):Prop:=
 qV Pg a (indexAt 94 c (.int .i64 0)) λ e=>
 qV Pg a (loadAt 9 e) λ f=>
 qV Pg a (fieldAt 43 b 1) λ g=>
 opU Pg (storeAt 39 g (.int .i64 1)) (Zb R) w λ w=>
 a w∧(
 qV Pg a (fieldAt 43 b 2) λ h=>
 opU Pg (storeAt 9 h f) (Zb R) w λ w=>
 VY w λ i w=>
 d w)
def T1 (b a:Vl) (c:WPr) (R:RT) (w:Wd):Prop:=
 opV Pg (Instr.extract a 0) (Zb R) w λ d w=>
 opV Pg (Instr.extract a 1) (Zb R) w λ f w=>
 opV Pg (Instr.extract a 2) (Zb R) w λ g w=>
 opV Pg (fieldAt 43 b 3) (Zb R) w λ e w=>
 opU Pg (storeAt 3 e d) (Zb R) w λ w=>
 c w
def OR (a b:Vl) (c:WPr) (R:RT) (w:Wd):Prop:=
 opV Pg (indexAt 94 b (.int .i64 1)) (Zb R) w λ d w=>
 opV Pg (loadAt 9 d) (Zb R) w λ e w=>
 Zg Pg 87 #[e] (Zb R) w λ f w=>
 T1 a f c R w
def OS (b c:Vl) (a:WPr) (d:WPr) (R:RT) (w:Wd):Prop:=
 qV Pg a (indexAt 94 c (.int .i64 0)) λ e=>
 qV Pg a (loadAt 9 e) λ f=>
 qV Pg a (fieldAt 43 b 1) λ g=>
 opU Pg (storeAt 39 g (.int .i64 2)) (Zb R) w λ w=>
 a w∧(
 qV Pg a (fieldAt 43 b 2) λ h=>
 opU Pg (storeAt 9 h f) (Zb R) w λ w=>
 VY w λ i w=>
 OR b c d R w)
def T2 (b a:Vl) (c:WPr) (R:RT) (w:Wd):Prop:=
 opV Pg (Instr.extract a 0) (Zb R) w λ d w=>
 opV Pg (Instr.extract a 1) (Zb R) w λ f w=>
 opV Pg (Instr.extract a 2) (Zb R) w λ g w=>
 opV Pg (fieldAt 43 b 4) (Zb R) w λ e w=>
 opU Pg (storeAt 3 e d) (Zb R) w λ w=>
 c w
def T3 (a b:Vl) (c:WPr) (R:RT) (w:Wd):Prop:=
 opV Pg (fieldAt 43 a 1) (Zb R) w λ d w=>
 opU Pg (storeAt 39 d (.int .i64 4)) (Zb R) w λ w=>
 opV Pg (fieldAt 43 a 5) (Zb R) w λ e w=>
 opU Pg (storeAt 40 e b) (Zb R) w λ w=>
 c w
def OT (a:Vl) (R:RT) (w:Wd):Prop:=
 opV Pg (loadAt 43 a) (Zb R) w λ b w=>
 opU Pg (storeAt 43 a b) (Zb R) w λ w=>
 qW Pg 43 a w λ r0=>
 R (.returned (.tuple #[r0,(.bool false)])) w
def OD (a b c:Vl) (GE:KV) (R:RT) (w:Wd):Prop:=
 opV Pg (fieldAt 43 a 6) (Zb R) w λ d w=>
 opV Pg (loadAt 41 d) (Zb R) w λ e w=>
 opV Pg (loadAt 78 b) (Zb R) w λ f w=>
 opV Pg (buildSlice 41 1 #[(0,f)]) (Zb R) w λ g w=>
 opV Pg (Builtin.append_ #[41,41] 41 #[e,g]) (Zb R) w λ h w=>
 opV Pg (fieldAt 43 a 6) (Zb R) w λ i w=>
 opU Pg (storeAt 41 i h) (Zb R) w λ w=>
 opV Pg (Zh .add 3 true c (.int .i64 1)) (Zb R) w λ j w=>
 GE j w
def OE (a d b:Vl) (GE:KV) (R:RT) (w:Wd):Prop:=
 opV Pg (Instr.extract b 0) (Zb R) w λ e w=>
 opV Pg (Instr.extract b 1) (Zb R) w λ f w=>
 opV Pg (Instr.alloc 78 true (.tuple #[])) (Zb R) w λ c w=>
 opU Pg (storeAt 78 c e) (Zb R) w λ w=>
 opV Pg (Op.unary .not f) (Zb R) w λ g w=>
 Zu g (
 OT a R w) (
 OD a c d GE R w)
def OF (b c a:Vl) (GE:KV) (R:RT) (w:Wd):Prop:=
 opV Pg (indexAt 94 c a) (Zb R) w λ d w=>
 opV Pg (loadAt 9 d) (Zb R) w λ e w=>
 Zg Pg 89 #[e] (Zb R) w λ f w=>
 OE b a f GE R w
def C0 (d a:Vl) (e:WPr) (R:RT) (w:Wd):Prop:=
 opV Pg (Builtin.len_ #[94] 3 #[a]) (Zb R) w λ f w=>
 opV Pg (Builtin.min_ #[3,3] 3 #[(.int .i64 3),f]) (Zb R) w λ g w=>
 opV Pg (Instr.sliceAt 94 a (some g) none none) (Zb R) w λ b w=>
 opV Pg (Builtin.len_ #[94] 3 #[b]) (Zb R) w λ h w=>
 Xd (λ c w GE=>
 opV Pg (Zh .lss 3 false c h) (Zb R) w λ i w=>
 Zu i (
 OF d b c GE R w) (
 e w)) (.int .i64 0) w
def Hl (b c d:Vl) (a:WPr) (e:WPr) (R:RT) (w:Wd):Prop:=
 qV Pg a (indexAt 94 d (.int .i64 0)) λ f=>
 qV Pg a (loadAt 9 f) λ g=>
 qV Pg a (fieldAt 43 b 1) λ h=>
 opU Pg (storeAt 39 h (.int .i64 5)) (Zb R) w λ w=>
 a w∧(
 qV Pg a (fieldAt 43 b 2) λ i=>
 opU Pg (storeAt 9 i g) (Zb R) w λ w=>
 VY w λ j w=>
 C0 b c e R w)
def Hm (b c:Vl) (a:WPr) (d:WPr) (R:RT) (w:Wd):Prop:=
 qV Pg a (indexAt 94 c (.int .i64 0)) λ e=>
 qV Pg a (loadAt 9 e) λ f=>
 qV Pg a (fieldAt 43 b 1) λ g=>
 opU Pg (storeAt 39 g (.int .i64 6)) (Zb R) w λ w=>
 a w∧(
 qV Pg a (fieldAt 43 b 2) λ h=>
 opU Pg (storeAt 9 h f) (Zb R) w λ w=>
 VY w λ i w=>
 d w)
def ZbH (a:Vl) (R:RT) (w:Wd):Prop:=
 opV Pg (loadAt 43 a) (Zb R) w λ b w=>
 opU Pg (storeAt 43 a b) (Zb R) w λ w=>
 qW Pg 43 a w λ r0=>
 R (.returned (.tuple #[r0,(.bool false)])) w
def OG (a b:Vl) (c:WPr) (R:RT) (w:Wd):Prop:=
 opV Pg (Zh .eql 9 true b (.string { data := #[102,105,116] })) (Zb R) w λ d w=>
 Zu d (
 opV Pg (fieldAt 43 a 1) (Zb R) w λ e w=>
 opU Pg (storeAt 39 e (.int .i64 7)) (Zb R) w λ w=>
 c w) (
 ZbH a R w)
def OH (a d b:Vl) (c:WPr) (R:RT) (w:Wd):Prop:=
 opV Pg (Zh .eql 9 true b (.string { data := #[110,101,115,116,101,100] })) (Zb R) w λ e w=>
 Zu e (
 Ye w λ f w=>
 Hm a d f c R w) (
 OG a b c R w)
def OI (a b:Vl) (c:WPr) (R:RT) (w:Wd):Prop:=
 opV Pg (indexAt 94 b (.int .i64 0)) (Zb R) w λ d w=>
 opV Pg (loadAt 9 d) (Zb R) w λ e w=>
 Zg Pg 88 #[e] (Zb R) w λ f w=>
 T3 a f c R w
def OJ (a e b c:Vl) (d:WPr) (R:RT) (w:Wd):Prop:=
 opV Pg (Zh .eql 9 true c (.string { data := #[116,97,98,108,101] })) (Zb R) w λ f w=>
 Zu f (
 Ye w λ g w=>
 Hl a e b g d R w) (
 OH a b c d R w)
def OK (a b:Vl) (c:WPr) (R:RT) (w:Wd):Prop:=
 opV Pg (fieldAt 43 a 1) (Zb R) w λ d w=>
 opU Pg (storeAt 39 d (.int .i64 3)) (Zb R) w λ w=>
 opV Pg (indexAt 94 b (.int .i64 0)) (Zb R) w λ e w=>
 opV Pg (loadAt 9 e) (Zb R) w λ f w=>
 Zg Pg 87 #[f] (Zb R) w λ g w=>
 T2 a g c R w
def OL (a e b c:Vl) (d:WPr) (R:RT) (w:Wd):Prop:=
 opV Pg (Zh .eql 9 true c (.string { data := #[98,121,116,101,115] })) (Zb R) w λ f w=>
 Zu f (
 OI a b d R w) (
 OJ a e b c d R w)
def OM (a e b c:Vl) (d:WPr) (R:RT) (w:Wd):Prop:=
 opV Pg (Zh .eql 9 true c (.string { data := #[118,97,108,117,101] })) (Zb R) w λ f w=>
 Zu f (
 OK a b d R w) (
 OL a e b c d R w)
def ON (a e b c:Vl) (d:WPr) (R:RT) (w:Wd):Prop:=
 opV Pg (Zh .eql 9 true c (.string { data := #[97,100,100] })) (Zb R) w λ f w=>
 Zu f (
 Ye w λ g w=>
 OS a b g d R w) (
 OM a e b c d R w)
def ZbI (a:Vl) (R:RT) (w:Wd):Prop:=
 opV Pg (loadAt 43 a) (Zb R) w λ b w=>
 opU Pg (storeAt 43 a b) (Zb R) w λ w=>
 qW Pg 43 a w λ r0=>
 R (.returned (.tuple #[r0,(.bool false)])) w
def OO (f b a:Vl) (R:RT) (w:Wd):Prop:=
 opV Pg (indexAt 94 a (.int .i64 0)) (Zb R) w λ g w=>
 opV Pg (loadAt 9 g) (Zb R) w λ h w=>
 opV Pg (fieldAt 43 b 0) (Zb R) w λ i w=>
 opU Pg (storeAt 9 i h) (Zb R) w λ w=>
 opV Pg (Builtin.len_ #[94] 3 #[a]) (Zb R) w λ j w=>
 opV Pg (Builtin.len_ #[94] 3 #[a]) (Zb R) w λ k w=>
 opV Pg (Instr.sliceAt 94 a (some (.int .i64 2)) (some j) (some k)) (Zb R) w λ l w=>
 opV Pg (buildSlice 94 2 #[(0,(.string { data := #[] })),(1,(.string { data := #[] }))]) (Zb R) w λ m w=>
 opV Pg (Builtin.append_ #[94,94] 94 #[l,m]) (Zb R) w λ c w=>
 opV Pg (indexAt 94 a (.int .i64 1)) (Zb R) w λ n w=>
 opV Pg (loadAt 9 n) (Zb R) w λ d w=>
 opV Pg (Zh .eql 9 true d (.string { data := #[99,111,112,121] })) (Zb R) w λ o w=>
 Zq (λ (w:Wd)=>
 Ye w λ p w=>
 IR f b p R w) λ e=>
 Zu o (
 Ye w λ q w=>
 OQ b c q e R w) (
 ON b a c d e R w)
def OP (c a b:Vl) (R:RT) (w:Wd):Prop:=
 opV Pg (Builtin.len_ #[94] 3 #[b]) (Zb R) w λ d w=>
 opV Pg (Zh .lss 3 true d (.int .i64 2)) (Zb R) w λ e w=>
 Zu e (
 ZbI a R w) (
 OO c a b R w)
def n46 (a:Vl) (R:RT) (w:Wd):Prop:=
 opV Pg (Instr.alloc 43 true (.tuple #[])) (Zb R) w λ b w=>
 Zg Pg 50 #[a,(.string { data := #[32] })] (Zb R) w λ c w=>
 OP a b c R w
set_option maxHeartbeats 40000000 in
theorem Zhc {t0:Vl} {R:RT} {w:Wd} (h:n46 t0 R w):Calls Pg 51 #[t0] w R:=by
 refine yD func51 ?_
 refine zs<|zr<|yv h λ _ w h=>zm<|zn<|zk<|zs<|zr<|zm<|yc h c50 λ _ w h=>zm<|zn<|zk<|zs<|zs ?_
 refine zr<|zm<|yx h λ _ w h=>yb h λ _ w h=>zn<|zk<|yC h (λ h=>zs<|zr<|yv h λ _ w h=>yu h λ w h=>zm<|zn<|zk<|Zi<|Zc<|YO rfl rfl rfl h) λ h=>Zo<|zk<|zs<|zr<|zm<|yv h λ _ w h=>yv h λ _ w h=>?_
 refine yv h λ _ w h=>yu h λ w h=>zn<|zk<|zs<|zr<|zm<|zm<|yx h λ _ w h=>zm<|yx h λ _ w h=>yv h λ _ w h=>yS h λ _ w h=>yx h λ _ w h=>zm ?_
 refine zn<|zk<|zs<|zs<|zr<|zm<|yv h λ _ w h=>yv h λ _ w h=>zn<|zk<|Zn<|zs<|zr<|yb h λ _ w h=>zm ?_
 refine zn<|zk<|yJ0 [3,7,8,9,31,34,35,36,37,38,39,40,41,42,43,44,45,46,47,48,49,50,51,52,53,54,55,56,57,58,59,60,61,62,63,64,65,66,67,68,69,70,71,72,73,74,75,76,77,78,79,80,81,82,83,84,85,86,87,88,89,90,91,92,93,94,95,96,97,98,99,100,101,102,103,104,105,106,107,108,109,110,111,112,113,114,115,116] h (λ _ _ hkK1 h=>?_) λ σ w h=>?_
 · refine yC h (λ h=>?_) λ h=>?_
   · refine yh [34,35,36,37,38] h λ C hC h=>yw 0 hC ?_
     refine ye 1 hC h λ _ h=>?_
     refine ye 2 hC h λ _ h=>?_
     refine ye 3 hC h λ _ h=>?_
     refine yo 4 ?_
     refine yu h λ w h=>zn ?_
     obtain ⟨hC,h⟩:=h
     refine ⟨hC,?_⟩
     refine ye 5 hC h λ _ h=>?_
     refine yq 6 1 ?_
     refine yu h λ w h=>zn ?_
     obtain ⟨C5,hC,h⟩:=h
     refine ⟨C5,hC,?_⟩
     refine yz<|zk ?_
     exact zt hkK1 h
   refine zs<|zr<|yb h λ _ w h=>zm<|zn<|zk<|yC h (λ h=>?_) λ h=>?_
   · refine zs<|yh [41,42,43,44,45] h λ C hC h=>yw 0 hC ?_
     refine ye 1 hC h λ _ h=>?_
     refine ye 2 hC h λ _ h=>?_
     refine ye 3 hC h λ _ h=>?_
     refine yo 4 ?_
     refine yu h λ w h=>zn ?_
     obtain ⟨hC,h⟩:=h
     refine ⟨hC,?_⟩
     refine ye 5 hC h λ _ h=>?_
     refine yq 6 1 ?_
     refine yu h λ w h=>zn ?_
     obtain ⟨C7,hC,h⟩:=h
     refine ⟨C7,hC,?_⟩
     refine yz<|zk<|zr<|zm<|yv h λ _ w h=>yv h λ _ w h=>yc h c87 λ _ w h=>zm<|yv h λ _ w h=>yv h λ _ w h=>yv h λ _ w h=>yv h λ _ w h=>yu h λ w h=>zn<|zk ?_
     exact zt hkK1 h
   refine zs<|zr<|yb h λ _ w h=>zm<|zn<|zk<|yC h (λ h=>?_) λ h=>?_
   · refine zs<|zr<|yv h λ _ w h=>yu h λ w h=>zn<|zk<|zr<|zm<|yv h λ _ w h=>yv h λ _ w h=>yc h c87 λ _ w h=>zm<|yv h λ _ w h=>yv h λ _ w h=>yv h λ _ w h=>?_
     refine yv h λ _ w h=>yu h λ w h=>zn<|zk ?_
     exact zt hkK1 h
   refine zs<|zr<|yb h λ _ w h=>zm<|zn<|zk<|yC h (λ h=>?_) λ h=>?_
   · refine zr<|zm<|yv h λ _ w h=>yv h λ _ w h=>yc h c88 λ _ w h=>yv h λ _ w h=>yu h λ w h=>yv h λ _ w h=>yu h λ w h=>zn<|zk ?_
     exact zt hkK1 h
   refine zs<|zr<|yb h λ _ w h=>zm<|zn<|zk<|yC h (λ h=>?_) λ h=>?_
   · refine zs<|yh [77,78,79,80,81] h λ C hC h=>yw 0 hC ?_
     refine ye 1 hC h λ _ h=>?_
     refine ye 2 hC h λ _ h=>?_
     refine ye 3 hC h λ _ h=>?_
     refine yo 4 ?_
     refine yu h λ w h=>zn ?_
     obtain ⟨hC,h⟩:=h
     refine ⟨hC,?_⟩
     refine ye 5 hC h λ _ h=>?_
     refine yq 6 1 ?_
     refine yu h λ w h=>zn ?_
     obtain ⟨C9,hC,h⟩:=h
     refine ⟨C9,hC,?_⟩
     refine yz<|zk<|zs<|zr<|zm<|zm<|yx h λ _ w h=>yx h λ _ w h=>yv h λ _ w h=>yx h λ _ w h=>zm<|zn<|zk<|Zn<|yl1 [3,7,8,9,88,89,90,91,92,93,94,95,96,97,98,99,100,101,102,103,104,105,106] 88 h λ σ w next h=>?_
     refine zs<|zr<|yb h λ _ w h=>zn<|zk<|zs<|yC h (λ h=>?_) λ h=>?_
     · refine Zo<|zk<|zs<|Zn<|zs<|zr<|yv h λ _ w h=>yv h λ _ w h=>zm<|zn<|zk<|zs<|zr<|zm<|yc h c89 λ _ w h=>?_
       refine zm<|yv h λ _ w h=>yv h λ _ w h=>yv h λ _ w h=>yu h λ w h=>zm<|zn<|zk<|zs<|zs<|zr<|zm<|yv h λ _ w h=>zn<|zk ?_
       refine yC h (λ h=>?_) λ h=>?_
       · refine zs<|zr<|yv h λ _ w h=>yu h λ w h=>zm<|zn<|zk<|Zi<|Zc<|Zj<|Zc<|Zc<|Zj<|Zc<|Zj ?_
         exact Zc<|YO rfl rfl rfl h
       refine Zo<|zk<|zr<|yv h λ _ w h=>yv h λ _ w h=>yv h λ _ w h=>yS h λ _ w h=>yx h λ _ w h=>yv h λ _ w h=>yu h λ w h=>zn<|Zf<|zk<|zr<|yb h λ _ w h=>?_
       exact zm<|zn<|zk<|⟨rfl,h⟩
     refine ZR<|Ze<|Ze<|Zx<|zk ?_
     exact zt hkK1 h
   refine zs<|zr<|yb h λ _ w h=>zm<|zn<|zk<|yC h (λ h=>?_) λ h=>?_
   · refine yh [109,110,111,112,113] h λ C hC h=>yw 0 hC ?_
     refine ye 1 hC h λ _ h=>?_
     refine ye 2 hC h λ _ h=>?_
     refine ye 3 hC h λ _ h=>?_
     refine yo 4 ?_
     refine yu h λ w h=>zn ?_
     obtain ⟨hC,h⟩:=h
     refine ⟨hC,?_⟩
     refine ye 5 hC h λ _ h=>?_
     refine yq 6 1 ?_
     refine yu h λ w h=>zn ?_
     obtain ⟨C12,hC,h⟩:=h
     refine ⟨C12,hC,?_⟩
     refine yz<|zk ?_
     exact zt hkK1 h
   refine zs<|zr<|yb h λ _ w h=>zm<|zn<|zk<|yC h (λ h=>?_) λ h=>?_
   · refine zr<|yv h λ _ w h=>yu h λ w h=>zn<|zk ?_
     exact zt hkK1 h
   exact zs<|zr<|yv h λ _ w h=>yu h λ w h=>zm<|zn<|zk<|Zi<|Zc<|Zj<|Zc<|YO rfl rfl rfl h
 refine Zf<|zk<|zs<|yh [3,117,118,119,120,121,122,123,124,125,126] h λ C hC h=>ye 0 hC h λ _ h=>?_
 refine ye 1 hC h λ _ h=>?_
 refine yo 2 ?_
 refine yc h c58 λ _ w h=>zn ?_
 obtain ⟨hC,h⟩:=h
 refine ⟨hC,?_⟩
 refine yw 3 hC ?_
 refine yj1 3 [8,6,5,7,4,3,2,1,0] [121,122,123,124,125] 125 h (λ _ hT hb h=>?_) (λ _ hT hb h=>?_) λ σ w hC h=>?_
 · refine ye 4 hC h λ _ h=>?_
   refine yw 7 hC ?_
   refine yo 5 ?_
   refine yc h c60 λ _ w h=>zn ?_
   obtain ⟨hC,h⟩:=h
   refine ⟨hC,?_⟩
   refine yo 6 ?_
   refine yc h c59 λ _ w h=>zn ?_
   obtain ⟨hC,h⟩:=h
   refine ⟨hC,?_⟩
   refine ye 8 hC h λ _ h=>?_
   exact yt hT hC h
 · refine yi 4 hC ?_
   refine yi 7 hC ?_
   refine yi 5 hC ?_
   refine yi 6 hC ?_
   refine yi 8 hC ?_
   exact yt hT hC h
 refine yP 9 hC h λ _ h=>?_
 refine yo 10 ?_
 refine yu h λ w h=>zn ?_
 obtain ⟨hC,h⟩:=h
 refine ⟨hC,?_⟩
 refine yw 11 hC ?_
 exact yz<|zk<|Zi<|YO rfl rfl rfl h
def n40 (a:Vl) (R:RT) (w:Wd):Prop:=
 Zg Pg 90 #[a,(.func (.func 91) #[] #[])] (Zb R) w λ b w=>
 opV Pg (Op.unary .not b) (Zb R) w λ c w=>
 R (.returned c) w
theorem Zg6 {t0:Vl} {R:RT} {w:Wd} (h:n40 t0 R w):Calls Pg 52 #[t0] w R:=by
 refine yD func52 ?_
 exact zs<|zr<|zm<|zn<|zk<|zs<|zr<|zm<|yc h c90 λ _ w h=>yv h λ _ w h=>zm<|zn<|zk<|Zi<|Zk rfl rfl h
def n38 (R:RT) (w:Wd):Prop:=
 opV Pg (Instr.makeMap 106 none) (Zb R) w λ a w=>
 opV Pg (Instr.build 105 #[(0,(.bool true))]) (Zb R) w λ b w=>
 opU Pg (mapUpdate 106 a (.int .i64 1) b) (Zb R) w λ w=>
 opV Pg (Instr.build 105 #[(0,(.bool true)),(1,(.bool true))]) (Zb R) w λ c w=>
 opU Pg (mapUpdate 106 a (.int .i64 2) c) (Zb R) w λ w=>
 opV Pg (Instr.build 105 #[(2,(.bool true))]) (Zb R) w λ d w=>
 opU Pg (mapUpdate 106 a (.int .i64 3) d) (Zb R) w λ w=>
 opV Pg (Instr.build 105 #[(3,(.bool true))]) (Zb R) w λ e w=>
 opU Pg (mapUpdate 106 a (.int .i64 4) e) (Zb R) w λ w=>
 opV Pg (Instr.build 105 #[(0,(.bool true)),(4,(.bool true))]) (Zb R) w λ f w=>
 opU Pg (mapUpdate 106 a (.int .i64 5) f) (Zb R) w λ w=>
 opV Pg (Instr.build 105 #[(0,(.bool true))]) (Zb R) w λ g w=>
 opU Pg (mapUpdate 106 a (.int .i64 6) g) (Zb R) w λ w=>
 opV Pg (Instr.build 105 #[]) (Zb R) w λ h w=>
 opU Pg (mapUpdate 106 a (.int .i64 7) h) (Zb R) w λ w=>
 R (.returned a) w
theorem Zg4 {R:RT} {w:Wd} (h:n38 R w):Calls Pg 57 #[] w R:=by
 refine yD func57 ?_
 refine zs<|zr<|zm<|zn<|zk<|zs<|zr<|yv h λ _ w h=>yB h λ _ w h=>yu h λ w h=>yB h λ _ w h=>yu h λ w h=>yB h λ _ w h=>yu h λ w h=>yB h λ _ w h=>?_
 exact yu h λ w h=>yB h λ _ w h=>yu h λ w h=>yB h λ _ w h=>yu h λ w h=>yB h λ _ w h=>yu h λ w h=>zm<|zm<|zn<|zk<|Zi<|Zk rfl rfl h
theorem DT (f:Zt):(f.kind=1∨f.kind=2∨f.kind=3∨f.kind=4∨f.kind=5∨f.kind=6∨f.kind=7∨f.kind=8∨f.kind=9∨f.kind=10∨f.kind=11∨f.kind=12)∨((f.kind == 1)=false∧(f.kind == 3)=false∧(f.kind == 4)=false∧(f.kind == 5)=false∧(f.kind == 6)=false∧(f.kind == 7)=false∧(f.kind == 8)=false∧(f.kind == 12)=false∧(f.kind == 9)=false):=by
 by_cases h:1≤f.kind∧f.kind≤12
 · left;omega
 · right
   have key:∀ n:Int,(1≤n∧n≤12)→(f.kind == n)=false:=λ n hn=>by
    have:f.kind≠n:=by omega
    simpa using this
   exact ⟨key 1 (by omega),key 3 (by omega),key 4 (by omega),key 5 (by omega),key 6 (by omega),key 7 (by omega),key 8 (by omega),key 12 (by omega),key 9 (by omega)⟩
theorem Cv {f:Zt} (h1:(f.kind == 1)=false) (h3:(f.kind == 3)=false) (h4:(f.kind == 4)=false) (h5:(f.kind == 5)=false) (h6:(f.kind == 6)=false) (h7:(f.kind == 7)=false) (h8:(f.kind == 8)=false) (h12:(f.kind == 12)=false) (h9:(f.kind == 9)=false):Q9 f=0:=by
 have e:∀ n:Int,(f.kind == n)=false→f.kind≠n:=λ n h=>by simpa using h
 unfold Q9
 rw [if_neg (by have:=e _ h1;have:=e _ h3;omega),if_neg (by have:=e _ h4;have:=e _ h5;omega),if_neg (e _ h6),if_neg (e _ h7),if_neg (by have:=e _ h8;have:=e _ h12;omega),if_neg (e _ h9)]
theorem xp (w0:Wd) (v:Vl) (f:Zt) (hf:ZZ w0 v f):Ret Pg 68 #[v] w0 λ r w'=>r = .int .i64 (Q9 f)∧Ext w0 w':=by
 obtain ⟨tv,cv,rfl,hT,hC,_,_⟩:=hf.op
 refine ZgZ (R:=ZJ _) ?_;unfold n33
 rcases DT f with (h | h | h | h | h | h | h | h | h | h | h | h) | ⟨h1,h3,h4,h5,h6,h7,h8,h12,h9⟩
 case inr=>
  simp (disch:=try exact DI) only [↓PR,QR,simprocAttr,↓Oh,↓Oi,↓Oj,↓Ok,h1,h3,h4,h5,h6,h7,h8,h12,h9]
  exact ⟨by rw [Cv h1 h3 h4 h5 h6 h7 h8 h12 h9],ee⟩
 all_goals
  simp (disch:=try exact DI) only [↓PR,QR,simprocAttr,↓Oh,↓Oi,↓Oj,↓Ok,h]
  exact ⟨by unfold Q9;rw [h];rfl,ee⟩
theorem Qo (w0:Wd) (n:Int):Ret Pg 42 #[.int .i64 n] w0 λ r w'=>r = .bool (Qj n)∧w'=w0:=by
 refine ZgR (R:=ZJ _) ?_;unfold n25
 unfold Qj
 by_cases h1:0≤n
 · have d1:decide (n≥0)=true:=by simpa using h1
   by_cases h2:n < 34359738368
   · have d2:decide (n < 34359738368)=true:=by simpa using h2
     simp (disch:=try exact DI) only [↓PR,QR,simprocAttr,d1,d2]
     exact ⟨by simp [h1,h2],by trivial⟩
   · have d2:decide (n < 34359738368)=false:=by simpa using h2
     simp (disch:=try exact DI) only [↓PR,QR,simprocAttr,d1,d2]
     exact ⟨by simp [h2],by trivial⟩
 · have d1:decide (n≥0)=false:=by simpa using h1
   simp (disch:=try exact DI) only [↓PR,QR,simprocAttr,d1]
   exact ⟨by simp [h1],by trivial⟩
theorem Fd (w0:Wd) (n:Int):Ret Pg 45 #[.int .i64 n] w0 λ r w'=>r = .bool (Qj n)∧w'=w0:=by
 refine Zhn (R:=ZJ _) ?_;unfold n57
 unfold Qj
 by_cases h1:0≤n
 · have d1:decide (n≥0)=true:=by simpa using h1
   by_cases h2:n < 34359738368
   · have d2:decide (n < 34359738368)=true:=by simpa using h2
     simp (disch:=try exact DI) only [↓PR,QR,simprocAttr,d1,d2]
     exact ⟨by simp [h1,h2],by trivial⟩
   · have d2:decide (n < 34359738368)=false:=by simpa using h2
     simp (disch:=try exact DI) only [↓PR,QR,simprocAttr,d1,d2]
     exact ⟨by simp [h2],by trivial⟩
 · have d1:decide (n≥0)=false:=by simpa using h1
   simp (disch:=try exact DI) only [↓PR,QR,simprocAttr,d1]
   exact ⟨by simp [h1],by trivial⟩
def Bj (u:AX):Vl := .agg #[.bool u.fr,.bool u.add,.bool u.value,.bool u.bytes,.bool u.table]
def MV (L:List (Int×Vl×Nat)):Prop:=∀ k,Sw.look L k=(XK k).map Bj
theorem QX {w0 w:Wd} {m c:Nat} {L:List (Int×Vl×Nat)} {QP:PEn} {ku:WPr} (hM:Xj w m Xn L c) (e:Ext w0 w) (hm:w0.heap.size≤m) (k:Int) (v:Vl)
 (h:∀ w' L' c',Xj w' m Xn L' c'→(∀ k',Sw.look L' k'=if k'=k then some v else Sw.look L k')→Ext w0 w'→ku w'):opU Pg (mapUpdate 106 (.map (some m)) (.int .i64 k) v) QP w ku:=by
 rw [UQ underlying106 (Ql.int underlying39) hM k v]
 exact h _ _ _ (hM.put k v) (λ k'=>G9 _ _ _ _ _) (e.putObj hm _)
theorem UI (w0:Wd):Ret Pg 57 #[] w0 λ r w'=>∃ m L c,r = .map (some m)∧w0.heap.size≤m∧Xj w' m Xn L c∧MV L∧Ext w0 w':=by
 refine Zg4 (R:=ZJ _) ?_;unfold n38
 simp (disch:=try exact DI) only [↓PR,QR,simprocAttr]
 have hM0:Xj (w0.alloc (.map #[] 0)) w0.heap.size Xn [] 0:=Xj.new w0 _
 have e0:Ext w0 (w0.alloc (.map #[] 0)):=ee
 refine QX hM0 e0 (Nat.le_refl _) 1 _ (λ w1 L1 c1 hM1 hl1 e1=>?_)
 simp (disch:=try exact DI) only [↓PR,QR,simprocAttr]
 refine QX hM1 e1 (Nat.le_refl _) 2 _ (λ w2 L2 c2 hM2 hl2 e2=>?_)
 simp (disch:=try exact DI) only [↓PR,QR,simprocAttr]
 refine QX hM2 e2 (Nat.le_refl _) 3 _ (λ w3 L3 c3 hM3 hl3 e3=>?_)
 simp (disch:=try exact DI) only [↓PR,QR,simprocAttr]
 refine QX hM3 e3 (Nat.le_refl _) 4 _ (λ w4 L4 c4 hM4 hl4 e4=>?_)
 simp (disch:=try exact DI) only [↓PR,QR,simprocAttr]
 refine QX hM4 e4 (Nat.le_refl _) 5 _ (λ w5 L5 c5 hM5 hl5 e5=>?_)
 simp (disch:=try exact DI) only [↓PR,QR,simprocAttr]
 refine QX hM5 e5 (Nat.le_refl _) 6 _ (λ w6 L6 c6 hM6 hl6 e6=>?_)
 simp (disch:=try exact DI) only [↓PR,QR,simprocAttr]
 refine QX hM6 e6 (Nat.le_refl _) 7 _ (λ w7 L7 c7 hM7 hl7 e7=>?_)
 simp (disch:=try exact DI) only [↓PR,QR,simprocAttr]
 refine ⟨_,L7,c7,rfl,Nat.le_refl _,hM7,λ k=>?_,e7⟩
 rw [hl7,hl6,hl5,hl4,hl3,hl2,hl1]
 unfold XK
 by_cases k1:k=1
 · subst k1;rfl
 by_cases k2:k=2
 · subst k2;rfl
 by_cases k3:k=3
 · subst k3;rfl
 by_cases k4:k=4
 · subst k4;rfl
 by_cases k5:k=5
 · subst k5;rfl
 by_cases k6:k=6
 · subst k6;rfl
 by_cases k7:k=7
 · subst k7;rfl
 rw [if_neg k1,if_neg k2,if_neg k3,if_neg k4,if_neg k5,if_neg k6,if_neg k7,if_neg k1,if_neg k2,if_neg k3,if_neg k4,if_neg k5,if_neg k6,if_neg k7]
 rfl
def Ol (b d e:Vl) (R:RT) (w:Wd):Prop:=
 Zq (λ (a:Vl) (w:Wd)=>
 ZD b a (.bool false) λ f=>
 R (.returned f) w) λ c=>
 Zp b true (
 ZD d (.bool true) e λ a=>
 c a w) (
 c undef w)
def Om (d e b:Vl) (R:RT) (w:Wd):Prop:=
 Zq (λ (a:Vl) (w:Wd)=>
 Ol e b a R w) λ c=>
 Zp b false (
 opV Pg (fieldAt 43 d 6) (Zb R) w λ f w=>
 opV Pg (loadAt 41 f) (Zb R) w λ g w=>
 opV Pg (Builtin.len_ #[41] 3 #[g]) (Zb R) w λ h w=>
 opV Pg (Zh .eql 3 true h (.int .i64 0)) (Zb R) w λ a w=>
 c a w) (
 c undef w)
def On (c d e f:Vl) (R:RT) (w:Wd):Prop:=
 ZD e f (.bool false) λ a=>
 Zq (λ (g:Vl) (w:Wd)=>
 Om c a g R w) λ b=>
 Zp a true (
 opV Pg (fieldAt 105 d 4) (Zb R) w λ h w=>
 opV Pg (loadAt 4 h) (Zb R) w λ i w=>
 b i w) (
 b undef w)
def Oo (c h d e:Vl) (R:RT) (w:Wd):Prop:=
 Zq (λ (a:Vl) (w:Wd)=>
 Zq (λ (b:Vl) (w:Wd)=>
 On c h d b R w) λ f=>
 Zp d true (
 ZD e (.bool true) a λ b=>
 f b w) (
 f undef w)) λ g=>
 Zp e false (
 opV Pg (fieldAt 43 c 5) (Zb R) w λ i w=>
 opV Pg (loadAt 40 i) (Zb R) w λ j w=>
 opV Pg (Builtin.len_ #[40] 3 #[j]) (Zb R) w λ k w=>
 opV Pg (Zh .eql 3 true k (.int .i64 0)) (Zb R) w λ a w=>
 g a w) (
 g undef w)
def Oq (d a e f:Vl) (R:RT) (w:Wd):Prop:=
 ZD e f (.bool false) λ b=>
 Zq (λ (g:Vl) (w:Wd)=>
 Oo d a b g R w) λ c=>
 Zp b true (
 opV Pg (fieldAt 105 a 3) (Zb R) w λ h w=>
 opV Pg (loadAt 4 h) (Zb R) w λ i w=>
 c i w) (
 c undef w)
def Ot (c h d e:Vl) (R:RT) (w:Wd):Prop:=
 Zq (λ (a:Vl) (w:Wd)=>
 Zq (λ (b:Vl) (w:Wd)=>
 Oq c h d b R w) λ f=>
 Zp d true (
 ZD e (.bool true) a λ b=>
 f b w) (
 f undef w)) λ g=>
 Zp e false (
 opV Pg (fieldAt 43 c 4) (Zb R) w λ i w=>
 opV Pg (loadAt 3 i) (Zb R) w λ j w=>
 opV Pg (Zh .eql 3 true j (.int .i64 0)) (Zb R) w λ a w=>
 g a w) (
 g undef w)
def Ou (d a e f:Vl) (R:RT) (w:Wd):Prop:=
 ZD e f (.bool false) λ b=>
 Zq (λ (g:Vl) (w:Wd)=>
 Ot d a b g R w) λ c=>
 Zp b true (
 opV Pg (fieldAt 105 a 2) (Zb R) w λ h w=>
 opV Pg (loadAt 4 h) (Zb R) w λ i w=>
 c i w) (
 c undef w)
def Ov (c h d e:Vl) (R:RT) (w:Wd):Prop:=
 Zq (λ (a:Vl) (w:Wd)=>
 Zq (λ (b:Vl) (w:Wd)=>
 Ou c h d b R w) λ f=>
 Zp d true (
 ZD e (.bool true) a λ b=>
 f b w) (
 f undef w)) λ g=>
 Zp e false (
 opV Pg (fieldAt 43 c 3) (Zb R) w λ i w=>
 opV Pg (loadAt 3 i) (Zb R) w λ j w=>
 opV Pg (Zh .eql 3 true j (.int .i64 0)) (Zb R) w λ a w=>
 g a w) (
 g undef w)
def Ow (d a e f:Vl) (R:RT) (w:Wd):Prop:=
 ZD e (.bool true) f λ b=>
 Zq (λ (g:Vl) (w:Wd)=>
 Ov d a b g R w) λ c=>
 Zp b true (
 opV Pg (fieldAt 105 a 1) (Zb R) w λ h w=>
 opV Pg (loadAt 4 h) (Zb R) w λ i w=>
 c i w) (
 c undef w)
def n34 (f g:Vl) (R:RT) (w:Wd):Prop:=
 opV Pg (Instr.box 43 f) (Zb R) w λ b w=>
 opV Pg (Instr.box 105 g) (Zb R) w λ c w=>
 opV Pg (fieldAt 105 c 0) (Zb R) w λ h w=>
 opV Pg (loadAt 4 h) (Zb R) w λ d w=>
 Zq (λ (a:Vl) (w:Wd)=>
 Ow b c d a R w) λ e=>
 Zp d false (
 opV Pg (fieldAt 43 b 2) (Zb R) w λ i w=>
 opV Pg (loadAt 9 i) (Zb R) w λ j w=>
 opV Pg (Zh .eql 9 true j (.string { data := #[] })) (Zb R) w λ a w=>
 e a w) (
 e undef w)
theorem Zg0 {t0 t1:Vl} {R:RT} {w:Wd} (h:n34 t0 t1 R w):Calls Pg 97 #[t0,t1] w R:=by
 refine yD func97 ?_
 refine zs<|zr<|yv h λ _ w h=>yv h λ _ w h=>zm<|zn<|zk<|zs<|Zr<|yG 3<|yv h λ _ w h=>yv h λ _ w h=>zm<|zn<|yg1 3 2 false [8,9,10] 10 h (λ _ T hT h=>?_) λ σ w h=>?_
 · refine yv h λ _ w h=>yv h λ _ w h=>yb h λ _ w h=>zn ?_
   exact zt hT h
 refine yG 2<|yp h λ _ h=>zm<|zn<|yg1 3 7 true [13,14,15] 15 h (λ _ T hT h=>?_) λ σ w h=>?_
 · refine yv h λ _ w h=>yv h λ _ w h=>zm<|zn ?_
   exact zt hT h
 refine yg1 3 10 false [16,17,18] 18 h (λ _ T hT h=>?_) λ σ w h=>?_
 · refine yv h λ _ w h=>yv h λ _ w h=>yb h λ _ w h=>zn ?_
   exact zt hT h
 refine yg1 1 7 true [19] 19 h (λ _ T hT h=>?_) λ σ w h=>?_
 · refine yp h λ _ h=>zn ?_
   exact zt hT h
 refine yG 2<|yp h λ _ h=>zm<|zn<|yg1 3 16 true [22,23,24] 24 h (λ _ T hT h=>?_) λ σ w h=>?_
 · refine yv h λ _ w h=>yv h λ _ w h=>zm<|zn ?_
   exact zt hT h
 refine yg1 3 19 false [25,26,27] 27 h (λ _ T hT h=>?_) λ σ w h=>?_
 · refine yv h λ _ w h=>yv h λ _ w h=>yb h λ _ w h=>zn ?_
   exact zt hT h
 refine yg1 1 16 true [28] 28 h (λ _ T hT h=>?_) λ σ w h=>?_
 · refine yp h λ _ h=>zn ?_
   exact zt hT h
 refine yG 2<|yp h λ _ h=>zm<|zn<|yg1 3 25 true [31,32,33] 33 h (λ _ T hT h=>?_) λ σ w h=>?_
 · refine yv h λ _ w h=>yv h λ _ w h=>zm<|zn ?_
   exact zt hT h
 refine yg1 4 28 false [34,35,36,37] 37 h (λ _ T hT h=>?_) λ σ w h=>?_
 · refine yv h λ _ w h=>yv h λ _ w h=>yx h λ _ w h=>yb h λ _ w h=>zn ?_
   exact zt hT h
 refine yg1 1 25 true [38] 38 h (λ _ T hT h=>?_) λ σ w h=>?_
 · refine yp h λ _ h=>zn ?_
   exact zt hT h
 refine yG 2<|yp h λ _ h=>zm<|zn<|yg1 3 35 true [41,42,43] 43 h (λ _ T hT h=>?_) λ σ w h=>?_
 · refine yv h λ _ w h=>yv h λ _ w h=>zm<|zn ?_
   exact zt hT h
 refine yg1 4 38 false [44,45,46,47] 47 h (λ _ T hT h=>?_) λ σ w h=>?_
 · refine yv h λ _ w h=>yv h λ _ w h=>yx h λ _ w h=>yb h λ _ w h=>zn ?_
   exact zt hT h
 refine yg1 1 35 true [48] 48 h (λ _ T hT h=>?_) λ σ w h=>?_
 · refine yp h λ _ h=>zn ?_
   exact zt hT h
 exact yG 2<|yp h λ _ h=>zm<|zn<|ZK<|zk<|Zi<|Zk rfl rfl h
def Tv (a b c d:Vl) (ZA:KV) (R:RT) (w:Wd):Prop:=
 opV Pg (Zh .add 9 false c d) (Zb R) w λ e w=>
 Zg Pg 99 #[a,e] (Zb R) w λ g w=>
 opV Pg (Zh .add 3 true b (.int .i64 1)) (Zb R) w λ f w=>
 ZA f w
def Tw (a b c d:Vl) (ZA:KV) (R:RT) (w:Wd):Prop:=
 opV Pg (Zh .and 5 true c (.int .u8 15)) (Zb R) w λ e w=>
 opV Pg (Go.convert 5 191 e) (Zb R) w λ f w=>
 Zg Pg 133 #[f,(.int .i64 16)] (Zb R) w λ g w=>
 Tv a b d g ZA R w
def Tx (c d a:Vl) (ZA:KV) (R:RT) (w:Wd):Prop:=
 opV Pg (indexAt 40 c a) (Zb R) w λ e w=>
 opV Pg (loadAt 5 e) (Zb R) w λ b w=>
 opV Pg (Zh .shr 5 true b (.int .u64 4)) (Zb R) w λ f w=>
 opV Pg (Go.convert 5 191 f) (Zb R) w λ g w=>
 Zg Pg 133 #[g,(.int .i64 16)] (Zb R) w λ h w=>
 Tw d a b h ZA R w
def Ty (c a d b:Vl) (ZA:KV) (R:RT) (w:Wd):Prop:=
 opV Pg (Zh .lss 3 false b d) (Zb R) w λ e w=>
 Zu e (
 Tx c a b ZA R w) (
 Zg Pg 100 #[a] (Zb R) w λ f w=>
 R (.returned f) w)
def Tz (a:Vl) (R:RT) (w:Wd):Prop:=
 opV Pg (Instr.alloc 159 true (.tuple #[])) (Zb R) w λ b w=>
 opV Pg (Builtin.len_ #[40] 3 #[a]) (Zb R) w λ c w=>
 Xd (λ d w ZA=>
 Ty a b c d ZA R w) (.int .i64 0) w
def n35 (a:Vl) (R:RT) (w:Wd):Prop:=
 opV Pg (Builtin.len_ #[40] 3 #[a]) (Zb R) w λ b w=>
 opV Pg (Zh .eql 3 true b (.int .i64 0)) (Zb R) w λ c w=>
 Zu c (
 R (.returned (.string { data := #[45] })) w) (
 Tz a R w)
theorem Zg1 {t0:Vl} {R:RT} {w:Wd} (h:n35 t0 R w):Calls Pg 102 #[t0] w R:=by
 refine yD func102 ?_
 refine zs<|zr<|zm<|zn<|zk<|zs<|zs<|zr<|zm<|yx h λ _ w h=>yb h λ _ w h=>zn<|zk<|yC h (λ h=>zs<|zr<|zm<|zn<|zk<|Zi<|Zc<|Zk rfl rfl h) λ h=>?_
 refine Zo<|zk<|zs<|zr<|yv h λ _ w h=>zn<|zk<|zs<|zs<|zr<|zm<|yx h λ _ w h=>zm<|zn<|zk ?_
 refine Zn<|yl1 [5,11,12,13,14,15,16,17,18,19,20,21,22,23,24,25] 11 h λ σ w next h=>zs<|zr<|yb h λ _ w h=>zn<|zk<|zs<|yC h (λ h=>?_) λ h=>?_
 · refine Zo<|zk<|zs<|Zn<|zs<|zr<|yv h λ _ w h=>yv h λ _ w h=>zm<|zn<|zk<|zr<|zm<|yb h λ _ w h=>yv h λ _ w h=>?_
   refine yc h Zcf λ _ w h=>zm<|yb h λ _ w h=>yv h λ _ w h=>yc h Zcf λ _ w h=>yb h λ _ w h=>yc h c99 λ _ w h=>zn<|Zf<|zk<|zr<|yb h λ _ w h=>zm<|zn<|zk ?_
   exact ⟨rfl,h⟩
 exact ZR<|Ze<|Ze<|Zx<|zk<|zs<|zr<|yc h Zft λ _ w h=>zm<|zn<|zk<|Zi<|Zk rfl rfl h
theorem Bq (w0:Wd) (v:Vl) (r:FrD) (hr:QH w0 v r) (x:AX):Ret Pg 97 #[v,Bj x] w0 λ q w'=>q = .bool (V3 r x)∧Ext w0 w':=by
 obtain ⟨bv,tv,rfl,hB,hT,o1,o2⟩:=hr.op
 obtain ⟨Ab,cb,rfl,_⟩:=Zd.open hB
 obtain ⟨At,ct,rfl,_⟩:=Zd.open hT
 obtain ⟨u1,u2,u3,u4,u5⟩:=x
 unfold Bj
 refine Zg0 (R:=ZJ _) ?_;unfold n34
 rw [YS]
 have c1:=Zz w0 #[.string r.to,.int .i64 r.kind,.string r.fr,.int .i64 r.add,.int .i64 r.value,.slice Ab r.bytes.length cb,.slice At r.table.length ct] 43
 have e1:Ext w0 (w0.alloc (.cells #[.string r.to,.int .i64 r.kind,.string r.fr,.int .i64 r.add,.int .i64 r.value,.slice Ab r.bytes.length cb,.slice At r.table.length ct] 43)):=ee
 generalize (w0.alloc (.cells #[.string r.to,.int .i64 r.kind,.string r.fr,.int .i64 r.add,.int .i64 r.value,.slice Ab r.bytes.length cb,.slice At r.table.length ct] 43))=w1 at *
 rw [YS]
 have c2:=Zz w1 #[.bool u1,.bool u2,.bool u3,.bool u4,.bool u5] 105
 have e2:Ext w1 (w1.alloc (.cells #[.bool u1,.bool u2,.bool u3,.bool u4,.bool u5] 105)):=ee
 generalize (w1.alloc (.cells #[.bool u1,.bool u2,.bool u3,.bool u4,.bool u5] 105))=w2 at *
 have c1:=e2.obj c1
 have e:=e1.trans e2
 have k1:=(Za c1).1
 have k2:=(Za c2).1
 clear c1 c2 e1 e2 hr hB hT
 simp (disch:=try exact DI) only [↓PR,QR,simprocAttr,k1,k2]
 have hcl:V3 r ⟨u1,u2,u3,u4,u5⟩=((u1||decide (r.fr=⟨#[]⟩))&&((u2||r.add == 0)&&((u3||r.value == 0)&&((u4||(r.bytes.length:Int) == 0)&&(u5||(r.table.length:Int) == 0))))):=by
  unfold V3
  have z:∀ n:Nat,((n:Int) == 0)=decide (n=0):=λ n=>by rw [Bool.eq_iff_iff];simp
  rw [z,z]
  rfl
 rw [hcl]
 clear hcl
 repeat' first
  | exact ⟨by simp [*],e⟩
  | (simp [*];done)
  | (refine D9 (λ _=>?_) (λ _=>?_)<;>simp (disch:=try exact DI) only [↓PR,QR,simprocAttr,↓Ol,↓Om,↓On,↓Oo,↓Oq,↓Ot,↓Ou,↓Ov,↓Ow, *])
  | (refine FU (λ _=>?_) (λ _=>?_)<;>simp (disch:=try exact DI) only [↓PR,QR,simprocAttr,↓Ol,↓Om,↓On,↓Oo,↓Oq,↓Ot,↓Ou,↓Ov,↓Ow, *])
def Ox (c d a:Vl) (R:RT) (w:Wd):Prop:=
 opV Pg (Instr.extract a 0) (Zb R) w λ e w=>
 opV Pg (Instr.extract a 1) (Zb R) w λ f w=>
 Ye w λ b w=>
 qV Pg b (Instr.sliceAt 9 c (some d) none none) λ g=>
 qV Pg b (Zh .eql 162 true f .nilIface) λ h=>
 R (.returned (.tuple #[e,g,h])) w
def xH (b a c d:Vl) (ZA:KV) (R:RT) (w:Wd):Prop:=
 ZD c d (.bool false) λ e=>
 Zu e (
 opV Pg (Zh .add 3 true a (.int .i64 1)) (Zb R) w λ f w=>
 ZA f w) (
 opV Pg (Instr.sliceAt 9 b none (some a) none) (Zb R) w λ g w=>
 Zg Pg 125 #[g] (Zb R) w λ h w=>
 Ox b a h R w)
def xI (g h c d i j:Vl) (ZA:KV) (R:RT) (w:Wd):Prop:=
 Zq (λ (a:Vl) (w:Wd)=>
 Zq (λ (b:Vl) (w:Wd)=>
 xH g h c b ZA R w) λ e=>
 Zp c true (
 ZD d (.bool true) a λ b=>
 e b w) (
 e undef w)) λ f=>
 Zp d false (
 ZD i j (.bool false) λ a=>
 f a w) (
 f undef w)
def xJ (b e f g c:Vl) (ZA:KV) (R:RT) (w:Wd):Prop:=
 Zq (λ (a:Vl) (w:Wd)=>
 xI b e f g c a ZA R w) λ d=>
 Zp c true (
 opV Pg (Instr.index 9 b (.int .i64 0)) (Zb R) w λ h w=>
 opV Pg (Zh .eql 5 true h (.int .u8 45)) (Zb R) w λ a w=>
 d a w) (
 d undef w)
def xK (d a e b:Vl) (ZA:KV) (R:RT) (w:Wd):Prop:=
 Zq (λ (f:Vl) (w:Wd)=>
 xJ d a e b f ZA R w) λ c=>
 Zp b false (
 opV Pg (Zh .eql 3 true a (.int .i64 0)) (Zb R) w λ g w=>
 c g w) (
 c undef w)
def xL (b c d e:Vl) (ZA:KV) (R:RT) (w:Wd):Prop:=
 Zq (λ (a:Vl) (w:Wd)=>
 Zq (λ (h:Vl) (w:Wd)=>
 xK b c d h ZA R w) λ f=>
 Zp d true (
 ZD e a (.bool false) λ i=>
 f i w) (
 f undef w)) λ g=>
 Zp e true (
 opV Pg (Instr.index 9 b c) (Zb R) w λ j w=>
 opV Pg (Zh .leq 5 true j (.int .u8 57)) (Zb R) w λ a w=>
 g a w) (
 g undef w)
def TD (a b:Vl) (ZA:KV) (R:RT) (w:Wd):Prop:=
 opV Pg (Builtin.len_ #[9] 3 #[a]) (Zb R) w λ e w=>
 opV Pg (Zh .lss 3 false b e) (Zb R) w λ c w=>
 Zq (λ (f:Vl) (w:Wd)=>
 xL a b c f ZA R w) λ d=>
 Zp c true (
 opV Pg (Instr.index 9 a b) (Zb R) w λ g w=>
 opV Pg (Zh .geq 5 true g (.int .u8 48)) (Zb R) w λ h w=>
 d h w) (
 d undef w)
def n37 (a:Vl) (R:RT) (w:Wd):Prop:=
 Xd (λ b w ZA=>
 TD a b ZA R w) (.int .i64 0) w
theorem Zg3 {t0:Vl} {R:RT} {w:Wd} (h:n37 t0 R w):Calls Pg 87 #[t0] w R:=by
 refine yD func87 ?_
 refine zs<|zr<|zm<|zm<|zm<|zn<|zk<|zs<|zr<|zm<|zn<|zk<|zs<|Zn<|yl1 [5,8,9,10,11,12,13,14,15,16,17,18,19,20,21,22,23,24,25,26,27,28,29,30,31,32,33,34] 5 h λ σ w next h=>?_
 refine zs<|zs<|Zr<|yG 5<|zm<|zm<|yx h λ _ w h=>yb h λ _ w h=>zm<|zn<|yg1 5 4 true [13,14,15,16,17] 17 h (λ _ T hT h=>?_) λ σ w h=>?_
 · refine zm<|zm<|yv h λ _ w h=>yb h λ _ w h=>zm<|zn ?_
   exact zt hT h
 refine yg1 4 9 true [18,19,20,21] 21 h (λ _ T hT h=>?_) λ σ w h=>?_
 · refine zm<|zm<|yv h λ _ w h=>yb h λ _ w h=>zn ?_
   exact zt hT h
 refine yg1 2 4 true [22,23] 23 h (λ _ T hT h=>?_) λ σ w h=>?_
 · refine yp h λ _ h=>zm<|zn ?_
   exact zt hT h
 refine yg1 3 15 false [24,25,26] 26 h (λ _ T hT h=>?_) λ σ w h=>?_
 · refine zm<|yb h λ _ w h=>zm<|zn ?_
   exact zt hT h
 refine yg1 3 18 true [27,28,29] 29 h (λ _ T hT h=>?_) λ σ w h=>?_
 · refine zm<|yv h λ _ w h=>yb h λ _ w h=>zn ?_
   exact zt hT h
 refine yg1 1 15 false [30] 30 h (λ _ T hT h=>?_) λ σ w h=>?_
 · refine yp h λ _ h=>zn ?_
   exact zt hT h
 refine yg1 1 4 true [31] 31 h (λ _ T hT h=>?_) λ σ w h=>?_
 · refine yp h λ _ h=>zn ?_
   exact zt hT h
 refine yG 1<|yp h λ _ h=>zn<|ZK<|zk<|yC h (λ h=>Zo<|zk<|Zn<|zr<|zm<|yb h λ _ w h=>zm<|zn<|Zf<|zk<|⟨rfl,h⟩) λ h=>ZR<|Ze<|Ze<|Zx<|zk<|zs<|zr<|zm ?_
 refine zm<|yv h λ _ w h=>yc h ZfD λ _ w h=>zm<|yv h λ _ w h=>yv h λ _ w h=>zm<|zm<|zn<|zk<|zs<|yh [2,3,4,42,43,44,45,46,47] h λ C hC h=>yw 0 hC ?_
 refine yw 1 hC ?_
 refine yw 2 hC ?_
 refine ye 3 hC h λ _ h=>?_
 refine yw 4 hC ?_
 refine ye 5 hC h λ _ h=>?_
 refine yw 6 hC ?_
 refine yw 7 hC ?_
 refine yw 8 hC ?_
 exact yz<|zk<|Zi<|Lp rfl rfl rfl rfl h
def T4 (b c:Vl) (d:WPr) (a:PEn) (R:RT) (w:Wd):Prop:=
 opV Pg (loadAt 40 b) a w λ e w=>
 opV Pg (Go.convert 191 5 c) a w λ f w=>
 opV Pg (buildSlice 40 1 #[(0,f)]) a w λ g w=>
 opV Pg (Builtin.append_ #[40,40] 40 #[e,g]) a w λ h w=>
 opU Pg (storeAt 40 b h) a w λ w=>
 d w
def T5 (b c:Vl) (d:WPr) (a:PEn) (e:Nat→Wd→Prop) (R:RT) (w:Wd):Prop:=
 opV Pg (Instr.extract c 0) a w λ f w=>
 opV Pg (Instr.extract c 1) a w λ g w=>
 opV Pg (Zh .neq 162 true g .nilIface) a w λ h w=>
 Zu h (
 opU Pg (storeAt 40 b (Value.slice none 0 0)) a w λ w=>
 e 0 w) (
 T4 b f d a R w)
def Zej (b c:Vl) (d:WPr) (a:PEn) (e:Nat→Wd→Prop) (l1:Nat) (R:RT) (w:Wd):Prop:=
 qM l1 w λ w=>
 opV Pg (Go.convert 40 9 c) a w λ f w=>
 Zg Pg 127 #[f,(.int .i64 16),(.int .i64 8)] a w λ g w=>
 T5 b g d a e R w
def T6 (a:Vl) (ds:LDf) (R:RT) (w:Wd):Prop:=
 opV Pg (loadAt 40 a) (Zy Pg ds [(some 40,a)] R) w λ b w=>
 opU Pg (storeAt 40 a b) (Zy Pg ds [(some 40,a)] R) w λ w=>
 VH Pg ds [(some 40,a)] R w
def T7 (a b:Vl) (ds:LDf) (R:RT) (w:Wd):Prop:=
 An Pg b ds (λ l1 c w d e f=>
 Zej a c d f e l1 R w) (λ ch ds w=>Zy Pg ds [(some 40,a)] R ch w) w (λ ds w=>
 T6 a ds R w) [λ ds w=>
 VH Pg ds [(some 40,a)] R w]
def n47 (b:Vl) (R:RT) (w:Wd):Prop:=
 (λ (ds:LDf)=>
 opV Pg (Instr.alloc 40 true (.tuple #[])) (Zy Pg ds [(some 40,undef)] R) w λ a w=>
 opV Pg (Go.convert 9 40 b) (Zy Pg ds [(some 40,a)] R) w λ c w=>
 Zg Pg 126 #[c,(.int .i64 2)] (Zy Pg ds [(some 40,a)] R) w λ d w=>
 T7 a d ds R w) []
theorem Zhd {t0:Vl} {R:RT} {w:Wd} (h:n47 t0 R w):Calls Pg 88 #[t0] w R:=by
 refine yE func88 ?_
 unfold n47 at h
 dsimp only at h
 refine zs<|zr<|yv h λ _ w h=>zn<|zk<|zs<|zs<|zr<|zm<|yv h λ _ w h=>yc h ZfE λ _ w h=>zn<|zk<|Zn<|JO [.ret] h rfl (λ l1 t9 w Kr1 Xr1 Qr1 h=>?_) (λ ds w h=>?_) (λ c ds w h=>?_) (λ ch ds w h=>XM rfl h)
 · refine zr<|zm<|zn<|zk ?_
   obtain ⟨hr,h⟩:=h
   refine ⟨rfl,hr,λ w hb=>?_⟩
   have h:=h w hb
   refine Zn<|zs<|zr<|zm<|yv h λ _ w h=>yc h c127 λ _ w h=>zm<|yv h λ _ w h=>yv h λ _ w h=>zm<|zm<|zn<|zk<|zs<|zs ?_
   refine zr<|zm<|yb h λ _ w h=>zn<|zk<|yC h (λ h=>zs<|zr<|yu h λ w h=>zn<|zk<|Zi<|Zc<|Zj<|⟨rfl,0,rfl,h⟩) λ h=>Zo<|zk<|zr<|yv h λ _ w h=>zm<|yv h λ _ w h=>yS h λ _ w h=>yx h λ _ w h=>?_
   exact yu h λ w h=>zn<|Zf<|⟨rfl,h⟩
 · exact Zf<|zk<|zs<|zr<|yv h λ _ w h=>yu h λ w h=>zn<|zk<|Zi<|XN rfl h
 rcases c with _ | c
 · refine ⟨_,rfl,.inl ⟨rfl,?_⟩⟩
   exact Zj<|Zc<|XN rfl h
 exact h.elim
def TT (b e f g h:Vl) (R:RT) (w:Wd):Prop:=
 ZD g h (.bool false) λ c=>
 Zq (λ (a:Vl) (w:Wd)=>
 ZD c a (.bool false) λ i=>
 opU Pg (storeAt 78 b f) (Zb R) w λ w=>
 qW Pg 78 b w λ r0=>
 R (.returned (.tuple #[r0,i])) w) λ d=>
 Zp c true (
 opV Pg (Zh .eql 9 true e (.string { data := #[] })) (Zb R) w λ a w=>
 d a w) (
 d undef w)
def TU (a c g b:Vl) (R:RT) (w:Wd):Prop:=
 opV Pg (Instr.extract b 0) (Zb R) w λ h w=>
 opV Pg (Instr.extract b 1) (Zb R) w λ i w=>
 opV Pg (Instr.extract b 2) (Zb R) w λ j w=>
 opV Pg (fieldAt 78 a 2) (Zb R) w λ k w=>
 opU Pg (storeAt 3 k h) (Zb R) w λ w=>
 opV Pg (loadAt 78 a) (Zb R) w λ l w=>
 Zq (λ (m:Vl) (w:Wd)=>
 ZD c m (.bool false) λ d=>
 Zq (λ (n:Vl) (w:Wd)=>
 TT a i l d n R w) λ e=>
 Zp d true (
 e j w) (
 e undef w)) λ f=>
 Zp c true (
 f g w) (
 f undef w)
def TV (b c a:Vl) (R:RT) (w:Wd):Prop:=
 opV Pg (Instr.extract a 0) (Zb R) w λ d w=>
 opV Pg (Instr.extract a 1) (Zb R) w λ e w=>
 Zg Pg 87 #[d] (Zb R) w λ f w=>
 TU b c e f R w
def TW (c d e f g:Vl) (R:RT) (w:Wd):Prop:=
 ZD d g (.bool false) λ a=>
 Zq (λ (h:Vl) (w:Wd)=>
 ZD a h (.bool false) λ i=>
 Zg Pg 128 #[e,(.string { data := #[58] })] (Zb R) w λ j w=>
 TV c i j R w) λ b=>
 Zp a true (
 b f w) (
 b undef w)
def TX (b c e a:Vl) (R:RT) (w:Wd):Prop:=
 opV Pg (Instr.extract a 0) (Zb R) w λ f w=>
 opV Pg (Instr.extract a 1) (Zb R) w λ g w=>
 opV Pg (Instr.extract a 2) (Zb R) w λ h w=>
 opV Pg (fieldAt 78 b 1) (Zb R) w λ i w=>
 opU Pg (storeAt 3 i f) (Zb R) w λ w=>
 Zq (λ (j:Vl) (w:Wd)=>
 TW b c g h j R w) λ d=>
 Zp c true (
 d e w) (
 d undef w)
def TY (b c a:Vl) (R:RT) (w:Wd):Prop:=
 opV Pg (Instr.extract a 0) (Zb R) w λ d w=>
 opV Pg (Instr.extract a 1) (Zb R) w λ e w=>
 Zg Pg 87 #[d] (Zb R) w λ f w=>
 TX b c e f R w
def TZ (b a:Vl) (R:RT) (w:Wd):Prop:=
 opV Pg (Instr.extract a 0) (Zb R) w λ c w=>
 opV Pg (Instr.extract a 1) (Zb R) w λ d w=>
 opV Pg (Instr.extract a 2) (Zb R) w λ e w=>
 opV Pg (fieldAt 78 b 0) (Zb R) w λ f w=>
 opU Pg (storeAt 3 f c) (Zb R) w λ w=>
 Zg Pg 128 #[d,(.string { data := #[45] })] (Zb R) w λ g w=>
 TY b e g R w
def n45 (a:Vl) (R:RT) (w:Wd):Prop:=
 opV Pg (Instr.alloc 78 true (.tuple #[])) (Zb R) w λ b w=>
 Zg Pg 87 #[a] (Zb R) w λ c w=>
 TZ b c R w
theorem Zhb {t0:Vl} {R:RT} {w:Wd} (h:n45 t0 R w):Calls Pg 89 #[t0] w R:=by
 refine yD func89 ?_
 refine zs<|zr<|yv h λ _ w h=>zm<|zn<|zk<|zs<|zr<|zm<|zm<|zm<|zn<|zk<|zs<|zr ?_
 refine zm<|yc h c87 λ _ w h=>zm<|yv h λ _ w h=>yv h λ _ w h=>yv h λ _ w h=>yv h λ _ w h=>yu h λ w h=>zm<|zm<|zn<|zk<|zs<|zr<|zm ?_
 refine yc h Zce λ _ w h=>zm<|yv h λ _ w h=>yv h λ _ w h=>zm<|zm<|zn<|zk<|zs<|zr<|zm<|yc h c87 λ _ w h=>zm<|yv h λ _ w h=>yv h λ _ w h=>?_
 refine yv h λ _ w h=>yv h λ _ w h=>yu h λ w h=>zm<|zm<|zn<|zk<|zs<|Zr<|yG 2<|zm<|zm<|zn<|yg1 1 1 true [28] 28 h (λ _ T hT h=>?_) λ σ w h=>?_
 · refine zm<|zn ?_
   exact zt hT h
 refine yG 2<|yp h λ _ h=>zm<|zn<|yg1 1 4 true [31] 31 h (λ _ T hT h=>?_) λ σ w h=>?_
 · refine zm<|zn ?_
   exact zt hT h
 refine yG 2<|yp h λ _ h=>zm<|zn<|ZK<|zk<|zs<|zr<|zm<|yc h Zce λ _ w h=>zm<|yv h λ _ w h=>yv h λ _ w h=>zm<|zm ?_
 refine zn<|zk<|zs<|zr<|zm<|yc h c87 λ _ w h=>zm<|yv h λ _ w h=>yv h λ _ w h=>yv h λ _ w h=>yv h λ _ w h=>yu h λ w h=>zm<|zm<|zn ?_
 refine zk<|zs<|Zr<|yG 3<|yv h λ _ w h=>zm<|zm<|zn<|yg1 1 2 true [48] 48 h (λ _ T hT h=>?_) λ σ w h=>?_
 · refine zm<|zn ?_
   exact zt hT h
 refine yG 2<|yp h λ _ h=>zm<|zn<|yg1 1 5 true [51] 51 h (λ _ T hT h=>?_) λ σ w h=>?_
 · refine zm<|zn ?_
   exact zt hT h
 refine yG 2<|yp h λ _ h=>zm<|zn<|yg1 2 8 true [54,55] 55 h (λ _ T hT h=>?_) λ σ w h=>?_
 · refine zm<|yb h λ _ w h=>zn ?_
   exact zt hT h
 exact yG 3<|yp h λ _ h=>yu h λ w h=>zm<|zn<|ZK<|zk<|Zi<|YO rfl rfl rfl h
def ZdI (a b:Vl) (R:RT) (w:Wd):Prop:=
 Zg Pg 129 #[a,b] (Zb R) w λ c w=>
 opV Pg (Zh .geq 3 true c (.int .i64 0)) (Zb R) w λ d w=>
 R (.returned d) w
theorem ZdJ {t0 t1:Vl} {R:RT} {w:Wd} (h:ZdI t0 t1 R w):Calls Pg 90 #[t0,t1] w R:=by
 refine yD func90 ?_
 refine zs<|zr<|zm<|zn<|zk<|zs<|zr<|zm<|zm<|yc h ZfF λ _ w h=>yb h λ _ w h=>zm<|zn<|zk<|Zi ?_
 exact Zk rfl rfl h
def n41 (a:Vl) (R:RT) (w:Wd):Prop:=
 Zg Pg 35 #[a] (Zb R) w λ b w=>
 opV Pg (Op.unary .not b) (Zb R) w λ c w=>
 R (.returned c) w
theorem Zg7 {t0:Vl} {R:RT} {w:Wd} (h:n41 t0 R w):Calls Pg 91 #[t0] w R:=by
 refine yD func91 ?_
 exact zs<|zr<|zm<|zn<|zk<|zs<|zr<|zm<|yc h c35 λ _ w h=>yv h λ _ w h=>zm<|zn<|zk<|Zi<|Zk rfl rfl h
def N4 (a b:Vl) (R:RT) (w:Wd):Prop:=
 opV Pg (Op.unary .not b) (Zb R) w λ c w=>
 Zu c (
 R (.returned (.tuple #[(.int .i64 0),(.bool false)])) w) (
 opV Pg (loadAt 3 a) (Zb R) w λ d w=>
 R (.returned (.tuple #[d,(.bool true)])) w)
def Tb (b a:Vl) (c:WPr) (R:RT) (w:Wd):Prop:=
 opV Pg (loadAt 3 a) (Zb R) w λ d w=>
 opV Pg (fieldAt 43 b 3) (Zb R) w λ e w=>
 opV Pg (loadAt 3 e) (Zb R) w λ f w=>
 opV Pg (Zh .add 3 false d f) (Zb R) w λ g w=>
 opU Pg (storeAt 3 a g) (Zb R) w λ w=>
 c w
def Tc (a b c:Vl) (d:WPr) (R:RT) (w:Wd):Prop:=
 opV Pg (fieldAt 43 a 6) (Zb R) w λ e w=>
 opV Pg (loadAt 41 e) (Zb R) w λ f w=>
 opV Pg (indexAt 41 f c) (Zb R) w λ g w=>
 opV Pg (fieldAt 78 g 2) (Zb R) w λ h w=>
 opV Pg (loadAt 3 h) (Zb R) w λ i w=>
 opU Pg (storeAt 3 b i) (Zb R) w λ w=>
 d w
def Td (a b:Vl) (d:WPr) (R:RT) (w:Wd):Prop:=
 opV Pg (fieldAt 43 a 6) (Zb R) w λ e w=>
 opV Pg (loadAt 41 e) (Zb R) w λ f w=>
 opV Pg (makeFunc (.func 44) #[] #[b]) (Zb R) w λ g w=>
 Zg Pg 43 #[f,g] (Zb R) w λ c w=>
 opV Pg (Zh .lss 3 true c (.int .i64 0)) (Zb R) w λ h w=>
 Zu h (
 R (.returned (.tuple #[(.int .i64 0),(.bool false)])) w) (
 Tc a b c d R w)
def Te (a b:Vl) (c:WPr) (R:RT) (w:Wd):Prop:=
 opV Pg (fieldAt 43 a 4) (Zb R) w λ d w=>
 opV Pg (loadAt 3 d) (Zb R) w λ e w=>
 opU Pg (storeAt 3 b e) (Zb R) w λ w=>
 c w
def Tf (a b:Vl) (c:WPr) (R:RT) (w:Wd):Prop:=
 opV Pg (fieldAt 43 a 3) (Zb R) w λ d w=>
 opV Pg (loadAt 3 d) (Zb R) w λ e w=>
 opV Pg (fieldAt 43 a 3) (Zb R) w λ f w=>
 opV Pg (loadAt 3 f) (Zb R) w λ g w=>
 opV Pg (Op.unary .neg g) (Zb R) w λ h w=>
 opV Pg (Builtin.max_ #[3,3] 3 #[e,h]) (Zb R) w λ i w=>
 Zg Pg 42 #[i] (Zb R) w λ j w=>
 opV Pg (Op.unary .not j) (Zb R) w λ k w=>
 Zu k (
 R (.returned (.tuple #[(.int .i64 0),(.bool false)])) w) (
 Tb a b c R w)
def IL (a b c:Vl) (d:WPr) (R:RT) (w:Wd):Prop:=
 opV Pg (Zh .eql 39 true c (.int .i64 3)) (Zb R) w λ e w=>
 Zu e (
 Te a b d R w) (
 opV Pg (Zh .eql 39 true c (.int .i64 5)) (Zb R) w λ f w=>
 Zu f (
 Td a b d R w) (
 R (.returned (.tuple #[(.int .i64 0),(.bool false)])) w))
def Tg (b a:Vl) (R:RT) (w:Wd):Prop:=
 opV Pg (fieldAt 43 b 1) (Zb R) w λ e w=>
 opV Pg (loadAt 39 e) (Zb R) w λ c w=>
 opV Pg (Zh .eql 39 true c (.int .i64 1)) (Zb R) w λ f w=>
 Zq (λ (w:Wd)=>
 opV Pg (loadAt 3 a) (Zb R) w λ g w=>
 Zg Pg 42 #[g] (Zb R) w λ h w=>
 N4 a h R w) λ d=>
 Zu f (
 d w) (
 opV Pg (Zh .eql 39 true c (.int .i64 2)) (Zb R) w λ i w=>
 Zu i (
 Tf b a d R w) (
 IL b a c d R w))
def n17 (b c:Vl) (R:RT) (w:Wd):Prop:=
 opV Pg (Instr.box 43 b) (Zb R) w λ d w=>
 opV Pg (Instr.box 3 c) (Zb R) w λ a w=>
 opV Pg (loadAt 3 a) (Zb R) w λ e w=>
 Zg Pg 42 #[e] (Zb R) w λ f w=>
 opV Pg (Op.unary .not f) (Zb R) w λ g w=>
 Zu g (
 R (.returned (.tuple #[(.int .i64 0),(.bool false)])) w) (
 Tg d a R w)
theorem ZgK {t0 t1:Vl} {R:RT} {w:Wd} (h:n17 t0 t1 R w):Calls Pg 18 #[t0,t1] w R:=by
 refine yD func18 ?_
 refine zs<|zr<|yv h λ _ w h=>yv h λ _ w h=>zm<|zm<|zn<|zk<|zs<|zs<|zr<|yv h λ _ w h=>yc h c42 λ _ w h=>yv h λ _ w h=>zn ?_
 refine zk<|yC h (λ h=>zs<|zr<|zm<|zm<|zn<|zk<|Zi<|Zc<|Z9 rfl rfl rfl h) λ h=>Zo<|zk<|zs<|zs<|zr<|yv h λ _ w h=>yv h λ _ w h=>zn<|zk<|Zn<|zs<|zr ?_
 refine yb h λ _ w h=>zm<|zn<|zk<|yJ0 [4,5,6,14,15,16,17,18,19,20,21,22,23,24,25,26,27,28,29,30,31,32,33,34,35,36,37,38,39,40,41,42,43,44,45] h (λ _ _ hkK1 h=>?_) λ σ w h=>?_
 · refine yC h (λ h=>?_) λ h=>?_
   · refine Zo<|zk ?_
     exact zt hkK1 h
   refine zs<|zr<|yb h λ _ w h=>zm<|zn<|zk<|yC h (λ h=>?_) λ h=>?_
   · refine zs<|zs<|zr<|yv h λ _ w h=>yv h λ _ w h=>yv h λ _ w h=>yv h λ _ w h=>yv h λ _ w h=>yx h λ _ w h=>yc h c42 λ _ w h=>yv h λ _ w h=>zn<|zk<|yC h (λ h=>zs<|zr<|zm<|zm<|zn<|zk<|Zi<|Zc<|Zc<|Zj<|Zc<|Z9 rfl rfl rfl h) λ h=>?_
     refine Zo<|zk<|zr<|yv h λ _ w h=>yv h λ _ w h=>yv h λ _ w h=>yb h λ _ w h=>yu h λ w h=>zn<|zk ?_
     exact zt hkK1 h
   refine zs<|zr<|yb h λ _ w h=>zm<|zn<|zk<|yC h (λ h=>?_) λ h=>?_
   · refine zr<|yv h λ _ w h=>yv h λ _ w h=>yu h λ w h=>zn<|zk ?_
     exact zt hkK1 h
   refine zs<|zr<|yb h λ _ w h=>zm<|zn<|zk<|yC h (λ h=>?_) λ h=>?_
   · refine zs<|zr<|yv h λ _ w h=>yv h λ _ w h=>yF h λ _ w h=>yc h c43 λ _ w h=>zm<|zn<|zk<|zs<|zs<|zr<|zm<|yb h λ _ w h=>zn ?_
     refine zk<|yC h (λ h=>zs<|zr<|zm<|zm<|zn<|zk<|Zi<|Zc<|Zc<|Zj<|Zc<|Z9 rfl rfl rfl h) λ h=>Zo<|zk<|zr<|yv h λ _ w h=>yv h λ _ w h=>zm<|yv h λ _ w h=>yv h λ _ w h=>yv h λ _ w h=>yu h λ w h=>zn<|zk ?_
     exact zt hkK1 h
   exact zs<|zr<|zm<|zm<|zn<|zk<|Zi<|Zc<|Zj<|Zc<|Z9 rfl rfl rfl h
 refine Zf<|zk<|zs<|zs<|zr<|yv h λ _ w h=>yc h c42 λ _ w h=>yv h λ _ w h=>zn<|zk<|yC h (λ h=>zs<|zr<|zm<|zm<|zn<|zk<|Zi<|Zc<|Z9 rfl rfl rfl h) λ h=>Zo<|zk<|zs ?_
 exact zr<|yv h λ _ w h=>zm<|zm<|zn<|zk<|Zi<|Z9 rfl rfl rfl h
def Pa (b e:Vl) (R:RT) (w:Wd):Prop:=
 opV Pg (Op.unary .not e) (Zb R) w λ c w=>
 Zq (λ (a:Vl) (w:Wd)=>
 ZD c (.bool true) a λ f=>
 Zu f (
 R (.returned (.tuple #[(.int .i64 0),(.bool false)])) w) (
 R (.returned (.tuple #[b,(.bool true)])) w)) λ d=>
 Zp c false (
 Zg Pg 45 #[b] (Zb R) w λ g w=>
 opV Pg (Op.unary .not g) (Zb R) w λ a w=>
 d a w) (
 d undef w)
def Zau (a b c:Vl) (d:KW) (R:RT) (w:Wd):Prop:=
 opV Pg (fieldAt 43 b 3) (Zb R) w λ e w=>
 opV Pg (loadAt 3 e) (Zb R) w λ f w=>
 opV Pg (Zh .add 3 false a f) (Zb R) w λ g w=>
 d g c w
def Zav (a b:Vl) (c:KW) (R:RT) (w:Wd):Prop:=
 opV Pg (fieldAt 43 a 6) (Zb R) w λ d w=>
 opV Pg (loadAt 41 d) (Zb R) w λ e w=>
 opV Pg (indexAt 41 e b) (Zb R) w λ f w=>
 opV Pg (fieldAt 78 f 2) (Zb R) w λ g w=>
 opV Pg (loadAt 3 g) (Zb R) w λ h w=>
 c h (.bool true) w
def Zaw (e a b c f g:Vl) (QL:Vl→Vl→Vl→Wd→Prop) (R:RT) (w:Wd):Prop:=
 ZD f g (.bool false) λ h=>
 Zq (λ (a:Vl) (b:Vl) (w:Wd)=>
 opV Pg (Zh .sub 3 true c (.int .i64 1)) (Zb R) w λ i w=>
 QL a b i w) λ d=>
 Zu h (
 Zav e c d R w) (
 d a b w)
def Zax (d a g h b:Vl) (QL:Vl→Vl→Vl→Wd→Prop) (R:RT) (w:Wd):Prop:=
 opV Pg (fieldAt 43 a 6) (Zb R) w λ i w=>
 opV Pg (loadAt 41 i) (Zb R) w λ j w=>
 opV Pg (indexAt 41 j b) (Zb R) w λ k w=>
 opV Pg (fieldAt 78 k 0) (Zb R) w λ l w=>
 opV Pg (loadAt 3 l) (Zb R) w λ m w=>
 opV Pg (Zh .leq 3 false m d) (Zb R) w λ e w=>
 Zq (λ (c:Vl) (w:Wd)=>
 Zaw a g h b e c QL R w) λ f=>
 Zp e true (
 opV Pg (fieldAt 43 a 6) (Zb R) w λ n w=>
 opV Pg (loadAt 41 n) (Zb R) w λ o w=>
 opV Pg (indexAt 41 o b) (Zb R) w λ p w=>
 opV Pg (fieldAt 78 p 1) (Zb R) w λ q w=>
 opV Pg (loadAt 3 q) (Zb R) w λ r w=>
 opV Pg (Zh .leq 3 false d r) (Zb R) w λ c w=>
 f c w) (
 f undef w)
def Zay (e a:Vl) (f:KW) (R:RT) (w:Wd):Prop:=
 opV Pg (fieldAt 43 a 6) (Zb R) w λ g w=>
 opV Pg (loadAt 41 g) (Zb R) w λ h w=>
 opV Pg (Builtin.len_ #[41] 3 #[h]) (Zb R) w λ i w=>
 opV Pg (Zh .sub 3 true i (.int .i64 1)) (Zb R) w λ j w=>
 Kv (λ b c d w QL=>
 opV Pg (Zh .geq 3 true d (.int .i64 0)) (Zb R) w λ k w=>
 Zu k (
 Zax e a b c d QL R w) (
 f b c w)) (.int .i64 0) (.bool false) j w
def Zaz (g a:Vl) (d:KW) (R:RT) (w:Wd):Prop:=
 opV Pg (fieldAt 43 a 3) (Zb R) w λ h w=>
 opV Pg (loadAt 3 h) (Zb R) w λ i w=>
 opV Pg (Zh .gtr 3 true i (.int .i64 (-34359738368))) (Zb R) w λ e w=>
 Zq (λ (b:Vl) (w:Wd)=>
 ZD e b (.bool false) λ c=>
 Zu c (
 Zau g a c d R w) (
 d (.int .i64 0) c w)) λ f=>
 Zp e true (
 opV Pg (fieldAt 43 a 3) (Zb R) w λ j w=>
 opV Pg (loadAt 3 j) (Zb R) w λ k w=>
 opV Pg (Zh .lss 3 true k (.int .i64 34359738368)) (Zb R) w λ b w=>
 f b w) (
 f undef w)
def IS (d b c:Vl) (a:KW) (R:RT) (w:Wd):Prop:=
 opV Pg (Zh .eql 3 true c (.int .i64 3)) (Zb R) w λ e w=>
 Zu e (
 opV Pg (fieldAt 43 b 4) (Zb R) w λ f w=>
 opV Pg (loadAt 3 f) (Zb R) w λ g w=>
 a g (.bool true) w) (
 opV Pg (Zh .eql 3 true c (.int .i64 5)) (Zb R) w λ h w=>
 Zu h (
 Zay d b a R w) (
 a (.int .i64 0) (.bool false) w))
def ZaA (a b:Vl) (R:RT) (w:Wd):Prop:=
 opV Pg (fieldAt 43 b 1) (Zb R) w λ e w=>
 opV Pg (loadAt 39 e) (Zb R) w λ c w=>
 opV Pg (Zh .eql 3 true c (.int .i64 1)) (Zb R) w λ f w=>
 Zq (λ (g:Vl) (h:Vl) (w:Wd)=>
 Pa g h R w) λ d=>
 Zu f (
 d a (.bool true) w) (
 opV Pg (Zh .eql 3 true c (.int .i64 2)) (Zb R) w λ i w=>
 Zu i (
 Zaz a b d R w) (
 IS a b c d R w))
def n55 (b a:Vl) (R:RT) (w:Wd):Prop:=
 opV Pg (Instr.box 43 b) (Zb R) w λ c w=>
 Zg Pg 45 #[a] (Zb R) w λ d w=>
 opV Pg (Op.unary .not d) (Zb R) w λ e w=>
 Zu e (
 R (.returned (.tuple #[(.int .i64 0),(.bool false)])) w) (
 ZaA a c R w)
set_option maxHeartbeats 40000000 in
theorem Zhl {t0 t1:Vl} {R:RT} {w:Wd} (h:n55 t0 t1 R w):Calls Pg 19 #[t0,t1] w R:=by
 refine yD func19 ?_
 refine zs<|zr<|yv h λ _ w h=>zm<|zm<|zn<|zk<|zs<|zr<|zm<|zm<|zn<|zk<|zs<|zs ?_
 refine zr<|zm<|yc h c45 λ _ w h=>yv h λ _ w h=>zn<|zk<|yC h (λ h=>zs<|zr<|zm<|zm<|zn<|zk<|Zi<|Zc<|Z9 rfl rfl rfl h) λ h=>Zo<|zk<|zs<|zs<|zr<|yv h λ _ w h=>yv h λ _ w h=>?_
 refine zn<|zk<|Zn<|zs<|zr<|yb h λ _ w h=>zm<|zn<|zk<|yJ2 [6,7,8,16,17,18,19,20,21,22,23,24,25,26,27,28,29,30,31,32,33,34,35,36,37,38,39,40,41,42,43,44,45,46,47,48,49,50,51,52,53,54,55,56,57,58,59,60,61,62,63,64,65,66,67,68,69] 6 7 h (λ _ _ hkK1 h=>?_) λ σ w h=>?_
 · refine yC h (λ h=>?_) λ h=>?_
   · refine zr<|zm<|zm<|zm<|zn<|zk ?_
     exact zt hkK1 h
   refine zs<|zr<|yb h λ _ w h=>zm<|zn<|zk<|yC h (λ h=>?_) λ h=>?_
   · refine zs<|Zr<|yG 4<|yv h λ _ w h=>yv h λ _ w h=>yb h λ _ w h=>zm<|zn<|yg1 3 3 true [23,24,25] 25 h (λ _ T hT h=>?_) λ σ w h=>?_
     · refine yv h λ _ w h=>yv h λ _ w h=>yb h λ _ w h=>zn ?_
       exact zt hT h
     refine yG 2<|yp h λ _ h=>zm<|zn<|ZK<|zk<|zs<|zr<|zm<|zn<|zk<|yC h (λ h=>?_) λ h=>?_
     · refine zr<|zm<|yv h λ _ w h=>yv h λ _ w h=>yb h λ _ w h=>zm<|zn<|zk ?_
       exact zt hkK1 h
     refine Zo<|zk ?_
     exact zt hkK1 h
   refine zs<|zr<|yb h λ _ w h=>zm<|zn<|zk<|yC h (λ h=>?_) λ h=>?_
   · refine zr<|yv h λ _ w h=>yv h λ _ w h=>zm<|zm<|zn<|zk ?_
     exact zt hkK1 h
   refine zs<|zr<|yb h λ _ w h=>zm<|zn<|zk<|yC h (λ h=>?_) λ h=>?_
   · refine zs<|zr<|yv h λ _ w h=>yv h λ _ w h=>yx h λ _ w h=>yb h λ _ w h=>zm<|zn<|zk<|Zn<|yl3 [6,7,8,42,43,44,45,46,47,48,49,50,51,52,53,54,55,56,57,58,59,60,61,62,63,64,65,66,67,68,69] 6 7 8 h λ σ w next h=>zs<|zs<|zr<|zm ?_
     refine yb h λ _ w h=>zn<|zk<|yC h (λ h=>?_) λ h=>?_
     · refine Zo<|zk<|zs<|Zn<|zs<|Zr<|yG 9<|yv h λ _ w h=>yv h λ _ w h=>zm<|yv h λ _ w h=>yv h λ _ w h=>yv h λ _ w h=>zm<|yb h λ _ w h=>?_
       refine zm<|zn<|yg1 8 8 true [55,56,57,58,59,60,61,62] 62 h (λ _ T hT h=>?_) λ σ w h=>?_
       · refine zm<|yv h λ _ w h=>yv h λ _ w h=>zm<|yv h λ _ w h=>yv h λ _ w h=>yv h λ _ w h=>yb h λ _ w h=>zn ?_
         exact zt hT h
       refine yG 1<|yp h λ _ h=>zn<|ZK<|zk<|yJ2 [6,7,64,65,66,67,68,69] 6 7 h (λ _ _ hkK6 h=>?_) λ σ w h=>?_
       · refine yC h (λ h=>?_) λ h=>?_
         · refine zr<|yv h λ _ w h=>yv h λ _ w h=>zm<|yv h λ _ w h=>yv h λ _ w h=>yv h λ _ w h=>zm<|zm<|zn<|zk ?_
           exact zt hkK6 h
         refine Zo<|zk ?_
         exact zt hkK6 h
       exact Zf<|zk<|zr<|zm<|yb h λ _ w h=>zm<|zn<|zk<|⟨rfl,h⟩
     refine ZR<|Ze<|Ze<|Zx<|zk ?_
     exact zt hkK1 h
   refine Zo<|zk ?_
   exact zt hkK1 h
 refine Zf<|zk<|zs<|zs<|Zr<|yG 3<|zm<|yv h λ _ w h=>zm<|zn<|yg1 3 2 false [73,74,75] 75 h (λ _ T hT h=>?_) λ σ w h=>?_
 · refine zm<|yc h c45 λ _ w h=>yv h λ _ w h=>zn ?_
   exact zt hT h
 refine yG 1<|yp h λ _ h=>zn<|ZK<|zk<|yC h (λ h=>zs<|zr<|zm<|zm<|zn<|zk<|Zi<|Zc<|Z9 rfl rfl rfl h) λ h=>Zo<|zk<|zs<|zr<|zm<|zm<|zm<|zn ?_
 exact zk<|Zi<|Z9 rfl rfl rfl h
def Tp (a:Vl) (R:RT) (w:Wd):Prop:=
 opV Pg (Builtin.max_ #[3,3] 3 #[a,(.int .i64 0)]) (Zb R) w λ b w=>
 opV Pg (Zh .geq 3 true a (.int .i64 0)) (Zb R) w λ c w=>
 R (.returned (.tuple #[b,c])) w
def n21 (a b:Vl) (R:RT) (w:Wd):Prop:=
 opV Pg (Instr.box 24 a) (Zb R) w λ c w=>
 opV Pg (Instr.box 9 b) (Zb R) w λ d w=>
 opV Pg (fieldAt 24 c 1) (Zb R) w λ e w=>
 opV Pg (loadAt 22 e) (Zb R) w λ f w=>
 opV Pg (makeFunc (.func 47) #[] #[d]) (Zb R) w λ g w=>
 Zg Pg 46 #[f,g] (Zb R) w λ h w=>
 Tp h R w
theorem ZgO {t0 t1:Vl} {R:RT} {w:Wd} (h:n21 t0 t1 R w):Calls Pg 20 #[t0,t1] w R:=by
 refine yD func20 ?_
 refine zs<|zr<|yv h λ _ w h=>yv h λ _ w h=>zm<|zm<|zn<|zk<|zs<|zr<|yv h λ _ w h=>yv h λ _ w h=>yF h λ _ w h=>yc h c46 λ _ w h=>zm ?_
 exact zn<|zk<|zs<|zr<|zm<|yx h λ _ w h=>zm<|yb h λ _ w h=>zm<|zm<|zn<|zk<|Zi<|Z9 rfl rfl rfl h
def ZaB (b c a:Vl) (ZA:KV) (R:RT) (w:Wd):Prop:=
 opV Pg (fieldAt 24 c 1) (Zb R) w λ d w=>
 opV Pg (loadAt 22 d) (Zb R) w λ e w=>
 opV Pg (indexAt 22 e a) (Zb R) w λ f w=>
 opV Pg (fieldAt 60 f 0) (Zb R) w λ g w=>
 opV Pg (loadAt 9 g) (Zb R) w λ h w=>
 opV Pg (Zh .eql 9 false h b) (Zb R) w λ i w=>
 Zu i (
 R (.returned a) w) (
 opV Pg (Zh .add 3 true a (.int .i64 1)) (Zb R) w λ j w=>
 ZA j w)
def ZaC (c a b:Vl) (ZA:KV) (R:RT) (w:Wd):Prop:=
 opV Pg (fieldAt 24 a 1) (Zb R) w λ d w=>
 opV Pg (loadAt 22 d) (Zb R) w λ e w=>
 opV Pg (Builtin.len_ #[22] 3 #[e]) (Zb R) w λ f w=>
 opV Pg (Zh .lss 3 false b f) (Zb R) w λ g w=>
 Zu g (
 ZaB c a b ZA R w) (
 R (.returned (.int .i64 (-1))) w)
def n56 (a b:Vl) (R:RT) (w:Wd):Prop:=
 opV Pg (Instr.box 24 a) (Zb R) w λ c w=>
 Xd (λ d w ZA=>
 ZaC b c d ZA R w) (.int .i64 0) w
theorem Zhm {t0 t1:Vl} {R:RT} {w:Wd} (h:n56 t0 t1 R w):Calls Pg 21 #[t0,t1] w R:=by
 refine yD func21 ?_
 refine zs<|zr<|yv h λ _ w h=>zm<|zn<|zk<|zs<|zs<|zr<|zm<|zn<|zk<|Zn<|yl1 [4,5,6,7,8,9,10,11,12,13,14,15,16,17,18,19,20,21] 5 h λ σ w next h=>zs ?_
 refine zs<|zr<|zm<|yv h λ _ w h=>yv h λ _ w h=>yx h λ _ w h=>yb h λ _ w h=>zn<|zk<|yC h (λ h=>?_) λ h=>?_
 · refine Zo<|zk<|zs<|Zn<|zs<|zr<|yv h λ _ w h=>yv h λ _ w h=>zm<|yv h λ _ w h=>yv h λ _ w h=>yv h λ _ w h=>zm<|yb h λ _ w h=>zn ?_
   exact zk<|yC h (λ h=>zs<|zr<|zm<|zm<|zn<|zk<|Zi<|Zj<|Zc<|Zc<|Zj<|Zc<|Zk rfl rfl h) λ h=>Zo<|Zf<|zk<|zr<|zm<|yb h λ _ w h=>zm<|zn<|zk<|⟨rfl,h⟩
 exact ZR<|Ze<|Ze<|Zx<|zk<|zs<|zr<|zm<|zn<|zk<|Zi<|Zk rfl rfl h
abbrev Uf (w:Wd) (v:Vl) (l:List BAr):Prop:=Zd w 1 GQ v l
theorem before_succ {α:Type} {p:α→Bool} {l:List α} {k:Nat} {x:α} (h:∀ (j:Nat) y,j < k→l[j]?=some y→p y=false) (hx:l[k]?=some x) (hp:p x=false):∀ (j:Nat) y,j < k+1→l[j]?=some y→p y=false:=λ j y hj hy=>by
 by_cases hjk:j=k
 · subst hjk;rw [hx] at hy;injection hy with hy;subst hy;exact hp
 · exact h j y (by omega) hy
theorem JR (w0:Wd) (v:Vl) (l:List MrD) (g:FuncId) (caps:AVl) (p:MrD→Bool) (hs:Kg w0 v l) (hg:Callable Pg g) (hc:Uh w0 GU g caps p l) :
 Ret Pg 46 #[v,.func (.func g) #[] caps] w0 λ r w'=>r = .int .i64 (idx p l)∧Ext w0 w':=by
 obtain ⟨A,c,rfl,hlc,hcm,hlm,YV⟩:=Zd.open hs
 refine ZdZ (R:=ZJ _) ?_;unfold ZdY
 simp (disch:=try exact DI) only [↓PR,QR,simprocAttr]
 refine ZQ (λ i w=>∃ k:Nat,i = .int .i64 k∧k≤l.length∧Ext w0 w∧∀ (j:Nat) y,j < k→l[j]?=some y→p y=false) (λ i _=>l.length - (intOf i).toNat) ⟨0,rfl,by omega,Ext.refl _,λ j y h=>by omega⟩ ?_
 rintro i w ⟨k,rfl,hk,e,hb⟩
 by_cases Yq:k < l.length
 · obtain ⟨x,hx⟩:=getElem?_lt Yq
   obtain ⟨b,o,cs,rfl,hl,hA,hE⟩:=YV k x hx
   have hd:decide ((k:Int) < (l.length:Int))=true:=by simp;omega
   simp (disch:=try exact DI) only [↓PR,QR,simprocAttr,hd]
   unfold NZ
   simp (disch:=try exact DI) only [↓PR,QR,simprocAttr]
   obtain ⟨fv,rfl,hF⟩:=hE
   have o1:=Zd.oneCell hF
   have hV:GU w0 (.agg (YY x fv).toArray) x:=⟨fv,rfl,hF⟩
   simp (disch:=try exact DI) only [↓PR,QR,simprocAttr,hA.c3 e]
   rw [YP hg]
   simp only [Array.empty_append]
   refine Zl (hc w _ x (List.mem_of_getElem? hx) e (hV.ext e)) ?_
   rintro r w' ⟨rfl,e'⟩
   cases hp:p x with
   | true=>
    simp (disch:=try exact DI) only [↓PR,QR,simprocAttr]
    exact ⟨by rw [QJ hx hp hb],e.trans e'⟩
   | false=>
    simp (disch:=try exact DI) only [↓PR,QR,simprocAttr]
    exact ⟨⟨k+1,rfl,by omega,e.trans e',before_succ hb hx hp⟩,by simp [intOf];omega⟩
 · have hd:decide ((k:Int) < (l.length:Int))=false:=by simp;omega
   simp (disch:=try exact DI) only [↓PR,QR,simprocAttr,hd]
   exact ⟨by rw [QK λ j y hy=>hb j y (by have:=(List.getElem?_eq_some_iff.1 hy).1;omega) hy],e⟩
theorem GR (w0:Wd) (v:Vl) (l:List Qm) (g:FuncId) (caps:AVl) (p:Qm→Bool) (hs:WR w0 v l) (hg:Callable Pg g) (hc:Uh w0 (λ _ v x=>v = .agg (Z6 x).toArray) g caps p l) :
 Ret Pg 43 #[v,.func (.func g) #[] caps] w0 λ r w'=>r = .int .i64 (idx p l)∧Ext w0 w':=by
 obtain ⟨A,c,rfl,hlc,hcm,hlm,YV⟩:=Zd.open hs
 refine Zd1 (R:=ZJ _) ?_;unfold Zd0
 simp (disch:=try exact DI) only [↓PR,QR,simprocAttr]
 refine ZQ (λ i w=>∃ k:Nat,i = .int .i64 k∧k≤l.length∧Ext w0 w∧∀ (j:Nat) y,j < k→l[j]?=some y→p y=false) (λ i _=>l.length - (intOf i).toNat) ⟨0,rfl,by omega,Ext.refl _,λ j y h=>by omega⟩ ?_
 rintro i w ⟨k,rfl,hk,e,hb⟩
 by_cases Yq:k < l.length
 · obtain ⟨x,hx⟩:=getElem?_lt Yq
   obtain ⟨b,o,cs,rfl,hl,hA,hE⟩:=YV k x hx
   have hd:decide ((k:Int) < (l.length:Int))=true:=by simp;omega
   simp (disch:=try exact DI) only [↓PR,QR,simprocAttr,hd]
   unfold N0
   simp (disch:=try exact DI) only [↓PR,QR,simprocAttr]
   obtain rfl:=hE
   have hV:(.agg (Z6 x).toArray:Vl) = .agg (Z6 x).toArray:=rfl
   simp (disch:=try exact DI) only [↓PR,QR,simprocAttr,hA.c3 e]
   rw [YP hg]
   simp only [Array.empty_append]
   refine Zl (hc w _ x (List.mem_of_getElem? hx) e (hV)) ?_
   rintro r w' ⟨rfl,e'⟩
   cases hp:p x with
   | true=>
    simp (disch:=try exact DI) only [↓PR,QR,simprocAttr]
    exact ⟨by rw [QJ hx hp hb],e.trans e'⟩
   | false=>
    simp (disch:=try exact DI) only [↓PR,QR,simprocAttr]
    exact ⟨⟨k+1,rfl,by omega,e.trans e',before_succ hb hx hp⟩,by simp [intOf];omega⟩
 · have hd:decide ((k:Int) < (l.length:Int))=false:=by simp;omega
   simp (disch:=try exact DI) only [↓PR,QR,simprocAttr,hd]
   exact ⟨by rw [QK λ j y hy=>hb j y (by have:=(List.getElem?_eq_some_iff.1 hy).1;omega) hy],e⟩
theorem JQ (w0:Wd) (v:Vl) (l:List FrD) (g:FuncId) (caps:AVl) (p:FrD→Bool) (hs:WB w0 v l) (hg:Callable Pg g) (hc:Uh w0 QH g caps p l) :
 Ret Pg 114 #[v,.func (.func g) #[] caps] w0 λ r w'=>r = .int .i64 (idx p l)∧Ext w0 w':=by
 obtain ⟨A,c,rfl,hlc,hcm,hlm,YV⟩:=Zd.open hs
 refine ZdV (R:=ZJ _) ?_;unfold ZdU
 simp (disch:=try exact DI) only [↓PR,QR,simprocAttr]
 refine ZQ (λ i w=>∃ k:Nat,i = .int .i64 k∧k≤l.length∧Ext w0 w∧∀ (j:Nat) y,j < k→l[j]?=some y→p y=false) (λ i _=>l.length - (intOf i).toNat) ⟨0,rfl,by omega,Ext.refl _,λ j y h=>by omega⟩ ?_
 rintro i w ⟨k,rfl,hk,e,hb⟩
 by_cases Yq:k < l.length
 · obtain ⟨x,hx⟩:=getElem?_lt Yq
   obtain ⟨b,o,cs,rfl,hl,hA,hE⟩:=YV k x hx
   have hd:decide ((k:Int) < (l.length:Int))=true:=by simp;omega
   simp (disch:=try exact DI) only [↓PR,QR,simprocAttr,hd]
   unfold NW
   simp (disch:=try exact DI) only [↓PR,QR,simprocAttr]
   obtain ⟨bv,tv,rfl,hB,hT,o1,o2⟩:=hE.op
   have hV:QH w0 (.agg (ZB x bv tv).toArray) x:=⟨bv,tv,rfl,hB,hT⟩
   simp (disch:=try exact DI) only [↓PR,QR,simprocAttr,hA.c7 e]
   rw [YP hg]
   simp only [Array.empty_append]
   refine Zl (hc w _ x (List.mem_of_getElem? hx) e (hV.ext e)) ?_
   rintro r w' ⟨rfl,e'⟩
   cases hp:p x with
   | true=>
    simp (disch:=try exact DI) only [↓PR,QR,simprocAttr]
    exact ⟨by rw [QJ hx hp hb],e.trans e'⟩
   | false=>
    simp (disch:=try exact DI) only [↓PR,QR,simprocAttr]
    exact ⟨⟨k+1,rfl,by omega,e.trans e',before_succ hb hx hp⟩,by simp [intOf];omega⟩
 · have hd:decide ((k:Int) < (l.length:Int))=false:=by simp;omega
   simp (disch:=try exact DI) only [↓PR,QR,simprocAttr,hd]
   exact ⟨by rw [QK λ j y hy=>hb j y (by have:=(List.getElem?_eq_some_iff.1 hy).1;omega) hy],e⟩
theorem Q7 (w0:Wd) (v:Vl) (l:List FrD) (g:FuncId) (caps:AVl) (p:FrD→Bool) (hs:WB w0 v l) (hg:Callable Pg g) (hc:Uh w0 QH g caps p l) :
 Ret Pg 78 #[v,.func (.func g) #[] caps] w0 λ r w'=>r = .bool (l.any p)∧Ext w0 w':=by
 refine ZdD (R:=ZJ _) ?_;unfold ZdC
 refine Zl (JQ _ _ l g caps p hs hg hc) ?_
 rintro r w' ⟨rfl,e⟩
 simp (disch:=try exact DI) only [↓PR,QR,simprocAttr,Sw.joinK_eq]
 exact ⟨by rw [W4],e⟩
theorem Ke (w0:Wd) (v:Vl) (l:List BAr) (g:FuncId) (caps:AVl) (p:BAr→Bool) (hs:Uf w0 v l) (hg:Callable Pg g) (hc:Uh w0 (λ _ v x=>v = .string x) g caps p l) :
 Ret Pg 129 #[v,.func (.func g) #[] caps] w0 λ r w'=>r = .int .i64 (idx p l)∧Ext w0 w':=by
 obtain ⟨A,c,rfl,hlc,hcm,hlm,YV⟩:=Zd.open hs
 refine Zd7 (R:=ZJ _) ?_;unfold Zd6
 simp (disch:=try exact DI) only [↓PR,QR,simprocAttr]
 refine ZQ (λ i w=>∃ k:Nat,i = .int .i64 k∧k≤l.length∧Ext w0 w∧∀ (j:Nat) y,j < k→l[j]?=some y→p y=false) (λ i _=>l.length - (intOf i).toNat) ⟨0,rfl,by omega,Ext.refl _,λ j y h=>by omega⟩ ?_
 rintro i w ⟨k,rfl,hk,e,hb⟩
 by_cases Yq:k < l.length
 · obtain ⟨x,hx⟩:=getElem?_lt Yq
   obtain ⟨b,o,cs,rfl,hl,hA,hE⟩:=YV k x hx
   have hd:decide ((k:Int) < (l.length:Int))=true:=by simp;omega
   simp (disch:=try exact DI) only [↓PR,QR,simprocAttr,hd]
   unfold N3
   simp (disch:=try exact DI) only [↓PR,QR,simprocAttr]
   obtain rfl:=hE
   have hV:(.string x:Vl) = .string x:=rfl
   simp (disch:=try exact DI) only [↓PR,QR,simprocAttr,hA.c1 e]
   rw [YP hg]
   simp only [Array.empty_append]
   refine Zl (hc w _ x (List.mem_of_getElem? hx) e (hV)) ?_
   rintro r w' ⟨rfl,e'⟩
   cases hp:p x with
   | true=>
    simp (disch:=try exact DI) only [↓PR,QR,simprocAttr]
    exact ⟨by rw [QJ hx hp hb],e.trans e'⟩
   | false=>
    simp (disch:=try exact DI) only [↓PR,QR,simprocAttr]
    exact ⟨⟨k+1,rfl,by omega,e.trans e',before_succ hb hx hp⟩,by simp [intOf];omega⟩
 · have hd:decide ((k:Int) < (l.length:Int))=false:=by simp;omega
   simp (disch:=try exact DI) only [↓PR,QR,simprocAttr,hd]
   exact ⟨by rw [QK λ j y hy=>hb j y (by have:=(List.getElem?_eq_some_iff.1 hy).1;omega) hy],e⟩
theorem Ub (w0:Wd) (v:Vl) (l:List BAr) (g:FuncId) (caps:AVl) (p:BAr→Bool) (hs:Uf w0 v l) (hg:Callable Pg g) (hc:Uh w0 (λ _ v x=>v = .string x) g caps p l) :
 Ret Pg 90 #[v,.func (.func g) #[] caps] w0 λ r w'=>r = .bool (l.any p)∧Ext w0 w':=by
 refine ZdJ (R:=ZJ _) ?_;unfold ZdI
 refine Zl (Ke _ _ l g caps p hs hg hc) ?_
 rintro r w' ⟨rfl,e⟩
 simp (disch:=try exact DI) only [↓PR,QR,simprocAttr,Sw.joinK_eq]
 exact ⟨by rw [W4],e⟩
theorem FI (w:Wd) (v:Vl) (x:MrD) (hv:GU w v x) (q:Nat) (s:BAr) (hq:w.heap[q]?=some (.cells #[.string s] 9 (0,0))):Ret Pg 47 #[v,.pointer (some ⟨q,0,none⟩)] w λ r w'=>r = .bool (decide (x.fr=s))∧Ext w w':=by
 obtain ⟨fv,rfl,hF,o1⟩:=hv.op
 refine ZgP (R:=ZJ _) ?_;unfold n22
 rw [YS]
 have qd:=Yg.new (w:=w) (YY x fv) (60)
 have eW:Ext w (w.alloc (Obj.cells (List.toArray (YY x fv)) (60))):=(Ext.refl _).alloc _
 generalize (w.alloc (Obj.cells (List.toArray (YY x fv)) (60)))=W at qd eW ⊢
 have c:=Za (eW.obj hq)
 simp (disch:=try exact DI) only [↓PR,QR,simprocAttr,qd.c3 (Ext.refl W),c.1]
 exact ⟨by trivial,eW⟩
theorem Me (w:Wd) (v:Vl) (x y:FrD) (hv:QH w v x) (q:Nat) (bv tv:Vl) (hq:w.heap[q]?=some (.cells (ZB y bv tv).toArray 43 (0,0))):Ret Pg 111 #[v,.pointer (some ⟨q,0,none⟩)] w λ r w'=>r = .bool (decide (x.to=y.to))∧Ext w w':=by
 obtain ⟨bx,tx,rfl,hB,hT,o1,o2⟩:=hv.op
 refine ZgX (R:=ZJ _) ?_;unfold n31
 rw [YS]
 have qd:=Yg.new (w:=w) (ZB x bx tx) (43)
 have eW:Ext w (w.alloc (Obj.cells (List.toArray (ZB x bx tx)) (43))):=(Ext.refl _).alloc _
 generalize (w.alloc (Obj.cells (List.toArray (ZB x bx tx)) (43)))=W at qd eW ⊢
 have c:=Za (eW.obj hq)
 simp (disch:=try exact DI) only [↓PR,QR,simprocAttr,qd.c7 (Ext.refl W),c.1]
 exact ⟨by trivial,eW⟩
theorem jp (w:Wd) (v:Vl) (x:FrD) (f:Zt) (hv:QH w v x) (q:Nat) (bv tv:Vl) (hq:w.heap[q]?=some (.cells (Zv f bv tv).toArray 123 (0,0))):Ret Pg 79 #[v,.pointer (some ⟨q,0,none⟩)] w λ r w'=>r = .bool (decide (x.to=f.name))∧Ext w w':=by
 obtain ⟨bx,tx,rfl,hB,hT,o1,o2⟩:=hv.op
 refine ZgT (R:=ZJ _) ?_;unfold n27
 rw [YS]
 have qd:=Yg.new (w:=w) (ZB x bx tx) (43)
 have eW:Ext w (w.alloc (Obj.cells (List.toArray (ZB x bx tx)) (43))):=(Ext.refl _).alloc _
 generalize (w.alloc (Obj.cells (List.toArray (ZB x bx tx)) (43)))=W at qd eW ⊢
 have c:=Za (eW.obj hq)
 simp (disch:=try exact DI) only [↓PR,QR,simprocAttr,qd.c7 (Ext.refl W),c.1]
 exact ⟨by trivial,eW⟩
theorem H7 {α:Type} (p:α→Bool) (l:List α):(l.find? p=none∧l.findIdx? p=none∧l.any p=false∧LO p l=0∧idx p l = -1)∨∃ (k:Nat) (x:α),l[k]?=some x∧l.find? p=some x∧l.findIdx? p=some k∧l.any p=true∧LO p l=k∧idx p l=k:=by
 cases h:l.findIdx? p with
 | none=>
  have hi:idx p l = -1:=by unfold idx;rw [h]
  have hn:=List.findIdx?_eq_none_iff.1 h
  exact .inl ⟨List.find?_eq_none.2 λ x hx=>by simp [hn x hx],rfl,List.any_eq_false.2 λ x hx=>by simp [hn x hx],by unfold LO;rw [hi];rfl,hi⟩
 | some k=>
  have hi:idx p l=k:=by unfold idx;rw [h]
  obtain ⟨hk,h1,h2⟩:=List.findIdx?_eq_some_iff_getElem.1 h
  refine .inr ⟨k,l[k],List.getElem?_eq_getElem hk,?_,rfl,List.any_eq_true.2 ⟨_,List.getElem_mem hk,h1⟩,by unfold LO;rw [hi,if_neg (by omega)],hi⟩
  exact List.find?_eq_some_iff_getElem.2 ⟨h1,k,hk,rfl,λ j hj=>by simpa using h2 j hj⟩
theorem GV (w0:Wd) (v:Vl) (m:YG) (s:BAr) (hm:Y3 w0 v m):Ret Pg 20 #[v,.string s] w0 λ r w'=>r = .tuple #[.int .i64 (((VA m s).getD 0:Nat):Int),.bool (VA m s).isSome]∧Ext w0 w':=by
 obtain ⟨rv,rfl,hR,o1⟩:=hm.op
 refine ZgO (R:=ZJ _) ?_;unfold n21
 rw [YS]
 have qd:=Yg.new (w:=w0) (Yb m rv) (24)
 have eW:Ext w0 (w0.alloc (Obj.cells (List.toArray (Yb m rv)) (24))):=(Ext.refl _).alloc _
 generalize (w0.alloc (Obj.cells (List.toArray (Yb m rv)) (24)))=W at qd eW ⊢
 simp (disch:=try exact DI) only [↓PR,QR,simprocAttr,λ o=>qd.c2 ((Ext.refl W).alloc o)]
 generalize hV:World.alloc W _=V
 have oV:V.heap[W.heap.size]?=some (.cells #[.string s] 9 (0,0)):=by rw [← hV];exact Zz _ _ _
 have eV:Ext W V:=by rw [← hV];exact (Ext.refl W).alloc _
 clear hV
 refine Zl (JR V _ m.rules _ _ (λ r=>decide (r.fr=s)) (hR.ext (eW.trans eV)) c47 λ w u x _ e hu=>FI w u x hu _ s (e.obj oV)) ?_
 rintro _ w' ⟨rfl,e⟩
 unfold Tp VA
 rcases H7 (λ r:MrD=>decide (r.fr=s)) m.rules with ⟨_,h2,_,_,h5⟩ | ⟨k,x,_,_,h2,_,_,h5⟩
 · rw [h2,h5]
   simp (disch:=try exact DI) only [↓PR,QR,simprocAttr]
   exact ⟨by trivial,eW.trans (eV.trans e)⟩
 · rw [h2,h5]
   have hk:¬ (0:Int) > (k:Int):=by omega
   have hk2:decide ((0:Int)≤(k:Int))=true:=by simp
   simp (disch:=try exact DI) only [↓PR,QR,simprocAttr,hk,hk2]
   exact ⟨by trivial,eW.trans (eV.trans e)⟩
def WT (a f c:Int):PanicEntry:={ v := .iface 82 (W3 a f c),recovered:=false }
def mR (w:Wd) (b:Bool) (a f c:Int):Ending→Wd→Prop:=λ e w'=>Ext w w'∧(b=true∧e = .returned (.tuple #[])∨b=false∧e = .panicked [WT a f c])
theorem YB {f:FuncId} {args:AVl} {QP:PEn} {w:Wd} {k:KV} {b:Bool} {a fl c:Int} (h:Calls Pg f args w (mR w b a fl c)) (hk:∀ w',Ext w w'→b=true→k (.tuple #[]) w') (hp:∀ w',Ext w w'→b=false→QP [WT a fl c] w'):Zg Pg f args QP w k:=
 VK h (λ v w' h=>by rcases h with ⟨e,⟨h1,h2⟩ | ⟨_,h2⟩⟩<;>cases h2;exact hk w' e h1) (λ ch w' h=>by rcases h with ⟨e,⟨_,h2⟩ | ⟨h1,h2⟩⟩<;>cases h2;exact hp w' e h1) (λ w' h=>by rcases h with ⟨_,⟨_,h2⟩ | ⟨_,h2⟩⟩<;>cases h2)
theorem CQ {w w':Wd} {b:Bool} {a f c:Int} (e:Ext w w') (h:b=true):mR w b a f c (.returned (.tuple #[])) w':=⟨e,.inl ⟨h,rfl⟩⟩
theorem zU {w w':Wd} {b:Bool} {a f c c':Int} (e:Ext w w') (h:b=false) (hc:c=c'):Zb (mR w b a f c) [WT a f c'] w':=⟨e,.inr ⟨h,by rw [hc]⟩⟩
structure CkM (a0 w:Wd) (cb:Nat) (m:YG) (d e:Qk) (ru fi:Int):Prop where
 ext:Ext a0 w
 low:a0.heap.size≤cb
 obj:∃ rv dv ev,w.heap[cb]?=some (.cells #[.string m.name,rv,.string d.name,dv,.string d.start,.string e.name,ev,.string e.start,.int .i64 ru,.int .i64 fi] 81 (0,0))∧Kg a0 rv m.rules∧Va a0 dv d.msgs∧Va a0 ev e.msgs
section
variable {a0 w:Wd} {cb:Nat} {m:YG} {d e:Qk} {ru fi:Int}
theorem CkM.go {w':Wd} (h:CkM a0 w cb m d e ru fi) (x:Ext w w'):CkM a0 w' cb m d e ru fi:=by
 obtain ⟨h1,h2,rv,dv,ev,h3,h4⟩:=h
 exact ⟨h1.trans x,h2,rv,dv,ev,x.obj h3,h4⟩
theorem CkM.setField (h:CkM a0 w cb m d e ru fi) (n:Int):CkM a0 (w.setCell ⟨cb,9,none⟩ (.int .i64 n)) cb m d e ru n:=by
 obtain ⟨h1,h2,rv,dv,ev,h3,h4⟩:=h
 refine ⟨h1.setCell h2 _,h2,rv,dv,ev,?_,h4⟩
 have:=Zw (o:=9) h3 (.int .i64 n)
 simpa using this
theorem CkM.setRule (h:CkM a0 w cb m d e ru fi) (n:Int):CkM a0 (w.setCell ⟨cb,8,none⟩ (.int .i64 n)) cb m d e n fi:=by
 obtain ⟨h1,h2,rv,dv,ev,h3,h4⟩:=h
 refine ⟨h1.setCell h2 _,h2,rv,dv,ev,?_,h4⟩
 have:=Zw (o:=8) h3 (.int .i64 n)
 simpa using this
theorem Xo (h:CkM a0 w cb m d e ru fi) (b:Bool) (c:Int):Calls Pg 33 #[.pointer (some ⟨cb,0,none⟩),.bool b,.int .i64 c] w (mR w b ru fi c):=by
 obtain ⟨_,_,rv,dv,ev,h1,_⟩:=h
 refine ZgU ?_;unfold n28
 cases b with
 | true=>
  simp (disch:=try exact DI) only [↓PR,QR,simprocAttr,↓IP]
  exact CQ (Ext.refl _) rfl
 | false=>
  simp (disch:=try exact DI) only [↓PR,QR,simprocAttr,↓IP]
  refine ZG ?_
  simp (disch:=try exact DI) only [↓PR,QR,simprocAttr,↓IP,(Za h1).1]
  rw [ER]
  exact zU (Ext.refl _).drew rfl rfl
def Jy:Y8:=⟨ByteArray.empty,[]⟩
theorem VP (b0 w0:Wd) (e0:Ext b0 w0) (v:Vl) (d:Qk) (s:BAr) (hd:XU b0 v d):Ret Pg 76 #[v,.string s] w0 λ r w'=>(∃ u,r = .tuple #[u,.bool (Et d s).isSome]∧QV b0 u ((Et d s).getD Jy))∧Ext w0 w':=by
 obtain ⟨mv,rfl,hM⟩:=hd
 have hM0:=hM
 refine Zg5 (R:=ZJ _) ?_;unfold n39
 rw [YS]
 have qd:=Yg.new (w:=w0) (Xk d mv) (27)
 have eW:Ext w0 (w0.alloc (Obj.cells (List.toArray (Xk d mv)) (27))):=(Ext.refl _).alloc _
 generalize (w0.alloc (Obj.cells (List.toArray (Xk d mv)) (27)))=W at qd eW ⊢
 have sW:=eW.size
 simp (disch:=try exact DI) only [↓PR,QR,simprocAttr,λ o=>qd.c3 ((Ext.refl W).alloc o)]
 generalize hV:World.alloc W _=V
 have oV:=Zz W #[.string ByteArray.empty,.slice none 0 0] 74
 rw [hV] at oV
 have eV:Ext W V:=by rw [← hV];exact (Ext.refl W).alloc _
 clear hV
 refine zcr (MU V _ d s ⟨_,rfl,hM.ext (e0.trans (eW.trans eV))⟩) λ w1 e1=>?_
 have E1:=(eW.trans eV).trans e1
 have o1:=e1.obj oV
 unfold TG
 rcases H7 (λ x:Y8=>decide (x.name=s)) d.msgs with ⟨h1,_,h3,h4,_⟩ | ⟨k,x,hx,h1,_,h3,h4,_⟩
 · have hp:Et d s=none:=h1
   rw [h3,h4,hp]
   simp (disch:=try exact DI) only [↓PR,QR,simprocAttr,TE,(Za o1).1,(Za o1).2]
   exact ⟨⟨_,rfl,_,rfl,Zd.nil _ _ _⟩,(E1.setCell sW _).setCell sW _⟩
 · have hp:Et d s=some x:=h1
   obtain ⟨b,o,c,rfl,_,_,_,hkl,YV⟩:=EU hM hx
   obtain ⟨cs,_,hA,fv,rfl,hF⟩:=YV k x hx
   have f1:=Zd.oneCell hF
   rw [h3,h4,hp]
   simp (disch:=try exact DI) only [↓PR,QR,simprocAttr,TF,qd.c3 (eV.trans e1),hA.c2 (e0.trans E1),(Za o1).1,(Za o1).2]
   exact ⟨⟨_,rfl,_,rfl,hF⟩,(E1.setCell sW _).setCell sW _⟩
def WX:Zt:=⟨ByteArray.empty,0,0,false,false,0,0,0,[],ByteArray.empty,ByteArray.empty,ByteArray.empty,[],0,0⟩
theorem Rj {w:Wd} {b:Nat} {cs:AVl} (ho:w.heap[b]?=some (.cells cs 123 (0,0))) (hc:cs.size=15) (f:Zt) (tv cv:Vl) (t1:tv.oneCell'=true) (c1:cv.oneCell'=true) {QP:PEn} {ku:WPr}
 (h:∀ w',w'.heap[b]?=some (.cells (Zv f tv cv).toArray 123 (0,0))→(∀ a,Ext a w→a.heap.size≤b→Ext a w')→ku w'):opU Pg (storeAt 123 (.pointer (some ⟨b,0,none⟩)) (.agg (Zv f tv cv).toArray)) QP w ku:=by
 rw [Uu WQ ho (vs:=Zv f tv cv) rfl (by omega) (by intro v hv;simp only [List.mem_cons,List.not_mem_nil,or_false] at hv;rcases hv with rfl | rfl | rfl | rfl | rfl | rfl | rfl | rfl | rfl | rfl | rfl | rfl | rfl | rfl | rfl<;>first | rfl | assumption)]
 refine h _ ?_ λ a e hb=>UU _ _ _ _ e hb
 rw [QO _ 0 ho,Aw (by rw [hc];rfl)]
theorem Bv (w0:Wd) (v:Vl) (d:Y8) (s:BAr) (hd:QV w0 v d):Ret Pg 110 #[v,.string s] w0 λ r w'=>(∃ u,r = .tuple #[u,.int .i64 (CF (XZ d s))]∧ZZ w' u ((XZ d s).getD WX))∧Ext w0 w':=by
 obtain ⟨mv,rfl,hM⟩:=hd
 have hM0:=hM
 refine Zg2 (R:=ZJ _) ?_;unfold n36
 rw [YS]
 have qd:=Yg.new (w:=w0) (Yc d mv) (74)
 have eW:Ext w0 (w0.alloc (Obj.cells (List.toArray (Yc d mv)) (74))):=(Ext.refl _).alloc _
 generalize (w0.alloc (Obj.cells (List.toArray (Yc d mv)) (74)))=W at qd eW ⊢
 have sW:=eW.size
 simp (disch:=try exact DI) only [↓PR,QR,simprocAttr,λ o=>qd.c2 ((Ext.refl W).alloc o)]
 generalize hV:World.alloc W _=V
 have oV:=Zz W #[.string ByteArray.empty,.int .i64 0,.int .i64 0,.bool false,.bool false,.int .i64 0,.int .i64 0,.int .i64 0,.slice none 0 0,.string ByteArray.empty,.string ByteArray.empty,.string ByteArray.empty,.slice none 0 0,.int .i64 0,.int .i64 0] 123
 rw [hV] at oV
 have eV:Ext W V:=by rw [← hV];exact (Ext.refl W).alloc _
 clear hV
 refine zcr (zD V _ d s ⟨_,rfl,hM.ext (eW.trans eV)⟩) λ w1 e1=>?_
 have E1:=(eW.trans eV).trans e1
 have o1:=e1.obj oV
 unfold TC
 rcases H7 (λ x:Zt=>decide (x.name=s)) d.fields with ⟨h1,_,h3,h4,_⟩ | ⟨k,x,hx,h1,_,h3,h4,_⟩
 · have hp:XZ d s=none:=h1
   rw [h3,h4,hp]
   unfold TB
   simp (disch:=try exact DI) only [↓PR,QR,simprocAttr]
   refine Rj o1 rfl WX (.slice none 0 0) (.slice none 0 0) rfl rfl λ w2 o2 hx=>?_
   have E2:=hx _ E1 sW
   simp (disch:=try exact DI) only [↓PR,QR,simprocAttr,(Za o2).1]
   exact ⟨⟨_,rfl,_,_,rfl,Zd.nil _ _ _,Zd.nil _ _ _⟩,E2⟩
 · have hp:XZ d s=some x:=h1
   obtain ⟨b,o,c,rfl,_,_,_,hkl,YV⟩:=EU hM hx
   obtain ⟨cs,_,hA,hE⟩:=YV k x hx
   obtain ⟨tv,cv,rfl,hT,hC,t1,c1⟩:=hE.op
   rw [h3,h4,hp]
   simp (disch:=try exact DI) only [↓PR,QR,simprocAttr]
   refine ZG ?_
   simp (disch:=try exact DI) only [↓PR,QR,simprocAttr,TA,qd.c2 (eV.trans e1),hA.c15 E1]
   refine zcr (xp _ _ x ⟨_,_,rfl,hT.ext E1.drew,hC.ext E1.drew⟩) λ w2 e2=>?_
   refine ⟨e2,?_⟩
   have E2:=E1.drew.trans e2
   refine Rj (((Ext.refl w1).drew.trans e2).obj o1) rfl x tv cv t1 c1 λ w3 o3 hx=>?_
   have E3:=hx _ E2 sW
   refine Xb ?_
   simp (disch:=try exact DI) only [↓PR,QR,simprocAttr,(Za o3).1]
   exact ⟨⟨_,rfl,_,_,rfl,hT.ext E3,hC.ext E3⟩,E3⟩
end
def Jt (Zs:List (BAr×Int)) (m:Y8):List (BAr×Int):=Zs++[(m.name,WS Zs m+1)]
def J8 (ZE:List (BAr×Bool)) (m:Y8):List (BAr×Bool):=ZE++[(m.name,qt ZE m)]
def Qq (l:List Y8):List (BAr×Int):=l.foldl Jt []
def Jv (l:List Y8):List (BAr×Bool):=l.foldl J8 []
def Q1 (Zs:List (BAr×Int)) (ZE:List (BAr×Bool)) (at_:Nat):List Y8→Int×Int×Int
 | []=>(0,0,0)
 | m::l=>if (WI Zs ZE m).2=0 then Q1 (Jt Zs m) (J8 ZE m) (at_+1) l else (at_,WI Zs ZE m)
def LG (d:Qk) (r:Int×Int×Int):Int×Int×Int:=if r.2.2=0 then (if (Z2 (Qq d.msgs) d.start).isSome then (0,0,0) else (-1,-1,11)) else r
def Qf (d:Qk):Int×Int×Int:=
 if Yj d.name then (if 1≤d.msgs.length∧d.msgs.length≤60 then LG d (Q1 [] [] 0 d.msgs) else (-1,-1,3)) else (-1,-1,1)
theorem MF {Zs:List (BAr×Int)} {m:Y8} {r:Int×Int} (h:(U6 Zs m r).2=0):WS Zs m < 16:=by
 unfold U6 at h
 split at h
 · split at h
   · assumption
   · exact absurd h (by decide)
 · contradiction
theorem BW {Zs:List (BAr×Int)} {ZE:List (BAr×Bool)} {m:Y8} (h:(WI Zs ZE m).2=0):WS Zs m < 16:=by
 unfold WI at h
 split at h
 · split at h
   · exact absurd h (by decide)
   · split at h
     · exact MF h
     · exact absurd h (by decide)
 · exact absurd h (by decide)
theorem Low.step {Zs:List (BAr×Int)} {ZE:List (BAr×Bool)} {m:Y8} (hl:Low Zs) (h:(WI Zs ZE m).2=0):Low (Jt Zs m):=by
 intro p hp
 rcases List.mem_append.1 hp with hp | hp
 · exact hl p hp
 · simp only [List.mem_singleton] at hp
   subst hp
   have h1:=BW h
   have h2:=(Gm (λ s=>(Z2 Zs s).getD 0) (I8 m) 0 (by decide) (λ s _=>hl.get s) (by decide)).1
   exact ⟨by show 0≤WS Zs m+1;unfold WS;omega,by show WS Zs m+1≤16;omega⟩
abbrev V2 (p3 p4:Nat):Deferred:={ target := .fn (.func 134) #[.pointer (some ⟨p3,0,none⟩),.pointer (some ⟨p4,0,none⟩)],args := #[] }
theorem Ly {p3 p4:Nat} {w:Wd} {k:FrameMode→Wd→Prop} (h:k .returning w):qe Pg [V2 p3 p4] .returning w k:=by
 refine ⟨by simp,.inr ⟨.func 134,_,134,#[.pointer (some ⟨p3,0,none⟩),.pointer (some ⟨p4,0,none⟩)],rfl,?_,?_⟩⟩
 · exact XX Zcg _ w
 · refine Zel ?_
   unfold n79
   show opV _ (Zh .neq _ true .nilIface .nilIface) _ _ _
   rw [Vt underlying20]
   simp (disch:=try exact DI) only [↓PR,QR,simprocAttr]
   exact h
theorem Lx {p3 p4:Nat} {w:Wd} {k:FrameMode→Wd→Prop} {a f c:Int} {x0 x1 x2 y:Vl} (o3:w.heap[p3]?=some (.cells #[x0,x1,x2] 131 (0,0))) (o4:w.heap[p4]?=some (.cells #[y] 4 (0,0)))
 (h:k .returning ((((w.setCell ⟨p3,0,none⟩ (.int .i64 a)).setCell ⟨p3,1,none⟩ (.int .i64 f)).setCell ⟨p3,2,none⟩ (.int .i64 c)).setCell ⟨p4,0,none⟩ (.bool true))):qe Pg [V2 p3 p4] (.panicking [Xq a f c]) w k:=by
 have YW:p3≠p4:=by rintro rfl;rw [o3] at o4;cases o4
 refine ⟨by simp,.inr ⟨.func 134,_,134,#[.pointer (some ⟨p3,0,none⟩),.pointer (some ⟨p4,0,none⟩)],rfl,?_,?_⟩⟩
 · exact XX Zcg _ w
 · refine Zel ?_
   rw [show recM (.panicking [Xq a f c])=(.iface 131 (W3 a f c),.panicking [{ v := .iface 131 (W3 a f c),recovered:=true }]) from rfl]
   unfold n79
   rw [Vu underlying20]
   simp (disch:=try exact DI) only [↓PR,QR,simprocAttr]
   unfold ZaN
   rw [Dj underlying131 rfl]
   simp (disch:=try exact DI) only [↓PR,QR,simprocAttr,(Za o3).1,(Za o3).2,(Za o4).1,(Za o4).2]
   exact h
section
variable {w0:Wd}
def CkE (w:Wd) (cb:Nat) (Zs:List (BAr×Int)) (ZE:List (BAr×Bool)):Prop:=∃ md ms dn mv ds at_ fld mn fv,w.heap[cb]?=some (.cells #[.string dn,mv,.string ds,.map (some md),.map (some ms),.int .i64 at_,.int .i64 fld,.string mn,fv] 201 (0,0))∧YQ w md (vI Zs)∧YQ w ms (vB ZE)
theorem CkE.other {w:Wd} {cb b o:Nat} {Zs:List (BAr×Int)} {ZE:List (BAr×Bool)} (h:CkE w cb Zs ZE) (hn:b≠cb) (v:Vl):CkE (w.setCell ⟨b,o,none⟩ v) cb Zs ZE:=by
 obtain ⟨md,ms,dn,mv,ds,at_,fld,mn,fv,h1,h2,h3⟩:=h
 exact ⟨md,ms,dn,mv,ds,at_,fld,mn,fv,(YH.setCell w b o v cb (λ e=>hn e.symm)).trans h1,h2.setCell _ _,h3.setCell _ _⟩
theorem CkO.left {a0 w:Wd} {cb md ms:Nat} {Zs:List (BAr×Int)} {ZE:List (BAr×Bool)} {at_ fld:Int} {fs:List Zt} (h:CkO a0 w cb md ms Zs ZE at_ fld fs):CkE w cb Zs ZE:=by
 obtain ⟨dn,mv,ds,mn,fv,h1,_⟩:=h.obj
 exact ⟨md,ms,dn,mv,ds,at_,fld,mn,fv,h1,h.mdeps,h.mstrs⟩
def xv (w0:Wd) (d:Qk) (r:Vl) (w':Wd):Prop:=Ext w0 w'∧∃ cb,r = .tuple #[.pointer (some ⟨cb,0,none⟩),W3 (Qf d).1 (Qf d).2.1 (Qf d).2.2,.bool (decide ((Qf d).2.2≠0))] ∧
 ((Qf d).2.2=0→CkE w' cb (Qq d.msgs) (Jv d.msgs))
abbrev H0 (cb p3 p4:Nat):List (Option TypeId×Vl):=[(none,.pointer (some ⟨cb,0,none⟩)),(some 131,.pointer (some ⟨p3,0,none⟩)),(some 4,.pointer (some ⟨p4,0,none⟩))]
theorem IC {w:Wd} {d:Qk} {cb p3 p4:Nat} {a f c:Int} {x0 x1 x2 y:Vl} (e:Ext w0 w) (h3:w0.heap.size≤p3) (h4:w0.heap.size≤p4) (o3:w.heap[p3]?=some (.cells #[x0,x1,x2] 131 (0,0))) (o4:w.heap[p4]?=some (.cells #[y] 4 (0,0)))
 (h:Qf d=(a,f,c)) (hc:c≠0):Zy Pg [V2 p3 p4] (H0 cb p3 p4) (ZJ (xv w0 d)) [Xq a f c] w:=by
 have YW:p3≠p4:=by rintro rfl;rw [o3] at o4;cases o4
 unfold Zy
 refine Lx o3 o4 ?_
 have q3:=Zw (o:=2) (Zw (o:=1) (Zw (o:=0) o3 (.int .i64 a)) (.int .i64 f)) (.int .i64 c)
 have e1:Ext w0 ((((w.setCell ⟨p3,0,none⟩ (.int .i64 a)).setCell ⟨p3,1,none⟩ (.int .i64 f)).setCell ⟨p3,2,none⟩ (.int .i64 c)).setCell ⟨p4,0,none⟩ (.bool true)):=(((e.setCell h3 _).setCell h3 _).setCell h3 _).setCell h4 _
 have q4:=Zw (o:=0) ((YH.setCell ((w.setCell ⟨p3,0,none⟩ (.int .i64 a)).setCell ⟨p3,1,none⟩ (.int .i64 f)) p3 2 (.int .i64 c) p4 (by omega)).trans ((YH.setCell (w.setCell ⟨p3,0,none⟩ (.int .i64 a)) p3 1 (.int .i64 f) p4 (by omega)).trans ((YH.setCell w p3 0 (.int .i64 a) p4 (by omega)).trans o4))) (.bool true)
 have q3':=(YH.setCell _ p4 0 (.bool true) p3 YW).trans q3
 simp only [List.setIfInBounds_toArray,List.set_cons_zero,List.set_cons_succ] at q3' q4
 generalize ((((w.setCell ⟨p3,0,none⟩ (.int .i64 a)).setCell ⟨p3,1,none⟩ (.int .i64 f)).setCell ⟨p3,2,none⟩ (.int .i64 c)).setCell ⟨p4,0,none⟩ (.bool true))=W at e1 q3' q4 ⊢
 unfold endM zy XD H0
 simp only
 simp (disch:=try exact DI) only [↓PR,QR,simprocAttr,(Za q3').1,(Za q4).1]
 refine ⟨e1,cb,?_,λ h0=>?_⟩
 · rw [h];simp [hc]
 · rw [h] at h0;exact absurd h0 hc
theorem Nl {w:Wd} {d:Qk} {cb p3 p4:Nat} (e:Ext w0 w) (hC:CkE w cb (Qq d.msgs) (Jv d.msgs)) (o3:w.heap[p3]?=some (.cells #[.int .i64 0,.int .i64 0,.int .i64 0] 131 (0,0))) (o4:w.heap[p4]?=some (.cells #[.bool false] 4 (0,0)))
 (h:Qf d=(0,0,0)):VH Pg [V2 p3 p4] (H0 cb p3 p4) (ZJ (xv w0 d)) w:=by
 unfold VH
 refine Ly ?_
 unfold endM zy XD H0
 simp only
 simp (disch:=try exact DI) only [↓PR,QR,simprocAttr,(Za o3).1,(Za o4).1]
 refine ⟨e,cb,?_,λ h0=>hC⟩
 rw [h];simp
theorem Ls {f:FuncId} {args:AVl} {QP:PEn} {a0 w:Wd} {k:KV} {at_:Int} {r:Int×Int} {K:WPr} (h:Calls Pg f args w (Df a0 at_ r K)) (hk:∀ w',r.2=0→K w'→k (.tuple #[]) w') (hp:∀ w',Ext a0 w'→r.2≠0→QP [Xq at_ r.1 r.2] w'):Zg Pg f args QP w k:=
 VK h (λ v w' h=>by rcases h with ⟨e,⟨h1,h2,h3⟩ | ⟨_,h2⟩⟩<;>cases h2;exact hk w' h1 h3) (λ ch w' h=>by rcases h with ⟨e,⟨_,h2,_⟩ | ⟨h1,h2⟩⟩<;>cases h2;exact hp w' e h1) (λ w' h=>by rcases h with ⟨_,⟨_,h2,_⟩ | ⟨_,h2⟩⟩<;>cases h2)
theorem ja {α β:Type} (g:β→α→β) {l:List α} {k:Nat} {x:α} (b:β) (hx:l[k]?=some x):(l.take (k+1)).foldl g b=g ((l.take k).foldl g b) x:=by rw [Qe hx,List.foldl_append];rfl
theorem Nm {A0 w:Wd} {d:Qk} {cb p1 p3 p4 md ms:Nat} {fs:List Zt} {mv:Vl} (ea:Ext w0 A0) (hM:Va A0 mv d.msgs) (hC:CkO A0 w cb md ms [] [] (-1) (-1) fs) (o1:A0.heap[p1]?=some (.cells (Xk d mv).toArray 27 (0,0)))
 (o3:A0.heap[p3]?=some (.cells #[.int .i64 0,.int .i64 0,.int .i64 0] 131 (0,0))) (o4:A0.heap[p4]?=some (.cells #[.bool false] 4 (0,0))) (h3:w0.heap.size≤p3) (h4:w0.heap.size≤p4) (hr:Qf d=LG d (Q1 [] [] 0 d.msgs)) :
 j8 (.pointer (some ⟨p1,0,none⟩)) (.pointer (some ⟨p3,0,none⟩)) (.pointer (some ⟨p4,0,none⟩)) (.pointer (some ⟨cb,0,none⟩)) [V2 p3 p4] (ZJ (xv w0 d)) w:=by
 have pan:∀ w' a f c,Ext A0 w'→Qf d=(a,f,c)→c≠0→Zy Pg [V2 p3 p4] (H0 cb p3 p4) (ZJ (xv w0 d)) [Xq a f c] w':=λ w' a f c e h h0=>IC (ea.trans e) h3 h4 (e.obj o3) (e.obj o4) h h0
 obtain ⟨A,c,rfl,hlc,hcm,hlm,YV⟩:=Zd.open hM
 unfold j8
 simp (disch:=try exact DI) only [↓PR,QR,simprocAttr,(Za (hC.ext.obj o1)).1]
 refine ZQ (λ i w'=>∃ (k:Nat) (at':Int) (fs':List Zt),i = .int .i64 k∧k≤d.msgs.length∧CkO A0 w' cb md ms (Qq (d.msgs.take k)) (Jv (d.msgs.take k)) at' (-1) fs'∧Low (Qq (d.msgs.take k))∧Qf d=LG d (Q1 (Qq (d.msgs.take k)) (Jv (d.msgs.take k)) k (d.msgs.drop k))) (λ i _=>d.msgs.length - (intOf i).toNat) ⟨0,-1,fs,rfl,by omega,hC,(λ _ h=>by cases h),hr⟩ ?_
 rintro i w' ⟨k,at',fs',rfl,hk,hC',hlow,hrk⟩
 have lw':=hC'.ext.size
 obtain ⟨dn,mv,ds,mn,fv',x1,x2⟩:=hC'.obj
 obtain ⟨n1,n2,l1,l2,l3⟩:=hC'.nd
 rcases ZY hk with ⟨x,hx,hd,Yq,Z5⟩ | ⟨hk,hd,Z5⟩
 · obtain ⟨b,o,cs,rfl,hl,hA,fv,rfl,hF⟩:=YV k x hx
   have hf1:=Zd.oneCell hF
   rw [hd] at hrk
   simp only [Q1] at hrk
   unfold BU
   simp (disch:=try exact DI) only [↓PR,QR,simprocAttr,Z5]
   unfold EJ
   simp (disch:=try exact DI) only [↓PR,QR,simprocAttr,(hA.c2 hC'.ext).1,(hA.c2 hC'.ext).2,(Za x1).1,(Za x1).2]
   have hCw:=(hC'.setAt (k:Int)).go ((Ext.refl _).alloc (Obj.cells (Yc x fv).toArray 74))
   refine Ls (Pu (m:=x) hlow hCw _ ⟨fv,rfl,hF⟩ (λ w'=>CkO A0 w' cb md ms (Jt (Qq (d.msgs.take k)) x) (J8 (Jv (d.msgs.take k)) x) k (-1) x.fields) (λ w' h=>h)) (λ w5 h0 hC5=>?_) (λ w5 e5 h0=>?_)
   · rw [if_pos h0] at hrk
     have hd1:Qq (d.msgs.take (k+1))=Jt (Qq (d.msgs.take k)) x:=ja Jt [] hx
     have hs1:Jv (d.msgs.take (k+1))=J8 (Jv (d.msgs.take k)) x:=ja J8 [] hx
     rw [← hd1,← hs1] at hrk hC5
     have hlow':Low (Qq (d.msgs.take (k+1))):=by rw [hd1];exact hlow.step h0
     simp (disch:=try exact DI) only [↓PR,QR,simprocAttr]
     exact ⟨⟨k+1,k,x.fields,rfl,by omega,hC5,hlow',hrk⟩,Yf (kd := .i64) Yq⟩
   · rw [if_neg h0] at hrk
     refine pan _ _ _ _ e5 ?_ h0
     rw [hrk]
     unfold LG
     rw [if_neg h0]
 · subst hk
   rw [hd] at hrk
   rw [List.take_length] at hC' hrk
   unfold BU
   simp (disch:=try exact DI) only [↓PR,QR,simprocAttr,Z5]
   unfold EI
   simp (disch:=try exact DI) only [↓PR,QR,simprocAttr,(Za x1).1,(Za x1).2]
   have hC2:=hC'.setAt (-1)
   generalize (w'.setCell ⟨cb,5,none⟩ (.int .i64 (-1)))=W at hC2 ⊢
   clear x1 x2 hC'
   obtain ⟨dn,mv,ds,mn,fv',x1,x2⟩:=hC2.obj
   refine ZG ?_
   have eD:Ext W W.drew:=(Ext.refl W).wdrew
   unfold EH
   simp (disch:=try exact DI) only [↓PR,QR,simprocAttr,(Za x1).1,(Za (hC2.ext.obj o1)).1]
   rw [Aj underlying198 underlying9 ty3 (hC2.mdeps.ext eD) d.start]
   have hsome:(Yr (vI (Qq d.msgs)) d.start).isSome=(Z2 (Qq d.msgs) d.start).isSome:=by rw [JF,Option.isSome_map]
   rw [hsome]
   simp only [Q1,LG,if_true] at hrk
   simp (disch:=try exact DI) only [↓PR,QR,simprocAttr]
   refine ZP (Yy (hC2.go eD).chk _ 11 (by decide)) (λ w5 e5 h0=>?_) (λ w5 e5 h0=>?_)
   · have hs:=X5 (by decide) h0
     rw [hs,if_pos rfl] at hrk
     have hC5:=hC2.go (eD.trans e5)
     have y3:=hC5.ext.obj o3
     have y4:=hC5.ext.obj o4
     have ne34:p3≠p4:=by rintro rfl;rw [o3] at o4;cases o4
     unfold EG
     simp (disch:=try exact DI) only [↓PR,QR,simprocAttr,(Za y3).1,(Za y3).2,(Za y4).1,(Za y4).2]
     have c3:p3≠cb:=by have:=hC5.lcb;have:=(Array.getElem?_eq_some_iff.1 o3).1;omega
     have c4:p4≠cb:=by have:=hC5.lcb;have:=(Array.getElem?_eq_some_iff.1 o4).1;omega
     have q3:=Zw (o:=2) (Zw (o:=1) (Zw (o:=0) y3 (.int .i64 0)) (.int .i64 0)) (.int .i64 0)
     have q4:=Zw (o:=0) ((YH.setCell ((w5.setCell ⟨p3,0,none⟩ (.int .i64 0)).setCell ⟨p3,1,none⟩ (.int .i64 0)) p3 2 (.int .i64 0) p4 (by omega)).trans ((YH.setCell (w5.setCell ⟨p3,0,none⟩ (.int .i64 0)) p3 1 (.int .i64 0) p4 (by omega)).trans ((YH.setCell w5 p3 0 (.int .i64 0) p4 (by omega)).trans y4))) (.bool false)
     have q3':=(YH.setCell _ p4 0 (.bool false) p3 ne34).trans q3
     exact Nl (((((ea.trans hC5.ext).setCell h3 _).setCell h3 _).setCell h3 _).setCell h4 _) ((((hC5.left.other c3 _).other c3 _).other c3 _).other c4 _) (by simpa using q3') (by simpa using q4) hrk
   · have hs:(Z2 (Qq d.msgs) d.start).isSome=false:=by
      cases hq:(Z2 (Qq d.msgs) d.start).isSome with
      | false=>rfl
      | true=>rw [hq] at h0;exact absurd rfl h0
     rw [hs,if_neg (by simp)] at hrk
     rw [hs]
     exact pan _ _ _ _ (hC2.ext.trans (eD.trans e5)) hrk (by decide)
theorem CL (v:Vl) (d:Qk) (hd:XU w0 v d):Ret Pg 106 #[v] w0 (xv w0 d):=by
 obtain ⟨mv,rfl,hM⟩:=hd
 have hm1:=Zd.oneCell hM
 refine ZhH (R:=ZJ _) ?_;unfold n78
 simp (disch:=try exact DI) only [↓PR,QR,simprocAttr]
 refine ⟨V2 (w0.heap.size+1) (w0.heap.size+1+1),_,rfl,?_⟩
 simp only [World.size_alloc]
 generalize hA0:((w0.alloc (Obj.cells (Xk d mv).toArray 27)).alloc (Obj.cells #[.int .i64 0,.int .i64 0,.int .i64 0] 131)).alloc (Obj.cells #[.bool false] 4)=A0
 have ea:Ext w0 A0:=by rw [← hA0];exact ee
 have o1:A0.heap[w0.heap.size]?=some (.cells (Xk d mv).toArray 27 (0,0)):=by rw [← hA0];simp (disch:=try exact DI) only [↓PR,QR,simprocAttr]
 have o3:A0.heap[w0.heap.size+1]?=some (.cells #[.int .i64 0,.int .i64 0,.int .i64 0] 131 (0,0)):=by rw [← hA0];simp (disch:=try exact DI) only [↓PR,QR,simprocAttr]
 have o4:A0.heap[w0.heap.size+1+1]?=some (.cells #[.bool false] 4 (0,0)):=by rw [← hA0];simp (disch:=try exact DI) only [↓PR,QR,simprocAttr]
 have JA:A0.heap.size=w0.heap.size+1+1+1:=by rw [← hA0];simp only [World.size_alloc]
 clear hA0
 have hC:CkO A0 (((A0.alloc (Obj.map #[] 0)).alloc (Obj.map #[] 0)).alloc (Obj.cells #[.string d.name,mv,.string d.start,.map (some (w0.heap.size+1+1+1)),.map (some (w0.heap.size+1+1+1+1)),.int .i64 (-1),.int .i64 (-1),.string ByteArray.empty,.slice none 0 0] 201)) (w0.heap.size+1+1+1+1+1) (w0.heap.size+1+1+1) (w0.heap.size+1+1+1+1) [] [] (-1) (-1) []:=by
  refine ⟨ee,⟨d.name,mv,d.start,ByteArray.empty,.slice none 0 0,?_,Zd.nil _ _ _⟩,?_,?_,by omega,by omega,by omega,by omega⟩
  · have:=Zz ((A0.alloc (Obj.map #[] 0)).alloc (Obj.map #[] 0)) #[.string d.name,mv,.string d.start,.map (some (w0.heap.size+1+1+1)),.map (some (w0.heap.size+1+1+1+1)),.int .i64 (-1),.int .i64 (-1),.string ByteArray.empty,.slice none 0 0] 201
    simp only [World.size_alloc,JA] at this
    exact this
  · have:=(YQ.new A0).ext (((Ext.refl _).alloc (Obj.map #[] 0)).alloc (Obj.cells #[.string d.name,mv,.string d.start,.map (some (w0.heap.size+1+1+1)),.map (some (w0.heap.size+1+1+1+1)),.int .i64 (-1),.int .i64 (-1),.string ByteArray.empty,.slice none 0 0] 201))
    simp only [World.size_alloc,JA] at this
    exact this
  · have:=(YQ.new (A0.alloc (Obj.map #[] 0))).ext ((Ext.refl _).alloc (Obj.cells #[.string d.name,mv,.string d.start,.map (some (w0.heap.size+1+1+1)),.map (some (w0.heap.size+1+1+1+1)),.int .i64 (-1),.int .i64 (-1),.string ByteArray.empty,.slice none 0 0] 201))
    simp only [World.size_alloc,JA] at this
    exact this
 generalize (((A0.alloc (Obj.map #[] 0)).alloc (Obj.map #[] 0)).alloc (Obj.cells #[.string d.name,mv,.string d.start,.map (some (w0.heap.size+1+1+1)),.map (some (w0.heap.size+1+1+1+1)),.int .i64 (-1),.int .i64 (-1),.string ByteArray.empty,.slice none 0 0] 201))=W at hC ⊢
 generalize hcb:w0.heap.size+1+1+1+1+1=cb at hC ⊢
 generalize hmd:w0.heap.size+1+1+1=md at hC JA
 generalize hms:w0.heap.size+1+1+1+1=ms at hC
 generalize hp3:w0.heap.size+1+1=p4 at o4 ⊢
 generalize hp4:w0.heap.size+1=p3 at o3 ⊢
 have l3:w0.heap.size≤p3:=by omega
 have l4:w0.heap.size≤p4:=by omega
 simp (disch:=try exact DI) only [↓PR,QR,simprocAttr,(Za (hC.ext.obj o1)).1]
 refine zcr (Ud _ d.name) λ w1 e1=>?_
 have hC1:=hC.go e1
 have pan:∀ w' a f c,Ext A0 w'→Qf d=(a,f,c)→c≠0→Zy Pg [V2 p3 p4] (H0 cb p3 p4) (ZJ (xv w0 d)) [Xq a f c] w':=λ w' a f c e h h0=>IC (ea.trans e) l3 l4 (e.obj o3) (e.obj o4) h h0
 generalize hr:Qf d=r
 have hr':=hr
 unfold Qf at hr
 refine ZP (Yy hC1.chk _ 1 (by decide)) (λ w2 e2 h0=>?_) (λ w2 e2 h0=>?_)
 · have hn:Yj d.name=true:=X5 (by decide) h0
   rw [if_pos hn] at hr
   have hC2:=hC1.go e2
   have fin:∀ b,b=decide (1≤d.msgs.length∧d.msgs.length≤60)→Zg Pg 135 #[.pointer (some ⟨cb,0,none⟩),.bool b,.int .i64 3] (Zy Pg [V2 p3 p4] (H0 cb p3 p4) (ZJ (xv w0 d))) w2 (λ _ w=>j8 (.pointer (some ⟨w0.heap.size,0,none⟩)) (.pointer (some ⟨p3,0,none⟩)) (.pointer (some ⟨p4,0,none⟩)) (.pointer (some ⟨cb,0,none⟩)) [V2 p3 p4] (ZJ (xv w0 d)) w):=by
    rintro b rfl
    refine ZP (Yy hC2.chk _ 3 (by decide)) (λ w3 e3 h0=>?_) (λ w3 e3 h0=>?_)
    · have hl:=X5 (by decide) h0
      simp only [decide_eq_true_eq] at hl
      rw [if_pos hl] at hr
      exact Nm ea (hM.ext ea) (hC2.go e3) o1 o3 o4 l3 l4 (hr'.trans hr.symm)
    · by_cases hl:1≤d.msgs.length∧d.msgs.length≤60
      · rw [decide_eq_true hl] at h0;exact absurd rfl h0
      · rw [if_neg hl] at hr
        rw [decide_eq_false hl]
        exact pan _ _ _ _ (hC2.ext.trans e3) (hr'.trans hr.symm) (by decide)
   obtain ⟨A,c,rfl,hlc,hcm,hlm,YV⟩:=Zd.open hM
   have x1:=hC2.ext.obj o1
   unfold EK
   by_cases h1l:1≤d.msgs.length
   · have d1:decide ((d.msgs.length:Int)≥1)=true:=by simp;omega
     by_cases h2l:d.msgs.length≤60
     · have d2:decide ((d.msgs.length:Int)≤60)=true:=by simp;omega
       simp (disch:=try exact DI) only [↓PR,QR,simprocAttr,(Za x1).1,d1,d2,↓EG,↓EH,↓EI,↓EJ,↓BU,↓j8,↓IY,↓IZ,↓EK]
       exact fin _ (by simp [h1l,h2l])
     · have d2:decide ((d.msgs.length:Int)≤60)=false:=by simp;omega
       simp (disch:=try exact DI) only [↓PR,QR,simprocAttr,(Za x1).1,d1,d2,↓EG,↓EH,↓EI,↓EJ,↓BU,↓j8,↓IY,↓IZ,↓EK]
       exact fin _ (by simp [h2l])
   · have d1:decide ((d.msgs.length:Int)≥1)=false:=by simp;omega
     simp (disch:=try exact DI) only [↓PR,QR,simprocAttr,(Za x1).1,d1,↓EG,↓EH,↓EI,↓EJ,↓BU,↓j8,↓IY,↓IZ,↓EK]
     exact fin _ (by simp [h1l])
 · have hn:Yj d.name=false:=by
    cases hq:Yj d.name with
    | false=>rfl
    | true=>rw [hq] at h0;exact absurd rfl h0
   rw [hn,if_neg (by simp)] at hr
   rw [hn]
   exact pan _ _ _ _ (hC1.ext.trans e2) (hr'.trans hr.symm) (by decide)
end
section
variable {w0:Wd}
abbrev Zbn (r:Int×Int×Int):Vl:=W3 r.1 r.2.1 r.2.2
abbrev X1 (d:Qk):Bool:=decide ((Qf d).2.2≠0)
theorem Lh (v:Vl) (d:Qk) (hd:XU w0 v d):Ret Pg 70 #[v] w0 λ r w'=>r = .tuple #[Zbn (Qf d),.bool (X1 d)]∧Ext w0 w':=by
 obtain ⟨mv,rfl,hM⟩:=hd
 have hm1:=Zd.oneCell hM
 refine Zho (R:=ZJ _) ?_;unfold n58
 simp (disch:=try exact DI) only [↓PR,QR,simprocAttr]
 refine Zl (CL _ d ⟨mv,rfl,Va.ext hM ee⟩) ?_
 rintro _ w1 ⟨e1,cb,rfl,_⟩
 have s1:=e1.size
 simp only [World.size_alloc] at s1
 have o2:=e1.obj (Zz (w0.alloc (Obj.cells (Xk d mv).toArray 27)) #[.int .i64 0,.int .i64 0,.int .i64 0] 131)
 rw [World.size_alloc] at o2
 simp (disch:=try exact DI) only [↓PR,QR,simprocAttr,↓ZaD,(Za o2).1,(Za o2).2]
 exact ⟨by first | trivial | rfl,ee⟩
theorem Bo (v:Vl) (d:Qk) (hd:XU w0 v d):Ret Pg 34 #[v] w0 λ r w'=>r = .bool (!X1 d)∧Ext w0 w':=by
 obtain ⟨mv,rfl,hM⟩:=hd
 have hm1:=Zd.oneCell hM
 refine Zhw (R:=ZJ _) ?_;unfold n67
 simp (disch:=try exact DI) only [↓PR,QR,simprocAttr]
 refine zcr (Lh _ d ⟨mv,rfl,Va.ext hM ee⟩) λ w1 e1=>?_
 simp (disch:=try exact DI) only [↓PR,QR,simprocAttr,↓ZaF]
 exact ⟨by first | trivial | rfl,ee⟩
end
section
variable {Zs deps':List (BAr×Int)} {ZE strs':List (BAr×Bool)}
theorem HH {m:Y8} (h:(WI Zs ZE m).2=0):Yj m.name=true∧Z2 Zs m.name=none∧(1≤m.fields.length∧m.fields.length≤40)∧(Xz Zs ZE [] m.fields).2=0∧WS Zs m < 16:=by
 have hl:=BW h
 unfold WI at h
 by_cases h1:Yj m.name=true
 · rw [if_pos h1] at h
   by_cases h2:(Z2 Zs m.name).isSome=true
   · rw [if_pos h2] at h;exact absurd h (by decide)
   · rw [if_neg h2] at h
     by_cases h3:1≤m.fields.length∧m.fields.length≤40
     · rw [if_pos h3] at h
       refine ⟨h1,by simpa using h2,h3,?_,hl⟩
       unfold U6 at h
       split at h
       · assumption
       · contradiction
     · rw [if_neg h3] at h;exact absurd h (by decide)
 · rw [if_neg h1] at h;exact absurd h (by decide)
end
section
variable {Zs:List (BAr×Int)} {ZE:List (BAr×Bool)}
theorem jt {m:Y8} {l:List Y8} {i:Nat} (h:(WI Zs ZE m).2=0):Q1 Zs ZE i (m::l)=Q1 (Jt Zs m) (J8 ZE m) (i+1) l:=if_pos h
theorem Gq {m:Y8} {l:List Y8} {i:Nat} (h:¬ (WI Zs ZE m).2=0):Q1 Zs ZE i (m::l)=((i:Int),WI Zs ZE m):=if_neg h
theorem Kw (r:List Y8):∀ (l:List Y8) (Zs:List (BAr×Int)) (ZE:List (BAr×Bool)) (i:Nat),((Q1 Zs ZE i l).2.2=0→Q1 Zs ZE i (l++r)=Q1 (l.foldl Jt Zs) (l.foldl J8 ZE) (i+l.length) r)∧((Q1 Zs ZE i l).2.2≠0→Q1 Zs ZE i (l++r)=Q1 Zs ZE i l)
 | [],Zs,ZE,i=>⟨λ _=>rfl,λ h=>absurd rfl h⟩
 | m::l,Zs,ZE,i=>by
  have ih:=Kw r l (Jt Zs m) (J8 ZE m) (i+1)
  by_cases h:(WI Zs ZE m).2=0
  · rw [jt h,List.cons_append,jt h]
    simp only [List.foldl_cons,List.length_cons]
    rw [show i+(l.length+1)=i+1+l.length by omega]
    exact ih
  · rw [Gq h,List.cons_append,Gq h]
    exact ⟨λ k=>absurd k h,λ _=>rfl⟩
theorem So {l:List Y8} {Zs:List (BAr×Int)} {ZE:List (BAr×Bool)} {i:Nat} (h:(Q1 Zs ZE i l).2.2=0) {k:Nat} {m:Y8} (hk:l[k]?=some m):(WI ((l.take k).foldl Jt Zs) ((l.take k).foldl J8 ZE) m).2=0∧(Q1 Zs ZE i (l.take k)).2.2=0:=by
 have hl:l=l.take k++m::l.drop (k+1):=by
  have:=(List.take_append_drop k l).symm
  rw [List.drop_eq_getElem_cons (List.getElem?_eq_some_iff.1 hk).1] at this
  rw [(List.getElem?_eq_some_iff.1 hk).2] at this
  exact this
 rw [hl] at h
 by_cases h0:(Q1 Zs ZE i (l.take k)).2.2=0
 · rw [(Kw _ _ _ _ _).1 h0] at h
   refine ⟨?_,h0⟩
   by_cases h1:(WI ((l.take k).foldl Jt Zs) ((l.take k).foldl J8 ZE) m).2=0
   · exact h1
   · rw [Gq h1] at h;exact absurd h h1
 · rw [(Kw _ _ _ _ _).2 h0] at h;exact absurd h h0
def Zbc (l:List Y8):Prop:=(Q1 [] [] 0 l).2.2=0
theorem Zbc.next {l:List Y8} (h:Zbc l) {k:Nat} {m:Y8} (hk:l[k]?=some m):(WI (Qq (l.take k)) (Jv (l.take k)) m).2=0:=(So h hk).1
end
section
variable {d:Qk}
theorem FR (h:(Qf d).2.2=0):Yj d.name=true∧(1≤d.msgs.length∧d.msgs.length≤60)∧Zbc d.msgs∧(Z2 (Qq d.msgs) d.start).isSome=true:=by
 unfold Qf at h
 by_cases h1:Yj d.name=true
 · rw [if_pos h1] at h
   by_cases h2:1≤d.msgs.length∧d.msgs.length≤60
   · rw [if_pos h2] at h
     unfold LG at h
     by_cases h3:(Q1 [] [] 0 d.msgs).2.2=0
     · rw [if_pos h3] at h
       by_cases h4:(Z2 (Qq d.msgs) d.start).isSome=true
       · exact ⟨h1,h2,h3,h4⟩
       · rw [if_neg h4] at h;exact absurd h (by decide)
     · rw [if_neg h3] at h;exact absurd h h3
   · rw [if_neg h2] at h;exact absurd h (by decide)
 · rw [if_neg h1] at h;exact absurd h (by decide)
end
def SY (D:List BAr) (seen:List Vl) (v:Vl):Prop:=∃ s,seen=(D.take seen.length).map Value.string∧D[seen.length]?=some s∧v = .string s
def Za9 (D:List BAr) (seen:List Vl):Prop:=seen=D.map Value.string
theorem DG (pb:Nat) (sv:Vl) (l:List BAr):MY Pg 198 #[.pointer (some ⟨pb,0,none⟩)] (SY (ZV [] l)) (Za9 (ZV [] l)) (λ w=>XV w pb sv l):=by
 intro yv J Jx Jp w _ hFP hJe hJx hJp XG h0
 obtain ⟨hc,hT,_⟩:=hFP _ w h0
 obtain ⟨A,c,rfl,hlc,hcm,hlm,YV⟩:=Zd.open hT
 refine Zek (t0:=yv) (t1 := .pointer (some ⟨pb,0,none⟩)) ?_
 unfold n66
 simp (disch:=try exact DI) only [↓PR,QR,simprocAttr,hc]
 refine ZQ (λ i w'=>∃ k j:Nat,i = .int .i64 k∧k≤l.length∧J (((ZV [] l).take j).map Value.string) w'∧j≤(ZV [] l).length∧(ZV [] l).drop j=ZV (l.take k) (l.drop k)) (λ i _=>l.length - (intOf i).toNat) ⟨0,0,rfl,by omega,h0,by omega,rfl⟩ ?_
 rintro i w' ⟨k,j,rfl,hk,hJ,hj,hD⟩
 rcases ZY hk with ⟨x,hx,hd,Yq,Z5⟩ | ⟨hk,hd,Z5⟩
 · obtain ⟨hc',hT',_⟩:=hFP _ w' hJ
   obtain ⟨A',c',hv,_,hcm',_,hel'⟩:=Zd.open hT'
   injection hv with hv _ hv'
   subst hv hv'
   obtain ⟨b,o,cs,rfl,hl,hA,rfl⟩:=hel' k x hx
   have er:=Ext.refl w'
   rw [hd] at hD
   simp only [ZV] at hD
   simp (disch:=try exact DI) only [↓PR,QR,simprocAttr,↓Uq,↓Ur,Z5,hA.c1,hc']
   rw [Vv underlying94 ty9 b o l.length c .i64 k (by omega)]
   have XA:(l.take k).length=k:=by rw [List.length_take];omega
   have hpre:Zd w' 1 GQ (.slice (some ⟨b,o,none⟩) k c) (l.take k):=by
    refine ⟨_,c,by rw [XA],by rw [XA];omega,hcm,λ _=>⟨b,o,rfl,λ i y hy=>?_⟩⟩
    rw [List.getElem?_take] at hy
    split at hy
    · obtain ⟨b',o',cs,hA',h1,h2,h3⟩:=hel' i y hy
      injection hA' with hA'
      injection hA' with h5 h6
      subst h5 h6
      exact ⟨cs,h1,h2,h3⟩
    · cases hy
   refine zcr (QF w' _ _ x hpre) λ w2 e2=>?_
   have hJ2:=(hJe _).ext hJ e2
   have htk:l.take (k+1)=l.take k++[x]:=Qe hx
   cases hany:(l.take k).any (λ y=>decide (x=y)) with
   | true=>
    rw [hany,if_pos rfl,← htk] at hD
    simp (disch:=try exact DI) only [↓PR,QR,simprocAttr,↓Uq,↓Ur]
    exact ⟨⟨k+1,j,rfl,by omega,hJ2,hj,hD⟩,Yf (kd := .i64) Yq⟩
   | false=>
    rw [hany,if_neg (by simp),← htk] at hD
    have LN:j < (ZV [] l).length:=by
     have:=congrArg List.length hD
     simp at this
     omega
    have hxj:(ZV [] l)[j]?=some x:=by
     have:=congrArg (λ l=>l[0]?) hD
     simpa using this
    have hD2:(ZV [] l).drop (j+1)=ZV (l.take (k+1)) (l.drop (k+1)):=by
     rw [← List.tail_drop,hD];rfl
    have hjm:(((ZV [] l).take j).map Value.string).length=j:=by rw [List.length_map,List.length_take];omega
    have hs:=XG _ (.string x) ⟨x,by rw [hjm],by rw [hjm];exact hxj,rfl⟩ (λ _=>True) JX.true w2 hJ2 trivial
    rw [show ((ZV [] l).take j).map Value.string++[.string x]=((ZV [] l).take (j+1)).map Value.string by rw [Qe hxj];simp] at hs
    simp (disch:=try exact DI) only [↓PR,QR,simprocAttr,↓Uq,↓Ur]
    refine UF hs (λ ch w h=>h.2) ?_
    rintro v w3 ⟨_,⟨rfl,h2⟩ | ⟨rfl,h2⟩⟩
    · simp (disch:=try exact DI) only [↓PR,QR,simprocAttr,↓Uq,↓Ur]
      exact ⟨⟨k+1,j+1,rfl,by omega,h2,LN,hD2⟩,Yf (kd := .i64) Yq⟩
    · simp (disch:=try exact DI) only [↓PR,QR,simprocAttr,↓Uq,↓Ur]
      exact .inr h2
 · subst hk
   simp (disch:=try exact DI) only [↓PR,QR,simprocAttr,↓Uq,↓Ur,Z5]
   rw [hd] at hD
   have LN:j=(ZV [] l).length:=by
    have:=congrArg List.length hD
    simp [ZV] at this
    omega
   exact .inl ⟨_,by unfold Za9;rw [LN,List.take_length],hJ⟩
theorem ZT.cellsAt {α:Type} {w:Wd} {base n:Nat} {T:TypeId} {enc:α→List Vl} {v:Vl} {l:List α} (h:ZT w base T n enc v l) (g:Nat) (hg:v.ownBlock=some g):∃ cs T f,w.heap[g]?=some (.cells cs T f):=by
 rcases h.2 with ⟨rfl,h0⟩ | ⟨g',cap,cur,rfl,hb,hg',hc,hm,hs,ht⟩
 · cases hg
 · have:g'=g:=by simpa [Value.ownBlock] using hg
   subst this
   exact ⟨_,_,_,hg'⟩
theorem ZT.keep {α:Type} {w w':Wd} {base n:Nat} {T:TypeId} {enc:α→List Vl} {v:Vl} {l:List α} (h:ZT w base T n enc v l) (hk:∀ b,v.ownBlock=some b→w'.heap[b]?=w.heap[b]?):ZT w' base T n enc v l:=by
 obtain ⟨h1,h2⟩:=h
 refine ⟨h1,?_⟩
 rcases h2 with h2 | ⟨g,cap,cur,hv,a1,a2,a3⟩
 · exact .inl h2
 · exact .inr ⟨g,cap,cur,hv,a1,by rw [hk g (by rw [hv];rfl)];exact a2,a3⟩
theorem AG:∀ {a b:List BAr},a.map Value.string=b.map Value.string→a=b
 | [],[],_=>rfl
 | [],_::_,h=>by cases h
 | _::_,[],h=>by cases h
 | x::a,y::b,h=>by
  rw [List.map_cons,List.map_cons] at h
  injection h with h1 h2
  injection h1 with h1
  rw [h1,AG h2]
theorem zC (w0:Wd) (pb:Nat) (sv:Vl) (l:List BAr) (hS:XV w0 pb sv l) (hL:(ZV [] l).length≤1048576) :
 Ret Pg 200 #[.slice none 0 0,.func (.func 198) #[] #[.pointer (some ⟨pb,0,none⟩)]] w0 λ r w'=>ZT w' w0.heap.size 9 1 Xi r (ZV [] l)∧Ext w0 w':=by
 have hseq:=DG pb sv l
 generalize hDD:ZV [] l=D at hseq hL ⊢
 refine Zdr (R:=ZJ _) ?_;unfold ZbF
 simp (disch:=try exact DI) only [↓PR,QR,simprocAttr]
 let I:List Vl→Wd→Prop:=λ seen w=>Ext w0 w∧∃ (ss:List BAr) (tv:Vl),seen=ss.map Value.string∧ss.length≤D.length∧w.heap[w0.heap.size]?=some (.cells #[tv] 94 (0,0))∧ZT w (w0.heap.size+1) 9 1 Xi tv ss
 have hLI:∀ B,w0.heap.size≤B→∀ k,Z4 B (I k):=λ B hB k=>Z4.and (Z4.from hB) (Z4.ex λ ss=>Z4.ex λ tv=>Z4.and (Z4.const _ _) (Z4.and (Z4.const _ _) (Z4.and (Z4.has B rfl) Z4.own)))
 refine ⟨_,_,SY D,Za9 D,(λ w=>XV w pb sv l),I,λ _ _=>False,λ _ _=>False,rfl,Zcl,hseq,?_,λ k w h=>hS.ext h.1,λ k=>hLI _ (by simp) k,λ _=>Z4.const _ _,λ _=>Z4.const _ _,?_,?_,?_,?_⟩
 · refine ⟨ee,[],.slice none 0 0,rfl,Nat.zero_le _,?_,ZT.nil _ _ _ _ _⟩
   simp (disch:=try exact DI) only [↓PR,QR,simprocAttr]
 · intro Rk hF seen x w1 hal hI1 hR1 hlt1 hready
   refine ⟨hready,λ w4 hbz=>?_⟩
   have hR4:=hF _ _ (KR6.busied hbz) hR1
   have hI4:=(hLI (w0.alloc (.cells #[.slice none 0 0] 94)).heap.size (by simp) seen).busied hbz (Nat.le_succ _) hI1
   clear hI1 hR1 hready hbz hlt1
   obtain ⟨x0,_,hx0,rfl⟩:=hal
   obtain ⟨e4,ss,tv,rfl,hsub,h24,hO⟩:=hI4
   rw [List.length_map] at hx0
   have Yq:=(List.getElem?_eq_some_iff.1 hx0).1
   have XA:ss.length≤1048576:=by omega
   have z2:=(Array.getElem?_eq_some_iff.1 h24).1
   have hr:∀ g,tv.ownBlock=some g→w0.heap.size+1≤g:=λ g hb=>(World.ownsRow.lt hO g hb).1
   have eA:Ext w4 (w4.alloc (.cells #[.string x0] 9)):=(Ext.refl _).alloc _
   unfold NS
   simp (disch:=try exact DI) only [↓PR,QR,simprocAttr,(Za h24).1]
   refine Vb x0 (b:=w4.heap.size) (hO.ext eA) (by rw [Qp];rfl) (by have:=eA.size;omega) XA ?_
   intro v' w' hO' hg
   have h2':w'.heap[w0.heap.size]?=some (.cells #[tv] 94 (0,0)):=(hg.block w0.heap.size (by have:=eA.size;omega) λ e=>by have:=hr _ e.symm;omega).trans (eA.obj h24)
   have ht1:v'.oneCell'=true:=Zd.oneCell (ZT.slice (E:=λ _ cs s=>cs=Xi s) hO' (λ _=>rfl) (λ _ _=>rfl))
   simp (disch:=try exact DI) only [↓PR,QR,simprocAttr,(Za h2').1,(Za h2').2]
   have hE5:Ext w0 (w'.setCell ⟨w0.heap.size,0,none⟩ v'):=((e4.trans eA).grown hg λ g hb=>by have:=hr g hb;omega).setCell (p:=⟨w0.heap.size,0,none⟩) (Nat.le_refl _) _
   refine ⟨hF _ _ ((((KR6.refl _ w4).ext eA).grown hg λ g hb=>ZT.cellsAt (hO.ext eA) g hb).cell h2' 0 v') hR4,hE5,ss++[x0],v',by simp,by simp;omega,Zw (o:=0) h2' v',ZT.keep hO' λ g hb=>?_⟩
   have:=(World.ownsRow.lt hO' g hb).1
   rw [YH.setCell _ w0.heap.size _ _ g (by omega)]
 · intro seen w1 hfin hI1 hmk
   obtain ⟨e1,ss,tv,rfl,_,h24,hO⟩:=hI1
   have hz:(w0.alloc (.cells #[.slice none 0 0] 94)).heap.size=w0.heap.size+1:=by simp
   rw [hz] at hmk ⊢
   show V6 _ _ _
   rw [(Za h24).1]
   show VH _ _ _ _ _
   refine Q3 hmk ?_
   simp (disch:=try exact DI) only [↓PR,QR,simprocAttr,Wf,zy,XD]
   rw [← AG hfin]
   refine ⟨(ZT.keep hO λ g hb=>?_).base (Nat.le_succ _),e1.putObj (Nat.le_succ _) _⟩
   have YW:g≠w0.heap.size+1:=by
    rintro rfl
    obtain ⟨cs,T,f,hc⟩:=ZT.cellsAt hO _ hb
    have:w1.heap[w0.heap.size+1]?=some (.deferred (some [])):=hmk
    rw [hc] at this
    cases this
   exact World.putObj_heap_other YW
 · exact λ _ _ h=>h.elim
 · exact λ _ _ h=>h.elim
theorem zN:∀ (seen l:List BAr),(ZV seen l).length≤l.length
 | _,[]=>Nat.le_refl _
 | seen,s::l=>by
  unfold ZV
  split
  · exact Nat.le_trans (zN _ l) (Nat.le_succ _)
  · simp only [List.length_cons]
    exact Nat.succ_le_succ (zN _ l)
theorem qw (w0:Wd) (pb:Nat) (sv:Vl) (l:List BAr) (hS:XV w0 pb sv l) (hL:(ZV [] l).length≤1048576) :
 Ret Pg 166 #[.func (.func 198) #[] #[.pointer (some ⟨pb,0,none⟩)]] w0 λ r w'=>ZT w' w0.heap.size 9 1 Xi r (ZV [] l)∧Ext w0 w':=by
 refine Zdz (R:=ZJ _) ?_;unfold Zdy
 refine Zl (zC w0 pb sv l hS hL) ?_
 rintro v w1 ⟨h,e1⟩
 simp (disch:=try exact DI) only [↓PR,QR,simprocAttr]
 exact ⟨h,e1⟩
theorem Ap (w0:Wd) (v:Vl) (f:Zt) (hf:ZZ w0 v f) (hb:(Yx f).length≤1048576):Ret Pg 141 #[v] w0 λ r w'=>Zd w' 1 GQ r (ZV [] (Yx f))∧Ext w0 w':=by
 obtain ⟨tv,cv,rfl,hT,hC,t1,c1⟩:=hf.op
 have hr:YR [f]=Yx f:=by unfold YR;simp
 refine Zha (R:=ZJ _) ?_;unfold n44
 rw [YS]
 have qd:=Yg.new (w:=w0) (Zv f tv cv) (123)
 have eW:Ext w0 (w0.alloc (Obj.cells (List.toArray (Zv f tv cv)) (123))):=(Ext.refl _).alloc _
 generalize (w0.alloc (Obj.cells (List.toArray (Zv f tv cv)) (123)))=W at qd eW ⊢
 simp (disch:=try exact DI) only [↓PR,QR,simprocAttr,qd.c15 (Ext.refl W)]
 have hA:Yg (W.alloc (.cells (Zv f tv cv).toArray 123)) W.heap.size 0 (Zv f tv cv):=Yg.new _ _
 have eV:Ext W (W.alloc (.cells (Zv f tv cv).toArray 123)):=(Ext.refl W).alloc _
 generalize (W.alloc (.cells (Zv f tv cv).toArray 123))=V at hA eV ⊢
 have hM:QV V (.agg #[.string ByteArray.empty,.slice (some ⟨W.heap.size,0,none⟩) 1 1]) ⟨ByteArray.empty,[f]⟩:=by
  refine ⟨_,rfl,_,1,rfl,Nat.le_refl _,by decide,λ _=>⟨_,0,rfl,λ k x hx=>?_⟩⟩
  cases k with
  | zero=>
   simp only [List.getElem?_cons_zero,Option.some.injEq] at hx
   subst hx
   exact ⟨_,rfl,hA,tv,cv,rfl,hT.ext (eW.trans eV),hC.ext (eW.trans eV)⟩
  | succ k=>simp at hx
 refine Zl (qG V _ ⟨ByteArray.empty,[f]⟩ hM (by rw [hr];exact hb)) ?_
 rintro _ w1 ⟨pb,sv,rfl,hS,hpb,e1⟩
 rw [hr] at hS
 refine Zl (qw w1 pb sv _ hS (Nat.le_trans (zN _ _) hb)) ?_
 rintro v w2 ⟨hO,e2⟩
 simp (disch:=try exact DI) only [↓PR,QR,simprocAttr]
 exact ⟨hO.slice (λ _=>rfl) (λ _ _=>rfl),eW.trans (eV.trans (e1.trans e2))⟩
section
variable {a0 w:Wd} {cb:Nat} {m:YG} {d e:Qk} {ru fi:Int}
def As (last:Int) (x:Qm):Bool:=decide (last < x.low)&&(decide (x.low≤x.high)&&(Qj x.high&&Qj x.to))
theorem H3 (last:Int) (x:Qm) (l:List Qm):Jj last (x::l)=(As last x&&Jj x.high l):=by
 rw [Jj];unfold As;simp only [Bool.and_assoc]
theorem ZbZ (h:CkM a0 w cb m d e ru fi) (v:Vl) (l:List Qm) (hs:WR w v l):Calls Pg 112 #[.pointer (some ⟨cb,0,none⟩),v] w (mR w (decide (QG l=0)) ru fi (QG l)):=by
 obtain ⟨A,c,rfl,hlc,hcm,hlm,YV⟩:=Zd.open hs
 refine ZgY ?_;unfold n32
 have first:∀ b,b=decide (1≤l.length∧l.length≤40)→Zg Pg 33 #[.pointer (some ⟨cb,0,none⟩),.bool b,.int .i64 2] (Zb (mR w (decide (QG l=0)) ru fi (QG l))) w (λ _ w'=>xG (.pointer (some ⟨cb,0,none⟩)) (.slice A l.length c) (mR w (decide (QG l=0)) ru fi (QG l)) w'):=by
  rintro b rfl
  refine YB (Xo h _ 2) (λ w1 e1 hb=>?_) (λ w1 e1 hb=>?_)
  · simp only [decide_eq_true_eq] at hb
    have ht:QG l=if Jj (-1) l=true then 0 else 8:=by unfold QG;rw [if_neg (by omega)]
    unfold xG
    simp (disch:=try exact DI) only [↓PR,QR,simprocAttr]
    refine Q0 (λ a b w'=>∃ (k:Nat) (last:Int),a = .int .i64 last∧b = .int .i64 k∧k≤l.length∧Ext w w'∧Jj (-1) l=Jj last (l.drop k)) (λ _ b _=>l.length - (intOf b).toNat) ⟨0,-1,rfl,rfl,by omega,e1,rfl⟩ ?_
    rintro _ _ w2 ⟨k,last,rfl,rfl,hk,e2,hR⟩
    rcases ZY hk with ⟨x,hx,hdr,Yq,Z5⟩ | ⟨hk,hdr,Z5⟩
    · obtain ⟨bt,ot,cst,rfl,_,hAt,rfl⟩:=YV k x hx
      rw [hdr,H3] at hR
      simp (disch:=try exact DI) only [↓PR,QR,simprocAttr,Z5]
      unfold jY
      simp (disch:=try exact DI) only [↓PR,QR,simprocAttr,hAt.c3 e2]
      have oV:=Zz w2 (Z6 x).toArray 78
      have eV:Ext w2 (w2.alloc (.cells (Z6 x).toArray 78)):=(Ext.refl w2).alloc _
      generalize (w2.alloc (.cells (Z6 x).toArray 78))=V at oV eV ⊢
      have e3:=e2.trans eV
      have last3:∀ b,b=As last x→∀ k1:Vl→Wd→Prop,(∀ w4,Ext V w4→As last x=true→k1 (.tuple #[]) w4)→Zg Pg 33 #[.pointer (some ⟨cb,0,none⟩),.bool b,.int .i64 8] (Zb (mR w (decide (QG l=0)) ru fi (QG l))) V k1:=by
       rintro b rfl k1 hk1
       refine YB (Xo (h.go e3) _ 8) (λ w4 e4 hb=>hk1 w4 e4 hb) (λ w4 e4 hb=>?_)
       rw [hb,Bool.false_and] at hR
       rw [hR,if_neg (by simp)] at ht
       exact zU (e3.trans e4) (by rw [ht];rfl) ht
      have q:=Za oV
      have goOn:∀ w4,Ext V w4→As last x=true→xF (.pointer (some ⟨w2.heap.size,0,none⟩)) (.int .i64 k) (λ a b w'=>(∃ (k:Nat) (last:Int),a = .int .i64 last∧b = .int .i64 k∧k≤l.length∧Ext w w'∧Jj (-1) l=Jj last (l.drop k))∧l.length - (intOf b).toNat < l.length - (intOf (Value.int IntKind.i64 k)).toNat) (mR w (decide (QG l=0)) ru fi (QG l)) w4:=by
       intro w4 e4 hb
       rw [hb,Bool.true_and] at hR
       have q4:=Za (e4.obj oV)
       unfold xF
       simp (disch:=try exact DI) only [↓PR,QR,simprocAttr,q4.1]
       exact ⟨⟨k+1,_,rfl,rfl,Yq,e3.trans e4,hR⟩,Yf (kd := .i64) Yq⟩
      by_cases h1:last < x.low
      · have d1:decide (x.low > last)=true:=by simpa using h1
        by_cases h2:x.low≤x.high
        · have d2:decide (x.low≤x.high)=true:=by simpa using h2
          have hB:As last x=(Qj x.high&&Qj x.to):=by unfold As;simp [h1,h2]
          simp (disch:=try exact DI) only [↓PR,QR,simprocAttr,q.1,d1,d2,↓xF,↓BJ,↓BK,↓jY,↓xG]
          refine Zl (Qo V x.high) ?_
          rintro _ w' ⟨rfl,hw⟩
          rw [hw]
          generalize hn:Qj x.high=nh at hB
          cases nh with
          | true=>
           simp (disch:=try exact DI) only [↓PR,QR,simprocAttr,q.1,↓xF,↓BJ,↓BK,↓jY,↓xG]
           refine Zl (Qo V x.to) ?_
           rintro _ w' ⟨rfl,hw⟩
           rw [hw]
           simp (disch:=try exact DI) only [↓PR,QR,simprocAttr]
           exact last3 _ (by rw [hB,Bool.true_and]) _ goOn
          | false=>
           simp (disch:=try exact DI) only [↓PR,QR,simprocAttr,q.1,↓xF,↓BJ,↓BK,↓jY,↓xG]
           exact last3 _ (by rw [hB,Bool.false_and]) _ goOn
        · have d2:decide (x.low≤x.high)=false:=by simpa using h2
          have hB:As last x=false:=by unfold As;simp [h2]
          simp (disch:=try exact DI) only [↓PR,QR,simprocAttr,q.1,d1,d2,↓xF,↓BJ,↓BK,↓jY,↓xG]
          exact last3 _ hB.symm _ goOn
      · have d1:decide (x.low > last)=false:=by simpa using h1
        have hB:As last x=false:=by unfold As;simp [h1]
        simp (disch:=try exact DI) only [↓PR,QR,simprocAttr,q.1,d1,↓xF,↓BJ,↓BK,↓jY,↓xG]
        exact last3 _ hB.symm _ goOn
    · subst hk
      rw [hdr,Jj] at hR
      rw [hR,if_pos rfl] at ht
      simp (disch:=try exact DI) only [↓PR,QR,simprocAttr,Z5]
      exact CQ e2 (by rw [ht];rfl)
  · have ht:QG l=2:=by
     unfold QG
     rw [if_pos]
     simp only [decide_eq_false_iff_not] at hb
     omega
    exact zU e1 (by rw [ht];rfl) ht
 by_cases h1:1≤l.length
 · have d1:decide ((l.length:Int)≥1)=true:=by simp;omega
   by_cases h2:l.length≤40
   · have d2:decide ((l.length:Int)≤40)=true:=by simp;omega
     simp (disch:=try exact DI) only [↓PR,QR,simprocAttr,d1,d2]
     exact first _ (by simp [h1,h2])
   · have d2:decide ((l.length:Int)≤40)=false:=by simp;omega
     simp (disch:=try exact DI) only [↓PR,QR,simprocAttr,d1,d2]
     exact first _ (by simp [h2])
 · have d1:decide ((l.length:Int)≥1)=false:=by simp;omega
   simp (disch:=try exact DI) only [↓PR,QR,simprocAttr,d1]
   exact first _ (by simp [h1])
end
section
variable {a0 w:Wd} {cb:Nat} {m:YG} {d e:Qk} {ru fi:Int}
def xR (m:YG) (f t:Zt):Bool:=(ZV [] (Yx f)).all (okN m (ZV [] (Yx t)))
theorem Pt (h:CkM a0 w cb m d e ru fi) (u v:Vl) (f t:Zt) (hf:ZZ w u f) (ht:ZZ w v t) (bf:(Yx f).length≤1048576) (bt:(Yx t).length≤1048576):Calls Pg 113 #[.pointer (some ⟨cb,0,none⟩),u,v] w (mR w (xR m f t) ru fi 9):=by
 obtain ⟨tf,cf,rfl,hTf,hCf,o1,o2⟩:=hf.op
 obtain ⟨tt,ct,rfl,hTt,hCt,o3,o4⟩:=ht.op
 refine ZgV ?_;unfold n29
 rw [YS]
 have qd:=Yg.new (w:=w) (Zv f tf cf) (123)
 have eW:Ext w (w.alloc (Obj.cells (List.toArray (Zv f tf cf)) (123))):=(Ext.refl _).alloc _
 generalize (w.alloc (Obj.cells (List.toArray (Zv f tf cf)) (123)))=W at qd eW ⊢
 rw [YS]
 have hBX:=Yg.new (w:=W) (Zv t tt ct) (123)
 have eX:Ext W (W.alloc (Obj.cells (List.toArray (Zv t tt ct)) (123))):=(Ext.refl _).alloc _
 generalize (W.alloc (Obj.cells (List.toArray (Zv t tt ct)) (123)))=X at hBX eX ⊢
 simp (disch:=try exact DI) only [↓PR,QR,simprocAttr,qd.c15 eX]
 refine Zl (Ap X _ f ⟨_,_,rfl,hTf.ext (eW.trans eX),hCf.ext (eW.trans eX)⟩ bf) ?_
 rintro v1 w1 ⟨hD,e1⟩
 have E1:=eW.trans (eX.trans e1)
 have hNB:xR m f t=(ZV [] (Yx f)).all (okN m (ZV [] (Yx t))):=rfl
 generalize ZV [] (Yx f)=D at hD hNB
 obtain ⟨A,c,rfl,hlc,hcm,hlm,YV⟩:=Zd.open hD
 unfold Tu
 simp (disch:=try exact DI) only [↓PR,QR,simprocAttr]
 refine ZQ (λ b w'=>∃ k:Nat,b = .int .i64 k∧k≤D.length∧Ext w1 w'∧xR m f t=(D.drop k).all (okN m (ZV [] (Yx t)))) (λ b _=>D.length - (intOf b).toNat) ⟨0,rfl,by omega,Ext.refl _,hNB⟩ ?_
 rintro _ w2 ⟨k,rfl,hk,e2,hR⟩
 have E2:=E1.trans e2
 have hC:=h.go E2
 rcases ZY hk with ⟨s,hx,hdr,Yq,Z5⟩ | ⟨hk,hdr,Z5⟩
 · obtain ⟨bt',ot,cst,rfl,_,hAt,rfl⟩:=YV k s hx
   rw [hdr,List.all_cons] at hR
   obtain ⟨rv,dv,ev,q,hRv,hdv,hev⟩:=hC.obj
   have rv1:=Zd.oneCell hRv
   simp (disch:=try exact DI) only [↓PR,QR,simprocAttr,Z5]
   unfold Tt
   simp (disch:=try exact DI) only [↓PR,QR,simprocAttr,hAt.c1 e2,(Za q).1,(Za q).2]
   refine zcr (GV w2 _ m s ⟨_,rfl,hRv.ext hC.ext⟩) λ w3 e3=>?_
   unfold Ts
   have fin:∀ (b:Bool) w4,Ext w3 w4→EC w3.drew w4→b=okN m (ZV [] (Yx t)) s→Zg Pg 33 #[.pointer (some ⟨cb,0,none⟩),.bool b,.int .i64 9] (Zb (mR w (xR m f t) ru fi 9)) w4 (λ _ w5=>EC w3.drew w5∧(opV Pg (Zh .add 3 true (.int .i64 k) (.int .i64 1)) (Zb (mR w (xR m f t) ru fi 9)) w5 λ b w'=>(∃ k:Nat,b = .int .i64 k∧k≤D.length∧Ext w1 w'∧xR m f t=(D.drop k).all (okN m (ZV [] (Yx t))))∧D.length - (intOf b).toNat < D.length - (intOf (Value.int IntKind.i64 k)).toNat)):=by
    rintro b w4 e4 x4 rfl
    refine YB (Xo (h.go (E2.trans (e3.trans e4))) _ 9) (λ w5 e5 hb=>?_) (λ w5 e5 hb=>?_)
    · rw [hb,Bool.true_and] at hR
      refine ⟨Ext.trans x4 e5,?_⟩
      simp (disch:=try exact DI) only [↓PR,QR,simprocAttr]
      exact ⟨⟨k+1,rfl,Yq,e2.trans (e3.trans (e4.trans e5)),hR⟩,Yf (kd := .i64) Yq⟩
    · rw [hb,Bool.false_and] at hR
      exact zU (E2.trans (e3.trans (e4.trans e5))) hR rfl
   rcases H7 (λ r:MrD=>decide (r.fr=s)) m.rules with ⟨h1,h2,_,_,_⟩ | ⟨i,x,hxi,h1,h2,_,_,_⟩
   · have hp:VA m s=none:=h2
     have hk0:okN m (ZV [] (Yx t)) s=false:=by unfold okN;rw [h1]
     rw [hp,Option.getD_none,show (none:Option Nat).isSome=false from rfl]
     simp (disch:=try exact DI) only [↓PR,QR,simprocAttr]
     refine ZG ?_
     simp (disch:=try exact DI) only [↓PR,QR,simprocAttr]
     unfold Og
     exact fin false _ (Ext.refl w3).drew (Ext.refl _) hk0.symm
   · have hp:VA m s=some i:=h2
     rw [hp,Option.getD_some,show (some i).isSome=true from rfl]
     simp (disch:=try exact DI) only [↓PR,QR,simprocAttr]
     refine ZG ?_
     obtain ⟨br,or',cr,rfl,_,_,_,hil,helr⟩:=EU hRv hxi
     obtain ⟨csr,_,hAr,hEr⟩:=helr i x hxi
     obtain ⟨fv,rfl,hFr⟩:=hEr
     have q3:=Za (e3.obj q)
     unfold Tr
     simp (disch:=try exact DI) only [↓PR,QR,simprocAttr,q3.1,q3.2,hBX.c15 (e1.trans (e2.trans e3)),hAr.c3 (hC.ext.trans e3)]
     have E3:=E2.trans e3.drew
     refine Zl (Ap _ _ t ⟨_,_,rfl,hTt.ext E3,hCt.ext E3⟩ bt) ?_
     rintro v2 w4 ⟨hT2,e4⟩
     refine ⟨e4,?_⟩
     refine zcr (QF w4 _ _ x.to hT2) λ w5 e5=>?_
     refine ⟨e4.trans e5,?_⟩
     have hk1:okN m (ZV [] (Yx t)) s=(ZV [] (Yx t)).any λ y=>decide (x.to=y):=by unfold okN;rw [h1]
     unfold Og
     simp (disch:=try exact DI) only [↓PR,QR,simprocAttr]
     exact fin _ w5 ((Ext.refl w3).drew.trans (e4.trans e5)) (e4.trans e5) hk1.symm
 · subst hk
   rw [hdr] at hR
   simp (disch:=try exact DI) only [↓PR,QR,simprocAttr,Z5]
   exact CQ E2 (by rw [hR];rfl)
end
theorem Bu {s:BAr} {l:List BAr}:s∈ZV [] l↔s∈l:=by rw [zX];simp
theorem RF {α:Type} {p:α→Bool} {a b:List α} (h:∀ x,x∈a↔x∈b):a.all p=b.all p:=by
 rw [Bool.eq_iff_iff,List.all_eq_true,List.all_eq_true]
 exact ⟨λ k x hx=>k x ((h x).2 hx),λ k x hx=>k x ((h x).1 hx)⟩
theorem RH {α:Type} {p:α→Bool} {a b:List α} (h:∀ x,x∈a↔x∈b):a.any p=b.any p:=by
 rw [Bool.eq_iff_iff,List.any_eq_true,List.any_eq_true]
 exact ⟨λ ⟨x,hx,k⟩=>⟨x,(h x).1 hx,k⟩,λ ⟨x,hx,k⟩=>⟨x,(h x).2 hx,k⟩⟩
theorem FS {f:Zt} (h:4≤Q9 f):f.kind=7∨f.kind=8∨f.kind=12∨f.kind=9:=by
 unfold Q9 at h
 split at h
 · omega
 · split at h
   · omega
   · split at h
     · omega
     · split at h
       · omega
       · split at h
         · omega
         · split at h<;>omega
theorem qQ {f:Zt} (h:4≤Q9 f):Yx f=I9 (some f):=by
 unfold I9 Yx
 rcases FS h with k | k | k | k<;>simp [k]
theorem Su {m:YG} {s:BAr} {a b:List BAr} (h:∀ x,x∈a↔x∈b):okN m a s=okN m b s:=by
 unfold okN
 cases m.rules.find? λ r=>decide (r.fr=s) with
 | none=>rfl
 | some r=>exact RH h
theorem Ss {m:YG} {f t:Zt} (hf:4≤Q9 f) (ht:4≤Q9 t):I2 m (some f) (some t)=if xR m f t=true then 0 else 9:=by
 unfold I2 xR
 rw [← qQ hf,← qQ ht]
 have:((Yx f).all (okN m (Yx t)))=((ZV [] (Yx f)).all (okN m (ZV [] (Yx t)))):=by
  rw [RF (a:=ZV [] (Yx f)) (b:=Yx f) λ _=>Bu]
  congr 1
  funext s
  exact Su λ _=>Bu.symm
 rw [this]
section
variable {a0 w w0:Wd} {cb p6 p10:Nat} {m:YG} {d e:Qk} {ru fi:Int}
theorem MZ {r:FrD} (h:inF r=true):Qj (if IntKind.i64.wrap (0 - r.add) > r.add then IntKind.i64.wrap (0 - r.add) else r.add)=UX r.add:=by
 unfold inF X6 at h
 simp only [Bool.and_eq_true,decide_eq_true_eq] at h
 obtain ⟨⟨h1,h2⟩,_⟩:=h
 generalize r.add=n at h1 h2
 by_cases hn:n = -9223372036854775808
 · subst hn;decide
 · rw [Xf (by omega) (by omega)]
   unfold Qj UX
   rw [Bool.eq_iff_iff]
   simp only [Bool.and_eq_true,decide_eq_true_eq]
   split<;>omega
theorem Py (h:CkM a0 w cb m d e ru fi) (e0:Ext w0 w) (r:FrD) (bv tv:Vl) (o6:w.heap[p6]?=some (.cells (ZB r bv tv).toArray 43 (0,0))) (hT:WR w tv r.table) (hB:AU w bv r.bytes)
 (fo to:Option Zt) (tt tc:Vl) (o10:w.heap[p10]?=some (.cells (Zv (to.getD WX) tt tc).toArray 123 (0,0))) (hTt:ZW w tt (to.getD WX).terms) (hTc:Yh w tc (to.getD WX).cases) (u:Vl) (hu:ZZ w u (fo.getD WX))
 (bf:(Yx (fo.getD WX)).length≤1048576) (bt:(Yx (to.getD WX)).length≤1048576) (hk:1≤r.kind∧r.kind≤7) (hin:inF r=true) :
 UK (.pointer (some ⟨cb,0,none⟩)) (.pointer (some ⟨p6,0,none⟩)) (.pointer (some ⟨p10,0,none⟩)) (.int .i64 (CF to)) (.tuple #[u,.int .i64 (CF fo)]) (mR w0 (decide (QY m r fo to=0)) ru fi (QY m r fo to)) w:=by
 obtain ⟨tf,cf,rfl,hTf,hCf,f1,f2⟩:=hu.op
 obtain ⟨At,ct,rfl,_,_,_,_⟩:=Zd.open hT
 obtain ⟨Ab,cby,rfl,_,_,hbl,_⟩:=Zd.open hB
 unfold UK
 simp (disch:=try exact DI) only [↓PR,QR,simprocAttr]
 have oV:=Zz w (Zv (fo.getD WX) tf cf).toArray 123
 have eV:Ext w (w.alloc (.cells (Zv (fo.getD WX) tf cf).toArray 123)):=(Ext.refl w).alloc _
 generalize (w.alloc (.cells (Zv (fo.getD WX) tf cf).toArray 123))=V at oV eV ⊢
 generalize w.heap.size=p14 at oV ⊢
 have hC:=h.go eV
 have E:=e0.trans eV
 have q:=(Za (eV.obj o6)).1
 have fin:∀ w',Ext V w'→QY m r fo to=0→mR w0 (decide (QY m r fo to=0)) ru fi (QY m r fo to) (.returned (.tuple #[])) w':=λ w' e' hc=>CQ (E.trans e') (by rw [hc];rfl)
 have pan:∀ w' c,Ext V w'→QY m r fo to=c→c≠0→Zb (mR w0 (decide (QY m r fo to=0)) ru fi (QY m r fo to)) [WT ru fi c] w':=λ w' c e' hc h0=>zU (E.trans e') (by rw [hc];simpa using h0) hc
 generalize hx:CF fo=x
 generalize hy:CF to=y
 have this:r.kind=1∨r.kind=2∨r.kind=3∨r.kind=4∨r.kind=5∨r.kind=6∨r.kind=7:=by omega
 have hkc:QY m r fo to=QY m r fo to:=rfl
 conv at hkc=>rhs;unfold QY;rw [hx,hy];simp only
 rcases this with hk | hk | hk | hk | hk | hk | hk
 all_goals rw [hk] at hkc
 all_goals simp (disch:=try exact DI) only [↓PR,QR,simprocAttr,q,hk,↓jP,↓jQ,↓jR,↓jS,↓jT,↓jU,↓jV,↓jW,↓jX,↓Gv,↓Gw,↓Gx,↓Gy,↓Gz,↓UK,↓KH,↓UL,↓KI,↓KJ,↓KK,↓KN,↓KO]
 · replace hkc:QY m r fo to=if x≠y∨3 < y then 5 else 0:=hkc
   refine YB (Xo hC _ 5) (λ w1 e1 hb=>?_) (λ w1 e1 hb=>?_)
   · simp only [Bool.and_eq_true,beq_iff_eq,decide_eq_true_eq] at hb
     exact fin _ e1 (by rw [hkc,if_neg (by omega)])
   · simp only [Bool.and_eq_false_iff,beq_eq_false_iff_ne,decide_eq_false_iff_not] at hb
     exact pan _ _ e1 (by rw [hkc,if_pos (by omega)]) (by decide)
 · replace hkc:QY m r fo to=if x≠1∨y≠1 then 5 else if UX r.add=true then 0 else 8:=hkc
   refine YB (Xo hC _ 5) (λ w1 e1 hb=>?_) (λ w1 e1 hb=>?_)
   · simp only [Bool.and_eq_true,beq_iff_eq] at hb
     rw [if_neg (by omega)] at hkc
     have q1:=(Za ((eV.trans e1).obj o6)).1
     simp (disch:=try exact DI) only [↓PR,QR,simprocAttr,q1,↓jP,↓jQ,↓jR,↓jS,↓jT,↓jU,↓jV,↓jW,↓jX,↓Gv,↓Gw,↓Gx,↓Gy,↓Gz,↓UK,↓KH,↓UL,↓KI,↓KJ,↓KK,↓KN,↓KO]
     refine Zl (Qo w1 _) ?_
     rintro _ w2 ⟨rfl,hw⟩
     rw [hw,MZ hin]
     refine YB (Xo (hC.go e1) _ 8) (λ w3 e3 hb=>?_) (λ w3 e3 hb=>?_)
     · exact fin _ (e1.trans e3) (by rw [hkc,if_pos hb])
     · exact pan _ _ (e1.trans e3) (by rw [hkc,hb];rfl) (by decide)
   · simp only [Bool.and_eq_false_iff,beq_eq_false_iff_ne] at hb
     exact pan _ _ e1 (by rw [hkc,if_pos (by omega)]) (by decide)
 · replace hkc:QY m r fo to=if y≠1 then 5 else if Qj r.value=true then 0 else 8:=hkc
   refine YB (Xo hC _ 5) (λ w1 e1 hb=>?_) (λ w1 e1 hb=>?_)
   · simp only [beq_iff_eq] at hb
     rw [if_neg (by omega)] at hkc
     have q1:=(Za ((eV.trans e1).obj o6)).1
     simp (disch:=try exact DI) only [↓PR,QR,simprocAttr,q1,↓jP,↓jQ,↓jR,↓jS,↓jT,↓jU,↓jV,↓jW,↓jX,↓Gv,↓Gw,↓Gx,↓Gy,↓Gz,↓UK,↓KH,↓UL,↓KI,↓KJ,↓KK,↓KN,↓KO]
     refine Zl (Qo w1 _) ?_
     rintro _ w2 ⟨rfl,hw⟩
     rw [hw]
     refine YB (Xo (hC.go e1) _ 8) (λ w3 e3 hb=>?_) (λ w3 e3 hb=>?_)
     · exact fin _ (e1.trans e3) (by rw [hkc,if_pos hb])
     · exact pan _ _ (e1.trans e3) (by rw [hkc,hb];rfl) (by decide)
   · simp only [beq_eq_false_iff_ne] at hb
     exact pan _ _ e1 (by rw [hkc,if_pos (by omega)]) (by decide)
 · replace hkc:QY m r fo to=if y≠2 then 5 else if 1000 < r.bytes.length then 2 else 0:=hkc
   refine YB (Xo hC _ 5) (λ w1 e1 hb=>?_) (λ w1 e1 hb=>?_)
   · simp only [beq_iff_eq] at hb
     rw [if_neg (by omega)] at hkc
     have q1:=(Za ((eV.trans e1).obj o6)).1
     simp (disch:=try exact DI) only [↓PR,QR,simprocAttr,q1,↓jP,↓jQ,↓jR,↓jS,↓jT,↓jU,↓jV,↓jW,↓jX,↓Gv,↓Gw,↓Gx,↓Gy,↓Gz,↓UK,↓KH,↓UL,↓KI,↓KJ,↓KK,↓KN,↓KO]
     refine YB (Xo (hC.go e1) _ 2) (λ w3 e3 hb=>?_) (λ w3 e3 hb=>?_)
     · simp only [decide_eq_true_eq] at hb
       exact fin _ (e1.trans e3) (by rw [hkc,if_neg (by omega)])
     · simp only [decide_eq_false_iff_not] at hb
       exact pan _ _ (e1.trans e3) (by rw [hkc,if_pos (by omega)]) (by decide)
   · simp only [beq_eq_false_iff_ne] at hb
     exact pan _ _ e1 (by rw [hkc,if_pos (by omega)]) (by decide)
 · replace hkc:QY m r fo to=if x≠1∨y≠1 then 5 else QG r.table:=hkc
   refine YB (Xo hC _ 5) (λ w1 e1 hb=>?_) (λ w1 e1 hb=>?_)
   · simp only [Bool.and_eq_true,beq_iff_eq] at hb
     rw [if_neg (by omega)] at hkc
     have q1:=(Za ((eV.trans e1).obj o6)).1
     simp (disch:=try exact DI) only [↓PR,QR,simprocAttr,q1,↓jP,↓jQ,↓jR,↓jS,↓jT,↓jU,↓jV,↓jW,↓jX,↓Gv,↓Gw,↓Gx,↓Gy,↓Gz,↓UK,↓KH,↓UL,↓KI,↓KJ,↓KK,↓KN,↓KO]
     refine YB (ZbZ (hC.go e1) _ _ (hT.ext (eV.trans e1))) (λ w3 e3 hb=>?_) (λ w3 e3 hb=>?_)
     · exact fin _ (e1.trans e3) (by rw [hkc];simpa using hb)
     · exact pan _ _ (e1.trans e3) hkc (by simpa using hb)
   · simp only [Bool.and_eq_false_iff,beq_eq_false_iff_ne] at hb
     exact pan _ _ e1 (by rw [hkc,if_pos (by omega)]) (by decide)
 · replace hkc:QY m r fo to=if x≠y∨y < 4 then 5 else I2 m fo to:=hkc
   refine YB (Xo hC _ 5) (λ w1 e1 hb=>?_) (λ w1 e1 hb=>?_)
   · simp only [Bool.and_eq_true,beq_iff_eq,decide_eq_true_eq] at hb
     rw [if_neg (by omega)] at hkc
     cases fo with
     | none=>have:(0:Int)=x:=hx;omega
     | some f=>
     cases to with
     | none=>have:(0:Int)=y:=hy;omega
     | some t=>
     have c1:Q9 f=x:=hx
     have c2:Q9 t=y:=hy
     rw [Ss (by omega) (by omega)] at hkc
     have e01:=eV.trans e1
     have q2:=(Za (e1.obj oV)).1
     have q3:=(Za (e01.obj o10)).1
     simp (disch:=try exact DI) only [↓PR,QR,simprocAttr,q2,q3,↓jP,↓jQ,↓jR,↓jS,↓jT,↓jU,↓jV,↓jW,↓jX,↓Gv,↓Gw,↓Gx,↓Gy,↓Gz,↓UK,↓KH,↓UL,↓KI,↓KJ,↓KK,↓KN,↓KO]
     refine YB (Pt (hC.go e1) _ _ f t ⟨_,_,rfl,ZW.ext hTf e01,Yh.ext hCf e01⟩ ⟨_,_,rfl,ZW.ext hTt e01,Yh.ext hTc e01⟩ bf bt) (λ w3 e3 hb=>?_) (λ w3 e3 hb=>?_)
     · exact fin _ (e1.trans e3) (by rw [hkc,if_pos hb])
     · exact pan _ _ (e1.trans e3) (by rw [hkc,hb];rfl) (by decide)
   · simp only [Bool.and_eq_false_iff,beq_eq_false_iff_ne,decide_eq_false_iff_not] at hb
     exact pan _ _ e1 (by rw [hkc,if_pos (by omega)]) (by decide)
 · replace hkc:QY m r fo to=if y≠1 then 5 else 0:=hkc
   refine YB (Xo hC _ 5) (λ w1 e1 hb=>?_) (λ w1 e1 hb=>?_)
   · simp only [beq_iff_eq] at hb
     exact fin _ e1 (by rw [hkc,if_neg (by omega)])
   · simp only [beq_eq_false_iff_ne] at hb
     exact pan _ _ e1 (by rw [hkc,if_pos (by omega)]) (by decide)
end
theorem MM {k:Int} {u:AX} (h:XK k=some u):1≤k∧k≤7:=by
 unfold XK at h
 by_cases h7:1≤k∧k≤7
 · exact h7
 · rw [if_neg (by omega),if_neg (by omega),if_neg (by omega),if_neg (by omega),if_neg (by omega),if_neg (by omega),if_neg (by omega)] at h
   cases h
def Jb:AX:=⟨false,false,false,false,false⟩
section
variable {a0 w:Wd} {cb:Nat} {m:YG} {d e:Qk} {ru fi:Int}
theorem Ze3 (h:CkM a0 w cb m d e ru fi) (rv av bv lv:Vl) (r:FrD) (a b:Y8) (l:List FrD) (hr:QH w rv r) (ha:QV w av a) (hb:QV w bv b) (hl:WB w lv l) (hin:inF r=true)
 (ba:∀ f∈a.fields,(Yx f).length≤1048576) (bb:∀ f∈b.fields,(Yx f).length≤1048576) :
 Calls Pg 77 #[.pointer (some ⟨cb,0,none⟩),rv,av,bv,lv] w (mR w (decide (A7 m r a b l=0)) ru fi (A7 m r a b l)):=by
 obtain ⟨bv1,tv1,rfl,hB,hT,o1,o2⟩:=hr.op
 obtain ⟨fa,rfl,hFa⟩:=ha
 obtain ⟨fb,rfl,hFb⟩:=hb
 have p1:=Zd.oneCell hFa
 have p2:=Zd.oneCell hFb
 have refb:∀ (f:Option Zt),f=XZ b r.to→(Yx (f.getD WX)).length≤1048576:=by
  rintro _ rfl
  cases hp:XZ b r.to with
  | none=>decide
  | some f=>exact bb f (List.mem_of_find?_eq_some hp)
 have refa:∀ (f:Option Zt),f=XZ a r.fr→(Yx (f.getD WX)).length≤1048576:=by
  rintro _ rfl
  cases hp:XZ a r.fr with
  | none=>decide
  | some f=>exact ba f (List.mem_of_find?_eq_some hp)
 refine ZgW ?_;unfold n30
 rw [YS]
 have oW:=Zz w (ZB r bv1 tv1).toArray 43
 have eW:Ext w (w.alloc (.cells (ZB r bv1 tv1).toArray 43)):=(Ext.refl w).alloc _
 generalize (w.alloc (.cells (ZB r bv1 tv1).toArray 43))=W at oW eW ⊢
 generalize w.heap.size=p6 at oW ⊢
 rw [YS]
 have hBX:=Yg.new (w:=W) (Yc a fa) (74)
 have eX:Ext W (W.alloc (Obj.cells (List.toArray (Yc a fa)) (74))):=(Ext.refl _).alloc _
 generalize (W.alloc (Obj.cells (List.toArray (Yc a fa)) (74)))=X at hBX eX ⊢
 rw [YS]
 have hBY:=Yg.new (w:=X) (Yc b fb) (74)
 have eY:Ext X (X.alloc (Obj.cells (List.toArray (Yc b fb)) (74))):=(Ext.refl _).alloc _
 generalize (X.alloc (Obj.cells (List.toArray (Yc b fb)) (74)))=Y at hBY eY ⊢
 have EY:=eW.trans (eX.trans eY)
 generalize hCC:A7 m r a b l=C
 have pan:∀ w' c,Ext w w'→C=c→c≠0→Zb (mR w (decide (C=0)) ru fi C) [WT ru fi c] w':=λ w' c e' hc h0=>zU e' (by rw [hc];simpa using h0) hc
 unfold A7 at hCC
 simp (disch:=try exact DI) only [↓PR,QR,simprocAttr,hBY.c2 (Ext.refl Y),(Za ((eX.trans eY).obj oW)).1]
 refine Zl (Bv Y _ b r.to ⟨_,rfl,hFb.ext EY⟩) ?_
 rintro _ w1 ⟨⟨u,rfl,hu⟩,e1⟩
 obtain ⟨tf,cf,rfl,hTf,hCf,f1,f2⟩:=hu.op
 unfold KO
 simp (disch:=try exact DI) only [↓PR,QR,simprocAttr]
 have oV:=Zz w1 (Zv ((XZ b r.to).getD WX) tf cf).toArray 123
 have eV:Ext w1 (w1.alloc (.cells (Zv ((XZ b r.to).getD WX) tf cf).toArray 123)):=(Ext.refl w1).alloc _
 generalize (w1.alloc (.cells (Zv ((XZ b r.to).getD WX) tf cf).toArray 123))=V at oV eV ⊢
 generalize w1.heap.size=p10 at oV ⊢
 have EV:=EY.trans (e1.trans eV)
 refine YB (Xo (h.go EV) _ 5) (λ w2 e2 hb=>?_) (λ w2 e2 hb=>?_)
 case refine_2=>
  simp only [bne_eq_false_iff_eq] at hb
  rw [if_pos hb] at hCC
  exact pan _ _ (EV.trans e2) hCC.symm (by decide)
 simp only [bne_iff_ne,ne_eq] at hb
 rw [if_neg hb] at hCC
 simp (disch:=try exact DI) only [↓PR,QR,simprocAttr]
 refine Zl (Q7 w2 _ l _ _ (λ x=>decide (x.to=r.to)) (hl.ext (EV.trans e2)) Zfz λ w' v x _ e' hv=>?_) ?_
 · exact Me w' v x r hv _ bv1 tv1 (((eX.trans eY).trans (e1.trans (eV.trans (e2.trans e')))).obj oW)
 rintro _ w3 ⟨rfl,e3⟩
 have E3:=EV.trans (e2.trans e3)
 unfold KN
 simp (disch:=try exact DI) only [↓PR,QR,simprocAttr]
 refine YB (Xo (h.go E3) _ 4) (λ w4 e4 hq=>?_) (λ w4 e4 hq=>?_)
 case refine_2=>
  simp only [Bool.not_eq_false'] at hq
  rw [if_pos hq] at hCC
  exact pan _ _ (E3.trans e4) hCC.symm (by decide)
 simp only [Bool.not_eq_true'] at hq
 rw [hq,if_neg (by simp)] at hCC
 have E4:=E3.trans e4
 have rest:∀ (w5:Wd) (p12:Nat) (us:Option AX),us=XK r.kind→Ext w4 w5→w5.heap[p12]?=some (.cells #[.bool (us.getD Jb).fr,.bool (us.getD Jb).add,.bool (us.getD Jb).value,.bool (us.getD Jb).bytes,.bool (us.getD Jb).table] 105 (0,0)) →
  Zg Pg 33 #[.pointer (some ⟨cb,0,none⟩),.bool us.isSome,.int .i64 6] (Zb (mR w (decide (C=0)) ru fi C)) w5 λ _ w6=>UL (.pointer (some ⟨cb,0,none⟩)) (.pointer (some ⟨p6,0,none⟩)) (.pointer (some ⟨W.heap.size,0,none⟩)) (.pointer (some ⟨p10,0,none⟩)) (.pointer (some ⟨p12,0,none⟩)) (.int .i64 (CF (XZ b r.to))) (mR w (decide (C=0)) ru fi C) w6:=by
  intro w5 p12 us hus e5 o12
  have E5:=E4.trans e5
  rw [← hus] at hCC
  refine YB (Xo (h.go E5) _ 6) (λ w6 e6 hq=>?_) (λ w6 e6 hq=>?_)
  case refine_2=>
   cases us with
   | some _=>cases hq
   | none=>exact pan _ _ (E5.trans e6) hCC.symm (by decide)
  cases us with
  | none=>cases hq
  | some x=>
  have E6:=E5.trans e6
  have e46:=e5.trans e6
  have hk:=MM hus.symm
  have o6:w6.heap[p6]?=some (.cells (ZB r bv1 tv1).toArray 43 (0,0)):=((eX.trans eY).trans (e1.trans (eV.trans (e2.trans (e3.trans (e4.trans e46)))))).obj oW
  have q12:=(Za (e6.obj o12)).1
  unfold UL
  simp (disch:=try exact DI) only [↓PR,QR,simprocAttr,(Za o6).1,q12]
  refine zcr (Bq w6 _ r ⟨_,_,rfl,hB.ext E6,hT.ext E6⟩ x) λ w7 e7=>?_
  replace hCC:(if V3 r x=false then 7 else QY m r (XZ a r.fr) (XZ b r.to))=C:=hCC
  have E7:=E6.trans e7
  refine YB (Xo (h.go E7) _ 7) (λ w8 e8 hq=>?_) (λ w8 e8 hq=>?_)
  case refine_2=>
   rw [if_pos hq] at hCC
   exact pan _ _ (E7.trans e8) hCC.symm (by decide)
  rw [hq,if_neg (by decide)] at hCC
  have E8:=E7.trans e8
  have e68:=e7.trans e8
  have e48:=e46.trans e68
  have eV8:Ext V w8:=e2.trans (e3.trans (e4.trans e48))
  unfold KH
  simp (disch:=try exact DI) only [↓PR,QR,simprocAttr,hBX.c2 (eY.trans (e1.trans (eV.trans eV8))),(Za (e68.obj o6)).1]
  refine Zl (Bv w8 _ a r.fr ⟨_,rfl,hFa.ext E8⟩) ?_
  rintro _ w9 ⟨⟨u2,rfl,hu2⟩,e9⟩
  rw [← hCC]
  have E9:=E8.trans e9
  exact Py (h.go E9) E9 r bv1 tv1 ((e68.trans e9).obj o6) (hT.ext E9) (hB.ext E9) (XZ a r.fr) (XZ b r.to) tf cf ((eV8.trans e9).obj oV) (hTf.ext (eV.trans (eV8.trans e9))) (hCf.ext (eV.trans (eV8.trans e9))) u2 hu2 (refa _ rfl) (refb _ rfl) hk hin
 refine ZG ?_
 unfold KK
 have eD:Ext w4 w4.drew:=(Ext.refl _).wdrew
 have o64:w4.heap[p6]?=some (.cells (ZB r bv1 tv1).toArray 43 (0,0)):=((eX.trans eY).trans (e1.trans (eV.trans (e2.trans (e3.trans e4))))).obj oW
 simp (disch:=try exact DI) only [↓PR,QR,simprocAttr,(Za o64).1]
 have hget:((XK r.kind).map Bj).getD (.agg #[.bool false,.bool false,.bool false,.bool false,.bool false]) = .agg #[.bool ((XK r.kind).getD Jb).fr,.bool ((XK r.kind).getD Jb).add,.bool ((XK r.kind).getD Jb).value,.bool ((XK r.kind).getD Jb).bytes,.bool ((XK r.kind).getD Jb).table]:=by cases XK r.kind<;>rfl
 refine ⟨?_,(Ext.refl _).alloc _,?_⟩
 · refine Zl (UI _) ?_
   rintro _ w6 ⟨mm,L,c,rfl,hm,hM,hL,e6⟩
   refine Vn e6 hM ?_
   unfold KI
   simp only [UH]
   rw [WM underlying106 (Ql.int underlying39) UB ⟨w6,e6,hM⟩,hL r.kind,hget,Option.isSome_map]
   haveI:Yn (KM w4.drew mm Xn L c):=⟨⟨w6,e6,hM⟩⟩
   simp (disch:=try exact DI) only [↓PR,QR,simprocAttr]
   exact ⟨⟨e6.alloc _,hM.ext ((Ext.refl _).alloc _)⟩,⟨e6.alloc _,hM.ext ((Ext.refl _).alloc _)⟩,rest _ _ _ rfl (eD.trans (e6.alloc _)) (Zz _ _ _)⟩
 · refine Zl (UI _) ?_
   rintro _ w6 ⟨mm,L,c,rfl,hm,hM,hL,e6⟩
   have e6':=((Ext.refl w4.drew).alloc (Obj.cells #[Value.bool false,Value.bool false,Value.bool false,Value.bool false,Value.bool false] 105)).trans e6
   refine Vn e6' hM ?_
   unfold KJ
   simp only [UH]
   rw [WM underlying106 (Ql.int underlying39) UB ⟨w6,e6',hM⟩,hL r.kind,hget,Option.isSome_map]
   haveI:Yn (KM w4.drew mm Xn L c):=⟨⟨w6,e6',hM⟩⟩
   have o12:w6.heap[w4.heap.size]?=some (.cells #[Value.bool false,Value.bool false,Value.bool false,Value.bool false,Value.bool false] 105 (0,0)):=e6.obj (Zz w4.drew #[Value.bool false,Value.bool false,Value.bool false,Value.bool false,Value.bool false] 105)
   simp (disch:=try exact DI) only [↓PR,QR,simprocAttr,(Za o12).1,(Za o12).2]
   generalize hU:(XK r.kind).getD Jb=U at rest
   have z:=Zw (o:=4) (Zw (o:=3) (Zw (o:=2) (Zw (o:=1) (Zw (o:=0) o12 (.bool U.fr)) (.bool U.add)) (.bool U.value)) (.bool U.bytes)) (.bool U.table)
   have hz:w4.drew.heap.size≤w4.heap.size:=Nat.le_refl _
   have eZ:=((((e6'.setCell (p:=⟨w4.heap.size,0,none⟩) hz (.bool U.fr)).setCell (p:=⟨w4.heap.size,1,none⟩) hz (.bool U.add)).setCell (p:=⟨w4.heap.size,2,none⟩) hz (.bool U.value)).setCell (p:=⟨w4.heap.size,3,none⟩) hz (.bool U.bytes)).setCell (p:=⟨w4.heap.size,4,none⟩) hz (.bool U.table)
   exact ⟨⟨eZ,((((hM.setCell _ _).setCell _ _).setCell _ _).setCell _ _).setCell _ _⟩,rest _ _ _ rfl (eD.trans eZ) (by rw [hU];simpa using z)⟩
end
section
variable {a0 w:Wd} {cb:Nat} {m:YG} {d e:Qk} {ru fi:Int}
def msR (a0:Wd) (cb:Nat) (m:YG) (d e:Qk) (ru:Int) (q:Int×Int):Ending→Wd→Prop:=λ x w'=>Ext a0 w'∧(q.2=0∧x = .returned (.tuple #[])∧CkM a0 w' cb m d e ru (-1)∨q.2≠0∧x = .panicked [WT ru q.1 q.2])
theorem qp {w':Wd} {q:Int×Int} {f c:Int} (x:Ext a0 w') (h:q=(f,c)) (h0:c≠0):Zb (msR a0 cb m d e ru q) [WT ru f c] w':=⟨x,.inr ⟨by rw [h];exact h0,by rw [h]⟩⟩
theorem Zd.pre {α:Type} {w:Wd} {n:Nat} {E:Wd→List Vl→α→Prop} {A:Option Addr} {c:Nat} {l:List α} (h:Zd w n E (.slice A l.length c) l) (k:Nat) (hk:k≤l.length):Zd w n E (.slice A k c) (l.take k):=by
 obtain ⟨A',c',hv,h2,h3,h4⟩:=h
 injection hv with hA _ hc
 subst hA hc
 have hl:(l.take k).length=k:=by rw [List.length_take];omega
 refine ⟨_,_,by rw [hl],by rw [hl];omega,h3,λ YW=>?_⟩
 obtain ⟨b,o,hA,YV⟩:=h4 (by rintro rfl;simp at YW)
 refine ⟨b,o,hA,λ i y hy=>YV i y ?_⟩
 rw [List.getElem?_take] at hy
 split at hy
 · exact hy
 · cases hy
theorem LZ (h:CkM a0 w cb m d e ru fi) (l:List FrD) (fv:Vl) (hF:WB a0 fv l) (b:Y8) (fb:Vl) (hFb:YC a0 fb b.fields) (p3 p6:Nat) (n3:p3≠cb) (n6:p6≠cb) (fr to:BAr) (o3:w.heap[p3]?=some (.cells #[.string fr,.string to,fv] 60 (0,0))) (o6:w.heap[p6]?=some (.cells (Yc b fb).toArray 74 (0,0)))
 (Q:Int×Int) (hq:Q=if (b.fields.any (J0 l))=true then (-1,10) else (-1,0)) :
 BH (.pointer (some ⟨cb,0,none⟩)) (.pointer (some ⟨p3,0,none⟩)) (.pointer (some ⟨p6,0,none⟩)) (msR a0 cb m d e ru Q) w:=by
 obtain ⟨rv',dv,ev,q,hRv,hdv,hev⟩:=h.obj
 have p1:=Zd.oneCell hF
 obtain ⟨A,c,rfl,hlc,hcm,hlm,YV⟩:=Zd.open hFb
 unfold BH
 simp (disch:=try exact DI) only [↓PR,QR,simprocAttr,(Za q).1,(Za q).2,(Za o6).1]
 have hC2:=h.setField (-1)
 have y3:=(YH.setCell w cb 9 (.int .i64 (-1)) p3 n3).trans o3
 have y6:=(YH.setCell w cb 9 (.int .i64 (-1)) p6 n6).trans o6
 generalize (w.setCell ⟨cb,9,none⟩ (.int .i64 (-1)))=X at hC2 y3 y6 ⊢
 refine ZQ (λ i w'=>∃ k:Nat,i = .int .i64 k∧k≤b.fields.length∧Ext X w'∧b.fields.any (J0 l)=(b.fields.drop k).any (J0 l)) (λ i _=>b.fields.length - (intOf i).toNat) ⟨0,rfl,by omega,Ext.refl _,rfl⟩ ?_
 rintro _ w1 ⟨k,rfl,hk,e1,hR⟩
 have E1:=hC2.ext.trans e1
 rcases ZY hk with ⟨x,hx,hdr,Yq,Z5⟩ | ⟨hk,hdr,Z5⟩
 · obtain ⟨bt,ot,cst,rfl,_,hAt,hE⟩:=YV k x hx
   obtain ⟨tv,cv,rfl,hT,hC,t1,c1⟩:=hE.op
   rw [hdr,List.any_cons] at hR
   simp (disch:=try exact DI) only [↓PR,QR,simprocAttr,Z5]
   unfold Ex
   simp (disch:=try exact DI) only [↓PR,QR,simprocAttr,hAt.c15 E1]
   have oV:=Zz w1 (Zv x tv cv).toArray 123
   have eV:Ext w1 (w1.alloc (.cells (Zv x tv cv).toArray 123)):=(Ext.refl w1).alloc _
   generalize (w1.alloc (.cells (Zv x tv cv).toArray 123))=V at oV eV ⊢
   generalize w1.heap.size=p13 at oV ⊢
   have e2:=e1.trans eV
   have E2:=hC2.ext.trans e2
   simp (disch:=try exact DI) only [↓PR,QR,simprocAttr,(Za (e2.obj y3)).1]
   refine zcr (Q7 V _ l _ _ (λ y=>decide (y.to=x.name)) (hF.ext E2) c79 λ w' v y _ e' hv=>jp w' v y x hv _ tv cv (e'.obj oV)) λ w3 e3=>?_
   have e13:=e2.trans e3
   have fin:∀ (w4:Wd) (bb:Bool),Ext X w4→bb=!J0 l x→Zg Pg 33 #[.pointer (some ⟨cb,0,none⟩),.bool bb,.int .i64 10] (Zb (msR a0 cb m d e ru Q)) w4 λ _ w5=>opV Pg (Zh .add 3 true (.int .i64 k) (.int .i64 1)) (Zb (msR a0 cb m d e ru Q)) w5 λ i w'=>(∃ k:Nat,i = .int .i64 k∧k≤b.fields.length∧Ext X w'∧b.fields.any (J0 l)=(b.fields.drop k).any (J0 l))∧b.fields.length - (intOf i).toNat < b.fields.length - (intOf (Value.int IntKind.i64 k)).toNat:=by
    rintro w4 bb e4 rfl
    refine YB (Xo (hC2.go e4) _ 10) (λ w5 e5 hb=>?_) (λ w5 e5 hb=>?_)
    · simp only [Bool.not_eq_true'] at hb
      rw [hb,Bool.false_or] at hR
      simp (disch:=try exact DI) only [↓PR,QR,simprocAttr]
      exact ⟨⟨k+1,rfl,Yq,e4.trans e5,hR⟩,Yf (kd := .i64) Yq⟩
    · simp only [Bool.not_eq_false'] at hb
      rw [hb,Bool.true_or] at hR
      exact qp (hC2.ext.trans (e4.trans e5)) (by rw [hq,if_pos hR]) (by decide)
   unfold Ew
   unfold J0 at fin
   generalize (l.any λ y=>decide (y.to=x.name))=g at fin
   cases g with
   | true=>
    simp (disch:=try exact DI) only [↓PR,QR,simprocAttr,↓Ev,↓IN,↓Ew,↓Ex,↓BH,↓Ey,↓BI,↓Ez,↓EA,↓yK,↓jK,↓jL,↓yL,↓jM,↓jN,↓jO]
    exact fin w3 _ e13 (by simp)
   | false=>
    simp (disch:=try exact DI) only [↓PR,QR,simprocAttr,↓Ev,↓IN,↓Ew,↓Ex,↓BH,↓Ey,↓BI,↓Ez,↓EA,↓yK,↓jK,↓jL,↓yL,↓jM,↓jN,↓jO,(Za (e3.obj oV)).1]
    refine zcr (xp w3 _ x ⟨_,_,rfl,hT.ext (E2.trans e3),hC.ext (E2.trans e3)⟩) λ w4 e4=>?_
    simp (disch:=try exact DI) only [↓PR,QR,simprocAttr,↓Ev,↓IN,↓Ew,↓Ex,↓BH,↓Ey,↓BI,↓Ez,↓EA,↓yK,↓jK,↓jL,↓yL,↓jM,↓jN,↓jO]
    exact fin w4 _ (e13.trans e4) (by by_cases hz:Q9 x=0<;>simp [hz])
 · subst hk
   rw [hdr,List.any_nil] at hR
   rw [hR,if_neg (by simp)] at hq
   simp (disch:=try exact DI) only [↓PR,QR,simprocAttr,Z5]
   exact ⟨E1,.inl ⟨by rw [hq],rfl,hC2.go e1⟩⟩
theorem No (h:CkM a0 w cb m d e ru (-1)) (r:MrD) (fv:Vl) (hF:WB a0 fv r.fields) (a b:Y8) (fa fb:Vl) (hFa:YC a0 fa a.fields) (hFb:YC a0 fb b.fields) (hin:∀ x∈r.fields,inF x=true)
 (ba:∀ f∈a.fields,(Yx f).length≤1048576) (bb:∀ f∈b.fields,(Yx f).length≤1048576) (p3 p4 p6:Nat) (n3:p3≠cb) (n4:p4≠cb) (n6:p6≠cb) (o3:w.heap[p3]?=some (.cells (YY r fv).toArray 60 (0,0))) (o4:w.heap[p4]?=some (.cells (Yc a fa).toArray 74 (0,0))) (o6:w.heap[p6]?=some (.cells (Yc b fb).toArray 74 (0,0)))
 (Q:Int×Int) (hq:Q=if (QT m a b r.fields 0 r.fields).2≠0 then QT m a b r.fields 0 r.fields else if (b.fields.any (J0 r.fields))=true then (-1,10) else (-1,0)) :
 BI (.pointer (some ⟨cb,0,none⟩)) (.pointer (some ⟨p3,0,none⟩)) (.pointer (some ⟨p4,0,none⟩)) (.pointer (some ⟨p6,0,none⟩)) (msR a0 cb m d e ru Q) w:=by
 obtain ⟨A,c,rfl,hlc,hcm,hlm,YV⟩:=Zd.open hF
 have p1:=Zd.oneCell hFa
 have p2:=Zd.oneCell hFb
 unfold BI
 simp (disch:=try exact DI) only [↓PR,QR,simprocAttr,(Za o3).1]
 refine ZQ (λ i w'=>∃ (k:Nat) (fl:Int),i = .int .i64 k∧k≤r.fields.length∧CkM a0 w' cb m d e ru fl∧w'.heap[p3]?=some (.cells (YY r (.slice A r.fields.length c)).toArray 60 (0,0))∧w'.heap[p4]?=some (.cells (Yc a fa).toArray 74 (0,0))∧w'.heap[p6]?=some (.cells (Yc b fb).toArray 74 (0,0))∧QT m a b r.fields 0 r.fields=QT m a b r.fields k (r.fields.drop k)) (λ i _=>r.fields.length - (intOf i).toNat) ⟨0,-1,rfl,by omega,h,o3,o4,o6,rfl⟩ ?_
 rintro _ w1 ⟨k,fl,rfl,hk,hC,x3,x4,x6,hR⟩
 obtain ⟨rv',dv,ev,q,hRv,hdv,hev⟩:=hC.obj
 rcases ZY hk with ⟨x,hx,hdr,Yq,Z5⟩ | ⟨hk,hdr,Z5⟩
 · obtain ⟨bt,ot,cst,rfl,_,hAt,hE⟩:=YV k x hx
   obtain ⟨bv1,tv1,rfl,hB,hT,z1,z2⟩:=hE.op
   simp (disch:=try exact DI) only [↓PR,QR,simprocAttr,Z5]
   unfold Ey
   have lcb:=(Array.getElem?_eq_some_iff.1 q).1
   simp (disch:=try exact DI) only [↓PR,QR,simprocAttr,hAt.c7 hC.ext]
   have oV:=Zz w1 (ZB x bv1 tv1).toArray 43
   have eV:Ext w1 (w1.alloc (.cells (ZB x bv1 tv1).toArray 43)):=(Ext.refl w1).alloc _
   generalize (w1.alloc (.cells (ZB x bv1 tv1).toArray 43))=V at oV eV ⊢
   have n11:w1.heap.size≠cb:=by omega
   generalize w1.heap.size=p11 at oV n11 ⊢
   have qV:=Za (eV.obj q)
   simp (disch:=try exact DI) only [↓PR,QR,simprocAttr,(Za q).1,qV.1,qV.2]
   have hC2:=(hC.go eV).setField (k:Int)
   have y3:=(YH.setCell V cb 9 (.int .i64 (k:Int)) p3 n3).trans (eV.obj x3)
   have y4:=(YH.setCell V cb 9 (.int .i64 (k:Int)) p4 n4).trans (eV.obj x4)
   have y6:=(YH.setCell V cb 9 (.int .i64 (k:Int)) p6 n6).trans (eV.obj x6)
   have y11:=(YH.setCell V cb 9 (.int .i64 (k:Int)) p11 n11).trans oV
   generalize (V.setCell ⟨cb,9,none⟩ (.int .i64 (k:Int)))=X at hC2 y3 y4 y6 y11 ⊢
   refine ZG ?_
   unfold Ev
   simp (disch:=try exact DI) only [↓PR,QR,simprocAttr,(Za y3).1,(Za y4).1,(Za y6).1,(Za y11).1]
   rw [Ym λ QP w' k'=>Vv underlying58 Ua bt ot r.fields.length c .i64 k (by omega)]
   simp (disch:=try exact DI) only [↓PR,QR,simprocAttr]
   have eD:Ext X X.drew:=(Ext.refl X).wdrew
   have E:=hC2.ext.trans eD
   have XA:(r.fields.take k).length=k:=by rw [List.length_take];omega
   have XG:QT m a b r.fields 0 r.fields=if A7 m x a b (r.fields.take k)≠0 then ((k:Int),A7 m x a b (r.fields.take k)) else QT m a b r.fields (k+1) (r.fields.drop (k+1)):=by rw [hR,hdr,QT]
   refine YB (Ze3 (hC2.go eD) _ _ _ _ x a b (r.fields.take k) ⟨_,_,rfl,hB.ext E,hT.ext E⟩ ⟨_,rfl,hFa.ext E⟩ ⟨_,rfl,hFb.ext E⟩ ((Zd.pre hF k (by omega)).ext NG E) (hin x (List.mem_of_getElem? hx)) ba bb) (λ w5 e5 hb=>?_) (λ w5 e5 hb=>?_)
   · have h0:A7 m x a b (r.fields.take k)=0:=by simpa using hb
     rw [if_neg (by simpa using h0)] at XG
     refine ⟨e5,?_⟩
     have e':=eD.trans e5
     simp (disch:=try exact DI) only [↓PR,QR,simprocAttr]
     exact ⟨⟨k+1,k,rfl,Yq,hC2.go e',e'.obj y3,e'.obj y4,e'.obj y6,XG⟩,Yf (kd := .i64) Yq⟩
   · have h0:A7 m x a b (r.fields.take k)≠0:=by simpa using hb
     rw [if_pos h0] at XG
     exact qp (E.trans e5) (by rw [hq,XG,if_pos h0]) h0
 · subst hk
   rw [hdr,QT] at hR
   rw [hR,if_neg (by simp)] at hq
   simp (disch:=try exact DI) only [↓PR,QR,simprocAttr,Z5]
   exact LZ hC r.fields _ hF b fb hFb p3 p6 n3 n6 r.fr r.to x3 x6 Q hq
theorem Hc (h:CkM a0 w cb m d e ru (-1)) (i:Nat) (hru:ru=i) (rv:Vl) (r:MrD) (hr:GU a0 rv r) (hri:m.rules[i]?=some r) (hin:∀ x∈r.fields,inF x=true)
 (bd:∀ x∈d.msgs,∀ f∈x.fields,(Yx f).length≤1048576) (be:∀ x∈e.msgs,∀ f∈x.fields,(Yx f).length≤1048576) :
 Calls Pg 36 #[.pointer (some ⟨cb,0,none⟩),rv] w (msR a0 cb m d e ru (B6 m d e i r)):=by
 obtain ⟨fv,rfl,hF,o1⟩:=hr.op
 have E0:=h.ext
 refine ZgS ?_;unfold n26
 rw [YS]
 have oW:=Zz w (YY r fv).toArray 60
 have eW:Ext w (w.alloc (.cells (YY r fv).toArray 60)):=(Ext.refl w).alloc _
 generalize (w.alloc (.cells (YY r fv).toArray 60))=W at oW eW ⊢
 have lcb0:cb < w.heap.size:=by obtain ⟨_,_,_,z,_⟩:=h.obj;exact (Array.getElem?_eq_some_iff.1 z).1
 generalize w.heap.size=p3 at oW lcb0 ⊢
 have hC:=h.go eW
 obtain ⟨rv',dv,ev,q,hRv,hdv,hev⟩:=hC.obj
 have d1:=Zd.oneCell hdv
 have d2:=Zd.oneCell hev
 generalize hq:B6 m d e i r=Q
 refine ZG ?_
 unfold jO
 simp (disch:=try exact DI) only [↓PR,QR,simprocAttr,(Za q).1,(Za oW).1]
 obtain ⟨A,hA⟩:∃ A,Et d r.fr=A:=⟨_,rfl⟩
 obtain ⟨B,hB⟩:∃ B,Et e r.to=B:=⟨_,rfl⟩
 have rest2:∀ (w5:Wd) (p4 p6:Nat) (fa fb:Vl),Ext W w5→p4≠cb→p6≠cb→w5.heap[p4]?=some (.cells (Yc (A.getD Jy) fa).toArray 74 (0,0))→YC a0 fa (A.getD Jy).fields→w5.heap[p6]?=some (.cells (Yc (B.getD Jy) fb).toArray 74 (0,0))→YC a0 fb (B.getD Jy).fields →
  yK (.pointer (some ⟨cb,0,none⟩)) (.pointer (some ⟨p3,0,none⟩)) (.pointer (some ⟨p4,0,none⟩)) (.bool A.isSome) (.pointer (some ⟨p6,0,none⟩)) (.bool B.isSome) (msR a0 cb m d e ru Q) w5:=by
  intro w5 p4 p6 fa fb e5 n4 n6 o4 hFa o6 hFb
  have hC5:=hC.go e5
  unfold yK
  simp (disch:=try exact DI) only [↓PR,QR,simprocAttr]
  refine YB (Xo hC5 _ 3) (λ w7 e7 hb=>?_) (λ w7 e7 hb=>?_)
  case refine_2=>
   refine qp (hC5.ext.trans e7) ?_ (by decide)
   rw [← hq]
   unfold B6
   rw [hA,hB]
   cases A with
   | none=>rfl
   | some a=>cases B with
    | none=>rfl
    | some b=>cases hb
  cases A with
  | none=>cases hb
  | some a=>
  cases B with
  | none=>cases hb
  | some b=>
  replace hq:(if VA m r.fr≠some i then ((-1:Int),(4:Int)) else if (QT m a b r.fields 0 r.fields).2≠0 then QT m a b r.fields 0 r.fields else if (b.fields.any (J0 r.fields))=true then (-1,10) else (-1,0))=Q:=by
   rw [← hq];unfold B6;rw [hA,hB]
  have ham:=List.mem_of_find?_eq_some hA
  have hbm:=List.mem_of_find?_eq_some hB
  have hC7:=hC5.go e7
  have q7:=Za ((e5.trans e7).obj q)
  have r7:=Za ((e5.trans e7).obj oW)
  have rv1:=Zd.oneCell hRv
  refine ZG ?_
  unfold EA
  simp (disch:=try exact DI) only [↓PR,QR,simprocAttr,q7.1,q7.2,r7.1]
  refine zcr (GV _ _ m r.fr ⟨_,rfl,hRv.ext hC7.ext.wdrew⟩) λ w8 e8=>?_
  refine ⟨e8,?_⟩
  have e78:=(Ext.refl w7).wdrew.trans e8
  have q8:=Za (((e5.trans e7).trans e78).obj q)
  have r8:=Za (((e5.trans e7).trans e78).obj oW)
  have hC8:=hC7.go e78
  unfold Ez
  simp (disch:=try exact DI) only [↓PR,QR,simprocAttr,q8.1,q8.2,r8.1]
  obtain ⟨j,hj⟩:∃ j,VA m r.fr=some j:=by
   rcases H7 (λ x:MrD=>decide (x.fr=r.fr)) m.rules with ⟨h1,_⟩ | ⟨k,x,_,_,h2,_⟩
   · have:=List.find?_eq_none.1 h1 r (List.mem_of_getElem? hri)
     simp at this
   · exact ⟨k,h2⟩
  rw [hj] at hq
  rw [hj,Option.getD_some]
  refine YB (Xo hC8 _ 4) (λ w9 e9 hb=>?_) (λ w9 e9 hb=>?_)
  case refine_2=>
   refine qp (hC8.ext.trans e9) ?_ (by decide)
   rw [← hq,if_pos]
   rintro h
   injection h with h
   rw [hru,h] at hb
   simp at hb
  rw [if_neg (by rw [hru] at hb;simp only [beq_iff_eq] at hb;intro h;apply h;congr 1;omega)] at hq
  exact No (hC8.go e9) r fv hF a b fa fb hFa hFb hin (bd a ham) (be b hbm) p3 p4 p6 (by omega) n4 n6 ((e5.trans (e7.trans (e78.trans e9))).obj oW) ((e7.trans (e78.trans e9)).obj o4) ((e7.trans (e78.trans e9)).obj o6) Q hq.symm
 have rest1:∀ (w5:Wd) (p4:Nat) (fa:Vl),Ext W w5→p4≠cb→w5.heap[p4]?=some (.cells (Yc (A.getD Jy) fa).toArray 74 (0,0))→YC a0 fa (A.getD Jy).fields →
  Ye w5 λ C3 w6=>yL (.pointer (some ⟨cb,0,none⟩)) (.pointer (some ⟨p3,0,none⟩)) (.pointer (some ⟨p4,0,none⟩)) (.bool A.isSome) C3 (msR a0 cb m d e ru Q) w6:=by
  intro w5 p4 fa e5 n4 o4 h4
  refine ZG ?_
  unfold yL
  have q5:=Za (e5.obj q)
  have r5:=Za (e5.obj oW)
  have lcb:=(Array.getElem?_eq_some_iff.1 (e5.obj q)).1
  have E5:=hC.ext.trans e5
  simp (disch:=try exact DI) only [↓PR,QR,simprocAttr,q5.1,r5.1]
  refine ⟨?_,(Ext.refl _).alloc _,?_⟩
  · refine Zl (VP a0 _ E5.wdrew _ e r.to ⟨_,rfl,hev⟩) ?_
    rintro _ w6 ⟨⟨u,rfl,fb,rfl,hFb⟩,e6⟩
    rw [hB] at hFb ⊢
    have g1:=Zd.oneCell hFb
    refine ⟨e6,?_⟩
    unfold jK
    simp (disch:=try exact DI) only [↓PR,QR,simprocAttr]
    have sz:=e6.size
    exact ⟨e6.alloc _,e6.alloc _,rest2 _ _ _ fa fb (e5.wdrew.trans (e6.alloc _)) n4 (by have:w5.drew.heap.size=w5.heap.size:=rfl;omega) ((((Ext.refl w5).wdrew.trans e6).alloc _).obj o4) h4 (Zz _ _ _) hFb⟩
  · refine Zl (VP a0 _ (E5.wdrew.alloc _) _ e r.to ⟨_,rfl,hev⟩) ?_
    rintro _ w6 ⟨⟨u,rfl,fb,rfl,hFb⟩,e6⟩
    rw [hB] at hFb ⊢
    have g1:=Zd.oneCell hFb
    have e6':=((Ext.refl w5.drew).alloc _).trans e6
    have o6:w6.heap[w5.heap.size]?=some (.cells #[.string ByteArray.empty,.slice none 0 0] 74 (0,0)):=e6.obj (Zz w5.drew _ _)
    unfold jL
    simp (disch:=try exact DI) only [↓PR,QR,simprocAttr,(Za o6).1,(Za o6).2]
    have hz:w5.drew.heap.size≤w5.heap.size:=Nat.le_refl _
    have eZ:=(e6'.setCell (p:=⟨w5.heap.size,0,none⟩) hz (.string (B.getD Jy).name)).setCell (p:=⟨w5.heap.size,1,none⟩) hz fb
    have z:=Zw (o:=1) (Zw (o:=0) o6 (.string (B.getD Jy).name)) fb
    exact ⟨e6',eZ,rest2 _ _ _ fa fb (e5.wdrew.trans eZ) n4 (by omega) (((Ext.refl w5).wdrew.trans eZ).obj o4) h4 (by simpa using z) hFb⟩
 have lcb:=(Array.getElem?_eq_some_iff.1 q).1
 refine ⟨?_,(Ext.refl _).alloc _,?_⟩
 · refine Zl (VP a0 _ hC.ext.wdrew _ d r.fr ⟨_,rfl,hdv⟩) ?_
   rintro _ w6 ⟨⟨u,rfl,fb,rfl,hFb⟩,e6⟩
   rw [hA] at hFb ⊢
   have g1:=Zd.oneCell hFb
   refine ⟨e6,?_⟩
   unfold jM
   simp (disch:=try exact DI) only [↓PR,QR,simprocAttr]
   have sz:=e6.size
   exact ⟨e6.alloc _,e6.alloc _,rest1 _ _ fb ((Ext.refl W).wdrew.trans (e6.alloc _)) (by have:W.drew.heap.size=W.heap.size:=rfl;omega) (Zz _ _ _) hFb⟩
 · refine Zl (VP a0 _ (hC.ext.wdrew.alloc _) _ d r.fr ⟨_,rfl,hdv⟩) ?_
   rintro _ w6 ⟨⟨u,rfl,fb,rfl,hFb⟩,e6⟩
   rw [hA] at hFb ⊢
   have g1:=Zd.oneCell hFb
   have e6':=((Ext.refl W.drew).alloc _).trans e6
   have o6:w6.heap[W.heap.size]?=some (.cells #[.string ByteArray.empty,.slice none 0 0] 74 (0,0)):=e6.obj (Zz W.drew _ _)
   unfold jN
   simp (disch:=try exact DI) only [↓PR,QR,simprocAttr,(Za o6).1,(Za o6).2]
   have hz:W.drew.heap.size≤W.heap.size:=Nat.le_refl _
   have eZ:=(e6'.setCell (p:=⟨W.heap.size,0,none⟩) hz (.string (A.getD Jy).name)).setCell (p:=⟨W.heap.size,1,none⟩) hz fb
   have z:=Zw (o:=1) (Zw (o:=0) o6 (.string (A.getD Jy).name)) fb
   exact ⟨e6',eZ,rest1 _ W.heap.size fb ((Ext.refl W).wdrew.trans eZ) (by omega) (by simpa using z) hFb⟩
end
end Go.Proofs.YtgalpdihjbinjaaGreatDoor
