/-
  phrasebooklaw08.SpanSpans returns true for every definition, and leaves its arguments as they were; no condition is asked.
-/
import Derived.Test.YtfjjgjjlebllmaaGreatQs6
set_option linter.all false
set_option maxHeartbeats 4000000
set_option maxRecDepth 100000
open Go.Proofs.Tryz
namespace Go.Proofs.YtfjjgjjlebllmaaGreat
open Sw
open Go.RowKit (intOf Below)
theorem Nu {d:YQ} (hc:(YA d).2.2=0) (i:Nat) (m:ZC) (hm:d.msgs[i]?=some m):(ZK d.msgs)[i]?=some (m.name,WT d i):=by
 rw [Mj hm]
 have:=Tk (XI hc).2.2.1.dist (Mj hm)
 unfold WT
 rw [Int.toNat_natCast,hm]
 simp only [this]
theorem Gq {α:Type} {n p:Nat} {T:TypeId} {enc:α→List Vl} (hint:∀ x,∀ u∈enc x,∃ m:Int,u = .int .i64 m) {w:Wd} {x u v:Vl} {l:List α} (h:Zd w n (λ _ cs a=>cs=enc a) v l) (o:w.heap[p]?=some (.cells #[x] T (0,0))) (hx:∀ m,x ≠ .int .i64 m):Zd (w.setCell ⟨p,0,none⟩ u) n (λ _ cs a=>cs=enc a) v l:=by
 obtain ⟨A,c,h1,h2,h3,h4⟩:=h
 refine ⟨A,c,h1,h2,h3,λ hl=>?_⟩
 obtain ⟨b,o',hA,h6⟩:=h4 hl
 refine ⟨b,o',hA,λ k a ha=>?_⟩
 obtain ⟨cs,a1,a2,a3⟩:=h6 k a ha
 refine ⟨cs,a1,λ j y hy=>?_,a3⟩
 have hc:=a2 j y hy
 obtain ⟨m,rfl⟩:=hint a y (by rw [← a3];exact List.mem_of_getElem? hy)
 by_cases e:b=p
 · subst e
   rw [(Za o).1] at hc
   have h0:=(Array.getElem?_eq_some_iff.1 hc)
   obtain ⟨h7,h8⟩:=h0
   have h9:o'+k*n+j=0:=by simp at h7;omega
   simp only [h9] at h8
   exact absurd h8 (hx m)
 · exact (World.cell?_of_block (YY.setCell w p 0 u b e)).trans hc
theorem Nw {w0 W:Wd} {p4:Nat} (o4:W.heap[p4]?=some (.cells #[.bool false] 4 (0,0))) (h4:w0.heap.size≤p4) (e0:Ext w0 W) :
 Rv (.pointer (some ⟨p4,0,none⟩)) [] (ZO λ r w'=>r = .bool true∧Ext w0 w') W:=by
 unfold Rv
 refine zcr (qL _) λ w5 e5=>?_
 have q4:=e5.obj o4
 have r4:(w5.setCell ⟨p4,0,none⟩ (.bool true)).heap[p4]?=some (.cells #[.bool true] 4 (0,0)):=by simpa using ZE (o:=0) q4 (.bool true)
 simp (disch:=try exact DI) only [↓PR,QR,simprocAttr,(Za q4).1,(Za q4).2,WW,qp,Qo,(Za r4).1]
 exact ⟨by trivial,(e0.trans e5).setCell (p:=⟨p4,0,none⟩) (by exact h4) _⟩
theorem BM (w0:Wd) (v:Vl) (d:YQ) (many:Int) (hd:YT w0 v d) (hs:La d):Ret Pg 9 #[v,.int .i64 many] w0 λ r w'=>r = .bool true∧Ext w0 w':=by
 obtain ⟨mv,rfl,hM⟩:=hd
 have hm1:=Zd.oneCell hM
 refine n6s (R:=ZO _) ?_;unfold n6
 simp (disch:=try exact DI) only [↓PR,QR,simprocAttr]
 simp only [World.size_alloc]
 generalize hV:World.alloc (World.alloc (World.alloc w0 _) _) _=V
 have eV:Ext w0 V:=by rw [← hV];exact ee
 have o2:V.heap[w0.heap.size]?=some (.cells (Zz d mv).toArray 28 (0,0)):=by rw [← hV];simp (disch:=try exact DI) only [↓PR,QR,simprocAttr]
 have om:V.heap[w0.heap.size+1]?=some (.cells #[.int .i64 many] 3 (0,0)):=by rw [← hV];simp (disch:=try exact DI) only [↓PR,QR,simprocAttr]
 have o4:V.heap[w0.heap.size+1+1]?=some (.cells #[.bool false] 4 (0,0)):=by rw [← hV];simp (disch:=try exact DI) only [↓PR,QR,simprocAttr]
 have sV:V.heap.size=w0.heap.size+1+1+1:=by rw [← hV];simp only [World.size_alloc]
 clear hV
 have hD:∀ w,Ext V w→YT w (.agg (Zz d mv).toArray) d:=λ w e=>⟨_,rfl,hM.ext (eV.trans e)⟩
 obtain ⟨p4,hp4⟩:∃ p,p=w0.heap.size+1+1:=⟨_,rfl⟩
 rw [← hp4] at o4 ⊢
 obtain ⟨pm,hpm⟩:∃ p,p=w0.heap.size+1:=⟨_,rfl⟩
 rw [← hpm] at om ⊢
 refine Zs (HJ _ _ d (hD _ (Ext.refl _)) hs) ?_
 rintro _ w1 ⟨b,rfl,ZhS,e1⟩
 cases b with
 | false=>
  simp (disch:=try exact DI) only [↓PR,QR,simprocAttr]
  exact Nw (e1.obj o4) (by omega) (eV.trans e1)
 | true=>
 have hfitd:=ZhS rfl
 have ht:=MO hfitd
 have htm:=MP hfitd
 have hl70:=hfitd.1
 have s1:=e1.size
 simp (disch:=try exact DI) only [↓PR,QR,simprocAttr,↓Zbu,(Za (e1.obj o2)).1]
 refine Zs (NI _ _ d (hD _ e1) htm) ?_
 rintro _ w2 ⟨⟨mc,rfl,hN⟩,e2⟩
 have f2:=e1.trans e2
 have s2:=e2.size
 have hmc:=Zd.oneCell hN.plain
 unfold Zbt
 simp (disch:=try exact DI) only [↓PR,QR,simprocAttr]
 have eY:Ext w2 (w2.alloc (.cells #[.string d.name,mc,.string d.start] 28)):=ee
 have oY:=ZG w2 #[.string d.name,mc,.string d.start] 28
 have sY:(w2.alloc (.cells #[.string d.name,mc,.string d.start] 28)).heap.size=w2.heap.size+1:=by simp only [World.size_alloc]
 generalize (w2.alloc (.cells #[.string d.name,mc,.string d.start] 28))=Y at eY oY sY ⊢
 refine Zs (Mt _ _ d ⟨mc,rfl,hN.plain.ext eY⟩ ht (by omega)) ?_
 rintro _ U ⟨⟨p3,p5,rfl,hI⟩,eU⟩
 have f2U:=eY.trans eU
 have fU:=f2.trans f2U
 have sU:=eU.size
 unfold Zbs
 simp (disch:=try exact DI) only [↓PR,QR,simprocAttr]
 generalize hp6:w2.heap.size=p6 at oY sY ⊢
 refine Sv (lo:=w1.heap.size) (hi:=w2.heap.size) (d:=d) (((hN.ext f2U).shapeM (B:=140737488355328) λ m hm=>⟨by have:=Du hm;have:=hfitd.2.1;omega,λ f hf=>⟨(hfitd.2.2 m hm f hf).1,(hfitd.2.2 m hm f hf).2,((hs.2 m hm).2 f hf).2.2⟩⟩).rows) hl70 (eU.obj oY) (by omega) ?_
 intro w hsv
 have E:Ext V w:=hsv.to_ext fU s1
 have hSame:WQ Y.heap.size U.heap.size U w:=⟨hsv.size,λ b h1 h2=>hsv.block b h2 (.inr (by omega))⟩
 unfold Rt
 have hc2:∀ O O' o,((w.alloc O).alloc O').cell? ⟨w0.heap.size,o,none⟩=(Zz d mv).toArray[o]?:=λ O O' o=>(Za ((Ext.alloc (Ext.alloc (Ext.refl w) O) O').obj (E.obj o2))).1 o
 simp (disch:=try exact DI) only [↓PR,QR,simprocAttr,hc2]
 simp only [World.size_alloc]
 have eZ:Ext w ((w.alloc (.cells #[.slice none 0 0] 30)).alloc (.cells #[.slice none 0 0] 71)):=ee
 have o9:((w.alloc (.cells #[.slice none 0 0] 30)).alloc (.cells #[.slice none 0 0] 71)).heap[w.heap.size]?=some (.cells #[.slice none 0 0] 30 (0,0)):=by simp (disch:=try exact DI) only [↓PR,QR,simprocAttr]
 have o10:((w.alloc (.cells #[.slice none 0 0] 30)).alloc (.cells #[.slice none 0 0] 71)).heap[w.heap.size+1]?=some (.cells #[.slice none 0 0] 71 (0,0)):=by simp (disch:=try exact DI) only [↓PR,QR,simprocAttr]
 generalize ((w.alloc (.cells #[.slice none 0 0] 30)).alloc (.cells #[.slice none 0 0] 71))=Z at eZ o9 o10 ⊢
 have EZ:=E.trans eZ
 have hLl:(Wu d true).length≤1000:=by
  unfold Wu
  split
  · exact Nat.le_trans (jH _ _) (by omega)
  · simp
 have sE:=E.size
 obtain ⟨p9,hp9⟩:∃ p,p=w.heap.size:=⟨_,rfl⟩
 rw [← hp9] at o9 o10 ⊢
 refine zcr (ID _ _ d (hD _ EZ) ht) λ w5 e5=>?_
 have E5:=EZ.trans e5
 have x9:=e5.obj o9
 have x10:=e5.obj o10
 have hS5:=(hSame.ext (Nat.le_refl _) (eZ.trans e5))
 unfold Zbq
 by_cases hc:(YA d).2.2=0
 case neg=>
  rw [show Xy d=true by unfold Xy;simp [hc]]
  have hch:Wu d true=[]:=if_neg hc
  simp (disch:=try exact DI) only [↓PR,QR,simprocAttr]
  rw [hch] at hI hLl
  exact BA hI hLl hS5 (E5.obj om) (E5.obj o4) (by omega) x9 (Zd.nil _ _ _) x10 (λ h=>absurd rfl h) (λ h=>absurd rfl h) (eV.trans E5)
 rw [show Xy d=false by unfold Xy;simp [hc]]
 have hch:Wu d true=D7 d.msgs (W5 d):=by
  rw [show Wu d true=_ from if_pos hc]
  unfold D7
  exact CQ λ i _=>by cases zH d.msgs (W5 d) i<;>rfl
 simp (disch:=try exact DI) only [↓PR,QR,simprocAttr]
 refine Zy ?_
 have eD:Ext w5 w5.drew:=(Ext.refl w5).wdrew
 have ED:=E5.trans eD
 unfold Zbp
 simp (disch:=try exact DI) only [↓PR,QR,simprocAttr,(Za (E5.obj o2)).1]
 refine Zs (IC _ _ d (hD _ ED) ht hc) ?_
 rintro lv w6 ⟨hL,e6⟩
 refine ⟨e6,?_⟩
 refine Zs (B1 _ _ d (hD _ (ED.trans e6)) (XI hc).2.2.1 (λ m hm=>(ht m hm).2) (by omega)) ?_
 rintro sv w7 ⟨hSp,e7⟩
 refine ⟨e6.trans e7,?_⟩
 have E7:=ED.trans (e6.trans e7)
 have g7:=eD.trans (e6.trans e7)
 have y9:=g7.obj x9
 have y10:=g7.obj x10
 have hlv:=Zd.oneCell hL.ints
 have hsv1:=Zd.oneCell hSp
 have hL7:Zd w7 1 (λ _ cs (a:Int)=>cs=[Value.int .i64 a]) lv (D7 d.msgs (W5 d)):=hL.ints.ext Ti e7
 have hS7:Zd w7 2 (λ _ cs (a:BAr×Int×Int)=>cs=VC a) sv (ZK d.msgs):=hSp
 have i1:∀ (x:Int),∀ u∈[Value.int .i64 x],∃ m:Int,u = .int .i64 m:=λ x u hu=>⟨x,by simpa using hu⟩
 have i2:∀ (x:BAr×Int×Int),∀ u∈VC x,∃ m:Int,u = .int .i64 m:=λ x u hu=>by
  simp only [VC,List.mem_cons,List.not_mem_nil,or_false] at hu
  rcases hu with rfl | rfl
  · exact ⟨_,rfl⟩
  · exact ⟨_,rfl⟩
 have hL8:=Gq (u:=lv) i1 hL7 y9 (λ m h=>by cases h)
 have hS8:=Gq (u:=lv) i2 hS7 y9 (λ m h=>by cases h)
 have o9':=YY.setCell w7 p9 0 lv
 have E8:Ext V (w7.setCell ⟨p9,0,none⟩ lv):=E7.setCell (p:=⟨p9,0,none⟩) (by show V.heap.size≤p9;omega) _
 have z9:(w7.setCell ⟨p9,0,none⟩ lv).heap[p9]?=some (.cells #[lv] 30 (0,0)):=by simpa using ZE (o:=0) y9 lv
 have z10:=(o9' (p9+1) (by omega)).trans y10
 have hU8:WQ Y.heap.size U.heap.size U (w7.setCell ⟨p9,0,none⟩ lv):=⟨by rw [World.size_setCell];exact Nat.le_trans hS5.1 g7.size,λ b h1 h2=>(o9' b (by have:=hsv.size;omega)).trans ((hS5.ext (Nat.le_refl _) g7).2 b h1 h2)⟩
 unfold Zbo
 simp (disch:=try exact DI) only [↓PR,QR,simprocAttr,(Za y9).1,(Za y9).2]
 refine Yb ?_
 generalize (w7.setCell ⟨p9,0,none⟩ lv)=w8 at hL8 hS8 E8 z9 z10 hU8 ⊢
 have hL9:=Gq (u:=sv) i1 hL8 z10 (λ m h=>by cases h)
 have hS9:=Gq (u:=sv) i2 hS8 z10 (λ m h=>by cases h)
 have o10':=YY.setCell w8 (p9+1) 0 sv
 have E9:Ext V (w8.setCell ⟨p9+1,0,none⟩ sv):=E8.setCell (p:=⟨p9+1,0,none⟩) (by show V.heap.size≤p9+1;omega) _
 have q9:=(o10' p9 (by omega)).trans z9
 have q10:(w8.setCell ⟨p9+1,0,none⟩ sv).heap[p9+1]?=some (.cells #[sv] 71 (0,0)):=by simpa using ZE (o:=0) z10 sv
 have hU9:WQ Y.heap.size U.heap.size U (w8.setCell ⟨p9+1,0,none⟩ sv):=⟨by rw [World.size_setCell];exact hU8.1,λ b h1 h2=>(o10' b (by have:=hsv.size;omega)).trans (hU8.2 b h1 h2)⟩
 simp (disch:=try exact DI) only [↓PR,QR,simprocAttr,(Za z10).1,(Za z10).2]
 refine Yb ?_
 generalize (w8.setCell ⟨p9+1,0,none⟩ sv)=w9 at hL9 hS9 E9 q9 q10 hU9 ⊢
 rw [hch] at hI hLl
 exact BA hI hLl hU9 (E9.obj om) (E9.obj o4) (by omega) q9 hL9 q10 (λ _=>hS9) (λ _=>Nu hc) (eV.trans E9)
end Go.Proofs.YtfjjgjjlebllmaaGreat
namespace Go.Proofs.YtfjjgjjlebllmaaGreat
open Sw
open Go.ChangeShapes Go.WideShapes Go.RowKit Go.ChangeAt Go.Deep
theorem sspans_own:ownKnob Pg.godebug=none:=by kernel_rfl
theorem sspans_laidOut:laidOutB Pg=true:=by kernel_rfl
theorem sspans_lifted (os:Os) (started:os.Started) (H:Type) (enc:TypeId×Vl→H) :
 ReturnsInHanded {} Tryz.checked os 9 .any (Rows.spanSpansSpec.pre6 enc Pg Tryz.f9 Rows.spanSpansRow.domain false) (Rows.spanSpansSpec.post enc Pg Tryz.f9 false true false false):=by
 refine returnsInHanded_of_change_sized (C:=Tryz.checked) sspans_own started (by kernel_rfl) func9
  (ChangeSpec.witness6 (enc:=enc) (C:=Tryz.checked) false ⟨#[],#[.agg #[.string ByteArray.empty,.slice none 0 0,.string ByteArray.empty],.int .i64 0],[]⟩ 8 (by kernel_rfl) (by kernel_rfl) (by kernel_rfl) (by kernel_rfl)) ?_
 intro W base args ds gs before hval hW _ VF _
 have hW':=hW
 obtain ⟨p,q,hA0,hV,rfl,_,_⟩:=hW
 have hA:DataW.TrodAll enc Pg W 0 (λ _=>true) true Tryz.f9.params.toList args.toList ds p:=hA0
 rw [Tryz.params9] at hA hval VF
 obtain ⟨v0,vs0,d0,ds0,p0,q0,ha0,rfl,rfl,h0,r0⟩:=trodAll_cons hA
 obtain ⟨v1,vs1,d1,ds1,p1,q1,ha1,rfl,rfl,h1,r1⟩:=trodAll_cons r0
 obtain ⟨rfl,rfl,rfl⟩:=trodAll_nil r1
 subst ha1
 obtain rfl:args = #[v0,v1]:=by cases args;simp_all
 obtain ⟨f0,hf0,hs0⟩:=S5 (hval 0 _ v0 rfl rfl) h0 (IK (j:=0) VF rfl rfl)
 obtain ⟨n1,rfl,_,_,hw1⟩:=open_int underlying3 (hval 1 _ v1 rfl rfl) h1
 refine Calls.mono (BM W v0 f0 n1 hf0 hs0) λ e W' ⟨v,he,hv,hx⟩=>?_
 subst he hv
 exact ⟨_,rfl,Ot sspans_laidOut (by decide +kernel) rfl hW' hx rfl underlying4 rfl rfl rfl⟩
theorem sspans_holds:Rows.SpanSpansSaid:=
 OpenClaim.holds_of_wide 9 Tryz.f9 rfl rfl rfl rfl rfl rfl rfl ⟨rfl,rfl,rfl,rfl,rfl⟩ rfl rfl rfl rfl rfl (by kernel_rfl) func9 (by kernel_rfl)
  (of_decide_eq_true (by kernel_rfl)) (by unfold Func.isWrapper;first | (rw [if_pos (by decide +kernel)];kernel_rfl) | (rw [if_neg (by decide +kernel)];exact ⟨rfl,rfl⟩))
  (λ os started H enc _=>sspans_lifted os started H enc)
end Go.Proofs.YtfjjgjjlebllmaaGreat
