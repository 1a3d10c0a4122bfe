/-
  phrasebooklaw08.SpanGrows returns true for every definition, all numbers of a message and a field and every number of bits, and leaves its arguments as they were; no condition is asked.
-/
import Derived.Test.YtdfhjlggcdemhaaGreatSg6
set_option linter.all false
set_option maxHeartbeats 4000000
set_option maxRecDepth 100000
namespace Go.Proofs.YtdfhjlggcdemhaaGreat
open Sw
open Go.RowKit (intOf Below)
structure RSt (W w:World) (a:DefD) (cs:List (Value×Nat×Nat)) (ps:List Nat):Prop where
 ext:Ext W w
 cps:∀ x∈cs,x.2.1≤x.2.2∧W.heap.size≤x.2.1∧x.2.2≤w.heap.size∧MsgsA w x.2.1 x.2.2 x.1 a.msgs
 cls:∀ p∈ps,W.heap.size≤p∧p < w.heap.size∧w.heap[p]?=some (.cells zeroD 24 (0,0))
 cc:cs.Pairwise fun x y=>x.2.2≤y.2.1
 cp:∀ x∈cs,∀ p∈ps,p < x.2.1∨x.2.2≤p
theorem reg_cpyA {QP:List PanicEntry→World→Prop} {W w:World} {a:DefD} {mva:Value} {k:Value→World→Prop} (hA:MsgsOf W mva a.msgs) (ht:tame a) (e:Ext W w) (h:∀ mv lo hi w',w.heap.size≤lo→hi≤w'.heap.size→lo≤hi→Ext w w'→MsgsA w' lo hi mv a.msgs→k (.agg (defCells a mv).toArray) w'):callK Pg 44 #[.agg (defCells a mva).toArray] QP w (fun v w=>EC W w∧k v w):=by
 refine callK_ret (Copy_retA w _ a ⟨_,rfl,hA.ext e⟩ ht) ?_
 rintro _ w' ⟨⟨mv,rfl,hN⟩,e'⟩
 exact ⟨e.trans e',h mv _ _ w' (Nat.le_refl _) (Nat.le_refl _) e'.size e' hN⟩
theorem RSt.copy {W w w':World} {a:DefD} {cs:List (Value×Nat×Nat)} {ps:List Nat} {mv:Value} {lo hi:Nat} (r:RSt W w a cs ps) (g1:w.heap.size≤lo) (g2:hi≤w'.heap.size) (g3:lo≤hi) (e:Ext w w') (hN:MsgsA w' lo hi mv a.msgs):RSt W w' a (cs++[(mv,lo,hi)]) ps:=by
 have s:=e.size
 have s0:=r.ext.size
 refine ⟨r.ext.trans e,fun x hx=>?_,fun p hp=>?_,?_,fun x hx p hp=>?_⟩
 · rcases List.mem_append.1 hx with hx | hx
   · obtain ⟨h1,h2,h3,h4⟩:=r.cps x hx;exact ⟨h1,h2,by omega,h4.ext e⟩
   · simp only [List.mem_singleton] at hx;subst hx;exact ⟨g3,by dsimp only;omega,g2,hN⟩
 · obtain ⟨h1,h2,h3⟩:=r.cls p hp;exact ⟨h1,by omega,e.obj h3⟩
 · refine List.pairwise_append.2 ⟨r.cc,List.pairwise_singleton _ _,fun x hx y hy=>?_⟩
   simp only [List.mem_singleton] at hy
   subst hy
   have:=(r.cps x hx).2.2.1
   dsimp only
   omega
 · rcases List.mem_append.1 hx with hx | hx
   · exact r.cp x hx p hp
   · simp only [List.mem_singleton] at hx
     subst hx
     have:=(r.cls p hp).2.1
     dsimp only
     omega
theorem RSt.alc {W w w':World} {a:DefD} {cs:List (Value×Nat×Nat)} {ps:List Nat} {p:Nat} (r:RSt W w a cs ps) (g1:w.heap.size≤p) (g2:p < w'.heap.size) (e:Ext w w') (ho:w'.heap[p]?=some (.cells zeroD 24 (0,0))):RSt W w' a cs (ps++[p]):=by
 have s:=e.size
 have s0:=r.ext.size
 refine ⟨r.ext.trans e,fun x hx=>?_,fun q hq=>?_,r.cc,fun x hx q hq=>?_⟩
 · obtain ⟨h1,h2,h3,h4⟩:=r.cps x hx;exact ⟨h1,h2,by omega,h4.ext e⟩
 · rcases List.mem_append.1 hq with hq | hq
   · obtain ⟨h1,h2,h3⟩:=r.cls q hq;exact ⟨h1,by omega,e.obj h3⟩
   · simp only [List.mem_singleton] at hq;subst hq;exact ⟨by omega,g2,ho⟩
 · rcases List.mem_append.1 hq with hq | hq
   · exact r.cp x hx q hq
   · simp only [List.mem_singleton] at hq
     subst hq
     have:=(r.cps x hx).2.2.1
     omega
theorem RSt.mem {W w:World} {a:DefD} {cs:List (Value×Nat×Nat)} {ps:List Nat} {p:Nat} (_:RSt W w a cs (ps++[p])):p∈ps++[p]:=List.mem_append_right _ (List.mem_singleton.2 rfl)
def RgEnd (W:World) (a:DefD) (K5:Value→Value→Value→World→Prop) (R:RT):Prop:=∀ (w:World) {m1 m2 m3:Value} {l1 h1 l2 h2 l3 h3 p12 p13 p14:Nat} {ps:List Nat},RSt W w a [(m1,l1,h1),(m2,l2,h2),(m3,l3,h3)] ps→p12∈ps→p13∈ps→p14∈ps→p12≠p13→p12≠p14→p13≠p14 →
 n5c30 (.pointer (some ⟨p12,0,none⟩)) (.pointer (some ⟨p13,0,none⟩)) (.pointer (some ⟨p14,0,none⟩)) (.agg (defCells a m1).toArray) (.agg (defCells a m2).toArray) (.agg (defCells a m3).toArray) K5 R w
section
variable {W:World} {a:DefD} {mva:Value} {K5:Value→Value→Value→World→Prop} {R:RT}
theorem rg_c31 (hA:MsgsOf W mva a.msgs) (ht:tame a) (hK:RgEnd W a K5 R) {w:World} {m1 m2 m3:Value} {l1 h1 l2 h2 l3 h3:Nat} {p12:Nat} {ps:List Nat} (r:RSt W w a [(m1,l1,h1),(m2,l2,h2),(m3,l3,h3)] ps) (q12:p12∈ps):n5c31 (.pointer (some ⟨p12,0,none⟩)) (.agg (defCells a m1).toArray) (.agg (defCells a m2).toArray) (.agg (defCells a m3).toArray) (EC W) K5 R w:=by
 unfold n5c31
 refine ⟨?_,?_⟩
 · refine reg_alc r.ext fun p13 w1 g1 g2 e ho=>?_
   have d1213:p12≠p13:=fun hh=>by have:=(r.cls _ q12).2.1;omega
   have r1:=RSt.alc r g1 g2 e ho
   replace q12:=List.mem_append_left [p13] q12
   have q13:=RSt.mem r1
   clear g1 g2 e ho
   refine reg_alc r1.ext fun p14 w1x g1 g2 e ho=>?_
   have d1214:p12≠p14:=fun hh=>by have:=(r1.cls _ q12).2.1;omega
   have d1314:p13≠p14:=fun hh=>by have:=(r1.cls _ q13).2.1;omega
   have r1x:=RSt.alc r1 g1 g2 e ho
   replace q12:=List.mem_append_left [p14] q12
   replace q13:=List.mem_append_left [p14] q13
   have q14:=RSt.mem r1x
   clear g1 g2 e ho
   exact hK _ r1x q12 q13 q14 d1213 d1214 d1314
 · refine reg_alc r.ext fun p14 w1 g1 g2 e ho=>?_
   have d1214:p12≠p14:=fun hh=>by have:=(r.cls _ q12).2.1;omega
   have r1:=RSt.alc r g1 g2 e ho
   replace q12:=List.mem_append_left [p14] q12
   have q14:=RSt.mem r1
   clear g1 g2 e ho
   refine reg_alc r1.ext fun p13 w1x g1 g2 e ho=>?_
   have d1213:p12≠p13:=fun hh=>by have:=(r1.cls _ q12).2.1;omega
   have d1314:p13≠p14:=fun hh=>by have:=(r1.cls _ q14).2.1;omega
   have r1x:=RSt.alc r1 g1 g2 e ho
   replace q12:=List.mem_append_left [p13] q12
   replace q14:=List.mem_append_left [p13] q14
   have q13:=RSt.mem r1x
   clear g1 g2 e ho
   exact hK _ r1x q12 q13 q14 d1213 d1214 d1314
theorem rg_c32 (hA:MsgsOf W mva a.msgs) (ht:tame a) (hK:RgEnd W a K5 R) {w:World} {m1 m2 m3:Value} {l1 h1 l2 h2 l3 h3:Nat} {p13:Nat} {ps:List Nat} (r:RSt W w a [(m1,l1,h1),(m2,l2,h2),(m3,l3,h3)] ps) (q13:p13∈ps):n5c32 (.pointer (some ⟨p13,0,none⟩)) (.agg (defCells a m1).toArray) (.agg (defCells a m2).toArray) (.agg (defCells a m3).toArray) (EC W) K5 R w:=by
 unfold n5c32
 refine ⟨?_,?_⟩
 · refine reg_alc r.ext fun p12 w1 g1 g2 e ho=>?_
   have d1213:p12≠p13:=fun hh=>by have:=(r.cls _ q13).2.1;omega
   have r1:=RSt.alc r g1 g2 e ho
   replace q13:=List.mem_append_left [p12] q13
   have q12:=RSt.mem r1
   clear g1 g2 e ho
   refine reg_alc r1.ext fun p14 w1x g1 g2 e ho=>?_
   have d1314:p13≠p14:=fun hh=>by have:=(r1.cls _ q13).2.1;omega
   have d1214:p12≠p14:=fun hh=>by have:=(r1.cls _ q12).2.1;omega
   have r1x:=RSt.alc r1 g1 g2 e ho
   replace q13:=List.mem_append_left [p14] q13
   replace q12:=List.mem_append_left [p14] q12
   have q14:=RSt.mem r1x
   clear g1 g2 e ho
   exact hK _ r1x q12 q13 q14 d1213 d1214 d1314
 · refine reg_alc r.ext fun p14 w1 g1 g2 e ho=>?_
   have d1314:p13≠p14:=fun hh=>by have:=(r.cls _ q13).2.1;omega
   have r1:=RSt.alc r g1 g2 e ho
   replace q13:=List.mem_append_left [p14] q13
   have q14:=RSt.mem r1
   clear g1 g2 e ho
   refine reg_alc r1.ext fun p12 w1x g1 g2 e ho=>?_
   have d1213:p12≠p13:=fun hh=>by have:=(r1.cls _ q13).2.1;omega
   have d1214:p12≠p14:=fun hh=>by have:=(r1.cls _ q14).2.1;omega
   have r1x:=RSt.alc r1 g1 g2 e ho
   replace q13:=List.mem_append_left [p12] q13
   replace q14:=List.mem_append_left [p12] q14
   have q12:=RSt.mem r1x
   clear g1 g2 e ho
   exact hK _ r1x q12 q13 q14 d1213 d1214 d1314
theorem rg_c33 (hA:MsgsOf W mva a.msgs) (ht:tame a) (hK:RgEnd W a K5 R) {w:World} {m1 m2 m3:Value} {l1 h1 l2 h2 l3 h3:Nat} {p14:Nat} {ps:List Nat} (r:RSt W w a [(m1,l1,h1),(m2,l2,h2),(m3,l3,h3)] ps) (q14:p14∈ps):n5c33 (.pointer (some ⟨p14,0,none⟩)) (.agg (defCells a m1).toArray) (.agg (defCells a m2).toArray) (.agg (defCells a m3).toArray) (EC W) K5 R w:=by
 unfold n5c33
 refine ⟨?_,?_⟩
 · refine reg_alc r.ext fun p12 w1 g1 g2 e ho=>?_
   have d1214:p12≠p14:=fun hh=>by have:=(r.cls _ q14).2.1;omega
   have r1:=RSt.alc r g1 g2 e ho
   replace q14:=List.mem_append_left [p12] q14
   have q12:=RSt.mem r1
   clear g1 g2 e ho
   refine reg_alc r1.ext fun p13 w1x g1 g2 e ho=>?_
   have d1314:p13≠p14:=fun hh=>by have:=(r1.cls _ q14).2.1;omega
   have d1213:p12≠p13:=fun hh=>by have:=(r1.cls _ q12).2.1;omega
   have r1x:=RSt.alc r1 g1 g2 e ho
   replace q14:=List.mem_append_left [p13] q14
   replace q12:=List.mem_append_left [p13] q12
   have q13:=RSt.mem r1x
   clear g1 g2 e ho
   exact hK _ r1x q12 q13 q14 d1213 d1214 d1314
 · refine reg_alc r.ext fun p13 w1 g1 g2 e ho=>?_
   have d1314:p13≠p14:=fun hh=>by have:=(r.cls _ q14).2.1;omega
   have r1:=RSt.alc r g1 g2 e ho
   replace q14:=List.mem_append_left [p13] q14
   have q13:=RSt.mem r1
   clear g1 g2 e ho
   refine reg_alc r1.ext fun p12 w1x g1 g2 e ho=>?_
   have d1214:p12≠p14:=fun hh=>by have:=(r1.cls _ q14).2.1;omega
   have d1213:p12≠p13:=fun hh=>by have:=(r1.cls _ q13).2.1;omega
   have r1x:=RSt.alc r1 g1 g2 e ho
   replace q14:=List.mem_append_left [p12] q14
   replace q13:=List.mem_append_left [p12] q13
   have q12:=RSt.mem r1x
   clear g1 g2 e ho
   exact hK _ r1x q12 q13 q14 d1213 d1214 d1314
theorem rg_c34 (hA:MsgsOf W mva a.msgs) (ht:tame a) (hK:RgEnd W a K5 R) {w:World} {m1 m2 m3:Value} {l1 h1 l2 h2 l3 h3:Nat} {ps:List Nat} (r:RSt W w a [(m1,l1,h1),(m2,l2,h2),(m3,l3,h3)] ps):n5c34 (.agg (defCells a m1).toArray) (.agg (defCells a m2).toArray) (.agg (defCells a m3).toArray) (EC W) K5 R w:=by
 unfold n5c34
 refine ⟨?_,?_,?_⟩
 · refine reg_alc r.ext fun p12 w1 g1 g2 e ho=>?_
   have r1:=RSt.alc r g1 g2 e ho
   have q12:=RSt.mem r1
   clear g1 g2 e ho
   exact rg_c31 hA ht hK r1 q12
 · refine reg_alc r.ext fun p13 w1 g1 g2 e ho=>?_
   have r1:=RSt.alc r g1 g2 e ho
   have q13:=RSt.mem r1
   clear g1 g2 e ho
   exact rg_c32 hA ht hK r1 q13
 · refine reg_alc r.ext fun p14 w1 g1 g2 e ho=>?_
   have r1:=RSt.alc r g1 g2 e ho
   have q14:=RSt.mem r1
   clear g1 g2 e ho
   exact rg_c33 hA ht hK r1 q14
theorem rg_c35 (hA:MsgsOf W mva a.msgs) (ht:tame a) (hK:RgEnd W a K5 R) {w:World} {m1 m2:Value} {l1 h1 l2 h2:Nat} {p12 p13:Nat} {ps:List Nat} (r:RSt W w a [(m1,l1,h1),(m2,l2,h2)] ps) (q12:p12∈ps) (q13:p13∈ps) (d1213:p12≠p13):n5c35 (.pointer (some ⟨p12,0,none⟩)) (.pointer (some ⟨p13,0,none⟩)) (.agg (defCells a m1).toArray) (.agg (defCells a m2).toArray) (.agg (defCells a mva).toArray) (EC W) K5 R w:=by
 unfold n5c35
 refine ⟨?_,?_⟩
 · refine reg_cpyA hA ht r.ext fun m3 l3 h3 w1 g1 g2 g3 e hN=>?_
   have r1:=RSt.copy r g1 g2 g3 e hN
   clear g1 g2 g3 e hN
   refine reg_alc r1.ext fun p14 w1x g1 g2 e ho=>?_
   have d1214:p12≠p14:=fun hh=>by have:=(r1.cls _ q12).2.1;omega
   have d1314:p13≠p14:=fun hh=>by have:=(r1.cls _ q13).2.1;omega
   have r1x:=RSt.alc r1 g1 g2 e ho
   replace q12:=List.mem_append_left [p14] q12
   replace q13:=List.mem_append_left [p14] q13
   have q14:=RSt.mem r1x
   clear g1 g2 e ho
   exact hK _ r1x q12 q13 q14 d1213 d1214 d1314
 · refine reg_alc r.ext fun p14 w1 g1 g2 e ho=>?_
   have d1214:p12≠p14:=fun hh=>by have:=(r.cls _ q12).2.1;omega
   have d1314:p13≠p14:=fun hh=>by have:=(r.cls _ q13).2.1;omega
   have r1:=RSt.alc r g1 g2 e ho
   replace q12:=List.mem_append_left [p14] q12
   replace q13:=List.mem_append_left [p14] q13
   have q14:=RSt.mem r1
   clear g1 g2 e ho
   refine reg_cpyA hA ht r1.ext fun m3 l3 h3 w1x g1 g2 g3 e hN=>?_
   have r1x:=RSt.copy r1 g1 g2 g3 e hN
   clear g1 g2 g3 e hN
   exact hK _ r1x q12 q13 q14 d1213 d1214 d1314
theorem rg_c36 (hA:MsgsOf W mva a.msgs) (ht:tame a) (hK:RgEnd W a K5 R) {w:World} {m1 m2:Value} {l1 h1 l2 h2:Nat} {p12 p14:Nat} {ps:List Nat} (r:RSt W w a [(m1,l1,h1),(m2,l2,h2)] ps) (q12:p12∈ps) (q14:p14∈ps) (d1214:p12≠p14):n5c36 (.pointer (some ⟨p12,0,none⟩)) (.pointer (some ⟨p14,0,none⟩)) (.agg (defCells a m1).toArray) (.agg (defCells a m2).toArray) (.agg (defCells a mva).toArray) (EC W) K5 R w:=by
 unfold n5c36
 refine ⟨?_,?_⟩
 · refine reg_cpyA hA ht r.ext fun m3 l3 h3 w1 g1 g2 g3 e hN=>?_
   have r1:=RSt.copy r g1 g2 g3 e hN
   clear g1 g2 g3 e hN
   refine reg_alc r1.ext fun p13 w1x g1 g2 e ho=>?_
   have d1213:p12≠p13:=fun hh=>by have:=(r1.cls _ q12).2.1;omega
   have d1314:p13≠p14:=fun hh=>by have:=(r1.cls _ q14).2.1;omega
   have r1x:=RSt.alc r1 g1 g2 e ho
   replace q12:=List.mem_append_left [p13] q12
   replace q14:=List.mem_append_left [p13] q14
   have q13:=RSt.mem r1x
   clear g1 g2 e ho
   exact hK _ r1x q12 q13 q14 d1213 d1214 d1314
 · refine reg_alc r.ext fun p13 w1 g1 g2 e ho=>?_
   have d1213:p12≠p13:=fun hh=>by have:=(r.cls _ q12).2.1;omega
   have d1314:p13≠p14:=fun hh=>by have:=(r.cls _ q14).2.1;omega
   have r1:=RSt.alc r g1 g2 e ho
   replace q12:=List.mem_append_left [p13] q12
   replace q14:=List.mem_append_left [p13] q14
   have q13:=RSt.mem r1
   clear g1 g2 e ho
   refine reg_cpyA hA ht r1.ext fun m3 l3 h3 w1x g1 g2 g3 e hN=>?_
   have r1x:=RSt.copy r1 g1 g2 g3 e hN
   clear g1 g2 g3 e hN
   exact hK _ r1x q12 q13 q14 d1213 d1214 d1314
theorem rg_c37 (hA:MsgsOf W mva a.msgs) (ht:tame a) (hK:RgEnd W a K5 R) {w:World} {m1 m2:Value} {l1 h1 l2 h2:Nat} {p12:Nat} {ps:List Nat} (r:RSt W w a [(m1,l1,h1),(m2,l2,h2)] ps) (q12:p12∈ps):n5c37 (.pointer (some ⟨p12,0,none⟩)) (.agg (defCells a m1).toArray) (.agg (defCells a m2).toArray) (.agg (defCells a mva).toArray) (EC W) K5 R w:=by
 unfold n5c37
 refine ⟨?_,?_,?_⟩
 · refine reg_cpyA hA ht r.ext fun m3 l3 h3 w1 g1 g2 g3 e hN=>?_
   have r1:=RSt.copy r g1 g2 g3 e hN
   clear g1 g2 g3 e hN
   exact rg_c31 hA ht hK r1 q12
 · refine reg_alc r.ext fun p13 w1 g1 g2 e ho=>?_
   have d1213:p12≠p13:=fun hh=>by have:=(r.cls _ q12).2.1;omega
   have r1:=RSt.alc r g1 g2 e ho
   replace q12:=List.mem_append_left [p13] q12
   have q13:=RSt.mem r1
   clear g1 g2 e ho
   exact rg_c35 hA ht hK r1 q12 q13 d1213
 · refine reg_alc r.ext fun p14 w1 g1 g2 e ho=>?_
   have d1214:p12≠p14:=fun hh=>by have:=(r.cls _ q12).2.1;omega
   have r1:=RSt.alc r g1 g2 e ho
   replace q12:=List.mem_append_left [p14] q12
   have q14:=RSt.mem r1
   clear g1 g2 e ho
   exact rg_c36 hA ht hK r1 q12 q14 d1214
theorem rg_c38 (hA:MsgsOf W mva a.msgs) (ht:tame a) (hK:RgEnd W a K5 R) {w:World} {m1 m2:Value} {l1 h1 l2 h2:Nat} {p13 p14:Nat} {ps:List Nat} (r:RSt W w a [(m1,l1,h1),(m2,l2,h2)] ps) (q13:p13∈ps) (q14:p14∈ps) (d1314:p13≠p14):n5c38 (.pointer (some ⟨p13,0,none⟩)) (.pointer (some ⟨p14,0,none⟩)) (.agg (defCells a m1).toArray) (.agg (defCells a m2).toArray) (.agg (defCells a mva).toArray) (EC W) K5 R w:=by
 unfold n5c38
 refine ⟨?_,?_⟩
 · refine reg_cpyA hA ht r.ext fun m3 l3 h3 w1 g1 g2 g3 e hN=>?_
   have r1:=RSt.copy r g1 g2 g3 e hN
   clear g1 g2 g3 e hN
   refine reg_alc r1.ext fun p12 w1x g1 g2 e ho=>?_
   have d1213:p12≠p13:=fun hh=>by have:=(r1.cls _ q13).2.1;omega
   have d1214:p12≠p14:=fun hh=>by have:=(r1.cls _ q14).2.1;omega
   have r1x:=RSt.alc r1 g1 g2 e ho
   replace q13:=List.mem_append_left [p12] q13
   replace q14:=List.mem_append_left [p12] q14
   have q12:=RSt.mem r1x
   clear g1 g2 e ho
   exact hK _ r1x q12 q13 q14 d1213 d1214 d1314
 · refine reg_alc r.ext fun p12 w1 g1 g2 e ho=>?_
   have d1213:p12≠p13:=fun hh=>by have:=(r.cls _ q13).2.1;omega
   have d1214:p12≠p14:=fun hh=>by have:=(r.cls _ q14).2.1;omega
   have r1:=RSt.alc r g1 g2 e ho
   replace q13:=List.mem_append_left [p12] q13
   replace q14:=List.mem_append_left [p12] q14
   have q12:=RSt.mem r1
   clear g1 g2 e ho
   refine reg_cpyA hA ht r1.ext fun m3 l3 h3 w1x g1 g2 g3 e hN=>?_
   have r1x:=RSt.copy r1 g1 g2 g3 e hN
   clear g1 g2 g3 e hN
   exact hK _ r1x q12 q13 q14 d1213 d1214 d1314
theorem rg_c39 (hA:MsgsOf W mva a.msgs) (ht:tame a) (hK:RgEnd W a K5 R) {w:World} {m1 m2:Value} {l1 h1 l2 h2:Nat} {p13:Nat} {ps:List Nat} (r:RSt W w a [(m1,l1,h1),(m2,l2,h2)] ps) (q13:p13∈ps):n5c39 (.pointer (some ⟨p13,0,none⟩)) (.agg (defCells a m1).toArray) (.agg (defCells a m2).toArray) (.agg (defCells a mva).toArray) (EC W) K5 R w:=by
 unfold n5c39
 refine ⟨?_,?_,?_⟩
 · refine reg_cpyA hA ht r.ext fun m3 l3 h3 w1 g1 g2 g3 e hN=>?_
   have r1:=RSt.copy r g1 g2 g3 e hN
   clear g1 g2 g3 e hN
   exact rg_c32 hA ht hK r1 q13
 · refine reg_alc r.ext fun p12 w1 g1 g2 e ho=>?_
   have d1213:p12≠p13:=fun hh=>by have:=(r.cls _ q13).2.1;omega
   have r1:=RSt.alc r g1 g2 e ho
   replace q13:=List.mem_append_left [p12] q13
   have q12:=RSt.mem r1
   clear g1 g2 e ho
   exact rg_c35 hA ht hK r1 q12 q13 d1213
 · refine reg_alc r.ext fun p14 w1 g1 g2 e ho=>?_
   have d1314:p13≠p14:=fun hh=>by have:=(r.cls _ q13).2.1;omega
   have r1:=RSt.alc r g1 g2 e ho
   replace q13:=List.mem_append_left [p14] q13
   have q14:=RSt.mem r1
   clear g1 g2 e ho
   exact rg_c38 hA ht hK r1 q13 q14 d1314
theorem rg_c40 (hA:MsgsOf W mva a.msgs) (ht:tame a) (hK:RgEnd W a K5 R) {w:World} {m1 m2:Value} {l1 h1 l2 h2:Nat} {p14:Nat} {ps:List Nat} (r:RSt W w a [(m1,l1,h1),(m2,l2,h2)] ps) (q14:p14∈ps):n5c40 (.pointer (some ⟨p14,0,none⟩)) (.agg (defCells a m1).toArray) (.agg (defCells a m2).toArray) (.agg (defCells a mva).toArray) (EC W) K5 R w:=by
 unfold n5c40
 refine ⟨?_,?_,?_⟩
 · refine reg_cpyA hA ht r.ext fun m3 l3 h3 w1 g1 g2 g3 e hN=>?_
   have r1:=RSt.copy r g1 g2 g3 e hN
   clear g1 g2 g3 e hN
   exact rg_c33 hA ht hK r1 q14
 · refine reg_alc r.ext fun p12 w1 g1 g2 e ho=>?_
   have d1214:p12≠p14:=fun hh=>by have:=(r.cls _ q14).2.1;omega
   have r1:=RSt.alc r g1 g2 e ho
   replace q14:=List.mem_append_left [p12] q14
   have q12:=RSt.mem r1
   clear g1 g2 e ho
   exact rg_c36 hA ht hK r1 q12 q14 d1214
 · refine reg_alc r.ext fun p13 w1 g1 g2 e ho=>?_
   have d1314:p13≠p14:=fun hh=>by have:=(r.cls _ q14).2.1;omega
   have r1:=RSt.alc r g1 g2 e ho
   replace q14:=List.mem_append_left [p13] q14
   have q13:=RSt.mem r1
   clear g1 g2 e ho
   exact rg_c38 hA ht hK r1 q13 q14 d1314
theorem rg_c41 (hA:MsgsOf W mva a.msgs) (ht:tame a) (hK:RgEnd W a K5 R) {w:World} {m1 m2:Value} {l1 h1 l2 h2:Nat} {ps:List Nat} (r:RSt W w a [(m1,l1,h1),(m2,l2,h2)] ps):n5c41 (.agg (defCells a m1).toArray) (.agg (defCells a m2).toArray) (.agg (defCells a mva).toArray) (EC W) K5 R w:=by
 unfold n5c41
 refine ⟨?_,?_,?_,?_⟩
 · refine reg_cpyA hA ht r.ext fun m3 l3 h3 w1 g1 g2 g3 e hN=>?_
   have r1:=RSt.copy r g1 g2 g3 e hN
   clear g1 g2 g3 e hN
   exact rg_c34 hA ht hK r1
 · refine reg_alc r.ext fun p12 w1 g1 g2 e ho=>?_
   have r1:=RSt.alc r g1 g2 e ho
   have q12:=RSt.mem r1
   clear g1 g2 e ho
   exact rg_c37 hA ht hK r1 q12
 · refine reg_alc r.ext fun p13 w1 g1 g2 e ho=>?_
   have r1:=RSt.alc r g1 g2 e ho
   have q13:=RSt.mem r1
   clear g1 g2 e ho
   exact rg_c39 hA ht hK r1 q13
 · refine reg_alc r.ext fun p14 w1 g1 g2 e ho=>?_
   have r1:=RSt.alc r g1 g2 e ho
   have q14:=RSt.mem r1
   clear g1 g2 e ho
   exact rg_c40 hA ht hK r1 q14
theorem rg_c42 (hA:MsgsOf W mva a.msgs) (ht:tame a) (hK:RgEnd W a K5 R) {w:World} {m1:Value} {l1 h1:Nat} {p12 p13:Nat} {ps:List Nat} (r:RSt W w a [(m1,l1,h1)] ps) (q12:p12∈ps) (q13:p13∈ps) (d1213:p12≠p13):n5c42 (.pointer (some ⟨p12,0,none⟩)) (.pointer (some ⟨p13,0,none⟩)) (.agg (defCells a m1).toArray) (.agg (defCells a mva).toArray) (.agg (defCells a mva).toArray) (EC W) K5 R w:=by
 unfold n5c42
 refine ⟨?_,?_⟩
 · refine reg_cpyA hA ht r.ext fun m2 l2 h2 w1 g1 g2 g3 e hN=>?_
   have r1:=RSt.copy r g1 g2 g3 e hN
   clear g1 g2 g3 e hN
   exact rg_c35 hA ht hK r1 q12 q13 d1213
 · refine reg_alc r.ext fun p14 w1 g1 g2 e ho=>?_
   have d1214:p12≠p14:=fun hh=>by have:=(r.cls _ q12).2.1;omega
   have d1314:p13≠p14:=fun hh=>by have:=(r.cls _ q13).2.1;omega
   have r1:=RSt.alc r g1 g2 e ho
   replace q12:=List.mem_append_left [p14] q12
   replace q13:=List.mem_append_left [p14] q13
   have q14:=RSt.mem r1
   clear g1 g2 e ho
   refine reg_cpyA hA ht r1.ext fun m2 l2 h2 w1x g1 g2 g3 e hN=>?_
   have r1x:=RSt.copy r1 g1 g2 g3 e hN
   clear g1 g2 g3 e hN
   refine reg_cpyA hA ht r1x.ext fun m3 l3 h3 w1xx g1 g2 g3 e hN=>?_
   have r1xx:=RSt.copy r1x g1 g2 g3 e hN
   clear g1 g2 g3 e hN
   exact hK _ r1xx q12 q13 q14 d1213 d1214 d1314
theorem rg_c43 (hA:MsgsOf W mva a.msgs) (ht:tame a) (hK:RgEnd W a K5 R) {w:World} {m1:Value} {l1 h1:Nat} {p12 p14:Nat} {ps:List Nat} (r:RSt W w a [(m1,l1,h1)] ps) (q12:p12∈ps) (q14:p14∈ps) (d1214:p12≠p14):n5c43 (.pointer (some ⟨p12,0,none⟩)) (.pointer (some ⟨p14,0,none⟩)) (.agg (defCells a m1).toArray) (.agg (defCells a mva).toArray) (.agg (defCells a mva).toArray) (EC W) K5 R w:=by
 unfold n5c43
 refine ⟨?_,?_⟩
 · refine reg_cpyA hA ht r.ext fun m2 l2 h2 w1 g1 g2 g3 e hN=>?_
   have r1:=RSt.copy r g1 g2 g3 e hN
   clear g1 g2 g3 e hN
   exact rg_c36 hA ht hK r1 q12 q14 d1214
 · refine reg_alc r.ext fun p13 w1 g1 g2 e ho=>?_
   have d1213:p12≠p13:=fun hh=>by have:=(r.cls _ q12).2.1;omega
   have d1314:p13≠p14:=fun hh=>by have:=(r.cls _ q14).2.1;omega
   have r1:=RSt.alc r g1 g2 e ho
   replace q12:=List.mem_append_left [p13] q12
   replace q14:=List.mem_append_left [p13] q14
   have q13:=RSt.mem r1
   clear g1 g2 e ho
   refine reg_cpyA hA ht r1.ext fun m2 l2 h2 w1x g1 g2 g3 e hN=>?_
   have r1x:=RSt.copy r1 g1 g2 g3 e hN
   clear g1 g2 g3 e hN
   refine reg_cpyA hA ht r1x.ext fun m3 l3 h3 w1xx g1 g2 g3 e hN=>?_
   have r1xx:=RSt.copy r1x g1 g2 g3 e hN
   clear g1 g2 g3 e hN
   exact hK _ r1xx q12 q13 q14 d1213 d1214 d1314
theorem rg_c44 (hA:MsgsOf W mva a.msgs) (ht:tame a) (hK:RgEnd W a K5 R) {w:World} {m1:Value} {l1 h1:Nat} {p12:Nat} {ps:List Nat} (r:RSt W w a [(m1,l1,h1)] ps) (q12:p12∈ps):n5c44 (.pointer (some ⟨p12,0,none⟩)) (.agg (defCells a m1).toArray) (.agg (defCells a mva).toArray) (.agg (defCells a mva).toArray) (EC W) K5 R w:=by
 unfold n5c44
 refine ⟨?_,?_,?_⟩
 · refine reg_cpyA hA ht r.ext fun m2 l2 h2 w1 g1 g2 g3 e hN=>?_
   have r1:=RSt.copy r g1 g2 g3 e hN
   clear g1 g2 g3 e hN
   exact rg_c37 hA ht hK r1 q12
 · refine reg_alc r.ext fun p13 w1 g1 g2 e ho=>?_
   have d1213:p12≠p13:=fun hh=>by have:=(r.cls _ q12).2.1;omega
   have r1:=RSt.alc r g1 g2 e ho
   replace q12:=List.mem_append_left [p13] q12
   have q13:=RSt.mem r1
   clear g1 g2 e ho
   exact rg_c42 hA ht hK r1 q12 q13 d1213
 · refine reg_alc r.ext fun p14 w1 g1 g2 e ho=>?_
   have d1214:p12≠p14:=fun hh=>by have:=(r.cls _ q12).2.1;omega
   have r1:=RSt.alc r g1 g2 e ho
   replace q12:=List.mem_append_left [p14] q12
   have q14:=RSt.mem r1
   clear g1 g2 e ho
   exact rg_c43 hA ht hK r1 q12 q14 d1214
theorem rg_c45 (hA:MsgsOf W mva a.msgs) (ht:tame a) (hK:RgEnd W a K5 R) {w:World} {m1:Value} {l1 h1:Nat} {p13 p14:Nat} {ps:List Nat} (r:RSt W w a [(m1,l1,h1)] ps) (q13:p13∈ps) (q14:p14∈ps) (d1314:p13≠p14):n5c45 (.pointer (some ⟨p13,0,none⟩)) (.pointer (some ⟨p14,0,none⟩)) (.agg (defCells a m1).toArray) (.agg (defCells a mva).toArray) (.agg (defCells a mva).toArray) (EC W) K5 R w:=by
 unfold n5c45
 refine ⟨?_,?_⟩
 · refine reg_cpyA hA ht r.ext fun m2 l2 h2 w1 g1 g2 g3 e hN=>?_
   have r1:=RSt.copy r g1 g2 g3 e hN
   clear g1 g2 g3 e hN
   exact rg_c38 hA ht hK r1 q13 q14 d1314
 · refine reg_alc r.ext fun p12 w1 g1 g2 e ho=>?_
   have d1213:p12≠p13:=fun hh=>by have:=(r.cls _ q13).2.1;omega
   have d1214:p12≠p14:=fun hh=>by have:=(r.cls _ q14).2.1;omega
   have r1:=RSt.alc r g1 g2 e ho
   replace q13:=List.mem_append_left [p12] q13
   replace q14:=List.mem_append_left [p12] q14
   have q12:=RSt.mem r1
   clear g1 g2 e ho
   refine reg_cpyA hA ht r1.ext fun m2 l2 h2 w1x g1 g2 g3 e hN=>?_
   have r1x:=RSt.copy r1 g1 g2 g3 e hN
   clear g1 g2 g3 e hN
   refine reg_cpyA hA ht r1x.ext fun m3 l3 h3 w1xx g1 g2 g3 e hN=>?_
   have r1xx:=RSt.copy r1x g1 g2 g3 e hN
   clear g1 g2 g3 e hN
   exact hK _ r1xx q12 q13 q14 d1213 d1214 d1314
theorem rg_c46 (hA:MsgsOf W mva a.msgs) (ht:tame a) (hK:RgEnd W a K5 R) {w:World} {m1:Value} {l1 h1:Nat} {p13:Nat} {ps:List Nat} (r:RSt W w a [(m1,l1,h1)] ps) (q13:p13∈ps):n5c46 (.pointer (some ⟨p13,0,none⟩)) (.agg (defCells a m1).toArray) (.agg (defCells a mva).toArray) (.agg (defCells a mva).toArray) (EC W) K5 R w:=by
 unfold n5c46
 refine ⟨?_,?_,?_⟩
 · refine reg_cpyA hA ht r.ext fun m2 l2 h2 w1 g1 g2 g3 e hN=>?_
   have r1:=RSt.copy r g1 g2 g3 e hN
   clear g1 g2 g3 e hN
   exact rg_c39 hA ht hK r1 q13
 · refine reg_alc r.ext fun p12 w1 g1 g2 e ho=>?_
   have d1213:p12≠p13:=fun hh=>by have:=(r.cls _ q13).2.1;omega
   have r1:=RSt.alc r g1 g2 e ho
   replace q13:=List.mem_append_left [p12] q13
   have q12:=RSt.mem r1
   clear g1 g2 e ho
   exact rg_c42 hA ht hK r1 q12 q13 d1213
 · refine reg_alc r.ext fun p14 w1 g1 g2 e ho=>?_
   have d1314:p13≠p14:=fun hh=>by have:=(r.cls _ q13).2.1;omega
   have r1:=RSt.alc r g1 g2 e ho
   replace q13:=List.mem_append_left [p14] q13
   have q14:=RSt.mem r1
   clear g1 g2 e ho
   exact rg_c45 hA ht hK r1 q13 q14 d1314
theorem rg_c47 (hA:MsgsOf W mva a.msgs) (ht:tame a) (hK:RgEnd W a K5 R) {w:World} {m1:Value} {l1 h1:Nat} {p14:Nat} {ps:List Nat} (r:RSt W w a [(m1,l1,h1)] ps) (q14:p14∈ps):n5c47 (.pointer (some ⟨p14,0,none⟩)) (.agg (defCells a m1).toArray) (.agg (defCells a mva).toArray) (.agg (defCells a mva).toArray) (EC W) K5 R w:=by
 unfold n5c47
 refine ⟨?_,?_,?_⟩
 · refine reg_cpyA hA ht r.ext fun m2 l2 h2 w1 g1 g2 g3 e hN=>?_
   have r1:=RSt.copy r g1 g2 g3 e hN
   clear g1 g2 g3 e hN
   exact rg_c40 hA ht hK r1 q14
 · refine reg_alc r.ext fun p12 w1 g1 g2 e ho=>?_
   have d1214:p12≠p14:=fun hh=>by have:=(r.cls _ q14).2.1;omega
   have r1:=RSt.alc r g1 g2 e ho
   replace q14:=List.mem_append_left [p12] q14
   have q12:=RSt.mem r1
   clear g1 g2 e ho
   exact rg_c43 hA ht hK r1 q12 q14 d1214
 · refine reg_alc r.ext fun p13 w1 g1 g2 e ho=>?_
   have d1314:p13≠p14:=fun hh=>by have:=(r.cls _ q14).2.1;omega
   have r1:=RSt.alc r g1 g2 e ho
   replace q14:=List.mem_append_left [p13] q14
   have q13:=RSt.mem r1
   clear g1 g2 e ho
   exact rg_c45 hA ht hK r1 q13 q14 d1314
theorem rg_c48 (hA:MsgsOf W mva a.msgs) (ht:tame a) (hK:RgEnd W a K5 R) {w:World} {m1:Value} {l1 h1:Nat} {ps:List Nat} (r:RSt W w a [(m1,l1,h1)] ps):n5c48 (.agg (defCells a m1).toArray) (.agg (defCells a mva).toArray) (.agg (defCells a mva).toArray) (EC W) K5 R w:=by
 unfold n5c48
 refine ⟨?_,?_,?_,?_⟩
 · refine reg_cpyA hA ht r.ext fun m2 l2 h2 w1 g1 g2 g3 e hN=>?_
   have r1:=RSt.copy r g1 g2 g3 e hN
   clear g1 g2 g3 e hN
   exact rg_c41 hA ht hK r1
 · refine reg_alc r.ext fun p12 w1 g1 g2 e ho=>?_
   have r1:=RSt.alc r g1 g2 e ho
   have q12:=RSt.mem r1
   clear g1 g2 e ho
   exact rg_c44 hA ht hK r1 q12
 · refine reg_alc r.ext fun p13 w1 g1 g2 e ho=>?_
   have r1:=RSt.alc r g1 g2 e ho
   have q13:=RSt.mem r1
   clear g1 g2 e ho
   exact rg_c46 hA ht hK r1 q13
 · refine reg_alc r.ext fun p14 w1 g1 g2 e ho=>?_
   have r1:=RSt.alc r g1 g2 e ho
   have q14:=RSt.mem r1
   clear g1 g2 e ho
   exact rg_c47 hA ht hK r1 q14
theorem rg_c50 (hA:MsgsOf W mva a.msgs) (ht:tame a) (hK:RgEnd W a K5 R) {w:World} {p12 p13:Nat} {ps:List Nat} (r:RSt W w a [] ps) (q12:p12∈ps) (q13:p13∈ps) (d1213:p12≠p13):n5c50 (.pointer (some ⟨p12,0,none⟩)) (.pointer (some ⟨p13,0,none⟩)) (.agg (defCells a mva).toArray) (.agg (defCells a mva).toArray) (.agg (defCells a mva).toArray) (EC W) K5 R w:=by
 unfold n5c50
 refine ⟨?_,?_⟩
 · refine reg_cpyA hA ht r.ext fun m1 l1 h1 w1 g1 g2 g3 e hN=>?_
   have r1:=RSt.copy r g1 g2 g3 e hN
   clear g1 g2 g3 e hN
   exact rg_c42 hA ht hK r1 q12 q13 d1213
 · refine reg_alc r.ext fun p14 w1 g1 g2 e ho=>?_
   have d1214:p12≠p14:=fun hh=>by have:=(r.cls _ q12).2.1;omega
   have d1314:p13≠p14:=fun hh=>by have:=(r.cls _ q13).2.1;omega
   have r1:=RSt.alc r g1 g2 e ho
   replace q12:=List.mem_append_left [p14] q12
   replace q13:=List.mem_append_left [p14] q13
   have q14:=RSt.mem r1
   clear g1 g2 e ho
   unfold n5c49
   refine reg_cpyA hA ht r1.ext fun m1 l1 h1 w1x g1 g2 g3 e hN=>?_
   have r1x:=RSt.copy r1 g1 g2 g3 e hN
   clear g1 g2 g3 e hN
   refine reg_cpyA hA ht r1x.ext fun m2 l2 h2 w1xx g1 g2 g3 e hN=>?_
   have r1xx:=RSt.copy r1x g1 g2 g3 e hN
   clear g1 g2 g3 e hN
   refine reg_cpyA hA ht r1xx.ext fun m3 l3 h3 w1xxx g1 g2 g3 e hN=>?_
   have r1xxx:=RSt.copy r1xx g1 g2 g3 e hN
   clear g1 g2 g3 e hN
   exact hK _ r1xxx q12 q13 q14 d1213 d1214 d1314
theorem rg_c51 (hA:MsgsOf W mva a.msgs) (ht:tame a) (hK:RgEnd W a K5 R) {w:World} {p12 p14:Nat} {ps:List Nat} (r:RSt W w a [] ps) (q12:p12∈ps) (q14:p14∈ps) (d1214:p12≠p14):n5c51 (.pointer (some ⟨p12,0,none⟩)) (.pointer (some ⟨p14,0,none⟩)) (.agg (defCells a mva).toArray) (.agg (defCells a mva).toArray) (.agg (defCells a mva).toArray) (EC W) K5 R w:=by
 unfold n5c51
 refine ⟨?_,?_⟩
 · refine reg_cpyA hA ht r.ext fun m1 l1 h1 w1 g1 g2 g3 e hN=>?_
   have r1:=RSt.copy r g1 g2 g3 e hN
   clear g1 g2 g3 e hN
   exact rg_c43 hA ht hK r1 q12 q14 d1214
 · refine reg_alc r.ext fun p13 w1 g1 g2 e ho=>?_
   have d1213:p12≠p13:=fun hh=>by have:=(r.cls _ q12).2.1;omega
   have d1314:p13≠p14:=fun hh=>by have:=(r.cls _ q14).2.1;omega
   have r1:=RSt.alc r g1 g2 e ho
   replace q12:=List.mem_append_left [p13] q12
   replace q14:=List.mem_append_left [p13] q14
   have q13:=RSt.mem r1
   clear g1 g2 e ho
   unfold n5c49
   refine reg_cpyA hA ht r1.ext fun m1 l1 h1 w1x g1 g2 g3 e hN=>?_
   have r1x:=RSt.copy r1 g1 g2 g3 e hN
   clear g1 g2 g3 e hN
   refine reg_cpyA hA ht r1x.ext fun m2 l2 h2 w1xx g1 g2 g3 e hN=>?_
   have r1xx:=RSt.copy r1x g1 g2 g3 e hN
   clear g1 g2 g3 e hN
   refine reg_cpyA hA ht r1xx.ext fun m3 l3 h3 w1xxx g1 g2 g3 e hN=>?_
   have r1xxx:=RSt.copy r1xx g1 g2 g3 e hN
   clear g1 g2 g3 e hN
   exact hK _ r1xxx q12 q13 q14 d1213 d1214 d1314
theorem rg_c52 (hA:MsgsOf W mva a.msgs) (ht:tame a) (hK:RgEnd W a K5 R) {w:World} {p12:Nat} {ps:List Nat} (r:RSt W w a [] ps) (q12:p12∈ps):n5c52 (.pointer (some ⟨p12,0,none⟩)) (.agg (defCells a mva).toArray) (.agg (defCells a mva).toArray) (.agg (defCells a mva).toArray) (EC W) K5 R w:=by
 unfold n5c52
 refine ⟨?_,?_,?_⟩
 · refine reg_cpyA hA ht r.ext fun m1 l1 h1 w1 g1 g2 g3 e hN=>?_
   have r1:=RSt.copy r g1 g2 g3 e hN
   clear g1 g2 g3 e hN
   exact rg_c44 hA ht hK r1 q12
 · refine reg_alc r.ext fun p13 w1 g1 g2 e ho=>?_
   have d1213:p12≠p13:=fun hh=>by have:=(r.cls _ q12).2.1;omega
   have r1:=RSt.alc r g1 g2 e ho
   replace q12:=List.mem_append_left [p13] q12
   have q13:=RSt.mem r1
   clear g1 g2 e ho
   exact rg_c50 hA ht hK r1 q12 q13 d1213
 · refine reg_alc r.ext fun p14 w1 g1 g2 e ho=>?_
   have d1214:p12≠p14:=fun hh=>by have:=(r.cls _ q12).2.1;omega
   have r1:=RSt.alc r g1 g2 e ho
   replace q12:=List.mem_append_left [p14] q12
   have q14:=RSt.mem r1
   clear g1 g2 e ho
   exact rg_c51 hA ht hK r1 q12 q14 d1214
theorem rg_c53 (hA:MsgsOf W mva a.msgs) (ht:tame a) (hK:RgEnd W a K5 R) {w:World} {p13 p14:Nat} {ps:List Nat} (r:RSt W w a [] ps) (q13:p13∈ps) (q14:p14∈ps) (d1314:p13≠p14):n5c53 (.pointer (some ⟨p13,0,none⟩)) (.pointer (some ⟨p14,0,none⟩)) (.agg (defCells a mva).toArray) (.agg (defCells a mva).toArray) (.agg (defCells a mva).toArray) (EC W) K5 R w:=by
 unfold n5c53
 refine ⟨?_,?_⟩
 · refine reg_cpyA hA ht r.ext fun m1 l1 h1 w1 g1 g2 g3 e hN=>?_
   have r1:=RSt.copy r g1 g2 g3 e hN
   clear g1 g2 g3 e hN
   exact rg_c45 hA ht hK r1 q13 q14 d1314
 · refine reg_alc r.ext fun p12 w1 g1 g2 e ho=>?_
   have d1213:p12≠p13:=fun hh=>by have:=(r.cls _ q13).2.1;omega
   have d1214:p12≠p14:=fun hh=>by have:=(r.cls _ q14).2.1;omega
   have r1:=RSt.alc r g1 g2 e ho
   replace q13:=List.mem_append_left [p12] q13
   replace q14:=List.mem_append_left [p12] q14
   have q12:=RSt.mem r1
   clear g1 g2 e ho
   unfold n5c49
   refine reg_cpyA hA ht r1.ext fun m1 l1 h1 w1x g1 g2 g3 e hN=>?_
   have r1x:=RSt.copy r1 g1 g2 g3 e hN
   clear g1 g2 g3 e hN
   refine reg_cpyA hA ht r1x.ext fun m2 l2 h2 w1xx g1 g2 g3 e hN=>?_
   have r1xx:=RSt.copy r1x g1 g2 g3 e hN
   clear g1 g2 g3 e hN
   refine reg_cpyA hA ht r1xx.ext fun m3 l3 h3 w1xxx g1 g2 g3 e hN=>?_
   have r1xxx:=RSt.copy r1xx g1 g2 g3 e hN
   clear g1 g2 g3 e hN
   exact hK _ r1xxx q12 q13 q14 d1213 d1214 d1314
theorem rg_c54 (hA:MsgsOf W mva a.msgs) (ht:tame a) (hK:RgEnd W a K5 R) {w:World} {p13:Nat} {ps:List Nat} (r:RSt W w a [] ps) (q13:p13∈ps):n5c54 (.pointer (some ⟨p13,0,none⟩)) (.agg (defCells a mva).toArray) (.agg (defCells a mva).toArray) (.agg (defCells a mva).toArray) (EC W) K5 R w:=by
 unfold n5c54
 refine ⟨?_,?_,?_⟩
 · refine reg_cpyA hA ht r.ext fun m1 l1 h1 w1 g1 g2 g3 e hN=>?_
   have r1:=RSt.copy r g1 g2 g3 e hN
   clear g1 g2 g3 e hN
   exact rg_c46 hA ht hK r1 q13
 · refine reg_alc r.ext fun p12 w1 g1 g2 e ho=>?_
   have d1213:p12≠p13:=fun hh=>by have:=(r.cls _ q13).2.1;omega
   have r1:=RSt.alc r g1 g2 e ho
   replace q13:=List.mem_append_left [p12] q13
   have q12:=RSt.mem r1
   clear g1 g2 e ho
   exact rg_c50 hA ht hK r1 q12 q13 d1213
 · refine reg_alc r.ext fun p14 w1 g1 g2 e ho=>?_
   have d1314:p13≠p14:=fun hh=>by have:=(r.cls _ q13).2.1;omega
   have r1:=RSt.alc r g1 g2 e ho
   replace q13:=List.mem_append_left [p14] q13
   have q14:=RSt.mem r1
   clear g1 g2 e ho
   exact rg_c53 hA ht hK r1 q13 q14 d1314
theorem rg_c55 (hA:MsgsOf W mva a.msgs) (ht:tame a) (hK:RgEnd W a K5 R) {w:World} {p14:Nat} {ps:List Nat} (r:RSt W w a [] ps) (q14:p14∈ps):n5c55 (.pointer (some ⟨p14,0,none⟩)) (.agg (defCells a mva).toArray) (.agg (defCells a mva).toArray) (.agg (defCells a mva).toArray) (EC W) K5 R w:=by
 unfold n5c55
 refine ⟨?_,?_,?_⟩
 · refine reg_cpyA hA ht r.ext fun m1 l1 h1 w1 g1 g2 g3 e hN=>?_
   have r1:=RSt.copy r g1 g2 g3 e hN
   clear g1 g2 g3 e hN
   exact rg_c47 hA ht hK r1 q14
 · refine reg_alc r.ext fun p12 w1 g1 g2 e ho=>?_
   have d1214:p12≠p14:=fun hh=>by have:=(r.cls _ q14).2.1;omega
   have r1:=RSt.alc r g1 g2 e ho
   replace q14:=List.mem_append_left [p12] q14
   have q12:=RSt.mem r1
   clear g1 g2 e ho
   exact rg_c51 hA ht hK r1 q12 q14 d1214
 · refine reg_alc r.ext fun p13 w1 g1 g2 e ho=>?_
   have d1314:p13≠p14:=fun hh=>by have:=(r.cls _ q14).2.1;omega
   have r1:=RSt.alc r g1 g2 e ho
   replace q14:=List.mem_append_left [p13] q14
   have q13:=RSt.mem r1
   clear g1 g2 e ho
   exact rg_c53 hA ht hK r1 q13 q14 d1314
end
theorem reg_st3 {W w:World} {a:DefD} {K5:Value→Value→Value→World→Prop} {R:RT} {m1 m2 m3:Value} {l1 h1 l2 h2 l3 h3 p12 p13 p14:Nat} {ps:List Nat} (r:RSt W w a [(m1,l1,h1),(m2,l2,h2),(m3,l3,h3)] ps) (q12:p12∈ps) (q13:p13∈ps) (q14:p14∈ps) (d1213:p12≠p13) (d1214:p12≠p14) (d1314:p13≠p14)
 (hK:∀ w',Ext W w'→w.heap.size=w'.heap.size→MsgsA w' l1 h1 m1 a.msgs→MsgsA w' l2 h2 m2 a.msgs→MsgsA w' l3 h3 m3 a.msgs→w'.heap[p12]?=some (.cells (defCells a m1).toArray 24 (0,0))→w'.heap[p13]?=some (.cells (defCells a m2).toArray 24 (0,0))→w'.heap[p14]?=some (.cells (defCells a m3).toArray 24 (0,0))→K5 (.pointer (some ⟨p12,0,none⟩)) (.pointer (some ⟨p13,0,none⟩)) (.pointer (some ⟨p14,0,none⟩)) w') :
 n5c30 (.pointer (some ⟨p12,0,none⟩)) (.pointer (some ⟨p13,0,none⟩)) (.pointer (some ⟨p14,0,none⟩)) (.agg (defCells a m1).toArray) (.agg (defCells a m2).toArray) (.agg (defCells a m3).toArray) K5 R w:=by
 obtain ⟨a1,a2,a3,hC1⟩:=r.cps (m1,l1,h1) (by simp)
 obtain ⟨b1,b2,b3,hC2⟩:=r.cps (m2,l2,h2) (by simp)
 obtain ⟨c1,c2,c3,hC3⟩:=r.cps (m3,l3,h3) (by simp)
 obtain ⟨g12,k12,o12⟩:=r.cls p12 q12
 obtain ⟨g13,k13,o13⟩:=r.cls p13 q13
 obtain ⟨g14,k14,o14⟩:=r.cls p14 q14
 have i:∀ p∈ps,(p < l1∨h1≤p)∧(p < l2∨h2≤p)∧(p < l3∨h3≤p):=fun p hp=>⟨r.cp (m1,l1,h1) (by simp) p hp,r.cp (m2,l2,h2) (by simp) p hp,r.cp (m3,l3,h3) (by simp) p hp⟩
 have i12:=i p12 q12
 have i13:=i p13 q13
 have i14:=i p14 q14
 have u1:m1.oneCell'=true:=SliceOf.oneCell hC1.toN.plain
 have u2:m2.oneCell'=true:=SliceOf.oneCell hC2.toN.plain
 have u3:m3.oneCell'=true:=SliceOf.oneCell hC3.toN.plain
 have e:=r.ext
 clear i r q12 q13 q14
 dsimp only at *
 unfold n5c30
 obtain ⟨e1,x12,ho,hs⟩:=set3 o12 e g12 (.string a.name) m1 (.string a.start)
 have o13':=(ho p13 (Ne.symm d1213)).trans o13
 have o14':=(ho p14 (Ne.symm d1214)).trans o14
 simp (disch:=try exact DI) only [↓PR,QR,simprocAttr,(cells_of_heap o12).1,(cells_of_heap o12).2,defCells,zeroD]
 generalize (((w.setCell ⟨p12,0,none⟩ (.string a.name)).setCell ⟨p12,0+1,none⟩ m1).setCell ⟨p12,0+2,none⟩ (.string a.start))=w1 at *
 refine turnK_intro ?_
 obtain ⟨e2,x13,ho2,hs2⟩:=set3 o13' e1 g13 (.string a.name) m2 (.string a.start)
 have o14'':=(ho2 p14 (Ne.symm d1314)).trans o14'
 simp (disch:=try exact DI) only [↓PR,QR,simprocAttr,(cells_of_heap o13').1,(cells_of_heap o13').2,defCells,zeroD]
 generalize (((w1.setCell ⟨p13,0,none⟩ (.string a.name)).setCell ⟨p13,0+1,none⟩ m2).setCell ⟨p13,0+2,none⟩ (.string a.start))=w2 at *
 refine turnK_intro ?_
 obtain ⟨e3,x14,ho3,hs3⟩:=set3 o14'' e2 g14 (.string a.name) m3 (.string a.start)
 simp (disch:=try exact DI) only [↓PR,QR,simprocAttr,(cells_of_heap o14'').1,(cells_of_heap o14'').2,defCells,zeroD]
 refine turnK_intro ?_
 refine hK _ e3 (hs.trans (hs2.trans hs3)) (((hC1.only ho ?_).only ho2 ?_).only ho3 ?_) (((hC2.only ho ?_).only ho2 ?_).only ho3 ?_) (((hC3.only ho ?_).only ho2 ?_).only ho3 ?_) ((ho3 p12 d1214).trans ((ho2 p12 d1213).trans x12)) ((ho3 p13 d1314).trans x13) x14
 all_goals unfold Harmless;omega
theorem EqualFunc_Field_ret (w0:World) (v u:Value) (l m:List FieldD) (g:FuncId) (hl:FieldsOf w0 v l) (hm:FieldsOf w0 u m) (hg:Callable Pg g)
 (hc:∀ w v u x y,Ext w0 w→FieldVal w v x→FieldVal w u y→Ret Pg g #[v,u] w fun r w'=>r = .bool (decide (x=y))∧Ext w w') :
 Ret Pg 86 #[v,u,.func (.func g) #[] #[]] w0 fun r w'=>r = .bool (decide (l=m))∧Ext w0 w':=by
 obtain ⟨A,c,rfl,hlc,hcm,hlm,hel⟩:=SliceOf.open hl
 obtain ⟨A',c',rfl,hlc',hcm',hlm',hel'⟩:=SliceOf.open hm
 refine n92s (R:=retR _) ?_;unfold n92
 simp (disch:=try exact DI) only [↓PR,QR,simprocAttr]
 by_cases hlen:l.length=m.length
 · have hne:((l.length:Int) != (m.length:Int))=false:=by simp [hlen]
   simp (disch:=try exact DI) only [↓PR,QR,simprocAttr,↓n92c1,↓n92c2,↓n92c3,hne]
   refine loop1_intro (fun a0 w=>∃ (k:Nat) , a0 = .int .i64 (k:Int)∧k≤l.length∧Ext w0 w∧l.take k=m.take k) (fun a0 _=>l.length - (intOf a0).toNat) ⟨0,rfl,Nat.zero_le _,ee,rfl⟩ ?_
   rintro _ w ⟨k,rfl,hk,e,hI⟩
   have se:=e.size
   rcases drop_cases hk with ⟨x,hx,hd,hlt,hdec⟩ | ⟨hk,hd,hdec⟩
   · obtain ⟨b,o,cs,rfl,_,hA,hE1⟩:=hel k x hx
     obtain ⟨y,hy⟩:=getElem?_lt (l:=m) (k:=k) (by omega)
     obtain ⟨b',o',cs',rfl,_,hA',hE2⟩:=hel' k y hy
     have hlt':k < m.length:=by omega
     obtain ⟨tv1,cv1,rfl,hT1,hC1,ht1,hc1⟩:=hE1.op
     obtain ⟨tv2,cv2,rfl,hT2,hC2,ht2,hc2⟩:=hE2.op
     have ea:∀ o,Ext w0 (w.alloc o):=fun o=>e.alloc o
     have e1:=ea (.cells (fieldCells x tv1 cv1).toArray 38)
     simp (disch:=try exact DI) only [↓PR,QR,simprocAttr,↓n92c1,↓n92c2,↓n92c3,hdec,hA.c15,hA'.c15]
     generalize hW:World.alloc (World.alloc w _) _=W
     have e2:Ext w0 W:=by rw [← hW];exact ee
     clear hW
     rw [callV_func hg]
     refine zcr (hc W _ _ x y e2 ⟨tv1,cv1,rfl,TermsOf.ext hT1 e2,CasesOf.ext hC1 e2⟩ ⟨tv2,cv2,rfl,TermsOf.ext hT2 e2,CasesOf.ext hC2 e2⟩) fun w1 e3=>?_
     by_cases hxy:x=y
     · subst hxy
       simp only [decide_true]
       simp (disch:=try exact DI) only [↓PR,QR,simprocAttr,↓n92c1,↓n92c2,↓n92c3]
       exact ⟨⟨k+1,rfl,by omega,ee,by rw [List.take_add_one,List.take_add_one,hx,hy,hI]⟩,meas_lt hlt⟩
     · simp only [hxy,decide_false]
       simp (disch:=try exact DI) only [↓PR,QR,simprocAttr,↓n92c1,↓n92c2,↓n92c3]
       have hne':¬ l=m:=by
        rintro rfl
        rw [hx] at hy
        injection hy with hy
        exact hxy hy
       exact ⟨by simp [hne'],e2.trans e3⟩
   · subst hk
     simp (disch:=try exact DI) only [↓PR,QR,simprocAttr,↓n92c1,↓n92c2,↓n92c3,hdec]
     rw [List.take_length,hlen,List.take_length] at hI
     exact ⟨by simp [hI],e⟩
 · have hne:((l.length:Int) != (m.length:Int))=true:=by simp;omega
   simp (disch:=try exact DI) only [↓PR,QR,simprocAttr,↓n92c1,↓n92c2,↓n92c3,hne]
   have hne':¬ l=m:=fun h=>hlen (by rw [h])
   exact ⟨by simp [hne'],Ext.refl _⟩
theorem EqualFunc_Message_ret (w0:World) (v u:Value) (l m:List MsgD) (g:FuncId) (hl:MsgsOf w0 v l) (hm:MsgsOf w0 u m) (hg:Callable Pg g)
 (hc:∀ w v u x y,Ext w0 w→MsgVal w v x→MsgVal w u y→Ret Pg g #[v,u] w fun r w'=>r = .bool (decide (x=y))∧Ext w w') :
 Ret Pg 84 #[v,u,.func (.func g) #[] #[]] w0 fun r w'=>r = .bool (decide (l=m))∧Ext w0 w':=by
 obtain ⟨A,c,rfl,hlc,hcm,hlm,hel⟩:=SliceOf.open hl
 obtain ⟨A',c',rfl,hlc',hcm',hlm',hel'⟩:=SliceOf.open hm
 refine n93s (R:=retR _) ?_;unfold n93
 simp (disch:=try exact DI) only [↓PR,QR,simprocAttr]
 by_cases hlen:l.length=m.length
 · have hne:((l.length:Int) != (m.length:Int))=false:=by simp [hlen]
   simp (disch:=try exact DI) only [↓PR,QR,simprocAttr,↓n93c1,↓n93c2,↓n93c3,hne]
   refine loop1_intro (fun a0 w=>∃ (k:Nat) , a0 = .int .i64 (k:Int)∧k≤l.length∧Ext w0 w∧l.take k=m.take k) (fun a0 _=>l.length - (intOf a0).toNat) ⟨0,rfl,Nat.zero_le _,ee,rfl⟩ ?_
   rintro _ w ⟨k,rfl,hk,e,hI⟩
   have se:=e.size
   rcases drop_cases hk with ⟨x,hx,hd,hlt,hdec⟩ | ⟨hk,hd,hdec⟩
   · obtain ⟨b,o,cs,rfl,_,hA,hE1⟩:=hel k x hx
     obtain ⟨y,hy⟩:=getElem?_lt (l:=m) (k:=k) (by omega)
     obtain ⟨b',o',cs',rfl,_,hA',hE2⟩:=hel' k y hy
     have hlt':k < m.length:=by omega
     obtain ⟨fv1,rfl,hF1⟩:=hE1
     have ht1:=SliceOf.oneCell hF1
     obtain ⟨fv2,rfl,hF2⟩:=hE2
     have ht2:=SliceOf.oneCell hF2
     have ea:∀ o,Ext w0 (w.alloc o):=fun o=>e.alloc o
     have e1:=ea (.cells (msgCells x fv1).toArray 44)
     simp (disch:=try exact DI) only [↓PR,QR,simprocAttr,↓n93c1,↓n93c2,↓n93c3,hdec,hA.c2,hA'.c2]
     generalize hW:World.alloc (World.alloc w _) _=W
     have e2:Ext w0 W:=by rw [← hW];exact ee
     clear hW
     rw [callV_func hg]
     refine zcr (hc W _ _ x y e2 ⟨fv1,rfl,FieldsOf.ext hF1 e2⟩ ⟨fv2,rfl,FieldsOf.ext hF2 e2⟩) fun w1 e3=>?_
     by_cases hxy:x=y
     · subst hxy
       simp only [decide_true]
       simp (disch:=try exact DI) only [↓PR,QR,simprocAttr,↓n93c1,↓n93c2,↓n93c3]
       exact ⟨⟨k+1,rfl,by omega,ee,by rw [List.take_add_one,List.take_add_one,hx,hy,hI]⟩,meas_lt hlt⟩
     · simp only [hxy,decide_false]
       simp (disch:=try exact DI) only [↓PR,QR,simprocAttr,↓n93c1,↓n93c2,↓n93c3]
       have hne':¬ l=m:=by
        rintro rfl
        rw [hx] at hy
        injection hy with hy
        exact hxy hy
       exact ⟨by simp [hne'],e2.trans e3⟩
   · subst hk
     simp (disch:=try exact DI) only [↓PR,QR,simprocAttr,↓n93c1,↓n93c2,↓n93c3,hdec]
     rw [List.take_length,hlen,List.take_length] at hI
     exact ⟨by simp [hI],e⟩
 · have hne:((l.length:Int) != (m.length:Int))=true:=by simp;omega
   simp (disch:=try exact DI) only [↓PR,QR,simprocAttr,↓n93c1,↓n93c2,↓n93c3,hne]
   have hne':¬ l=m:=fun h=>hlen (by rw [h])
   exact ⟨by simp [hne'],Ext.refl _⟩
theorem EqualS1_ret (w0:World) (v u:Value) (x y:MsgD) (hx:MsgVal w0 v x) (hy:MsgVal w0 u y):Ret Pg 85 #[v,u] w0 fun r w'=>r = .bool (decide (x=y))∧Ext w0 w':=by
 obtain ⟨fv,rfl,hF⟩:=hx
 obtain ⟨gv,rfl,hG⟩:=hy
 refine n16s (R:=retR _) ?_;unfold n16
 simp (disch:=try exact DI) only [↓PR,QR,simprocAttr,Sw.joinK_eq]
 generalize hW:World.alloc (World.alloc w0 _) _=W
 have e0:Ext w0 W:=by rw [← hW];exact ee
 have o3:W.heap[w0.heap.size]?=some (.cells #[.string x.name,fv] 44 (0,0)):=by rw [← hW];simp (disch:=try exact DI) only [↓PR,QR,simprocAttr]
 have o4:W.heap[w0.heap.size+1]?=some (.cells #[.string y.name,gv] 44 (0,0)):=by rw [← hW];simp (disch:=try exact DI) only [↓PR,QR,simprocAttr]
 clear hW
 by_cases hn:x.name=y.name
 · simp only [hn,decide_true]
   simp (disch:=try exact DI) only [↓PR,QR,simprocAttr,Sw.joinK_eq,(cells_of_heap o3).1,(cells_of_heap o4).1]
   refine zcr (EqualFunc_Field_ret W _ _ x.fields y.fields _ (FieldsOf.ext hF e0) (FieldsOf.ext hG e0) c87 (fun w v u a b _ hv hu=>sameField_ret w v u a b hv hu)) fun w1 e1=>?_
   simp (disch:=try exact DI) only [↓PR,QR,simprocAttr,Sw.joinK_eq]
   refine ⟨?_,e0.trans e1⟩
   congr 1
   rw [Bool.eq_iff_iff]
   simp only [decide_eq_true_eq]
   constructor
   · intro h;cases x;cases y;simp_all
   · rintro rfl;rfl
 · simp only [hn,decide_false]
   simp (disch:=try exact DI) only [↓PR,QR,simprocAttr,Sw.joinK_eq]
   have hne:¬ x=y:=by rintro rfl;exact hn rfl
   exact ⟨by simp [hne],by first | exact e0 | exact ee⟩
theorem Equal_ret (w0:World) (v u:Value) (x y:DefD) (hx:DefVal w0 v x) (hy:DefVal w0 u y):Ret Pg 45 #[v,u] w0 fun r w'=>r = .bool (decide (x=y))∧Ext w0 w':=by
 obtain ⟨fv,rfl,hF⟩:=hx
 obtain ⟨gv,rfl,hG⟩:=hy
 refine n15s (R:=retR _) ?_;unfold n15
 simp (disch:=try exact DI) only [↓PR,QR,simprocAttr,↓n15c1]
 generalize hW:World.alloc (World.alloc w0 _) _=W
 have e0:Ext w0 W:=by rw [← hW];exact ee
 have o3:W.heap[w0.heap.size]?=some (.cells #[.string x.name,fv,.string x.start] 24 (0,0)):=by rw [← hW];simp (disch:=try exact DI) only [↓PR,QR,simprocAttr]
 have o4:W.heap[w0.heap.size+1]?=some (.cells #[.string y.name,gv,.string y.start] 24 (0,0)):=by rw [← hW];simp (disch:=try exact DI) only [↓PR,QR,simprocAttr]
 clear hW
 by_cases hn:x.name=y.name∧x.start=y.start
 · obtain ⟨h1,h2⟩:=hn
   simp only [h1,h2,decide_true]
   simp (disch:=try exact DI) only [↓PR,QR,simprocAttr,↓n15c1,h1,h2,(cells_of_heap o3).1,(cells_of_heap o4).1]
   refine zcr (EqualFunc_Message_ret W _ _ x.msgs y.msgs _ (MsgsOf.ext hF e0) (MsgsOf.ext hG e0) c85 (fun w v u a b _ hv hu=>EqualS1_ret w v u a b hv hu)) fun w1 e1=>?_
   simp (disch:=try exact DI) only [↓PR,QR,simprocAttr,↓n15c1]
   refine ⟨?_,e0.trans e1⟩
   congr 1
   rw [Bool.eq_iff_iff]
   simp only [decide_eq_true_eq]
   constructor
   · intro h;cases x;cases y;simp_all
   · rintro rfl;rfl
 · have hf:(decide (x.name=y.name)&&decide (x.start=y.start))=false:=by
    rw [Bool.eq_false_iff]
    intro h
    simp at h
    exact hn h
   have hne:¬ x=y:=by rintro rfl;exact hn ⟨rfl,rfl⟩
   simp only [hf]
   simp (disch:=try exact DI) only [↓PR,QR,simprocAttr,↓n15c1,hf]
   exact ⟨by simp [hne],by first | exact e0 | exact ee⟩
section
variable {w0:World} {d:DefD} {m:MsgD} {mv mv1 mvw mva fvm:Value} {p4 p11 p12 p13 p14 lo1 hi1 lo2 hi2 lo hi k:Nat}
theorem grow_same {w:World} {fN bN:Nat} (hfN:fN≤255) (hbN:bN≤255) (hk:d.msgs[k]?=some m) (hl:d.msgs.length≤10) (hc:(checkP d).2.2=0) (ht:calm d)
 (hn0:0 < m.fields.length) (hn1:m.fields.length≤1000) (hM:MsgsOf w0 mv d.msgs) (o4:w.heap[p4]?=some (.cells (defCells d mv).toArray 24 (0,0))) (o12:w.heap[p12]?=some (.cells (defCells d mv1).toArray 24 (0,0))) (A12:MsgsA w lo1 hi1 mv1 d.msgs)
 (o13:w.heap[p13]?=some (.cells (defCells d mvw).toArray 24 (0,0))) (A13:MsgsA w lo2 hi2 mvw d.msgs) (hlo1:w0.heap.size≤lo1) (hlo2:w0.heap.size≤lo2) (hl1:lo1≤hi1) (h12:hi1≤lo2) (hl2:lo2≤hi2) (h23:hi2≤lo)
 (hlo:w0.heap.size≤lo) (hlh:lo≤hi) (hhi:hi≤w.heap.size) (N:MsgsN w lo hi mva d.msgs) (g14:w0.heap.size≤p14) (e:Ext w0 w)
 (o11:w.heap[p11]?=some (.cells #[.string m.name,fvm] TM (0,0))) (l11:p11 < lo1) (hF:FieldsOf w0 fvm m.fields) (o14:w.heap[p14]?=some (.cells (defCells d mva).toArray 24 (0,0))) :
 drawK w fun C6 w=>n5c29 (.int .u8 (fN:Int)) (.int .u8 (bN:Int)) (.pointer (some ⟨p4,0,none⟩)) (.pointer (some ⟨p11,0,none⟩)) (.pointer (some ⟨p12,0,none⟩)) (.pointer (some ⟨p13,0,none⟩)) (.pointer (some ⟨p14,0,none⟩)) (.int .i64 (d.msgs.length:Int)) (.int .i64 (k:Int)) C6 (retR fun r w'=>r = .bool true∧Ext w0 w') w:=by
 have hkl:=(List.getElem?_eq_some_iff.1 hk).1
 have hdd:decide (d=d)=true:=by simp
 have hnn:((d.msgs.length:Int) != (d.msgs.length:Int))=false:=by simp
 have hff:((m.fields.length:Int) != (m.fields.length:Int))=false:=by simp
 obtain ⟨Am,cm,rfl,_⟩:=SliceOf.open hF
 obtain ⟨A1,c1,rfl,_⟩:=SliceOf.open A12.toN.plain
 have A13':=A13
 obtain ⟨css,hO,hmt,hA⟩:=A13
 obtain ⟨ck,hck⟩:=getElem?_lt (l:=css) (k:=k) (by rw [hmt.1];exact hkl)
 obtain ⟨fv,he,hFN⟩:=hmt.2 k m ck hk hck
 obtain ⟨gM,capM,rfl,hgM,hgMl,hTM,hfM,hElM⟩:=hO.1.row (fun x=>x.2) (by rw [hmt.1];omega)
 obtain ⟨Af,cf,rfl,_⟩:=SliceOf.open hFN.plain
 have hEk:=hElM k ck hck
 rw [he] at hEk
 rw [hmt.1] at *
 refine drawK_intro ?_
 have eD:Ext w w.drew:=(Ext.refl w).wdrew
 have E:=e.trans eD
 have hEk':=hEk.c2 eD
 unfold n5c29
 simp (disch:=try exact DI) only [↓PR,QR,simprocAttr,(cells_of_heap (eD.obj o12)).1,(cells_of_heap (eD.obj o4)).1]
 refine zcr (Equal_ret _ _ _ d d ⟨_,rfl,(A12.ext eD).toN.plain⟩ ⟨_,rfl,hM.ext E⟩) fun w1 e1=>?_
 rw [hdd]
 refine ⟨e1,?_⟩
 unfold n5c28
 simp (disch:=try exact DI) only [↓PR,QR,simprocAttr,(cells_of_heap (eD.obj o13)).1,(cells_of_heap (eD.obj o4)).1]
 refine zcr (Equal_ret _ _ _ d d ⟨_,rfl,((A13'.ext eD).ext e1).toN.plain⟩ ⟨_,rfl,hM.ext (E.trans e1)⟩) fun w2 e2=>?_
 rw [hdd]
 refine ⟨e1.trans e2,?_⟩
 have f2:=eD.trans (e1.trans e2)
 simp (disch:=try exact DI) only [↓PR,QR,simprocAttr,↓n5c27,↓n5c26,↓n5c25,↓n5c24,(cells_of_heap (eD.obj o12)).1,(cells_of_heap (eD.obj o13)).1,(cells_of_heap (eD.obj o11)).1,hnn,hff,hEk']
 exact grow_fur hfN hbN hk hl hc ht hn0 hn1 hM (f2.obj o4) (f2.obj o12) (A12.ext f2) (f2.obj o13) (A13'.ext f2) hlo1 hlo2 hl1 h12 hl2 h23 hlo hlh (by have:=f2.size;omega) (N.ext f2) g14 (e.trans f2) (f2.obj o11) l11 hF (f2.obj o14)
end
theorem SpanGrows_ret (w0:World) (v:Value) (d:DefD) (a f b:Int) (hd:DefVal w0 v d) (hsm:DefSm d) (ha:(Lit.int .u8 a).wf=true) (hf:(Lit.int .u8 f).wf=true) (hb:(Lit.int .u8 b).wf=true):Ret Pg 13 #[v,.int .u8 a,.int .u8 f,.int .u8 b] w0 fun r w'=>r = .bool true∧Ext w0 w':=by
 have ha':0≤a∧a≤255:=by simpa [Lit.wf,IntKind.min,IntKind.max,IntKind.signed,IntKind.bits] using ha
 have hf':0≤f∧f≤255:=by simpa [Lit.wf,IntKind.min,IntKind.max,IntKind.signed,IntKind.bits] using hf
 have hb':0≤b∧b≤255:=by simpa [Lit.wf,IntKind.min,IntKind.max,IntKind.signed,IntKind.bits] using hb
 clear ha hf hb
 obtain ⟨aN,rfl⟩:∃ n:Nat,a=n:=⟨a.toNat,by omega⟩
 obtain ⟨fN,rfl⟩:∃ n:Nat,f=n:=⟨f.toNat,by omega⟩
 obtain ⟨bN,rfl⟩:∃ n:Nat,b=n:=⟨b.toNat,by omega⟩
 obtain ⟨mv,rfl,hM⟩:=hd
 obtain ⟨A,c,rfl,hlc,hcm,hlm,hel⟩:=SliceOf.open hM
 refine n5s (R:=retR _) ?_;unfold n5
 rw [op_boxA]
 generalize hA0:World.alloc w0 _=W
 have eW:Ext w0 W:=by rw [← hA0];exact ee
 have o4:W.heap[w0.heap.size]?=some (.cells (defCells d (.slice A d.msgs.length c)).toArray 24 (0,0)):=by rw [← hA0];exact heap_new _ _ _
 clear hA0
 have h4:w0.heap.size≤w0.heap.size:=Nat.le_refl _
 generalize hp4:w0.heap.size=p4 at o4 ⊢
 have stop:∀ w',Ext w0 w'→callK Pg 32 #[] (panK (retR fun r w'=>r = .bool true∧Ext w0 w')) w' fun t w=>(retR fun r w'=>r = .bool true∧Ext w0 w') (.returned t) w:=by
  intro w' e'
  refine zcr (known08_ret _) fun w1 e1=>?_
  exact ⟨_,rfl,rfl,e'.trans e1⟩
 simp (disch:=try exact DI) only [↓PR,QR,simprocAttr,(cells_of_heap o4).1]
 refine callK_ret (fits08_ret _ _ d ⟨_,rfl,hM.ext eW⟩ hsm) ?_
 rintro _ w1 ⟨b,rfl,hfit,e1⟩
 have E1:=eW.trans e1
 unfold n5c60
 cases b with
 | false =>
  simp (disch:=try exact DI) only [↓PR,QR,simprocAttr,↓n5c59,↓n5c58]
  exact stop _ E1
 | true =>
 have ht:=fits_calm (hfit rfl)
 have htm:=fits_tame (hfit rfl)
 by_cases hz:d.msgs.length=0
 · have d1:((d.msgs.length:Int) == 0)=true:=by simp;exact List.eq_nil_of_length_eq_zero hz
   simp (disch:=try exact DI) only [↓PR,QR,simprocAttr,d1,↓n5c59,↓n5c58]
   exact stop _ E1
 have d1:((d.msgs.length:Int) == 0)=false:=by simp;intro h;apply hz;rw [h];rfl
 by_cases hten:(10:Int) < (d.msgs.length:Int)
 · have d2:decide ((d.msgs.length:Int) > 10)=true:=decide_eq_true hten
   simp (disch:=try exact DI) only [↓PR,QR,simprocAttr,d1,d2,↓n5c59,↓n5c58]
   exact stop _ E1
 have d2:decide ((d.msgs.length:Int) > 10)=false:=decide_eq_false hten
 simp (disch:=try exact DI) only [↓PR,QR,simprocAttr,d1,d2,↓n5c59,↓n5c58,(cells_of_heap (e1.obj o4)).1]
 refine zcr (Valid_ret' _ d ⟨_,rfl,hM.ext E1⟩ ht) fun w2 e2=>?_
 have f2:=e1.trans e2
 have E2:=E1.trans e2
 by_cases hc:(checkP d).2.2=0
 case neg =>
  have hfb:flawedB d=true:=by unfold flawedB;simp [hc]
  rw [hfb]
  simp (disch:=try exact DI) only [↓PR,QR,simprocAttr,d2]
  exact stop _ E2
 have hfb:flawedB d=false:=by unfold flawedB;simp [hc]
 rw [hfb]
 have hrem:(IntKind.i64.wrap (aN:Int)).tmod (d.msgs.length:Int)=((aN % d.msgs.length:Nat):Int):=by
  rw [wrap_ok (by omega) (by omega)];exact (Int.ofNat_tmod aN d.msgs.length).symm
 have hlt:aN % d.msgs.length < d.msgs.length:=Nat.mod_lt _ (by omega)
 have hne0:(d.msgs.length:Int)≠0:=by omega
 generalize aN % d.msgs.length=k at hrem hlt
 obtain ⟨m,hm⟩:=getElem?_lt hlt
 obtain ⟨bb,oo,cs,rfl,hlcs,hEA,fv,rfl,hF⟩:=hel k m hm
 obtain ⟨A2,c2,rfl,hlc2,hcm2,hlm2,hel2⟩:=SliceOf.open hF
 obtain ⟨_,_,⟨hn0,hn40⟩,_,_⟩:=next_parts ((check_fine hc).2.2.1.next hm)
 simp (disch:=try exact DI) only [↓PR,QR,simprocAttr,d2,↓n5c57,hrem,(cells_of_heap (f2.obj o4)).1,(hEA.c2 E2).1,(hEA.c2 E2).2]
 generalize hA0:World.setCell (World.setCell (World.alloc w2 _) _ _) _ _=W2
 have e3:Ext w2 W2:=by rw [← hA0];exact ee
 have o11:W2.heap[w2.heap.size]?=some (.cells #[.string m.name,.slice A2 m.fields.length c2] TM (0,0)):=by
  rw [← hA0]
  have:=heap_set (o:=1) (heap_set (o:=0) (heap_new w2 #[.string ByteArray.empty,.slice none 0 0] TM) (.string m.name)) (.slice A2 m.fields.length c2)
  simpa using this
 clear hA0
 by_cases h40:(m.fields.length:Int)≥40
 · have d3:decide ((m.fields.length:Int)≥40)=true:=decide_eq_true h40
   simp (disch:=try exact DI) only [↓PR,QR,simprocAttr,d3]
   exact stop _ (E2.trans e3)
 have d3:decide ((m.fields.length:Int)≥40)=false:=decide_eq_false h40
 simp (disch:=try exact DI) only [↓PR,QR,simprocAttr,d3,hrem]
 refine drawK_intro ?_
 have eD:Ext W2 W2.drew:=(Ext.refl _).wdrew
 have f3:=f2.trans (e3.trans eD)
 have E3:=eW.trans f3
 have q11:=eD.obj o11
 have q4:=f3.obj o4
 have s11:=(Array.getElem?_eq_some_iff.1 q11).1
 generalize w2.heap.size=p11 at q11 s11 ⊢
 show n5c56 _ _ _ _ _ (.int .i64 ((IntKind.i64.wrap (aN:Int)).tmod (d.msgs.length:Int))) (EC W2.drew) _ W2.drew
 rw [hrem]
 unfold n5c56
 simp (disch:=try exact DI) only [↓PR,QR,simprocAttr,(cells_of_heap q4).1]
 have hMV:=hM.ext E3
 rw [show W2.heap.size=W2.drew.heap.size by simp only [World.size_drew]]
 generalize W2.drew=V at *
 have r0:RSt V V d [] []:=⟨Ext.refl _,fun x hx=>(by cases hx),fun x hx=>(by cases hx),List.Pairwise.nil,fun x hx=>(by cases hx)⟩
 have eV:Ext V (V.alloc (.cells zeroD 24)):=ee
 have ra:=RSt.alc r0 (Nat.le_refl _) (by simp only [World.size_alloc];omega) eV (heap_new V zeroD 24)
 have hK:RgEnd V d (fun t12 t13 t14 w=>drawK w fun C6 w=>n5c29 (.int .u8 (fN:Int)) (.int .u8 (bN:Int)) (.pointer (some ⟨p4,0,none⟩)) (.pointer (some ⟨p11,0,none⟩)) t12 t13 t14 (.int .i64 (d.msgs.length:Int)) (.int .i64 (k:Int)) C6 (retR fun r w'=>r = .bool true∧Ext w0 w') w) (retR fun r w'=>r = .bool true∧Ext w0 w'):=by
  intro w m1 m2 m3 l1 h1 l2 h2 l3 h3 p12 p13 p14 ps r q12 q13 q14 n1 n2 n3
  refine reg_st3 r q12 q13 q14 n1 n2 n3 ?_
  intro w' e' hs A1 A2 A3 u12 u13 u14
  obtain ⟨a1,a2,a3,_⟩:=r.cps (m1,l1,h1) (by simp)
  obtain ⟨b1,b2,b3,_⟩:=r.cps (m2,l2,h2) (by simp)
  obtain ⟨c1,c2,c3,_⟩:=r.cps (m3,l3,h3) (by simp)
  have g14:=(r.cls p14 q14).1
  have hcc:=r.cc
  simp only [List.pairwise_cons,List.mem_cons,List.not_mem_nil,or_false,forall_eq_or_imp,forall_eq] at hcc
  have s0:=E3.size
  dsimp only at a1 a2 a3 b1 b2 b3 c1 c2 c3
  exact grow_same (by omega) (by omega) hm (by omega) hc ht (by omega) (by omega) hM (e'.obj q4) u12 A1 u13 A2 (by omega) (by omega) a1 hcc.1.1 b1 hcc.2.1 (by omega) c1 (by omega) A3.toN (by omega) (E3.trans e') (e'.obj q11) (by omega) hF u14
 refine ⟨reg_cpyA hMV htm (Ext.refl _) fun m1 l1 h1 w g1 g2 g3 e hN=>rg_c48 hMV htm hK (RSt.copy r0 g1 g2 g3 e hN),⟨eV,rg_c52 hMV htm hK ra (RSt.mem ra)⟩,⟨eV,rg_c54 hMV htm hK ra (RSt.mem ra)⟩,⟨eV,rg_c55 hMV htm hK ra (RSt.mem ra)⟩⟩
end Go.Proofs.YtdfhjlggcdemhaaGreat
namespace Go.Proofs.YtdfhjlggcdemhaaGreat
open Sw
open Go.ChangeShapes Go.WideShapes Go.RowKit Go.ChangeAt Go.Deep
theorem sgrows_own:ownKnob Pg.godebug=none:=by kernel_rfl
theorem sgrows_laidOut:laidOutB Pg=true:=by kernel_rfl
theorem sgrows_lifted (os:Os) (started:os.Started) (H:Type) (enc:TypeId×Value→H) :
 ReturnsInHanded {} Tryz.checked os 13 .any (Rows.spanGrowsSpec.pre6 enc Pg Tryz.f13 Rows.spanGrowsRow.domain false) (Rows.spanGrowsSpec.post enc Pg Tryz.f13 false true false false):=by
 refine returnsInHanded_of_change_sized (C:=Tryz.checked) sgrows_own started (by kernel_rfl) Tryz.func13
  (ChangeSpec.witness6 (enc:=enc) (C:=Tryz.checked) false ⟨#[],#[.agg #[.string ByteArray.empty,.slice none 0 0,.string ByteArray.empty],.int .u8 0,.int .u8 0,.int .u8 0],[]⟩ 8 (by kernel_rfl) (by kernel_rfl) (by kernel_rfl) (by kernel_rfl)) ?_
 intro W base args ds gs before hval hW _ hsz _
 have hW':=hW
 obtain ⟨p,q,hA0,hV,rfl,_,_⟩:=hW
 have hA:DataW.TrodAll enc Pg W 0 (fun _=>true) true Tryz.f13.params.toList args.toList ds p:=hA0
 rw [Tryz.params13] at hA hval hsz
 obtain ⟨v0,vs0,d0,ds0,p0,q0,ha0,rfl,rfl,h0,r0⟩:=trodAll_cons hA
 obtain ⟨v1,vs1,d1,ds1,p1,q1,ha1,rfl,rfl,h1,r1⟩:=trodAll_cons r0
 obtain ⟨v2,vs2,d2,ds2,p2,q2,ha2,rfl,rfl,h2,r2⟩:=trodAll_cons r1
 obtain ⟨v3,vs3,d3,ds3,p3,q3,ha3,rfl,rfl,h3,r3⟩:=trodAll_cons r2
 obtain ⟨rfl,rfl,rfl⟩:=trodAll_nil r3
 subst ha3 ha2 ha1
 obtain rfl:args = #[v0,v1,v2,v3]:=by cases args;simp_all
 obtain ⟨f0,hf0,hs0⟩:=def_val (hval 0 _ v0 rfl rfl) h0 (reached_of (j:=0) hsz rfl rfl)
 obtain ⟨n1,rfl,_,_,hw1⟩:=open_int Tryz.underlying5 (hval 1 _ v1 rfl rfl) h1
 obtain ⟨n2,rfl,_,_,hw2⟩:=open_int Tryz.underlying5 (hval 2 _ v2 rfl rfl) h2
 obtain ⟨n3,rfl,_,_,hw3⟩:=open_int Tryz.underlying5 (hval 3 _ v3 rfl rfl) h3
 refine Calls.mono (SpanGrows_ret W v0 f0 n1 n2 n3 hf0 hs0 hw1 hw2 hw3) fun e W' ⟨v,he,hv,hx⟩=>?_
 subst he hv
 exact ⟨_,rfl,law_post sgrows_laidOut (by decide +kernel) rfl hW' hx rfl Tryz.underlying4 rfl rfl rfl⟩
theorem sgrows_holds:Rows.SpanGrowsSaid :=
 OpenClaim.holds_of_wide 13 Tryz.f13 rfl rfl rfl rfl rfl rfl rfl ⟨rfl,rfl,rfl,rfl,rfl⟩ rfl rfl rfl rfl rfl (by kernel_rfl) Tryz.func13 (by kernel_rfl)
  (of_decide_eq_true (by kernel_rfl)) (by unfold Func.isWrapper;first | (rw [if_pos (by decide +kernel)];kernel_rfl) | (rw [if_neg (by decide +kernel)];exact ⟨rfl,rfl⟩))
  (fun os started H enc _=>sgrows_lifted os started H enc)
end Go.Proofs.YtdfhjlggcdemhaaGreat
