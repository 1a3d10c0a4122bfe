/-
  phrasebooklaw07.ScopeHolds returns true for every definition, and leaves its arguments as they were; no condition is asked.
-/
import Derived.Test.YtfjjgjjlebllmaaGreatQt5
set_option linter.all false
set_option maxHeartbeats 4000000
set_option maxRecDepth 100000
namespace Go.Proofs.YtfjjgjjlebllmaaGreat
open Sw
open Go.RowKit (intOf Below)
theorem EqualFunc_Field_ret (w0:World) (v u:Value) (l m:List FieldD) (g:FuncId) (hl:FieldsOf w0 v l) (hm:FieldsOf w0 u m) (hg:Callable Pg g)
 (hc:∀ w v u x y,Ext w0 w→FieldVal w v x→FieldVal w u y→Ret Pg g #[v,u] w fun r w'=>r = .bool (decide (x=y))∧Ext w w') :
 Ret Pg 65 #[v,u,.func (.func g) #[] #[]] w0 fun r w'=>r = .bool (decide (l=m))∧Ext w0 w':=by
 obtain ⟨A,c,rfl,hlc,hcm,hlm,hel⟩:=SliceOf.open hl
 obtain ⟨A',c',rfl,hlc',hcm',hlm',hel'⟩:=SliceOf.open hm
 refine n112s (R:=retR _) ?_;unfold n112
 simp (disch:=try exact DI) only [↓PR,QR,simprocAttr]
 by_cases hlen:l.length=m.length
 · have hne:((l.length:Int) != (m.length:Int))=false:=by simp [hlen]
   simp (disch:=try exact DI) only [↓PR,QR,simprocAttr,↓n112c1,↓n112c2,↓n112c3,hne]
   refine loop1_intro (fun a0 w=>∃ (k:Nat) , a0 = .int .i64 (k:Int)∧k≤l.length∧Ext w0 w∧l.take k=m.take k) (fun a0 _=>l.length - (intOf a0).toNat) ⟨0,rfl,Nat.zero_le _,ee,rfl⟩ ?_
   rintro _ w ⟨k,rfl,hk,e,hI⟩
   have se:=e.size
   rcases drop_cases hk with ⟨x,hx,hd,hlt,hdec⟩ | ⟨hk,hd,hdec⟩
   · obtain ⟨b,o,cs,rfl,_,hA,hE1⟩:=hel k x hx
     obtain ⟨y,hy⟩:=getElem?_lt (l:=m) (k:=k) (by omega)
     obtain ⟨b',o',cs',rfl,_,hA',hE2⟩:=hel' k y hy
     have hlt':k < m.length:=by omega
     obtain ⟨tv1,cv1,rfl,hT1,hC1,ht1,hc1⟩:=hE1.op
     obtain ⟨tv2,cv2,rfl,hT2,hC2,ht2,hc2⟩:=hE2.op
     have ea:∀ o,Ext w0 (w.alloc o):=fun o=>e.alloc o
     have e1:=ea (.cells (fieldCells x tv1 cv1).toArray 48)
     simp (disch:=try exact DI) only [↓PR,QR,simprocAttr,↓n112c1,↓n112c2,↓n112c3,hdec,hA.c15,hA'.c15]
     generalize hW:World.alloc (World.alloc w _) _=W
     have e2:Ext w0 W:=by rw [← hW];exact ee
     clear hW
     rw [callV_func hg]
     refine zcr (hc W _ _ x y e2 ⟨tv1,cv1,rfl,TermsOf.ext hT1 e2,CasesOf.ext hC1 e2⟩ ⟨tv2,cv2,rfl,TermsOf.ext hT2 e2,CasesOf.ext hC2 e2⟩) fun w1 e3=>?_
     by_cases hxy:x=y
     · subst hxy
       simp only [decide_true]
       simp (disch:=try exact DI) only [↓PR,QR,simprocAttr,↓n112c1,↓n112c2,↓n112c3]
       exact ⟨⟨k+1,rfl,by omega,ee,by rw [List.take_add_one,List.take_add_one,hx,hy,hI]⟩,meas_lt (kd := .i64) hlt⟩
     · simp only [hxy,decide_false]
       simp (disch:=try exact DI) only [↓PR,QR,simprocAttr,↓n112c1,↓n112c2,↓n112c3]
       have hne':¬ l=m:=by
        rintro rfl
        rw [hx] at hy
        injection hy with hy
        exact hxy hy
       exact ⟨by simp [hne'],e2.trans e3⟩
   · subst hk
     simp (disch:=try exact DI) only [↓PR,QR,simprocAttr,↓n112c1,↓n112c2,↓n112c3,hdec]
     rw [List.take_length,hlen,List.take_length] at hI
     exact ⟨by simp [hI],e⟩
 · have hne:((l.length:Int) != (m.length:Int))=true:=by simp;omega
   simp (disch:=try exact DI) only [↓PR,QR,simprocAttr,↓n112c1,↓n112c2,↓n112c3,hne]
   have hne':¬ l=m:=fun h=>hlen (by rw [h])
   exact ⟨by simp [hne'],Ext.refl _⟩
theorem EqualFunc_Message_ret (w0:World) (v u:Value) (l m:List MsgD) (g:FuncId) (hl:MsgsOf w0 v l) (hm:MsgsOf w0 u m) (hg:Callable Pg g)
 (hc:∀ w v u x y,Ext w0 w→MsgVal w v x→MsgVal w u y→Ret Pg g #[v,u] w fun r w'=>r = .bool (decide (x=y))∧Ext w w') :
 Ret Pg 63 #[v,u,.func (.func g) #[] #[]] w0 fun r w'=>r = .bool (decide (l=m))∧Ext w0 w':=by
 obtain ⟨A,c,rfl,hlc,hcm,hlm,hel⟩:=SliceOf.open hl
 obtain ⟨A',c',rfl,hlc',hcm',hlm',hel'⟩:=SliceOf.open hm
 refine n113s (R:=retR _) ?_;unfold n113
 simp (disch:=try exact DI) only [↓PR,QR,simprocAttr]
 by_cases hlen:l.length=m.length
 · have hne:((l.length:Int) != (m.length:Int))=false:=by simp [hlen]
   simp (disch:=try exact DI) only [↓PR,QR,simprocAttr,↓n113c1,↓n113c2,↓n113c3,hne]
   refine loop1_intro (fun a0 w=>∃ (k:Nat) , a0 = .int .i64 (k:Int)∧k≤l.length∧Ext w0 w∧l.take k=m.take k) (fun a0 _=>l.length - (intOf a0).toNat) ⟨0,rfl,Nat.zero_le _,ee,rfl⟩ ?_
   rintro _ w ⟨k,rfl,hk,e,hI⟩
   have se:=e.size
   rcases drop_cases hk with ⟨x,hx,hd,hlt,hdec⟩ | ⟨hk,hd,hdec⟩
   · obtain ⟨b,o,cs,rfl,_,hA,hE1⟩:=hel k x hx
     obtain ⟨y,hy⟩:=getElem?_lt (l:=m) (k:=k) (by omega)
     obtain ⟨b',o',cs',rfl,_,hA',hE2⟩:=hel' k y hy
     have hlt':k < m.length:=by omega
     obtain ⟨fv1,rfl,hF1⟩:=hE1
     have ht1:=SliceOf.oneCell hF1
     obtain ⟨fv2,rfl,hF2⟩:=hE2
     have ht2:=SliceOf.oneCell hF2
     have ea:∀ o,Ext w0 (w.alloc o):=fun o=>e.alloc o
     have e1:=ea (.cells (msgCells x fv1).toArray 24)
     simp (disch:=try exact DI) only [↓PR,QR,simprocAttr,↓n113c1,↓n113c2,↓n113c3,hdec,hA.c2,hA'.c2]
     generalize hW:World.alloc (World.alloc w _) _=W
     have e2:Ext w0 W:=by rw [← hW];exact ee
     clear hW
     rw [callV_func hg]
     refine zcr (hc W _ _ x y e2 ⟨fv1,rfl,FieldsOf.ext hF1 e2⟩ ⟨fv2,rfl,FieldsOf.ext hF2 e2⟩) fun w1 e3=>?_
     by_cases hxy:x=y
     · subst hxy
       simp only [decide_true]
       simp (disch:=try exact DI) only [↓PR,QR,simprocAttr,↓n113c1,↓n113c2,↓n113c3]
       exact ⟨⟨k+1,rfl,by omega,ee,by rw [List.take_add_one,List.take_add_one,hx,hy,hI]⟩,meas_lt (kd := .i64) hlt⟩
     · simp only [hxy,decide_false]
       simp (disch:=try exact DI) only [↓PR,QR,simprocAttr,↓n113c1,↓n113c2,↓n113c3]
       have hne':¬ l=m:=by
        rintro rfl
        rw [hx] at hy
        injection hy with hy
        exact hxy hy
       exact ⟨by simp [hne'],e2.trans e3⟩
   · subst hk
     simp (disch:=try exact DI) only [↓PR,QR,simprocAttr,↓n113c1,↓n113c2,↓n113c3,hdec]
     rw [List.take_length,hlen,List.take_length] at hI
     exact ⟨by simp [hI],e⟩
 · have hne:((l.length:Int) != (m.length:Int))=true:=by simp;omega
   simp (disch:=try exact DI) only [↓PR,QR,simprocAttr,↓n113c1,↓n113c2,↓n113c3,hne]
   have hne':¬ l=m:=fun h=>hlen (by rw [h])
   exact ⟨by simp [hne'],Ext.refl _⟩
theorem EqualS1_ret (w0:World) (v u:Value) (x y:MsgD) (hx:MsgVal w0 v x) (hy:MsgVal w0 u y):Ret Pg 64 #[v,u] w0 fun r w'=>r = .bool (decide (x=y))∧Ext w0 w':=by
 obtain ⟨fv,rfl,hF⟩:=hx
 obtain ⟨gv,rfl,hG⟩:=hy
 refine n14s (R:=retR _) ?_;unfold n14
 simp (disch:=try exact DI) only [↓PR,QR,simprocAttr,Sw.joinK_eq]
 generalize hW:World.alloc (World.alloc w0 _) _=W
 have e0:Ext w0 W:=by rw [← hW];exact ee
 have o3:W.heap[w0.heap.size]?=some (.cells #[.string x.name,fv] 24 (0,0)):=by rw [← hW];simp (disch:=try exact DI) only [↓PR,QR,simprocAttr]
 have o4:W.heap[w0.heap.size+1]?=some (.cells #[.string y.name,gv] 24 (0,0)):=by rw [← hW];simp (disch:=try exact DI) only [↓PR,QR,simprocAttr]
 clear hW
 by_cases hn:x.name=y.name
 · simp only [hn,decide_true]
   simp (disch:=try exact DI) only [↓PR,QR,simprocAttr,Sw.joinK_eq,(cells_of_heap o3).1,(cells_of_heap o4).1]
   refine zcr (EqualFunc_Field_ret W _ _ x.fields y.fields _ (FieldsOf.ext hF e0) (FieldsOf.ext hG e0) c66 (fun w v u a b _ hv hu=>sameField_ret w v u a b hv hu)) fun w1 e1=>?_
   simp (disch:=try exact DI) only [↓PR,QR,simprocAttr,Sw.joinK_eq]
   refine ⟨?_,e0.trans e1⟩
   congr 1
   rw [Bool.eq_iff_iff]
   simp only [decide_eq_true_eq]
   constructor
   · intro h;cases x;cases y;simp_all
   · rintro rfl;rfl
 · simp only [hn,decide_false]
   simp (disch:=try exact DI) only [↓PR,QR,simprocAttr,Sw.joinK_eq]
   have hne:¬ x=y:=by rintro rfl;exact hn rfl
   exact ⟨by simp [hne],by first | exact e0 | exact ee⟩
theorem Equal_ret (w0:World) (v u:Value) (x y:DefD) (hx:DefVal w0 v x) (hy:DefVal w0 u y):Ret Pg 30 #[v,u] w0 fun r w'=>r = .bool (decide (x=y))∧Ext w0 w':=by
 obtain ⟨fv,rfl,hF⟩:=hx
 obtain ⟨gv,rfl,hG⟩:=hy
 refine n13s (R:=retR _) ?_;unfold n13
 simp (disch:=try exact DI) only [↓PR,QR,simprocAttr,↓n13c1]
 generalize hW:World.alloc (World.alloc w0 _) _=W
 have e0:Ext w0 W:=by rw [← hW];exact ee
 have o3:W.heap[w0.heap.size]?=some (.cells #[.string x.name,fv,.string x.start] 28 (0,0)):=by rw [← hW];simp (disch:=try exact DI) only [↓PR,QR,simprocAttr]
 have o4:W.heap[w0.heap.size+1]?=some (.cells #[.string y.name,gv,.string y.start] 28 (0,0)):=by rw [← hW];simp (disch:=try exact DI) only [↓PR,QR,simprocAttr]
 clear hW
 by_cases hn:x.name=y.name∧x.start=y.start
 · obtain ⟨h1,h2⟩:=hn
   simp only [h1,h2,decide_true]
   simp (disch:=try exact DI) only [↓PR,QR,simprocAttr,↓n13c1,h1,h2,(cells_of_heap o3).1,(cells_of_heap o4).1]
   refine zcr (EqualFunc_Message_ret W _ _ x.msgs y.msgs _ (MsgsOf.ext hF e0) (MsgsOf.ext hG e0) c64 (fun w v u a b _ hv hu=>EqualS1_ret w v u a b hv hu)) fun w1 e1=>?_
   simp (disch:=try exact DI) only [↓PR,QR,simprocAttr,↓n13c1]
   refine ⟨?_,e0.trans e1⟩
   congr 1
   rw [Bool.eq_iff_iff]
   simp only [decide_eq_true_eq]
   constructor
   · intro h;cases x;cases y;simp_all
   · rintro rfl;rfl
 · have hf:(decide (x.name=y.name)&&decide (x.start=y.start))=false:=by
    rw [Bool.eq_false_iff]
    intro h
    simp at h
    exact hn h
   have hne:¬ x=y:=by rintro rfl;exact hn ⟨rfl,rfl⟩
   simp only [hf]
   simp (disch:=try exact DI) only [↓PR,QR,simprocAttr,↓n13c1,hf]
   exact ⟨by simp [hne],by first | exact e0 | exact ee⟩
theorem join_with {α:Type} {K:α} {f:α→Prop} (P:α→Prop) (hP:P K) (h:∀ K',P K'→f K'):joinK K f:=h K hP
theorem pick_sub {d:DefD} (hc:(checkP d).2.2=0):∀ m∈(pruneP d).msgs,m∈d.msgs:=fun m hm=>by
 rw [show pruneP d=_ from if_pos hc] at hm
 obtain ⟨i,_,hi⟩:=List.mem_filterMap.1 hm
 exact List.mem_of_getElem? hi
theorem prune_calm {d:DefD} (hc:(checkP d).2.2=0) (h:calm d):calm (pruneP d):=fun m hm=>h m (pick_sub hc m hm)
theorem prune_tame {d:DefD} (hc:(checkP d).2.2=0) (h:tame d):tame (pruneP d):=⟨by have:=(check_fine (prune_valid hc).1).2.1.2;omega,fun m hm=>h.2 m (pick_sub hc m hm)⟩
section
variable {w0 W:World} {d:DefD} {p1 p3:Nat} {A:Option Addr} {c:Nat} {mp:Value}
theorem hol_msgs {w:World} {ds:List Deferred} {R:RT} (e0:Ext w0 W) (hc:(checkP d).2.2=0) (ht:calm d) (hfw:∀ m∈d.msgs,fewM m) (hM:MsgsOf W (.slice A d.msgs.length c) d.msgs) (o1:W.heap[p1]?=some (.cells (defCells d (.slice A d.msgs.length c)).toArray 28 (0,0)))
 (hP:MsgsOf W mp (pruneP d).msgs) (o3:W.heap[p3]?=some (.cells (defCells (pruneP d) mp).toArray 28 (0,0))) (e:Ext W w) (hR:∀ w',Ext w0 w'→R (.returned (.bool true)) w') (hm:MarksU w0 w ds) :
 loopM2 (fun ds t2 t9 w next8=>n3c39 (.pointer (some ⟨p1,0,none⟩)) t2 (.pointer (some ⟨p3,0,none⟩)) t9 next8 ds R w) ds (.bool false) (.int .i64 0) w:=by
 have hM0:=hM
 have hm1:=SliceOf.oneCell hM
 obtain ⟨A2,c2,hAA,hlc,hcm,hlm,hel⟩:=SliceOf.open hM
 injection hAA with hAA _ hcc
 subst hAA hcc
 have hl60:=(check_fine hc).2.1.2
 refine loopM2_intro (fun ds a b w'=>∃ i:Nat,a = .bool false∧b = .int .i64 i∧i≤d.msgs.length∧Ext W w'∧MarksU w0 w' ds) (fun _ b _=>d.msgs.length - (intOf b).toNat) ⟨0,rfl,rfl,by omega,e,hm⟩ ?_
 rintro ds _ _ w1 ⟨i,rfl,rfl,hi,e1,hm1'⟩
 unfold n3c39
 rcases drop_cases hi with ⟨m,hx,_,hlt,hdec⟩ | ⟨hke,_,hdec⟩
 · obtain ⟨b,o,cs,rfl,_,hA,fv,rfl,hF⟩:=hel i m hx
   have hfv:=SliceOf.oneCell hF
   have hwi:IntKind.i64.wrap ((i:Int)+1)=((i+1:Nat):Int):=by rw [wrap_ok (by omega) (by omega)];omega
   simp (disch:=try exact DI) only [↓PR,QR,simprocAttr,(cells_of_heap (e1.obj o1)).1,hdec]
   unfold n3c38
   refine join_with (fun K9=>∀ w' ds',Ext W w'→MarksU w0 w' ds'→K9 ds' (.bool false) w') (fun w' ds' e' h'=>?_) (fun K9 hK=>?_)
   · simp (disch:=try exact DI) only [↓PR,QR,simprocAttr,hwi]
     exact ⟨⟨i+1,by trivial,rfl,by omega,e',h'⟩,meas_lt (kd := .i64) hlt⟩
   · have hcA:∀ O o',(w1.alloc O).cell? ⟨p1,o',none⟩=(defCells d (.slice (some ⟨b,o,none⟩) d.msgs.length c)).toArray[o']?:=fun O o'=>(cells_of_heap ((Ext.alloc (Ext.refl w1) O).obj (e1.obj o1))).1 o'
     simp (disch:=try exact DI) only [↓PR,QR,simprocAttr,(cells_of_heap (e1.obj o1)).1,hA.c2 e1]
     have eX:Ext w1 (w1.alloc (.cells (msgCells m fv).toArray 24)):=ee
     have oX:=heap_new w1 (msgCells m fv).toArray 24
     change loop3 _ _ _ _ (w1.alloc (.cells (msgCells m fv).toArray 24))
     generalize (w1.alloc (.cells (msgCells m fv).toArray 24))=X at eX oX ⊢
     generalize w1.heap.size=p10 at oX ⊢
     have e2:=e1.trans eX
     refine hol_fields (W:=X) (Ext.refl _) oX (hF.ext e2) (hfw m (List.mem_of_getElem? hx)) fun w' e'=>?_
     refine hol_path (W:=X) (e0.trans e2) hc ht (hM0.ext e2) (e2.obj o1) (hP.ext e2) (e2.obj o3) hx oX e' ((hm1'.ext eX).ext e') fun w'' ds' e'' h''=>hK w'' ds' (e2.trans e'') h''
 · subst hke
   simp (disch:=try exact DI) only [↓PR,QR,simprocAttr,(cells_of_heap (e1.obj o1)).1,hdec]
   refine zcr (known_ret _) fun w2 e2=>?_
   exact (hm1'.ext e2).out (e0.trans (e1.trans e2)) true hR
end
theorem ScopeHolds_ret (w0:World) (v:Value) (d:DefD) (hd:DefVal w0 v d) (hs:DefSm d):Ret Pg 8 #[v] w0 fun r w'=>r = .bool true∧Ext w0 w':=by
 obtain ⟨mv,rfl,hM⟩:=hd
 have hm1:=SliceOf.oneCell hM
 have hM0:=hM
 obtain ⟨A,c,rfl,hlc,hcm,hlm,hel⟩:=SliceOf.open hM
 refine n3s (R:=retR _) ?_;unfold n3
 dsimp only
 rw [op_boxA]
 have o1:=heap_new w0 (defCells d (.slice A d.msgs.length c)).toArray 28
 have eW:Ext w0 (w0.alloc (.cells (defCells d (.slice A d.msgs.length c)).toArray 28)):=ee
 generalize (w0.alloc (.cells (defCells d (.slice A d.msgs.length c)).toArray 28))=W at o1 eW ⊢
 generalize hp1:w0.heap.size=p1 at o1 ⊢
 have hD:∀ w,Ext W w→DefVal w (.agg (defCells d (.slice A d.msgs.length c)).toArray) d:=fun w e=>⟨_,rfl,hM0.ext (eW.trans e)⟩
 simp (disch:=try exact DI) only [↓PR,QR,simprocAttr,(cells_of_heap o1).1]
 refine callK_ret (fits_ret _ _ d (hD _ (Ext.refl _)) hs) ?_
 rintro _ w1 ⟨b,rfl,hfit,e1⟩
 unfold n3c51
 have kn:∀ w,Ext W w→callK Pg 11 #[] (outQ Pg [] [(none,.bool false)] (retR fun r w'=>r = .bool true∧Ext w0 w')) w fun t45 w=>outX Pg [] [(none,t45)] (retR fun r w'=>r = .bool true∧Ext w0 w') w:=by
  intro w e
  refine zcr (known_ret _) fun w2 e2=>?_
  simp (disch:=try exact DI) only [↓PR,QR,simprocAttr,outX_nil,retV,resOne]
  exact ⟨trivial,eW.trans (e.trans e2)⟩
 cases b with
 | false =>
  simp (disch:=try exact DI) only [↓PR,QR,simprocAttr,↓n3c50,↓n3c49]
  exact kn _ e1
 | true =>
 have hfitd:=hfit rfl
 have ht:=fits_calm hfitd
 have htm:=fits_tame hfitd
 have hfw:∀ m∈d.msgs,fewM m:=fun m hm=>⟨(htm.2 m hm).1,fun f hf=>((htm.2 m hm).2 f hf).1⟩
 by_cases hten:(d.msgs.length:Int) > 10
 · have h10:decide ((d.msgs.length:Int) > 10)=true:=decide_eq_true hten
   simp (disch:=try exact DI) only [↓PR,QR,simprocAttr,(cells_of_heap (e1.obj o1)).1,h10,↓n3c50,↓n3c49]
   exact kn _ e1
 have h10:decide ((d.msgs.length:Int) > 10)=false:=decide_eq_false hten
 simp (disch:=try exact DI) only [↓PR,QR,simprocAttr,(cells_of_heap (e1.obj o1)).1,h10,↓n3c50]
 refine zcr (Valid_ret' _ d (hD _ e1) ht) fun w2 e2=>?_
 have f2:=e1.trans e2
 by_cases hc:(checkP d).2.2=0
 case neg =>
  rw [show flawedB d=true by unfold flawedB;simp [hc]]
  simp (disch:=try exact DI) only [↓PR,QR,simprocAttr,↓n3c49]
  exact kn _ f2
 rw [show flawedB d=false by unfold flawedB;simp [hc]]
 obtain ⟨hcP,_⟩:=prune_valid hc
 obtain ⟨hag,hun⟩:=prune_again hc
 simp (disch:=try exact DI) only [↓PR,QR,simprocAttr,↓n3c49,↓n3c48,(cells_of_heap (f2.obj o1)).1]
 refine callK_ret (Prune_ret _ _ d (hD _ f2) ht htm) ?_
 rintro _ w3 ⟨⟨u3,rfl,mp,rfl,hN⟩,e3⟩
 have f3:=f2.trans e3
 have hPM:MsgsOf w3 mp (pruneP d).msgs:=hN.plain
 have hmp:=SliceOf.oneCell hPM
 rw [show errD d=0 from if_pos hc]
 unfold n3c47
 have hcY:∀ o,(w3.alloc (.cells (defCells (pruneP d) mp).toArray 28)).cell? ⟨w3.heap.size,o,none⟩=(defCells (pruneP d) mp).toArray[o]?:=(cells_of_heap (heap_new w3 _ _)).1
 simp (disch:=try exact DI) only [↓PR,QR,simprocAttr,hcY]
 have eY:Ext w3 (w3.alloc (.cells (defCells (pruneP d) mp).toArray 28)):=ee
 have oY:=heap_new w3 (defCells (pruneP d) mp).toArray 28
 change callK _ _ _ _ (w3.alloc (.cells (defCells (pruneP d) mp).toArray 28)) _
 generalize (w3.alloc (.cells (defCells (pruneP d) mp).toArray 28))=Y at eY oY ⊢
 generalize w3.heap.size=p3 at oY ⊢
 have f4:=f3.trans eY
 have hP:∀ w,Ext Y w→DefVal w (.agg (defCells (pruneP d) mp).toArray) (pruneP d):=fun w e=>⟨_,rfl,hPM.ext (eY.trans e)⟩
 have hcm2:=prune_calm hc ht
 have htm2:=prune_tame hc htm
 refine callK_ret (Prune_ret _ _ (pruneP d) (hP _ (Ext.refl _)) hcm2 htm2) ?_
 rintro _ w4 ⟨⟨u4,rfl,mq,rfl,hN4⟩,e4⟩
 rw [show errD (pruneP d)=0 from if_pos hcP,hag]
 rw [hag] at hN4
 have hQM:MsgsOf w4 mq (pruneP d).msgs:=hN4.plain
 have hmq:=SliceOf.oneCell hQM
 have f5:=f4.trans e4
 unfold n3c46
 have hcZ:∀ O o,(w4.alloc O).cell? ⟨p3,o,none⟩=(defCells (pruneP d) mp).toArray[o]?:=fun O o=>(cells_of_heap ((Ext.alloc (Ext.refl w4) O).obj (e4.obj oY))).1 o
 simp (disch:=try exact DI) only [↓PR,QR,simprocAttr,hcZ]
 have eZ:Ext w4 (w4.alloc (.cells (defCells (pruneP d) mq).toArray 28)):=ee
 have oZ:=heap_new w4 (defCells (pruneP d) mq).toArray 28
 change callK _ _ _ _ (w4.alloc (.cells (defCells (pruneP d) mq).toArray 28)) _
 generalize (w4.alloc (.cells (defCells (pruneP d) mq).toArray 28))=Z at eZ oZ ⊢
 generalize w4.heap.size=p5 at oZ ⊢
 have f6:=f5.trans eZ
 have g6:=e4.trans eZ
 have hQ:∀ w,Ext Z w→DefVal w (.agg (defCells (pruneP d) mq).toArray) (pruneP d):=fun w e=>⟨_,rfl,hQM.ext (eZ.trans e)⟩
 refine callK_ret (Unused_ret _ _ (pruneP d) (hP _ g6) hcm2) ?_
 rintro _ w5 ⟨⟨u5,rfl,hU5⟩,e5⟩
 rw [show errD (pruneP d)=0 from if_pos hcP]
 rw [hun] at hU5
 have hu5:=hU5.ints
 obtain ⟨A5,c5,rfl,_,_,_,_⟩:=SliceOf.open hu5
 have f7:=f6.trans e5
 have g7:=g6.trans e5
 simp (disch:=try exact DI) only [↓PR,QR,simprocAttr,↓n3c45,↓n3c44,↓n3c43,(cells_of_heap (g7.obj oY)).1]
 refine zcr (Valid_ret' _ (pruneP d) (hP _ g7) hcm2) fun w6 e6=>?_
 have f8:=f7.trans e6
 have g8:=g7.trans e6
 rw [show flawedB (pruneP d)=false by unfold flawedB;simp [hcP]]
 simp (disch:=try exact DI) only [↓PR,QR,simprocAttr,↓n3c42,(cells_of_heap (g8.obj oY)).1,(cells_of_heap ((e5.trans e6).obj oZ)).1]
 refine zcr (Equal_ret _ _ _ (pruneP d) (pruneP d) (hP _ g8) (hQ _ (e5.trans e6))) fun w7 e7=>?_
 have f9:=f8.trans e7
 have g9:=g8.trans e7
 have hz:(((([]:List Int).length:Nat):Int) != 0)=false:=by decide
 rw [decide_eq_true rfl]
 simp (disch:=try exact DI) only [↓PR,QR,simprocAttr,↓n3c41,hz,↓n3c40]
 exact hol_msgs (w0:=w0) (W:=w7) (mp:=mp) (eW.trans f9) hc ht hfw (hM0.ext (eW.trans f9)) (f9.obj o1) (hPM.ext (eY.trans g9)) (g9.obj oY) (Ext.refl _) (fun w' e'=>⟨_,rfl,rfl,e'⟩) (MarksU.nil _ _)
end Go.Proofs.YtfjjgjjlebllmaaGreat
namespace Go.Proofs.YtfjjgjjlebllmaaGreat
open Sw
open Go.ChangeShapes Go.WideShapes Go.RowKit Go.ChangeAt Go.Deep
theorem scholds_own:ownKnob Pg.godebug=none:=by kernel_rfl
theorem scholds_laidOut:laidOutB Pg=true:=by kernel_rfl
theorem scholds_lifted (os:Os) (started:os.Started) (H:Type) (enc:TypeId×Value→H) :
 ReturnsInHanded {} Tryz.checked os 8 .any (Rows.scopeHoldsSpec.pre6 enc Pg Tryz.f8 Rows.scopeHoldsRow.domain false) (Rows.scopeHoldsSpec.post enc Pg Tryz.f8 false true false false):=by
 refine returnsInHanded_of_change_sized (C:=Tryz.checked) scholds_own started (by kernel_rfl) Tryz.func8
  (ChangeSpec.witness6 (enc:=enc) (C:=Tryz.checked) false ⟨#[],#[.agg #[.string ByteArray.empty,.slice none 0 0,.string ByteArray.empty]],[]⟩ 8 (by kernel_rfl) (by kernel_rfl) (by kernel_rfl) (by kernel_rfl)) ?_
 intro W base args ds gs before hval hW _ hsz _
 have hW':=hW
 obtain ⟨p,q,hA0,hV,rfl,_,_⟩:=hW
 have hA:DataW.TrodAll enc Pg W 0 (fun _=>true) true Tryz.f8.params.toList args.toList ds p:=hA0
 rw [Tryz.params8] at hA hval hsz
 obtain ⟨v0,vs0,d0,ds0,p0,q0,ha0,rfl,rfl,h0,r0⟩:=trodAll_cons hA
 obtain ⟨rfl,rfl,rfl⟩:=trodAll_nil r0
 obtain rfl:args = #[v0]:=by cases args;simp_all
 obtain ⟨f0,hf0,hs0⟩:=def_val (hval 0 _ v0 rfl rfl) h0 (reached_of (j:=0) hsz rfl rfl)
 refine Calls.mono (ScopeHolds_ret W v0 f0 hf0 hs0) fun e W' ⟨v,he,hv,hx⟩=>?_
 subst he hv
 exact ⟨_,rfl,law_post scholds_laidOut (by decide +kernel) rfl hW' hx rfl Tryz.underlying4 rfl rfl rfl⟩
theorem scholds_holds:Rows.ScopeHoldsSaid :=
 OpenClaim.holds_of_wide 8 Tryz.f8 rfl rfl rfl rfl rfl rfl rfl ⟨rfl,rfl,rfl,rfl,rfl⟩ rfl rfl rfl rfl rfl (by kernel_rfl) Tryz.func8 (by kernel_rfl)
  (of_decide_eq_true (by kernel_rfl)) (by unfold Func.isWrapper;first | (rw [if_pos (by decide +kernel)];kernel_rfl) | (rw [if_neg (by decide +kernel)];exact ⟨rfl,rfl⟩))
  (fun os started H enc _=>scholds_lifted os started H enc)
end Go.Proofs.YtfjjgjjlebllmaaGreat
