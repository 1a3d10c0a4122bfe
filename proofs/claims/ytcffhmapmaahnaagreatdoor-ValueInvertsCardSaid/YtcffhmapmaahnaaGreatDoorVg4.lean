/-
  Lemmas for the claim.
-/
import Derived.Test.YtcffhmapmaahnaaGreatDoorVg3
set_option linter.all false
set_option maxHeartbeats 4000000
set_option maxRecDepth 100000
namespace Go.Proofs.YtcffhmapmaahnaaGreatDoor
open Sw
open Go.RowKit (intOf Below)
def joinQ:List (List UInt8)→List UInt8
 | []=>[]
 | a::l=>40::(a++l.flatMap (fun x=>32::x))
theorem joinQ_snoc (L:List (List UInt8)) (x:List UInt8):joinQ (L++[x])=joinQ L++((if L=[] then 40 else 32)::x):=by
 cases L with
 | nil=>simp [joinQ]
 | cons a l=>simp [joinQ,List.flatMap_append]
theorem joinP_Q (L:List (List UInt8)):joinP L=joinQ L++(if L=[] then [] else [41]):=by
 cases L with
 | nil=>rfl
 | cons a l=>simp [joinP,joinQ]
theorem joinQ_take (L:List (List UInt8)) (k:Nat):(joinQ (L.take k)).length≤(joinQ L).length:=by
 cases k with
 | zero=>simp [joinQ]
 | succ k =>
  cases L with
  | nil=>simp [joinQ]
  | cons a l =>
   rw [List.take_succ_cons]
   unfold joinQ
   rw [List.length_cons,List.length_cons,List.length_append,List.length_append]
   have:((l.take k).flatMap (fun x=>32::x)).length≤(l.flatMap (fun x=>32::x)).length:=by
    rw [← List.take_append_drop k l,List.flatMap_append,List.length_append,List.take_append_drop]
    exact Nat.le_add_right _ _
   omega
theorem qT_struct {X:World} {base b:Nat} {k:Value→Prop} {cs:List Value} (hl:cs.length=5) (hc:X.heap[b]?=some (.cells cs.toArray 26 (0,0))):qV Pg (KT X base) (Instr.loadAt 26 (.pointer (some ⟨b,0,none⟩))) k=k (.agg cs.toArray) :=
 qV_eqC fun w' e=>run_of_op (P:=Pg) (w:=w') (s:=Instr.loadAt 26 (.pointer (some ⟨b,0,none⟩))) (v := .agg cs.toArray) (fun QP k=>op_load (ElemAt.loads (w:=w') (b:=b) (o:=0) (fun j v hv=>by rw [(cells_of_heap (Wr.obj e hc (by decide))).1,Nat.zero_add];simpa using hv) ty26 hl))
structure WrC (A X:World) (base p:Nat) (n:Nd) (ps:List Tr) (bv hv pv:Value):Prop where
 box:X.heap[p]?=some (.cells #[.string n.name,.int .i64 n.int,bv,hv,pv] 26 (0,0))
 eA:Ext A X
 lo:A.heap.size≤base
 hi:base≤X.heap.size
 tab:TabOK A
 hB:BytesOf A bv n.bytes
 hH:HdrsOf A hv n.hdrs
 hP:TrsOf A pv ps
def WriteT (t:Tr):Prop:=∀ (A w0:World) (base:Nat) (v u:Value) (l:List UInt8),OwnB w0 base u l→base≤w0.heap.size→Ext A w0→A.heap.size≤base→TabOK A→ValAt A v t→allT nodeB t=true→l.length+(textT t).length+30≤140737488355328→Ret Pg 66 #[u,v] w0 fun r w'=>OwnB w' base r (l++textT t)∧Wr base w0 w'
section
variable {A X:World} {base p:Nat} {n:Nd} {ps:List Tr} {bv hv pv:Value} {R:RT}
theorem w_end (C:WrC A X base p n ps bv hv pv) {w:World} {o:Value} {l:List UInt8} (hW:Wr base X w) (hO:OwnB w base o l) (hl:l.length+30≤140737488355328) (hR:∀ r w',OwnB w' base r (l++if ps=[] then [] else [41])→Wr base X w'→R (.returned r) w'):n71c12 (.pointer (some ⟨p,0,none⟩)) o R w:=by
 obtain ⟨B,cap,hpv,_,_,_,hel⟩:=SliceOf.open C.hP
 have hbox:=hW.obj C.box (by decide)
 rw [hpv] at hbox
 unfold n71c12 joinK
 by_cases h0:ps=[]
 · rw [if_pos h0] at hR
   have hdec:decide ((ps.length:Int) > 0)=false:=by rw [h0];rfl
   simp (disch:=try exact DI) only [↓PR,QR,simprocAttr,(cells_of_heap hbox).1,hdec]
   exact hR _ _ (by rw [List.append_nil];exact hO) hW
 · rw [if_neg h0] at hR
   have h1:0 < ps.length:=List.length_pos_iff.2 h0
   have hdec:decide ((ps.length:Int) > 0)=true:=by simp;omega
   simp (disch:=try exact DI) only [↓PR,QR,simprocAttr,(cells_of_heap hbox).1,hdec]
   have o1:=heap_new w #[.int .u8 41] 5
   have e1:Ext w (w.alloc (.cells #[.int .u8 41] 5)):=ee
   generalize (w.alloc (.cells #[.int .u8 41] 5))=E at o1 e1 ⊢
   have hbw:base≤w.heap.size:=Nat.le_trans C.hi hW.size
   refine app_byte 41 (hO.ext e1) o1 (Nat.le_trans hbw e1.size) (by omega) fun v' w' hO' hW' _=>?_
   exact hR _ _ hO' (hW.trans ((Wr.of hbw e1).trans hW'))
theorem w_parts {hv':Value} (ih:∀ x∈ps,WriteT x) (hv:∀ x∈ps,allT nodeB x=true) (C:WrC A X base p n ps bv hv' pv) {w:World} {o:Value} {l:List UInt8} (hW:Wr base X w) (hO:OwnB w base o l) (hl:l.length+(joinP (ps.map textT)).length+30≤140737488355328) (hR:∀ r w',OwnB w' base r (l++joinP (ps.map textT))→Wr base X w'→R (.returned r) w'):n71c14 (.pointer (some ⟨p,0,none⟩)) o R w:=by
 obtain ⟨B,cap,hpv,_,_,_,hel⟩:=SliceOf.open C.hP
 subst hpv
 have hbox:=hW.obj C.box (by decide)
 unfold n71c14
 simp (disch:=try exact DI) only [↓PR,QR,simprocAttr,(cells_of_heap hbox).1]
 refine loop2_intro (fun u i w=>∃ k:Nat,i = .int .i64 k∧k≤ps.length∧OwnB w base u (l++joinQ ((ps.map textT).take k))∧Wr base X w) (fun _ i _=>ps.length - (intOf i).toNat) ⟨0,rfl,by omega,by simpa [joinQ] using hO,hW⟩ ?_
 clear hbox hW hO
 rintro u _ w ⟨k,rfl,hk,hO,hW⟩
 have hbw:base≤w.heap.size:=Nat.le_trans C.hi hW.size
 have hbox:=hW.obj C.box (by decide)
 rw [joinP_Q,List.length_append] at hl
 by_cases hlt:k < ps.length
 · have hdec:decide ((k:Int) < (ps.length:Int))=true:=by simp;omega
   obtain ⟨x,hx⟩:=getElem?_lt hlt
   obtain ⟨b,o',cs,rfl,_,hE,hEx⟩:=hel k x hx
   obtain ⟨bv',hv',pv',rfl,q1,q2,q3,r1,r2,r3⟩:=hEx.op
   have dk:(k:Int) < (ps.length:Int):=by omega
   have eAw:=hW.from C.eA C.lo
   have hsn:joinQ ((ps.map textT).take (k+1))=joinQ ((ps.map textT).take k)++((if k=0 then 40 else 32)::textT x):=by
    rw [take_snoc' (by rw [List.getElem?_map,hx];rfl),joinQ_snoc]
    congr 2
    cases k with
    | zero=>simp
    | succ k =>
     have:(ps.map textT).take (k+1)≠[]:=by
      cases ps with
      | nil=>simp at hlt
      | cons=>simp
     rw [if_neg this,if_neg (by omega)]
   have hlen:=joinQ_take (ps.map textT) (k+1)
   rw [hsn,List.length_append,List.length_cons] at hlen
   simp (disch:=try exact DI) only [↓PR,QR,simprocAttr,hdec]
   unfold n71c13 joinK
   simp (disch:=try exact DI) only [↓PR,QR,simprocAttr,dk,hE.c5 eAw]
   obtain ⟨sg,hsg⟩:∃ sg:UInt8,sg=if k=0 then 40 else 32:=⟨_,rfl⟩
   rw [← hsg] at hsn
   have hcond:∀ p q:Prop,condP (.bool ((k:Int) == 0)) p q=if k=0 then p else q:=fun p q=>by
    by_cases h:k=0
    · subst h;rfl
    · have:((k:Int) == 0)=false:=by simp;omega
      rw [this,if_neg h];rfl
   rw [hcond]
   generalize hY:World.setCell (World.setCell (World.setCell (World.setCell (World.setCell (World.alloc w _) _ _) _ _) _ _) _ _) _ _=Y
   have oY:Y.heap[w.heap.size]?=some (.cells #[.string x.nd.name,.int .i64 x.nd.int,bv',hv',pv'] 26 (0,0)):=by
    rw [← hY]
    exact heap_set (heap_set (heap_set (heap_set (heap_set (heap_new w _ _) _) _) _) _) _
   have eY:Ext w Y:=by
    rw [← hY]
    have h0:Ext w (w.alloc (.cells #[.string ByteArray.empty,.int .i64 0,.slice none 0 0,.slice none 0 0,.slice none 0 0] 26)):=(Ext.refl w).alloc _
    exact ((((h0.setCell (Nat.le_refl _) _).setCell (Nat.le_refl _) _).setCell (Nat.le_refl _) _).setCell (Nat.le_refl _) _).setCell (Nat.le_refl _) _
   clear hY
   have eAY:=eAw.trans eY
   have hWY:=hW.trans (Wr.of hbw eY)
   have hbY:base≤Y.heap.size:=Nat.le_trans hbw eY.size
   suffices h:∀ nx:Value→Value→World→Prop,(∀ u' w',OwnB w' base u' (l++joinQ ((ps.map textT).take (k+1)))→Wr base X w'→nx u' (.int .i64 ((k+1:Nat):Int)) w')→n71c11 (.pointer (some ⟨w.heap.size,0,none⟩)) (.int .u8 (sg.toNat:Int)) (.int .i64 (k:Int)) u nx R Y by
    have h:=h (fun u1 i1 w'=>(∃ j:Nat,i1 = .int .i64 j∧j≤ps.length∧OwnB w' base u1 (l++joinQ ((ps.map textT).take j))∧Wr base X w')∧ps.length - (intOf i1).toNat < ps.length - (intOf (.int .i64 (k:Int))).toNat) fun u' w' hO' hW'=>⟨⟨k+1,rfl,by omega,hO',hW'⟩,meas_lt (kd := .i64) hlt⟩
    by_cases h0:k=0
    · rw [if_pos h0]
      rw [if_pos h0] at hsg
      subst hsg
      exact h
    · rw [if_neg h0]
      rw [if_neg h0] at hsg
      subst hsg
      exact h
   intro nx hnx
   unfold n71c11
   refine drawK_introT base hbY ?_
   rw [qT_struct (cs:=[.string x.nd.name,.int .i64 x.nd.int,bv',hv',pv']) rfl oY]
   have eD:Ext Y (drew Y):=(Ext.refl Y).drew
   have hO:=(hO.ext eY).ext eD
   have wD:Wr base Y (drew Y):=Wr.of hbY eD
   have eAD:=eAY.trans eD
   have hDz:base≤(drew Y).heap.size:=hbY
   simp (disch:=try exact DI) only [↓PR,QR,simprocAttr]
   show KT _ _ ((drew Y).alloc _)∧n71c10 _ (.slice (some ⟨(drew Y).heap.size,0,none⟩) 1 1) _ _ _ _ _ ((drew Y).alloc _)
   generalize drew Y=D at *
   have o1:=heap_new D #[.int .u8 (sg.toNat:Int)] 5
   have e1:Ext D (D.alloc (.cells #[.int .u8 (sg.toNat:Int)] 5)):=ee
   generalize (D.alloc (.cells #[.int .u8 (sg.toNat:Int)] 5))=E at o1 e1 ⊢
   have wE:=wD.trans (Wr.of hDz e1)
   have hEz:base≤E.heap.size:=Nat.le_trans hDz e1.size
   unfold n71c10
   refine ⟨wE,app_byte sg (hO.ext e1) o1 hEz (by rw [List.length_append];omega) fun v1 w1 hO1 hW1 _=>⟨wE.trans hW1,?_⟩⟩
   have w1Y:=wE.trans hW1
   refine callK_ret (ih x (List.mem_of_getElem? hx) A w1 base (.agg (trCells x.nd bv' hv' pv').toArray) v1 _ hO1 (Nat.le_trans hEz hW1.size) (w1Y.from eAY C.lo) C.lo C.tab ⟨_,_,_,rfl,q1,q2,q3⟩ (hv x (List.mem_of_getElem? hx)) (by rw [List.length_append,List.length_append,List.length_singleton];omega)) ?_
   rintro r w2 ⟨hO2,hW2⟩
   refine ⟨w1Y.trans hW2,?_⟩
   simp (disch:=try exact DI) only [↓PR,QR,simprocAttr]
   refine hnx r w2 ?_ (hWY.trans (w1Y.trans hW2))
   rw [hsn]
   simpa [List.append_assoc] using hO2
 · have hk':k=ps.length:=by omega
   subst hk'
   have hdec:decide ((ps.length:Int) < (ps.length:Int))=false:=by simp
   simp (disch:=try exact DI) only [↓PR,QR,simprocAttr,hdec]
   rw [List.take_of_length_le (by simp)] at hO
   refine w_end C hW hO (by rw [List.length_append];omega) fun r w' hO' hW'=>hR r w' ?_ hW'
   rw [joinP_Q,← List.append_assoc]
   have:(if ps.map textT=[] then ([]:List UInt8) else [41])=if ps=[] then [] else [41]:=by simp
   rw [this]
   exact hO'
end
section
variable {D:World} {base:Nat} {a b:ByteArray} {K5:Value→World→Prop} {R:RT}
theorem own_new {w:World} {o:Value} {l:List UInt8} (hO:OwnB w base o l):o.ownBlock≠some w.heap.size:=fun e=>by
 have:=(World.ownsRow.lt hO _ e).2
 omega
theorem w_c3 {w:World} {o:Value} {l:List UInt8} {q:Nat} (hb:base≤w.heap.size) (hW:Wr base D w) (hO:OwnB w base o l) (hq:w.heap[q]?=some (.cells #[.int .u8 58] 5 (0,0))) (hne:o.ownBlock≠some q) (hl:l.length+2*a.size+2*b.size+1≤140737488355328)
 (hK:∀ r w',OwnB w' base r (l++(hexL a.data.toList++58::hexL b.data.toList))→Wr base D w'→K5 r w'):n71c3 o (.string a) (.slice (some ⟨q,0,none⟩) 1 1) (.string b) (KT D base) K5 R w:=by
 have ha:a.data.toList.length=a.size:=Array.length_toList
 unfold n71c3
 refine callK_ret (hexS_ret w base o l a hO hb (by omega)) ?_
 rintro r1 w1 ⟨hO1,hW1,hG1⟩
 refine ⟨hW.trans hW1,?_⟩
 have hqw:=(Array.getElem?_eq_some_iff.1 hq).1
 have hq1:=(hG1.keep q hqw hne).trans hq
 refine app_byte 58 hO1 hq1 (Nat.le_trans hb hW1.size) (by rw [List.length_append,hexL_len];omega) fun r2 w2 hO2 hW2 _=>⟨hW.trans (hW1.trans hW2),?_⟩
 refine callK_ret (hexS_ret w2 base r2 _ b hO2 (Nat.le_trans hb (Nat.le_trans hW1.size hW2.size)) (by rw [List.length_append,List.length_append,hexL_len,List.length_singleton];omega)) ?_
 rintro r3 w3 ⟨hO3,hW3,_⟩
 have hW':=hW.trans (hW1.trans (hW2.trans hW3))
 refine ⟨hW',hK r3 w3 ?_ hW'⟩
 simpa [List.append_assoc] using hO3
theorem build1 {w:World} (x:Int):(w.alloc (.cells #[.int .u8 x] 5)).heap[w.heap.size]?=some (.cells #[.int .u8 x] 5 (0,0))∧Ext w (w.alloc (.cells #[.int .u8 x] 5)):=⟨heap_new w _ _,ee⟩
theorem w_c4 {w:World} {o:Value} {l:List UInt8} (hb:base≤w.heap.size) (hW:Wr base D w) (hO:OwnB w base o l) (hl:l.length+2*a.size+2*b.size+1≤140737488355328)
 (hK:∀ r w',OwnB w' base r (l++(hexL a.data.toList++58::hexL b.data.toList))→Wr base D w'→K5 r w'):n71c4 o (.string a) (.string b) (KT D base) K5 R w:=by
 have ha:a.data.toList.length=a.size:=Array.length_toList
 unfold n71c4
 constructor
 · refine callK_ret (hexS_ret w base o l a hO hb (by omega)) ?_
   rintro r1 w1 ⟨hO1,hW1,hG1⟩
   refine ⟨hW.trans hW1,?_⟩
   have hb1:=Nat.le_trans hb hW1.size
   unfold n71c2
   simp (disch:=try exact DI) only [↓PR,QR,simprocAttr]
   obtain ⟨q1,e1⟩:=build1 (w:=w1) 58
   generalize (w1.alloc (.cells #[.int .u8 58] 5))=W at q1 e1 ⊢
   have hW1':=hW1.trans (Wr.of hb1 e1)
   refine ⟨hW.trans hW1',?_⟩
   refine app_byte 58 (hO1.ext e1) q1 (Nat.le_trans hb1 e1.size) (by rw [List.length_append,hexL_len];omega) fun r2 w2 hO2 hW2 _=>⟨hW.trans (hW1'.trans hW2),?_⟩
   refine callK_ret (hexS_ret w2 base r2 _ b hO2 (Nat.le_trans (Nat.le_trans hb1 e1.size) hW2.size) (by rw [List.length_append,List.length_append,hexL_len,List.length_singleton];omega)) ?_
   rintro r3 w3 ⟨hO3,hW3,_⟩
   have hW':=hW.trans (hW1'.trans (hW2.trans hW3))
   refine ⟨hW',hK r3 w3 ?_ hW'⟩
   simpa [List.append_assoc] using hO3
 · simp (disch:=try exact DI) only [↓PR,QR,simprocAttr]
   have hn:=own_new hO
   obtain ⟨q1,e1⟩:=build1 (w:=w) 58
   generalize hp:w.heap.size=p at *
   generalize (w.alloc (.cells #[.int .u8 58] 5))=W at q1 e1 ⊢
   have hW':=hW.trans (Wr.of (by omega) e1)
   have hs:=e1.size
   exact ⟨hW',w_c3 (by omega) hW' (hO.ext e1) q1 hn hl hK⟩
theorem w_c6 {w:World} {o:Value} {l:List UInt8} {q:Nat} (hb:base≤w.heap.size) (hW:Wr base D w) (hO:OwnB w base o l) (hq:w.heap[q]?=some (.cells #[.int .u8 91] 5 (0,0))) (hne:o.ownBlock≠some q) (hl:l.length+2*a.size+2*b.size+2≤140737488355328)
 (hK:∀ r w',OwnB w' base r (l++[91]++(hexL a.data.toList++58::hexL b.data.toList))→Wr base D w'→K5 r w'):n71c6 (.slice (some ⟨q,0,none⟩) 1 1) (.string a) (.string b) o (KT D base) K5 R w:=by
 unfold n71c6
 have hl1:(l++[91]).length+2*a.size+2*b.size+1≤140737488355328:=by rw [List.length_append,List.length_singleton];omega
 constructor
 · refine app_byte 91 hO hq hb (by omega) fun r1 w1 hO1 hW1 _=>⟨hW.trans hW1,?_⟩
   exact w_c4 (Nat.le_trans hb hW1.size) (hW.trans hW1) hO1 hl1 hK
 · simp (disch:=try exact DI) only [↓PR,QR,simprocAttr]
   have hn:=own_new hO
   obtain ⟨q1,e1⟩:=build1 (w:=w) 58
   have hqw:=(Array.getElem?_eq_some_iff.1 hq).1
   generalize hp:w.heap.size=p at *
   generalize (w.alloc (.cells #[.int .u8 58] 5))=W at q1 e1 ⊢
   have hs:=e1.size
   have hpW:=(Array.getElem?_eq_some_iff.1 q1).1
   have hW':=hW.trans (Wr.of (by omega) e1)
   refine ⟨hW',?_⟩
   refine app_byte 91 (hO.ext e1) (e1.obj hq) (by omega) (by omega) fun r1 w1 hO1 hW1 hG1=>⟨hW'.trans hW1,?_⟩
   refine w_c3 (by have:=hW1.size;omega) (hW'.trans hW1) hO1 ((hG1.keep p hpW hn).trans q1) ?_ hl1 hK
   rcases hG1.blk with h | h
   · rw [h];exact hn
   · intro e;have:=h p e;omega
theorem w_c8 {w:World} {o:Value} {l:List UInt8} {q:Nat} (hb:base≤w.heap.size) (hW:Wr base D w) (hO:OwnB w base o l) (hq:w.heap[q]?=some (.cells #[.int .u8 58] 5 (0,0))) (hne:o.ownBlock≠some q) (hl:l.length+2*a.size+2*b.size+2≤140737488355328)
 (hK:∀ r w',OwnB w' base r (l++[91]++(hexL a.data.toList++58::hexL b.data.toList))→Wr base D w'→K5 r w'):n71c8 (.string a) (.slice (some ⟨q,0,none⟩) 1 1) (.string b) o (KT D base) K5 R w:=by
 unfold n71c8
 have hl1:(l++[91]).length+2*a.size+2*b.size+1≤140737488355328:=by rw [List.length_append,List.length_singleton];omega
 simp (disch:=try exact DI) only [↓PR,QR,simprocAttr]
 obtain ⟨q1,e1⟩:=build1 (w:=w) 91
 have hqw:=(Array.getElem?_eq_some_iff.1 hq).1
 generalize hp:w.heap.size=p at *
 generalize (w.alloc (.cells #[.int .u8 91] 5))=W at q1 e1 ⊢
 have hs:=e1.size
 have hW':=hW.trans (Wr.of (by omega) e1)
 refine ⟨hW',?_⟩
 refine app_byte 91 (hO.ext e1) q1 (by omega) (by omega) fun r1 w1 hO1 hW1 hG1=>⟨hW'.trans hW1,?_⟩
 refine w_c3 (by have:=hW1.size;omega) (hW'.trans hW1) hO1 ((hG1.keep q (by omega) hne).trans (e1.obj hq)) ?_ hl1 hK
 rcases hG1.blk with h | h
 · rw [h];exact hne
 · intro e;have:=h q e;omega
theorem w_c9 {Y:World} {o:Value} {l:List UInt8} {q k:Nat} {nx:Value→Value→World→Prop} (hb:base≤Y.heap.size) (hO:OwnB Y base o l) (hq:Y.heap[q]?=some (.cells #[.string a,.string b] 74 (0,0))) (hk:k < 9223372036854775807) (hl:l.length+2*a.size+2*b.size+3≤140737488355328)
 (hn:∀ r w',OwnB w' base r (l++hdrL (a,b))→Wr base Y w'→nx r (.int .i64 ((k+1:Nat):Int)) w'):n71c9 (.pointer (some ⟨q,0,none⟩)) (.int .i64 (k:Int)) o (KT Y base) nx R (drew Y):=by
 have eD:Ext Y (drew Y):=(Ext.refl Y).drew
 have hO:=hO.ext eD
 have wD:Wr base Y (drew Y):=Wr.of hb eD
 have hDz:base≤(drew Y).heap.size:=hb
 have a1:=fun {k':Value→Prop}=>qT_load (X:=Y) (base:=base) (k:=k') ty9 hq (by decide) (o:=0) rfl
 have a2:=fun {k':Value→Prop}=>qT_load (X:=Y) (base:=base) (k:=k') ty9 hq (by decide) (o:=1) rfl
 unfold n71c9
 simp (disch:=try exact DI) only [↓PR,QR,simprocAttr,a1,a2]
 have hK:∀ r w',OwnB w' base r (l++[91]++(hexL a.data.toList++58::hexL b.data.toList))→Wr base Y w'→n71c1 (.int .i64 (k:Int)) r nx R w':=by
  intro r w' hO' hW'
  unfold n71c1
  simp (disch:=try exact DI) only [↓PR,QR,simprocAttr]
  obtain ⟨q1,e1⟩:=build1 (w:=w') 93
  have hbw:=Nat.le_trans hb hW'.size
  generalize (w'.alloc (.cells #[.int .u8 93] 5))=W at q1 e1 ⊢
  refine app_byte 93 (hO'.ext e1) q1 (Nat.le_trans hbw e1.size) ?_ fun r2 w2 hO2 hW2 _=>?_
  · have ha:a.data.toList.length=a.size:=Array.length_toList
    have hb':b.data.toList.length=b.size:=Array.length_toList
    simp only [List.length_append,List.length_cons,List.length_nil,hexL_len]
    omega
  · simp (disch:=try exact DI) only [↓PR,QR,simprocAttr]
    refine hn r2 w2 ?_ (hW'.trans ((Wr.of hbw e1).trans hW2))
    unfold hdrL
    simpa [List.append_assoc] using hO2
 have hnD:=own_new hO
 have key:∀ (x:Int),_:=fun x=>build1 (w:=drew Y) x
 constructor
 · obtain ⟨q1,e1⟩:=build1 (w:=drew Y) 91
   have wE:=wD.trans (Wr.of hDz e1)
   exact ⟨wE,w_c6 (Nat.le_trans hDz e1.size) wE (hO.ext e1) q1 hnD (by omega) hK⟩
 · obtain ⟨q1,e1⟩:=build1 (w:=drew Y) 58
   have wE:=wD.trans (Wr.of hDz e1)
   exact ⟨wE,w_c8 (Nat.le_trans hDz e1.size) wE (hO.ext e1) q1 hnD (by omega) hK⟩
end
section
variable {A X:World} {base p:Nat} {n:Nd} {ps:List Tr} {bv hv pv:Value} {R:RT}
theorem flat_take {α:Type} (f:α→List UInt8) (l:List α) (k:Nat):((l.take k).flatMap f).length≤(l.flatMap f).length:=by
 rw [← List.take_append_drop k l,List.flatMap_append,List.length_append,List.take_append_drop]
 exact Nat.le_add_right _ _
theorem hdrL_len (h:ByteArray×ByteArray):(hdrL h).length=2*h.1.size+2*h.2.size+3:=by
 have h1:h.1.data.toList.length=h.1.size:=Array.length_toList
 have h2:h.2.data.toList.length=h.2.size:=Array.length_toList
 unfold hdrL
 simp only [List.length_append,List.length_cons,List.length_nil,hexL_len]
 omega
theorem w_hdrs (ih:∀ x∈ps,WriteT x) (hv':∀ x∈ps,allT nodeB x=true) (hn100:n.hdrs.length≤100) (C:WrC A X base p n ps bv hv pv) {w:World} {o:Value} {l:List UInt8} (hW:Wr base X w) (hO:OwnB w base o l) (hl:l.length+(n.hdrs.flatMap hdrL).length+(joinP (ps.map textT)).length+30≤140737488355328) (hR:∀ r w',OwnB w' base r (l++(n.hdrs.flatMap hdrL++joinP (ps.map textT)))→Wr base X w'→R (.returned r) w'):n71c16 (.pointer (some ⟨p,0,none⟩)) o R w:=by
 obtain ⟨B,cap,hhv,_,_,_,hel⟩:=SliceOf.open C.hH
 subst hhv
 have hbox:=hW.obj C.box (by decide)
 unfold n71c16
 simp (disch:=try exact DI) only [↓PR,QR,simprocAttr,(cells_of_heap hbox).1]
 refine loop2_intro (fun u i w=>∃ k:Nat,i = .int .i64 k∧k≤n.hdrs.length∧OwnB w base u (l++(n.hdrs.take k).flatMap hdrL)∧Wr base X w) (fun _ i _=>n.hdrs.length - (intOf i).toNat) ⟨0,rfl,by omega,by simpa using hO,hW⟩ ?_
 clear hbox hW hO
 rintro u _ w ⟨k,rfl,hk,hO,hW⟩
 have hbw:base≤w.heap.size:=Nat.le_trans C.hi hW.size
 have hbox:=hW.obj C.box (by decide)
 by_cases hlt:k < n.hdrs.length
 · have hdec:decide ((k:Int) < (n.hdrs.length:Int))=true:=by simp;omega
   obtain ⟨⟨a,b⟩,hx⟩:=getElem?_lt hlt
   obtain ⟨bb,o',cs,rfl,_,hE,hEx⟩:=hel k (a,b) hx
   unfold EHdr at hEx
   subst hEx
   have dk:(k:Int) < (n.hdrs.length:Int):=by omega
   have eAw:=hW.from C.eA C.lo
   have hsn:(n.hdrs.take (k+1)).flatMap hdrL=(n.hdrs.take k).flatMap hdrL++hdrL (a,b):=by rw [take_snoc' hx,List.flatMap_append];simp
   have hlen:=flat_take hdrL n.hdrs (k+1)
   rw [hsn,List.length_append,hdrL_len] at hlen
   simp only at hlen
   simp (disch:=try exact DI) only [↓PR,QR,simprocAttr,hdec]
   unfold n71c15
   simp (disch:=try exact DI) only [↓PR,QR,simprocAttr,dk,(hE.c2 eAw).1,(hE.c2 eAw).2]
   have oY:=heap_new w #[.string a,.string b] 74
   have eY:Ext w (w.alloc (.cells #[.string a,.string b] 74)):=ee
   generalize (w.alloc (.cells #[.string a,.string b] 74))=Y at oY eY ⊢
   generalize w.heap.size=q at oY hbw ⊢
   have hWY:=hW.trans (Wr.of (Nat.le_trans C.hi hW.size) eY)
   have hbY:base≤Y.heap.size:=Nat.le_trans C.hi hWY.size
   refine drawK_introT base hbY ?_
   refine w_c9 hbY (hO.ext eY) oY (by omega) (by rw [List.length_append];omega) fun r w' hO' hW'=>?_
   refine ⟨⟨k+1,rfl,by omega,?_,hWY.trans hW'⟩,meas_lt (kd := .i64) hlt⟩
   rw [hsn,← List.append_assoc]
   exact hO'
 · have hk':k=n.hdrs.length:=by omega
   subst hk'
   have hdec:decide ((n.hdrs.length:Int) < (n.hdrs.length:Int))=false:=by simp
   simp (disch:=try exact DI) only [↓PR,QR,simprocAttr,hdec]
   rw [List.take_length] at hO
   refine w_parts ih hv' C hW hO (by rw [List.length_append];omega) fun r w' hO' hW'=>hR r w' ?_ hW'
   rw [← List.append_assoc]
   exact hO'
theorem w_bytes (ih:∀ x∈ps,WriteT x) (hv':∀ x∈ps,allT nodeB x=true) (hn100:n.hdrs.length≤100) (C:WrC A X base p n ps bv hv pv) {w:World} {o:Value} {l:List UInt8} (hW:Wr base X w) (hO:OwnB w base o l) (hl:l.length+(bytL n.bytes).length+(n.hdrs.flatMap hdrL).length+(joinP (ps.map textT)).length+30≤140737488355328) (hR:∀ r w',OwnB w' base r (l++(bytL n.bytes++(n.hdrs.flatMap hdrL++joinP (ps.map textT))))→Wr base X w'→R (.returned r) w'):n71c18 (.pointer (some ⟨p,0,none⟩)) o R w:=by
 obtain ⟨B,cap,hbv,_,_,_,hel⟩:=SliceOf.open C.hB
 have hbox:=hW.obj C.box (by decide)
 have hbw:base≤w.heap.size:=Nat.le_trans C.hi hW.size
 unfold n71c18 joinK
 rw [hbv] at hbox
 by_cases h0:n.bytes=[]
 · have hdec:decide ((n.bytes.length:Int) > 0)=false:=by rw [h0];rfl
   have hby:bytL n.bytes=[]:=by rw [h0];rfl
   rw [hby] at hR hl
   simp (disch:=try exact DI) only [↓PR,QR,simprocAttr,(cells_of_heap hbox).1,hdec]
   exact w_hdrs ih hv' hn100 C hW hO (by simpa using hl) fun r w' hO' hW'=>hR r w' (by simpa using hO') hW'
 · have h1:0 < n.bytes.length:=List.length_pos_iff.2 h0
   have hdec:decide ((n.bytes.length:Int) > 0)=true:=by simp;omega
   have hby:bytL n.bytes=35::hexL n.bytes:=by unfold bytL;rw [if_neg h0]
   rw [hby] at hR hl
   rw [List.length_cons,hexL_len] at hl
   simp (disch:=try exact DI) only [↓PR,QR,simprocAttr,(cells_of_heap hbox).1,hdec]
   refine drawK_introT base hbw ?_
   have eD:Ext w (drew w):=(Ext.refl w).drew
   have wD:Wr base w (drew w):=Wr.of hbw eD
   have a1:=fun {k':Value→Prop}=>qT_load (X:=w) (base:=base) (k:=k') ty22 hbox (by decide) (o:=2) rfl
   have hO:=hO.ext eD
   have hDz:base≤(drew w).heap.size:=hbw
   unfold n71c17
   simp (disch:=try exact DI) only [↓PR,QR,simprocAttr,a1]
   show KT _ _ ((drew w).alloc _)∧opV _ (Builtin.append_ _ _ #[o,.slice (some ⟨(drew w).heap.size,0,none⟩) 1 1]) _ ((drew w).alloc _) _
   generalize drew w=D at *
   obtain ⟨q1,e1⟩:=build1 (w:=D) 35
   generalize (D.alloc (.cells #[.int .u8 35] 5))=W at q1 e1 ⊢
   have wW:=wD.trans (Wr.of hDz e1)
   have hbW:base≤W.heap.size:=Nat.le_trans hDz e1.size
   refine ⟨wW,app_byte 35 (hO.ext e1) q1 hbW (by omega) fun r1 w1 hO1 hW1 _=>⟨wW.trans hW1,?_⟩⟩
   have w1w:=wW.trans hW1
   have eA1:=(hW.trans w1w).from C.eA C.lo
   refine callK_ret (hexB_ret A w1 base r1 _ _ n.bytes hO1 (Nat.le_trans hbW hW1.size) eA1 C.lo (hbv ▸ C.hB) (by rw [List.length_append,List.length_singleton];omega)) ?_
   rintro r2 w2 ⟨hO2,hW2⟩
   refine ⟨w1w.trans hW2,?_⟩
   refine w_hdrs ih hv' hn100 C (hW.trans (w1w.trans hW2)) hO2 (by simp only [List.length_append,List.length_cons,List.length_nil,hexL_len];omega) fun r w' hO' hW'=>hR r w' ?_ hW'
   simpa [List.append_assoc] using hO'
end
theorem tab_below {A w:World} {base:Nat} (hT:TabOK A) (e:Ext A w) (hb:A.heap.size≤base):Go.Lib.TabBelow Pg base w "internal/strconv.uint64pow10" .u64 Go.Lib.pow10Tab:=fun w' h=>by
 have:TabOK w':=hT.ext ⟨h.os.trans e.os,h.tape.trans e.tape,h.output.trans e.output,Nat.le_trans e.size h.size,fun k hk=>(h.block k (by omega)).trans (e.block k hk)⟩
 exact this
theorem AppendInt_ret {A w:World} {base:Nat} {v:Value} {l:List UInt8} (n:Int) (h0 : -9223372036854775808≤n) (h1:n≤9223372036854775807) (hT:TabOK A) (e:Ext A w) (hA:A.heap.size≤base) (hO:OwnB w base v l) (hb:base≤w.heap.size) (hl:l.length+21≤140737488355328) :
 Ret Pg 88 #[v,.int .i64 n,.int .i64 10] w fun r w'=>OwnB w' base r (l++Go.Lib.itoa n)∧Wr base w w':=by
 refine Calls.mono (sh_strconv_AppendInt_10 base l.length n h0 h1 v (l.flatMap encB) w hO hb hl (tab_below hT e hA)) ?_
 rintro e w' ⟨v',rfl,hO',hB,hK⟩
 refine ⟨v',rfl,?_,hB,hK⟩
 unfold OwnB OwnE
 rw [List.flatMap_append,List.length_append,encB_flat (Go.Lib.itoa n)]
 exact hO'
theorem write_ret (t:Tr):WriteT t:=by
 refine Tr.ind (p:=WriteT) ?_ t
 intro n ps ih A w0 base v u l hO hb eA hA hT hV hval hl
 rw [allT_mk,Bool.and_eq_true,List.all_eq_true] at hval
 obtain ⟨a1,a2,a3,a4,a5,a6⟩:=nodeB_iff.1 hval.1
 obtain ⟨bv,hv,pv,rfl,f1,f2,f3,f4,f5,f6⟩:=hV.op
 simp only [Tr.nd,Tr.ps] at f1 f2 f3
 show Ret _ _ #[u,.agg (trCells n bv hv pv).toArray] _ _
 rw [textT_mk] at hl ⊢
 unfold nodeL at hl ⊢
 simp only [List.length_append] at hl
 refine n71s (R:=retR _) ?_;unfold n71
 rw [op_boxA]
 have h0:=heap_new w0 (trCells n bv hv pv).toArray 26
 have e0:Ext w0 (w0.alloc (.cells (trCells n bv hv pv).toArray 26)):=ee
 generalize (w0.alloc (.cells (trCells n bv hv pv).toArray 26))=X at h0 e0 ⊢
 have hb0:=hb
 generalize w0.heap.size=p at h0 ⊢
 have hsz:n.name.data.toList.length=n.name.size:=Array.length_toList
 have C:WrC A X base p n ps bv hv pv:=⟨h0,eA.trans e0,hA,Nat.le_trans hb e0.size,hT,f1,f2,f3⟩
 have hO:=hO.ext e0
 simp (disch:=try exact DI) only [↓PR,QR,simprocAttr,(cells_of_heap h0).1]
 refine app_str n.name hO C.hi (by omega) fun v1 w1 hO1 hW1=>?_
 have hb1:=hW1.obj h0 (by decide)
 have hbw:base≤w1.heap.size:=Nat.le_trans C.hi hW1.size
 unfold joinK
 have hfin:∀ (w:World) (o:Value),Wr base X w→OwnB w base o (l++(n.name.data.toList++intL n.int))→n71c18 (.pointer (some ⟨p,0,none⟩)) o (retR fun r w'=>OwnB w' base r (l++(n.name.data.toList++(intL n.int++(bytL n.bytes++n.hdrs.flatMap hdrL))++joinP (ps.map textT)))∧Wr base w0 w') w:=by
  intro w o hW hO
  refine w_bytes ih hval.2 a5 C hW hO (by simp only [List.length_append];omega) fun r w' hO' hW'=>?_
  rw [retR_ret]
  refine ⟨by simpa [List.append_assoc] using hO',Wr.trans ?_ hW'⟩
  exact Wr.of (by omega) e0
 by_cases hz:n.int=0
 · have hd:(n.int != 0)=false:=by rw [hz];rfl
   simp (disch:=try exact DI) only [↓PR,QR,simprocAttr,(cells_of_heap hb1).1,hd]
   refine hfin _ _ hW1 ?_
   have:intL n.int=[]:=by unfold intL;rw [if_pos hz]
   rw [this,List.append_nil]
   exact hO1
 · have hd:(n.int != 0)=true:=by simp [hz]
   have hi:intL n.int=61::Go.Lib.itoa n.int:=by unfold intL;rw [if_neg hz]
   rw [hi,List.length_cons] at hl
   simp (disch:=try exact DI) only [↓PR,QR,simprocAttr,(cells_of_heap hb1).1,hd]
   refine drawK_introT base hbw ?_
   have eD:Ext w1 (drew w1):=(Ext.refl w1).drew
   have wD:Wr base w1 (drew w1):=Wr.of hbw eD
   have b1:=fun {k':Value→Prop}=>qT_load (X:=w1) (base:=base) (k:=k') ty3 hb1 (by decide) (o:=1) rfl
   have hO1:=hO1.ext eD
   have hDz:base≤(drew w1).heap.size:=hbw
   unfold n71c19
   simp (disch:=try exact DI) only [↓PR,QR,simprocAttr,b1]
   show KT _ _ ((drew w1).alloc _)∧opV _ (Builtin.append_ _ _ #[v1,.slice (some ⟨(drew w1).heap.size,0,none⟩) 1 1]) _ ((drew w1).alloc _) _
   generalize drew w1=D at *
   obtain ⟨q1,e1⟩:=build1 (w:=D) 61
   generalize (D.alloc (.cells #[.int .u8 61] 5))=W at q1 e1 ⊢
   have wW:=wD.trans (Wr.of hDz e1)
   have hbW:base≤W.heap.size:=Nat.le_trans hDz e1.size
   refine ⟨wW,app_byte 61 (hO1.ext e1) q1 hbW (by simp only [List.length_append];omega) fun r1 w2 hO2 hW2 _=>⟨wW.trans hW2,?_⟩⟩
   have w1w:=wW.trans hW2
   have eA1:=(hW1.trans w1w).from C.eA C.lo
   refine callK_ret (AppendInt_ret n.int (by omega) (by omega) hT eA1 C.lo hO2 (Nat.le_trans hbW hW2.size) (by simp only [List.length_append,List.length_singleton];omega)) ?_
   rintro r2 w3 ⟨hO3,hW3⟩
   refine ⟨w1w.trans hW3,?_⟩
   refine hfin _ _ (hW1.trans (w1w.trans hW3)) ?_
   rw [hi]
   simpa [List.append_assoc] using hO3
theorem OwnB.bytes {w:World} {base:Nat} {v:Value} {l:List UInt8} (h:OwnB w base v l):BytesOf w v l:=OwnE.slice h (fun _=>rfl) (fun _ _=>rfl)
theorem Text_ret (w0:World) (v:Value) (t:Tr) (hV:ValAt w0 v t) (hT:TabOK w0) (hn:nodesT t≤1000000000) (hl:(textT t).length≤100000000000000):Ret Pg 26 #[v] w0 fun r w'=>r=(if validT t=true then .tuple #[.string (mkB (textT t)),.int .i64 0] else .tuple #[.string ⟨#[]⟩,.int .i64 2])∧Ext w0 w':=by
 obtain ⟨bv,hv,pv,rfl,f1,f2,f3,f4,f5,f6⟩:=hV.op
 refine n45s (R:=retR _) ?_;unfold n45
 rw [op_boxA]
 have h0:=heap_new w0 (trCells t.nd bv hv pv).toArray 26
 have e0:Ext w0 (w0.alloc (.cells (trCells t.nd bv hv pv).toArray 26)):=ee
 generalize (w0.alloc (.cells (trCells t.nd bv hv pv).toArray 26))=X at h0 e0 ⊢
 generalize w0.heap.size=p at h0 ⊢
 simp (disch:=try exact DI) only [↓PR,QR,simprocAttr,(cells_of_heap h0).1]
 refine zcr (Valid_ret X _ t ⟨_,_,_,rfl,f1.ext e0,f2.ext e0,f3.ext e0⟩ hn) fun w1 e1=>?_
 have h1:=e1.obj h0
 have E1:=e0.trans e1
 by_cases hv':validT t=true
 · rw [if_pos hv',hv']
   have hall:allT nodeB t=true:=by
    have:=hv'
    unfold validT at this
    simp only [Bool.and_eq_true,decide_eq_true_eq] at this
    exact this.2
   simp (disch:=try exact DI) only [↓PR,QR,simprocAttr]
   unfold n45c1
   simp (disch:=try exact DI) only [↓PR,QR,simprocAttr,(cells_of_heap h1).1]
   refine callK_ret (write_ret t w1 w1 w1.heap.size _ (.slice none 0 0) [] (OwnE.nil _ _ _ _ _) (Nat.le_refl _) (Ext.refl _) (Nat.le_refl _) (hT.ext E1) ⟨_,_,_,rfl,f1.ext E1,f2.ext E1,f3.ext E1⟩ hall (by rw [List.length_nil];omega)) ?_
   rintro r w2 ⟨hO,hW⟩
   rw [op_bytesStr hO.bytes]
   simp (disch:=try exact DI) only [↓PR,QR,simprocAttr]
   exact ⟨rfl,E1.trans (hW.from (Ext.refl _) (Nat.le_refl _))⟩
 · have hv'':validT t=false:=by simpa using hv'
   rw [if_neg hv',hv'']
   simp (disch:=try exact DI) only [↓PR,QR,simprocAttr]
   exact ⟨by trivial,E1⟩
def n48c1 (t0 t20 t28:Value) (next1:KW) (R:RT) (w:World):Prop :=
 opN Pg (nilN t0) (panK R) w fun t32 w =>
 opV Pg (Instr.fieldAt 26 t32 4) (panK R) w fun t33 w =>
 opV Pg (Instr.loadAt 24 t33) (panK R) w fun t34 w =>
 opV Pg (Instr.indexAt 24 t34 t28) (panK R) w fun t36 w =>
 opV Pg (binS .add 3 true t20 (.int .i64 1)) (panK R) w fun t37 w =>
 next1 t36 t37 w
def n48c2 (t0 t20 t28:Value) (next1:KW) (R:RT) (w:World):Prop :=
 opV Pg (binS .lss 3 true t28 (.int .i64 0)) (panK R) w fun t30 w =>
 condP t30 (
 R (.returned (.tuple #[(Value.pointer none),(.int .i64 9)])) w) (
 n48c1 t0 t20 t28 next1 R w)
def n48c3 (t0 t9 t20:Value) (C2:World→Prop) (next1:KW) (R:RT) (w:World):Prop :=
 qN Pg C2 (nilN t0) fun t25 =>
 qV Pg C2 (Instr.loadAt 26 t25) fun t26 =>
 qV Pg C2 (Instr.loadAt 106 t9) fun t27 =>
 callK Pg 67 #[t26,t27] (panK R) w fun t28 w =>
 C2 w∧(
 n48c2 t0 t20 t28 next1 R w)
def n48c4 (t0 t14 t20:Value) (next1:KW) (R:RT) (w:World):Prop :=
 opV Pg (Instr.indexAt 120 t14 t20) (panK R) w fun t22 w =>
 opV Pg (Instr.loadAt 106 t22) (panK R) w fun t23 w =>
 opV Pg (Instr.alloc 106 true (.tuple #[])) (panK R) w fun t9 w =>
 opU Pg (Instr.storeAt 106 t9 t23) (panK R) w fun w =>
 drawK w fun C2 w =>
 n48c3 t0 t9 t20 C2 next1 R w
def n48c5 (t0 t14:Value) (R:RT) (w:World):Prop :=
 opV Pg (Builtin.len_ #[120] 3 #[t14]) (panK R) w fun t19 w =>
 loop2 (fun t0 t20 w next1 =>
 opV Pg (binS .lss 3 false t20 t19) (panK R) w fun t21 w =>
 condP t21 (
 n48c4 t0 t14 t20 next1 R w) (
 R (.returned (.tuple #[t0,(.int .i64 0)])) w)) t0 (.int .i64 0) w
def n48c6 (t0 t13:Value) (R:RT) (w:World):Prop :=
 opV Pg (Instr.extract t13 0) (panK R) w fun t14 w =>
 opV Pg (Instr.extract t13 1) (panK R) w fun t15 w =>
 opV Pg (Op.unary .not t15) (panK R) w fun t17 w =>
 condP t17 (
 R (.returned (.tuple #[(Value.pointer none),(.int .i64 6)])) w) (
 n48c5 t0 t14 R w)
def n48 (t0 t1:Value) (R:RT) (w:World):Prop :=
 callK Pg 81 #[t1] (panK R) w fun t13 w =>
 n48c6 t0 t13 R w
theorem n48s {t0 t1:Value} {R:RT} {w:World} (h:n48 t0 t1 R w):Calls Pg 55 #[t0,t1] w R:=by
 refine yD Tryz.func55 ?_
 refine zs<|zr<|zm<|zm<|zn<|zk<|zs<|zr<|zm<|yc h c81 fun _ w h=>zm<|yv h fun _ w h=>yv h fun _ w h=>zm<|zm ?_
 refine zn<|zk<|zs<|zs<|zr<|zm<|yv h fun _ w h=>zn<|zk<|yC h (fun h=>zs<|zr<|zm<|zm<|zn<|zk<|sim_ret<|sim_then_ret<|body_ret2 rfl rfl rfl h) fun h=>sim_skip<|zk<|zs<|zs ?_
 refine zr<|zm<|yx h fun _ w h=>zm<|zn<|zk<|sim_block<|yl2 [0,4,5,9,10,20,21,22,23,24,25,26,27,28,29,30,31,32,33,34,35,36,37] 0 20 h fun σ w next h=>zs<|zr<|yb h fun _ w h=>zn<|zk<|zs<|yC h (fun h=>?_) fun h=>?_
 · refine sim_skip<|zk<|zs<|sim_block<|zs<|zr<|yv h fun _ w h=>yv h fun _ w h=>yv h fun _ w h=>yu h fun w h=>zn<|zk<|zs<|yh [10,24,25,26,27,28] h fun C hC h=>yw 0 hC ?_
   refine yn 1 hC h fun _ h=>?_
   refine ye 2 hC h fun _ h=>?_
   refine ye 3 hC h fun _ h=>?_
   refine yo 4 ?_
   refine yc h c67 fun _ w h=>zn ?_
   obtain ⟨hC,h⟩:=h
   refine ⟨hC,?_⟩
   refine yw 5 hC ?_
   refine yz<|zk<|zs<|zs<|zr<|zm<|yb h fun _ w h=>zn<|zk<|yC h (fun h=>zs<|zr<|zm<|zm<|zn<|zk<|sim_ret<|sim_then_ret<|sim_block_ret<|sim_then_ret<|sim_then_ret<|sim_block_ret<|sim_then_ret<|body_ret2 rfl rfl rfl h) fun h=>sim_skip<|zk<|zr<|zm ?_
   exact yN h fun _ w h=>yv h fun _ w h=>yv h fun _ w h=>zm<|yv h fun _ w h=>zm<|zn<|sim_block_normal<|zk<|zr<|yb h fun _ w h=>zm<|zn<|zk<|⟨rfl,h⟩
 exact sim_exit<|sim_then_exit<|sim_then_exit<|sim_block_hit<|zk<|zs<|zr<|zm<|zm<|zm<|zn<|zk<|sim_ret<|body_ret2 rfl rfl rfl h
theorem mkB_app (a b:List UInt8):mkB a++mkB b=mkB (a++b):=bytes_ext (by unfold mkB;rw [ByteArray.data_append];simp)
theorem mkB_size (a:List UInt8):(mkB a).size=a.length:=by unfold mkB;exact List.size_toArray ..
theorem op_saddL {w:World} {QP:List PanicEntry→World→Prop} {k:Value→World→Prop} (t:TypeId) (c:Bool) (a b:List UInt8) (h:a.length+b.length≤9223372036854775807):opV Pg (binS .add t c (.string (mkB a)) (.string (mkB b))) QP w k=k (.string (mkB (a++b))) w:=by
 rw [op_saddZ _ _ _ _ (by rw [mkB_size,mkB_size];exact h),mkB_app]
section
variable {P:Program} {QP:List PanicEntry→World→Prop} {k:Value→World→Prop} {w:World}
theorem op_subS {t:TypeId} (hu:P.underlying t=some .string) (s:ByteArray) (a b:Nat) (h1:a≤b) (h2:b≤s.size):opV P (Instr.sliceAt t (.string s) (some (.int .i64 (a:Int))) (some (.int .i64 (b:Int))) none) QP w k=k (.string (s.extract a b)) w:=by
 have g1:(a:Int)≤(b:Int):=by omega
 have g2:(b:Int)≤(s.size:Int):=by omega
 refine opV_ok ?_
 simp [Instr.sliceAt,run_underlying hu,Instr.slice,Instr.sliceBounds,run_sliceBound,g1,g2]
end
theorem sub_mkB (s:ByteArray) (a b:Nat):s.extract a b=mkB ((s.data.toList.drop a).take (b - a)):=by
 refine bytes_ext ?_
 unfold mkB
 simp [Array.toList_extract,List.extract_eq_take_drop]
structure Kp (b:Nat) (w w':World):Prop where
 os:w'.os=w.os
 tape:w'.tape=w.tape
 output:w'.output=w.output
 size:w.heap.size≤w'.heap.size
 keep:∀ k,k < w.heap.size→k≠b→w'.heap[k]?=w.heap[k]?
theorem Kp.of {b:Nat} {w w':World} (e:Ext w w'):Kp b w w':=⟨e.os,e.tape,e.output,e.size,fun k hk _=>e.block k hk⟩
theorem Kp.refl (b:Nat) (w:World):Kp b w w:=Kp.of (Ext.refl w)
theorem Kp.trans {b:Nat} {x y z:World} (h:Kp b x y) (g:Kp b y z):Kp b x z:=⟨g.os.trans h.os,g.tape.trans h.tape,g.output.trans h.output,Nat.le_trans h.size g.size,fun k hk hb=>(g.keep k (Nat.lt_of_lt_of_le hk h.size) hb).trans (h.keep k hk hb)⟩
theorem Kp.set {b o:Nat} {w:World} (v:Value):Kp b w (w.setCell ⟨b,o,none⟩ v):=⟨rfl,rfl,rfl,by simp,fun k _ hb=>heap_setE hb⟩
theorem Kp.setNew {b p o:Nat} {x w:World} (h:Kp b x w) (hp:x.heap.size≤p) (v:Value):Kp b x (w.setCell ⟨p,o,none⟩ v):=⟨h.os,h.tape,h.output,by simpa using h.size,fun k hk hb=>(heap_setE (by omega)).trans (h.keep k hk hb)⟩
theorem Kp.from {b:Nat} {A x w:World} (h:Kp b x w) (e:Ext A x) (hb:A.heap.size≤b):Ext A w:=⟨h.os.trans e.os,h.tape.trans e.tape,h.output.trans e.output,Nat.le_trans e.size h.size,fun k hk=>(h.keep k (Nat.lt_of_lt_of_le hk e.size) (by omega)).trans (e.block k hk)⟩
theorem Kp.obj {b k:Nat} {x w:World} (h:Kp b x w) {o:Obj} (hk:x.heap[k]?=some o) (hb:k≠b):w.heap[k]?=some o:=(h.keep k (Array.getElem?_eq_some_iff.1 hk).1 hb).trans hk
structure St (b:Nat) (s:List UInt8) (h:Nat) (l:List UInt8) (w:World):Prop where
 cell:w.heap[b]?=some (.cells #[.string (mkB s),.int .i64 ((s.length - l.length:Nat):Int),.int .i64 (h:Int)] 85 (0,0))
 suf:∃ pre,s=pre++l
 short:s.length≤100000000
theorem St.ext {b h:Nat} {s l:List UInt8} {w w':World} (H:St b s h l w) (e:Ext w w'):St b s h l w':=⟨e.obj H.cell,H.suf,H.short⟩
theorem St.le {b h:Nat} {s l:List UInt8} {w:World} (H:St b s h l w):l.length≤s.length:=by
 obtain ⟨pre,rfl⟩:=H.suf
 simp
theorem St.drop {b h:Nat} {s l:List UInt8} {w:World} (H:St b s h l w):s.drop (s.length - l.length)=l:=by
 obtain ⟨pre,rfl⟩:=H.suf
 simp
theorem St.head {b h:Nat} {s l r:List UInt8} {w:World} {c:UInt8} (H:St b s h l w) (hl:l=c::r):s[s.length - l.length]?=some c:=by
 obtain ⟨pre,rfl⟩:=H.suf
 subst hl
 rw [List.length_append,Nat.add_sub_cancel,List.getElem?_append_right (Nat.le_refl _),Nat.sub_self]
 rfl
theorem St.step {b h:Nat} {s l r:List UInt8} {w:World} {c:UInt8} (H:St b s h l w) (hl:l=c::r):St b s h r (w.setCell ⟨b,1,none⟩ (.int .i64 ((s.length - l.length+1:Nat):Int))):=by
 have hle:=H.le
 refine ⟨?_,?_,H.short⟩
 · have:=heap_set (o:=1) H.cell (.int .i64 ((s.length - l.length+1:Nat):Int))
   rw [this]
   have:s.length - l.length+1=s.length - r.length:=by rw [hl,List.length_cons] at *;omega
   rw [this]
   rfl
 · obtain ⟨pre,rfl⟩:=H.suf
   exact ⟨pre++[c],by rw [hl];simp⟩
theorem mkB_data (s:List UInt8):(mkB s).data.toList=s:=by unfold mkB;simp
theorem next_ret (b h:Nat) (s l:List UInt8) (w0:World) (c:UInt8) (H:St b s h l w0):Ret Pg 74 #[.pointer (some ⟨b,0,none⟩),.int .u8 (c.toNat:Int)] w0 fun r w'=>r = .bool (decide (l.head?=some c))∧St b s h (if l.head?=some c then l.tail else l) w'∧Kp b w0 w':=by
 have hs:=H.short
 refine n61s (R:=retR _) ?_;unfold n61
 refine drawK_intro ?_
 have eD:Ext w0 (drew w0):=(Ext.refl w0).drew
 have H:=H.ext eD
 have kD:Kp b w0 (drew w0):=Kp.of eD
 generalize drew w0=D at *
 unfold n61c2 joinK
 cases l with
 | nil =>
  have hd:(((s.length - ([]:List UInt8).length:Nat):Int) == ((mkB s).size:Int))=true:=by rw [mkB_size,List.length_nil,Nat.sub_zero];simp
  simp (disch:=try exact DI) only [↓PR,QR,simprocAttr,(cells_of_heap H.cell).1,hd]
  exact ⟨rfl,H,kD⟩
 | cons a r =>
  have hle:=H.le
  have hd:(((s.length - (a::r).length:Nat):Int) == ((mkB s).size:Int))=false:=by
   rw [mkB_size]
   simp only [List.length_cons] at hle ⊢
   simp
   omega
  have i1:=fun {QP:List PanicEntry→World→Prop} {w:World} {k':Value→World→Prop}=>op_indexS (P:=Pg) (QP:=QP) (w:=w) (k:=k') Tryz.underlying9 (mkB s) .i64 (s.length - (a::r).length) (by rw [mkB_data];exact H.head rfl)
  have q1:∀ k':Value→Prop,qV Pg (EC D) (Instr.index 9 (.string (mkB s)) (.int .i64 ((s.length - (a::r).length:Nat):Int))) k'=k' (.int .u8 (a.toNat:Int)):=fun k'=>qV_of fun QP w k=>i1
  simp (disch:=try exact DI) only [↓PR,QR,simprocAttr,(cells_of_heap H.cell).1,hd,q1]
  by_cases hac:a=c
  · subst hac
    have hn:((a.toNat:Int) != (a.toNat:Int))=false:=by simp
    have hw:IntKind.i64.wrap (((s.length - (a::r).length:Nat):Int)+1)=((s.length - (a::r).length+1:Nat):Int):=wrap_succ (by omega)
    simp (disch:=try exact DI) only [↓PR,QR,simprocAttr,hn]
    unfold n61c1
    simp (disch:=try exact DI) only [↓PR,QR,simprocAttr,(cells_of_heap H.cell).1,(cells_of_heap H.cell).2,hw]
    refine ⟨by simp,?_,kD.trans (Kp.set _)⟩
    rw [if_pos (by simp)]
    exact H.step rfl
  · have hn:((a.toNat:Int) != (c.toNat:Int))=true:=by
     have:a.toNat≠c.toNat:=fun e=>hac (UInt8.toNat_inj.1 e)
     simp
     omega
    have h0:¬ (a::r).head?=some c:=by simpa using hac
    simp (disch:=try exact DI) only [↓PR,QR,simprocAttr,hn]
    rw [if_neg h0]
    exact ⟨by simp [hac],H,kD⟩
def leftM (b n:Nat) (w:World):Nat:=match w.heap[b]? with
 | some (.cells cs _ _)=>n - (intOf (cs[1]?.getD (.int .i64 0))).toNat
 | _=>0
theorem St.left {b h:Nat} {s l:List UInt8} {w:World} (H:St b s h l w):leftM b s.length w=l.length:=by
 have:=H.le
 unfold leftM
 rw [H.cell]
 show s.length - (intOf (.int .i64 ((s.length - l.length:Nat):Int))).toNat=_
 simp [intOf]
 omega
def TestB (f:FuncId) (p:UInt8→Bool):Prop:=Callable Pg f∧∀ (w:World) (c:UInt8),Ret Pg f #[.int .u8 (c.toNat:Int)] w fun r w'=>r = .bool (p c)∧Ext w w'
theorem takeWhile_app {p:UInt8→Bool} {a l:List UInt8} (ha:a.all p=true) (hl:Stop p l):(a++l).takeWhile p=a∧(a++l).dropWhile p=l:=by
 induction a with
 | nil =>
  rcases hl with rfl | ⟨c,r,rfl,hc⟩
  · exact ⟨rfl,rfl⟩
  · simp [List.takeWhile_cons,List.dropWhile_cons,hc]
 | cons x a ih =>
  rw [List.all_cons,Bool.and_eq_true] at ha
  obtain ⟨h1,h2⟩:=ih ha.2
  simp [List.takeWhile_cons,List.dropWhile_cons,ha.1,h1,h2]
theorem run_ret (b h:Nat) (s l:List UInt8) (w0:World) (f:FuncId) (p:UInt8→Bool) (hf:TestB f p) (H:St b s h l w0):Ret Pg 71 #[.pointer (some ⟨b,0,none⟩),.func (.func f) #[] #[]] w0 fun r w'=>r = .string (mkB (l.takeWhile p))∧St b s h (l.dropWhile p) w'∧Kp b w0 w':=by
 have hs:=H.short
 have hle:=H.le
 refine n62s (R:=retR _) ?_;unfold n62
 simp (disch:=try exact DI) only [↓PR,QR,simprocAttr,(cells_of_heap H.cell).1]
 refine loop0_intro (fun w=>∃ pre l',l=pre++l'∧pre.all p=true∧St b s h l' w∧Kp b w0 w) (leftM b s.length) ⟨[],l,rfl,rfl,H,Kp.refl _ _⟩ ?_
 rintro w ⟨pre,l',rfl,hpre,H',hK⟩
 rw [H'.left]
 refine drawK_intro ?_
 have eD:Ext w (drew w):=(Ext.refl w).drew
 have H':=H'.ext eD
 have kD:Kp b w0 (drew w):=hK.trans (Kp.of eD)
 generalize drew w=D at *
 have hle':=H'.le
 have hend:∀ D,St b s h l' D→Kp b w0 D→Stop p l'→drawK D fun C4 w=>n62c1 (.pointer (some ⟨b,0,none⟩)) (.int .i64 ((s.length - (pre++l').length:Nat):Int)) C4 (retR fun r w'=>r = .string (mkB ((pre++l').takeWhile p))∧St b s h ((pre++l').dropWhile p) w'∧Kp b w0 w') w:=by
  intro D H' kD hst
  obtain ⟨t1,t2⟩:=takeWhile_app hpre hst
  rw [t1,t2]
  refine drawK_intro ?_
  have eD:Ext D (drew D):=(Ext.refl D).drew
  have H':=H'.ext eD
  have kD:Kp b w0 (drew D):=kD.trans (Kp.of eD)
  generalize drew D=E at *
  unfold n62c1
  have hsz:=mkB_size s
  have q1:∀ k':Value→Prop,qV Pg (EC E) (Instr.sliceAt 9 (.string (mkB s)) (some (.int .i64 ((s.length - (pre++l').length:Nat):Int))) (some (.int .i64 ((s.length - l'.length:Nat):Int))) none) k'=k' (.string (mkB pre)):=fun k'=>by
   rw [qV_of fun QP w k=>op_subS (P:=Pg) (QP:=QP) (w:=w) (k:=k) Tryz.underlying9 (mkB s) (s.length - (pre++l').length) (s.length - l'.length) (by simp only [List.length_append] at *;omega) (by rw [hsz];omega)]
   rw [sub_mkB,mkB_data,H.drop]
   congr 3
   rw [show s.length - l'.length - (s.length - (pre++l').length)=pre.length by simp only [List.length_append] at *;omega]
   simp
  simp (disch:=try exact DI) only [↓PR,QR,simprocAttr,(cells_of_heap H'.cell).1,q1]
  exact ⟨by trivial,H',kD⟩
 unfold n62c3 joinK
 cases l' with
 | nil =>
  have hd:decide (((s.length - ([]:List UInt8).length:Nat):Int) < ((mkB s).size:Int))=false:=by rw [mkB_size,List.length_nil,Nat.sub_zero];simp
  simp (disch:=try exact DI) only [↓PR,QR,simprocAttr,(cells_of_heap H'.cell).1,hd]
  exact hend D H' kD (.inl rfl)
 | cons a r =>
  have hd:decide (((s.length - (a::r).length:Nat):Int) < ((mkB s).size:Int))=true:=by
   rw [mkB_size]
   simp only [List.length_cons] at hle' ⊢
   simp
   omega
  have i1:=fun {QP:List PanicEntry→World→Prop} {w:World} {k':Value→World→Prop}=>op_indexS (P:=Pg) (QP:=QP) (w:=w) (k:=k') Tryz.underlying9 (mkB s) .i64 (s.length - (a::r).length) (by rw [mkB_data];exact H'.head rfl)
  have q1:∀ k':Value→Prop,qV Pg (EC D) (Instr.index 9 (.string (mkB s)) (.int .i64 ((s.length - (a::r).length:Nat):Int))) k'=k' (.int .u8 (a.toNat:Int)):=fun k'=>qV_of fun QP w k=>i1
  simp (disch:=try exact DI) only [↓PR,QR,simprocAttr,(cells_of_heap H'.cell).1,hd,q1]
  rw [callV_func hf.1]
  refine zcr (hf.2 D a) fun w1 e1=>?_
  refine ⟨e1,?_⟩
  have H1:=H'.ext e1
  have k1:=kD.trans (Kp.of e1)
  cases hpa:p a with
  | true =>
   have hw:IntKind.i64.wrap (((s.length - (a::r).length:Nat):Int)+1)=((s.length - (a::r).length+1:Nat):Int):=wrap_succ (by omega)
   simp (disch:=try exact DI) only [↓PR,QR,simprocAttr,hd]
   unfold n62c2
   simp (disch:=try exact DI) only [↓PR,QR,simprocAttr,(cells_of_heap H1.cell).1,(cells_of_heap H1.cell).2,hw]
   have H2:=H1.step rfl
   rw [H2.left]
   exact ⟨⟨pre++[a],r,by simp,by simp [hpre,hpa],H2,k1.trans (Kp.set _)⟩,by rw [List.length_cons];exact Nat.lt_succ_self _⟩
  | false =>
   simp (disch:=try exact DI) only [↓PR,QR,simprocAttr,hd]
   exact hend w1 H1 k1 (.inr ⟨a,r,rfl,hpa⟩)
theorem word_test:TestB 72 wordB:=by
 refine ⟨c72,fun w c=>?_⟩
 refine n66s (R:=retR _) ?_;unfold n66
 simp (disch:=try exact DI) only [↓PR,QR,simprocAttr]
 have o1:=heap_new w #[.int .u8 (c.toNat:Int)] 5
 have e1:Ext w (w.alloc (.cells #[.int .u8 (c.toNat:Int)] 5)):=ee
 generalize (w.alloc (.cells #[.int .u8 (c.toNat:Int)] 5))=W at o1 e1 ⊢
 rw [op_oneB o1,Int.toNat_natCast,UInt8.ofNat_toNat]
 have hq:∀ (QP:List PanicEntry→World→Prop) (k':Value→World→Prop),opV Pg (binS .add 9 true (.string { data := #[97] }) (.string { data := #[c] })) QP W k'=k' (.string (mkB [97,c])) W:=fun QP k'=>op_saddL _ _ [97] [c] (by simp)
 rw [hq]
 refine zcr (Name_ret W (mkB [97,c])) fun w2 e2=>?_
 simp (disch:=try exact DI) only [↓PR,QR,simprocAttr]
 refine ⟨?_,e1.trans e2⟩
 have key:∀ n:Fin 256,nameB (mkB [97,UInt8.ofNat n.val])=wordB (UInt8.ofNat n.val):=by decide +kernel
 have:=key ⟨c.toNat,c.toNat_lt⟩
 rw [UInt8.ofNat_toNat] at this
 rw [this]
theorem dig_test:TestB 76 digN:=by
 refine ⟨c76,fun w c=>?_⟩
 refine n67s (R:=retR _) ?_;unfold n67
 unfold joinK
 simp (disch:=try exact DI) only [↓PR,QR,simprocAttr]
 by_cases h:48≤c.toNat
 · have d:decide ((c.toNat:Int)≥48)=true:=decide_eq_true (by omega)
   simp (disch:=try exact DI) only [↓PR,QR,simprocAttr,d]
   refine ⟨?_,Ext.refl _⟩
   unfold digN
   rw [decide_eq_true h,Bool.true_and]
   congr 1
   exact decide_eq_decide.2 (by omega)
 · have d:decide ((c.toNat:Int)≥48)=false:=decide_eq_false (by omega)
   simp (disch:=try exact DI) only [↓PR,QR,simprocAttr,d]
   refine ⟨?_,Ext.refl _⟩
   unfold digN
   rw [decide_eq_false h,Bool.false_and]
def hexV (c:UInt8):Nat:=if c.toNat≤57 then c.toNat - 48 else c.toNat - 87
theorem hexT_index (c:UInt8):decide (Go.Lib.indexByte hexT.data.toList c≥0)=hexB c∧(hexB c=true→Go.Lib.indexByte hexT.data.toList c=((hexV c:Nat):Int)):=by
 have key:∀ n:Fin 256,decide (Go.Lib.indexByte hexT.data.toList (UInt8.ofNat n.val)≥0)=hexB (UInt8.ofNat n.val)∧(hexB (UInt8.ofNat n.val)=true→Go.Lib.indexByte hexT.data.toList (UInt8.ofNat n.val)=((hexV (UInt8.ofNat n.val):Nat):Int)):=by decide +kernel
 have:=key ⟨c.toNat,c.toNat_lt⟩
 simpa only [UInt8.ofNat_toNat] using this
theorem IndexHex_ret (w:World) (c:UInt8):Ret Pg 102 #[.string hexT,.int .u8 (c.toNat:Int)] w fun r w'=>r = .int .i64 (Go.Lib.indexByte hexT.data.toList c)∧w'=w:=by
 refine Calls.mono (sh_strings_IndexByte hexT (c.toNat:Int) w) ?_
 rintro e w' ⟨rfl,rfl⟩
 refine ⟨_,rfl,?_,rfl⟩
 rw [Int.toNat_natCast]
 congr 2
 exact UInt8.ofNat_toNat
theorem hex_test:TestB 101 hexB:=by
 refine ⟨c101,fun w c=>?_⟩
 refine n64s (R:=retR _) ?_;unfold n64
 refine callK_ret (IndexHex_ret w c) ?_
 rintro _ w1 ⟨rfl,rfl⟩
 simp (disch:=try exact DI) only [↓PR,QR,simprocAttr]
 refine ⟨?_,Ext.refl _⟩
 rw [(hexT_index c).1]
theorem Atoi_big {w:World} (hE:EnvOK w) (s:ByteArray) (hs:s.size≤100000000):Ret Pg 75 #[.string s] w fun r w'=>Ext w w'∧∃ n e,r = .tuple #[.int .i64 n,e]∧((Go.Lib.atoiAll s.data.toList = .ok n∧e = .nilIface)∨((∀ v,Go.Lib.atoiAll s.data.toList ≠ .ok v)∧∃ t x,e = .iface t x)):=by
 match h:Go.Lib.atoiAll s.data.toList with
 | .ok v =>
  refine Calls.mono (sh_strconv_Atoi_ok s (by omega) v h w) ?_
  rintro e w' ⟨rfl,rfl | ⟨t,rfl⟩⟩
  · exact ⟨_,rfl,Ext.refl _,_,_,rfl,.inl ⟨rfl,rfl⟩⟩
  · exact ⟨_,rfl,Ext.of_below (Go.Lib.bytesWorld_below w 5 t),_,_,rfl,.inl ⟨rfl,rfl⟩⟩
 | Go.Lib.NumEnd.syntax =>
  obtain ⟨ev,h1,h2⟩:=hE.syn
  refine Calls.mono (sh_strconv_Atoi_syntax s (by omega) h ev w h1 h2) ?_
  rintro e w' ⟨N,rfl,_,_,hb⟩
  exact ⟨_,rfl,Ext.of_below hb,_,_,rfl,.inr ⟨fun v hv=>(by cases hv),_,_,rfl⟩⟩
 | Go.Lib.NumEnd.range =>
  obtain ⟨ev,h1,h2⟩:=hE.rng
  refine Calls.mono (sh_strconv_Atoi_range s (by omega) h ev w h1 h2) ?_
  rintro e w' ⟨N,rfl,_,_,hb⟩
  exact ⟨_,rfl,Ext.of_below hb,_,_,rfl,.inr ⟨fun v hv=>(by cases hv),_,_,rfl⟩⟩
def errF:List PanicEntry:=[{ v := .iface 33 (.int .i64 6),recovered:=false }]
theorem must_ret (w:World) (t:Bool):Calls Pg 52 #[.bool t] w fun e w'=>w'=w∧(match t with | true=>∃ v,e = .returned v | false=>e = .panicked errF):=by
 refine n58s (t0 := .bool t) ?_
 unfold n58
 cases t with
 | true =>
  simp (disch:=try exact DI) only [↓PR,QR,simprocAttr]
  exact ⟨by trivial,_,rfl⟩
 | false =>
  simp (disch:=try exact DI) only [↓PR,QR,simprocAttr]
  rw [op_panic]
  exact ⟨rfl,rfl⟩
theorem must_call {w:World} {t:Bool} {QP:List PanicEntry→World→Prop} {k:Value→World→Prop} (h1:t=true→∀ v,k v w) (h2:t=false→QP errF w):callK Pg 52 #[.bool t] QP w k:=by
 refine callK_calls (must_ret w t) ?_ ?_ ?_
 · rintro v w' ⟨rfl,h⟩
   cases t with
   | true=>exact h1 rfl v
   | false=>cases h
 · rintro ch w' ⟨rfl,h⟩
   cases t with
   | true=>obtain ⟨_,h⟩:=h;cases h
   | false=>injection h with h;rw [h];exact h2 rfl
 · rintro w' ⟨_,h⟩
   cases t with
   | true=>obtain ⟨_,h⟩:=h;cases h
   | false=>cases h
def unhexL:List UInt8→List UInt8
 | a::b::l=>UInt8.ofNat (16*hexV a+hexV b)::unhexL l
 | _=>[]
theorem hexV_lt {c:UInt8} (h:hexB c=true):hexV c < 16:=by
 unfold hexB at h
 simp only [Bool.or_eq_true,Bool.and_eq_true,decide_eq_true_eq] at h
 unfold hexV
 split<;>omega
theorem hexV_D {n:Nat} (h:n < 16):hexV (hexD n)=n∧hexB (hexD n)=true:=by
 have key:∀ n:Fin 16,hexV (hexD n.val)=n.val∧hexB (hexD n.val)=true:=by decide +kernel
 exact key ⟨n,h⟩
theorem unhex_hex:∀ l:List UInt8,unhexL (hexL l)=l
 | []=>rfl
 | c::l=>by
  show unhexL (hexD (c.toNat / 16)::hexD (c.toNat % 16)::hexL l)=_
  unfold unhexL
  rw [(hexV_D (n:=c.toNat / 16) (by have:=c.toNat_lt;omega)).1,(hexV_D (n:=c.toNat % 16) (by omega)).1,unhex_hex l,Nat.div_add_mod,UInt8.ofNat_toNat]
theorem hexL_all (l:List UInt8):(hexL l).all hexB=true:=by
 induction l with
 | nil=>rfl
 | cons c l ih =>
  show (hexD (c.toNat / 16)::hexD (c.toNat % 16)::hexL l).all hexB=true
  simp only [List.all_cons,Bool.and_eq_true]
  exact ⟨(hexV_D (n:=c.toNat / 16) (by have:=c.toNat_lt;omega)).2,(hexV_D (n:=c.toNat % 16) (by omega)).2,ih⟩
theorem unhex_len:∀ (l:List UInt8),(unhexL l).length=l.length / 2
 | []=>rfl
 | [_]=>by unfold unhexL;simp
 | a::b::l=>by
  unfold unhexL
  rw [List.length_cons,unhex_len l,List.length_cons,List.length_cons]
  omega
theorem unhex_get:∀ (l:List UInt8) (i:Nat) (a b:UInt8),l[2*i]?=some a→l[2*i+1]?=some b→(unhexL l)[i]?=some (UInt8.ofNat (16*hexV a+hexV b))
 | [],i,a,b,h,_=>by cases h
 | [x],i,a,b,h,h'=>by
  cases i with
  | zero=>cases h'
  | succ i=>simp at h'
 | x::y::l,0,a,b,h,h'=>by
  simp only [Nat.mul_zero,List.getElem?_cons_zero,Option.some.injEq] at h
  simp only [Nat.mul_zero,Nat.zero_add,List.getElem?_cons_succ,List.getElem?_cons_zero,Option.some.injEq] at h'
  subst h h'
  rfl
 | x::y::l,i+1,a,b,h,h'=>by
  unfold unhexL
  rw [List.getElem?_cons_succ]
  exact unhex_get l i a b (by rw [show 2*(i+1)=2*i+1+1 by omega] at h;simpa using h) (by rw [show 2*(i+1)+1=2*i+1+1+1 by omega] at h';simpa using h')
theorem op_makeBytes {QP:List PanicEntry→World→Prop} {w:World} {k:Value→World→Prop} (n:Nat) (hn:n≤1000000000):opV Pg (Instr.makeSlice 22 (.int .i64 (n:Int)) (.int .i64 (n:Int))) QP w k =
 k (.slice (some ⟨w.heap.size,0,none⟩) n n) (w.alloc (.cells ((List.replicate n (0:UInt8)).map fun x=>Value.int .u8 (x.toNat:Int)).toArray 5)):=by
 obtain ⟨⟨i,hi,hs,hby,hz⟩,_⟩:=ty5
 have h1:=by5
 rw [opV_ok (run_make_row (P:=Pg) 22 5 i _ Tryz.underlying22 hi hz hs rfl .i64 .i64 n (by rw [hby];exact Nat.le_trans (Nat.mul_le_mul h1 hn) (by decide)) (by omega) w)]
 congr 3
 rw [List.map_replicate,← toList_madeCells_one]
 rfl
def YRow (w:World) (b:Nat) (L:List UInt8):Prop:=w.heap[b]?=some (.cells (L.map fun x=>Value.int .u8 (x.toNat:Int)).toArray 5 (0,0))
theorem YRow.ext {w w':World} {b:Nat} {L:List UInt8} (h:YRow w b L) (e:Ext w w'):YRow w' b L:=e.obj h
theorem YRow.set {w:World} {b:Nat} {L:List UInt8} (h:YRow w b L) (i:Nat) (x:UInt8):YRow (w.setCell ⟨b,i,none⟩ (.int .u8 (x.toNat:Int))) b (L.set i x):=by
 have:=heap_set (o:=i) h (.int .u8 (x.toNat:Int))
 unfold YRow
 rw [this,List.setIfInBounds_toArray,List.map_set]
theorem YRow.own {w:World} {b base:Nat} {L:List UInt8} (h:YRow w b L) (hb:base≤b) (hl:L.length≤1000000000):OwnB w base (.slice (some ⟨b,0,none⟩) L.length L.length) L:=by
 refine ⟨?_,.inr ⟨b,_,_,rfl,hb,h,Nat.le_refl _,?_,?_,?_⟩⟩
 · rw [encB_flat,List.length_map,Nat.mul_one]
 · simp only [maxLen];omega
 · simp
 · rw [encB_flat,Nat.mul_one]
   exact List.take_of_length_le (by simp)
theorem shl_or (a b:Nat) (ha:a < 16) (hb:b < 16):IntKind.u8.wrap (bits BinOp.or IntKind.i64 (IntKind.i64.wrap ((a:Int)*2 ^ 4)) (b:Int))=(((UInt8.ofNat (16*a+b)).toNat:Nat):Int):=by
 have key:∀ a b:Fin 16,IntKind.u8.wrap (bits BinOp.or IntKind.i64 (IntKind.i64.wrap ((a.val:Int)*2 ^ 4)) (b.val:Int))=(((UInt8.ofNat (16*a.val+b.val)).toNat:Nat):Int):=by decide +kernel
 exact key ⟨a,ha⟩ ⟨b,hb⟩
theorem op_orI {QP:List PanicEntry→World→Prop} {w:World} {k:Value→World→Prop} (t:TypeId) (c:Bool) (x y:Int):opV Pg (binS .or t c (.int .i64 x) (.int .i64 y)) QP w k=k (.int .i64 (bits BinOp.or IntKind.i64 x y)) w:=opV_ok (by
 rw [run_bin_int _ _ _ _ _ _ rfl]
 generalize hz:bits BinOp.or IntKind.i64 x y=z
 simp [go_sem,hz])
theorem hex_ret (b h:Nat) (s l:List UInt8) (w0:World) (H:St b s h l w0):Calls Pg 77 #[.pointer (some ⟨b,0,none⟩)] w0 fun e w'=>Kp b w0 w'∧(if (l.takeWhile hexB).length % 2=0 then ∃ v,e = .returned v∧OwnB w' w0.heap.size v (unhexL (l.takeWhile hexB))∧St b s h (l.dropWhile hexB) w' else e = .panicked errF):=by
 refine n63s (t0 := .pointer (some ⟨b,0,none⟩)) ?_
 unfold n63
 simp (disch:=try exact DI) only [↓PR,QR,simprocAttr]
 refine callK_ret (run_ret b h s l w0 _ hexB hex_test H) ?_
 rintro _ w1 ⟨rfl,H1,k1⟩
 unfold n63c5
 have hlen:(l.takeWhile hexB).length≤100000000:=by
  have h1:=(List.takeWhile_sublist (p:=hexB) (l:=l)).length_le
  have h2:=H.le
  have h3:=H.short
  omega
 have hsz:=mkB_size (l.takeWhile hexB)
 have hall:∀ c∈l.takeWhile hexB,hexB c=true:=fun c hc=>(List.all_eq_true.1 List.all_takeWhile) c hc
 generalize l.takeWhile hexB=T at *
 have hr:((T.length:Int).tmod 2)=((T.length % 2:Nat):Int):=by rw [Int.tmod_eq_emod_of_nonneg (by omega)];omega
 rw [← hsz] at hr
 simp (disch:=try exact DI) only [↓PR,QR,simprocAttr]
 rw [hr,hsz]
 refine must_call (fun ht v=>?_) (fun ht=>?_)
 rotate_left
 · have h0:¬ T.length % 2=0:=by
    intro e;rw [e] at ht;simp at ht
   refine ⟨k1,?_⟩
   rw [if_neg h0]
 have h0:T.length % 2=0:=by
  have:((T.length % 2:Nat):Int)=0:=by simpa using ht
  omega
 simp only [if_pos h0]
 unfold n63c4
 have hq:IntKind.i64.wrap ((T.length:Int).tdiv 2)=((T.length / 2:Nat):Int):=by
  rw [Int.tdiv_eq_ediv_of_nonneg (by omega),wrap_ok (by omega) (by omega)]
  omega
 simp (disch:=try exact DI) only [↓PR,QR,simprocAttr]
 rw [hsz,op_quo _ _ _ _ _ (by decide),hq,op_makeBytes _ (by omega)]
 have oX:=heap_new w1 ((List.replicate (T.length / 2) (0:UInt8)).map fun x=>Value.int .u8 (x.toNat:Int)).toArray 5
 have eX:Ext w1 (w1.alloc (.cells ((List.replicate (T.length / 2) (0:UInt8)).map fun x=>Value.int .u8 (x.toNat:Int)).toArray 5)):=(Ext.refl _).alloc _
 generalize (w1.alloc (.cells ((List.replicate (T.length / 2) (0:UInt8)).map fun x=>Value.int .u8 (x.toNat:Int)).toArray 5))=X at oX eX ⊢
 have hzX:=eX.size
 have hpX:=(Array.getElem?_eq_some_iff.1 oX).1
 have k1s:=k1.size
 have hbX:b≠w1.heap.size:=by have:=(Array.getElem?_eq_some_iff.1 H1.cell).1;omega
 generalize w1.heap.size=p at *
 have kX:=k1.trans (Kp.of eX)
 have HX:=H1.ext eX
 have hul:=unhex_len T
 simp (disch:=try exact DI) only [↓PR,QR,simprocAttr]
 refine loop1_intro (fun a w=>∃ (k:Nat) (L:List UInt8),a = .int .i64 k∧k≤T.length / 2∧L.length=T.length / 2∧(∀ j,j < k→L[j]?=(unhexL T)[j]?)∧YRow w p L∧St b s h (l.dropWhile hexB) w∧Kp b w0 w) (fun a _=>T.length / 2 - (intOf a).toNat) ⟨0,_,rfl,by omega,by simp,fun j hj=>by omega,oX,HX,kX⟩ ?_
 rintro _ w ⟨k,L,rfl,hk,hL,hLk,hY,HW,hK⟩
 by_cases hlt:k < T.length / 2
 · have hdec:decide ((k:Int) < ((T.length / 2:Nat):Int))=true:=decide_eq_true (by omega)
   rw [op_lss,hdec]
   simp (disch:=try exact DI) only [↓PR,QR,simprocAttr]
   refine drawK_intro ?_
   have eD:Ext w (drew w):=(Ext.refl w).drew
   have hY:=hY.ext eD
   have HW:=HW.ext eD
   have hK:=hK.trans (Kp.of eD)
   generalize drew w=D at *
   obtain ⟨x,hx⟩:=getElem?_lt (l:=T) (k:=2*k) (by omega)
   obtain ⟨y,hy⟩:=getElem?_lt (l:=T) (k:=2*k+1) (by omega)
   have hxB:=hall x (List.mem_of_getElem? hx)
   have hyB:=hall y (List.mem_of_getElem? hy)
   have w1':IntKind.i64.wrap (2*(k:Int))=((2*k:Nat):Int):=by rw [wrap_ok (by omega) (by omega)];omega
   have w2':IntKind.i64.wrap (((2*k:Nat):Int)+1)=((2*k+1:Nat):Int):=wrap_succ (by omega)
   have q1:∀ k':Value→Prop,qV Pg (EC D) (Instr.index 9 (.string (mkB T)) (.int .i64 ((2*k:Nat):Int))) k'=k' (.int .u8 (x.toNat:Int)):=fun k'=>qV_of fun QP w k'=>op_indexS Tryz.underlying9 (mkB T) .i64 (2*k) (by rw [mkB_data];exact hx)
   have q2:∀ k':Value→Prop,qV Pg (EC D) (Instr.index 9 (.string (mkB T)) (.int .i64 ((2*k+1:Nat):Int))) k'=k' (.int .u8 (y.toNat:Int)):=fun k'=>qV_of fun QP w k'=>op_indexS Tryz.underlying9 (mkB T) .i64 (2*k+1) (by rw [mkB_data];exact hy)
   unfold n63c3
   rw [qV_of fun QP w k'=>op_mul _ _ _ _ _,w1',q1,qV_of fun QP w k'=>op_mul _ _ _ _ _,w1',qV_of fun QP w k'=>op_add _ _ _ _ _,w2',q2]
   refine callK_ret (IndexHex_ret D x) ?_
   rintro _ w2 ⟨rfl,hw2⟩
   rw [hw2]
   refine ⟨Ext.refl _,?_⟩
   rw [(hexT_index x).2 hxB]
   unfold n63c2
   rw [qV_of fun QP w k'=>op_shl _ _ _ _ _ (by decide) (by decide)]
   refine callK_ret (IndexHex_ret D y) ?_
   rintro _ w3 ⟨rfl,hw3⟩
   rw [hw3]
   refine ⟨Ext.refl _,?_⟩
   rw [(hexT_index y).2 hyB]
   unfold n63c1
   have dk:(k:Int) < ((T.length / 2:Nat):Int):=by omega
   have h4:(4:Int).toNat=4:=rfl
   rw [qV_of fun QP w k'=>op_orI _ _ _ _,h4]
   simp (disch:=try exact DI) only [↓PR,QR,simprocAttr,dk]
   rw [shl_or _ _ (hexV_lt hxB) (hexV_lt hyB)]
   have hYl:=(Array.getElem?_eq_some_iff.1 hY).1
   have hcell:∃ u,D.cell? ⟨p,k*1,none⟩=some u:=by
    rw [(cells_of_heap hY).1]
    exact ⟨_,Array.getElem?_eq_getElem (by simp;omega)⟩
   obtain ⟨u0,hcell⟩:=hcell
   simp (disch:=try exact DI) only [↓PR,QR,simprocAttr,hcell,(cells_of_heap hY).2]
   refine turnK_intro ?_
   simp (disch:=try exact DI) only [↓PR,QR,simprocAttr]
   rw [Nat.mul_one]
   refine ⟨⟨k+1,L.set k (UInt8.ofNat (16*hexV x+hexV y)),rfl,by omega,by rw [List.length_set];exact hL,fun j hj=>?_,hY.set k _,⟨?_,HW.suf,HW.short⟩,hK.setNew (by omega) _⟩,meas_lt (kd := .i64) hlt⟩
   · by_cases hjk:j=k
     · subst hjk
       rw [List.getElem?_set_self (by omega),unhex_get T j x y hx hy]
     · rw [List.getElem?_set_ne (by omega)]
       exact hLk j (by omega)
   · rw [heap_setE hbX]
     exact HW.cell
 · have hk':k=T.length / 2:=by omega
   have hdec:decide ((k:Int) < ((T.length / 2:Nat):Int))=false:=decide_eq_false (by omega)
   rw [op_lss,hdec]
   simp (disch:=try exact DI) only [↓PR,QR,simprocAttr]
   have hLU:L=unhexL T:=List.ext_getElem? fun j=>by
    by_cases hj:j < k
    · exact hLk j hj
    · rw [List.getElem?_eq_none (by omega),List.getElem?_eq_none (by omega)]
   subst hLU
   refine ⟨hK,_,rfl,?_,HW⟩
   have:=hY.own (base:=w0.heap.size) (by omega) (by omega)
   rw [hL] at this
   exact this
def CellX (w w':World):Prop:=∀ (b o:Nat) (u:Value),w.cell? ⟨b,o,none⟩=some u→w'.cell? ⟨b,o,none⟩=some u
theorem ElemAt.cx {w w':World} {b o:Nat} {cs:List Value} (h:ElemAt w b o cs) (e:CellX w w'):ElemAt w' b o cs:=fun j v hv=>e _ _ _ (h j v hv)
theorem SliceOf.cx {α:Type} {w w':World} {n:Nat} {E E':List Value→α→Prop} {v:Value} {l:List α} (e:CellX w w') (hE:∀ cs x,x∈l→E cs x→E' cs x) (h:SliceOf w n (fun _=>E) v l):SliceOf w' n (fun _=>E') v l:=by
 obtain ⟨A,c,a1,a2,a3,a4⟩:=h
 refine ⟨A,c,a1,a2,a3,fun hne=>?_⟩
 obtain ⟨b,o,hA,h5⟩:=a4 hne
 refine ⟨b,o,hA,fun k x hx=>?_⟩
 obtain ⟨cs,h6,h7,h8⟩:=h5 k x hx
 exact ⟨cs,h6,ElemAt.cx h7 e,hE cs x (List.mem_of_getElem? hx) h8⟩
theorem BytesOf.cx {w w':World} {v:Value} {l:List UInt8} (h:BytesOf w v l) (e:CellX w w'):BytesOf w' v l:=SliceOf.cx (E:=EByte w) (E':=EByte w') e (fun _ _ _ h=>h) h
theorem HdrsOf.cx {w w':World} {v:Value} {l:List (ByteArray×ByteArray)} (h:HdrsOf w v l) (e:CellX w w'):HdrsOf w' v l:=SliceOf.cx (E:=EHdr w) (E':=EHdr w') e (fun _ _ _ h=>h) h
theorem ETr.cx {w w':World} (e:CellX w w') (t:Tr):∀ cs,ETr w cs t→ETr w' cs t:=by
 refine Tr.ind (p:=fun t=>∀ cs,ETr w cs t→ETr w' cs t) ?_ t
 intro n ps ih cs h
 obtain ⟨bv,hv,pv,rfl,h1,h2,h3⟩:=ETr_mk.1 h
 exact ETr_mk.2 ⟨bv,hv,pv,rfl,h1.cx e,h2.cx e,SliceOf.cx (E:=ETr w) (E':=ETr w') e (fun cs x hx h=>ih x hx cs h) h3⟩
def restr (w:World) (a e:Nat):World:={ w with heap:=w.heap.mapIdx fun i o=>if a≤i∧i < e then o else .deferred none }
theorem restr_heap (w:World) (a e k:Nat):(restr w a e).heap[k]?=(w.heap[k]?).map fun o=>if a≤k∧k < e then o else .deferred none:=by
 show (w.heap.mapIdx _)[k]?=_
 rw [Array.getElem?_mapIdx]
theorem restr_in {w:World} {a e k:Nat} (h:a≤k∧k < e):(restr w a e).heap[k]?=w.heap[k]?:=by
 rw [restr_heap]
 cases w.heap[k]? with
 | none=>rfl
 | some o=>rw [Option.map_some,if_pos h]
theorem restr_cell {w:World} {a e b o:Nat} {u:Value} (h:(restr w a e).cell? ⟨b,o,none⟩=some u):(a≤b∧b < e)∧w.cell? ⟨b,o,none⟩=some u:=by
 by_cases hb:a≤b∧b < e
 · refine ⟨hb,?_⟩
   rw [← h]
   exact (World.cell?_of_block (restr_in hb)).symm
 · exfalso
   unfold World.cell? at h
   simp only at h
   rw [restr_heap] at h
   cases hh:w.heap[b]? with
   | none=>rw [hh] at h;cases h
   | some x =>
    rw [hh,Option.map_some,if_neg hb] at h
    cases h
theorem cell_restr {w:World} {a e b o:Nat} (hb:a≤b∧b < e):(restr w a e).cell? ⟨b,o,none⟩=w.cell? ⟨b,o,none⟩:=World.cell?_of_block (restr_in hb)
theorem restr_cx {w w':World} {a e a' e':Nat} (ha:a'≤a) (he:e≤e') (h:∀ k,a≤k→k < e→k < w.heap.size→w'.heap[k]?=w.heap[k]?):CellX (restr w a e) (restr w' a' e'):=by
 intro b o u hu
 obtain ⟨hb,hc⟩:=restr_cell hu
 have hl:=World.block_lt_of_cell? w _ hc
 rw [cell_restr (by omega),← hc]
 exact World.cell?_of_block (h b hb.1 hb.2 hl)
theorem restr_all (w:World) (a e:Nat):CellX (restr w a e) w:=fun b o u hu=>(restr_cell hu).2
def ETi (w:World) (a e:Nat) (cs:List Value) (t:Tr):Prop:=ETr (restr w a e) cs t
theorem ETi.keep {w w':World} {a e a' e':Nat} {cs:List Value} {t:Tr} (h:ETi w a e cs t) (ha:a'≤a) (he:e≤e') (hk:∀ k,a≤k→k < e→k < w.heap.size→w'.heap[k]?=w.heap[k]?):ETi w' a' e' cs t:=ETr.cx (restr_cx ha he hk) t cs h
theorem ETi.all {w:World} {a e:Nat} {cs:List Value} {t:Tr} (h:ETi w a e cs t):ETr w cs t:=ETr.cx (restr_all w a e) t cs h
theorem OwnE.same {α:Type} {w w':World} {lo n:Nat} {T:TypeId} {enc:α→List Value} {v:Value} {l:List α} (h:OwnE w lo T n enc v l) (hk:∀ g,v.ownBlock=some g→w'.heap[g]?=w.heap[g]?):OwnE w' lo T n enc v l:=by
 obtain ⟨h1,h2⟩:=h
 refine ⟨h1,?_⟩
 rcases h2 with h2 | ⟨g,cap,cur,hv,hb,hc,h3⟩
 · exact .inl h2
 · exact .inr ⟨g,cap,cur,hv,hb,(hk g (by rw [hv];rfl)).trans hc,h3⟩
theorem OwnE.restr {α:Type} {w:World} {lo n a:Nat} {T:TypeId} {enc:α→List Value} {v:Value} {l:List α} (h:OwnE w lo T n enc v l) (ha:a≤lo):OwnE (restr w a w.heap.size) lo T n enc v l:=OwnE.same h fun g hg=>restr_in (by have:=World.ownsRow.lt h g hg;omega)
theorem OwnE.lt' {α:Type} {w:World} {lo n:Nat} {T:TypeId} {enc:α→List Value} {v:Value} {l:List α} (h:OwnE w lo T n enc v l) {g:Nat} (hg:v.ownBlock=some g):lo≤g∧g < w.heap.size:=World.ownsRow.lt h g hg
theorem OwnE.type {α:Type} {w:World} {lo n:Nat} {T:TypeId} {enc:α→List Value} {v:Value} {l:List α} (h:OwnE w lo T n enc v l) {g:Nat} (hg:v.ownBlock=some g):TypeAt w g T:=by
 rcases h.2 with ⟨rfl,_⟩ | ⟨g',cap,cur,rfl,_,hc,_⟩
 · cases hg
 · cases hg
   exact ⟨_,_,hc⟩
def numP (l:List UInt8):Option (Int×List UInt8):=match Go.Lib.atoiAll (l.takeWhile digN) with
 | .ok n=>some (n,l.dropWhile digN)
 | _=>none
def hxP (l:List UInt8):Option (List UInt8×List UInt8):=if (l.takeWhile hexB).length % 2=0 then some (unhexL (l.takeWhile hexB),l.dropWhile hexB) else none
def RP:Rd:=⟨fun l=>some (l.takeWhile wordB,l.dropWhile wordB),numP,hxP⟩
theorem decD_small:∀ (k v:Nat),v < 10 ^ (k+1)→(Go.Lib.decDigits v).length≤k+1:=by
 intro k
 induction k with
 | zero =>
  intro v hv
  rw [Go.Lib.decDigits,dif_pos (by omega)]
  simp
 | succ k ih =>
  intro v hv
  rw [Go.Lib.decDigits]
  split
  · simp
  · have:=ih (v / 10) (by rw [Nat.pow_succ] at hv;omega)
    rw [List.length_append,List.length_singleton]
    omega
theorem decD_atoi {u:Nat} (h:u < 1000000000000):Go.Lib.atoiAll (Go.Lib.decDigits u) = .ok (u:Int):=by
 obtain ⟨h0,h1,h2,h3⟩:=dec_ok u
 have hl:=decD_small 11 u h
 have hm:=mag_val h0 h1 (by omega)
 rw [h2] at hm
 cases hd:Go.Lib.decDigits u with
 | nil=>exact absurd hd h0
 | cons c r =>
  rw [hd] at h1 hm
  have hc:=List.all_eq_true.1 h1 c (List.mem_cons_self ..)
  rw [digN_iff] at hc
  rw [Go.Lib.atoiAll_plain c r (by omega) (by omega),hm]
  unfold Go.Lib.signless
  simp only
  rw [if_neg (by omega)]
theorem name_words {s:ByteArray} (h:nameB s=true):s.data.toList.all wordB=true:=by
 unfold nameB at h
 rw [Bool.and_eq_true] at h
 exact h.2
theorem RP_ok:RdOk RP:=by
 refine ⟨fun s rest hs hr=>?_,fun n rest h0 h1 hr=>?_,fun l rest hr=>?_⟩
 · obtain ⟨h1,h2⟩:=takeWhile_app (name_words hs) hr
   show some (_,_)=_
   rw [h1,h2]
 · obtain ⟨d0,d1,d2,d3⟩:=dec_ok n.toNat
   have hi:Go.Lib.itoa n=Go.Lib.decDigits n.toNat:=itoa_pos (by omega)
   rw [hi]
   obtain ⟨h1,h2⟩:=takeWhile_app d1 hr
   show numP _=_
   unfold numP
   rw [h1,h2,decD_atoi (by omega)]
   simp only
   rw [show ((n.toNat:Nat):Int)=n by omega]
 · obtain ⟨h1,h2⟩:=takeWhile_app (hexL_all l) hr
   show hxP _=_
   unfold hxP
   rw [h1,h2,if_pos (by rw [hexL_len];omega),unhex_hex]
def contP (rd:List UInt8→Option (Tr×List UInt8)) (k:Nat) (l:List UInt8):Option (List Tr×List UInt8):=match l with
 | 32::l2=>readP rd k l2
 | 41::l2=>some ([],l2)
 | _=>none
theorem readP_succ (rd:List UInt8→Option (Tr×List UInt8)) (k:Nat) (l:List UInt8):readP rd (k+1) l=match rd l with
 | some q=>(contP rd k q.2).map fun r=>(q.1::r.1,r.2)
 | none=>none:=by
 rw [readP]
 cases rd l with
 | none=>rfl
 | some q =>
  obtain ⟨t,l1⟩:=q
  simp only
  unfold contP
  split
  · rename_i h
    injection h with h
    injection h with h1 h2
    subst h1 h2
    rfl
  · rename_i h
    injection h with h
    injection h with h1 h2
    subst h1 h2
    rfl
  · rename_i h1 h2
    split
    · rename_i l2
      exact absurd rfl (h1 t l2)
    · rename_i l2
      exact absurd rfl (h2 t l2)
    · rfl
theorem hxP_len {l a l':List UInt8} (h:hxP l=some (a,l')):l'.length≤l.length:=by
 unfold hxP at h
 split at h
 · injection h with h
   injection h with _ h
   rw [← h]
   exact (List.dropWhile_sublist _).length_le
 · cases h
structure RvC (A w0:World) (b p:Nat):Prop where
 env:EnvOK A
 eA:Ext A w0
 hb:A.heap.size≤b
 hbw:b < w0.heap.size
 lo:w0.heap.size≤p
def KidsOf (w:World) (p:Nat) (pv:Value) (css:List (Cs 5)) (ts:List Tr):Prop:=css.length=ts.length∧∀ (k:Nat) (c:Cs 5) (x:Tr),css[k]?=some c→ts[k]?=some x→∃ a e,p < a∧e≤w.heap.size∧ETi w a e c.1 x∧∀ g,pv.ownBlock=some g→g < a∨e≤g
structure Rv (w0:World) (b p:Nat) (s:List UInt8) (h:Nat) (l:List UInt8) (nm:ByteArray) (i:Int) (bs:List UInt8) (hs:List (ByteArray×ByteArray)) (ts:List Tr) (bv hv pv:Value) (w:World):Prop where
 kp:Kp b w0 w
 st:St b s h l w
 box:w.heap[p]?=some (.cells #[.string nm,.int .i64 i,bv,hv,pv] 26 (0,0))
 ob:OwnB w (p+1) bv bs
 oh:OwnE w (p+1) 74 2 encH hv hs
 ov:∃ css:List (Cs 5),OwnE w (p+1) 26 5 (Subtype.val:Cs 5→List Value) pv css∧KidsOf w p pv css ts
section
variable {A w0:World} {b p:Nat} {s:List UInt8} {h:Nat} {l:List UInt8} {nm:ByteArray} {i:Int} {bs:List UInt8} {hs:List (ByteArray×ByteArray)} {ts:List Tr} {bv hv pv:Value} {w w':World}
theorem KidsOf.keep {css:List (Cs 5)} (hk:KidsOf w p pv css ts) (hsz:w.heap.size≤w'.heap.size) (hkeep:∀ k,p < k→k < w.heap.size→pv.ownBlock≠some k→w'.heap[k]?=w.heap[k]?):KidsOf w' p pv css ts:=by
 refine ⟨hk.1,fun k c x hc hx=>?_⟩
 obtain ⟨a,e,h1,h2,h3,h4⟩:=hk.2 k c x hc hx
 refine ⟨a,e,h1,by omega,h3.keep (Nat.le_refl _) (Nat.le_refl _) fun j hj1 hj2 hj3=>hkeep j (by omega) hj3 fun hg=>?_,h4⟩
 have:=h4 j hg
 omega
theorem Rv.move (H:Rv w0 b p s h l nm i bs hs ts bv hv pv w) {h':Nat} {l':List UInt8} {nm':ByteArray} {i':Int} (hkp:Kp b w0 w') (hst:St b s h' l' w') (hbox:w'.heap[p]?=some (.cells #[.string nm',.int .i64 i',bv,hv,pv] 26 (0,0))) (hsz:w.heap.size≤w'.heap.size) (hkeep:∀ k,p < k→k < w.heap.size→w'.heap[k]?=w.heap[k]?):Rv w0 b p s h' l' nm' i' bs hs ts bv hv pv w':=by
 obtain ⟨css,o1,o2⟩:=H.ov
 exact ⟨hkp,hst,hbox,OwnE.same H.ob fun g hg=>hkeep g (by have:=OwnE.lt' H.ob hg;omega) (OwnE.lt' H.ob hg).2,OwnE.same H.oh fun g hg=>hkeep g (by have:=OwnE.lt' H.oh hg;omega) (OwnE.lt' H.oh hg).2,css,OwnE.same o1 fun g hg=>hkeep g (by have:=OwnE.lt' o1 hg;omega) (OwnE.lt' o1 hg).2,o2.keep hsz fun k h1 h2 _=>hkeep k h1 h2⟩
theorem Rv.call (H:Rv w0 b p s h l nm i bs hs ts bv hv pv w) (C:RvC A w0 b p) {h':Nat} {l':List UInt8} (hkp:Kp b w w') (hst:St b s h' l' w'):Rv w0 b p s h' l' nm i bs hs ts bv hv pv w':=by
 have h1:=C.hbw
 have h2:=C.lo
 exact H.move (H.kp.trans hkp) hst (hkp.obj H.box (by omega)) hkp.size fun k hk hk'=>hkp.keep k hk' (by omega)
theorem Rv.ext (H:Rv w0 b p s h l nm i bs hs ts bv hv pv w) (C:RvC A w0 b p) (e:Ext w w'):Rv w0 b p s h l nm i bs hs ts bv hv pv w':=H.call C (Kp.of e) (H.st.ext e)
theorem Rv.done (H:Rv w0 b p s h l nm i bs hs ts bv hv pv w) (C:RvC A w0 b p):ETi w w0.heap.size w.heap.size [.string nm,.int .i64 i,bv,hv,pv] (.mk ⟨nm,i,bs,hs⟩ ts):=by
 have h1:=C.lo
 obtain ⟨css,o1,o2⟩:=H.ov
 refine ETr_mk.2 ⟨bv,hv,pv,rfl,OwnE.slice (OwnE.restr H.ob (by omega)) (fun _=>rfl) (fun _ _=>rfl),OwnE.slice (OwnE.restr H.oh (by omega)) (fun _=>rfl) (fun _ _=>rfl),OwnE.reads (OwnE.restr o1 (by omega)) ⟨o2.1,fun k x c hx hc=>?_⟩⟩
 obtain ⟨a,e,h2,h3,h4,_⟩:=o2.2 k c x hc hx
 exact h4.keep (by omega) h3 fun _ _ _ _=>rfl
end
def Post (w0:World) (b:Nat) (s:List UInt8) (h0:Nat) (o:Option (Tr×List UInt8)):Ending→World→Prop:=fun e w'=>Kp b w0 w'∧match o with
 | some q=>∃ cs,e = .returned (.agg cs.toArray)∧ETi w' w0.heap.size w'.heap.size cs q.1∧St b s h0 q.2 w'
 | none=>e = .panicked errF
theorem St.setH {b h h':Nat} {s l:List UInt8} {w:World} (H:St b s h l w):St b s h' l (w.setCell ⟨b,2,none⟩ (.int .i64 (h':Int))):=⟨heap_set (o:=2) H.cell _,H.suf,H.short⟩
section
variable {A w0:World} {b p:Nat} {s:List UInt8} {h:Nat} {l:List UInt8} {nm:ByteArray} {i:Int} {bs:List UInt8} {hs:List (ByteArray×ByteArray)} {ts:List Tr} {bv hv pv:Value} {w:World}
theorem rv_end (H:Rv w0 b p s (h+1) l nm i bs hs ts bv hv pv w) (C:RvC A w0 b p) (hh:h≤1000):n65c6 (.pointer (some ⟨b,0,none⟩)) (.pointer (some ⟨p,0,none⟩)) (Post w0 b s h (some (.mk ⟨nm,i,bs,hs⟩ ts,l))) w:=by
 have hlo:=C.lo
 have hbw:=C.hbw
 have o1:=SliceOf.oneCell (OwnE.slice (E:=EByte) H.ob (fun _=>rfl) (fun _ _=>rfl))
 have o2:=SliceOf.oneCell (OwnE.slice (E:=EHdr) H.oh (fun _=>rfl) (fun _ _=>rfl))
 obtain ⟨css,ov,_⟩:=H.ov
 have o3:=SliceOf.oneCell (ov.slice (E:=fun _ cs (x:Cs 5)=>cs=x.1) (fun x=>x.2) (fun _ _=>rfl))
 have hw:IntKind.i64.wrap (((h+1:Nat):Int) - 1)=(h:Int):=by rw [wrap_ok (by omega) (by omega)];omega
 unfold n65c6
 have hpb:p≠b:=by omega
 have HB:=(heap_setE (w:=w) (o:=2) (v := .int .i64 (h:Int)) hpb).trans H.box
 simp (disch:=try exact DI) only [↓PR,QR,simprocAttr,(cells_of_heap H.st.cell).1,(cells_of_heap H.st.cell).2,hw,(cells_of_heap HB).1,(cells_of_heap HB).2]
 have hst:St b s h l (w.setCell ⟨b,2,none⟩ (.int .i64 (h:Int))):=H.st.setH
 have hsz:(w.setCell ⟨b,2,none⟩ (.int .i64 (h:Int))).heap.size=w.heap.size:=by simp
 have hU:Only p (w.setCell ⟨b,2,none⟩ (.int .i64 (h:Int))) (setCells (w.setCell ⟨b,2,none⟩ (.int .i64 (h:Int))) p 0 [.string nm,.int .i64 i,bv,hv,pv]):=setCells_only [.string nm,.int .i64 i,bv,hv,pv] _ 0
 have hZ:=setCells_size [.string nm,.int .i64 i,bv,hv,pv] (b:=p) (w.setCell ⟨b,2,none⟩ (.int .i64 (h:Int))) 0
 have hB2:=setCells_heap [.string nm,.int .i64 i,bv,hv,pv] 0 HB
 rw [setA_all rfl] at hB2
 change Post w0 b s h _ _ (setCells (w.setCell ⟨b,2,none⟩ (.int .i64 (h:Int))) p 0 [.string nm,.int .i64 i,bv,hv,pv])
 have hk:Kp b w0 (setCells (w.setCell ⟨b,2,none⟩ (.int .i64 (h:Int))) p 0 [.string nm,.int .i64 i,bv,hv,pv]):=by
  have k1:=H.kp.trans (Kp.set (b:=b) (o:=2) (w:=w) (.int .i64 (h:Int)))
  exact ((((k1.setNew hlo _).setNew hlo _).setNew hlo _).setNew hlo _).setNew hlo _
 generalize setCells (w.setCell ⟨b,2,none⟩ (.int .i64 (h:Int))) p 0 [.string nm,.int .i64 i,bv,hv,pv]=W at *
 have hst':St b s h l W:=⟨(hU b (by omega)).trans hst.cell,hst.suf,hst.short⟩
 have H':=H.move hk hst' hB2 (by omega) fun k h1 h2=>(hU k (by omega)).trans (heap_setE (by omega))
 exact ⟨hk,_,rfl,H'.done C,hst'⟩
def KO (p:Nat) (o:Obj):World→Prop:=fun w=>w.heap[p]?=some o
theorem KO.ne {p:Nat} {o:Obj} {w:World} (h:w.heap[p]?=some o):ClassNe (KO p o):=⟨⟨w,h⟩⟩
theorem drawK_introO {p:Nat} {o:Obj} (h0:w.heap[p]?=some o) {f:(World→Prop)→World→Prop} (h:f (KO p o) (drew w)):drawK w f:=⟨KO p o,h0,h⟩
theorem qO_load {T:TypeId} {n m:Nat} {z v:Value} {k:Value→Prop} {p o:Nat} (h:TyInfo Pg T false n m z) {cs:Array Value} {T':TypeId} [hne:ClassNe (KO p (.cells cs T' (0,0)))] (hv:cs[o]?=some v):qV Pg (KO p (.cells cs T' (0,0))) (Instr.loadAt T (.pointer (some ⟨p,o,none⟩))) k=k v :=
 qV_eqC fun w' e=>run_of_op (P:=Pg) (w:=w') (s:=Instr.loadAt T (.pointer (some ⟨p,o,none⟩))) (v:=v) (fun QP k=>op_load1 h (by rw [(cells_of_heap e).1];exact hv))
theorem op_addKid {QP:List PanicEntry→World→Prop} {K:Value→World→Prop} (C:RvC A w0 b p) (H:Rv w0 b p s h l nm i bs hs ts bv hv pv w) {w1:World} {l':List UInt8} {cs:List Value} {x:Tr} (hk:Kp b w w1) (hst:St b s h l' w1) (hx:ETi w1 w.heap.size w1.heap.size cs x) (hts:ts.length≤200000000)
 (hK:∀ v' w3,(∃ g cap,v' = .slice (some ⟨g,0,none⟩) (ts.length+1) cap)→Rv w0 b p s h l' nm i bs hs ts bv hv pv (w1.alloc (.cells cs.toArray 26))→Rv w0 b p s h l' nm i bs hs (ts++[x]) bv hv v' (w3.setCell ⟨p,4,none⟩ v')→w3.heap[p]?=some (.cells #[.string nm,.int .i64 i,bv,hv,pv] 26 (0,0))→K v' w3) :
 opV Pg (Builtin.append_ #[24,24] 24 #[pv,.slice (some ⟨w1.heap.size,0,none⟩) 1 1]) QP (w1.alloc (.cells cs.toArray 26)) K:=by
 have hlo:=C.lo
 have hbw:=C.hbw
 have h5:cs.length=5:=by
  obtain ⟨_,_,_,rfl,_⟩:=ETr_of.1 hx
  rfl
 have hcell:∀ u∈cs,u.oneCell'=true:=(hx.all).cells5
 have H1:=H.call C hk hst
 have o2:=heap_new w1 cs.toArray 26
 have e2:Ext w1 (w1.alloc (.cells cs.toArray 26)):=ee
 have s2:(w1.alloc (.cells cs.toArray 26)).heap.size=w1.heap.size+1:=by simp
 have H2:=H1.ext C e2
 generalize (w1.alloc (.cells cs.toArray 26))=w2 at *
 have hsk:=hk.size
 obtain ⟨css0,ov0,_⟩:=H.ov
 obtain ⟨css,ov,kids⟩:=H2.ov
 have hp0:p < w.heap.size:=(Array.getElem?_eq_some_iff.1 H.box).1
 have hby:=by26
 have hcl:css.length=ts.length:=kids.1
 refine op_appendL (l':=[(⟨cs,h5⟩:Cs 5)]) Tryz.underlying24 ty26 rfl (by decide) (fun x=>x.2) (fun y hy u hu=>?_) ov (fun j y hy=>?_) (by omega) (by simp) ?_ (by simp;omega) ?_
 · simp only [List.mem_singleton] at hy
   subst hy
   exact hcell u hu
 · cases j with
   | zero =>
    simp only [List.getElem?_cons_zero,Option.some.injEq] at hy
    subst hy
    intro j v hv
    rw [(cells_of_heap o2).1]
    simpa using hv
   | succ j=>simp at hy
 · simp only [List.length_cons,List.length_nil]
   exact Nat.le_trans (Nat.mul_le_mul (Nat.add_le_add_right (by rw [hcl];exact hts) _) hby) (by decide)
 · intro g cap w3 ho hg hgg hgl
   have hgp:p+1≤g∧g < w3.heap.size:=OwnE.lt' ho (g:=g) rfl
   have hrow:∀ k,k < w2.heap.size→pv.ownBlock≠some k→w3.heap[k]?=w2.heap[k]?:=fun k hk hne=>hg.block k hk (fun e=>hne e.symm)
   have hpvp:∀ k,k≤p→pv.ownBlock≠some k:=fun k hk e=>by have:=OwnE.lt' ov e;omega
   have hs3:=hg.size
   have hbox3:w3.heap[p]?=some (.cells #[.string nm,.int .i64 i,bv,hv,pv] 26 (0,0)):=(hrow p (by omega) (hpvp p (Nat.le_refl _))).trans H2.box
   have hst3:St b s h l' w3:=⟨(hrow b (by omega) (hpvp b (by omega))).trans H2.st.cell,H2.st.suf,H2.st.short⟩
   have hkp3:Kp b w0 w3:=⟨hg.os.trans H2.kp.os,hg.tape.trans H2.kp.tape,hg.output.trans H2.kp.output,Nat.le_trans H2.kp.size hs3,fun k hk hb=>(hrow k (Nat.lt_of_lt_of_le hk H2.kp.size) (hpvp k (by omega))).trans (H2.kp.keep k hk hb)⟩
   rw [hcl] at ho ⊢
   refine hK _ w3 ⟨g,cap,rfl⟩ H2 ?_ hbox3
   have hT:∀ {α:Type} {n:Nat} {T:TypeId} {enc:α→List Value} {v:Value} {L:List α},OwnE w2 (p+1) T n enc v L→T≠26→OwnE (w3.setCell ⟨p,4,none⟩ (.slice (some ⟨g,0,none⟩) (ts.length+1) cap)) (p+1) T n enc v L:=by
    intro α n T enc v L hO hT
    refine OwnE.same hO fun j hj=>?_
    have hj':=OwnE.lt' hO hj
    rw [heap_setE (by omega)]
    refine hrow j hj'.2 fun e=>?_
    obtain ⟨c1,f1,t1⟩:=OwnE.type hO hj
    obtain ⟨c2,f2,t2⟩:=OwnE.type ov e
    rw [t1] at t2
    injection t2 with t2
    injection t2 with _ t2 _
    exact hT t2
   refine ⟨hkp3.setNew hlo _,⟨(heap_setE (by omega)).trans hst3.cell,hst3.suf,hst3.short⟩,?_,hT H2.ob (by decide),hT H2.oh (by decide),css++[⟨cs,h5⟩],?_,?_⟩
   · exact heap_set (o:=4) hbox3 _
   · exact OwnE.same ho fun j hj=>heap_setE (by
      have:g=j:=by cases hj;rfl
      omega)
   · refine ⟨by rw [List.length_append,List.length_append,hcl];rfl,fun k c y hc hy=>?_⟩
     by_cases hkl:k < css.length
     · rw [List.getElem?_append_left hkl] at hc
       rw [List.getElem?_append_left (by omega)] at hy
       obtain ⟨a,e,a1,a2,a3,a4⟩:=kids.2 k c y hc hy
       refine ⟨a,e,a1,by simp;omega,a3.keep (Nat.le_refl _) (Nat.le_refl _) fun j j1 j2 j3=>?_,fun g' hg'=>?_⟩
       · rw [heap_setE (by omega)]
         refine hrow j j3 fun e'=>?_
         have:=a4 j e'
         omega
       · obtain rfl:g=g':=by cases hg';rfl
         rcases hgg with h' | h'
         · exact a4 g h'
         · exact .inr (by omega)
     · obtain rfl:k=css.length:=by
        have:=(List.getElem?_eq_some_iff.1 hc).1
        rw [List.length_append,List.length_singleton] at this
        omega
       rw [List.getElem?_append_right (Nat.le_refl _),Nat.sub_self] at hc
       rw [hcl,List.getElem?_append_right (Nat.le_refl _),Nat.sub_self] at hy
       simp only [List.getElem?_cons_zero,Option.some.injEq] at hc hy
       subst hc hy
       refine ⟨w.heap.size,w1.heap.size,hp0,by simp;omega,hx.keep (Nat.le_refl _) (Nat.le_refl _) fun j j1 j2 j3=>?_,fun g' hg'=>?_⟩
       · have hold:pv.ownBlock≠some j:=fun e'=>by
          have:=(OwnE.lt' ov0 e').2
          omega
         rw [heap_setE (by omega),hrow j (by omega) hold]
         exact e2.block j j3
       · obtain rfl:g=g':=by cases hg';rfl
         rcases hgg with h' | h'
         · exact .inl (OwnE.lt' ov0 h').2
         · exact .inr (by omega)
end
theorem readP_len {rd:List UInt8→Option (Tr×List UInt8)} (h:∀ l t l',rd l=some (t,l')→l'.length≤l.length):∀ (k:Nat) (l:List UInt8) (ts:List Tr) (l':List UInt8),readP rd k l=some (ts,l')→l'.length≤l.length
 | 0,l,ts,l',hh=>by cases hh
 | k+1,l,ts,l',hh=>by
  rw [readP_succ] at hh
  cases hr:rd l with
  | none=>rw [hr] at hh;cases hh
  | some q =>
   obtain ⟨t,l1⟩:=q
   rw [hr] at hh
   have h1:=h l t l1 hr
   simp only at hh
   unfold contP at hh
   split at hh
   · rename_i l2
     cases hp:readP rd k l2 with
     | none=>rw [hp] at hh;cases hh
     | some q2 =>
      rw [hp] at hh
      simp only [Option.map_some,Option.some.injEq,Prod.mk.injEq] at hh
      have:=readP_len h k l2 q2.1 q2.2 hp
      rw [← hh.2]
      rw [List.length_cons] at h1
      omega
   · simp only [Option.map_some,Option.some.injEq,Prod.mk.injEq] at hh
     rw [← hh.2]
     rw [List.length_cons] at h1
     omega
   · cases hh
theorem readI_len {l:List UInt8} {n:Int} {l':List UInt8} (h:readI RP l=some (n,l')):l'.length≤l.length:=by
 unfold readI at h
 split at h
 · rename_i l1
   change numP l1=_ at h
   unfold numP at h
   split at h
   · injection h with h
     injection h with _ h
     have:=(List.dropWhile_sublist (p:=digN) (l:=l1)).length_le
     rw [← h,List.length_cons]
     omega
   · cases h
 · injection h with h
   injection h with _ h
   rw [h]
   exact Nat.le_refl _
theorem readB_len {l:List UInt8} {n l':List UInt8} (h:readB RP l=some (n,l')):l'.length≤l.length:=by
 unfold readB at h
 split at h
 · rename_i l1
   have:=hxP_len (l:=l1) h
   rw [List.length_cons]
   omega
 · injection h with h
   injection h with _ h
   rw [h]
   exact Nat.le_refl _
theorem readH_len:∀ (k:Nat) (l:List UInt8) (hs:List (ByteArray×ByteArray)) (l':List UInt8),readH RP k l=some (hs,l')→l'.length≤l.length
 | 0,l,hs,l',h=>by
  rw [readH] at h
  injection h with h
  injection h with _ h
  rw [h]
  exact Nat.le_refl _
 | k+1,l,hs,l',h=>by
  unfold readH at h
  split at h
  · rename_i l1
    split at h
    · rename_i a l2 h1
      have g1:=hxP_len (l:=l1) h1
      split at h
      · rename_i b l3 h2
        have g2:=hxP_len (l:=l2) h2
        cases hr:readH RP k l3 with
        | none=>rw [hr] at h;cases h
        | some q =>
         rw [hr] at h
         simp only [Option.map_some,Option.some.injEq,Prod.mk.injEq] at h
         have:=readH_len k l3 q.1 q.2 hr
         rw [← h.2]
         simp only [List.length_cons] at *
         omega
      · cases h
    · cases h
  · injection h with h
    injection h with _ h
    rw [h]
    exact Nat.le_refl _
theorem readN_len {l:List UInt8} {n:Nd} {l':List UInt8} (h:readN RP l=some (n,l')):l'.length≤l.length:=by
 unfold readN at h
 have g0:=(List.dropWhile_sublist (p:=wordB) (l:=l)).length_le
 split at h
 · cases h
 rename_i nm l1 h0
 have h0:some (l.takeWhile wordB,l.dropWhile wordB)=some (nm,l1):=h0
 injection h0 with h0
 injection h0 with _ h0
 rw [h0] at g0
 split at h
 · cases h
 · rename_i i l2 h1
   have g1:=readI_len h1
   split at h
   · cases h
   · rename_i bs l3 h2
     have g2:=readB_len h2
     split at h
     · cases h
     · rename_i hs l4 h3
       have g3:=readH_len _ _ _ _ h3
       injection h with h
       injection h with _ h
       rw [← h]
       omega
def partsOf (rd:List UInt8→Option (Tr×List UInt8)) (n:Nd) (l:List UInt8):Option (Tr×List UInt8):=match l with
 | 40::l2=>(readP rd (l2.length+1) l2).map fun q=>(.mk n q.1,q.2)
 | l1=>some (.mk n [],l1)
theorem readV_succ (R:Rd) (f:Nat) (l:List UInt8):readV R (f+1) l=match readN R l with
 | none=>none
 | some (n,l1)=>partsOf (readV R f) n l1:=by
 rw [readV]
 cases readN R l with
 | none=>rfl
 | some q=>rfl
theorem readV_len:∀ (f:Nat) (l:List UInt8) (t:Tr) (l':List UInt8),readV RP f l=some (t,l')→l'.length≤l.length
 | 0,l,t,l',h=>by cases h
 | f+1,l,t,l',h=>by
  rw [readV_succ] at h
  split at h
  · cases h
  · rename_i n l1 h1
    have g1:=readN_len h1
    unfold partsOf at h
    split at h
    · rename_i l2
      cases hp:readP (readV RP f) (l2.length+1) l2 with
      | none=>rw [hp] at h;cases h
      | some q =>
       rw [hp] at h
       simp only [Option.map_some,Option.some.injEq,Prod.mk.injEq] at h
       have:=readP_len (fun l t l' h=>readV_len f l t l' h) _ _ q.1 q.2 hp
       rw [← h.2]
       rw [List.length_cons] at g1
       omega
    · injection h with h
      injection h with _ h
      rw [← h]
      exact g1
def ValC (f:Nat):Prop:=∀ (A w0:World) (b:Nat) (s:List UInt8) (h:Nat) (l:List UInt8),EnvOK A→Ext A w0→A.heap.size≤b→St b s h l w0→h+f=40→Calls Pg 51 #[.pointer (some ⟨b,0,none⟩)] w0 (Post w0 b s h (readV RP f l))
section
variable {A w0:World} {b p:Nat} {s:List UInt8} {h:Nat} {nm:ByteArray} {i:Int} {bs:List UInt8} {hs:List (ByteArray×ByteArray)} {bv hv:Value}
theorem val_call {f:Nat} (V:ValC f) (C:RvC A w0 b p) {ts:List Tr} {pv:Value} {l:List UInt8} {w:World} (H:Rv w0 b p s (h+1) l nm i bs hs ts bv hv pv w) (hf:h+1+f=40) {QP:List PanicEntry→World→Prop} {k:Value→World→Prop}
 (hk:∀ x l' cs w1,readV RP f l=some (x,l')→Kp b w w1→St b s (h+1) l' w1→ETi w1 w.heap.size w1.heap.size cs x→k (.agg cs.toArray) w1) (hp:readV RP f l=none→∀ w1,Kp b w w1→QP errF w1):callK Pg 51 #[.pointer (some ⟨b,0,none⟩)] QP w k:=by
 have eA:Ext A w:=H.kp.from C.eA C.hb
 refine callK_calls (V A w b s (h+1) l C.env eA C.hb H.st hf) ?_ ?_ ?_
 · rintro v w1 ⟨k1,h1⟩
   cases hr:readV RP f l with
   | none=>rw [hr] at h1;cases h1
   | some q =>
    rw [hr] at h1
    obtain ⟨cs,hv,h2,h3⟩:=h1
    injection hv with hv
    rw [hv]
    exact hk q.1 q.2 cs w1 hr k1 h3 h2
 · rintro ch w1 ⟨k1,h1⟩
   cases hr:readV RP f l with
   | none =>
    rw [hr] at h1
    injection h1 with h1
    rw [h1]
    exact hp hr w1 k1
   | some q =>
    rw [hr] at h1
    obtain ⟨cs,hv,_⟩:=h1
    cases hv
 · rintro w1 ⟨k1,h1⟩
   cases hr:readV RP f l with
   | none=>rw [hr] at h1;cases h1
   | some q =>
    rw [hr] at h1
    obtain ⟨cs,hv,_⟩:=h1
    cases hv
theorem rv_loop {f:Nat} (V:ValC f) (C:RvC A w0 b p) (hf:h+1+f=40) {ts:List Tr} {pv:Value} {l:List UInt8} {w:World} {k:Nat} (H:Rv w0 b p s (h+1) l nm i bs hs ts bv hv pv w) (hl:l.length≤k) (ht:ts.length+l.length≤100000001) {O:Option (Tr×List UInt8)} (hO:O=(contP (readV RP f) k l).map fun q=>(.mk ⟨nm,i,bs,hs⟩ (ts++q.1),q.2)) :
 loop0 (fun w next9=>n65c10 (.pointer (some ⟨b,0,none⟩)) (.pointer (some ⟨p,0,none⟩)) (fun w=>n65c6 (.pointer (some ⟨b,0,none⟩)) (.pointer (some ⟨p,0,none⟩)) (Post w0 b s h O) w) next9 (Post w0 b s h O) w) w:=by
 refine loop0_intro (fun w=>∃ ts l pv k,Rv w0 b p s (h+1) l nm i bs hs ts bv hv pv w∧l.length≤k∧ts.length+l.length≤100000001∧O=(contP (readV RP f) k l).map fun q=>(.mk ⟨nm,i,bs,hs⟩ (ts++q.1),q.2)) (leftM b s.length) ⟨ts,l,pv,k,H,hl,ht,hO⟩ ?_
 clear H hl ht hO w ts pv l k
 rintro w ⟨ts,l,pv,k,H,hl,ht,hO⟩
 rw [H.st.left]
 unfold n65c10
 simp (disch:=try exact DI) only [↓PR,QR,simprocAttr]
 refine callK_ret (next_ret b (h+1) s l w 32 H.st) ?_
 rintro _ w1 ⟨rfl,H1,k1⟩
 have hlo:=C.lo
 have hbw:=C.hbw
 by_cases h32:l.head?=some 32
 · rw [if_pos h32] at H1
   have hd:decide (l.head?=some 32)=true:=decide_eq_true h32
   rw [hd]
   obtain ⟨l2,rfl⟩:∃ l2,l=32::l2:=by
    cases l with
    | nil=>cases h32
    | cons a l2=>simp only [List.head?_cons,Option.some.injEq] at h32;subst h32;exact ⟨l2,rfl⟩
   rw [List.tail_cons] at H1
   have R1:=H.call C k1 H1
   rw [List.length_cons] at hl ht
   have hcp:contP (readV RP f) k (32::l2)=readP (readV RP f) k l2:=rfl
   rw [hcp] at hO
   cases k with
   | zero=>omega
   | succ k =>
   rw [readP_succ] at hO
   simp (disch:=try exact DI) only [↓PR,QR,simprocAttr]
   have R2:=R1.ext C (Ext.refl w1).drew
   refine drawK_introO R1.box ?_
   change n65c8 _ _ _ _ _ (drew w1)
   have R2:Rv w0 b p s (h+1) l2 nm i bs hs ts bv hv pv (drew w1):=R2
   generalize drew w1=D at *
   haveI:=KO.ne R2.box
   unfold n65c8
   have q1:=fun {k':Value→Prop}=>qO_load (p:=p) (cs := #[.string nm,.int .i64 i,bv,hv,pv]) (T':=26) (k:=k') ty24 (o:=4) (v:=pv) rfl
   simp (disch:=try exact DI) only [↓PR,QR,simprocAttr,q1]
   refine val_call V C R2 hf ?_ ?_
   · intro x l' cs w2 hr k2 H2 hx
     rw [hr] at hO
     simp only [Option.map_map] at hO
     have hbox2:=k2.obj R2.box (by omega)
     refine ⟨hbox2,?_⟩
     obtain ⟨bv',hv',pv',rfl,_⟩:=ETr_of.1 hx
     simp (disch:=try exact DI) only [↓PR,QR,simprocAttr]
     have R3:=R2.call C k2 H2
     have hl2:=readV_len f l2 x l' hr
     refine ⟨(R3.ext C ((Ext.refl w2).alloc _)).box,?_⟩
     unfold n65c7
     refine op_addKid (cs:=trCells x.nd bv' hv' pv') C R2 k2 H2 hx (by omega) fun v' w3 hv3 R4 R5 hb3=>⟨hb3,?_⟩
     obtain ⟨g,cap,rfl⟩:=hv3
     simp (disch:=try exact DI) only [↓PR,QR,simprocAttr,(cells_of_heap hb3).1,(cells_of_heap hb3).2]
     refine turnK_intro ⟨⟨ts++[x],l',_,k,R5,by omega,by rw [List.length_append,List.length_singleton];omega,?_⟩,?_⟩
     · rw [hO]
       congr 1
       funext q
       simp
     · rw [R5.st.left,List.length_cons]
       omega
   · intro hr w2 k2
     rw [hr] at hO
     subst hO
     exact ⟨R2.kp.trans k2,rfl⟩
 · rw [if_neg h32] at H1
   have hd:decide (l.head?=some 32)=false:=decide_eq_false h32
   rw [hd]
   have R1:=H.call C k1 H1
   simp (disch:=try exact DI) only [↓PR,QR,simprocAttr]
   unfold n65c9
   simp (disch:=try exact DI) only [↓PR,QR,simprocAttr]
   refine callK_ret (next_ret b (h+1) s l w1 41 R1.st) ?_
   rintro _ w2 ⟨rfl,H2,k2⟩
   refine must_call (fun ht v=>?_) (fun ht=>?_)
   · have h41:l.head?=some 41:=of_decide_eq_true ht
     obtain ⟨l2,rfl⟩:∃ l2,l=41::l2:=by
      cases l with
      | nil=>cases h41
      | cons a l2=>simp only [List.head?_cons,Option.some.injEq] at h41;subst h41;exact ⟨l2,rfl⟩
     rw [if_pos h41,List.tail_cons] at H2
     have hO:O=some (.mk ⟨nm,i,bs,hs⟩ ts,l2):=by
      rw [hO]
      show Option.map _ (some (([]:List Tr),l2))=_
      rw [Option.map_some,List.append_nil]
     rw [hO]
     exact rv_end (R1.call C k2 H2) C (by omega)
   · have h41:¬ l.head?=some 41:=of_decide_eq_false ht
     have hO:O=none:=by
      rw [hO]
      unfold contP
      split
      · exact absurd rfl h32
      · exact absurd rfl h41
      · rfl
     subst hO
     exact ⟨R1.kp.trans k2,rfl⟩
end
theorem head_cons {l:List UInt8} {c:UInt8} (h:l.head?=some c):∃ r,l=c::r:=by
 cases l with
 | nil=>cases h
 | cons a r=>simp only [List.head?_cons,Option.some.injEq] at h;subst h;exact ⟨r,rfl⟩
section
variable {A w0:World} {b p:Nat} {s:List UInt8} {h:Nat} {nm:ByteArray} {i:Int} {bs:List UInt8} {hs:List (ByteArray×ByteArray)} {bv hv:Value}
theorem rv_parts {f:Nat} (V:ValC f) (C:RvC A w0 b p) (hf:h+1+f=40) {pv:Value} {l:List UInt8} {w:World} (H:Rv w0 b p s (h+1) l nm i bs hs [] bv hv pv w):n65c14 (.pointer (some ⟨b,0,none⟩)) (.pointer (some ⟨p,0,none⟩)) (Post w0 b s h (partsOf (readV RP f) ⟨nm,i,bs,hs⟩ l)) w:=by
 have hlo:=C.lo
 have hbw:=C.hbw
 unfold n65c14 joinK
 simp (disch:=try exact DI) only [↓PR,QR,simprocAttr]
 refine callK_ret (next_ret b (h+1) s l w 40 H.st) ?_
 rintro _ w1 ⟨rfl,H1,k1⟩
 by_cases h40:l.head?=some 40
 · rw [if_pos h40] at H1
   have hd:decide (l.head?=some 40)=true:=decide_eq_true h40
   rw [hd]
   obtain ⟨l2,rfl⟩:=head_cons h40
   rw [List.tail_cons] at H1
   have R1:=H.call C k1 H1
   have hO:partsOf (readV RP f) ⟨nm,i,bs,hs⟩ (40::l2)=(readP (readV RP f) (l2.length+1) l2).map fun q=>(.mk ⟨nm,i,bs,hs⟩ q.1,q.2):=rfl
   rw [readP_succ] at hO
   rw [hO]
   clear hO
   have hsh:=R1.st.le
   have hsh2:=R1.st.short
   simp (disch:=try exact DI) only [↓PR,QR,simprocAttr]
   refine drawK_introO R1.box ?_
   change n65c13 _ _ _ _ _ (drew w1)
   have R2:Rv w0 b p s (h+1) l2 nm i bs hs [] bv hv pv (drew w1):=R1.ext C (Ext.refl w1).drew
   generalize drew w1=D at *
   haveI:=KO.ne R2.box
   unfold n65c13
   have q1:=fun {k':Value→Prop}=>qO_load (p:=p) (cs := #[.string nm,.int .i64 i,bv,hv,pv]) (T':=26) (k:=k') ty24 (o:=4) (v:=pv) rfl
   simp (disch:=try exact DI) only [↓PR,QR,simprocAttr,q1]
   refine val_call V C R2 hf ?_ ?_
   · intro x l' cs w2 hr k2 H2 hx
     have hbox2:=k2.obj R2.box (by omega)
     have hl2:=readV_len f l2 x l' hr
     refine ⟨hbox2,?_⟩
     obtain ⟨bv',hv',pv',rfl,_⟩:=ETr_of.1 hx
     unfold n65c12
     simp (disch:=try exact DI) only [↓PR,QR,simprocAttr]
     have R3:=R2.call C k2 H2
     refine ⟨(R3.ext C ((Ext.refl w2).alloc _)).box,?_⟩
     refine op_addKid (cs:=trCells x.nd bv' hv' pv') C R2 k2 H2 hx (by simp) fun v' w3 hv3 R4 R5 hb3=>⟨hb3,?_⟩
     obtain ⟨g,cap,rfl⟩:=hv3
     unfold n65c11
     simp (disch:=try exact DI) only [↓PR,QR,simprocAttr,(cells_of_heap hb3).1,(cells_of_heap hb3).2]
     refine turnK_intro ?_
     refine rv_loop V C hf R5 (k:=l2.length) hl2 (by simp;omega) ?_
     rw [hr]
     simp only [Option.map_map]
     rfl
   · intro hr w2 k2
     rw [hr]
     exact ⟨R2.kp.trans k2,rfl⟩
 · rw [if_neg h40] at H1
   have hd:decide (l.head?=some 40)=false:=decide_eq_false h40
   rw [hd]
   have R1:=H.call C k1 H1
   have hO:partsOf (readV RP f) ⟨nm,i,bs,hs⟩ l=some (.mk ⟨nm,i,bs,hs⟩ [],l):=by
    unfold partsOf
    split
    · exact absurd rfl h40
    · rfl
   rw [hO]
   simp (disch:=try exact DI) only [↓PR,QR,simprocAttr]
   exact rv_end R1 C (by omega)
theorem hex_call (C:RvC A w0 b p) {ts:List Tr} {pv:Value} {l:List UInt8} {w:World} (H:Rv w0 b p s h l nm i bs hs ts bv hv pv w) {QP:List PanicEntry→World→Prop} {k:Value→World→Prop}
 (hk:∀ a l' v w1,hxP l=some (a,l')→Kp b w w1→St b s h l' w1→OwnB w1 w.heap.size v a→k v w1) (hp:hxP l=none→∀ w1,Kp b w w1→QP errF w1):callK Pg 77 #[.pointer (some ⟨b,0,none⟩)] QP w k:=by
 refine callK_calls (hex_ret b h s l w H.st) ?_ ?_ ?_
 · rintro v w1 ⟨k1,h1⟩
   split at h1
   · rename_i he
     obtain ⟨v',hv,h2,h3⟩:=h1
     injection hv with hv
     rw [hv]
     exact hk _ _ v' w1 (by unfold hxP;rw [if_pos he]) k1 h3 h2
   · cases h1
 · rintro ch w1 ⟨k1,h1⟩
   split at h1
   · obtain ⟨_,hv,_⟩:=h1
     cases hv
   · rename_i he
     injection h1 with h1
     rw [h1]
     exact hp (by unfold hxP;rw [if_neg he]) w1 k1
 · rintro w1 ⟨k1,h1⟩
   split at h1
   · obtain ⟨_,hv,_⟩:=h1
     cases hv
   · cases h1
theorem op_addHdr {QP:List PanicEntry→World→Prop} {K:Value→World→Prop} (C:RvC A w0 b p) {pv:Value} {l:List UInt8} {w:World} (H:Rv w0 b p s h l nm i bs hs [] bv hv pv w) (x:ByteArray×ByteArray) (hts:hs.length≤200000000)
 (hK:∀ v' w3,(∃ g cap,v' = .slice (some ⟨g,0,none⟩) (hs.length+1) cap)→Rv w0 b p s h l nm i bs (hs++[x]) [] bv v' pv (w3.setCell ⟨p,3,none⟩ v')→w3.heap[p]?=some (.cells #[.string nm,.int .i64 i,bv,hv,pv] 26 (0,0))→K v' w3) :
 opV Pg (Builtin.append_ #[23,23] 23 #[hv,.slice (some ⟨w.heap.size,0,none⟩) 1 1]) QP (w.alloc (.cells #[.string x.1,.string x.2] 74)) K:=by
 have hlo:=C.lo
 have hbw:=C.hbw
 have o2:=heap_new w #[.string x.1,.string x.2] 74
 have e2:Ext w (w.alloc (.cells #[.string x.1,.string x.2] 74)):=ee
 have s2:(w.alloc (.cells #[.string x.1,.string x.2] 74)).heap.size=w.heap.size+1:=by simp
 have H2:=H.ext C e2
 generalize (w.alloc (.cells #[.string x.1,.string x.2] 74))=w2 at *
 have hp0:p < w.heap.size:=(Array.getElem?_eq_some_iff.1 H.box).1
 have hby:=by74
 refine op_appendL (l':=[x]) Tryz.underlying23 ty74 rfl (by decide) (fun _=>rfl) (fun y _ u hu=>?_) H2.oh (fun j y hy=>?_) (by omega) (by simp) ?_ (by simp;omega) ?_
 · simp only [encH,List.mem_cons,List.not_mem_nil,or_false] at hu
   rcases hu with rfl | rfl<;>rfl
 · cases j with
   | zero =>
    simp only [List.getElem?_cons_zero,Option.some.injEq] at hy
    subst hy
    intro j v hv
    rw [(cells_of_heap o2).1]
    simpa [encH] using hv
   | succ j=>simp at hy
 · simp only [List.length_cons,List.length_nil]
   exact Nat.le_trans (Nat.mul_le_mul (Nat.add_le_add_right hts _) hby) (by decide)
 · intro g cap w3 ho hg hgg hgl
   have hrow:∀ k,k < w2.heap.size→hv.ownBlock≠some k→w3.heap[k]?=w2.heap[k]?:=fun k hk hne=>hg.block k hk (fun e=>hne e.symm)
   have hpvp:∀ k,k≤p→hv.ownBlock≠some k:=fun k hk e=>by have:=OwnE.lt' H2.oh e;omega
   have hgp:p+1≤g∧g < w3.heap.size:=OwnE.lt' ho (g:=g) rfl
   have hs3:=hg.size
   have hbox3:w3.heap[p]?=some (.cells #[.string nm,.int .i64 i,bv,hv,pv] 26 (0,0)):=(hrow p (by omega) (hpvp p (Nat.le_refl _))).trans H2.box
   have hst3:St b s h l w3:=⟨(hrow b (by omega) (hpvp b (by omega))).trans H2.st.cell,H2.st.suf,H2.st.short⟩
   have hkp3:Kp b w0 w3:=⟨hg.os.trans H2.kp.os,hg.tape.trans H2.kp.tape,hg.output.trans H2.kp.output,Nat.le_trans H2.kp.size hs3,fun k hk hb=>(hrow k (Nat.lt_of_lt_of_le hk H2.kp.size) (hpvp k (by omega))).trans (H2.kp.keep k hk hb)⟩
   refine hK _ w3 ⟨g,cap,rfl⟩ ?_ hbox3
   have hT:∀ {α:Type} {n:Nat} {T:TypeId} {enc:α→List Value} {v:Value} {L:List α},OwnE w2 (p+1) T n enc v L→T≠74→OwnE (w3.setCell ⟨p,3,none⟩ (.slice (some ⟨g,0,none⟩) (hs.length+1) cap)) (p+1) T n enc v L:=by
    intro α n T enc v L hO hT
    refine OwnE.same hO fun j hj=>?_
    have hj':=OwnE.lt' hO hj
    rw [heap_setE (by omega)]
    refine hrow j hj'.2 fun e=>?_
    obtain ⟨c1,f1,t1⟩:=OwnE.type hO hj
    obtain ⟨c2,f2,t2⟩:=OwnE.type H2.oh e
    rw [t1] at t2
    injection t2 with t2
    injection t2 with _ t2 _
    exact hT t2
   obtain ⟨css,ov,kids⟩:=H2.ov
   refine ⟨hkp3.setNew hlo _,⟨(heap_setE (by omega)).trans hst3.cell,hst3.suf,hst3.short⟩,heap_set (o:=3) hbox3 _,hT H2.ob (by decide),?_,css,hT ov (by decide),kids.1,fun k c y hc hy=>?_⟩
   · exact OwnE.same ho fun j hj=>heap_setE (by
      have:g=j:=by cases hj;rfl
      omega)
   · cases hy
end
def hdrsOf (rd:List UInt8→Option (Tr×List UInt8)) (nm:ByteArray) (i:Int) (bs:List UInt8) (hs:List (ByteArray×ByteArray)) (k:Nat) (l:List UInt8):Option (Tr×List UInt8):=match readH RP k l with
 | none=>none
 | some (hs2,l4)=>partsOf rd ⟨nm,i,bs,hs++hs2⟩ l4
section
variable {A w0:World} {b p:Nat} {s:List UInt8} {h:Nat} {nm:ByteArray} {i:Int} {bs:List UInt8}
theorem rv_hdrs {f:Nat} (V:ValC f) (C:RvC A w0 b p) (hf:h+1+f=40) {hs:List (ByteArray×ByteArray)} {bv hv pv:Value} {l:List UInt8} {w:World} {k:Nat} (H:Rv w0 b p s (h+1) l nm i bs hs [] bv hv pv w) (hl:l.length < k) (ht:hs.length+l.length≤100000001) {O:Option (Tr×List UInt8)} (hO:O=hdrsOf (readV RP f) nm i bs hs k l) :
 loop0 (fun w next3=>n65c15 (.pointer (some ⟨b,0,none⟩)) (.pointer (some ⟨p,0,none⟩)) next3 (Post w0 b s h O) w) w:=by
 refine loop0_intro (fun w=>∃ hs hv l k,Rv w0 b p s (h+1) l nm i bs hs [] bv hv pv w∧l.length < k∧hs.length+l.length≤100000001∧O=hdrsOf (readV RP f) nm i bs hs k l) (leftM b s.length) ⟨hs,hv,l,k,H,hl,ht,hO⟩ ?_
 clear H hl ht hO w l k hs hv
 rintro w ⟨hs,hv,l,k,H,hl,ht,hO⟩
 have hlo:=C.lo
 have hbw:=C.hbw
 rw [H.st.left]
 unfold n65c15
 simp (disch:=try exact DI) only [↓PR,QR,simprocAttr]
 refine callK_ret (next_ret b (h+1) s l w 91 H.st) ?_
 rintro _ w1 ⟨rfl,H1,k1⟩
 cases k with
 | zero=>omega
 | succ k =>
 by_cases h91:l.head?=some 91
 · rw [if_pos h91] at H1
   have hd:decide (l.head?=some 91)=true:=decide_eq_true h91
   rw [hd]
   obtain ⟨l1,rfl⟩:=head_cons h91
   rw [List.tail_cons] at H1
   have R1:=H.call C k1 H1
   rw [List.length_cons] at hl ht
   have hrH:readH RP (k+1) (91::l1)=match hxP l1 with
    | some (a,58::l2)=>match hxP l2 with
     | some (b,93::l3)=>(readH RP k l3).map fun q=>((mkB a,mkB b)::q.1,q.2)
     | _=>none
    | _=>none:=rfl
   unfold hdrsOf at hO
   rw [hrH] at hO
   simp (disch:=try exact DI) only [↓PR,QR,simprocAttr]
   refine hex_call C R1 ?_ ?_
   · intro a la va w2 hxa k2 H2 hOa
     rw [hxa] at hO
     have hla:=hxP_len hxa
     have R2:=R1.call C k2 H2
     unfold n65c5
     rw [op_bytesStr hOa.bytes]
     simp (disch:=try exact DI) only [↓PR,QR,simprocAttr]
     refine callK_ret (next_ret b (h+1) s la w2 58 R2.st) ?_
     rintro _ w3 ⟨rfl,H3,k3⟩
     refine must_call (fun ht58 v=>?_) (fun ht58=>?_)
     · have h58:la.head?=some 58:=of_decide_eq_true ht58
       obtain ⟨l2,rfl⟩:=head_cons h58
       rw [if_pos h58,List.tail_cons] at H3
       have R3:=R2.call C k3 H3
       rw [List.length_cons] at hla
       refine drawK_introO R3.box ?_
       change n65c4 _ _ _ _ _ _ (drew w3)
       have R4:Rv w0 b p s (h+1) l2 nm i bs hs [] bv hv pv (drew w3):=R3.ext C (Ext.refl w3).drew
       generalize drew w3=D at *
       haveI:=KO.ne R4.box
       unfold n65c4
       have q1:=fun {k':Value→Prop}=>qO_load (p:=p) (cs := #[.string nm,.int .i64 i,bv,hv,pv]) (T':=26) (k:=k') ty23 (o:=3) (v:=hv) rfl
       simp (disch:=try exact DI) only [↓PR,QR,simprocAttr,q1]
       have hO2:O=match (match hxP l2 with | some (b,93::l3)=>(readH RP k l3).map fun q=>((mkB a,mkB b)::q.1,q.2) | _=>none) with | none=>none | some (hs2,l4)=>partsOf (readV RP f) ⟨nm,i,bs,hs++hs2⟩ l4:=hO
       refine hex_call C R4 ?_ ?_
       · intro a2 lb vb w5 hxb k5 H5 hOb
         have hlb:=hxP_len hxb
         rw [hxb] at hO2
         have R5:=R4.call C k5 H5
         refine ⟨R5.box,?_⟩
         rw [op_bytesStr hOb.bytes]
         refine ⟨R5.box,?_⟩
         unfold n65c3
         simp (disch:=try exact DI) only [↓PR,QR,simprocAttr]
         have hE:Ext w5 (w5.alloc (.cells #[.string ⟨a.toArray⟩,.string ⟨a2.toArray⟩] 74)):=ee
         refine ⟨(R5.ext C hE).box,?_⟩
         unfold n65c2
         refine op_addHdr C R5 (⟨a.toArray⟩,⟨a2.toArray⟩) (by omega) fun v' w6 hv6 R6 hb6=>⟨hb6,?_⟩
         obtain ⟨g,cap,rfl⟩:=hv6
         simp (disch:=try exact DI) only [↓PR,QR,simprocAttr,(cells_of_heap hb6).1,(cells_of_heap hb6).2]
         refine turnK_intro ?_
         unfold n65c1
         simp (disch:=try exact DI) only [↓PR,QR,simprocAttr]
         refine callK_ret (next_ret b (h+1) s lb _ 93 R6.st) ?_
         rintro _ w7 ⟨rfl,H7,k7⟩
         refine must_call (fun ht93 v=>?_) (fun ht93=>?_)
         · have h93:lb.head?=some 93:=of_decide_eq_true ht93
           obtain ⟨l3,rfl⟩:=head_cons h93
           rw [if_pos h93,List.tail_cons] at H7
           rw [List.length_cons] at hlb
           have R7:=R6.call C k7 H7
           refine ⟨⟨hs++[(mkB a,mkB a2)],_,l3,k,R7,by omega,by rw [List.length_append,List.length_singleton];omega,?_⟩,?_⟩
           · rw [hO2]
             unfold hdrsOf
             show (match (readH RP k l3).map fun q=>((mkB a,mkB a2)::q.1,q.2) with | none=>none | some (hs2,l4)=>partsOf (readV RP f) ⟨nm,i,bs,hs++hs2⟩ l4)=_
             cases readH RP k l3 with
             | none=>rfl
             | some q =>
              show partsOf _ _ _=partsOf _ _ _
              rw [List.append_assoc]
              rfl
           · rw [R7.st.left,List.length_cons]
             omega
         · have h93:¬ lb.head?=some 93:=of_decide_eq_false ht93
           have hO3:O=none:=by
            rw [hO2]
            split
            · rfl
            · rename_i hx
              split at hx
              · rename_i hy
                injection hy with hy
                injection hy with _ hy
                rw [hy] at h93
                exact absurd rfl h93
              · cases hx
           subst hO3
           exact ⟨R6.kp.trans k7,rfl⟩
       · intro hxb w5 k5
         rw [hxb] at hO2
         subst hO2
         exact ⟨R4.kp.trans k5,rfl⟩
     · have h58:¬ la.head?=some 58:=of_decide_eq_false ht58
       have hO3:O=none:=by
        rw [hO]
        split
        · rfl
        · rename_i hx
          split at hx
          · rename_i hy
            injection hy with hy
            injection hy with _ hy
            rw [hy] at h58
            exact absurd rfl h58
          · cases hx
       subst hO3
       exact ⟨R2.kp.trans k3,rfl⟩
   · intro hxa w2 k2
     rw [hxa] at hO
     subst hO
     exact ⟨R1.kp.trans k2,rfl⟩
 · rw [if_neg h91] at H1
   have hd:decide (l.head?=some 91)=false:=decide_eq_false h91
   rw [hd]
   have R1:=H.call C k1 H1
   have hrH:readH RP (k+1) l=some ([],l):=by
    unfold readH
    split
    · exact absurd rfl h91
    · rfl
   have hO:O=partsOf (readV RP f) ⟨nm,i,bs,hs⟩ l:=by
    rw [hO]
    unfold hdrsOf
    rw [hrH]
    simp only [List.append_nil]
   simp (disch:=try exact DI) only [↓PR,QR,simprocAttr]
   rw [hO]
   exact rv_parts V C hf R1
end
def bytesOfR (rd:List UInt8→Option (Tr×List UInt8)) (nm:ByteArray) (i:Int) (l:List UInt8):Option (Tr×List UInt8):=match readB RP l with
 | none=>none
 | some (bs,l3)=>hdrsOf rd nm i bs [] (l3.length+1) l3
def intOfR (rd:List UInt8→Option (Tr×List UInt8)) (nm:ByteArray) (l:List UInt8):Option (Tr×List UInt8):=match readI RP l with
 | none=>none
 | some (i,l2)=>bytesOfR rd nm i l2
theorem readV_chain (f:Nat) (l:List UInt8):readV RP (f+1) l=intOfR (readV RP f) (mkB (l.takeWhile wordB)) (l.dropWhile wordB):=by
 rw [readV_succ]
 unfold readN intOfR bytesOfR hdrsOf
 have h0:RP.nm l=some (l.takeWhile wordB,l.dropWhile wordB):=rfl
 rw [h0]
 simp only
 cases readI RP (l.dropWhile wordB) with
 | none=>rfl
 | some q =>
  simp only
  cases readB RP q.2 with
  | none=>rfl
  | some q2 =>
   simp only
   cases readH RP (q2.2.length+1) q2.2 with
   | none=>rfl
   | some q3=>rfl
section
variable {A w0:World} {b p:Nat} {s:List UInt8} {h:Nat}
theorem Rv.setBytes {l:List UInt8} {nm:ByteArray} {i:Int} {bs a:List UInt8} {hs:List (ByteArray×ByteArray)} {ts:List Tr} {bv hv pv v:Value} {w:World} (H:Rv w0 b p s h l nm i bs hs ts bv hv pv w) (C:RvC A w0 b p) (hO:OwnB w (p+1) v a):Rv w0 b p s h l nm i a hs ts v hv pv (w.setCell ⟨p,2,none⟩ v):=by
 have hlo:=C.lo
 have hbw:=C.hbw
 obtain ⟨css,ov,kids⟩:=H.ov
 refine ⟨H.kp.setNew hlo _,⟨(heap_setE (by omega)).trans H.st.cell,H.st.suf,H.st.short⟩,heap_set (o:=2) H.box _,OwnE.same hO fun g hg=>heap_setE (by have:=OwnE.lt' hO hg;omega),OwnE.same H.oh fun g hg=>heap_setE (by have:=OwnE.lt' H.oh hg;omega),css,OwnE.same ov fun g hg=>heap_setE (by have:=OwnE.lt' ov hg;omega),kids.keep (by simp) fun k hk _ _=>heap_setE (by omega)⟩
theorem rv_bytes {f:Nat} (V:ValC f) (C:RvC A w0 b p) (hf:h+1+f=40) {nm:ByteArray} {i:Int} {bv hv pv:Value} {l:List UInt8} {w:World} (H:Rv w0 b p s (h+1) l nm i [] [] [] bv hv pv w):n65c17 (.pointer (some ⟨b,0,none⟩)) (.pointer (some ⟨p,0,none⟩)) (Post w0 b s h (bytesOfR (readV RP f) nm i l)) w:=by
 have hlo:=C.lo
 have hbw:=C.hbw
 unfold n65c17
 simp (disch:=try exact DI) only [↓PR,QR,simprocAttr]
 refine callK_ret (next_ret b (h+1) s l w 35 H.st) ?_
 rintro _ w1 ⟨rfl,H1,k1⟩
 unfold n65c16 joinK
 by_cases h35:l.head?=some 35
 · rw [if_pos h35] at H1
   have hd:decide (l.head?=some 35)=true:=decide_eq_true h35
   rw [hd]
   obtain ⟨l1,rfl⟩:=head_cons h35
   rw [List.tail_cons] at H1
   have R1:=H.call C k1 H1
   have hO:bytesOfR (readV RP f) nm i (35::l1)=match hxP l1 with
    | none=>none
    | some (bs,l3)=>hdrsOf (readV RP f) nm i bs [] (l3.length+1) l3:=rfl
   rw [hO]
   simp (disch:=try exact DI) only [↓PR,QR,simprocAttr]
   refine hex_call C R1 ?_ ?_
   · intro a l' v w2 ha k2 H2 hOa
     rw [ha]
     have R2:=R1.call C k2 H2
     have hpw:=(Array.getElem?_eq_some_iff.1 R1.box).1
     have R3:=R2.setBytes C (hOa.base (by omega))
     have hvo:=SliceOf.oneCell (OwnE.slice (E:=EByte) hOa (fun _=>rfl) (fun _ _=>rfl))
     have hsh:=H2.le
     have hsh2:=H2.short
     simp (disch:=try exact DI) only [↓PR,QR,simprocAttr,(cells_of_heap R2.box).1,(cells_of_heap R2.box).2]
     exact rv_hdrs V C hf R3 (Nat.lt_succ_self _) (by simp;omega) rfl
   · intro ha w2 k2
     rw [ha]
     exact ⟨R1.kp.trans k2,rfl⟩
 · rw [if_neg h35] at H1
   have hd:decide (l.head?=some 35)=false:=decide_eq_false h35
   rw [hd]
   have R1:=H.call C k1 H1
   have hO:bytesOfR (readV RP f) nm i l=hdrsOf (readV RP f) nm i [] [] (l.length+1) l:=by
    unfold bytesOfR readB
    split
    · rename_i h9
      split at h9
      · exact absurd rfl h35
      · cases h9
    · rename_i h9
      split at h9
      · exact absurd rfl h35
      · injection h9 with h9
        injection h9 with h8 h9
        rw [← h8,← h9]
   rw [hO]
   have hsh:=H1.le
   have hsh2:=H1.short
   simp (disch:=try exact DI) only [↓PR,QR,simprocAttr]
   exact rv_hdrs V C hf R1 (Nat.lt_succ_self _) (by simp;omega) rfl
theorem rv_int {f:Nat} (V:ValC f) (C:RvC A w0 b p) (hf:h+1+f=40) {nm nm0:ByteArray} {bv hv pv:Value} {l:List UInt8} {w:World} (H:Rv w0 b p s (h+1) l nm0 0 [] [] [] bv hv pv w):n65c20 (.pointer (some ⟨b,0,none⟩)) (.pointer (some ⟨p,0,none⟩)) (.string nm) (Post w0 b s h (intOfR (readV RP f) nm l)) w:=by
 have hlo:=C.lo
 have hbw:=C.hbw
 have HB:=H.box
 have H:Rv w0 b p s (h+1) l nm 0 [] [] [] bv hv pv (w.setCell ⟨p,0,none⟩ (.string nm)):=H.move (H.kp.setNew hlo _) ⟨(heap_setE (by omega)).trans H.st.cell,H.st.suf,H.st.short⟩ (heap_set (o:=0) H.box _) (by simp) fun k hk _=>heap_setE (by omega)
 unfold n65c20 joinK
 simp (disch:=try exact DI) only [↓PR,QR,simprocAttr,(cells_of_heap HB).1,(cells_of_heap HB).2]
 generalize (w.setCell ⟨p,0,none⟩ (.string nm))=w at H ⊢
 refine callK_ret (next_ret b (h+1) s l w 61 H.st) ?_
 rintro _ w1 ⟨rfl,H1,k1⟩
 by_cases h61:l.head?=some 61
 · rw [if_pos h61] at H1
   have hd:decide (l.head?=some 61)=true:=decide_eq_true h61
   rw [hd]
   obtain ⟨l1,rfl⟩:=head_cons h61
   rw [List.tail_cons] at H1
   have R1:=H.call C k1 H1
   have hO:intOfR (readV RP f) nm (61::l1)=match numP l1 with
    | none=>none
    | some (i,l2)=>bytesOfR (readV RP f) nm i l2:=rfl
   rw [hO]
   simp (disch:=try exact DI) only [↓PR,QR,simprocAttr]
   unfold n65c19
   simp (disch:=try exact DI) only [↓PR,QR,simprocAttr]
   refine callK_ret (run_ret b (h+1) s l1 w1 _ digN dig_test R1.st) ?_
   rintro _ w2 ⟨rfl,H2,k2⟩
   have R2:=R1.call C k2 H2
   have hsz:(mkB (l1.takeWhile digN)).size≤100000000:=by
    rw [mkB_size]
    have h1:=(List.takeWhile_sublist (p:=digN) (l:=l1)).length_le
    have h2:=R1.st.le
    have h3:=R1.st.short
    omega
   refine callK_ret (Atoi_big (C.env.ext (R2.kp.from C.eA C.hb)) (mkB (l1.takeWhile digN)) hsz) ?_
   rintro _ w3 ⟨e3,n,ev,rfl,hcase⟩
   rw [mkB_data] at hcase
   have R3:=R2.ext C e3
   unfold n65c18
   rcases hcase with ⟨hok,rfl⟩ | ⟨hno,t,x,rfl⟩
   · have hO2:numP l1=some (n,l1.dropWhile digN):=by unfold numP;rw [hok]
     rw [hO2]
     simp (disch:=try exact DI) only [↓PR,QR,simprocAttr]
     refine must_call (fun _ v=>?_) (fun hf=>by cases hf)
     simp (disch:=try exact DI) only [↓PR,QR,simprocAttr,(cells_of_heap R3.box).1,(cells_of_heap R3.box).2]
     have R4:Rv w0 b p s (h+1) (l1.dropWhile digN) nm n [] [] [] bv hv pv (w3.setCell ⟨p,1,none⟩ (.int .i64 n)):=R3.move (R3.kp.setNew hlo _) ⟨(heap_setE (by omega)).trans R3.st.cell,R3.st.suf,R3.st.short⟩ (heap_set (o:=1) R3.box _) (by simp) fun k hk _=>heap_setE (by omega)
     exact rv_bytes V C hf R4
   · have hO2:numP l1=none:=by
      unfold numP
      split
      · rename_i v hv
        exact absurd hv (hno v)
      · rfl
     rw [hO2]
     simp (disch:=try exact DI) only [↓PR,QR,simprocAttr]
     refine must_call (fun hf=>by cases hf) (fun _=>?_)
     exact ⟨R3.kp,rfl⟩
 · rw [if_neg h61] at H1
   have hd:decide (l.head?=some 61)=false:=decide_eq_false h61
   rw [hd]
   have R1:=H.call C k1 H1
   have hO:intOfR (readV RP f) nm l=bytesOfR (readV RP f) nm 0 l:=by
    unfold intOfR readI
    split
    · rename_i h9
      split at h9
      · exact absurd rfl h61
      · cases h9
    · rename_i h9
      split at h9
      · exact absurd rfl h61
      · injection h9 with h9
        injection h9 with h8 h9
        rw [← h8,← h9]
   rw [hO]
   simp (disch:=try exact DI) only [↓PR,QR,simprocAttr]
   exact rv_bytes V C hf R1
end
theorem value_ret:∀ f:Nat,ValC f
 | 0=>by
  intro A w0 b s h l hE eA hb H hh
  refine n65s (t0 := .pointer (some ⟨b,0,none⟩)) ?_
  unfold n65
  obtain rfl:h=40:=by omega
  rw [op_alloc ty26]
  have eX:Ext w0 (w0.alloc (.cells (Value.cells (.agg #[.string ByteArray.empty,.int .i64 0,.slice none 0 0,.slice none 0 0,.slice none 0 0])) 26)):=(Ext.refl _).alloc _
  generalize w0.alloc _=X at eX ⊢
  have HX:=H.ext eX
  have h1:=HX.setH (h':=41)
  have hw:IntKind.i64.wrap (((40:Nat):Int)+1)=((41:Nat):Int):=by decide
  simp (disch:=try exact DI) only [↓PR,QR,simprocAttr,(cells_of_heap HX.cell).1,(cells_of_heap HX.cell).2,hw,(cells_of_heap h1.cell).1]
  refine must_call (fun hf=>by cases hf) (fun _=>?_)
  exact ⟨(Kp.of eX).trans (Kp.set _),rfl⟩
 | f+1=>by
  intro A w0 b s h l hE eA hb H hh
  have V:=value_ret f
  rw [readV_chain]
  refine n65s (t0 := .pointer (some ⟨b,0,none⟩)) ?_
  unfold n65
  have hbw:=(Array.getElem?_eq_some_iff.1 H.cell).1
  rw [op_alloc ty26]
  have oX:=heap_new w0 (Value.cells (.agg #[.string ByteArray.empty,.int .i64 0,.slice none 0 0,.slice none 0 0,.slice none 0 0])) 26
  have eX:Ext w0 (w0.alloc (.cells (Value.cells (.agg #[.string ByteArray.empty,.int .i64 0,.slice none 0 0,.slice none 0 0,.slice none 0 0])) 26)):=(Ext.refl _).alloc _
  generalize w0.alloc _=X at oX eX ⊢
  have hlo:w0.heap.size≤w0.heap.size:=Nat.le_refl _
  generalize hp:w0.heap.size=p at oX ⊢
  have C:RvC A w0 b p:=⟨hE,eA,hb,hbw,by omega⟩
  have HX:=H.ext eX
  have h1:=HX.setH (h':=h+1)
  have hw:IntKind.i64.wrap ((h:Int)+1)=((h+1:Nat):Int):=wrap_succ (by omega)
  have hd:decide (((h+1:Nat):Int)≤40)=true:=decide_eq_true (by omega)
  have hpX:=(Array.getElem?_eq_some_iff.1 oX).1
  have R0:Rv w0 b p s (h+1) l ByteArray.empty 0 [] [] [] (.slice none 0 0) (.slice none 0 0) (.slice none 0 0) (X.setCell ⟨b,2,none⟩ (.int .i64 ((h+1:Nat):Int))) :=
   ⟨(Kp.of eX).trans (Kp.set _),h1,(heap_setE (by omega)).trans oX,OwnE.nil _ _ _ _ _,OwnE.nil _ _ _ _ _,[],OwnE.nil _ _ _ _ _,rfl,fun k c x hc=>by cases hc⟩
  simp (disch:=try exact DI) only [↓PR,QR,simprocAttr,(cells_of_heap HX.cell).1,(cells_of_heap HX.cell).2,hw,(cells_of_heap h1.cell).1,hd]
  refine must_call (fun _ v=>?_) (fun hf=>by cases hf)
  unfold n65c21
  simp (disch:=try exact DI) only [↓PR,QR,simprocAttr]
  refine callK_ret (run_ret b (h+1) s l _ _ wordB word_test h1) ?_
  rintro _ w2 ⟨rfl,H2,k2⟩
  exact rv_int V C (by omega) (R0.call C k2 H2)
theorem atoi_range {l:List UInt8} {n:Int} (h:Go.Lib.atoiAll l = .ok n) : -9223372036854775808≤n∧n≤9223372036854775807:=by
 unfold Go.Lib.atoiAll at h
 split at h
 · cases h
 · simp only at h
   split at h
   · cases h
   · cases h
   · split at h
     · cases h
     · split at h
       · cases h
       · rename_i u _ h1 h2
         injection h with h
         rw [← h]
         split<;>rename_i hc<;>simp only [hc,not_true,not_false_eq_true,true_and,false_and] at h1 h2<;>omega
theorem intL_len {n:Int} (h : -9223372036854775808≤n∧n≤9223372036854775807):(intL n).length≤22:=by
 unfold intL
 split
 · simp
 · rw [List.length_cons]
   have:=Go.Lib.itoa_length_le n h.1 h.2
   omega
theorem run_len (p:UInt8→Bool) (l:List UInt8):(l.takeWhile p).length+(l.dropWhile p).length=l.length:=by
 rw [← List.length_append,List.takeWhile_append_dropWhile]
theorem hx_bound {l a l':List UInt8} (h:hxP l=some (a,l')):(hexL a).length+l'.length=l.length:=by
 unfold hxP at h
 split at h
 · rename_i he
   injection h with h
   injection h with h1 h2
   rw [← h1,← h2,hexL_len,unhex_len,← run_len hexB l]
   omega
 · cases h
theorem readI_bound {l:List UInt8} {n:Int} {l':List UInt8} (h:readI RP l=some (n,l')):(intL n).length+l'.length≤l.length+21:=by
 unfold readI at h
 split at h
 · rename_i l1
   change numP l1=_ at h
   unfold numP at h
   split at h
   · rename_i n' h0
     injection h with h
     injection h with h1 h
     have:=(List.dropWhile_sublist (p:=digN) (l:=l1)).length_le
     have h2:=intL_len (atoi_range h0)
     rw [← h,← h1,List.length_cons]
     omega
   · cases h
 · injection h with h
   injection h with h1 h
   rw [← h,← h1]
   show 0+_≤_
   omega
theorem readB_bound {l bs l':List UInt8} (h:readB RP l=some (bs,l')):(bytL bs).length+l'.length≤l.length:=by
 unfold readB at h
 split at h
 · rename_i l1
   have:=hx_bound (l:=l1) h
   rw [List.length_cons]
   unfold bytL
   split
   · simp only [List.length_nil]
     omega
   · rw [List.length_cons]
     omega
 · injection h with h
   injection h with h1 h
   rw [← h,← h1]
   show 0+_≤_
   omega
theorem readH_bound:∀ (k:Nat) (l:List UInt8) (hs:List (ByteArray×ByteArray)) (l':List UInt8),readH RP k l=some (hs,l')→(hs.flatMap hdrL).length+l'.length≤l.length
 | 0,l,hs,l',h=>by
  rw [readH] at h
  injection h with h
  injection h with h1 h
  rw [← h,← h1]
  simp
 | k+1,l,hs,l',h=>by
  unfold readH at h
  split at h
  · rename_i l1
    split at h
    · rename_i a l2 h1
      have g1:=hx_bound (l:=l1) h1
      split at h
      · rename_i b l3 h2
        have g2:=hx_bound (l:=l2) h2
        cases hr:readH RP k l3 with
        | none=>rw [hr] at h;cases h
        | some q =>
         rw [hr] at h
         simp only [Option.map_some,Option.some.injEq,Prod.mk.injEq] at h
         have:=readH_bound k l3 q.1 q.2 hr
         rw [← h.2,← h.1,List.flatMap_cons,List.length_append]
         rw [hexL_len] at g1 g2
         have h3:=hdrL_len (mkB a,mkB b)
         simp only [mkB_size] at h3
         simp only [List.length_cons] at *
         omega
      · cases h
    · cases h
  · injection h with h
    injection h with h1 h
    rw [← h,← h1]
    simp
theorem readN_bound {l:List UInt8} {n:Nd} {l':List UInt8} (h:readN RP l=some (n,l')):(nodeL n).length+l'.length≤l.length+21:=by
 unfold readN at h
 split at h
 · cases h
 rename_i nm l1 h0
 have h0:some (l.takeWhile wordB,l.dropWhile wordB)=some (nm,l1):=h0
 injection h0 with h0
 injection h0 with h00 h0
 have g0:=run_len wordB l
 rw [h0,h00] at g0
 split at h
 · cases h
 · rename_i i l2 h1
   have g1:=readI_bound h1
   split at h
   · cases h
   · rename_i bs l3 h2
     have g2:=readB_bound h2
     split at h
     · cases h
     · rename_i hs l4 h3
       have g3:=readH_bound _ _ _ _ h3
       injection h with h
       injection h with h4 h
       rw [← h,← h4]
       unfold nodeL
       simp only [List.length_append,mkB_data]
       omega
theorem readP_bound {rd:List UInt8→Option (Tr×List UInt8)} (h:∀ l t l',rd l=some (t,l')→(textT t).length+l'.length≤l.length+21*nodesT t∧nodesT t+l'.length≤l.length+1):∀ (k:Nat) (l:List UInt8) (ts:List Tr) (l':List UInt8),readP rd k l=some (ts,l')→((ts.map textT).flatMap (fun x=>32::x)).length+l'.length≤l.length+21*(ts.map nodesT).sum∧(ts.map nodesT).sum+l'.length≤l.length∧ts≠[]
 | 0,l,ts,l',hh=>by cases hh
 | k+1,l,ts,l',hh=>by
  rw [readP_succ] at hh
  cases hr:rd l with
  | none=>rw [hr] at hh;cases hh
  | some q =>
   obtain ⟨t,l1⟩:=q
   rw [hr] at hh
   have h1:=h l t l1 hr
   simp only at hh
   unfold contP at hh
   split at hh
   · rename_i l2
     cases hp:readP rd k l2 with
     | none=>rw [hp] at hh;cases hh
     | some q2 =>
      rw [hp] at hh
      simp only [Option.map_some,Option.some.injEq,Prod.mk.injEq] at hh
      have:=readP_bound h k l2 q2.1 q2.2 hp
      rw [← hh.2,← hh.1]
      simp only [List.map_cons,List.flatMap_cons,List.length_append,List.length_cons,List.sum_cons] at *
      refine ⟨by omega,by omega,by simp⟩
   · simp only [Option.map_some,Option.some.injEq,Prod.mk.injEq] at hh
     rw [← hh.2,← hh.1]
     simp only [List.map_cons,List.map_nil,List.flatMap_cons,List.flatMap_nil,List.append_nil,List.length_cons,List.sum_cons,List.sum_nil] at *
     refine ⟨by omega,by omega,by simp⟩
   · cases hh
theorem joinP_len {L:List (List UInt8)} (h:L≠[]):(joinP L).length=(L.flatMap (fun x=>32::x)).length+1:=by
 cases L with
 | nil=>exact absurd rfl h
 | cons a l =>
  unfold joinP
  simp only [List.flatMap_cons,List.length_append,List.length_cons,List.length_nil]
  omega
theorem readV_bound:∀ (f:Nat) (l:List UInt8) (t:Tr) (l':List UInt8),readV RP f l=some (t,l')→(textT t).length+l'.length≤l.length+21*nodesT t∧nodesT t+l'.length≤l.length+1
 | 0,l,t,l',h=>by cases h
 | f+1,l,t,l',h=>by
  rw [readV_succ] at h
  split at h
  · cases h
  · rename_i n l1 h1
    have g1:=readN_bound h1
    have g0:=readN_len h1
    unfold partsOf at h
    split at h
    · rename_i l2
      cases hp:readP (readV RP f) (l2.length+1) l2 with
      | none=>rw [hp] at h;cases h
      | some q =>
       rw [hp] at h
       simp only [Option.map_some,Option.some.injEq,Prod.mk.injEq] at h
       obtain ⟨a1,a2,a3⟩:=readP_bound (fun l t l' h=>readV_bound f l t l' h) _ _ q.1 q.2 hp
       have a4:=joinP_len (L:=q.1.map textT) (by simpa using a3)
       rw [← h.2,← h.1,textT_mk,nodesT_mk,List.length_append,a4]
       rw [List.length_cons] at g1 g0
       omega
    · injection h with h
      injection h with h2 h
      rw [← h,← h2,textT_mk,nodesT_mk]
      simp only [List.map_nil,List.length_append,List.sum_nil]
      show _+([]:List UInt8).length+_≤_∧_
      simp only [List.length_nil]
      omega
abbrev catchP (p2 p3:Nat):Deferred:={ target := .fn (.func 50) #[.pointer (some ⟨p2,0,none⟩),.pointer (some ⟨p3,0,none⟩)],args := #[] }
theorem catchP_ret {p2 p3:Nat} {w:World} {k:FrameMode→World→Prop} (h:k .returning w):outM Pg [catchP p2 p3] .returning w k:=by
 refine ⟨by simp,.inr ⟨.func 50,_,50,#[.pointer (some ⟨p2,0,none⟩),.pointer (some ⟨p3,0,none⟩)],rfl,?_,?_⟩⟩
 · exact callFunc_run c50 _ w
 · refine n43s ?_
   unfold n43
   show opV _ (binS .neq _ true .nilIface .nilIface) _ _ _
   rw [op_neqNil_none Tryz.underlying20]
   unfold joinK
   simp (disch:=try exact DI) only [↓PR,QR,simprocAttr]
   exact h
theorem catchP_pan {p2 p3:Nat} {w:World} {k:FrameMode→World→Prop} {x0 x1 x2 x3 x4 y:Value} (o2:w.heap[p2]?=some (.cells #[x0,x1,x2,x3,x4] 26 (0,0))) (o3:w.heap[p3]?=some (.cells #[y] 33 (0,0)))
 (h:∀ w',w'.heap[p2]?=some (.cells #[.string ByteArray.empty,.int .i64 0,.slice none 0 0,.slice none 0 0,.slice none 0 0] 26 (0,0))→w'.heap[p3]?=some (.cells #[.int .i64 6] 33 (0,0))→(∀ A,Ext A w→A.heap.size≤p2→A.heap.size≤p3→Ext A w')→k .returning w'):outM Pg [catchP p2 p3] (.panicking errF) w k:=by
 have hne:p2≠p3:=by rintro rfl;rw [o2] at o3;cases o3
 refine ⟨by simp,.inr ⟨.func 50,_,50,#[.pointer (some ⟨p2,0,none⟩),.pointer (some ⟨p3,0,none⟩)],rfl,?_,?_⟩⟩
 · exact callFunc_run c50 _ w
 · refine n43s ?_
   rw [show recM (.panicking errF)=(.iface 33 (.int .i64 6),.panicking [{ v := .iface 33 (.int .i64 6),recovered:=true }]) from rfl]
   unfold n43
   rw [op_neqNil_some Tryz.underlying20]
   unfold joinK
   simp (disch:=try exact DI) only [↓PR,QR,simprocAttr]
   unfold n43c2
   rw [op_assert_ok Tryz.underlying33 rfl]
   simp (disch:=try exact DI) only [↓PR,QR,simprocAttr]
   unfold n43c1
   simp (disch:=try exact DI) only [↓PR,QR,simprocAttr,(cells_of_heap o2).1,(cells_of_heap o2).2,(cells_of_heap o3).1,(cells_of_heap o3).2]
   have g2:=setCells_heap [.string ByteArray.empty,.int .i64 0,.slice none 0 0,.slice none 0 0,.slice none 0 0] 0 o2
   rw [setA_all (vs:=[.string ByteArray.empty,.int .i64 0,.slice none 0 0,.slice none 0 0,.slice none 0 0]) (cs := #[x0,x1,x2,x3,x4]) rfl] at g2
   have gU:Only p2 w (setCells w p2 0 [.string ByteArray.empty,.int .i64 0,.slice none 0 0,.slice none 0 0,.slice none 0 0]):=setCells_only [.string ByteArray.empty,.int .i64 0,.slice none 0 0,.slice none 0 0,.slice none 0 0] w 0
   have gE:∀ A,Ext A w→A.heap.size≤p2→Ext A (setCells w p2 0 [.string ByteArray.empty,.int .i64 0,.slice none 0 0,.slice none 0 0,.slice none 0 0]):=fun A e hA=>setCells_ext [.string ByteArray.empty,.int .i64 0,.slice none 0 0,.slice none 0 0,.slice none 0 0] w 0 A e hA
   change k .returning ((setCells w p2 0 [.string ByteArray.empty,.int .i64 0,.slice none 0 0,.slice none 0 0,.slice none 0 0]).setCell ⟨p3,0,none⟩ (.int .i64 6))
   generalize setCells w p2 0 [.string ByteArray.empty,.int .i64 0,.slice none 0 0,.slice none 0 0,.slice none 0 0]=W at g2 gU gE ⊢
   refine h _ ((heap_setE hne).trans g2) ?_ fun A e h2 h3=>(gE A e h2).setCell h3 _
   exact heap_set (o:=0) ((gU p3 (fun e=>hne e.symm)).trans o3) _
def ParK (w0:World) (s:ByteArray) (r:Value) (w':World):Prop:=Ext w0 w'∧∃ v c,r = .tuple #[v,.int .i64 c]∧(match parseR RP s.data.toList with
 | some t=>c=0∧ValAt w' v t
 | none=>c=6∧ValAt w' v tr0)
abbrev resP (p2 p3:Nat):List (Option TypeId×Value):=[(some 26,.pointer (some ⟨p2,0,none⟩)),(some 33,.pointer (some ⟨p3,0,none⟩))]
theorem par_none {w0 w:World} {p2 p3:Nat} {s:ByteArray} {x0 x1 x2 x3 x4 y:Value} (e:Ext w0 w) (h2:w0.heap.size≤p2) (h3:w0.heap.size≤p3) (o2:w.heap[p2]?=some (.cells #[x0,x1,x2,x3,x4] 26 (0,0))) (o3:w.heap[p3]?=some (.cells #[y] 33 (0,0))) (hn:parseR RP s.data.toList=none):outQ Pg [catchP p2 p3] (resP p2 p3) (retR (ParK w0 s)) errF w:=by
 unfold outQ
 refine catchP_pan o2 o3 fun w' g2 g3 gE=>?_
 unfold endM retV resOne resP
 simp only
 simp (disch:=try exact DI) only [↓PR,QR,simprocAttr,(cells_of_heap g2).1,(cells_of_heap g3).1]
 refine ⟨gE w0 e h2 h3,_,_,rfl,?_⟩
 rw [hn]
 exact ⟨rfl,ValAt.zero _⟩
theorem Parse_ret (w0:World) (s:ByteArray) (hE:EnvOK w0) (hs:s.size≤100000000):Ret Pg 18 #[.string s] w0 (ParK w0 s):=by
 have hsz:s.data.toList.length=s.size:=Array.length_toList
 refine n42s (R:=retR _) ?_;unfold n42
 show opV _ _ _ _ _
 rw [op_alloc ty26]
 have o2:=heap_new w0 (Value.cells (.agg #[.string ByteArray.empty,.int .i64 0,.slice none 0 0,.slice none 0 0,.slice none 0 0])) 26
 have e2:Ext w0 (w0.alloc (.cells (Value.cells (.agg #[.string ByteArray.empty,.int .i64 0,.slice none 0 0,.slice none 0 0,.slice none 0 0])) 26)):=(Ext.refl _).alloc _
 generalize w0.alloc _=W2 at o2 e2 ⊢
 change _=some (Obj.cells #[Value.string ByteArray.empty,.int .i64 0,.slice none 0 0,.slice none 0 0,.slice none 0 0] 26 (0,0)) at o2
 have hl2:w0.heap.size≤w0.heap.size:=Nat.le_refl _
 generalize hp2:w0.heap.size=p2 at o2 ⊢
 rw [op_alloc ty33]
 have o3:=heap_new W2 (Value.cells (.int .i64 0)) 33
 have e3:Ext W2 (W2.alloc (.cells (Value.cells (.int .i64 0)) 33)):=(Ext.refl _).alloc _
 generalize W2.alloc _=W3 at o3 e3 ⊢
 change _=some (Obj.cells #[Value.int .i64 0] 33 (0,0)) at o3
 have hz2:=(Array.getElem?_eq_some_iff.1 o2).1
 generalize hp3:W2.heap.size=p3 at o3 hz2 ⊢
 have o2:=e3.obj o2
 simp (disch:=try exact DI) only [↓PR,QR,simprocAttr]
 refine ⟨catchP p2 p3,W3,rfl,?_⟩
 show callK _ _ #[.pointer (some ⟨W3.heap.size,0,none⟩)] _ (W3.alloc (.cells #[.string s,.int .i64 0,.int .i64 0] 85)) _
 have E3:=e2.trans e3
 have o4:=heap_new W3 #[.string s,.int .i64 0,.int .i64 0] 85
 have e4:Ext W3 (W3.alloc (.cells #[.string s,.int .i64 0,.int .i64 0] 85)):=ee
 generalize (W3.alloc (.cells #[.string s,.int .i64 0,.int .i64 0] 85))=W4 at o4 e4 ⊢
 have hz3:=(Array.getElem?_eq_some_iff.1 o3).1
 have hz4:=(Array.getElem?_eq_some_iff.1 o4).1
 have s3:=e3.size
 generalize hb:W3.heap.size=b at o4 hz3 hz4 ⊢
 have o2:=e4.obj o2
 have o3:=e4.obj o3
 have E4:=E3.trans e4
 have hs3:=E3.size
 have H:St b s.data.toList 0 s.data.toList W4:=by
  refine ⟨?_,⟨[],rfl⟩,by omega⟩
  rw [Nat.sub_self,mkB_to]
  exact o4
 have hpan:∀ w,Kp b W4 w→∀ x0 x1 x2 x3 x4 y,w.heap[p2]?=some (.cells #[x0,x1,x2,x3,x4] 26 (0,0))→w.heap[p3]?=some (.cells #[y] 33 (0,0))→parseR RP s.data.toList=none→outQ Pg [catchP p2 p3] (resP p2 p3) (retR (ParK w0 s)) errF w:=fun w hk x0 x1 x2 x3 x4 y h2 h3 hn=>par_none (hk.from E4 (by omega)) (by omega) (by omega) h2 h3 hn
 have V:=value_ret 40 w0 W4 b s.data.toList 0 s.data.toList hE E4 (by omega) H rfl
 have hB:∀ t l',readV RP 40 s.data.toList=some (t,l')→_:=fun t l' h=>readV_bound 40 s.data.toList t l' h
 have hpar:parseR RP s.data.toList=match readV RP 40 s.data.toList with
  | some (t,_)=>if validT t=true∧textT t=s.data.toList then some t else none
  | none=>none:=by unfold parseR;rfl
 generalize readV RP 40 s.data.toList=o at V hB hpar
 refine callK_calls V ?_ ?_ ?_
 · rintro v w1 ⟨k1,h1⟩
   cases o with
   | none=>cases h1
   | some q =>
    obtain ⟨t,l'⟩:=q
    obtain ⟨cs,hv,h2,h3⟩:=h1
    injection hv with hv
    subst hv
    simp only at hpar
    obtain ⟨b1,b2⟩:=hB t l' rfl
    obtain ⟨bv,hv,pv,rfl,c1,c2,c3,d1,d2,d3⟩:=(h2.all).op
    have q2:=k1.obj o2 (by omega)
    have q3:=k1.obj o3 (by omega)
    unfold n42c3
    simp (disch:=try exact DI) only [↓PR,QR,simprocAttr,(cells_of_heap q2).1,(cells_of_heap q2).2]
    have u5:=setCells_heap [.string t.nd.name,.int .i64 t.nd.int,bv,hv,pv] 0 q2
    rw [setA_all (vs:=[.string t.nd.name,.int .i64 t.nd.int,bv,hv,pv]) (cs := #[.string ByteArray.empty,.int .i64 0,.slice none 0 0,.slice none 0 0,.slice none 0 0]) rfl] at u5
    have uU:Only p2 w1 (setCells w1 p2 0 [.string t.nd.name,.int .i64 t.nd.int,bv,hv,pv]):=setCells_only [.string t.nd.name,.int .i64 t.nd.int,bv,hv,pv] w1 0
    have uE:Ext w0 (setCells w1 p2 0 [.string t.nd.name,.int .i64 t.nd.int,bv,hv,pv]):=setCells_ext [.string t.nd.name,.int .i64 t.nd.int,bv,hv,pv] w1 0 w0 (k1.from E4 (by omega)) (by omega)
    change callK _ _ _ _ (setCells w1 p2 0 [.string t.nd.name,.int .i64 t.nd.int,bv,hv,pv]) _
    have sz5:w1.heap.size≤(setCells w1 p2 0 [.string t.nd.name,.int .i64 t.nd.int,bv,hv,pv]).heap.size:=Nat.le_of_eq (setCells_size _ _ _).symm
    generalize setCells w1 p2 0 [.string t.nd.name,.int .i64 t.nd.int,bv,hv,pv]=W5 at u5 uU uE sz5 ⊢
    have u3:=(uU p3 (by omega)).trans q3
    have hV:ValAt W5 (.agg (trCells t.nd bv hv pv).toArray) t:=by
     have:=(h2.keep (w':=W5) (Nat.le_refl _) (Nat.le_refl _) fun k h1 _ _=>uU k (by omega)).all
     obtain ⟨x1,x2,x3,hx,y1,y2,y3⟩:=ETr_of.1 this
     unfold trCells at hx
     injection hx with _ hx
     injection hx with _ hx
     injection hx with g1 hx
     injection hx with g2 hx
     injection hx with g3 _
     subst g1 g2 g3
     exact ⟨_,_,_,rfl,y1,y2,y3⟩
    refine zcr (Text_ret W5 _ t hV (hE.tab.ext uE) (by omega) (by omega)) fun w6 e6=>?_
    have v2:=e6.obj u5
    have v3:=e6.obj u3
    have hfin:validT t=true∧textT t=s.data.toList→n42c1 (.pointer (some ⟨p2,0,none⟩)) (.pointer (some ⟨p3,0,none⟩)) [catchP p2 p3] (retR (ParK w0 s)) w6:=by
     intro hvt
     rw [if_pos hvt] at hpar
     unfold n42c1
     have x5:=setCells_heap [.string t.nd.name,.int .i64 t.nd.int,bv,hv,pv] 0 v2
     rw [setA_all (vs:=[.string t.nd.name,.int .i64 t.nd.int,bv,hv,pv]) (cs:=[.string t.nd.name,.int .i64 t.nd.int,bv,hv,pv].toArray) rfl] at x5
     have xU:Only p2 w6 (setCells w6 p2 0 [.string t.nd.name,.int .i64 t.nd.int,bv,hv,pv]):=setCells_only [.string t.nd.name,.int .i64 t.nd.int,bv,hv,pv] w6 0
     have xE:Ext w0 (setCells w6 p2 0 [.string t.nd.name,.int .i64 t.nd.int,bv,hv,pv]):=setCells_ext [.string t.nd.name,.int .i64 t.nd.int,bv,hv,pv] w6 0 w0 (uE.trans e6) (by omega)
     have x3:=(xU p3 (by omega)).trans v3
     have hne:p3≠p2:=by omega
     simp (disch:=try exact DI) only [↓PR,QR,simprocAttr,(cells_of_heap v2).1,(cells_of_heap v2).2,(cells_of_heap v3).1,(cells_of_heap v3).2]
     change outX _ _ _ _ ((setCells w6 p2 0 [.string t.nd.name,.int .i64 t.nd.int,bv,hv,pv]).setCell ⟨p3,0,none⟩ (.int .i64 0))
     generalize setCells w6 p2 0 [.string t.nd.name,.int .i64 t.nd.int,bv,hv,pv]=W7 at x5 xU xE x3 ⊢
     have hV7:ValAt (W7.setCell ⟨p3,0,none⟩ (.int .i64 0)) (.agg (trCells t.nd bv hv pv).toArray) t:=by
      have:=(h2.keep (w':=W7.setCell ⟨p3,0,none⟩ (.int .i64 0)) (Nat.le_refl _) (Nat.le_refl _) fun k h1 h2 h3=>by
       have hs1:=k1.size
       have hz5:w1.heap.size≤W5.heap.size:=sz5
       rw [heap_setE (by omega),xU k (by omega),e6.block k (by omega),uU k (by omega)]).all
      obtain ⟨x1,x2,x3,hx,y1,y2,y3⟩:=ETr_of.1 this
      unfold trCells at hx
      injection hx with _ hx
      injection hx with _ hx
      injection hx with g1 hx
      injection hx with g2 hx
      injection hx with g3 _
      subst g1 g2 g3
      exact ⟨_,_,_,rfl,y1,y2,y3⟩
     have z2:=(heap_setE (w:=W7) (o:=0) (v := .int .i64 0) (fun e=>hne e.symm)).trans x5
     have z3:=heap_set (o:=0) x3 (.int .i64 0)
     have zE:=xE.setCell (p:=⟨p3,0,none⟩) (by show w0.heap.size≤p3;omega) (.int .i64 0)
     generalize W7.setCell ⟨p3,0,none⟩ (.int .i64 0)=W8 at hV7 z2 z3 zE ⊢
     unfold outX
     refine catchP_ret ?_
     unfold endM retV resOne
     simp only
     simp (disch:=try exact DI) only [↓PR,QR,simprocAttr,(cells_of_heap z2).1,(cells_of_heap z3).1]
     refine ⟨zE,_,_,rfl,?_⟩
     rw [hpar]
     exact ⟨rfl,hV7⟩
    have hbad:¬ (validT t=true∧textT t=s.data.toList)→outQ Pg [catchP p2 p3] (resP p2 p3) (retR (ParK w0 s)) errF w6:=by
     intro hvt
     rw [if_neg hvt] at hpar
     exact par_none (uE.trans e6) (by omega) (by omega) v2 v3 hpar
    unfold n42c2 joinK
    by_cases hv:validT t=true
    · rw [if_pos hv]
      have hmk:mkB (textT t)=s↔textT t=s.data.toList:=⟨fun h=>by rw [← h,mkB_data],fun h=>by rw [h];exact mkB_to s⟩
      simp (disch:=try exact DI) only [↓PR,QR,simprocAttr]
      refine must_call (fun ht v=>?_) (fun ht=>?_)
      · exact hfin ⟨hv,hmk.1 (of_decide_eq_true ht)⟩
      · exact hbad fun h=>of_decide_eq_false ht (hmk.2 h.2)
    · rw [if_neg hv]
      simp (disch:=try exact DI) only [↓PR,QR,simprocAttr]
      refine must_call (fun ht v=>by cases ht) (fun ht=>?_)
      exact hbad fun h=>hv h.1
 · rintro ch w1 ⟨k1,h1⟩
   cases o with
   | none =>
    injection h1 with h1
    rw [h1]
    exact hpan w1 k1 _ _ _ _ _ _ (k1.obj o2 (by omega)) (k1.obj o3 (by omega)) hpar
   | some q =>
    obtain ⟨cs,hv,_⟩:=h1
    cases hv
 · rintro w1 ⟨k1,h1⟩
   cases o with
   | none=>cases h1
   | some q =>
    obtain ⟨cs,hv,_⟩:=h1
    cases hv
structure RdB (R:Rd):Prop where
 nm:∀ l a l',R.nm l=some (a,l')→a.length+l'.length≤l.length
 num:∀ l n l',R.num l=some (n,l')→(intL n).length+l'.length≤l.length+22
 hx:∀ l a l',R.hx l=some (a,l')→(hexL a).length+l'.length≤l.length
 numl:∀ l n l',R.num l=some (n,l')→l'.length≤l.length
section
variable {R:Rd} (hB:RdB R)
include hB
end
structure Rw (w0:World) (q p:Nat) (nm:ByteArray) (i:Int) (bs:List UInt8) (hs:List (ByteArray×ByteArray)) (ts:List Tr) (bv hv pv:Value) (w:World):Prop where
 ex:Ext w0 w
 lo:w0.heap.size≤q
 qp:q < p
 res:w.heap[q]?=some (.cells #[.string ByteArray.empty,.int .i64 0,.slice none 0 0,.slice none 0 0,.slice none 0 0] 26 (0,0))
 box:w.heap[p]?=some (.cells #[.string nm,.int .i64 i,bv,hv,pv] 26 (0,0))
 ob:OwnB w (p+1) bv bs
 oh:OwnE w (p+1) 74 2 encH hv hs
 ov:∃ css:List (Cs 5),OwnE w (p+1) 26 5 (Subtype.val:Cs 5→List Value) pv css∧KidsOf w p pv css ts
theorem val_of_cells {w:World} {c0 c1 c2 c3 c4:Value} {t:Tr} (h:ETr w [c0,c1,c2,c3,c4] t):ValAt w (.agg #[c0,c1,c2,c3,c4]) t:=by
 obtain ⟨x1,x2,x3,hx,y1,y2,y3⟩:=ETr_of.1 h
 unfold trCells at hx
 injection hx with g0 hx
 injection hx with g1 hx
 injection hx with g2 hx
 injection hx with g3 hx
 injection hx with g4 _
 subst g0 g1 g2 g3 g4
 exact ⟨_,_,_,rfl,y1,y2,y3⟩
def n31 (t0 t1:Value) (R:RT) (w:World):Prop :=
 callK Pg 120 #[t0,t1,(.int .i64 0)] (panK R) w fun t7 w =>
 R (.returned t7) w
theorem n31s {t0 t1:Value} {R:RT} {w:World} (h:n31 t0 t1 R w):Calls Pg 106 #[t0,t1] w R:=by
 refine yD Tryz.func106 ?_
 exact zs<|zr<|zm<|zn<|zk<|zs<|zr<|zm<|zm<|yc h c120 fun _ w h=>zm<|zn<|zk<|sim_ret<|body_ret1 rfl rfl h
def n32c1 (t0 t1:Value) (C3:World→Prop) (R:RT) (w:World):Prop :=
 qV Pg C3 (Instr.index 9 t1 (.int .i64 0)) fun t24 =>
 qV Pg C3 (Instr.index 9 t1 (.int .i64 0)) fun t27 =>
 callK Pg 123 #[t0,t24] (panK R) w fun t25 w =>
 C3 w∧(
 callK Pg 122 #[t25,t27] (panK R) w fun t28 w =>
 C3 w∧(
 R (.returned t28) w))
def n32c2 (t0 t1 t31:Value) (R:RT) (w:World):Prop :=
 opV Pg (Instr.extract t31 0) (panK R) w fun t32 w =>
 opV Pg (Instr.extract t31 1) (panK R) w fun t33 w =>
 opV Pg (Instr.alloc 157 true (.tuple #[])) (panK R) w fun t5 w =>
 opU Pg (Instr.storeAt 157 t5 t32) (panK R) w fun w =>
 condP t33 (
 callK Pg 126 #[t0,t5] (panK R) w fun t36 w =>
 callK Pg 125 #[t36,t5] (panK R) w fun t37 w =>
 R (.returned t37) w) (
 callK Pg 128 #[t0,t1] (panK R) w fun t40 w =>
 callK Pg 127 #[t40,t1] (panK R) w fun t42 w =>
 R (.returned t42) w)
def n32c3 (t0 t1 t16 t20:Value) (R:RT) (w:World):Prop :=
 pickK t16 t20 (.bool false) fun t21 =>
 condP t21 (
 drawK w fun C3 w =>
 n32c1 t0 t1 C3 R w) (
 callK Pg 124 #[t1] (panK R) w fun t31 w =>
 n32c2 t0 t1 t31 R w)
def n32c4 (t0 t1:Value) (R:RT) (w:World):Prop :=
 opV Pg (Builtin.len_ #[9] 3 #[t1]) (panK R) w fun t15 w =>
 opV Pg (binS .eql 3 true t15 (.int .i64 1)) (panK R) w fun t16 w =>
 joinK (fun (t20:Value) (w:World) =>
 n32c3 t0 t1 t16 t20 R w) fun K2 =>
 guardP t16 true (
 opV Pg (Instr.index 9 t1 (.int .i64 0)) (panK R) w fun t19 w =>
 opV Pg (binS .lss 5 true t19 (.int .u8 128)) (panK R) w fun t20 w =>
 K2 t20 w) (
 K2 undef w)
def n32 (t0 t1:Value) (R:RT) (w:World):Prop :=
 opV Pg (binS .eql 9 true t0 (.string { data := #[] })) (panK R) w fun t8 w =>
 joinK (fun (t11:Value) (w:World) =>
 pickK t8 (.bool true) t11 fun t12 =>
 condP t12 (
 R (.returned t0) w) (
 n32c4 t0 t1 R w)) fun K1 =>
 guardP t8 false (
 opV Pg (binS .eql 9 true t1 (.string { data := #[] })) (panK R) w fun t11 w =>
 K1 t11 w) (
 K1 undef w)
theorem n32s {t0 t1:Value} {R:RT} {w:World} (h:n32 t0 t1 R w):Calls Pg 108 #[t0,t1] w R:=by
 refine yD Tryz.func108 ?_
 refine zs<|zr<|zm<|zn<|zk<|zs<|zs<|sim_regionG<|yG 3<|zm<|yb h fun _ w h=>zm<|zn<|yg1 2 2 false [10,11] 11 h (fun _ T hT h=>?_) fun σ w h=>?_
 · refine zm<|yb h fun _ w h=>zn ?_
   exact zt hT h
 refine yG 1<|yp h fun _ h=>zn<|sim_end<|zk<|yC h (fun h=>zs<|zr<|zm<|zm<|zn<|zk<|sim_ret<|sim_then_ret<|body_ret1 rfl rfl h) fun h=>sim_skip<|zk<|zs<|zs<|sim_regionG<|yG 4<|zm<|yx h fun _ w h=>?_
 refine yb h fun _ w h=>zm<|zn<|yg1 3 3 true [18,19,20] 20 h (fun _ T hT h=>?_) fun σ w h=>?_
 · refine zm<|yv h fun _ w h=>yb h fun _ w h=>zn ?_
   exact zt hT h
 refine yG 1<|yp h fun _ h=>zn<|sim_end<|zk<|yC h (fun h=>?_) fun h=>?_
 · refine zs<|yh [4,22,23,24,25,26,27,28] h fun C hC h=>yw 0 hC ?_
   refine yw 1 hC ?_
   refine ye 2 hC h fun _ h=>?_
   refine yw 4 hC ?_
   refine ye 5 hC h fun _ h=>?_
   refine yo 3 ?_
   refine yc h c123 fun _ w h=>zn ?_
   obtain ⟨hC,h⟩:=h
   refine ⟨hC,?_⟩
   refine yo 6 ?_
   refine yc h c122 fun _ w h=>zn ?_
   obtain ⟨hC,h⟩:=h
   refine ⟨hC,?_⟩
   refine yw 7 hC ?_
   exact yz<|zk<|sim_ret<|sim_then_ret<|body_ret1 rfl rfl h
 refine sim_skip<|zk<|zs<|zs<|zr<|zm<|yc h c124 fun _ w h=>zm<|yv h fun _ w h=>yv h fun _ w h=>yv h fun _ w h=>yu h fun w h=>zm<|zn<|zk ?_
 refine zs<|zr<|zm<|zn<|zk<|yC h (fun h=>zs<|zr<|zm<|yc h c126 fun _ w h=>yc h c125 fun _ w h=>zm<|zn<|zk<|sim_ret<|sim_then_ret<|body_ret1 rfl rfl h) fun h=>sim_skip<|zk<|zs<|zr<|zm<|zm<|yc h c128 fun _ w h=>zm ?_
 exact yc h c127 fun _ w h=>zm<|zn<|zk<|sim_ret<|body_ret1 rfl rfl h
def n33 (t0 t1 t2:Value) (R:RT) (w:World):Prop :=
 opV Pg (Instr.box 9 t0) (panK R) w fun t3 w =>
 opV Pg (Instr.box 9 t1) (panK R) w fun t4 w =>
 opV Pg (Instr.box 3 t2) (panK R) w fun t5 w =>
 opV Pg (Instr.makeFunc (.func 136) #[] #[t4,t3,t5]) (panK R) w fun t7 w =>
 R (.returned t7) w
theorem n33s {t0 t1 t2:Value} {R:RT} {w:World} (h:n33 t0 t1 t2 R w):Calls Pg 120 #[t0,t1,t2] w R:=by
 refine yD Tryz.func120 ?_
 refine zs<|zr<|yv h fun _ w h=>yv h fun _ w h=>yv h fun _ w h=>zm<|zn<|zk<|zs<|zr<|yF h fun _ w h=>zm<|zn<|zk<|sim_ret ?_
 exact body_ret1 rfl rfl h
def n35c1 (t0 t1:Value) (K1:KV) (next2:KV) (R:RT) (w:World):Prop :=
 opV Pg (Instr.index 9 t0 (.int .i64 0)) (panK R) w fun t10 w =>
 callK Pg 140 #[t1,t10] (panK R) w fun t11 w =>
 opV Pg (Op.unary .not t11) (panK R) w fun t12 w =>
 condP t12 (
 K1 t0 w) (
 opV Pg (Instr.sliceAt 9 t0 (some (.int .i64 1)) none none) (panK R) w fun t14 w =>
 next2 t14 w)
def n35c2 (t0 t1:Value) (K1:KV) (next2:KV) (R:RT) (w:World):Prop :=
 opV Pg (Builtin.len_ #[9] 3 #[t0]) (panK R) w fun t6 w =>
 opV Pg (binS .gtr 3 true t6 (.int .i64 0)) (panK R) w fun t7 w =>
 condP t7 (
 n35c1 t0 t1 K1 next2 R w) (
 K1 t0 w)
def n35 (t0 t1:Value) (R:RT) (w:World):Prop :=
 joinK (fun (t0:Value) (w:World) =>
 R (.returned t0) w) fun K1 =>
 loop1 (fun t0 w next2 =>
 n35c2 t0 t1 K1 next2 R w) t0 w
theorem n35s {t0 t1:Value} {R:RT} {w:World} (h:n35 t0 t1 R w):Calls Pg 125 #[t0,t1] w R:=by
 refine yD Tryz.func125 ?_
 refine zs<|zr<|zm<|zn<|zk<|zs<|yJ1 [0,5,6,7,8,9,10,11,12,13,14] 0 h (fun _ _ hkK1 h=>?_) fun σ w h=>?_
 · refine sim_block<|yl1 [0,5,6,7,8,9,10,11,12,13,14] 0 h fun σ w next h=>zs<|zs<|zr<|zm<|yx h fun _ w h=>yb h fun _ w h=>zn<|zk<|yC h (fun h=>?_) fun h=>?_
   · refine sim_skip<|zk<|sim_block<|zs<|zs<|zr<|zm<|zm<|yv h fun _ w h=>yc h c140 fun _ w h=>yv h fun _ w h=>zn<|zk<|yC h (fun h=>?_) fun h=>?_
     · refine sim_exit<|sim_then_exit<|sim_block_miss rfl<|sim_then_exit<|sim_block_hit<|zk ?_
       exact zt hkK1 h
     exact sim_skip<|zk<|zr<|zm<|yv h fun _ w h=>zm<|zn<|sim_block_normal<|zk<|⟨rfl,h⟩
   refine sim_exit<|sim_then_exit<|sim_then_exit<|sim_block_hit<|zk ?_
   exact zt hkK1 h
 exact zk<|zs<|zr<|zm<|zm<|zn<|zk<|sim_ret<|body_ret1 rfl rfl h
def n36c1 (t0:Value) (next2:KV) (R:RT) (w:World):Prop :=
 opV Pg (Builtin.len_ #[9] 3 #[t0]) (panK R) w fun t18 w =>
 opV Pg (binS .sub 3 true t18 (.int .i64 1)) (panK R) w fun t19 w =>
 opV Pg (Instr.sliceAt 9 t0 none (some t19) none) (panK R) w fun t20 w =>
 next2 t20 w
def n36c2 (t0 t1:Value) (K1:KV) (next2:KV) (R:RT) (w:World):Prop :=
 opV Pg (Builtin.len_ #[9] 3 #[t0]) (panK R) w fun t11 w =>
 opV Pg (binS .sub 3 true t11 (.int .i64 1)) (panK R) w fun t12 w =>
 opV Pg (Instr.index 9 t0 t12) (panK R) w fun t13 w =>
 callK Pg 140 #[t1,t13] (panK R) w fun t14 w =>
 opV Pg (Op.unary .not t14) (panK R) w fun t15 w =>
 condP t15 (
 K1 t0 w) (
 n36c1 t0 next2 R w)
def n36c3 (t0 t1:Value) (K1:KV) (next2:KV) (R:RT) (w:World):Prop :=
 opV Pg (Builtin.len_ #[9] 3 #[t0]) (panK R) w fun t6 w =>
 opV Pg (binS .gtr 3 true t6 (.int .i64 0)) (panK R) w fun t7 w =>
 condP t7 (
 n36c2 t0 t1 K1 next2 R w) (
 K1 t0 w)
def n36 (t0 t1:Value) (R:RT) (w:World):Prop :=
 joinK (fun (t0:Value) (w:World) =>
 R (.returned t0) w) fun K1 =>
 loop1 (fun t0 w next2 =>
 n36c3 t0 t1 K1 next2 R w) t0 w
theorem n36s {t0 t1:Value} {R:RT} {w:World} (h:n36 t0 t1 R w):Calls Pg 126 #[t0,t1] w R:=by
 refine yD Tryz.func126 ?_
 refine zs<|zr<|zm<|zn<|zk<|zs<|yJ1 [0,5,6,7,8,9,10,11,12,13,14,15,16,17,18,19,20] 0 h (fun _ _ hkK1 h=>?_) fun σ w h=>?_
 · refine sim_block<|yl1 [0,5,6,7,8,9,10,11,12,13,14,15,16,17,18,19,20] 0 h fun σ w next h=>zs<|zs<|zr<|zm<|yx h fun _ w h=>yb h fun _ w h=>zn<|zk<|yC h (fun h=>?_) fun h=>?_
   · refine sim_skip<|zk<|sim_block<|zs<|zs<|zr<|zm<|zm<|zm<|yx h fun _ w h=>yb h fun _ w h=>yv h fun _ w h=>yc h c140 fun _ w h=>yv h fun _ w h=>zn ?_
     refine zk<|yC h (fun h=>?_) fun h=>?_
     · refine sim_exit<|sim_then_exit<|sim_block_miss rfl<|sim_then_exit<|sim_block_hit<|zk ?_
       exact zt hkK1 h
     exact sim_skip<|zk<|zr<|zm<|zm<|yx h fun _ w h=>yb h fun _ w h=>yv h fun _ w h=>zm<|zn<|sim_block_normal<|zk<|⟨rfl,h⟩
   refine sim_exit<|sim_then_exit<|sim_then_exit<|sim_block_hit<|zk ?_
   exact zt hkK1 h
 exact zk<|zs<|zr<|zm<|zm<|zn<|zk<|sim_ret<|body_ret1 rfl rfl h
def n34c1 (t2 t19:Value) (next1:World→Prop) (R:RT) (w:World):Prop :=
 opV Pg (Instr.loadAt 9 t2) (panK R) w fun t26 w =>
 opV Pg (Instr.sliceAt 9 t26 (some t19) none none) (panK R) w fun t28 w =>
 opU Pg (Instr.storeAt 9 t2 t28) (panK R) w fun w =>
 next1 w
def n34c2 (t0 t2 t17:Value) (next1:World→Prop) (R:RT) (w:World):Prop :=
 opV Pg (Instr.extract t17 0) (panK R) w fun t18 w =>
 opV Pg (Instr.extract t17 1) (panK R) w fun t19 w =>
 opV Pg (Instr.loadAt 9 t2) (panK R) w fun t21 w =>
 opV Pg (Instr.sliceAt 9 t21 none (some t19) none) (panK R) w fun t23 w =>
 callV Pg t0 #[t23] (panK R) w fun t24 w =>
 opV Pg (Op.unary .not t24) (panK R) w fun t25 w =>
 condP t25 (
 R (.returned (.tuple #[])) w) (
 n34c1 t2 t19 next1 R w)
def n34c3 (t0 t2:Value) (next1:World→Prop) (R:RT) (w:World):Prop :=
 opV Pg (Instr.loadAt 9 t2) (panK R) w fun t12 w =>
 opV Pg (Builtin.len_ #[9] 3 #[t12]) (panK R) w fun t13 w =>
 opV Pg (binS .gtr 3 true t13 (.int .i64 0)) (panK R) w fun t14 w =>
 condP t14 (
 opV Pg (Instr.loadAt 9 t2) (panK R) w fun t16 w =>
 callK Pg 137 #[t16] (panK R) w fun t17 w =>
 n34c2 t0 t2 t17 next1 R w) (
 R (.returned (.tuple #[])) w)
def n34c4 (t1 t2 t31:Value) (next2:World→Prop) (R:RT) (w:World):Prop :=
 opV Pg (Instr.loadAt 9 t2) (panK R) w fun t43 w =>
 opV Pg (Instr.loadAt 9 t1) (panK R) w fun t45 w =>
 opV Pg (Builtin.len_ #[9] 3 #[t45]) (panK R) w fun t46 w =>
 opV Pg (binS .add 3 false t31 t46) (panK R) w fun t47 w =>
 opV Pg (Instr.sliceAt 9 t43 (some t47) none none) (panK R) w fun t48 w =>
 opU Pg (Instr.storeAt 9 t2 t48) (panK R) w fun w =>
 next2 w
def n34c5 (t0 t1 t2 t3 t31:Value) (next2:World→Prop) (R:RT) (w:World):Prop :=
 opV Pg (Instr.loadAt 9 t2) (panK R) w fun t34 w =>
 opV Pg (Instr.loadAt 3 t3) (panK R) w fun t36 w =>
 opV Pg (binS .add 3 false t31 t36) (panK R) w fun t37 w =>
 opV Pg (Instr.sliceAt 9 t34 none (some t37) none) (panK R) w fun t38 w =>
 callV Pg t0 #[t38] (panK R) w fun t41 w =>
 opV Pg (Op.unary .not t41) (panK R) w fun t42 w =>
 condP t42 (
 R (.returned (.tuple #[])) w) (
 n34c4 t1 t2 t31 next2 R w)
def n34c6 (t0 t1 t2 t3 t31:Value) (next2:World→Prop) (R:RT) (w:World):Prop :=
 opV Pg (binS .lss 3 true t31 (.int .i64 0)) (panK R) w fun t33 w =>
 condP t33 (
 opV Pg (Instr.loadAt 9 t2) (panK R) w fun t50 w =>
 callV Pg t0 #[t50] (panK R) w fun t51 w =>
 R (.returned (.tuple #[])) w) (
 n34c5 t0 t1 t2 t3 t31 next2 R w)
def n34c7 (t0 t1 t2 t3:Value) (next2:World→Prop) (R:RT) (w:World):Prop :=
 opV Pg (Instr.loadAt 9 t2) (panK R) w fun t29 w =>
 opV Pg (Instr.loadAt 9 t1) (panK R) w fun t30 w =>
 callK Pg 138 #[t29,t30] (panK R) w fun t31 w =>
 n34c6 t0 t1 t2 t3 t31 next2 R w
def n34 (t0 t1 t2 t3:Value) (R:RT) (w:World):Prop :=
 opV Pg (Instr.loadAt 9 t1) (panK R) w fun t9 w =>
 opV Pg (Builtin.len_ #[9] 3 #[t9]) (panK R) w fun t10 w =>
 opV Pg (binS .eql 3 true t10 (.int .i64 0)) (panK R) w fun t11 w =>
 condP t11 (
 loop0 (fun w next1 =>
 n34c3 t0 t2 next1 R w) w) (
 loop0 (fun w next2 =>
 n34c7 t0 t1 t2 t3 next2 R w) w)
theorem n34s {t0 t1 t2 t3:Value} {R:RT} {w:World} (h:n34 t0 t1 t2 t3 R w):Calls Pg 136 #[t0,t1,t2,t3] w R:=by
 refine yD Tryz.func136 ?_
 refine zs<|zs<|zr<|yv h fun _ w h=>yx h fun _ w h=>yb h fun _ w h=>zn<|zk<|yC h (fun h=>?_) fun h=>?_
 · refine zs<|sim_block<|yl0 [5,6,12,13,14,15,16,17,18,19,20,21,22,23,24,25,26,27,28] h fun σ w next h=>zs<|zs<|zr<|yv h fun _ w h=>yx h fun _ w h=>yb h fun _ w h=>zn<|zk<|yC h (fun h=>?_) fun h=>?_
   · refine sim_skip<|zk<|sim_block<|zs<|zr<|yv h fun _ w h=>yc h c137 fun _ w h=>zm<|yv h fun _ w h=>yv h fun _ w h=>zm<|zm<|zn<|zk<|zs ?_
     refine zs<|zr<|zm<|yv h fun _ w h=>zm<|yv h fun _ w h=>yV h fun _ w h=>yv h fun _ w h=>zn<|zk<|yC h (fun h=>sim_ret<|sim_then_ret<|sim_block_ret<|sim_then_ret<|sim_block_ret<|sim_then_ret<|sim_then_ret<|body_ret0 rfl h) fun h=>sim_skip<|zk<|zr ?_
     exact yv h fun _ w h=>zm<|yv h fun _ w h=>yu h fun w h=>zn<|sim_block_normal<|zk<|⟨rfl,h⟩
   exact sim_exit<|sim_then_exit<|sim_then_exit<|sim_block_hit<|zk<|sim_ret<|sim_then_ret<|body_ret0 rfl h
 refine sim_skip<|zk<|zs<|sim_block<|yl0 [7,8,29,30,31,32,33,34,35,36,37,38,39,40,41,42,43,44,45,46,47,48] h fun σ w next h=>sim_block<|zs<|zr<|yv h fun _ w h=>yv h fun _ w h=>yc h c138 fun _ w h=>zm<|zn<|zk<|zs ?_
 refine zs<|zr<|zm<|yb h fun _ w h=>zn<|zk<|yC h (fun h=>sim_exit<|sim_then_exit<|sim_block_miss rfl<|sim_then_exit<|sim_block_hit<|zk<|zr<|zm<|yv h fun _ w h=>yV h fun _ w h=>zn<|body_normal<|body_ret0 rfl h) fun h=>sim_skip<|zk<|zs<|zr<|yv h fun _ w h=>zm<|yv h fun _ w h=>?_
 refine yb h fun _ w h=>yv h fun _ w h=>zm<|zn<|zk<|zs<|zs<|zr<|zm<|zm<|yV h fun _ w h=>yv h fun _ w h=>zn<|zk<|yC h (fun h=>sim_ret<|sim_then_ret<|sim_block_ret<|sim_then_ret<|sim_block_ret<|sim_then_ret<|body_ret0 rfl h) fun h=>?_
 exact sim_skip<|zk<|zr<|yv h fun _ w h=>zm<|yv h fun _ w h=>yx h fun _ w h=>yb h fun _ w h=>yv h fun _ w h=>yu h fun w h=>zn<|sim_block_normal<|zk<|⟨rfl,h⟩
def neB (c:UInt8) (x:UInt8):Bool:=decide (x≠c)
theorem index_one (c:UInt8):∀ l:List UInt8,Go.Lib.index l [c]=if l.all (neB c)=true then -1 else ((l.takeWhile (neB c)).length:Int)
 | []=>by
  show (if ([c]:List UInt8).isPrefixOf [] then (0:Int) else -1)=_
  rfl
 | b::l=>by
  have hp:([c]:List UInt8).isPrefixOf (b::l)=!neB c b:=by
   unfold neB
   simp [List.isPrefixOf]
   rw [Bool.eq_iff_iff]
   simp only [beq_iff_eq,decide_eq_true_eq]
   exact eq_comm
  show (if ([c]:List UInt8).isPrefixOf (b::l) then (0:Int) else if Go.Lib.index l [c] == -1 then -1 else Go.Lib.index l [c]+1)=_
  rw [hp,index_one c l,List.all_cons,List.takeWhile_cons]
  cases neB c b with
  | false=>rfl
  | true =>
   simp only [Bool.not_true,Bool.false_eq_true,if_false,Bool.true_and,if_true,List.length_cons]
   by_cases h:l.all (neB c)=true
   · rw [if_pos h,if_pos h];rfl
   · rw [if_neg h,if_neg h]
     have:(((l.takeWhile (neB c)).length:Int) == -1)=false:=by
      rw [beq_eq_false_iff_ne]
      omega
     rw [this]
     simp
theorem indexByte_one (c:UInt8):∀ l:List UInt8,Go.Lib.indexByte l c=if l.all (neB c)=true then -1 else ((l.takeWhile (neB c)).length:Int)
 | []=>rfl
 | b::l=>by
  have hp:(b == c)=!neB c b:=by
   unfold neB
   by_cases h:b=c<;>simp [h]
  show (if b == c then (0:Int) else if Go.Lib.indexByte l c == -1 then -1 else Go.Lib.indexByte l c+1)=_
  rw [hp,indexByte_one c l,List.all_cons,List.takeWhile_cons]
  cases neB c b with
  | false=>rfl
  | true =>
   simp only [Bool.not_true,Bool.false_eq_true,if_false,Bool.true_and,if_true,List.length_cons]
   by_cases h:l.all (neB c)=true
   · rw [if_pos h,if_pos h];rfl
   · rw [if_neg h,if_neg h]
     have:(((l.takeWhile (neB c)).length:Int) == -1)=false:=by
      rw [beq_eq_false_iff_ne]
      omega
     rw [this]
     simp
theorem tw_take (p:UInt8→Bool) (l:List UInt8):l.take (l.takeWhile p).length=l.takeWhile p:=by
 conv=>lhs;arg 2;rw [← List.takeWhile_append_dropWhile (p:=p) (l:=l)]
 rw [List.take_left]
theorem dw_drop (p:UInt8→Bool) (l:List UInt8):l.drop ((l.takeWhile p).length+1)=(l.dropWhile p).tail:=by
 rw [← List.drop_drop]
 conv=>lhs;arg 2;arg 2;rw [← List.takeWhile_append_dropWhile (p:=p) (l:=l)]
 rw [List.drop_left]
 cases l.dropWhile p<;>rfl
theorem cut_one (c:UInt8) (l:List UInt8):Go.Lib.cut l [c]=if l.all (neB c)=true then (l,[],false) else (l.takeWhile (neB c),(l.dropWhile (neB c)).tail,true):=by
 unfold Go.Lib.cut
 rw [index_one c l]
 by_cases h:l.all (neB c)=true
 · rw [if_pos h,if_pos h,if_neg (by omega)]
 · rw [if_neg h,if_neg h,if_pos (by omega),Int.toNat_natCast,tw_take]
   exact congrArg (fun x=>(l.takeWhile (neB c),x,true)) (dw_drop (neB c) l)
theorem drewN_ext' (w:World) (n:Nat):Ext w (w.drewN n):=⟨rfl,rfl,rfl,Nat.le_refl _,fun _ _=>rfl⟩
theorem CutOne_ret {w:World} (hE:EnvOK w) (c:UInt8) (l:List UInt8) (hl:l.length≤100000000):Ret Pg 107 #[.string (mkB l),.string ⟨#[c]⟩] w fun r w'=>r=(if l.all (neB c)=true then .tuple #[.string (mkB l),.string (mkB []),.bool false] else .tuple #[.string (mkB (l.takeWhile (neB c))),.string (mkB (l.dropWhile (neB c)).tail),.bool true])∧Ext w w':=by
 obtain ⟨m,hm⟩:=hE.len
 refine Calls.mono (sh_strings_Cut (mkB l) ⟨#[c]⟩ m w (by rw [mkB_size];omega) hm) ?_
 rintro e w' ⟨rfl,n,rfl⟩
 refine ⟨_,rfl,?_,drewN_ext' w n⟩
 rw [mkB_data,show (⟨#[c]⟩:ByteArray).data.toList=[c] from rfl,cut_one]
 split<;>rfl
def splitB (c:UInt8):List UInt8→List (List UInt8)
 | []=>[[]]
 | x::l=>if x=c then []::splitB c l else match splitB c l with
  | []=>[[x]]
  | p::ps=>(x::p)::ps
theorem splitB_ne (c:UInt8) (l:List UInt8):splitB c l≠[]:=by
 cases l with
 | nil=>simp [splitB]
 | cons x l =>
  unfold splitB
  split
  · simp
  · split<;>simp
theorem splitB_eq (c:UInt8):∀ l:List UInt8,splitB c l=if l.all (neB c)=true then [l] else l.takeWhile (neB c)::splitB c (l.dropWhile (neB c)).tail
 | []=>rfl
 | x::l=>by
  have ih:=splitB_eq c l
  rw [splitB,List.all_cons,List.takeWhile_cons,List.dropWhile_cons]
  by_cases h:x=c
  · have:neB c x=false:=by simp [neB,h]
    rw [if_pos h,this]
    simp
  · have hn:neB c x=true:=by simp [neB,h]
    rw [if_neg h,hn]
    simp only [Bool.true_and,if_true]
    rw [ih]
    by_cases ha:l.all (neB c)=true
    · rw [if_pos ha,if_pos ha]
    · rw [if_neg ha,if_neg ha]
theorem splitB_len (c:UInt8):∀ l:List UInt8,(splitB c l).length≤l.length+1
 | []=>by simp [splitB]
 | x::l=>by
  have ih:=splitB_len c l
  unfold splitB
  split
  · simp only [List.length_cons];omega
  · split
    · simp
    · rename_i h
      rw [h] at ih
      simp only [List.length_cons] at ih ⊢
      omega
theorem splitB_mem (c:UInt8):∀ (l p:List UInt8),p∈splitB c l→p.length≤l.length
 | [],p,h=>by simp [splitB] at h;simp [h]
 | x::l,p,h=>by
  unfold splitB at h
  split at h
  · rcases List.mem_cons.1 h with rfl | h
    · simp
    · have:=splitB_mem c l p h;simp only [List.length_cons];omega
  · split at h
    · simp at h;simp [h]
    · rename_i q qs hq
      rcases List.mem_cons.1 h with rfl | h
      · have:=splitB_mem c l q (by rw [hq];exact List.mem_cons_self ..)
        simp only [List.length_cons];omega
      · have:=splitB_mem c l p (by rw [hq];exact List.mem_cons_of_mem _ h)
        simp only [List.length_cons];omega
section
variable {P:Program} {QP:List PanicEntry→World→Prop} {k:Value→World→Prop} {w:World}
theorem op_subF {t:TypeId} (hu:P.underlying t=some .string) (s:ByteArray) (b:Nat) (h2:b≤s.size):opV P (Instr.sliceAt t (.string s) none (some (.int .i64 (b:Int))) none) QP w k=k (.string (s.extract 0 b)) w:=by
 have g2:(b:Int)≤(s.size:Int):=by omega
 refine opV_ok ?_
 simp [Instr.sliceAt,run_underlying hu,Instr.slice,Instr.sliceBounds,run_sliceBound,g2]
theorem op_subE {t:TypeId} (hu:P.underlying t=some .string) (s:ByteArray) (a:Nat) (h1:a≤s.size):opV P (Instr.sliceAt t (.string s) (some (.int .i64 (a:Int))) none none) QP w k=k (.string (s.extract a s.size)) w:=by
 have g1:(a:Int)≤(s.size:Int):=by omega
 refine opV_ok ?_
 simp [Instr.sliceAt,run_underlying hu,Instr.slice,Instr.sliceBounds,run_sliceBound,g1]
end
theorem sub_first (l:List UInt8) (b:Nat):(mkB l).extract 0 b=mkB (l.take b):=by rw [sub_mkB,mkB_data,List.drop_zero,Nat.sub_zero]
theorem sub_rest (l:List UInt8) (a:Nat):(mkB l).extract a (mkB l).size=mkB (l.drop a):=by
 rw [sub_mkB,mkB_data,mkB_size,List.take_of_length_le (by rw [List.length_drop];exact Nat.le_refl _)]
def SplAt (q:Nat) (c:UInt8) (s:List UInt8) (w:World):Prop:=w.heap[q]?=some (.cells #[.string (mkB s)] 9 (0,0))∧w.heap[q+1]?=some (.cells #[.string ⟨#[c]⟩] 9 (0,0))∧w.heap[q+2]?=some (.cells #[.int .i64 0] 3 (0,0))
theorem SplitSeq_ret (w0:World) (c:UInt8) (s:List UInt8):Ret Pg 106 #[.string (mkB s),.string ⟨#[c]⟩] w0 fun r w'=>r = .func (.func 136) #[] #[.pointer (some ⟨w0.heap.size+1,0,none⟩),.pointer (some ⟨w0.heap.size,0,none⟩),.pointer (some ⟨w0.heap.size+2,0,none⟩)]∧SplAt w0.heap.size c s w'∧Ext w0 w':=by
 refine n31s (R:=retR _) ?_;unfold n31
 refine callK_ret (Φ:=fun r w'=>r = .func (.func 136) #[] #[.pointer (some ⟨w0.heap.size+1,0,none⟩),.pointer (some ⟨w0.heap.size,0,none⟩),.pointer (some ⟨w0.heap.size+2,0,none⟩)]∧SplAt w0.heap.size c s w'∧Ext w0 w') ?_ ?_
 · refine n33s (R:=retR _) ?_;unfold n33
   rw [op_box,op_box,op_box]
   have o1:=heap_new w0 #[.string (mkB s)] 9
   have e1:Ext w0 (w0.alloc (.cells #[.string (mkB s)] 9)):=ee
   have z1:(w0.alloc (.cells #[.string (mkB s)] 9)).heap.size=w0.heap.size+1:=by simp
   rw [show (Value.string (mkB s)).cells = #[.string (mkB s)] from rfl,show (Value.string ⟨#[c]⟩).cells = #[.string ⟨#[c]⟩] from rfl,show (Value.int .i64 0).cells = #[.int .i64 0] from rfl]
   generalize (w0.alloc (.cells #[.string (mkB s)] 9))=W1 at *
   have o2:=heap_new W1 #[.string ⟨#[c]⟩] 9
   have e2:Ext W1 (W1.alloc (.cells #[.string ⟨#[c]⟩] 9)):=ee
   have z2:(W1.alloc (.cells #[.string ⟨#[c]⟩] 9)).heap.size=W1.heap.size+1:=by simp
   generalize (W1.alloc (.cells #[.string ⟨#[c]⟩] 9))=W2 at *
   have o3:=heap_new W2 #[.int .i64 0] 3
   have e3:Ext W2 (W2.alloc (.cells #[.int .i64 0] 3)):=ee
   generalize (W2.alloc (.cells #[.int .i64 0] 3))=W3 at *
   rw [z1] at o2 z2 ⊢
   rw [z2] at o3 ⊢
   simp (disch:=try exact DI) only [↓PR,QR,simprocAttr]
   exact ⟨by trivial,⟨e3.obj (e2.obj o1),e3.obj o2,o3⟩,e1.trans (e2.trans e3)⟩
 · rintro r w' ⟨rfl,h1,h2⟩
   simp (disch:=try exact DI) only [↓PR,QR,simprocAttr]
   exact ⟨by trivial,h1,h2⟩
def lenM (b:Nat) (w:World):Nat:=match w.heap[b]? with
 | some (.cells cs _ _)=>match cs[0]?.getD (.int .i64 0) with
  | Value.string s=>s.size
  | _=>0
 | _=>0
theorem lenM_eq {b:Nat} {w:World} {s:List UInt8} {T:TypeId} (h:w.heap[b]?=some (.cells #[.string (mkB s)] T (0,0))):lenM b w=s.length:=by
 unfold lenM
 rw [h]
 exact mkB_size s
def SplY (c:UInt8) (s:List UInt8) (k:Nat) (x:Value):Prop:=∃ p,(splitB c s)[k]?=some p∧x = .string (mkB p)
theorem drop_cons_get {α:Type} {l:List α} {k:Nat} {x:α} {r:List α} (h:l.drop k=x::r):l[k]?=some x∧l.drop (k+1)=r∧k < l.length:=by
 have h1:l[k]?=some x:=by
  have:(l.drop k)[0]?=some x:=by rw [h];rfl
  rwa [List.getElem?_drop,Nat.add_zero] at this
 refine ⟨h1,?_,(List.getElem?_eq_some_iff.1 h1).1⟩
 rw [← List.drop_drop,h]
 rfl
theorem splitSeq_seq (q:Nat) (c:UInt8) (s:List UInt8) (hs:s.length≤100000000):SeqIt8 Pg 136 #[.pointer (some ⟨q+1,0,none⟩),.pointer (some ⟨q,0,none⟩),.pointer (some ⟨q+2,0,none⟩)] (splitB c s).length (fun _ k x V _=>SplY c s k x∧V=(· = q)) (· = q) (SplAt q c s) (fun w=>w.heap[q+1]?=some (.cells #[.string ⟨#[c]⟩] 9 (0,0))∧w.heap[q+2]?=some (.cells #[.int .i64 0] 3 (0,0))):=by
 intro yv J Jx Jp w hy hPre hFP hJl hJx hJp hstep h0
 refine n34s (t0:=yv) ?_
 unfold n34
 obtain ⟨p1,p2,p3⟩:=hPre
 have hz1:((⟨#[c]⟩:ByteArray).size:Int)=1:=rfl
 simp (disch:=try exact DI) only [↓PR,QR,simprocAttr,(cells_of_heap p2).1,hz1]
 refine loop0_intro (fun u=>∃ k rem,(splitB c s).drop k=splitB c rem∧rem.length≤s.length∧u.heap[q]?=some (.cells #[.string (mkB rem)] 9 (0,0))∧J k (· = q) u) (lenM q) ⟨0,s,rfl,Nat.le_refl _,p1,h0⟩ ?_
 rintro u ⟨k,rem,hd,hr,oq,hJ⟩
 rw [lenM_eq oq]
 obtain ⟨f1,f2⟩:=hFP k _ u hJ
 unfold n34c7
 simp (disch:=try exact DI) only [↓PR,QR,simprocAttr,(cells_of_heap oq).1,(cells_of_heap f1).1]
 have hI:Ret Pg 138 #[.string (mkB rem),.string ⟨#[c]⟩] u fun r w'=>r = .int .i64 (Go.Lib.indexByte rem c)∧w'=u:=by
  refine Calls.mono (sh_strings_Index_one (mkB rem) c u) ?_
  rintro e w' ⟨rfl,rfl⟩
  rw [mkB_data]
  exact ⟨_,rfl,rfl,rfl⟩
 refine callK_ret hI ?_
 rintro _ w' ⟨rfl,hw⟩
 rw [hw,indexByte_one c rem]
 have hV:∀ b,(fun b=>b=q) b→(fun b=>b=q) b∨w.heap.size≤b:=fun b h => .inl h
 have hF:∀ o,(∀ r,o≠Obj.loop r)→Firm7 (fun b=>b=q) (fun u=>u.heap[q]?=some o):=fun o ho=>Firm7.has rfl ho
 by_cases ha:rem.all (neB c)=true
 · rw [if_pos ha]
   rw [splitB_eq c rem,if_pos ha] at hd
   obtain ⟨g1,g2,g3⟩:=drop_cons_get hd
   have hn:k+1=(splitB c s).length:=by
    have:=List.drop_eq_nil_iff.1 g2
    omega
   unfold n34c6
   simp (disch:=try exact DI) only [↓PR,QR,simprocAttr,(cells_of_heap oq).1]
   refine callV_mono (hstep k g3 (.string (mkB rem)) (fun b=>b=q) u ⟨⟨_,g1,rfl⟩,rfl⟩ hV _ (hF _ (by simp)) hJ oq) (fun ch w h=>⟨_,h.2⟩) ?_
   rintro v w2 ⟨_,⟨rfl,h⟩ | ⟨rfl,h⟩⟩
   · simp (disch:=try exact DI) only [↓PR,QR,simprocAttr]
     exact ⟨_,.inl (by rw [← hn];exact h)⟩
   · simp (disch:=try exact DI) only [↓PR,QR,simprocAttr]
     exact ⟨_,.inr h⟩
 · rw [if_neg ha]
   rw [splitB_eq c rem,if_neg ha] at hd
   obtain ⟨g1,g2,g3⟩:=drop_cons_get hd
   have hl0:¬ (((rem.takeWhile (neB c)).length:Int) < 0):=by omega
   have hlt:(rem.takeWhile (neB c)).length < rem.length:=by
    rcases Nat.lt_or_ge (rem.takeWhile (neB c)).length rem.length with h | h
    · exact h
    · exfalso
      have h1:=tw_take (neB c) rem
      rw [List.take_of_length_le h] at h1
      apply ha
      rw [h1]
      exact List.all_takeWhile
   have hw0:IntKind.i64.wrap (((rem.takeWhile (neB c)).length:Int)+0)=((rem.takeWhile (neB c)).length:Int):=wrap_ok (by omega) (by omega)
   have hw1:IntKind.i64.wrap (((rem.takeWhile (neB c)).length:Int)+1)=(((rem.takeWhile (neB c)).length+1:Nat):Int):=wrap_succ (by omega)
   have s1:=fun {QP:List PanicEntry→World→Prop} {w:World} {k':Value→World→Prop}=>op_subF (P:=Pg) (QP:=QP) (w:=w) (k:=k') Tryz.underlying9 (mkB rem) (rem.takeWhile (neB c)).length (by rw [mkB_size];omega)
   have s2:=fun {QP:List PanicEntry→World→Prop} {w:World} {k':Value→World→Prop}=>op_subE (P:=Pg) (QP:=QP) (w:=w) (k:=k') Tryz.underlying9 (mkB rem) ((rem.takeWhile (neB c)).length+1) (by rw [mkB_size];omega)
   unfold n34c6
   simp (disch:=try exact DI) only [↓PR,QR,simprocAttr,hl0]
   unfold n34c5
   simp (disch:=try exact DI) only [↓PR,QR,simprocAttr,(cells_of_heap oq).1,(cells_of_heap f2).1,hw0,s1,sub_first,tw_take]
   refine callV_mono (hstep k g3 (.string (mkB (rem.takeWhile (neB c)))) (fun b=>b=q) u ⟨⟨_,g1,rfl⟩,rfl⟩ hV _ (hF _ (by simp)) hJ oq) (fun ch w h=>⟨_,h.2⟩) ?_
   rintro v w2 ⟨oq2,⟨rfl,h⟩ | ⟨rfl,h⟩⟩
   · obtain ⟨f1',f2'⟩:=hFP _ _ w2 h
     simp (disch:=try exact DI) only [↓PR,QR,simprocAttr]
     unfold n34c4
     simp (disch:=try exact DI) only [↓PR,QR,simprocAttr,(cells_of_heap oq2).1,(cells_of_heap oq2).2,(cells_of_heap f1').1,hz1,hw1,s2,sub_rest,dw_drop]
     have oq3:(w2.setCell ⟨q,0,none⟩ (.string (mkB (rem.dropWhile (neB c)).tail))).heap[q]?=some (.cells #[.string (mkB (rem.dropWhile (neB c)).tail)] 9 (0,0)):=heap_set oq2 _
     have hle:(rem.dropWhile (neB c)).tail.length < rem.length:=by
      rw [← dw_drop,List.length_drop];omega
     refine ⟨⟨k+1,_,g2,by omega,oq3,hJl _ _ _ _ _ (LW7.cell (V:=fun b=>b=q) (l:=q) rfl _ _) h⟩,?_⟩
     rw [lenM_eq oq3]
     exact hle
   · simp (disch:=try exact DI) only [↓PR,QR,simprocAttr]
     exact ⟨_,.inr h⟩
abbrev digL:List UInt8:=[48,49,50,51,52,53,54,55,56,57]
def setAt (b:Nat) (w:World):Prop:=∀ x:UInt8,w.cell? ⟨b,x.toNat,none⟩=some (.bool (digL.contains x))
theorem con_ret (b:Nat) (x:UInt8) (w:World) (h:setAt b w):Ret Pg 140 #[.pointer (some ⟨b,0,none⟩),.int .u8 (x.toNat:Int)] w fun r w'=>r = .bool (digL.contains x)∧w'=w:=by
 refine Calls.mono (sh_asciiSet_contains b x _ w (h x)) ?_
 rintro e w' ⟨rfl,rfl⟩
 exact ⟨_,rfl,rfl,rfl⟩
def lenV (v:Value):Nat:=match v with
 | .string s=>s.size
 | _=>0
theorem lenV_eq (l:List UInt8):lenV (.string (mkB l))=l.length:=mkB_size l
theorem trimL_ret (b:Nat) (l:List UInt8) (hl:l.length≤100000000) (w0:World) (h:setAt b w0):Ret Pg 125 #[.string (mkB l),.pointer (some ⟨b,0,none⟩)] w0 fun r w'=>r = .string (mkB (l.dropWhile digL.contains))∧w'=w0:=by
 refine n35s (R:=retR _) ?_;unfold n35
 unfold joinK
 refine loop1_intro (fun v w=>∃ r,v = .string (mkB r)∧w=w0∧r.length≤l.length∧r.dropWhile digL.contains=l.dropWhile digL.contains) (fun v _=>lenV v) ⟨l,rfl,rfl,Nat.le_refl _,rfl⟩ ?_
 rintro _ w ⟨r,rfl,hw,hr,hd⟩
 rw [hw,lenV_eq]
 unfold n35c2
 cases r with
 | nil =>
  have h0:¬ (0:Int) < ((mkB []).size:Int):=by rw [mkB_size];simp
  simp (disch:=try exact DI) only [↓PR,QR,simprocAttr,h0]
  exact ⟨by rw [← hd];rfl,trivial⟩
 | cons x r =>
  have h0:(0:Int) < ((mkB (x::r)).size:Int):=by rw [mkB_size,List.length_cons];omega
  have i1:=fun {QP:List PanicEntry→World→Prop} {w:World} {k':Value→World→Prop}=>op_indexS (P:=Pg) (QP:=QP) (w:=w) (k:=k') Tryz.underlying9 (mkB (x::r)) .i64 0 (by rw [mkB_data];rfl)
  simp (disch:=try exact DI) only [↓PR,QR,simprocAttr,h0]
  unfold n35c1
  simp (disch:=try exact DI) only [↓PR,QR,simprocAttr,i1]
  refine callK_ret (con_ret b x w0 h) ?_
  rintro _ w' ⟨rfl,hw'⟩
  rw [hw']
  have s2:∀ {QP:List PanicEntry→World→Prop} {w:World} {k':Value→World→Prop},opV Pg (Instr.sliceAt 9 (.string (mkB (x::r))) (some (.int .i64 1)) none none) QP w k'=k' (.string ((mkB (x::r)).extract 1 (mkB (x::r)).size)) w:=fun {QP w k'}=>op_subE (P:=Pg) (QP:=QP) (w:=w) (k:=k') Tryz.underlying9 (mkB (x::r)) 1 (by rw [mkB_size];simp)
  rw [List.dropWhile_cons] at hd
  cases hc:digL.contains x with
  | false =>
   rw [hc] at hd
   simp (disch:=try exact DI) only [↓PR,QR,simprocAttr]
   exact ⟨by rw [← hd];rfl,trivial⟩
  | true =>
   rw [hc] at hd
   simp (disch:=try exact DI) only [↓PR,QR,simprocAttr,s2,sub_rest]
   exact ⟨⟨r,rfl,trivial,by simp only [List.length_cons] at hr;omega,by simpa using hd⟩,by rw [show (x::r).drop 1=r from rfl,lenV_eq];simp⟩
theorem dropW_nil {p:UInt8→Bool} {l:List UInt8}:l.dropWhile p=[]↔l.all p=true:=by
 induction l with
 | nil=>simp
 | cons x l ih =>
  rw [List.dropWhile_cons,List.all_cons]
  cases h:p x<;>simp [ih]
theorem trimR_ret (b:Nat) (l:List UInt8) (hl:l.length≤100000000) (w0:World) (h:setAt b w0):Ret Pg 126 #[.string (mkB l),.pointer (some ⟨b,0,none⟩)] w0 fun r w'=>(∃ q,r = .string (mkB q)∧q.length≤l.length∧(q.all digL.contains=true↔l.all digL.contains=true))∧w'=w0:=by
 refine n36s (R:=retR _) ?_;unfold n36
 unfold joinK
 refine loop1_intro (fun v w=>∃ r t,v = .string (mkB r)∧w=w0∧l=r++t∧t.all digL.contains=true) (fun v _=>lenV v) ⟨l,[],rfl,rfl,by simp,rfl⟩ ?_
 rintro _ w ⟨r,t,rfl,hw,rfl,ht⟩
 rw [hw,lenV_eq]
 unfold n36c3
 rcases List.eq_nil_or_concat r with rfl | ⟨r,x,rfl⟩
 rotate_left
 · rw [List.concat_eq_append] at *
   have hs:(mkB (r++[x])).size=r.length+1:=by rw [mkB_size];simp
   have h0:(0:Int) < ((mkB (r++[x])).size:Int):=by rw [hs];omega
   have hw1:IntKind.i64.wrap (((mkB (r++[x])).size:Int) - 1)=(r.length:Int):=by
    rw [hs,wrap_ok]
    · omega
    · omega
    · simp only [List.length_append] at hl;omega
   have i1:=fun {QP:List PanicEntry→World→Prop} {w:World} {k':Value→World→Prop}=>op_indexS (P:=Pg) (QP:=QP) (w:=w) (k:=k') Tryz.underlying9 (mkB (r++[x])) .i64 r.length (b:=x) (by rw [mkB_data];simp)
   have s1:=fun {QP:List PanicEntry→World→Prop} {w:World} {k':Value→World→Prop}=>op_subF (P:=Pg) (QP:=QP) (w:=w) (k:=k') Tryz.underlying9 (mkB (r++[x])) r.length (by rw [hs];omega)
   simp (disch:=try exact DI) only [↓PR,QR,simprocAttr,h0]
   unfold n36c2
   simp (disch:=try exact DI) only [↓PR,QR,simprocAttr,hw1,i1]
   refine callK_ret (con_ret b x w0 h) ?_
   rintro _ w' ⟨rfl,hw'⟩
   rw [hw']
   cases hc:digL.contains x with
   | false =>
    simp (disch:=try exact DI) only [↓PR,QR,simprocAttr]
    refine ⟨⟨r++[x],rfl,by simp,?_⟩,trivial⟩
    rw [List.all_append,List.all_append,List.all_append,List.all_cons,hc,Bool.false_and,Bool.and_false,Bool.false_and]
   | true =>
    simp (disch:=try exact DI) only [↓PR,QR,simprocAttr]
    unfold n36c1
    simp (disch:=try exact DI) only [↓PR,QR,simprocAttr,hw1,s1,sub_first]
    refine ⟨⟨r,x::t,?_,trivial,by simp,by rw [List.all_cons,hc,ht];rfl⟩,?_⟩
    · simp
    · rw [lenV_eq];simp
 · have h0:¬ (0:Int) < ((mkB []).size:Int):=by rw [mkB_size];simp
   simp (disch:=try exact DI) only [↓PR,QR,simprocAttr,h0]
   exact ⟨⟨[],rfl,by simp,by rw [List.nil_append,ht];simp⟩,trivial⟩
theorem zeroSet (w:World):(zeroValue 157).run Pg w = .ok (.agg (Array.replicate 256 (.bool false))) w:=(Tryz.zeroValue157 w).trans (congrArg (fun c=>Result.ok (Value.agg c) w) (by kernel_rfl))
theorem mkSet_ret (w0:World):Ret Pg 124 #[.string ⟨digL.toArray⟩] w0 fun r w'=>r = .tuple #[.agg (Go.Lib.setCells digL),.bool true]∧w'=w0.alloc (.cells (Go.Lib.setCells digL) 157):=by
 refine Calls.mono (sh_strings_makeASCIISet zeroSet ⟨digL.toArray⟩ w0 (by decide) ?_) ?_
 · intro j b h
   have:∀ b∈digL,b.toNat < 128:=by decide
   exact this b (List.mem_of_getElem? h)
 · rintro e w' ⟨rfl,rfl⟩
   exact ⟨_,rfl,rfl,rfl⟩
theorem tySet:TyInfo Pg 157 true 256 (Pg.bytesOf 157) (.agg (Array.replicate 256 (.bool false))):=ty_mk (by kernel_rfl) Tryz.underlying157 rfl
theorem Trim_ret {w0:World} (hE:EnvOK w0) (l:List UInt8) (hl:l.length≤100000000):Ret Pg 108 #[.string (mkB l),.string ⟨digL.toArray⟩] w0 fun r w'=>(∃ q,r = .string (mkB q)∧(q=[]↔l.all digL.contains=true))∧Ext w0 w':=by
 refine n32s (R:=retR _) ?_;unfold n32
 unfold joinK
 cases l with
 | nil =>
  have h0:mkB []=(⟨#[]⟩:ByteArray):=rfl
  rw [h0]
  simp (disch:=try exact DI) only [↓PR,QR,simprocAttr]
  exact ⟨⟨[],rfl,by simp⟩,Ext.refl _⟩
 | cons x l =>
  have h0:¬ mkB (x::l)=(⟨#[]⟩:ByteArray):=by
   intro h
   have:=congrArg (fun b:ByteArray=>b.data.toList) h
   simp [mkB_data] at this
  have h1:¬ (⟨digL.toArray⟩:ByteArray)=(⟨#[]⟩:ByteArray):=by decide
  have h2:((⟨digL.toArray⟩:ByteArray).size:Int)=10:=rfl
  simp (disch:=try exact DI) only [↓PR,QR,simprocAttr,h0,h1]
  unfold n32c4 joinK
  simp (disch:=try exact DI) only [↓PR,QR,simprocAttr,h2]
  unfold n32c3
  simp (disch:=try exact DI) only [↓PR,QR,simprocAttr]
  refine callK_ret (mkSet_ret w0) ?_
  rintro _ w1 ⟨rfl,hw1⟩
  have e1:Ext w0 w1:=by rw [hw1];exact (Ext.refl _).alloc _
  clear hw1
  unfold n32c2
  simp (disch:=try exact DI) only [↓PR,QR,simprocAttr]
  rw [op_alloc_store (v := .agg (Go.Lib.setCells digL)) tySet (by rw [show (Value.agg (Array.replicate 256 (.bool false))).cells=Array.replicate 256 (.bool false) from rfl,Array.size_replicate]) (Go.Lib.setCells_size digL) (fun c hc=>Array.all_eq_true'.1 (Go.Lib.setCells_one digL) c (Array.mem_def.2 (show c∈(Go.Lib.setCells digL).toList from hc)))]
  rw [show (Value.agg (Go.Lib.setCells digL)).cells=Go.Lib.setCells digL from rfl]
  have e2:Ext w1 (w1.alloc (.cells (Go.Lib.setCells digL) 157)):=(Ext.refl _).alloc _
  have hset:setAt w1.heap.size (w1.alloc (.cells (Go.Lib.setCells digL) 157)):=fun x=>by
   rw [World.cell?_alloc_at _ _ _ _ (by simp),Go.Lib.setCells_at]
  generalize w1.alloc (.cells (Go.Lib.setCells digL) 157)=w2 at e2 hset ⊢
  simp (disch:=try exact DI) only [↓PR,QR,simprocAttr]
  refine callK_ret (trimR_ret _ _ hl w2 hset) ?_
  rintro _ w3 ⟨⟨q,rfl,hql,hq⟩,hw3⟩
  rw [hw3]
  refine callK_ret (trimL_ret _ q (by omega) w2 hset) ?_
  rintro _ w4 ⟨rfl,hw4⟩
  rw [hw4]
  simp (disch:=try exact DI) only [↓PR,QR,simprocAttr]
  exact ⟨⟨_,rfl,dropW_nil.trans hq⟩,e1.trans e2⟩
theorem foldN_le:∀ (l:List UInt8) (a:Nat),a≤l.foldl stepN a
 | [],a=>Nat.le_refl _
 | c::l,a=>by
  have:=foldN_le l (stepN a c)
  rw [List.foldl_cons]
  unfold stepN at this ⊢
  omega
def EndU (o:Go.Lib.NumEnd Nat) (n:Nat):Prop:=(o = .ok n)∨(o = .range∧18446744073709551616≤n)
theorem parse_all:∀ (l:List UInt8) (a:Nat),l.all digN=true→EndU (Go.Lib.parseUint10 a l) (l.foldl stepN a)
 | [],a,_ => .inl rfl
 | c::r,a,h=>by
  rw [List.all_cons,Bool.and_eq_true] at h
  have h2:=digN_iff.1 h.1
  have hle:=foldN_le r (a*10+(c.toNat - 48))
  simp only [Go.Lib.parseUint10]
  rw [if_pos h2,List.foldl_cons,show stepN a c=a*10+(c.toNat - 48) from rfl]
  by_cases h3:1844674407370955162≤a
  · rw [if_pos h3]
    exact .inr ⟨rfl,by omega⟩
  · rw [if_neg h3]
    by_cases h4:18446744073709551616≤a*10+(c.toNat - 48)
    · rw [if_pos h4]
      exact .inr ⟨rfl,by omega⟩
    · rw [if_neg h4]
      exact parse_all r _ h.2
theorem atoi_digits {l:List UInt8} (h0:l≠[]) (h:l.all digN=true):(∃ n,Go.Lib.atoiAll l = .ok n∧n=(valL l:Int))∨((∀ v,Go.Lib.atoiAll l ≠ .ok v)∧9223372036854775808≤valL l):=by
 cases l with
 | nil=>exact absurd rfl h0
 | cons c r =>
  have hc:=List.all_eq_true.1 h c (List.mem_cons_self ..)
  rw [digN_iff] at hc
  rw [Go.Lib.atoiAll_plain c r (by omega) (by omega)]
  unfold Go.Lib.parseMag
  rw [if_neg h0]
  have hp:=parse_all (c::r) 0 h
  change EndU (Go.Lib.parseUint10 0 (c::r)) (valL (c::r)) at hp
  rcases hp with hp | ⟨hp,hb⟩
  · rw [hp]
    unfold Go.Lib.signless
    simp only
    split
    · exact .inr ⟨fun v=>by simp,by omega⟩
    · exact .inl ⟨_,rfl,rfl⟩
  · rw [hp]
    exact .inr ⟨fun v=>by simp [Go.Lib.signless],by omega⟩
abbrev Stp:=List UInt8×Nat
def capN (n:Nat):Nat:=min n 65536
def stepP (p:List UInt8):Option Stp :=
 if p.all (neB 58)=true then (if nameB (mkB p)=true then some (p,0) else none) else
  let nm:=p.takeWhile (neB 58)
  let no:=(p.dropWhile (neB 58)).tail
  if no≠[]∧no.all digN=true∧no.head?≠some 48∧nameB (mkB nm)=true then some (nm,capN (valL no)) else none
def stepsL:List (List UInt8)→Option (List Stp)
 | []=>some []
 | p::l=>match stepP p with
  | none=>none
  | some x=>(stepsL l).map (x::·)
def stepsP (s:List UInt8):Option (List Stp):=if s=[] then some [] else stepsL (splitB 46 s)
theorem stepsL_snoc (l:List (List UInt8)) (p:List UInt8):stepsL (l++[p])=match stepsL l with
 | none=>none
 | some a=>(stepP p).map (fun x=>a++[x]):=by
 induction l with
 | nil =>
  show (match stepP p with | none=>none | some x=>(some []).map (x::·))=(stepP p).map _
  cases stepP p<;>rfl
 | cons q l ih =>
  rw [List.cons_append,stepsL,stepsL,ih]
  cases stepP q with
  | none=>rfl
  | some x =>
   cases stepsL l with
   | none=>rfl
   | some a =>
    cases stepP p<;>rfl
theorem stepsL_none {l:List (List UInt8)} {k:Nat} (h:stepsL (l.take k)=none):stepsL l=none:=by
 have:∀ (a b:List (List UInt8)),stepsL a=none→stepsL (a++b)=none:=by
  intro a
  induction a with
  | nil=>intro b h;cases h
  | cons q a ih =>
   intro b h
   rw [stepsL] at h
   rw [List.cons_append,stepsL]
   cases hq:stepP q with
   | none=>rfl
   | some x =>
    rw [hq] at h
    simp only at h ⊢
    cases ha:stepsL a with
    | none=>rw [ih b ha];rfl
    | some y=>rw [ha] at h;cases h
 have:=this (l.take k) (l.drop k) h
 rwa [List.take_append_drop] at this
def findT (nm:ByteArray):Nat→List Tr→Option Nat
 | _,[]=>none
 | n,p::ps=>if p.nd.name=nm then (if n=0 then some 0 else (findT nm (n - 1) ps).map (· + 1)) else (findT nm n ps).map (· + 1)
theorem findT_big (nm:ByteArray):∀ (ps:List Tr) (n:Nat),ps.length≤n→findT nm n ps=none
 | [],n,_=>rfl
 | p::ps,n,h=>by
  rw [List.length_cons] at h
  rw [findT]
  split
  · rw [if_neg (by omega),findT_big nm ps (n - 1) (by omega)];rfl
  · rw [findT_big nm ps n (by omega)];rfl
theorem findT_cap (nm:ByteArray) (ps:List Tr) (n m:Nat) (h:capN n=capN m) (hp:ps.length≤65536):findT nm n ps=findT nm m ps:=by
 unfold capN at h
 by_cases hn:n < 65536
 · rw [show n=m by omega]
 · rw [findT_big nm ps n (by omega),findT_big nm ps m (by omega)]
theorem findT_lt (nm:ByteArray):∀ (ps:List Tr) (n i:Nat),findT nm n ps=some i→i < ps.length
 | [],n,i,h=>by cases h
 | p::ps,n,i,h=>by
  rw [findT] at h
  rw [List.length_cons]
  split at h
  · split at h
    · injection h with h;omega
    · obtain ⟨j,hj,rfl⟩:=Option.map_eq_some_iff.1 h
      have:=findT_lt nm ps (n - 1) j hj
      omega
  · obtain ⟨j,hj,rfl⟩:=Option.map_eq_some_iff.1 h
    have:=findT_lt nm ps n j hj
    omega
def atT:List Stp→Tr→Option Tr
 | [],t=>some t
 | x::l,t=>match findT (mkB x.1) x.2 t.ps with
  | none=>none
  | some i=>match t.ps[i]? with
   | none=>none
   | some p=>atT l p
def putT (to:Tr):List Stp→Tr→Option Tr
 | [],_=>some to
 | x::l,t=>match findT (mkB x.1) x.2 t.ps with
  | none=>none
  | some i=>match t.ps[i]? with
   | none=>none
   | some p=>(putT to l p).map fun q => .mk t.nd (t.ps.set i q)
section
variable {P:Program} {QP:List PanicEntry→World→Prop} {k:Value→World→Prop} {w:World}
theorem op_eqNil_none {t:TypeId} {m:Array (String×TypeId)} (hu:P.underlying t=some (.interface m)):opV P (binS .eql t true .nilIface .nilIface) QP w k=k (.bool true) w :=
 opV_ok (run_eqv (eqNil_n 9999 hu))
theorem op_eqNil_some {t:TypeId} {m:Array (String×TypeId)} (hu:P.underlying t=some (.interface m)) (d:TypeId) (v:Value):opV P (binS .eql t true (.iface d v) .nilIface) QP w k=k (.bool false) w :=
 opV_ok (run_eqv (eqNil_i 9999 hu d v))
end
def encS (x:Stp):List Value:=[.string (mkB x.1),.int .i64 (x.2:Int)]
def capS (x:Stp):Stp:=(x.1,capN x.2)
def EStp (_:World) (cs:List Value) (x:Stp):Prop:=cs=encS x
structure StI (w0:World) (c:UInt8) (s:List UInt8) (k:Nat) (V:Bks) (w:World):Prop where
 frm:Ext w0 w∧∀ b,V b→w0.heap.size≤b
 res:¬ V w0.heap.size∧w.heap[w0.heap.size]?=some (.cells #[.slice none 0 0] 120 (0,0))
 is:¬ V (w0.heap.size+1)∧w.heap[w0.heap.size+1]?=some (.cells #[.bool false] 4 (0,0))
 acc:∃ v rows,(¬ V (w0.heap.size+2)∧w.heap[w0.heap.size+2]?=some (.cells #[v] 120 (0,0)))∧(OwnE w (w0.heap.size+6) 106 2 encS v rows∧∀ g,v.ownBlock=some g→¬ V g)∧stepsL ((splitB c s).take k)=some (rows.map capS)∧rows.length=k∧∀ x∈rows,x.2≤9223372036854775807
 sep:¬ V (w0.heap.size+3+1)∧w.heap[w0.heap.size+3+1]?=some (.cells #[.string ⟨#[c]⟩] 9 (0,0))
 sav:¬ V (w0.heap.size+3+2)∧w.heap[w0.heap.size+3+2]?=some (.cells #[.int .i64 0] 3 (0,0))
theorem StI.lasts (w0:World) (c:UInt8) (s:List UInt8) (k:Nat):Lasts7 (StI w0 c s k):=fun V V' w w' hl h=>by
 refine ⟨Lasts7.from _ _ _ _ hl h.frm,Lasts7.has _ _ _ _ hl h.res,Lasts7.has _ _ _ _ hl h.is,?_,Lasts7.has _ _ _ _ hl h.sep,Lasts7.has _ _ _ _ hl h.sav⟩
 obtain ⟨v,rows,h1,h2,h3⟩:=h.acc
 exact ⟨v,rows,Lasts7.has _ _ _ _ hl h1,Lasts7.own _ _ _ _ hl h2,h3⟩
theorem StI.sub {w0:World} {c:UInt8} {s:List UInt8} {k:Nat} {V V':Bks} {w:World} (h:StI w0 c s k V w) (hs:∀ b,V' b→V b):StI w0 c s k V' w:=by
 refine ⟨⟨h.frm.1,fun b hb=>h.frm.2 b (hs b hb)⟩,⟨fun hb=>h.res.1 (hs _ hb),h.res.2⟩,⟨fun hb=>h.is.1 (hs _ hb),h.is.2⟩,?_,⟨fun hb=>h.sep.1 (hs _ hb),h.sep.2⟩,⟨fun hb=>h.sav.1 (hs _ hb),h.sav.2⟩⟩
 obtain ⟨v,rows,h1,h2,h3⟩:=h.acc
 exact ⟨v,rows,⟨fun hb=>h1.1 (hs _ hb),h1.2⟩,⟨h2.1,fun g hg hb=>h2.2 g hg (hs _ hb)⟩,h3⟩
def StepsK (w0:World) (s:List UInt8) (r:Value) (w':World):Prop:=Ext w0 w'∧match stepsP s with
 | none=>∃ v,r = .tuple #[v,.bool false]
 | some l=>∃ v rows,r = .tuple #[v,.bool true]∧SliceOf w' 2 EStp v rows∧rows.map capS=l∧∀ x∈rows,x.2≤9223372036854775807
theorem st_add {w0:World} {c:UInt8} {s:List UInt8} {k:Nat} {V:Bks} {p:Nat} {Rk:World→Prop} {w:World} {x:Stp} {pc:List UInt8} {QP:List PanicEntry→World→Prop} {R:RT} {K:World→Prop} (H:StI w0 c s k V w) (hp:w.heap[p]?=some (.cells #[.string (mkB x.1),.int .i64 (x.2:Int)] 106 (0,0))) (hR:Firm7 V Rk) (hRw:Rk w)
 (hpc:(splitB c s)[k]?=some pc) (hx:stepP pc=some (capS x)) (hx2:x.2≤9223372036854775807) (hk:k≤200000000) (hV:∀ b,V b→b < w.heap.size) (hK:∀ w',Rk w'→StI w0 c s (k+1) V w'→K w'):n68c1 (.pointer (some ⟨w0.heap.size+2,0,none⟩)) (.pointer (some ⟨p,0,none⟩)) K QP R w:=by
 unfold n68c1
 obtain ⟨v,rows,h1,h2,h3,h4,hb9⟩:=H.acc
 have o1:=(h2.1.slice (E:=EStp) (fun _=>rfl) (fun _ _=>rfl)).oneCell
 simp (disch:=try exact DI) only [↓PR,QR,simprocAttr,(cells_of_heap h1.2).1,(cells_of_heap hp).1]
 have o2:=heap_new w #[.string (mkB x.1),.int .i64 (x.2:Int)] 106
 have e2:Ext w (w.alloc (.cells #[.string (mkB x.1),.int .i64 (x.2:Int)] 106)):=ee
 have s2:(w.alloc (.cells #[.string (mkB x.1),.int .i64 (x.2:Int)] 106)).heap.size=w.heap.size+1:=by simp
 have hR2:=hR _ _ (KR7.of e2) hRw
 have H2:=(StI.lasts w0 c s k).ext H e2
 have ow:OwnE (w.alloc (.cells #[.string (mkB x.1),.int .i64 (x.2:Int)] 106)) (w0.heap.size+6) 106 2 encS v rows:=OwnE.same h2.1 fun g hg=>e2.block g (OwnE.lt' h2.1 hg).2
 have h1':=e2.obj h1.2
 generalize (w.alloc (.cells #[.string (mkB x.1),.int .i64 (x.2:Int)] 106))=w2 at *
 have hby:=by106
 have hB:=(Array.getElem?_eq_some_iff.1 H2.sav.2).1
 refine op_appendL (l':=[x]) Tryz.underlying120 ty106 rfl (by decide) (fun _=>rfl) (fun y _ u hu=>?_) ow (fun j y hy=>?_) (by omega) (by simp) ?_ (by simp;omega) ?_
 · simp only [encS,List.mem_cons,List.not_mem_nil,or_false] at hu
   rcases hu with rfl | rfl<;>rfl
 · cases j with
   | zero =>
    simp only [List.getElem?_cons_zero,Option.some.injEq] at hy
    subst hy
    intro j v hv
    rw [(cells_of_heap o2).1]
    simpa [encS] using hv
   | succ j=>simp at hy
 · simp only [List.length_cons,List.length_nil]
   exact Nat.le_trans (Nat.mul_le_mul (show rows.length+1≤200000001 by omega) hby) (by decide)
 · intro g cap w3 ho hg hgg hgl
   have hrow:∀ b,b < w2.heap.size→v.ownBlock≠some b→w3.heap[b]?=w2.heap[b]?:=fun b hb hne=>hg.block b hb (fun e=>hne e.symm)
   have hno:∀ b,b < w0.heap.size+6→v.ownBlock≠some b:=fun b hb e=>by have:=OwnE.lt' ow e;omega
   have hg6:=OwnE.lt' ho (g:=g) rfl
   have hR3:KR7 V w2 w3:=(KR7.refl V w2).free hg.size (F:=fun b=>v.ownBlock=some b) (fun b hb hne=>hrow b hb hne) (fun b hb => .inl (h2.2 b hb)) fun b hb=>by
    obtain ⟨cs,f,t⟩:=OwnE.type ow hb
    exact ⟨fun r hr=>(by rw [t] at hr;cases hr),fun d hd=>(by rw [t] at hd;cases hd)⟩
   have hgV:¬ V g:=fun hv=>by
    rcases hgg with hgg | hgg
    · exact h2.2 g hgg hv
    · have:=hV g hv
      omega
   have c3:w3.heap[w0.heap.size+2]?=some (.cells #[v] 120 (0,0)):=(hrow _ (by omega) (hno _ (by omega))).trans h1'
   simp (disch:=try exact DI) only [↓PR,QR,simprocAttr,(cells_of_heap c3).1,(cells_of_heap c3).2]
   refine hK _ (hR _ _ (hR3.setCell _ _ _ (.inl h1.1)) hR2) ?_
   have hfar:∀ b o,b < w0.heap.size+6→b≠w0.heap.size+2→w2.heap[b]?=some o→(w3.setCell ⟨w0.heap.size+2,0,none⟩ (.slice (some ⟨g,0,none⟩) (rows.length+[x].length) cap)).heap[b]?=some o:=fun b o hb hne h=>(heap_setE hne).trans ((hrow b (by omega) (hno b hb)).trans h)
   refine ⟨⟨⟨hg.os.trans H2.frm.1.os,hg.tape.trans H2.frm.1.tape,hg.output.trans H2.frm.1.output,Nat.le_trans H2.frm.1.size (by simpa using hg.size),fun b hb=>(heap_setE (by omega)).trans ((hrow b (by have:=H2.frm.1.size;omega) (hno b (by omega))).trans (H2.frm.1.block b hb))⟩,H2.frm.2⟩,⟨H2.res.1,hfar _ _ (by omega) (by omega) H2.res.2⟩,⟨H2.is.1,hfar _ _ (by omega) (by omega) H2.is.2⟩,?_,⟨H2.sep.1,hfar _ _ (by omega) (by omega) H2.sep.2⟩,⟨H2.sav.1,hfar _ _ (by omega) (by omega) H2.sav.2⟩⟩
   refine ⟨_,rows++[x],⟨h1.1,heap_set (o:=0) c3 _⟩,⟨OwnE.same ho fun j hj=>heap_setE (by
    have:g=j:=by cases hj;rfl
    omega),fun j hj=>?_⟩,?_,by rw [List.length_append,h4];rfl,fun y hy=>?_⟩
   · have:g=j:=by cases hj;rfl
     rw [← this];exact hgV
   · rw [List.take_add_one,hpc,Option.toList_some,stepsL_snoc,h3]
     simp only [hx,Option.map_some,List.map_append,List.map_cons,List.map_nil]
   · rcases List.mem_append.1 hy with hy | hy
     · exact hb9 y hy
     · rw [List.mem_singleton.1 hy];exact hx2
structure StX (w0:World) (s:List UInt8) (V:Bks) (w:World):Prop where
 frm:Ext w0 w∧∀ b,V b→w0.heap.size≤b
 res:¬ V w0.heap.size∧w.heap[w0.heap.size]?=some (.cells #[.slice none 0 0] 120 (0,0))
 is:¬ V (w0.heap.size+1)∧w.heap[w0.heap.size+1]?=some (.cells #[.bool false] 4 (0,0))
 none:stepsP s=none
theorem StX.lasts (w0:World) (s:List UInt8):Lasts7 (StX w0 s):=fun V V' w w' hl h=>⟨Lasts7.from _ _ _ _ hl h.frm,Lasts7.has _ _ _ _ hl h.res,Lasts7.has _ _ _ _ hl h.is,h.none⟩
theorem st_b1 {w0:World} {c:UInt8} {s:List UInt8} {k:Nat} {V:Bks} {w:World} (H:StI w0 c s k V w):(w.setCell ⟨w0.heap.size,0,none⟩ (Value.slice none 0 0)).heap[w0.heap.size+1]?=some (.cells #[.bool false] 4 (0,0)):=(heap_setE (by omega)).trans H.is.2
theorem st_stop {w0:World} {c:UInt8} {s:List UInt8} {k:Nat} {V:Bks} {Rk:World→Prop} {w:World} (H:StI w0 c s k V w) (hR:Firm7 V Rk) (hRw:Rk w) (hs:stepsP s=none):Rk ((w.setCell ⟨w0.heap.size,0,none⟩ (Value.slice none 0 0)).setCell ⟨w0.heap.size+1,0,none⟩ (.bool false))∧StX w0 s V ((w.setCell ⟨w0.heap.size,0,none⟩ (Value.slice none 0 0)).setCell ⟨w0.heap.size+1,0,none⟩ (.bool false)):=by
 refine ⟨hR _ _ (((KR7.refl V w).setCell _ _ _ (.inl H.res.1)).setCell _ _ _ (.inl H.is.1)) hRw,⟨⟨H.frm.1.os,H.frm.1.tape,H.frm.1.output,by simpa using H.frm.1.size,fun b hb=>?_⟩,H.frm.2⟩,⟨H.res.1,?_⟩,⟨H.is.1,heap_set (o:=0) (st_b1 H) _⟩,hs⟩
 · rw [heap_setE (by omega),heap_setE (by omega)]
   exact H.frm.1.block b hb
 · rw [heap_setE (by omega)]
   exact heap_set (o:=0) H.res.2 _
theorem steps_out {w0 w:World} {r b:Nat} {v:Value} {x:Bool} {Q:Value→World→Prop} (e:Ext w0 w) (h1:w.heap[b]?=some (.cells #[v] 120 (0,0))) (h2:w.heap[b+1]?=some (.cells #[.bool x] 4 (0,0))) (hv:v.oneCell'=true) (hm:MarkAt r w) (hr:w0.heap.size≤r)
 (hQ:∀ w',Ext w0 w'→(∀ k,k≠r→w'.heap[k]?=w.heap[k]?)→Q (.tuple #[v,.bool x]) w'):outX Pg [Sw.mark r] [(some 120,.pointer (some ⟨b,0,none⟩)),(some 4,.pointer (some ⟨b+1,0,none⟩))] (retR Q) w:=by
 refine outX_mark hm ?_
 simp (disch:=try exact DI) only [↓PR,QR,simprocAttr,outX_nil,retV,resOne,cell_putMark hm,(cells_of_heap h1).1,(cells_of_heap h2).1]
 exact hQ _ ⟨e.os,e.tape,e.output,by simpa using e.size,fun k hk=>(World.putObj_heap_other (by omega)).trans (e.block k hk)⟩ fun k hk=>World.putObj_heap_other hk
theorem digL_dig (c:UInt8):digL.contains c=digN c:=by
 have h:∀ n,n < 256→digL.contains (UInt8.ofNat n)=digN (UInt8.ofNat n):=by decide
 have:=h c.toNat (UInt8.toNat_lt c)
 rwa [UInt8.ofNat_toNat] at this
theorem digL_all (l:List UInt8):l.all digL.contains=l.all digN:=by
 congr 1
 exact funext digL_dig
theorem st_name {w0:World} {s:List UInt8} {k:Nat} {V:Bks} {Rk:World→Prop} {w:World} {pc:List UInt8} {p:Nat} {x:Stp} {QP:List PanicEntry→World→Prop} {R:RT} {K:World→Prop} {X:Nat→World→Prop} (H:StI w0 46 s k V w) (hR:Firm7 V Rk) (hRw:Rk w)
 (hp:w.heap[p]?=some (.cells #[.string (mkB x.1),.int .i64 (x.2:Int)] 106 (0,0))) (hpc:(splitB 46 s)[k]?=some pc) (hx2:x.2≤9223372036854775807) (hx:stepP pc=if nameB (mkB x.1)=true then some (capS x) else none) (hnone:stepP pc=none→stepsP s=none) (hk:k≤200000000) (hV:∀ b,V b→b < w.heap.size) (hK:∀ w',Rk w'→StI w0 46 s (k+1) V w'→K w') (hX:∀ w',Rk w'→StX w0 s V w'→X 0 w') :
 callK Pg 73 #[.string (mkB x.1)] QP w fun t49 w=>n68c2 (.pointer (some ⟨w0.heap.size,0,none⟩)) (.pointer (some ⟨w0.heap.size+1,0,none⟩)) (.pointer (some ⟨w0.heap.size+2,0,none⟩)) (.pointer (some ⟨p,0,none⟩)) t49 K QP X R w:=by
 refine zcr (Name_ret w (mkB x.1)) fun w1 e1=>?_
 have H1:=(StI.lasts _ _ _ _).ext H e1
 have hR1:=hR _ _ (KR7.of e1) hRw
 have z1:=e1.size
 unfold n68c2
 cases hn:nameB (mkB x.1) with
 | true =>
  rw [hn,if_pos rfl] at hx
  simp (disch:=try exact DI) only [↓PR,QR,simprocAttr]
  exact st_add H1 (e1.obj hp) hR hR1 hpc hx hx2 hk (fun b hb=>by have:=hV b hb;omega) hK
 | false =>
  rw [hn,if_neg (by simp)] at hx
  have hst:=st_stop H1 hR hR1 (hnone hx)
  simp (disch:=try exact DI) only [↓PR,QR,simprocAttr,(cells_of_heap H1.res.2).1,(cells_of_heap H1.res.2).2,(cells_of_heap (st_b1 H1)).1,(cells_of_heap (st_b1 H1)).2]
  exact hX _ hst.1 hst.2
theorem steps_body {w0:World} {s:List UInt8} {k:Nat} {V:Bks} {Rk:World→Prop} {w:World} {pc:List UInt8} {QP:List PanicEntry→World→Prop} {R:RT} {K:World→Prop} {X:Nat→World→Prop} (hE:EnvOK w0) (H:StI w0 46 s k V w) (hR:Firm7 V Rk) (hRw:Rk w) (hs:s≠[])
 (hpc:(splitB 46 s)[k]?=some pc) (hpl:pc.length≤100000000) (hk:k≤200000000) (hV:∀ b,V b→b < w.heap.size) (hK:∀ w',Rk w'→StI w0 46 s (k+1) V w'→K w') (hX:∀ w',Rk w'→StX w0 s V w'→X 0 w') :
 n68c8 (.pointer (some ⟨w0.heap.size,0,none⟩)) (.pointer (some ⟨w0.heap.size+1,0,none⟩)) (.pointer (some ⟨w0.heap.size+2,0,none⟩)) (if pc.all (neB 58)=true then .tuple #[.string (mkB pc),.string (mkB []),.bool false] else .tuple #[.string (mkB (pc.takeWhile (neB 58))),.string (mkB (pc.dropWhile (neB 58)).tail),.bool true]) K QP X R w:=by
 have hnone:stepP pc=none→stepsP s=none:=fun h=>by
  unfold stepsP
  rw [if_neg hs]
  refine stepsL_none (k:=k+1) ?_
  obtain ⟨v,rows,h1,h2,h3,h4,hb9⟩:=H.acc
  rw [List.take_add_one,hpc,Option.toList_some,stepsL_snoc,h3]
  simp only [h,Option.map_none]
 unfold n68c8 joinK
 by_cases ha:pc.all (neB 58)=true
 · rw [if_pos ha]
   have o2:=heap_new w #[.string (mkB pc),.int .i64 0] 106
   have e2:Ext w (w.alloc (.cells #[.string (mkB pc),.int .i64 0] 106)):=ee
   simp (disch:=try exact DI) only [↓PR,QR,simprocAttr]
   refine st_name (x:=(pc,0)) ((StI.lasts _ _ _ _).ext H e2) hR (hR _ _ (KR7.of e2) hRw) o2 hpc (by simp) ?_ hnone hk (fun b hb=>by have:=hV b hb;have:=e2.size;omega) hK hX
   unfold stepP
   rw [if_pos ha]
   rfl
 · rw [if_neg ha]
   simp (disch:=try exact DI) only [↓PR,QR,simprocAttr]
   have hsub:(pc.dropWhile (neB 58)).tail.length≤pc.length:=by
    rw [← dw_drop,List.length_drop];omega
   have hst:stepP pc=if (pc.dropWhile (neB 58)).tail≠[]∧(pc.dropWhile (neB 58)).tail.all digN=true∧(pc.dropWhile (neB 58)).tail.head?≠some 48∧nameB (mkB (pc.takeWhile (neB 58)))=true then some (pc.takeWhile (neB 58),capN (valL (pc.dropWhile (neB 58)).tail)) else none:=by
    unfold stepP
    rw [if_neg ha]
   generalize (pc.dropWhile (neB 58)).tail=no at *
   generalize pc.takeWhile (neB 58)=nm at *
   have o2:=heap_new w #[.string (mkB nm),.int .i64 0] 106
   have e2:Ext w (w.alloc (.cells #[.string (mkB nm),.int .i64 0] 106)):=ee
   have z2:(w.alloc (.cells #[.string (mkB nm),.int .i64 0] 106)).heap.size=w.heap.size+1:=by simp
   have hR2:=hR _ _ (KR7.of e2) hRw
   have H2:=((StI.lasts w0 46 s k) _ _ _ _ (LW7.more (V':=fun b=>V b∨b=w.heap.size) e2 fun b hb=>hb.imp_right fun h=>by omega) H)
   generalize (w.alloc (.cells #[.string (mkB nm),.int .i64 0] 106))=w2 at *
   refine callK_ret (Trim_ret (hE.ext H2.frm.1) no (by omega)) ?_
   rintro _ w3 ⟨⟨q,rfl,hq⟩,e3⟩
   rw [digL_all] at hq
   have o3:=e3.obj o2
   have hR3:=hR _ _ (KR7.of e3) hR2
   have H3:=(StI.lasts w0 46 s k).ext H2 e3
   have z3:=e3.size
   clear o2 e2 e3 hR2 H2
   unfold n68c7 joinK n68c6 joinK n68c5
   have hstop:stepP pc=none→_:=fun h=>st_stop (Rk:=Rk) (V:=V) (H3.sub fun b hb => .inl hb) hR hR3 (hnone h)
   have hS1:=cells_of_heap H3.res.2
   have hS2:=cells_of_heap (st_b1 H3)
   by_cases hq0:q=[]
   · subst hq0
     rw [show mkB []=(⟨#[]⟩:ByteArray) from rfl]
     cases no with
     | nil =>
      rw [show mkB []=(⟨#[]⟩:ByteArray) from rfl]
      rw [if_neg (by simp)] at hst
      simp (disch:=try exact DI) only [↓PR,QR,simprocAttr,hS1.1,hS1.2,hS2.1,hS2.2]
      exact hX _ (hstop hst).1 (hstop hst).2
     | cons d no =>
      have hdn:¬ mkB (d::no)=(⟨#[]⟩:ByteArray):=by
       intro h
       have:=congrArg (fun b:ByteArray=>b.data.toList) h
       simp [mkB_data] at this
      have i1:∀ {QP:List PanicEntry→World→Prop} {w:World} {k':Value→World→Prop},opV Pg (Instr.index 9 (.string (mkB (d::no))) (.int .i64 0)) QP w k'=k' (.int .u8 (d.toNat:Int)) w:=fun {QP w k'}=>op_indexS (P:=Pg) (QP:=QP) (w:=w) (k:=k') Tryz.underlying9 (mkB (d::no)) .i64 0 (by rw [mkB_data];rfl)
      by_cases hd:d=48
      · subst hd
        rw [if_neg (by simp)] at hst
        have h48:((48:UInt8).toNat:Int)=48:=rfl
        simp (disch:=try exact DI) only [↓PR,QR,simprocAttr,hdn,i1,h48,hS1.1,hS1.2,hS2.1,hS2.2]
        exact hX _ (hstop hst).1 (hstop hst).2
      · have hd48:¬ (d.toNat:Int)=48:=fun e=>hd (UInt8.toNat_inj.1 (by have:(48:UInt8).toNat=48:=rfl;omega))
        have hd48':((d.toNat:Int) == 48)=false:=by simpa using hd48
        simp (disch:=try exact DI) only [↓PR,QR,simprocAttr,hdn,i1,hd48,hd48']
        have hdig:=hq.1 rfl
        unfold n68c4
        simp (disch:=try exact DI) only [↓PR,QR,simprocAttr,(cells_of_heap o3).1,(cells_of_heap o3).2]
        have o4:=heap_set (o:=1) o3 (.int .i64 65536)
        change _=some (Obj.cells #[.string (mkB nm),.int .i64 65536] 106 (0,0)) at o4
        have hpV:¬ V w.heap.size:=fun h=>by have:=hV _ h;omega
        have hR4:=hR _ _ ((KR7.refl V w3).setCell w.heap.size 1 (.int .i64 65536) (.inl hpV)) hR3
        have H4:=(StI.lasts w0 46 s k) _ _ _ _ (LW7.cell (V:=fun b=>V b∨b=w.heap.size) (l:=w.heap.size) (.inr rfl) 1 (.int .i64 65536)) H3
        have z4:(w3.setCell ⟨w.heap.size,1,none⟩ (.int .i64 65536)).heap.size=w3.heap.size:=by simp
        clear o3 hS1 hS2 hstop
        generalize w3.setCell ⟨w.heap.size,1,none⟩ (.int .i64 65536)=w4 at *
        refine callK_ret (Atoi_big (hE.ext H4.frm.1) (mkB (d::no)) (by rw [mkB_size];omega)) ?_
        rintro _ w5 ⟨e5,n,er,rfl,hn⟩
        rw [mkB_data] at hn
        have o5:=e5.obj o4
        have hR5:=hR _ _ (KR7.of e5) hR4
        have H5:=(StI.lasts w0 46 s k).ext H4 e5
        have z5:=e5.size
        have hst':∀ m:Nat,capN m=capN (valL (d::no))→stepP pc=if nameB (mkB nm)=true then some (capS (nm,m)) else none:=fun m hm=>by
         rw [hst]
         by_cases hnm:nameB (mkB nm)=true
         · rw [if_pos ⟨by simp,hdig,by simpa using hd,hnm⟩,if_pos hnm]
           show some (nm,_)=some (nm,_)
           rw [hm]
         · rw [if_neg (fun h=>hnm h.2.2.2),if_neg hnm]
        unfold n68c3
        rcases atoi_digits (l:=d::no) (by simp) hdig with ⟨m,hm1,hm2⟩ | ⟨hm1,hm2⟩
        · rcases hn with ⟨hn1,rfl⟩ | ⟨hn1,_⟩
          · rw [hm1] at hn1
            injection hn1 with hn1
            have hnv:n=((valL (d::no):Nat):Int):=by rw [← hn1,hm2]
            rw [hnv]
            simp (disch:=try exact DI) only [↓PR,QR,simprocAttr]
            rw [op_eqNil_none Tryz.underlying113]
            simp (disch:=try exact DI) only [↓PR,QR,simprocAttr,(cells_of_heap o5).1,(cells_of_heap o5).2]
            have o6:=heap_set (o:=1) o5 (.int .i64 ((valL (d::no):Nat):Int))
            have hR6:=hR _ _ ((KR7.refl V w5).setCell w.heap.size 1 (.int .i64 ((valL (d::no):Nat):Int)) (.inl hpV)) hR5
            have H6:=(StI.lasts w0 46 s k) _ _ _ _ (LW7.cell (V:=fun b=>V b∨b=w.heap.size) (l:=w.heap.size) (.inr rfl) 1 (.int .i64 ((valL (d::no):Nat):Int))) H5
            have z6:(w5.setCell ⟨w.heap.size,1,none⟩ (.int .i64 ((valL (d::no):Nat):Int))).heap.size=w5.heap.size:=by simp
            exact st_name (x:=(nm,valL (d::no))) (H6.sub fun b hb => .inl hb) hR hR6 o6 hpc (by have:=(atoi_range hm1).2;show valL (d::no)≤_;omega) (hst' _ rfl) hnone hk (fun b hb=>by have:=hV b hb;omega) hK hX
          · exact absurd hm1 (hn1 _)
        · rcases hn with ⟨hn1,_⟩ | ⟨_,ty,xv,rfl⟩
          · exact absurd hn1 (hm1 _)
          · simp (disch:=try exact DI) only [↓PR,QR,simprocAttr]
            rw [op_eqNil_some Tryz.underlying113]
            simp (disch:=try exact DI) only [↓PR,QR,simprocAttr]
            exact st_name (x:=(nm,65536)) (H5.sub fun b hb => .inl hb) hR hR5 o5 hpc (by simp) (hst' _ (by unfold capN;omega)) hnone hk (fun b hb=>by have:=hV b hb;omega) hK hX
   · have hqn:¬ mkB q=(⟨#[]⟩:ByteArray):=fun h=>hq0 (by
      have:=congrArg (fun b:ByteArray=>b.data.toList) h
      rwa [mkB_data] at this)
     rw [if_neg (fun h=>hq0 (hq.2 h.2.1))] at hst
     simp (disch:=try exact DI) only [↓PR,QR,simprocAttr,hqn,hS1.1,hS1.2,hS2.1,hS2.2]
     exact hX _ (hstop hst).1 (hstop hst).2
theorem steps_ret {w0:World} (hE:EnvOK w0) (s:List UInt8) (hs:s.length≤100000000):Ret Pg 81 #[.string (mkB s)] w0 fun r w'=>StepsK w0 s r w':=by
 refine n68s (R:=retR _) ?_;unfold n68
 cases s with
 | nil =>
  rw [show mkB []=(⟨#[]⟩:ByteArray) from rfl]
  simp (disch:=try exact DI) only [↓PR,QR,simprocAttr]
  have o1:=heap_new w0 #[.slice none 0 0] 120
  have e1:Ext w0 (w0.alloc (.cells #[.slice none 0 0] 120)):=ee
  have z1:(w0.alloc (.cells #[.slice none 0 0] 120)).heap.size=w0.heap.size+1:=by simp
  generalize (w0.alloc (.cells #[.slice none 0 0] 120))=w1 at *
  have o2:=heap_new w1 #[.bool false] 4
  have e2:Ext w1 (w1.alloc (.cells #[.bool false] 4)):=ee
  generalize (w1.alloc (.cells #[.bool false] 4))=w2 at *
  rw [z1] at o2
  unfold n68c11
  have b0:=e2.obj o1
  have b1:(w2.setCell ⟨w0.heap.size,0,none⟩ (Value.slice none 0 0)).heap[w0.heap.size+1]?=some (.cells #[.bool false] 4 (0,0)):=(heap_setE (by omega)).trans o2
  simp (disch:=try exact DI) only [↓PR,QR,simprocAttr,(cells_of_heap b0).1,(cells_of_heap b0).2,(cells_of_heap b1).1,(cells_of_heap b1).2]
  simp (disch:=try exact DI) only [↓PR,QR,simprocAttr,outX_nil,retV,resOne,(cells_of_heap b0).1,(cells_of_heap b0).2,(cells_of_heap b1).1,(cells_of_heap b1).2]
  refine ⟨⟨(e1.trans e2).os,(e1.trans e2).tape,(e1.trans e2).output,by simpa using (e1.trans e2).size,fun b hb=>?_⟩,_,[],rfl,SliceOf.nil _ _ _,rfl,fun x h=>by cases h⟩
  rw [heap_setE (by omega),heap_setE (by omega)]
  exact (e1.trans e2).block b hb
 | cons x s =>
  have h0:¬ mkB (x::s)=(⟨#[]⟩:ByteArray):=by
   intro h
   have:=congrArg (fun b:ByteArray=>b.data.toList) h
   simp [mkB_data] at this
  simp (disch:=try exact DI) only [↓PR,QR,simprocAttr,h0]
  unfold n68c12
  simp (disch:=try exact DI) only [↓PR,QR,simprocAttr]
  have o1:=heap_new w0 #[.slice none 0 0] 120
  have e1:Ext w0 (w0.alloc (.cells #[.slice none 0 0] 120)):=ee
  have z1:(w0.alloc (.cells #[.slice none 0 0] 120)).heap.size=w0.heap.size+1:=by simp
  generalize (w0.alloc (.cells #[.slice none 0 0] 120))=w1 at *
  have o2:=heap_new w1 #[.bool false] 4
  have e2:Ext w1 (w1.alloc (.cells #[.bool false] 4)):=ee
  have z2:(w1.alloc (.cells #[.bool false] 4)).heap.size=w0.heap.size+2:=by simp [z1]
  generalize (w1.alloc (.cells #[.bool false] 4))=w2 at *
  have o3:=heap_new w2 #[.slice none 0 0] 120
  have e3:Ext w2 (w2.alloc (.cells #[.slice none 0 0] 120)):=ee
  have z3:(w2.alloc (.cells #[.slice none 0 0] 120)).heap.size=w0.heap.size+3:=by simp [z2]
  generalize (w2.alloc (.cells #[.slice none 0 0] 120))=w3 at *
  rw [z1] at o2
  rw [z2] at o3
  rw [z2]
  have b0:=e3.obj (e2.obj o1)
  have b1:=e3.obj o2
  have e:=e1.trans (e2.trans e3)
  clear o1 o2 e1 e2 e3 z1 z2 w1 w2
  refine callK_ret (SplitSeq_ret w3 46 (x::s)) ?_
  rintro _ w4 ⟨rfl,hSp,e4⟩
  rw [z3] at hSp ⊢
  have b0:=e4.obj b0
  have b1:=e4.obj b1
  have b2:=e4.obj o3
  have e:=e.trans e4
  have z4:w0.heap.size+6≤w4.heap.size:=by
   have:=(Array.getElem?_eq_some_iff.1 hSp.2.2).1
   omega
  clear o3 e4
  unfold n68c10
  have hV0:∀ b,(fun b=>b=w0.heap.size+3) b→w0.heap.size≤b:=fun b h=>by have:b=w0.heap.size+3:=h;omega
  have H0:StI w0 46 (x::s) 0 (· = w0.heap.size+3) w4:=⟨⟨e,hV0⟩,⟨by omega,b0⟩,⟨by omega,b1⟩,⟨_,[],⟨by omega,b2⟩,⟨OwnE.nil _ _ _ _ _,fun g hg=>by cases hg⟩,rfl,rfl,fun x h=>by cases h⟩,⟨by omega,hSp.2.1⟩,⟨by omega,hSp.2.2⟩⟩
  refine ⟨136,_,_,_,_,_,_,fun k=>StI w0 46 (x::s) k,fun c V w=>c=0∧StX w0 (x::s) V w,fun _ _ _=>False,rfl,c136,splitSeq_seq (w0.heap.size+3) 46 (x::s) hs,fun w' e'=>⟨e'.obj hSp.1,e'.obj hSp.2.1,e'.obj hSp.2.2⟩,fun b hb=>?_,H0,fun k V w h=>⟨h.sep.2,h.sav.2⟩,fun k=>StI.lasts _ _ _ _,fun c=>(Lasts7.const _).and (StX.lasts _ _),fun ch=>Lasts7.const _,?_,?_,?_,?_⟩
  · have:b=w0.heap.size+3:=hb
    omega
  · rintro Rk _ hR hV j _ w5 hj ⟨⟨pc,hpc,rfl⟩,rfl⟩ HI hRw hlt hready
    refine ⟨hready,fun w6 hbz=>?_⟩
    have hVlt:∀ b,plusB (· = w0.heap.size+3) w4.heap.size b→b≤w4.heap.size+1:=by
     rintro b (h | h | h)
     · have:b=w0.heap.size+3:=h
       omega
     · omega
     · omega
    have hR6:=hR _ _ (KR7.busied hbz) hRw
    have H6:=(StI.lasts _ _ _ _).busied hbz (show plusB (· = w0.heap.size+3) w4.heap.size (w4.heap.size+1) from .inr (.inr rfl)) HI
    have hz6:w5.heap.size=w6.heap.size:=by
     obtain ⟨r,_,rfl⟩:=hbz
     simp
    generalize hVe:plusB (· = w0.heap.size+3) w4.heap.size=V at *
    have hlen:=splitB_len 46 (x::s)
    have hpl:=splitB_mem 46 (x::s) pc (List.mem_of_getElem? hpc)
    refine zcr (CutOne_ret (hE.ext H6.frm.1) 58 pc (by omega)) fun w7 e7=>?_
    have hR7:=hR _ _ (KR7.of e7) hR6
    have H7:=(StI.lasts _ _ _ _).ext H6 e7
    have hz7:=e7.size
    refine steps_body hE H7 hR hR7 (by simp) hpc (by omega) (by omega) (fun b hb=>by have:=hVlt b hb;omega) (fun w8 h1 h2=>⟨h1,h2⟩) fun w8 h1 h2=>⟨h1,rfl,h2⟩
  · intro V w' H hm
    obtain ⟨v,rows,h1,h2,h3,h4,hb9⟩:=H.acc
    have h6:=h2.1.slice (E:=EStp) (fun _=>rfl) (fun _ _=>rfl)
    have hv1:=h6.oneCell
    rw [List.take_length] at h3
    have hP:stepsP (x::s)=some (rows.map capS):=by
     unfold stepsP
     rw [if_neg (by simp),h3]
    have k1:(w'.setCell ⟨w0.heap.size,0,none⟩ v).heap[w0.heap.size+1]?=some (.cells #[.bool false] 4 (0,0)):=(heap_setE (by omega)).trans H.is.2
    unfold n68c9
    simp (disch:=try exact DI) only [↓PR,QR,simprocAttr,(cells_of_heap h1.2).1,(cells_of_heap H.res.2).1,(cells_of_heap H.res.2).2,(cells_of_heap k1).1,(cells_of_heap k1).2]
    have hE2:Ext w0 ((w'.setCell ⟨w0.heap.size,0,none⟩ v).setCell ⟨w0.heap.size+1,0,none⟩ (.bool true)):=⟨H.frm.1.os,H.frm.1.tape,H.frm.1.output,by simpa using H.frm.1.size,fun b hb=>by
     rw [heap_setE (by omega),heap_setE (by omega)]
     exact H.frm.1.block b hb⟩
    have k2:((w'.setCell ⟨w0.heap.size,0,none⟩ v).setCell ⟨w0.heap.size+1,0,none⟩ (.bool true)).heap[w0.heap.size]?=some (.cells #[v] 120 (0,0)):=(heap_setE (by omega)).trans (heap_set (o:=0) H.res.2 _)
    refine steps_out hE2 k2 (heap_set (o:=0) k1 _) hv1 ((hm.setCell _ _).setCell _ _) (by omega) fun w8 e8 k8=>⟨e8,?_⟩
    rw [hP]
    refine ⟨v,rows,rfl,OwnE.slice (OwnE.same h2.1 fun g hg=>?_) (fun _=>rfl) (fun _ _=>rfl),rfl,hb9⟩
    have hg6:=OwnE.lt' h2.1 hg
    rw [k8 g fun e=>?_,heap_setE (by omega),heap_setE (by omega)]
    obtain ⟨cs,f,t⟩:=OwnE.type h2.1 hg
    rw [e] at t
    have hm':w'.heap[w4.heap.size]?=some _:=hm
    rw [t] at hm'
    cases hm'
  · rintro c V w' ⟨rfl,H⟩ hm
    refine steps_out H.frm.1 H.res.2 H.is.2 rfl hm (by omega) fun w8 e8 k8=>⟨e8,?_⟩
    rw [H.none]
    exact ⟨_,rfl⟩
  · intro ch V w' h
    exact h.elim
def findI (o:Option Nat):Int:=match o with
 | none => -1
 | some i=>(i:Int)
theorem find1_ret (W:World) (q:Nat) (nm:ByteArray) (n0:Int) (m:Nat) (hm:m≤9223372036854775807) (v:Value) (t:Tr) (hv:ValAt W v t) (h1:W.heap[q]?=some (.cells #[.string nm,.int .i64 n0] 106 (0,0))) (h2:W.heap[q+1]?=some (.cells #[.int .i64 (m:Int)] 3 (0,0))) :
 Ret Pg 92 #[v,.pointer (some ⟨q,0,none⟩),.pointer (some ⟨q+1,0,none⟩)] W fun r w'=>(if t.nd.name=nm then r = .bool (decide (m=0))∧(m≠0→w'.heap[q+1]?=some (.cells #[.int .i64 ((m - 1:Nat):Int)] 3 (0,0))) else r = .bool false∧w'.heap[q+1]?=W.heap[q+1]?)∧W.heap.size≤w'.heap.size∧(∀ k,k < W.heap.size→k≠q+1→w'.heap[k]?=W.heap[k]?)∧w'.os=W.os∧w'.tape=W.tape∧w'.output=W.output:=by
 obtain ⟨bv,hv',pv,rfl,hB,hH,hT,o1,o2,o3⟩:=hv.op
 refine n52s (R:=retR _) ?_;unfold n52
 simp (disch:=try exact DI) only [↓PR,QR,simprocAttr,fun o=>(cells_of_heap (((Ext.refl W).alloc o).obj h1)).1]
 by_cases hn:t.nd.name=nm
 · simp only [if_pos hn]
   simp (disch:=try exact DI) only [↓PR,QR,simprocAttr,hn]
   unfold n52c1
   generalize hY:World.alloc W _=Y
   have eY:Ext W Y:=by rw [← hY];exact (Ext.refl W).alloc _
   clear hY
   have c2:=eY.obj h2
   simp (disch:=try exact DI) only [↓PR,QR,simprocAttr,(cells_of_heap c2).1,(cells_of_heap c2).2]
   have hw:IntKind.i64.wrap ((m:Int) - 1)=(m:Int) - 1:=wrap_ok (by omega) (by omega)
   rw [hw]
   refine ⟨⟨?_,fun h0=>?_⟩,eY.size,fun k hk hne=>(heap_setE hne).trans (eY.block k hk),eY.os,eY.tape,eY.output⟩
   · congr 1
     exact decide_eq_decide.2 (by omega)
   · have:=heap_set (o:=0) c2 (.int .i64 ((m:Int) - 1))
     rw [this,show (m:Int) - 1=((m - 1:Nat):Int) by omega]
     rfl
 · simp only [if_neg hn]
   simp (disch:=try exact DI) only [↓PR,QR,simprocAttr,hn]
   have eY:Ext W (W.alloc (.cells (trCells t.nd bv hv' pv).toArray 26)):=(Ext.refl W).alloc _
   exact ⟨⟨trivial,eY.block _ (Array.getElem?_eq_some_iff.1 h2).1⟩,by omega,fun k hk _=>eY.block k hk,rfl,rfl,rfl⟩
theorem indexFind_ret {A W:World} (eA:Ext A W) {q:Nat} (hq:A.heap.size≤q) (nm:ByteArray) (n:Nat) (hn:n≤9223372036854775807) (v:Value) (ps:List Tr) (hps:TrsOf A v ps) (h1:W.heap[q]?=some (.cells #[.string nm,.int .i64 (n:Int)] 106 (0,0))) (h2:W.heap[q+1]?=some (.cells #[.int .i64 (n:Int)] 3 (0,0))) :
 Ret Pg 91 #[v,.func (.func 92) #[] #[.pointer (some ⟨q,0,none⟩),.pointer (some ⟨q+1,0,none⟩)]] W fun r w'=>r = .int .i64 (findI (findT nm n ps))∧Ext A w':=by
 obtain ⟨B,c,rfl,hlc,hcm,hlm,hel⟩:=SliceOf.open hps
 refine n28s (R:=retR _) ?_;unfold n28
 simp (disch:=try exact DI) only [↓PR,QR,simprocAttr]
 refine loop1_intro (fun i w=>∃ k m:Nat,i = .int .i64 k∧k≤ps.length∧m≤n∧Ext A w∧w.heap[q]?=some (.cells #[.string nm,.int .i64 (n:Int)] 106 (0,0))∧w.heap[q+1]?=some (.cells #[.int .i64 (m:Int)] 3 (0,0))∧findT nm n ps=(findT nm m (ps.drop k)).map (· + k)) (fun i _=>ps.length - (intOf i).toNat) ⟨0,n,rfl,by omega,Nat.le_refl _,eA,h1,h2,by simp⟩ ?_
 rintro i w ⟨k,m,rfl,hk,hm,e,c1,c2,hf⟩
 by_cases hlt:k < ps.length
 · obtain ⟨x,hx⟩:=getElem?_lt hlt
   obtain ⟨b,o,cs,rfl,hl,hA,hE⟩:=hel k x hx
   obtain ⟨bv,hv',pv,rfl,hB,hH,hT,o1,o2,o3⟩:=hE.op
   have hVx:ValAt A (.agg (trCells x.nd bv hv' pv).toArray) x:=⟨_,_,_,rfl,hB,hH,hT⟩
   have hd:decide ((k:Int) < (ps.length:Int))=true:=by simp;omega
   have hdk:(k:Int) < (ps.length:Int):=by omega
   have hdrop:ps.drop k=x::ps.drop (k+1):=by
    rw [List.drop_eq_getElem_cons hlt]
    congr 1
    have:=List.getElem?_eq_getElem hlt
    rw [hx] at this
    injection this with this
    exact this.symm
   rw [hdrop,findT] at hf
   have hwk:IntKind.i64.wrap ((k:Int)+1)=((k+1:Nat):Int):=by rw [wrap_ok (by omega) (by omega)];omega
   simp (disch:=try exact DI) only [↓PR,QR,simprocAttr,hd]
   unfold n28c1
   simp (disch:=try exact DI) only [↓PR,QR,simprocAttr,hdk,hA.c5 e]
   rw [callV_func c92]
   simp only [Array.empty_append]
   refine callK_ret (find1_ret w q nm n m (by omega) _ x (hVx.ext e) c1 c2) ?_
   rintro r w' ⟨hr,hz,hkp,g1,g2,g3⟩
   have e':Ext A w':=⟨g1.trans e.os,g2.trans e.tape,g3.trans e.output,Nat.le_trans e.size hz,fun j hj=>(hkp j (Nat.lt_of_lt_of_le hj e.size) (by omega)).trans (e.block j hj)⟩
   have c1':=(hkp q (Array.getElem?_eq_some_iff.1 c1).1 (by omega)).trans c1
   by_cases hnm:x.nd.name=nm
   · simp only [if_pos hnm] at hr hf
     obtain ⟨rfl,hr2⟩:=hr
     by_cases hm0:m=0
     · simp only [if_pos hm0] at hf
       simp (disch:=try exact DI) only [↓PR,QR,simprocAttr,hm0]
       refine ⟨?_,e'⟩
       rw [hf]
       show Value.int _ _=Value.int _ _
       congr 1
       show (k:Int)=((0+k:Nat):Int)
       omega
     · simp only [if_neg hm0] at hf
       simp (disch:=try exact DI) only [↓PR,QR,simprocAttr,hm0,hwk]
       refine ⟨⟨k+1,m - 1,rfl,by omega,by omega,e',c1',hr2 hm0,?_⟩,meas_lt (kd := .i64) hlt⟩
       rw [hf,Option.map_map]
       congr 1
       funext j
       show j+1+k=j+(k+1)
       omega
   · simp only [if_neg hnm] at hr hf
     obtain ⟨rfl,hr2⟩:=hr
     simp (disch:=try exact DI) only [↓PR,QR,simprocAttr,hwk]
     refine ⟨⟨k+1,m,rfl,by omega,by omega,e',c1',hr2.trans c2,?_⟩,meas_lt (kd := .i64) hlt⟩
     rw [hf,Option.map_map]
     congr 1
     funext j
     show j+1+k=j+(k+1)
     omega
 · have hd:decide ((k:Int) < (ps.length:Int))=false:=by simp;omega
   simp (disch:=try exact DI) only [↓PR,QR,simprocAttr,hd]
   rw [List.drop_of_length_le (by omega)] at hf
   exact ⟨by rw [hf];rfl,e⟩
theorem find_ret (w0:World) (v:Value) (t:Tr) (nm:ByteArray) (n:Nat) (hn:n≤9223372036854775807) (hv:ValAt w0 v t):Ret Pg 67 #[v,.agg #[.string nm,.int .i64 (n:Int)]] w0 fun r w'=>r = .int .i64 (findI (findT nm n t.ps))∧Ext w0 w':=by
 obtain ⟨bv,hv',pv,rfl,hB,hH,hT,o1,o2,o3⟩:=hv.op
 refine n51s (R:=retR _) ?_;unfold n51
 simp (disch:=try exact DI) only [↓PR,QR,simprocAttr]
 have e1:Ext w0 (w0.alloc (.cells (trCells t.nd bv hv' pv).toArray 26)):=(Ext.refl w0).alloc _
 have z1:(w0.alloc (.cells (trCells t.nd bv hv' pv).toArray 26)).heap.size=w0.heap.size+1:=by simp
 generalize (w0.alloc (.cells (trCells t.nd bv hv' pv).toArray 26))=w1 at *
 have c2:=heap_new w1 #[.string nm,.int .i64 (n:Int)] 106
 have e2:Ext w1 (w1.alloc (.cells #[.string nm,.int .i64 (n:Int)] 106)):=ee
 have z2:(w1.alloc (.cells #[.string nm,.int .i64 (n:Int)] 106)).heap.size=w1.heap.size+1:=by simp
 generalize (w1.alloc (.cells #[.string nm,.int .i64 (n:Int)] 106))=w2 at *
 have c3:=heap_new w2 #[.int .i64 (n:Int)] 3
 have e3:Ext w2 (w2.alloc (.cells #[.int .i64 (n:Int)] 3)):=ee
 generalize (w2.alloc (.cells #[.int .i64 (n:Int)] 3))=w3 at *
 rw [z2] at c3
 rw [z1] at c2 c3
 refine callK_ret (indexFind_ret (e1.trans (e2.trans e3)) (q:=w0.heap.size+1) (by omega) nm n hn pv t.ps hT (e3.obj c2) c3) ?_
 rintro _ w4' ⟨rfl,e4⟩
 simp (disch:=try exact DI) only [↓PR,QR,simprocAttr]
 exact ⟨trivial,e4⟩
def pathT:List Stp→Tr→Option (List Nat)
 | [],_=>some []
 | x::l,t=>match findT (mkB x.1) x.2 t.ps with
  | none=>none
  | some i=>match t.ps[i]? with
   | none=>none
   | some p=>(pathT l p).map (i::·)
def PtrAt (w:World):Nat→Nat→List Nat→Nat→Nat→Prop
 | b,o,[],b',o'=>b=b'∧o=o'
 | b,o,i::is,b',o'=>∃ g og len cap,w.cell? ⟨b,o+4,none⟩=some (.slice (some ⟨g,og,none⟩) len cap)∧i < len∧PtrAt w g (og+i*5) is b' o'
theorem PtrAt.app {w:World}:∀ {is js:List Nat} {b o b1 o1 b' o':Nat},PtrAt w b o is b1 o1→PtrAt w b1 o1 js b' o'→PtrAt w b o (is++js) b' o'
 | [],_,_,_,_,_,_,_,⟨rfl,rfl⟩,h=>h
 | _::_,_,_,_,_,_,_,_,⟨g,og,len,cap,h1,h2,h3⟩,h=>⟨g,og,len,cap,h1,h2,PtrAt.app h3 h⟩
theorem PtrAt.ext {w w':World} (e:Ext w w'):∀ {is:List Nat} {b o b' o':Nat},PtrAt w b o is b' o'→PtrAt w' b o is b' o'
 | [],_,_,_,_,h=>h
 | _::_,_,_,_,_,⟨g,og,len,cap,h1,h2,h3⟩=>⟨g,og,len,cap,e.cell h1,h2,PtrAt.ext e h3⟩
theorem nodesT_ps (t:Tr):t.ps.length≤nodesT t∧∀ p∈t.ps,nodesT p < nodesT t:=by
 cases t with
 | mk n ps =>
  rw [nodesT_mk]
  show ps.length≤_∧∀ p∈ps,_
  have h1:∀ q:Tr,1≤nodesT q:=fun q=>by
   cases q
   rw [nodesT_mk]
   omega
  have h2:∀ l:List Tr,l.length≤(l.map nodesT).sum∧∀ p∈l,nodesT p≤(l.map nodesT).sum:=by
   intro l
   induction l with
   | nil=>exact ⟨by simp,fun p h=>by cases h⟩
   | cons q l ih =>
    rw [List.map_cons,List.sum_cons,List.length_cons]
    have:=h1 q
    refine ⟨by omega,fun p hp=>?_⟩
    rcases List.mem_cons.1 hp with rfl | hp
    · omega
    · have:=ih.2 p hp
      omega
  have h3:=h2 ps
  exact ⟨by omega,fun p hp=>by have:=h3.2 p hp;omega⟩
theorem find_cap {t:Tr} (h:nodesT t≤65536) (x:Stp):findT (mkB x.1) x.2 t.ps=findT (mkB (capS x).1) (capS x).2 t.ps:=findT_cap _ _ _ _ (by show _=capN (capN x.2);unfold capN;omega) (by have:=(nodesT_ps t).1;omega)
def AtK (w0:World) (b o:Nat) (s:List UInt8) (t:Tr) (r:Value) (w':World):Prop:=Ext w0 w'∧match stepsP s with
 | none=>r = .tuple #[.pointer none,.int .i64 6]
 | some l=>match pathT l t with
  | none=>r = .tuple #[.pointer none,.int .i64 9]
  | some is=>∃ b' o' t' cs',r = .tuple #[.pointer (some ⟨b',o',none⟩),.int .i64 0]∧PtrAt w0 b o is b' o'∧atT l t=some t'∧cs'.length=5∧ElemAt w0 b' o' cs'∧ETr w0 cs' t'
theorem at_ret {w0:World} (hE:EnvOK w0) (b o:Nat) (cs:List Value) (t:Tr) (s:List UInt8) (hs:s.length≤100000000) (hcs:ElemAt w0 b o cs) (h5:cs.length=5) (ht:ETr w0 cs t) (hn:nodesT t≤65536):Ret Pg 55 #[.pointer (some ⟨b,o,none⟩),.string (mkB s)] w0 fun r w'=>AtK w0 b o s t r w':=by
 refine n48s (R:=retR _) ?_;unfold n48
 refine callK_ret (steps_ret hE s hs) ?_
 rintro r w1 ⟨e1,hr⟩
 unfold n48c6
 cases hP:stepsP s with
 | none =>
  rw [hP] at hr
  obtain ⟨v,rfl⟩:=hr
  simp (disch:=try exact DI) only [↓PR,QR,simprocAttr]
  refine ⟨e1,?_⟩
  rw [hP]
 | some l =>
  rw [hP] at hr
  obtain ⟨v,rows,rfl,hSl,rfl,hb9⟩:=hr
  obtain ⟨B,c,rfl,hlc,hcm,hlm,hel⟩:=SliceOf.open hSl
  simp (disch:=try exact DI) only [↓PR,QR,simprocAttr]
  unfold n48c5
  simp (disch:=try exact DI) only [↓PR,QR,simprocAttr]
  refine loop2_intro (fun a i w=>∃ (k:Nat) (is:List Nat) (b1 o1:Nat) (t1:Tr) (cs1:List Value),a = .pointer (some ⟨b1,o1,none⟩)∧i = .int .i64 k∧k≤rows.length∧Ext w1 w∧PtrAt w0 b o is b1 o1∧cs1.length=5∧ElemAt w0 b1 o1 cs1∧ETr w0 cs1 t1∧nodesT t1≤65536∧atT (rows.map capS) t=atT ((rows.map capS).drop k) t1∧pathT (rows.map capS) t=(pathT ((rows.map capS).drop k) t1).map (is++·)) (fun _ i _=>rows.length - (intOf i).toNat) ⟨0,[],b,o,t,cs,rfl,rfl,by omega,Ext.refl _,⟨rfl,rfl⟩,h5,hcs,ht,hn,rfl,by simp⟩ ?_
  rintro _ _ w ⟨k,is,b1,o1,t1,cs1,rfl,rfl,hk,e,hp,h51,hA1,hT1,hn1,hat,hpa⟩
  by_cases hlt:k < rows.length
  · obtain ⟨x,hx⟩:=getElem?_lt hlt
    obtain ⟨bb,oo,cs2,rfl,hl2,hA2,rfl⟩:=hel k x hx
    have hd:decide ((k:Int) < (rows.length:Int))=true:=by simp;omega
    have hdk:(k:Int) < (rows.length:Int):=by omega
    simp (disch:=try exact DI) only [↓PR,QR,simprocAttr,hd]
    unfold n48c4
    have hA2':ElemAt w bb (oo+k*2) [.string (mkB x.1),.int .i64 (x.2:Int)]:=hA2.ext e
    obtain ⟨r1,r2⟩:=hA2'.c2 (Ext.refl _)
    simp (disch:=try exact DI) only [↓PR,QR,simprocAttr,hdk,r1,r2]
    have e3:Ext w (w.alloc (.cells #[.string (mkB x.1),.int .i64 (x.2:Int)] 106)):=ee
    have o3:=heap_new w #[.string (mkB x.1),.int .i64 (x.2:Int)] 106
    generalize (w.alloc (.cells #[.string (mkB x.1),.int .i64 (x.2:Int)] 106))=w3 at *
    refine drawK_intro ?_
    have eD:Ext w3 (drew w3):=(Ext.refl w3).drew
    have oD:=eD.obj o3
    have e4:=e3.trans eD
    generalize drew w3=D at *
    clear o3 e3 eD w3
    unfold n48c3
    obtain ⟨bv,hv',pv,rfl,hB,hH,hT,o1',o2',o3'⟩:=hT1.op
    obtain ⟨d1,d2,d3,d4,d5⟩:=hA1.c5 (e1.trans (e.trans e4))
    simp (disch:=try exact DI) only [↓PR,QR,simprocAttr,(cells_of_heap oD).1,d1,d2,d3,d4,d5]
    have hVx:ValAt w0 (.agg (trCells t1.nd bv hv' pv).toArray) t1:=⟨_,_,_,rfl,hB,hH,hT⟩
    refine zcr (find_ret D _ t1 (mkB x.1) x.2 (hb9 x (List.mem_of_getElem? hx)) (hVx.ext (e1.trans (e.trans e4)))) fun w6 e6=>?_
    refine ⟨e6,?_⟩
    have hdrop:(rows.map capS).drop k=capS x::(rows.map capS).drop (k+1):=by
     have hlt':k < (rows.map capS).length:=by simpa using hlt
     rw [List.drop_eq_getElem_cons hlt']
     congr 1
     have h1:=List.getElem?_eq_getElem hlt'
     rw [List.getElem?_map,hx] at h1
     injection h1 with h1
     exact h1.symm
    rw [hdrop,atT,← find_cap hn1 x] at hat
    rw [hdrop,pathT,← find_cap hn1 x] at hpa
    unfold n48c2
    cases hf:findT (mkB x.1) x.2 t1.ps with
    | none =>
     rw [hf] at hpa
     have hd1:decide (findI none < 0)=true:=rfl
     have hd2:findI none < 0:=by decide
     simp (disch:=try exact DI) only [↓PR,QR,simprocAttr,hd1,hd2]
     refine ⟨e1.trans (e.trans (e4.trans e6)),?_⟩
     rw [hP]
     simp only
     have hpn:pathT (rows.map capS) t=none:=hpa
     rw [hpn]
     trivial
    | some i =>
     rw [hf] at hpa hat
     have hil:=findT_lt _ _ _ _ hf
     obtain ⟨y,hy⟩:=getElem?_lt hil
     simp only [hy] at hpa hat
     obtain ⟨A3,c3,rfl,hlc3,hcm3,hlm3,hel3⟩:=SliceOf.open hT
     obtain ⟨b3,o3,cs3,rfl,hl3,hA3,hE3⟩:=hel3 i y hy
     have hd2:¬ ((i:Int) < 0):=by omega
     have hd3:(i:Int) < (t1.ps.length:Int):=by omega
     have hwk:IntKind.i64.wrap ((k:Int)+1)=((k+1:Nat):Int):=by rw [wrap_ok (by omega) (by omega)];omega
     obtain ⟨f1,f2,f3,f4,f5⟩:=hA1.c5 (e1.trans (e.trans (e4.trans e6)))
     rw [show findI (some i)=(i:Int) from rfl]
     simp (disch:=try exact DI) only [↓PR,QR,simprocAttr,hd2]
     unfold n48c1
     simp (disch:=try exact DI) only [↓PR,QR,simprocAttr,f5,hd3,hwk]
     have hyn:=(nodesT_ps t1).2 y (List.mem_of_getElem? hy)
     refine ⟨⟨k+1,is++[i],b3,o3+i*5,y,cs3,rfl,rfl,by omega,e.trans (e4.trans e6),hp.app ⟨b3,o3,_,_,hA1 4 _ rfl,hil,rfl,rfl⟩,hl3,hA3,hE3,by omega,hat,?_⟩,meas_lt (kd := .i64) hlt⟩
     rw [hpa,Option.map_map]
     congr 1
     funext j
     simp
  · have hd:decide ((k:Int) < (rows.length:Int))=false:=by simp;omega
    obtain rfl:k=rows.length:=by omega
    simp (disch:=try exact DI) only [↓PR,QR,simprocAttr,hd]
    rw [List.drop_of_length_le (by simp)] at hat hpa
    refine ⟨e1.trans e,?_⟩
    rw [hP]
    simp only
    rw [hpa]
    exact ⟨b1,o1,t1,cs1,rfl,by simpa using hp,hat,h51,hA1,hT1⟩
theorem path_at:∀ (l:List Stp) (t:Tr),pathT l t=none↔atT l t=none
 | [],t=>by simp [pathT,atT]
 | x::l,t=>by
  rw [pathT,atT]
  cases findT (mkB x.1) x.2 t.ps with
  | none=>simp
  | some i =>
   simp only
   cases t.ps[i]? with
   | none=>simp
   | some p =>
    simp only [Option.map_eq_none_iff]
    exact path_at l p
theorem validT_part {t p:Tr} (h:validT t=true) (hp:p∈t.ps):validT p=true:=by
 have hn:=(nodesT_ps t).2 p hp
 cases t with
 | mk n ps =>
  unfold validT at h ⊢
  simp only [Bool.and_eq_true,decide_eq_true_eq,allT_mk,List.all_eq_true,heightT_mk] at h ⊢
  have hh:=(foldr_max_le (l:=ps.map heightT) (m:=(ps.map heightT).foldr max 0)).1 (Nat.le_refl _) _ (List.mem_map_of_mem hp)
  exact ⟨⟨by omega,by omega⟩,h.2.2 p hp⟩
theorem validT_at:∀ (l:List Stp) (t t':Tr),validT t=true→atT l t=some t'→validT t'=true
 | [],t,t',h,he=>by injection he with he;rw [← he];exact h
 | x::l,t,t',h,he=>by
  rw [atT] at he
  cases hf:findT (mkB x.1) x.2 t.ps with
  | none=>rw [hf] at he;cases he
  | some i =>
   rw [hf] at he
   simp only at he
   cases hi:t.ps[i]? with
   | none=>rw [hi] at he;cases he
   | some p =>
    rw [hi] at he
    exact validT_at l p t' (validT_part h (List.mem_of_getElem? hi)) he
theorem valid_nodes {t:Tr} (h:validT t=true):nodesT t≤65536:=by
 unfold validT at h
 simp only [Bool.and_eq_true,decide_eq_true_eq] at h
 exact h.1.1
theorem valid_fit {t:Tr} (h:validT t=true):fitT t=true:=by
 have hn:=valid_nodes h
 have key:∀ t:Tr,allT nodeB t=true→allT fitN t=true:=fun t=>by
  refine Tr.ind (p:=fun t=>allT nodeB t=true→allT fitN t=true) ?_ t
  intro n ps ih h
  rw [allT_mk,Bool.and_eq_true,List.all_eq_true] at h ⊢
  refine ⟨?_,fun x hx=>ih x hx (h.2 x hx)⟩
  have h1:=h.1
  unfold nodeB at h1
  unfold fitN
  simp only [Bool.and_eq_true,decide_eq_true_eq] at h1 ⊢
  omega
 unfold fitT
 unfold validT at h
 simp only [Bool.and_eq_true,decide_eq_true_eq] at h ⊢
 exact ⟨key t h.2,by omega⟩
abbrev zeroV:Value := .agg #[.string ByteArray.empty,.int .i64 0,.slice none 0 0,.slice none 0 0,.slice none 0 0]
theorem zero_out {A w:World} {p:Nat} {c0 c1 c2 c3 c4 e:Value} {Q:Value→World→Prop} (hp:A.heap.size≤p) (eA:Ext A w) (r2:w.heap[p]?=some (.cells #[c0,c1,c2,c3,c4] 26 (0,0))) (hQ:∀ w',Ext A w'→(∀ k,k≠p→w'.heap[k]?=w.heap[k]?)→Q (.tuple #[zeroV,e]) w') :
 opV Pg (Instr.build 26 #[]) (panK (retR Q)) w fun t19 w=>opU Pg (Instr.storeAt 26 (.pointer (some ⟨p,0,none⟩)) t19) (panK (retR Q)) w fun w=>qW Pg 26 (.pointer (some ⟨p,0,none⟩)) w fun r0=>retR Q (.returned (.tuple #[r0,e])) w:=by
 have g2:=setCells_heap [.string ByteArray.empty,.int .i64 0,.slice none 0 0,.slice none 0 0,.slice none 0 0] 0 r2
 rw [setA_all (vs:=[.string ByteArray.empty,.int .i64 0,.slice none 0 0,.slice none 0 0,.slice none 0 0]) (cs := #[c0,c1,c2,c3,c4]) rfl] at g2
 have gE:Ext A (setCells w p 0 [.string ByteArray.empty,.int .i64 0,.slice none 0 0,.slice none 0 0,.slice none 0 0]):=setCells_ext [.string ByteArray.empty,.int .i64 0,.slice none 0 0,.slice none 0 0,.slice none 0 0] w 0 A eA hp
 have gO:Only p w (setCells w p 0 [.string ByteArray.empty,.int .i64 0,.slice none 0 0,.slice none 0 0,.slice none 0 0]):=setCells_only [.string ByteArray.empty,.int .i64 0,.slice none 0 0,.slice none 0 0,.slice none 0 0] w 0
 simp (disch:=try exact DI) only [↓PR,QR,simprocAttr,(cells_of_heap r2).1,(cells_of_heap r2).2]
 exact hQ _ gE fun k hk=>gO k hk
theorem zero_fin {A w:World} {p:Nat} {e:Value} {Q:Value→World→Prop} (hp:A.heap.size≤p) (eA:Ext A w) (hQ:∀ w',Ext A w'→(∀ k,k≠p→w'.heap[k]?=w.heap[k]?)→Q (.tuple #[zeroV,e]) w') :
 Q (.tuple #[zeroV,e]) (setCells w p 0 [.string ByteArray.empty,.int .i64 0,.slice none 0 0,.slice none 0 0,.slice none 0 0]):=by
 have gE:Ext A (setCells w p 0 [.string ByteArray.empty,.int .i64 0,.slice none 0 0,.slice none 0 0,.slice none 0 0]):=setCells_ext [.string ByteArray.empty,.int .i64 0,.slice none 0 0,.slice none 0 0,.slice none 0 0] w 0 A eA hp
 have gO:Only p w (setCells w p 0 [.string ByteArray.empty,.int .i64 0,.slice none 0 0,.slice none 0 0,.slice none 0 0]):=setCells_only [.string ByteArray.empty,.int .i64 0,.slice none 0 0,.slice none 0 0,.slice none 0 0] w 0
 exact hQ _ gE fun k hk=>gO k hk
theorem val_out {A w:World} {p:Nat} {c0 c1 c2 c3 c4 d0 d1 d2 d3 d4 e:Value} {Q:Value→World→Prop} (hp:A.heap.size≤p) (eA:Ext A w) (r2:w.heap[p]?=some (.cells #[c0,c1,c2,c3,c4] 26 (0,0))) (f0:d0.oneCell'=true) (f1:d1.oneCell'=true) (f2:d2.oneCell'=true) (f3:d3.oneCell'=true) (f4:d4.oneCell'=true) (hQ:∀ w',Ext A w'→(∀ k,k≠p→w'.heap[k]?=w.heap[k]?)→w'.heap.size=w.heap.size→Q (.tuple #[.agg #[d0,d1,d2,d3,d4],e]) w') :
 opU Pg (Instr.storeAt 26 (.pointer (some ⟨p,0,none⟩)) (.agg #[d0,d1,d2,d3,d4])) (panK (retR Q)) w fun w=>qW Pg 26 (.pointer (some ⟨p,0,none⟩)) w fun r0=>retR Q (.returned (.tuple #[r0,e])) w:=by
 have g2:=setCells_heap [d0,d1,d2,d3,d4] 0 r2
 rw [setA_all (vs:=[d0,d1,d2,d3,d4]) (cs := #[c0,c1,c2,c3,c4]) rfl] at g2
 have gE:Ext A (setCells w p 0 [d0,d1,d2,d3,d4]):=setCells_ext [d0,d1,d2,d3,d4] w 0 A eA hp
 have gO:Only p w (setCells w p 0 [d0,d1,d2,d3,d4]):=setCells_only [d0,d1,d2,d3,d4] w 0
 have gZ:=setCells_size [d0,d1,d2,d3,d4] (b:=p) w 0
 simp (disch:=try exact DI) only [↓PR,QR,simprocAttr,(cells_of_heap r2).1,(cells_of_heap r2).2]
 exact hQ _ gE (fun k hk=>gO k hk) gZ
def GetK (w0:World) (s:List UInt8) (t:Tr) (r:Value) (w':World):Prop:=Ext w0 w'∧if validT t=true then match stepsP s with
 | none=>r = .tuple #[zeroV,.int .i64 6]
 | some l=>match atT l t with
  | none=>r = .tuple #[zeroV,.int .i64 9]
  | some t'=>∃ cs lo hi,r = .tuple #[.agg cs.toArray,.int .i64 0]∧OwnT w' t' lo hi cs∧w0.heap.size≤lo∧hi≤w'.heap.size
 else r = .tuple #[zeroV,.int .i64 2]
theorem Get_ret {w0:World} (hE:EnvOK w0) (v:Value) (t:Tr) (s:List UInt8) (hs:s.length≤100000000) (hv:ValAt w0 v t) (hb:nodesT t≤1000000000):Ret Pg 27 #[v,.string (mkB s)] w0 fun r w'=>GetK w0 s t r w':=by
 obtain ⟨bv,hv',pv,rfl,hB,hH,hT,o1,o2,o3⟩:=hv.op
 refine n40s (R:=retR _) ?_;unfold n40
 simp (disch:=try exact DI) only [↓PR,QR,simprocAttr]
 rw [show (Value.agg (trCells t.nd bv hv' pv).toArray).cells=(trCells t.nd bv hv' pv).toArray from rfl]
 have c1:=heap_new w0 #[.string t.nd.name,.int .i64 t.nd.int,bv,hv',pv] 26
 change (w0.alloc (.cells (trCells t.nd bv hv' pv).toArray 26)).heap[w0.heap.size]?=_ at c1
 have e1:Ext w0 (w0.alloc (.cells (trCells t.nd bv hv' pv).toArray 26)):=(Ext.refl w0).alloc _
 have z1:(w0.alloc (.cells (trCells t.nd bv hv' pv).toArray 26)).heap.size=w0.heap.size+1:=by simp
 generalize (w0.alloc (.cells (trCells t.nd bv hv' pv).toArray 26))=w1 at *
 have c2:=heap_new w1 #[.string ByteArray.empty,.int .i64 0,.slice none 0 0,.slice none 0 0,.slice none 0 0] 26
 have e2:Ext w1 (w1.alloc (.cells #[.string ByteArray.empty,.int .i64 0,.slice none 0 0,.slice none 0 0,.slice none 0 0] 26)):=ee
 generalize (w1.alloc (.cells #[.string ByteArray.empty,.int .i64 0,.slice none 0 0,.slice none 0 0,.slice none 0 0] 26))=w2 at *
 rw [z1] at c2 ⊢
 have e:=e1.trans e2
 have c1:=e2.obj c1
 have hV:ValAt w2 (.agg (trCells t.nd bv hv' pv).toArray) t:=ValAt.ext ⟨_,_,_,rfl,hB,hH,hT⟩ e
 refine zcr (Valid_ret w2 _ t hV hb) fun w3 e3=>?_
 have c1:=e3.obj c1
 have c2:=e3.obj c2
 have e:=e.trans e3
 cases hva:validT t with
 | false =>
  simp (disch:=try exact DI) only [↓PR,QR,simprocAttr]
  unfold n40c3
  refine zero_out (A:=w0) (by omega) e c2 fun w' e' _=>⟨e',?_⟩
  rw [hva]
  rfl
 | true =>
  simp (disch:=try exact DI) only [↓PR,QR,simprocAttr]
  have hel:ElemAt w3 w0.heap.size 0 (trCells t.nd bv hv' pv):=fun j u hu=>by
   rw [Nat.zero_add,(cells_of_heap c1).1]
   simpa [trCells] using hu
  have hET:ETr w3 (trCells t.nd bv hv' pv) t:=ETr_of.2 ⟨_,_,_,rfl,hB.ext e,hH.ext e,hT.ext e⟩
  refine callK_ret (at_ret (hE.ext e) w0.heap.size 0 _ t s hs hel rfl hET (valid_nodes hva)) ?_
  rintro r w4 ⟨e4,hr⟩
  have c2:=e4.obj c2
  have e:=e.trans e4
  unfold n40c2
  cases hP:stepsP s with
  | none =>
   rw [hP] at hr
   simp only at hr
   subst hr
   simp (disch:=try exact DI) only [↓PR,QR,simprocAttr,(cells_of_heap c2).1,(cells_of_heap c2).2]
   refine zero_fin (A:=w0) (Q:=GetK w0 s t) (by omega) e fun w' e' _=>⟨e',?_⟩
   rw [hva,hP]
   rfl
  | some l =>
   rw [hP] at hr
   simp only at hr
   cases hpt:pathT l t with
   | none =>
    rw [hpt] at hr
    simp only at hr
    subst hr
    simp (disch:=try exact DI) only [↓PR,QR,simprocAttr,(cells_of_heap c2).1,(cells_of_heap c2).2]
    refine zero_fin (A:=w0) (Q:=GetK w0 s t) (by omega) e fun w' e' _=>⟨e',?_⟩
    rw [hva,hP]
    simp only [if_true]
    rw [(path_at l t).1 hpt]
    trivial
   | some is =>
    rw [hpt] at hr
    obtain ⟨b',o',t',cs',rfl,hptr,hat,h5,hA',hT'⟩:=hr
    obtain ⟨bv2,hv2,pv2,rfl,hB2,hH2,hT2,_⟩:=hT'.op
    have hval:=validT_at l t t' hva hat
    obtain ⟨d1,d2,d3,d4,d5⟩:=hA'.c5 e4
    simp (disch:=try exact DI) only [↓PR,QR,simprocAttr]
    unfold n40c1
    simp (disch:=try exact DI) only [↓PR,QR,simprocAttr,d1,d2,d3,d4,d5]
    have hVx:ValAt w4 (.agg (trCells t'.nd bv2 hv2 pv2).toArray) t':=ValAt.ext ⟨_,_,_,rfl,hB2,hH2,hT2⟩ e4
    refine callK_ret (Copy_ret t' w4 _ hVx (valid_fit hval)) ?_
    rintro _ w5 ⟨⟨cs5,rfl,hO⟩,e5⟩
    have c2:=e5.obj c2
    have e:=e.trans e5
    obtain ⟨bv3,hv3,pv3,rfl,_,_,_,f1,f2,f3⟩:=hO.read.op
    have c2lt:w0.heap.size+1 < w4.heap.size:=(Array.getElem?_eq_some_iff.1 (show w4.heap[w0.heap.size+1]?=_ by assumption)).1
    refine val_out (A:=w0) (d0 := .string t'.nd.name) (d1 := .int .i64 t'.nd.int) (by omega) e c2 rfl rfl f1 f2 f3 fun w' e' k' z'=>⟨e',?_⟩
    rw [hva,hP]
    simp only [if_true,hat]
    refine ⟨_,w4.heap.size,w5.heap.size,rfl,OwnT.only (bk:=w0.heap.size+1) k' hO (.inr c2lt),?_,by omega⟩
    omega
theorem InS.mono {w:World} {lo hi B lo' hi' B':Nat} (h1:lo'≤lo) (h2:hi≤hi') (h3:B≤B') (t:Tr):∀ cs,InS w lo hi B t cs→InS w lo' hi' B' t cs:=by
 refine Tr.ind (p:=fun t=>∀ cs,InS w lo hi B t cs→InS w lo' hi' B' t cs) ?_ t
 intro n ps ih cs h
 obtain ⟨nm,i,bv,hv,pv,rfl,g1,g2,g3⟩:=InS_mk.1 h
 refine InS_mk.2 ⟨nm,i,bv,hv,pv,rfl,g1.mono h1 h2 fun _ _ h=>h,g2.mono h1 h2 ?_,g3.mono h1 h2 ?_⟩
 · rintro _ _ ⟨a,b,rfl,h⟩
   exact ⟨a,b,rfl,by omega⟩
 · rintro _ _ ⟨x,hx,h⟩
   exact ⟨x,hx,ih x (List.mem_of_getElem? hx) _ h⟩
def InT (w:World) (lo hi B:Nat) (t:Tr) (cs:List Value):Prop:=ETi w lo hi cs t∧InS w lo hi B t cs
theorem InT.mono {w:World} {lo hi B lo' hi' B':Nat} {t:Tr} {cs:List Value} (h:InT w lo hi B t cs) (h1:lo'≤lo) (h2:hi≤hi') (h3:B≤B'):InT w lo' hi' B' t cs:=⟨h.1.keep h1 h2 fun _ _ _ _=>rfl,InS.mono h1 h2 h3 t cs h.2⟩
theorem OwnR.restr {α:Type} {w:World} {lo hi n:Nat} {T:TypeId} {enc:α→List Value} {v:Value} {l:List α} (h:OwnR w lo hi T n enc v l):OwnE (Go.Proofs.YtcffhmapmaahnaaGreatDoor.restr w lo hi) lo T n enc v l:=OwnE.same h.1 fun g hg=>restr_in ⟨(OwnE.lt' h.1 hg).1,h.2 g hg⟩
theorem InT_mk {w:World} {lo hi B:Nat} {n:Nd} {ps:List Tr} {bv hv pv:Value} {css:List (Cs 5)} (h1:OwnR w lo hi 5 1 encB bv n.bytes) (h2:OwnR w lo hi 74 2 encH hv n.hdrs) (h3:OwnR w lo hi 26 5 (Subtype.val:Cs 5→List Value) pv css) (hB:∀ h∈n.hdrs,h.1.size≤B) (hlen:css.length=ps.length) (hk:∀ (k:Nat) (c:Cs 5) (x:Tr),css[k]?=some c→ps[k]?=some x→InT w lo hi B x c.1):InT w lo hi B (.mk n ps) (trCells n bv hv pv):=by
 refine ⟨ETr_mk.2 ⟨bv,hv,pv,rfl,OwnE.slice (OwnR.restr h1) (fun _=>rfl) (fun _ _=>rfl),OwnE.slice (OwnR.restr h2) (fun _=>rfl) (fun _ _=>rfl),OwnE.reads (OwnR.restr h3) ⟨hlen,fun k x c hx hc=>(hk k c x hc hx).1⟩⟩,?_⟩
 refine InS_mk.2 ⟨_,_,bv,hv,pv,rfl,OwnR.rowIn h1 (fun _=>rfl) (fun k x _=>⟨_,rfl⟩),OwnR.rowIn h2 (fun _=>rfl) (fun k x hx=>⟨_,_,rfl,hB x (List.mem_of_getElem? hx)⟩),?_⟩
 rw [← hlen]
 refine OwnR.rowIn h3 (fun x=>x.2) fun k c hc=>?_
 obtain ⟨x,hx⟩:=getElem?_lt (l:=ps) (k:=k) (by have:=(List.getElem?_eq_some_iff.1 hc).1;omega)
 exact ⟨x,hx,(hk k c x hc hx).2⟩
theorem chain_at {α:Type _} {O:α→Nat→Nat→List Value→Prop} (hO:∀ x a b cs,O x a b cs→a≤b):∀ {l:List α} {m hi:Nat} {css:List (Cs 5)},ChainG O l m hi css→∀ (i:Nat) (x:α) (c:Cs 5),l[i]?=some x→css[i]?=some c→∃ a b,m≤a∧a≤b∧b≤hi∧O x a b c.1∧∀ (k:Nat) (y:α) (d:Cs 5),k≠i→l[k]?=some y→css[k]?=some d→∃ a' b',m≤a'∧b'≤hi∧O y a' b' d.1∧(b'≤a∨b≤a')
 | [],_,_,[],_,i,x,c,hx,_=>by cases hx
 | [],_,_,_::_,h,_,_,_,_,_=>h.elim
 | _::_,_,_,[],h,_,_,_,_,_=>h.elim
 | z::l,m,hi,d0::css,⟨m',h1,h2,h3⟩,0,x,c,hx,hc=>by
  simp only [List.getElem?_cons_zero,Option.some.injEq] at hx hc
  subst hx hc
  have hle:=ChainG_le h3
  refine ⟨m,m',Nat.le_refl _,h1,hle,h2,fun k y d hk hy hd=>?_⟩
  cases k with
  | zero=>exact absurd rfl hk
  | succ k =>
   obtain ⟨a,b,g1,g2,g3,g4,_⟩:=chain_at hO h3 k y d (by simpa using hy) (by simpa using hd)
   exact ⟨a,b,by omega,g3,g4,.inr g1⟩
 | z::l,m,hi,d0::css,⟨m',h1,h2,h3⟩,i+1,x,c,hx,hc=>by
  obtain ⟨a,b,g1,g2,g3,g4,g5⟩:=chain_at hO h3 i x c (by simpa using hx) (by simpa using hc)
  refine ⟨a,b,by omega,g2,g3,g4,fun k y d hk hy hd=>?_⟩
  cases k with
  | zero =>
   simp only [List.getElem?_cons_zero,Option.some.injEq] at hy hd
   subst hy hd
   exact ⟨m,m',Nat.le_refl _,by omega,h2,.inl g1⟩
  | succ k =>
   obtain ⟨a',b',k1,k2,k3,k4⟩:=g5 k y d (by omega) (by simpa using hy) (by simpa using hd)
   exact ⟨a',b',by omega,k2,k3,k4⟩
theorem chain_each {α:Type _} {O:α→Nat→Nat→List Value→Prop} (hO:∀ x a b cs,O x a b cs→a≤b) {l:List α} {m hi:Nat} {css:List (Cs 5)} (h:ChainG O l m hi css) (i:Nat) (x:α) (c:Cs 5) (hx:l[i]?=some x) (hc:css[i]?=some c):∃ a b,m≤a∧b≤hi∧O x a b c.1:=by
 obtain ⟨a,b,h1,_,h3,h4,_⟩:=chain_at hO h i x c hx hc
 exact ⟨a,b,h1,h3,h4⟩
theorem hnT_mk {B:Nat} {n:Nd} {ps:List Tr} (h:hnT B (.mk n ps)=true):(∀ h∈n.hdrs,h.1.size≤B)∧∀ x∈ps,hnT B x=true:=by
 unfold hnT at h ⊢
 rw [allT_mk,Bool.and_eq_true,List.all_eq_true,List.all_eq_true] at h
 exact ⟨fun x hx=>by simpa using h.1 x hx,h.2⟩
theorem InT.of {w:World} {B:Nat} (t:Tr):∀ {lo hi:Nat} {cs:List Value},OwnT w t lo hi cs→hnT B t=true→InT w lo hi B t cs:=by
 refine Tr.ind (p:=fun t=>∀ {lo hi:Nat} {cs:List Value},OwnT w t lo hi cs→hnT B t=true→InT w lo hi B t cs) ?_ t
 intro n ps ih lo hi cs h hB
 obtain ⟨hB1,hB3⟩:=hnT_mk hB
 obtain ⟨bv,hv,pv,m,css,rfl,h1,h2,h3,h4,h5⟩:=OwnT_mk.1 h
 have hmh:=ChainG_le h5
 refine InT_mk (h1.mono (Nat.le_refl _) hmh) (h2.mono (Nat.le_refl _) hmh) (h3.mono (Nat.le_refl _) hmh) hB1 (ChainG_len h5) fun k c x hc hx=>?_
 obtain ⟨a,b,g1,g2,g3⟩:=chain_each (fun x a b cs h=>OwnT.le h) h5 k x c hx hc
 exact InT.mono (ih x (List.mem_of_getElem? hx) g3 (hB3 x (List.mem_of_getElem? hx))) (by omega) g2 (Nat.le_refl _)
theorem put_open {w:World} {x:Stp} {l:List Stp} {t:Tr} {lo hi b o b' o':Nat} {cs:List Value} {is:List Nat} (hO:OwnT w t lo hi cs) (hp:pathT (x::l) t=some is) (hE:ElemAt w b o cs) (hptr:PtrAt w b o is b' o') :
 ∃ n ps i p is' bv hv pv m css c g cap,t = .mk n ps∧cs=trCells n bv hv pv∧findT (mkB x.1) x.2 ps=some i∧ps[i]?=some p∧pathT l p=some is'∧OwnR w lo m 5 1 encB bv n.bytes∧OwnR w lo m 74 2 encH hv n.hdrs∧OwnR w lo m 26 5 (Subtype.val:Cs 5→List Value) pv css∧lo≤m∧ChainG (OwnT w) ps m hi css∧css[i]?=some c∧pv = .slice (some ⟨g,0,none⟩) css.length cap∧lo≤g∧g < m∧TypeAt w g 26∧ElemAt w g (i*5) c.1∧PtrAt w g (i*5) is' b' o':=by
 cases t with
 | mk n ps =>
  obtain ⟨bv,hv,pv,m,css,rfl,h1,h2,h3,h4,h5⟩:=OwnT_mk.1 hO
  rw [pathT] at hp
  cases hf:findT (mkB x.1) x.2 (Tr.mk n ps).ps with
  | none=>rw [hf] at hp;cases hp
  | some i =>
   rw [hf] at hp
   simp only at hp
   cases hi':(Tr.mk n ps).ps[i]? with
   | none=>rw [hi'] at hp;cases hp
   | some p =>
    rw [hi'] at hp
    simp only at hp
    obtain ⟨is',hq,rfl⟩:=Option.map_eq_some_iff.1 hp
    obtain ⟨g,og,len,cap,k1,k2,k3⟩:=hptr
    have hi2:ps[i]?=some p:=hi'
    have hil:=(List.getElem?_eq_some_iff.1 hi2).1
    have hlen:=ChainG_len h5
    obtain ⟨c,hc⟩:=getElem?_lt (l:=css) (k:=i) (by omega)
    obtain ⟨g',cap',rfl,r1,r2,r3,r4,r5⟩:=h3.1.row (fun x=>x.2) (by omega)
    have h44:=hE 4 _ rfl
    rw [k1] at h44
    injection h44 with h44
    injection h44 with h44 _ _
    injection h44 with h44
    injection h44 with e1 e2 _
    subst e1 e2
    rw [Nat.zero_add] at k3
    exact ⟨n,ps,i,p,is',bv,hv,_,m,css,c,g,cap',rfl,rfl,hf,hi2,hq,h1,h2,h3,h4,h5,hc,rfl,r1,h3.2 g rfl,r3,r5 i c hc,k3⟩
theorem set_get {α:Type _} {l:List α} {i k:Nat} {x y:α} (h:(l.set i x)[k]?=some y):(k=i∧y=x)∨(k≠i∧l[k]?=some y):=by
 by_cases e:i=k
 · subst e
   rw [List.getElem?_set_self' ] at h
   cases hl:l[i]? with
   | none=>rw [hl] at h;cases h
   | some z=>rw [hl] at h;exact .inl ⟨rfl,by injection h with h;exact h.symm⟩
 · rw [List.getElem?_set_ne e] at h
   exact .inr ⟨fun h'=>e h'.symm,h⟩
theorem put_own {w:World} {t2:Tr} {lo2 hi2 B:Nat} {cs2:Cs 5} (hO2:OwnT w t2 lo2 hi2 cs2.1) (hB2:hnT B t2=true):∀ (l:List Stp) (x:Stp) (t:Tr) (lo hi b o b' o':Nat) (cs:List Value) (is:List Nat),OwnT w t lo hi cs→hnT B t=true→hi≤lo2→pathT (x::l) t=some is→ElemAt w b o cs→PtrAt w b o is b' o' →
 lo≤b'∧b' < hi∧(∃ cur:Array Value,w.heap[b']?=some (.cells cur 26 (0,0))∧o'+5≤cur.size)∧∃ t3,putT t2 (x::l) t=some t3∧InT (setCells w b' o' cs2.1) lo hi2 B t3 cs:=by
 intro l
 induction l with
 | nil =>
  intro x t lo hi b o b' o' cs is hO hB hhi hp hE hptr
  obtain ⟨n,ps,i,p,is',bv,hv,pv,m,css,c,g,cap,rfl,rfl,hf,hi',hq,h1,h2,h3,h4,h5,hc,rfl,g1,g2,g3,g4,g5⟩:=put_open hO hp hE hptr
  injection hq with hq
  subst hq
  obtain ⟨rfl,rfl⟩:=g5
  have hmh:=ChainG_le h5
  have hle2:=hO2.le
  have hoW:Only g w (setCells w g (i*5) cs2.1):=scOnly cs2.1 (i*5) w
  obtain ⟨hB1,hB3⟩:=hnT_mk hB
  refine ⟨g1,by omega,?_,.mk n (ps.set i t2),?_,?_⟩
  · rcases h3.1.2 with ⟨h,_⟩ | ⟨g',cap',cur,hv',hb,hg,hc',hm,hs,ht⟩
    · cases h
    · have hil:=(List.getElem?_eq_some_iff.1 hc).1
      injection hv' with hv1 _ hv2
      injection hv1 with hv1
      injection hv1 with hv1
      subst hv1
      exact ⟨cur,hg,by rw [hs];omega⟩
  · rw [putT]
    show (match findT (mkB x.1) x.2 ps with | none=>none | some i=>match ps[i]? with | none=>none | some p=>(putT t2 [] p).map fun q=>Tr.mk n (ps.set i q))=_
    rw [hf]
    simp only [hi']
    rfl
  · refine InT_mk (css:=css.set i cs2) ((h1.only hoW (.inr (.inr ⟨_,g3,by decide⟩))).mono (Nat.le_refl _) (by omega)) ((h2.only hoW (.inr (.inr ⟨_,g3,by decide⟩))).mono (Nat.le_refl _) (by omega)) (OwnR.mono ⟨OwnE.setAll h3.1 hc cs2,h3.2⟩ (Nat.le_refl _) (by omega)) hB1 (by rw [List.length_set,List.length_set];exact ChainG_len h5) fun k d y hd hy=>?_
    rcases set_get hd with ⟨rfl,rfl⟩ | ⟨hk,hd⟩
    · rcases set_get hy with ⟨_,rfl⟩ | ⟨hk,_⟩
      · exact InT.mono (InT.of _ (hO2.only hoW (.inr (by omega))) hB2) (by omega) (Nat.le_refl _) (Nat.le_refl _)
      · exact absurd rfl hk
    · rcases set_get hy with ⟨rfl,_⟩ | ⟨_,hy⟩
      · exact absurd rfl hk
      · obtain ⟨a,b2,q1,q2,q3,q4,_⟩:=chain_at (fun x a b cs h=>OwnT.le h) h5 k y d hy hd
        exact InT.mono (InT.of _ (q4.only hoW (.inr (by omega))) (hB3 y (List.mem_of_getElem? hy))) (by omega) (by omega) (Nat.le_refl _)
 | cons z l ih =>
  intro x t lo hi b o b' o' cs is hO hB hhi hp hE hptr
  obtain ⟨n,ps,i,p,is',bv,hv,pv,m,css,c,g,cap,rfl,rfl,hf,hi',hq,h1,h2,h3,h4,h5,hc,rfl,g1,g2,g3,g4,g5⟩:=put_open hO hp hE hptr
  have hmh:=ChainG_le h5
  have hle2:=hO2.le
  obtain ⟨hB1,hB3⟩:=hnT_mk hB
  obtain ⟨a,b2,q1,q2,q3,q4,q5⟩:=chain_at (fun x a b cs h=>OwnT.le h) h5 i p c hi' hc
  obtain ⟨r1,r2,r3,t3,r4,r5⟩:=ih z p a b2 g (i*5) b' o' c.1 is' q4 (hB3 p (List.mem_of_getElem? hi')) (by omega) hq g4 g5
  have hoW:Only b' w (setCells w b' o' cs2.1):=scOnly cs2.1 o' w
  refine ⟨by omega,by omega,r3,.mk n (ps.set i t3),?_,?_⟩
  · rw [putT]
    show (match findT (mkB x.1) x.2 ps with | none=>none | some i=>match ps[i]? with | none=>none | some p=>(putT t2 (z::l) p).map fun q=>Tr.mk n (ps.set i q))=_
    rw [hf]
    simp only [hi',r4,Option.map_some]
  · refine InT_mk (css:=css) ((h1.only hoW (.inl (by omega))).mono (Nat.le_refl _) (by omega)) ((h2.only hoW (.inl (by omega))).mono (Nat.le_refl _) (by omega)) ((h3.only hoW (.inl (by omega))).mono (Nat.le_refl _) (by omega)) hB1 (by rw [List.length_set];exact ChainG_len h5) fun k d y hd hy=>?_
    rcases set_get hy with ⟨rfl,rfl⟩ | ⟨hk,hy⟩
    · rw [hc] at hd
      injection hd with hd
      subst hd
      exact r5.mono (by omega) (Nat.le_refl _) (Nat.le_refl _)
    · obtain ⟨a',b3,s1,s2,s3,s4⟩:=q5 k y d hk hy hd
      have s5:=s3.le
      exact InT.mono (InT.of _ (s3.only hoW (by omega)) (hB3 y (List.mem_of_getElem? hy))) (by omega) (by omega) (Nat.le_refl _)
end Go.Proofs.YtcffhmapmaahnaaGreatDoor
