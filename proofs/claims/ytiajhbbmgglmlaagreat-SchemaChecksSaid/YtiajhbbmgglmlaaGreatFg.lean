/-
  phrasebooklaw05.SchemaChecks returns true for every definition, and leaves its arguments as they were; no condition is asked.
-/
import Derived.Test.YtiajhbbmgglmlaaGreatFg6
set_option linter.all false
set_option maxHeartbeats 4000000
set_option maxRecDepth 100000
namespace Go.Proofs.YtiajhbbmgglmlaaGreat
open Sw
open Go.RowKit (intOf Below)
theorem rfield_ret (w0:World) (v:Value) (d:DefD) (n i:Nat) (m:MsgD) (f:FieldD) (hd:DefVal w0 v d) (hm:d.msgs[n]?=some m) (hi:m.fields[i]?=some f) (hN:DistM (d.msgs.take n)) (hR:RefsIn d.msgs n) (hD:Dist (m.fields.take i)) (hb:calm d) (hn1:n≤1048576)
 (hg:∀ g∈m.fields.take i,numberB g=true → -4611686018427387904≤g.low∧highOf g≤4611686018427387904) :
 Ret Pg 33 #[v,.int .i64 (n:Int),.int .i64 (i:Int)] w0 fun r w'=>r = .int .i64 (examineC (m.fields.take i) (vI (depsOf (d.msgs.take n))) (vB (strsOf (d.msgs.take n))) f)∧Ext w0 w':=by
 obtain ⟨mv,rfl,hM⟩:=hd
 have hM0:=hM
 refine n27s (R:=retR _) ?_;unfold n27
 rw [op_boxA]
 have hBW:=ElemAt.new (w:=w0) (defCells d mv) (24)
 have eW:Ext w0 (w0.alloc (Obj.cells (List.toArray (defCells d mv)) (24))):=(Ext.refl _).alloc _
 generalize (w0.alloc (Obj.cells (List.toArray (defCells d mv)) (24)))=W at hBW eW ⊢
 obtain ⟨bm,om,cm,rfl,_,_,_,hnl,hel⟩:=open1 hM hm
 obtain ⟨csm,_,hAm,hEm⟩:=hel n m hm
 obtain ⟨fv,rfl,hF⟩:=hEm
 have hF0:=hF
 obtain ⟨bf,of,cf,rfl,_,_,_,hil,helf⟩:=open1 hF hi
 obtain ⟨csf,_,hAf,hEf⟩:=helf i f hi
 obtain ⟨tv,cv,rfl,hT,hC,ht1,hc1⟩:=hEf.op
 simp (disch:=try exact DI) only [↓PR,QR,Int.reduceBEq,Int.reduceBNe,Int.reduceLT,Int.reduceLE,Int.reduceGT,Int.reduceGE,Int.reduceNeg,hBW.c3 (Ext.refl W),hAm.c2 eW,hAf.c15 eW]
 have hBX:=ElemAt.new (w:=W) (fieldCells f tv cv) (52)
 have eX:Ext W (W.alloc (Obj.cells (List.toArray (fieldCells f tv cv)) (52))):=(Ext.refl _).alloc _
 generalize (W.alloc (Obj.cells (List.toArray (fieldCells f tv cv)) (52)))=X at hBX eX ⊢
 have EX:Ext w0 X:=eW.trans eX
 unfold examineC
 refine zcr (rName_ret _ _) fun w1 e1=>?_
 have E1:=EX.trans e1
 cases hnm:nameB f.name with
 | false=>simp (disch:=try exact DI) only [↓PR,QR,Int.reduceBEq,Int.reduceBNe,Int.reduceLT,Int.reduceLE,Int.reduceGT,Int.reduceGE,Int.reduceNeg];exact ⟨rfl,E1⟩
 | true =>
 simp (disch:=try exact DI) only [↓PR,QR,Int.reduceBEq,Int.reduceBNe,Int.reduceLT,Int.reduceLE,Int.reduceGT,Int.reduceGE,Int.reduceNeg]
 refine drawK_intro ?_
 simp (disch:=try exact DI) only [↓PR,QR,Int.reduceBEq,Int.reduceBNe,Int.reduceLT,Int.reduceLE,Int.reduceGT,Int.reduceGE,Int.reduceNeg,hBW.c3 (eX.trans e1),hBX.c15 e1,hAm.c2 E1,↓n27c1,↓n27c2,↓n27c3,↓n27c4]
 refine zcr (rField_ret _ _ m f.name i ⟨_,rfl,hF0.ext E1.drew⟩ (Nat.le_of_lt hil)) fun w2 e2=>?_
 have e12:=e1.drew.trans e2
 refine ⟨e2,?_⟩
 have hdi:=idx_neg (p:=fun m:FieldD=>decide (m.name=f.name)) (l:=m.fields.take i)
 cases hs:(m.fields.take i).any (fun m=>decide (m.name=f.name)) with
 | true =>
  rw [hs] at hdi
  simp (disch:=try exact DI) only [↓PR,QR,Int.reduceBEq,Int.reduceBNe,Int.reduceLT,Int.reduceLE,Int.reduceGT,Int.reduceGE,Int.reduceNeg,hdi,↓n27c1,↓n27c2,↓n27c3,↓n27c4]
  exact ⟨rfl,EX.trans e12⟩
 | false =>
 rw [hs] at hdi
 simp (disch:=try exact DI) only [↓PR,QR,Int.reduceBEq,Int.reduceBNe,Int.reduceLT,Int.reduceLE,Int.reduceGT,Int.reduceGE,Int.reduceNeg,hdi,hBX.c15 e12,↓n27c1,↓n27c2,↓n27c3,↓n27c4]
 have hkk:(decide (f.kind < 1)||decide (12 < f.kind))=!decide (1≤f.kind∧f.kind≤12):=by
  rw [Bool.eq_iff_iff];simp only [Bool.or_eq_true,decide_eq_true_eq,Bool.not_eq_true',decide_eq_false_iff_not];omega
 rw [hkk]
 cases hk:decide (1≤f.kind∧f.kind≤12) with
 | false=>simp (disch:=try exact DI) only [↓PR,QR,Int.reduceBEq,Int.reduceBNe,Int.reduceLT,Int.reduceLE,Int.reduceGT,Int.reduceGE,Int.reduceNeg];exact ⟨rfl,EX.trans e12⟩
 | true =>
 have hk':1≤f.kind∧f.kind≤12:=by simpa using hk
 simp (disch:=try exact DI) only [↓PR,QR,Int.reduceBEq,Int.reduceBNe,Int.reduceLT,Int.reduceLE,Int.reduceGT,Int.reduceGE,Int.reduceNeg,hBX.c15 e12]
 refine zcr (rzero_ret _ _ f ⟨_,_,rfl,hT.ext (EX.trans e12),hC.ext (EX.trans e12)⟩ hk') fun w3 e3=>?_
 have e13:=e12.trans e3
 rw [zeroB_clear hk']
 cases hz:decide (clearK f=bareF f) with
 | false=>simp (disch:=try exact DI) only [↓PR,QR,Int.reduceBEq,Int.reduceBNe,Int.reduceLT,Int.reduceLE,Int.reduceGT,Int.reduceGE,Int.reduceNeg,↓n27c1,↓n27c2,↓n27c3,↓n27c4];exact ⟨rfl,EX.trans e13⟩
 | true =>
 simp (disch:=try exact DI) only [↓PR,QR,Int.reduceBEq,Int.reduceBNe,Int.reduceLT,Int.reduceLE,Int.reduceGT,Int.reduceGE,Int.reduceNeg,hBW.c3 (eX.trans e13),↓n27c1,↓n27c2,↓n27c3,↓n27c4]
 refine zcr (rkinds_ret _ _ d n i m f ⟨_,rfl,hM0.ext (EX.trans e13)⟩ hm hi hN hR hD hb hn1 hg hk') fun w4 e4=>?_
 exact ⟨_,rfl,rfl,EX.trans (e13.trans e4)⟩
end Go.Proofs.YtiajhbbmgglmlaaGreat
namespace Go.Proofs.YtiajhbbmgglmlaaGreat
open Sw
open Go.RowKit (intOf Below)
theorem Fine.dist {l:List MsgD} (h:Fine l):DistM l:=by
 refine List.pairwise_iff_getElem.2 fun i j hi hj hij hn=>?_
 have h6:=(next_parts (h.next (List.getElem?_eq_getElem hj))).2.1
 rw [← Option.not_isSome_iff_eq_none,isD] at h6
 exact h6 ⟨l[i],List.mem_of_getElem? (i:=i) (by rw [List.getElem?_take,if_pos hij];exact List.getElem?_eq_getElem hi),hn⟩
theorem next_refs {deps:List (ByteArray×Int)} {strs:List (ByteArray×Bool)} (hds:∀ s,(lastP strs s).isSome=true→(lastP deps s).isSome=true) {m:MsgD} (h:(fieldsP deps strs [] m.fields).2=0):∀ s∈refsL m,(lastP deps s).isSome=true :=
 fun s hs=>(fields_mono (Sub.refl _) (Sub.refl _) hds _ _ h).2 s (mem_refsM hs)
theorem any_isD {l:List MsgD} {s:ByteArray} (h:(lastP (depsOf l) s).isSome=true):(l.any fun m=>decide (m.name=s))=true:=by
 obtain ⟨m,hm,hn⟩:=isD.1 h
 exact List.any_eq_true.2 ⟨m,hm,by simpa using hn⟩
theorem Fine.refsIn {l:List MsgD} {n:Nat} (h:Fine (l.take n)):RefsIn l n:=by
 intro k m hk hm s hs
 have hm':(l.take n)[k]?=some m:=by rw [List.getElem?_take,if_pos hk];exact hm
 obtain ⟨_,_,_,h4,_⟩:=next_parts (h.next hm')
 rw [List.take_take,Nat.min_eq_left (by omega)] at h4
 exact any_isD (next_refs (ds_of _) h4 s hs)
def FineF (deps:List (ByteArray×Int)) (strs:List (ByteArray×Bool)) (l:List FieldD):Prop:=∀ (j:Nat) (f:FieldD),l[j]?=some f→examineC (l.take j) (vI deps) (vB strs) f=0
section
variable {deps:List (ByteArray×Int)} {strs:List (ByteArray×Bool)} {l:List FieldD}
theorem exam_parts {bef:List FieldD} {D S:List (ByteArray×Value)} {f:FieldD} (h:examineC bef D S f=0):(bef.any fun o=>decide (o.name=f.name))=false∧checkC bef D S f=0:=by
 unfold examineC at h
 obtain ⟨_,h⟩:=orC_iff.1 h
 obtain ⟨h2,h⟩:=orC_iff.1 h
 obtain ⟨_,h⟩:=orC_iff.1 h
 obtain ⟨_,h⟩:=orC_iff.1 h
 exact ⟨by simpa using (needC_iff (by decide)).1 h2,h⟩
theorem FineF.dist (h:FineF deps strs l):Dist l:=by
 refine List.pairwise_iff_getElem.2 fun i j hi hj hij hn=>?_
 have h6:=(exam_parts (h j _ (List.getElem?_eq_getElem hj))).1
 rw [List.any_eq_false] at h6
 exact h6 l[i] (List.mem_of_getElem? (i:=i) (by rw [List.getElem?_take,if_pos hij];exact List.getElem?_eq_getElem hi)) (by simpa using hn)
theorem FineF.step {k:Nat} {f:FieldD} (h:FineF deps strs (l.take k)) (hk:l[k]?=some f) (hf:examineC (l.take k) (vI deps) (vB strs) f=0):FineF deps strs (l.take (k+1)):=by
 intro j g hg
 rw [List.getElem?_take] at hg
 split at hg
 · rename_i hj
   rw [List.take_take,Nat.min_eq_left (by omega)]
   by_cases hjk:j=k
   · subst hjk;rw [hk] at hg;injection hg with hg;subst hg;exact hf
   · have:=h j g (by rw [List.getElem?_take,if_pos (by omega)];exact hg)
     rwa [List.take_take,Nat.min_eq_left (by omega)] at this
 · cases hg
theorem pow_bits {n:Int} (h1:1≤n) (h2:n≤32):(2:Int) ^ n.toNat≤4294967296:=by
 have hle:n.toNat≤32:=by omega
 have hq:(2:Nat) ^ n.toNat≤2 ^ 32:=Nat.pow_le_pow_right (by decide) hle
 have hc:(2:Int) ^ n.toNat=((2 ^ n.toNat:Nat):Int):=by simp
 rw [hc]
 have:(2:Nat) ^ 32=4294967296:=rfl
 omega
theorem num_bounds {bef:List FieldD} {D S:List (ByteArray×Value)} {g:FieldD} (h:checkC bef D S g=0) (hn:numberB g=true):0≤g.low∧g.low≤highOf g∧highOf g≤34359738367:=by
 unfold numberB at hn
 simp only [Bool.or_eq_true,beq_iff_eq] at hn
 unfold highOf
 rcases hn with (hk | hk) | hk
 · rw [show checkC bef D S g=orC (needC (bitsB g) 6) (withinC (topF g) 0 [g.low,g.high]) by unfold checkC;rw [hk];rfl] at h
   obtain ⟨h1,h2⟩:=orC_iff.1 h
   have hb:=(needC_iff (by decide)).1 h1
   unfold bitsB at hb
   simp only [Bool.and_eq_true,decide_eq_true_eq] at hb
   have hp:=pow_bits hb.1.1 hb.1.2
   rw [within2] at h2
   unfold topF at h2
   split at h2
   · cases h2
   · rw [hk]
     show 0≤g.low∧g.low≤g.high∧g.high≤34359738367
     omega
 · rw [show checkC bef D S g=orC (needC (bitsB g) 6) (withinC (topF g) 0 [g.low]) by unfold checkC;rw [hk];rfl] at h
   obtain ⟨h1,h2⟩:=orC_iff.1 h
   have hb:=(needC_iff (by decide)).1 h1
   unfold bitsB at hb
   simp only [Bool.and_eq_true,decide_eq_true_eq] at hb
   have hp:=pow_bits hb.1.1 hb.1.2
   rw [within1] at h2
   unfold topF at h2
   split at h2
   · cases h2
   · rw [hk]
     show 0≤g.low∧g.low≤g.low∧g.low≤34359738367
     omega
 · rw [show checkC bef D S g=withinC 34359738367 0 [g.low,g.high] by unfold checkC;rw [hk];rfl,within2] at h
   split at h
   · cases h
   · rw [hk]
     show 0≤g.low∧g.low≤g.high∧g.high≤34359738367
     omega
theorem FineF.bounds (h:FineF deps strs l):∀ g∈l,numberB g=true → -4611686018427387904≤g.low∧highOf g≤4611686018427387904:=by
 intro g hg hn
 obtain ⟨j,hj⟩:=List.getElem?_of_mem hg
 have:=num_bounds (exam_parts (h j g hj)).2 hn
 omega
end
def DRow (w:World) (b:Nat) (L:List Int):Prop:=w.heap[b]?=some (.cells (L.map fun n=>Value.int .i64 n).toArray 3 (0,0))
theorem DRow.ext {w w':World} {b:Nat} {L:List Int} (h:DRow w b L) (e:Ext w w'):DRow w' b L:=e.obj h
theorem DRow.cell {w:World} {b:Nat} {L:List Int} (h:DRow w b L) {k:Nat} {n:Int} (hk:L[k]?=some n):w.cell? ⟨b,k*1,none⟩=some (.int .i64 n):=by
 rw [(cells_of_heap h).1];simp [hk]
theorem DRow.free {w:World} {b:Nat} {L:List Int} (h:DRow w b L) (k:Nat):w.frozen? ⟨b,k,none⟩=false:=(cells_of_heap h).2 k
theorem DRow.set {w:World} {b:Nat} {L:List Int} (h:DRow w b L) (k:Nat) (n:Int):DRow (w.setCell ⟨b,k*1,none⟩ (.int .i64 n)) b (L.set k n):=by
 rw [Nat.mul_one]
 have:=heap_set (o:=k) h (.int .i64 n)
 unfold DRow
 rw [this]
 congr 2
 rw [List.setIfInBounds_toArray,List.map_set]
end Go.Proofs.YtiajhbbmgglmlaaGreat
namespace Go.Proofs.YtiajhbbmgglmlaaGreat
open Sw
open Go.RowKit (intOf Below)
theorem op_makeInts {QP:List PanicEntry→World→Prop} {w:World} {k:Value→World→Prop} (n:Nat) (hn:n≤1048576):opV Pg (Instr.makeSlice 85 (.int .i64 (n:Int)) (.int .i64 (n:Int))) QP w k =
 k (.slice (some ⟨w.heap.size,0,none⟩) n n) (w.alloc (.cells ((List.replicate n (0:Int)).map fun n=>Value.int .i64 n).toArray 3)):=by
 obtain ⟨⟨i,hi,hs,hby,hz⟩,_⟩:=ty3
 have h1:=by3
 rw [opV_ok (run_make_row (P:=Pg) 85 3 i _ Tryz.underlying85 hi hz hs rfl .i64 .i64 n (by rw [hby];exact Nat.le_trans (Nat.mul_le_mul h1 hn) (by decide)) (by omega) w)]
 congr 3
 rw [List.map_replicate,← toList_madeCells_one]
section
variable {w0 W w:World} {d:DefD} {mv:Value} (hBW:ElemAt W w0.heap.size 0 (defCells d mv)) (eW:Ext w0 W) (hM:MsgsOf w0 mv d.msgs)
 include hBW eW hM
theorem rcheck_refs {k N lo bd:Nat} {m:MsgD} {L:List Int} {rv t2:Value} {R:RT} {next2:Value→World→Prop} (hkl:k < d.msgs.length) (hN:DistM (d.msgs.take k)) (hrefs:∀ s∈refsL m,(lastP (depsOf (d.msgs.take k)) s).isSome=true) (e:Ext W w) (hbd:W.heap.size≤bd) (hL:DRow w bd L) (hlen:L.length=N)
 (hLk:∀ (j:Nat) (n:Int),((depsOf (d.msgs.take k)).map (·.2))[j]?=some n→L[j]?=some n∧j < k) (h0:L[k]?=some 0) (hS:OwnS w lo rv (refsL m)) (hlo:bd < lo)
 (hn:∀ w',Ext W w'→DRow w' bd (L.set k (depthM (depsOf (d.msgs.take k)) m))→n17c6 t2 (.int .i64 (k:Int)) (.slice (some ⟨bd,0,none⟩) N N) next2 R w') :
 loop1 (fun t10 w next5=>n17c7 (.pointer (some ⟨w0.heap.size,0,none⟩)) t2 (.int .i64 (k:Int)) t10 (.slice (some ⟨bd,0,none⟩) N N) rv next2 next5 R w) (.int .i64 0) w:=by
 have hkN:k < N:=by rw [← hlen];exact (List.getElem?_eq_some_iff.1 h0).1
 refine loop1_intro (fun a w'=>∃ j:Nat,a = .int .i64 j∧j≤(refsL m).length∧Ext W w'∧DRow w' bd (L.set k (((refsL m).take j).foldl (fun d' s=>maxI d' ((lastP (depsOf (d.msgs.take k)) s).getD 0)) 0))∧OwnS w' lo rv (refsL m)) (fun b _=>(refsL m).length - (intOf b).toNat) ⟨0,rfl,by omega,e,by
  have:L.set k (((refsL m).take 0).foldl (fun d' s=>maxI d' ((lastP (depsOf (d.msgs.take k)) s).getD 0)) 0)=L:=by
   refine List.ext_getElem? fun j=>?_
   rw [List.getElem?_set]
   split
   · rename_i h;subst h;rw [h0];simp [hlen,hkN]
   · rfl
  rw [this];exact hL,hS⟩ ?_
 rintro _ w1 ⟨j,rfl,hj,e1,hL1,hS1⟩
 have hSl:=hS1.slice (E:=EStr) (fun _=>rfl) (fun _ _=>rfl)
 obtain ⟨Ar,cr,rfl,hlr,hcr,hlmr,helr⟩:=SliceOf.open hSl
 have E1:=eW.trans e1
 unfold n17c7
 rcases drop_cases hj with ⟨s,hx,hdr,hlt,hdec⟩ | ⟨hj,hdr,hdec⟩
 · obtain ⟨bs,os,css,rfl,_,hAs,rfl⟩:=helr j s hx
   have hstep:((refsL m).take (j+1)).foldl (fun d' s=>maxI d' ((lastP (depsOf (d.msgs.take k)) s).getD 0)) 0=maxI (((refsL m).take j).foldl (fun d' s=>maxI d' ((lastP (depsOf (d.msgs.take k)) s).getD 0)) 0) ((lastP (depsOf (d.msgs.take k)) s).getD 0):=by rw [take_snoc hx,List.foldl_append];rfl
   generalize (((refsL m).take j).foldl (fun d' s=>maxI d' ((lastP (depsOf (d.msgs.take k)) s).getD 0)) 0)=c at hL1 hstep
   have hck:(L.set k c)[k]?=some c:=by rw [List.getElem?_set,if_pos rfl,if_pos (by omega)]
   simp (disch:=try exact DI) only [↓PR,QR,Int.reduceBEq,Int.reduceBNe,Int.reduceLT,Int.reduceLE,Int.reduceGT,Int.reduceGE,Int.reduceNeg,hdec]
   refine drawK_intro ?_
   unfold n17c4
   simp (disch:=try exact DI) only [↓PR,QR,Int.reduceBEq,Int.reduceBNe,Int.reduceLT,Int.reduceLE,Int.reduceGT,Int.reduceGE,Int.reduceNeg,hL1.cell hck,hBW.c3 e1,hAs.c1 (Ext.refl w1)]
   refine zcr (rFind_ret _ _ d s k ⟨_,rfl,hM.ext E1.drew⟩ (Nat.le_of_lt hkl)) fun w2 e2=>?_
   have e12:Ext w1 w2:=(Ext.refl w1).drew.trans e2
   refine narrowK_same e2 ?_
   unfold n17c3
   rcases first_last (keysD (d.msgs.take k)) hN s with ⟨_,h2⟩ | ⟨q,b,h1,_,h3,h4⟩
   · have:=hrefs s (List.mem_of_getElem? hx)
     rw [h2] at this
     cases this
   · obtain ⟨hLq,hqk⟩:=hLk q b (by rw [List.getElem?_map,h3];rfl)
     have hcq:(L.set k c)[q]?=some b:=by rw [List.getElem?_set,if_neg (by omega)];exact hLq
     rw [h1]
     have hq2:q < N:=by omega
     have hL2:=hL1.ext e12
     simp (disch:=try exact DI) only [↓PR,QR,Int.reduceBEq,Int.reduceBNe,Int.reduceLT,Int.reduceLE,Int.reduceGT,Int.reduceGE,Int.reduceNeg,hL1.cell hcq,hL2.cell hck,hL2.free]
     refine turnK_intro ?_
     simp (disch:=try exact DI) only [↓PR,QR,Int.reduceBEq,Int.reduceBNe,Int.reduceLT,Int.reduceLE,Int.reduceGT,Int.reduceGE,Int.reduceNeg]
     refine ⟨⟨j+1,rfl,hlt,(e1.trans e12).setCell hbd _,?_,((hS1.ext e12).range.only (Only.setCell w2 bd _ _) (.inr (.inl hlo))).1⟩,meas_lt hlt⟩
     rw [hstep,h4]
     have:=hL2.set k (if b > c then b else c)
     rw [List.set_set] at this
     exact this
 · subst hj
   rw [List.take_length] at hL1
   simp (disch:=try exact DI) only [↓PR,QR,Int.reduceBEq,Int.reduceBNe,Int.reduceLT,Int.reduceLE,Int.reduceGT,Int.reduceGE,Int.reduceNeg,hdec]
   exact hn w1 e1 hL1
end
end Go.Proofs.YtiajhbbmgglmlaaGreat
namespace Go.Proofs.YtiajhbbmgglmlaaGreat
open Sw
open Go.RowKit (intOf Below)
theorem flaw_out {w0 w:World} {bt:Nat} {x0 x1 x2:Value} {QP QP':List PanicEntry→World→Prop} {k:Value→World→Prop} (e:Ext w0 w) (hb:w0.heap.size≤bt) (h:w.heap[bt]?=some (.cells #[x0,x1,x2] 39 (0,0))) (a f c:Int) (hk:∀ w',Ext w0 w'→k (flawVal a f c) w') :
 opV Pg (Instr.build 39 #[(0,.int .i64 a),(1,.int .i64 f),(2,.int .i64 c)]) QP w fun t w=>opU Pg (Instr.storeAt 39 (.pointer (some ⟨bt,0,none⟩)) t) QP' w fun w=>qW Pg 39 (.pointer (some ⟨bt,0,none⟩)) w fun r0=>k r0 w:=by
 simp (disch:=try exact DI) only [↓PR,QR,Int.reduceBEq,Int.reduceBNe,Int.reduceLT,Int.reduceLE,Int.reduceGT,Int.reduceGE,Int.reduceNeg,(cells_of_heap h).1,(cells_of_heap h).2]
 exact hk _ (((e.setCell hb _).setCell hb _).setCell hb _)
theorem flaw_tup {d:DefD} {a f c:Int} (h:checkP d=(a,f,c)) (h0:c≠0):Value.tuple #[flawVal a f c,.bool true] = .tuple #[flawOf (checkP d),.bool (flawedB d)]:=by
 unfold flawedB flawOf
 rw [h]
 simp [h0]
theorem msgs_split {l:List MsgD} {k:Nat} (h:Fine (l.take k)) (hk:k≤l.length):msgsP [] [] 0 l=msgsP (depsOf (l.take k)) (strsOf (l.take k)) k (l.drop k):=by
 have:=(msgs_append (l.drop k) (l.take k) [] [] 0).1 h
 rw [List.take_append_drop] at this
 rw [this,List.length_take,Nat.min_eq_left hk,Nat.zero_add]
 rfl
theorem Fine.step {l:List MsgD} {k:Nat} {m:MsgD} (h:Fine (l.take k)) (hm:l[k]?=some m) (h0:(nextP (depsOf (l.take k)) (strsOf (l.take k)) m).2=0):Fine (l.take (k+1)):=by
 rw [take_snoc hm]
 unfold Fine
 rw [(msgs_append [m] (l.take k) [] [] 0).1 h]
 show (msgsP (depsOf (l.take k)) (strsOf (l.take k)) _ [m]).2.2=0
 rw [msgs_cons0 h0]
 rfl
theorem check_bad {d:DefD} {k:Nat} {m:MsgD} {a c:Int} (h1:nameB d.name=true) (h2:1≤d.msgs.length∧d.msgs.length≤60) (h:Fine (d.msgs.take k)) (hm:d.msgs[k]?=some m) (hn:nextP (depsOf (d.msgs.take k)) (strsOf (d.msgs.take k)) m=(a,c)) (h0:c≠0):checkP d=((k:Int),a,c):=by
 have hk:=(List.getElem?_eq_some_iff.1 hm).1
 unfold checkP
 rw [if_pos h1,if_pos h2,msgs_split h (Nat.le_of_lt hk),List.drop_eq_getElem_cons hk,msgs_cons1 (by rw [(List.getElem?_eq_some_iff.1 hm).2,hn];exact h0),(List.getElem?_eq_some_iff.1 hm).2,hn]
 unfold endP
 rw [if_neg h0]
def depL (l:List MsgD) (k:Nat):List Int:=(depsOf (l.take k)).map (·.2)++List.replicate (l.length - k) 0
theorem depD_len (l:List MsgD) {k:Nat} (hk:k≤l.length):((depsOf (l.take k)).map (·.2)).length=k:=by
 have:=congrArg List.length (keysD (l.take k))
 simp only [List.length_map,List.length_take] at this ⊢
 omega
theorem depL_len (l:List MsgD) {k:Nat} (hk:k≤l.length):(depL l k).length=l.length:=by
 unfold depL
 rw [List.length_append,depD_len l hk,List.length_replicate];omega
theorem depL_zero (l:List MsgD) {k:Nat} (hk:k < l.length):(depL l k)[k]?=some 0:=by
 unfold depL
 rw [List.getElem?_append_right (by rw [depD_len l (by omega)];omega),depD_len l (by omega),List.getElem?_replicate,if_pos (by omega)]
theorem depL_old (l:List MsgD) {k:Nat} (hk:k < l.length) (j:Nat) (n:Int) (h:((depsOf (l.take k)).map (·.2))[j]?=some n):(depL l k)[j]?=some n∧j < k:=by
 have hj:=(List.getElem?_eq_some_iff.1 h).1
 rw [depD_len l (by omega)] at hj
 unfold depL
 rw [List.getElem?_append_left (by rw [depD_len l (by omega)];exact hj)]
 exact ⟨h,hj⟩
theorem depL_step {l:List MsgD} {k:Nat} {m:MsgD} (hm:l[k]?=some m):(depL l k).set k (depthM (depsOf (l.take k)) m+1)=depL l (k+1):=by
 have hk:=(List.getElem?_eq_some_iff.1 hm).1
 unfold depL
 rw [List.set_append_right _ _ (by rw [depD_len l (by omega)];omega),depD_len l (by omega),Nat.sub_self,take_snoc hm,deps_snoc,List.map_append,List.append_assoc]
 congr 1
 rw [show l.length - k=(l.length - (k+1))+1 by omega,List.replicate_succ]
 rfl
theorem field_split {deps:List (ByteArray×Int)} {strs:List (ByteArray×Bool)}:∀ (l:List FieldD) (bef:List FieldD) (k:Nat),(∀ (j:Nat) (f:FieldD),j < k→l[j]?=some f→examineC (bef++l.take j) (vI deps) (vB strs) f=0)→fieldsP deps strs (bef++l.take k) (l.drop k)=fieldsP deps strs bef l
 | [],bef,k,_=>by simp
 | f::l,bef,0,_=>by simp
 | f::l,bef,k+1,h=>by
  have h0:=h 0 f (by omega) rfl
  rw [List.take_zero,List.append_nil] at h0
  have ih:=field_split l (bef++[f]) k fun j g hj hg=>by
   have:=h (j+1) g (by omega) (by simpa using hg)
   rw [List.take_succ_cons] at this
   rw [List.append_assoc];exact this
  rw [List.take_succ_cons,List.drop_succ_cons,fieldsP,if_pos h0,← ih,List.append_assoc]
  rfl
theorem FineF.fields {deps:List (ByteArray×Int)} {strs:List (ByteArray×Bool)} {l:List FieldD} {k:Nat} (h:FineF deps strs (l.take k)):fieldsP deps strs (l.take k) (l.drop k)=fieldsP deps strs [] l:=by
 have:=field_split (deps:=deps) (strs:=strs) l [] k fun j f hj hf=>by
  have:=h j f (by rw [List.getElem?_take,if_pos hj];exact hf)
  rwa [List.take_take,Nat.min_eq_left (by omega)] at this
 simpa using this
end Go.Proofs.YtiajhbbmgglmlaaGreat
namespace Go.Proofs.YtiajhbbmgglmlaaGreat
open Sw
open Go.RowKit (intOf Below)
theorem rCheck_ret (w0:World) (v:Value) (d:DefD) (hd:DefVal w0 v d) (hb:calm d):Ret Pg 14 #[v] w0 fun r w'=>r = .tuple #[flawOf (checkP d),.bool (flawedB d)]∧Ext w0 w':=by
 obtain ⟨mv,rfl,hM⟩:=hd
 have hM0:=hM
 refine n17s (R:=retR _) ?_;unfold n17
 rw [op_boxA]
 have hBW:=ElemAt.new (w:=w0) (defCells d mv) (24)
 have eW:Ext w0 (w0.alloc (Obj.cells (List.toArray (defCells d mv)) (24))):=(Ext.refl _).alloc _
 generalize (w0.alloc (Obj.cells (List.toArray (defCells d mv)) (24)))=W at hBW eW ⊢
 obtain ⟨A,cm,rfl,hlc,hcm,hlm,hel⟩:=SliceOf.open hM
 have sB:w0.heap.size < W.heap.size:=World.block_lt_of_cell? W ⟨w0.heap.size,0,none⟩ (hBW.c3 (Ext.refl W)).1
 simp (disch:=try exact DI) only [↓PR,QR,Int.reduceBEq,Int.reduceBNe,Int.reduceLT,Int.reduceLE,Int.reduceGT,Int.reduceGE,Int.reduceNeg,hBW.c3 (Ext.refl W)]
 have oV:=heap_new W #[.int .i64 0,.int .i64 0,.int .i64 0] 39
 have eV:Ext W (W.alloc (.cells #[.int .i64 0,.int .i64 0,.int .i64 0] 39)):=(Ext.refl W).alloc _
 have sV:(W.alloc (.cells #[.int .i64 0,.int .i64 0,.int .i64 0] 39)).heap.size=W.heap.size+1:=World.size_alloc _ _
 generalize W.alloc (.cells #[.int .i64 0,.int .i64 0,.int .i64 0] 39)=V at oV eV sV ⊢
 have EV:Ext w0 V:=eW.trans eV
 have sW:=eW.size
 refine zcr (rName_ret _ _) fun w1 e1=>?_
 have E1:=EV.trans e1
 cases hnm:nameB d.name with
 | false =>
  have hc:checkP d=(-1,-1,1):=by unfold checkP;rw [hnm];rfl
  simp (disch:=try exact DI) only [↓PR,QR,Int.reduceBEq,Int.reduceBNe,Int.reduceLT,Int.reduceLE,Int.reduceGT,Int.reduceGE,Int.reduceNeg]
  unfold n17c23
  exact flaw_out E1 sW (e1.obj oV) _ _ _ fun w' e'=>⟨_,rfl,flaw_tup hc (by decide),e'⟩
 | true =>
 simp (disch:=try exact DI) only [↓PR,QR,Int.reduceBEq,Int.reduceBNe,Int.reduceLT,Int.reduceLE,Int.reduceGT,Int.reduceGE,Int.reduceNeg,hBW.c3 (eV.trans e1),n17c24]
 have hlen:(decide ((d.msgs.length:Int) < 1)||decide (60 < (d.msgs.length:Int)))=!decide (1≤d.msgs.length∧d.msgs.length≤60):=by
  rw [Bool.eq_iff_iff];simp only [Bool.or_eq_true,decide_eq_true_eq,Bool.not_eq_true',decide_eq_false_iff_not];omega
 rw [hlen]
 by_cases hl:1≤d.msgs.length∧d.msgs.length≤60
 case neg =>
  have hc:checkP d=(-1,-1,3):=by unfold checkP;rw [hnm,if_pos rfl,if_neg hl]
  simp (disch:=try exact DI) only [↓PR,QR,Int.reduceBEq,Int.reduceBNe,Int.reduceLT,Int.reduceLE,Int.reduceGT,Int.reduceGE,Int.reduceNeg,show decide (1≤d.msgs.length∧d.msgs.length≤60)=false by simpa using hl]
  unfold n17c21
  exact flaw_out E1 sW (e1.obj oV) _ _ _ fun w' e'=>⟨_,rfl,flaw_tup hc (by decide),e'⟩
 case pos =>
 simp (disch:=try exact DI) only [↓PR,QR,Int.reduceBEq,Int.reduceBNe,Int.reduceLT,Int.reduceLE,Int.reduceGT,Int.reduceGE,Int.reduceNeg,show decide (1≤d.msgs.length∧d.msgs.length≤60)=true by simpa using hl]
 unfold n17c22
 simp (disch:=try exact DI) only [↓PR,QR,Int.reduceBEq,Int.reduceBNe,Int.reduceLT,Int.reduceLE,Int.reduceGT,Int.reduceGE,Int.reduceNeg,hBW.c3 (eV.trans e1)]
 rw [op_makeInts _ (by omega)]
 have oD:DRow (w1.alloc (.cells ((List.replicate d.msgs.length (0:Int)).map fun n=>Value.int .i64 n).toArray 3)) w1.heap.size (depL d.msgs 0):=heap_new w1 _ _
 have eD:Ext w1 (w1.alloc (.cells ((List.replicate d.msgs.length (0:Int)).map fun n=>Value.int .i64 n).toArray 3)):=(Ext.refl w1).alloc _
 generalize w1.alloc (.cells ((List.replicate d.msgs.length (0:Int)).map fun n=>Value.int .i64 n).toArray 3)=w2 at oD eD ⊢
 have sw1:=e1.size
 generalize hbd:w1.heap.size=bd at oD sw1 ⊢
 have e2:Ext V w2:=e1.trans eD
 refine loop1_intro (fun a w'=>∃ k:Nat,a = .int .i64 k∧k≤d.msgs.length∧Ext V w'∧DRow w' bd (depL d.msgs k)∧Fine (d.msgs.take k)) (fun b _=>d.msgs.length - (intOf b).toNat) ⟨0,rfl,by omega,e2,oD,rfl⟩ ?_
 rintro _ w ⟨k,rfl,hk,e,hL,hfine⟩
 have E:=EV.trans e
 have hcW:=hBW.c3 (eV.trans e)
 unfold n17c20
 rcases drop_cases hk with ⟨m,hm,hdr,hlt,hdec⟩ | ⟨hk,hdr,hdec⟩
 · obtain ⟨bm,om,csm,rfl,_,hAm,fv,rfl,hF⟩:=hel k m hm
   have hF0:=hF
   obtain ⟨Af,cf,rfl,hlf,hcf,hlmf,helf⟩:=SliceOf.open hF
   have hdist:=hfine.dist
   have hbad:=fun (a c:Int)=>check_bad (d:=d) (k:=k) (m:=m) (a:=a) (c:=c) hnm hl hfine hm
   simp (disch:=try exact DI) only [↓PR,QR,Int.reduceBEq,Int.reduceBNe,Int.reduceLT,Int.reduceLE,Int.reduceGT,Int.reduceGE,Int.reduceNeg,hdec,hcW,hAm.c2 E,n17c19]
   have hBY:=ElemAt.new (w:=w) (msgCells m (.slice Af m.fields.length cf)) (45)
   have eY:Ext w (w.alloc (Obj.cells (List.toArray (msgCells m (.slice Af m.fields.length cf))) (45))):=(Ext.refl _).alloc _
   generalize (w.alloc (Obj.cells (List.toArray (msgCells m (.slice Af m.fields.length cf))) (45)))=Y at hBY eY ⊢
   have eY':Ext V Y:=e.trans eY
   refine zcr (rName_ret _ _) fun w3 e3=>?_
   have f3:Ext V w3:=eY'.trans e3
   cases hmn:nameB m.name with
   | false =>
    have hc:=hbad (-1) 1 (by unfold nextP;rw [hmn];rfl) (by decide)
    simp (disch:=try exact DI) only [↓PR,QR,Int.reduceBEq,Int.reduceBNe,Int.reduceLT,Int.reduceLE,Int.reduceGT,Int.reduceGE,Int.reduceNeg]
    unfold n17c14
    exact flaw_out (EV.trans f3) sW (f3.obj oV) _ _ _ fun w' e'=>⟨_,rfl,flaw_tup hc (by decide),e'⟩
   | true =>
   simp (disch:=try exact DI) only [↓PR,QR,Int.reduceBEq,Int.reduceBNe,Int.reduceLT,Int.reduceLE,Int.reduceGT,Int.reduceGE,Int.reduceNeg,hBW.c3 (eV.trans f3),hBY.c2 e3,n17c15]
   refine zcr (rFind_ret _ _ d m.name k ⟨_,rfl,hM0.ext (EV.trans f3)⟩ hk) fun w4 e4=>?_
   have f4:=f3.trans e4
   have hdi:=idx_neg (p:=fun x:MsgD=>decide (x.name=m.name)) (l:=d.msgs.take k)
   rw [← anyD _ hdist] at hdi
   cases hls:(lastP (depsOf (d.msgs.take k)) m.name).isSome with
   | true =>
    rw [hls] at hdi
    have hc:=hbad (-1) 2 (by unfold nextP;rw [hmn,hls];rfl) (by decide)
    simp (disch:=try exact DI) only [↓PR,QR,Int.reduceBEq,Int.reduceBNe,Int.reduceLT,Int.reduceLE,Int.reduceGT,Int.reduceGE,Int.reduceNeg,hdi]
    unfold n17c12
    exact flaw_out (EV.trans f4) sW (f4.obj oV) _ _ _ fun w' e'=>⟨_,rfl,flaw_tup hc (by decide),e'⟩
   | false =>
   rw [hls] at hdi
   have hcY4:=hBY.c2 (e3.trans e4)
   simp (disch:=try exact DI) only [↓PR,QR,Int.reduceBEq,Int.reduceBNe,Int.reduceLT,Int.reduceLE,Int.reduceGT,Int.reduceGE,Int.reduceNeg,hdi,hcY4,↓n17c1,↓n17c2,↓n17c3,↓n17c4,↓n17c5,↓n17c6,↓n17c7,↓n17c8,↓n17c9,↓n17c10,↓n17c11,↓n17c12,↓n17c13,↓n17c14,↓n17c15,↓n17c16,↓n17c17,↓n17c18,↓n17c19,↓n17c20,↓n17c21,↓n17c22,↓n17c23,↓n17c24]
   have hlen2:(decide ((m.fields.length:Int) < 1)||decide (40 < (m.fields.length:Int)))=!decide (1≤m.fields.length∧m.fields.length≤40):=by
    rw [Bool.eq_iff_iff];simp only [Bool.or_eq_true,decide_eq_true_eq,Bool.not_eq_true',decide_eq_false_iff_not];omega
   rw [hlen2]
   by_cases hl2:1≤m.fields.length∧m.fields.length≤40
   case neg =>
    have hc:=hbad (-1) 3 (by unfold nextP;rw [hmn,hls,if_pos rfl,if_neg (by simp),if_neg hl2]) (by decide)
    rw [show decide (1≤m.fields.length∧m.fields.length≤40)=false by simpa using hl2]
    exact flaw_out (EV.trans f4) sW (f4.obj oV) _ _ _ fun w' e'=>⟨_,rfl,flaw_tup hc (by decide),e'⟩
   case pos =>
   have hnx:nextP (depsOf (d.msgs.take k)) (strsOf (d.msgs.take k)) m=tailP (depsOf (d.msgs.take k)) m (fieldsP (depsOf (d.msgs.take k)) (strsOf (d.msgs.take k)) [] m.fields):=by
    unfold nextP;rw [hmn,hls,if_pos rfl,if_neg (by simp),if_pos hl2]
   rw [show decide (1≤m.fields.length∧m.fields.length≤40)=true by simpa using hl2]
   simp (disch:=try exact DI) only [↓PR,QR,Int.reduceBEq,Int.reduceBNe,Int.reduceLT,Int.reduceLE,Int.reduceGT,Int.reduceGE,Int.reduceNeg]
   refine loop1_intro (fun a w'=>∃ i:Nat,a = .int .i64 i∧i≤m.fields.length∧Ext w4 w'∧FineF (depsOf (d.msgs.take k)) (strsOf (d.msgs.take k)) (m.fields.take i)) (fun b _=>m.fields.length - (intOf b).toNat) ⟨0,rfl,by omega,Ext.refl _,by intro j f h;simp at h⟩ ?_
   rintro _ w5 ⟨i,rfl,hi,e5,hff⟩
   have f5:=f4.trans e5
   have hsp:=hff.fields
   unfold n17c9
   rcases drop_cases hi with ⟨f,hx,hdf,hltf,hdecf⟩ | ⟨hi,hdf,hdecf⟩
   · rw [hdf,fieldsP] at hsp
     simp (disch:=try exact DI) only [↓PR,QR,Int.reduceBEq,Int.reduceBNe,Int.reduceLT,Int.reduceLE,Int.reduceGT,Int.reduceGE,Int.reduceNeg,hdecf,hBY.c2 (e3.trans (e4.trans e5)),hBW.c3 (eV.trans f5)]
     refine zcr (rfield_ret _ _ d k i m f ⟨_,rfl,hM0.ext (EV.trans f5)⟩ hm hx hdist hfine.refsIn hff.dist hb (by omega) hff.bounds) fun w6 e6=>?_
     have f6:=f5.trans e6
     by_cases h0:examineC (m.fields.take i) (vI (depsOf (d.msgs.take k))) (vB (strsOf (d.msgs.take k))) f=0
     · simp (disch:=try exact DI) only [↓PR,QR,Int.reduceBEq,Int.reduceBNe,Int.reduceLT,Int.reduceLE,Int.reduceGT,Int.reduceGE,Int.reduceNeg,h0,n17c2,show ((0:Int) != 0)=false from rfl]
       exact ⟨⟨i+1,rfl,hltf,e5.trans e6,hff.step hx h0⟩,meas_lt hltf⟩
     · rw [if_neg h0,List.length_take,Nat.min_eq_left (by omega)] at hsp
       have hc:=hbad i _ (by rw [hnx,← hsp];unfold tailP;rw [if_neg h0]) h0
       simp (disch:=try exact DI) only [↓PR,QR,Int.reduceBEq,Int.reduceBNe,Int.reduceLT,Int.reduceLE,Int.reduceGT,Int.reduceGE,Int.reduceNeg,n17c2,show (examineC (m.fields.take i) (vI (depsOf (d.msgs.take k))) (vB (strsOf (d.msgs.take k))) f != 0)=true by simpa using h0]
       unfold n17c1
       exact flaw_out (EV.trans f6) sW (f6.obj oV) _ _ _ fun w' e'=>⟨_,rfl,flaw_tup hc h0,e'⟩
   · subst hi
     rw [hdf,fieldsP] at hsp
     rw [← hsp] at hnx
     have hfd:(fieldsP (depsOf (d.msgs.take k)) (strsOf (d.msgs.take k)) [] m.fields).2=0:=by rw [← hsp]
     simp (disch:=try exact DI) only [↓PR,QR,Int.reduceBEq,Int.reduceBNe,Int.reduceLT,Int.reduceLE,Int.reduceGT,Int.reduceGE,Int.reduceNeg,hdecf,hBY.c2 (e3.trans (e4.trans e5))]
     have hkl:k < d.msgs.length:=(List.getElem?_eq_some_iff.1 hm).1
     have hlow:=hfine.low k
     rw [List.take_take,Nat.min_self] at hlow
     have hdm:=foldl_maxI (fun s=>(lastP (depsOf (d.msgs.take k)) s).getD 0) (refsM m) 0 (by decide) (fun s _=>hlow.get s) (by decide)
     have hlo5:bd < w5.heap.size:=by
      have:=(Array.getElem?_eq_some_iff.1 hL).1
      have h1:=eY.size
      have h2:=e3.size
      have h3:=e4.size
      have h4:=e5.size
      omega
     unfold n17c8
     simp (disch:=try exact DI) only [↓PR,QR,Int.reduceBEq,Int.reduceBNe,Int.reduceLT,Int.reduceLE,Int.reduceGT,Int.reduceGE,Int.reduceNeg,hBY.c2 (e3.trans (e4.trans e5))]
     refine callK_ret (rRefers_ret _ _ m ⟨_,rfl,hF0.ext (EV.trans (e.trans (eY.trans (e3.trans (e4.trans e5)))))⟩ (hb m (List.mem_of_getElem? hm)).1) ?_
     rintro rv w6 ⟨hS,e6⟩
     have f6:=f5.trans e6
     have hL6:DRow w6 bd (depL d.msgs k):=((((hL.ext eY).ext e3).ext e4).ext e5).ext e6
     refine rcheck_refs (hBW.ext eV) EV hM0 hkl hdist (next_refs (ds_of _) hfd) f6 (by omega) hL6 (depL_len _ (by omega)) (depL_old _ hkl) (depL_zero _ hkl) hS hlo5 ?_
     intro w7 f7 hL7
     have hdp:0≤depthM (depsOf (d.msgs.take k)) m∧depthM (depsOf (d.msgs.take k)) m≤16:=hdm
     have hst:=depL_step hm
     generalize hDM:depthM (depsOf (d.msgs.take k)) m=dm at hL7 hdp hst
     have hlL:=depL_len d.msgs (k:=k) (by omega)
     have hc7:=hL7.cell (k:=k) (n:=dm) (by rw [List.getElem?_set,if_pos rfl,if_pos (by omega)])
     have hL8:=hL7.set k (dm+1)
     rw [List.set_set,hst] at hL8
     unfold n17c6
     simp (disch:=try exact DI) only [↓PR,QR,Int.reduceBEq,Int.reduceBNe,Int.reduceLT,Int.reduceLE,Int.reduceGT,Int.reduceGE,Int.reduceNeg,hc7,hL7.free,show IntKind.i64.wrap (dm+1)=dm+1 from wrap_ok (by omega) (by omega)]
     have f8:Ext V (w7.setCell ⟨bd,k*1,none⟩ (.int .i64 (dm+1))):=f7.setCell (by omega) _
     have htl:nextP (depsOf (d.msgs.take k)) (strsOf (d.msgs.take k)) m=if dm < 16 then (-1,0) else (-1,10):=by rw [hnx];unfold tailP;rw [if_pos rfl,hDM]
     by_cases h16:dm < 16
     · rw [if_pos h16] at htl
       simp (disch:=try exact DI) only [↓PR,QR,Int.reduceBEq,Int.reduceBNe,Int.reduceLT,Int.reduceLE,Int.reduceGT,Int.reduceGE,Int.reduceNeg,show decide (16 < dm+1)=false by simp only [decide_eq_false_iff_not];omega]
       rw [wrap_ok (by omega) (by omega)]
       exact ⟨⟨k+1,rfl,hlt,f8,hL8,hfine.step hm (by rw [htl])⟩,meas_lt hlt⟩
     · rw [if_neg h16] at htl
       have hc:=hbad _ _ htl (by decide)
       simp (disch:=try exact DI) only [↓PR,QR,Int.reduceBEq,Int.reduceBNe,Int.reduceLT,Int.reduceLE,Int.reduceGT,Int.reduceGE,Int.reduceNeg,show decide (16 < dm+1)=true by simp only [decide_eq_true_eq];omega]
       rw [wrap_ok (by omega) (by omega)]
       unfold n17c5
       exact flaw_out (EV.trans f8) sW (f8.obj oV) _ _ _ fun w' e'=>⟨_,rfl,flaw_tup hc (by decide),e'⟩
 · subst hk
   rw [List.take_length] at hfine
   have hmp:msgsP [] [] 0 d.msgs=(0,0,0):=by
    have:=msgs_split (l:=d.msgs) (k:=d.msgs.length) (by rw [List.take_length];exact hfine) (Nat.le_refl _)
    rw [this,List.drop_length];rfl
   have hcp:checkP d=if (lastP (depsOf d.msgs) d.start).isSome then (0,0,0) else (-1,-1,11):=by
    unfold checkP;rw [if_pos hnm,if_pos hl,hmp];rfl
   simp (disch:=try exact DI) only [↓PR,QR,Int.reduceBEq,Int.reduceBNe,Int.reduceLT,Int.reduceLE,Int.reduceGT,Int.reduceGE,Int.reduceNeg,hdec,hcW,n17c18]
   refine zcr (rFind_ret _ _ d d.start d.msgs.length ⟨_,rfl,hM0.ext E⟩ (Nat.le_refl _)) fun w3 e3=>?_
   have f3:=e.trans e3
   have hdi:=idx_some (p:=fun x:MsgD=>decide (x.name=d.start)) (l:=d.msgs.take d.msgs.length)
   rw [← anyD _ (by rw [List.take_length];exact hfine.dist)] at hdi
   rw [List.take_length] at hdi
   cases hls:(lastP (depsOf d.msgs) d.start).isSome with
   | false =>
    rw [hls] at hdi hcp
    simp (disch:=try exact DI) only [↓PR,QR,Int.reduceBEq,Int.reduceBNe,Int.reduceLT,Int.reduceLE,Int.reduceGT,Int.reduceGE,Int.reduceNeg,hdi,List.take_length]
    unfold n17c16
    exact flaw_out (EV.trans f3) sW (f3.obj oV) _ _ _ fun w' e'=>⟨_,rfl,flaw_tup hcp (by decide),e'⟩
   | true =>
    rw [hls] at hdi hcp
    simp (disch:=try exact DI) only [↓PR,QR,Int.reduceBEq,Int.reduceBNe,Int.reduceLT,Int.reduceLE,Int.reduceGT,Int.reduceGE,Int.reduceNeg,hdi,List.take_length,n17c17,(cells_of_heap (f3.obj oV)).1,(cells_of_heap (f3.obj oV)).2]
    rw [if_pos rfl] at hcp
    exact ⟨by unfold flawedB flawOf;rw [hcp];rfl,(((EV.trans f3).setCell sW _).setCell sW _).setCell sW _⟩
end Go.Proofs.YtiajhbbmgglmlaaGreat
namespace Go.Proofs.YtiajhbbmgglmlaaGreat
open Sw
open Go.RowKit (intOf Below)
theorem SchemaChecks_ret (w0:World) (v:Value) (d:DefD) (hd:DefVal w0 v d) (hsm:DefSm d):Ret Pg 4 #[v] w0 fun r w'=>r = .bool true∧Ext w0 w':=by
 obtain ⟨mv,rfl,hM⟩:=hd
 have hm1:=SliceOf.oneCell hM
 refine n4s (R:=retR _) ?_;unfold n4
 rw [op_boxA]
 have hBW:=ElemAt.new (w:=w0) (defCells d mv) (24)
 have eW:Ext w0 (w0.alloc (Obj.cells (List.toArray (defCells d mv)) (24))):=(Ext.refl _).alloc _
 generalize (w0.alloc (Obj.cells (List.toArray (defCells d mv)) (24)))=W at hBW eW ⊢
 simp (disch:=try exact DI) only [↓PR,QR,Int.reduceBEq,Int.reduceBNe,Int.reduceLT,Int.reduceLE,Int.reduceGT,Int.reduceGE,Int.reduceNeg,hBW.c3 (Ext.refl W)]
 refine callK_ret (fits_ret _ _ d ⟨_,rfl,hM.ext eW⟩ hsm) ?_
 rintro _ w1 ⟨b,rfl,hfit,e1⟩
 have E1:=eW.trans e1
 cases b with
 | false =>
  simp (disch:=try exact DI) only [↓PR,QR,Int.reduceBEq,Int.reduceBNe,Int.reduceLT,Int.reduceLE,Int.reduceGT,Int.reduceGE,Int.reduceNeg,↓n4c1,↓n4c2,↓n4c3,↓n4c4,↓n4c5,↓n4c6,↓n4c7]
  refine zcr (known_ret _) fun w2 e2=>?_
  exact ⟨_,rfl,rfl,E1.trans e2⟩
 | true =>
 have hfit:=hfit rfl
 have hbe:∀ b:Bool,(b == b)=true:=fun b=>by cases b<;>rfl
 have hcalm:=fits_calm hfit
 simp (disch:=try exact DI) only [↓PR,QR,Int.reduceBEq,Int.reduceBNe,Int.reduceLT,Int.reduceLE,Int.reduceGT,Int.reduceGE,Int.reduceNeg,hBW.c3 e1,↓n4c1,↓n4c2,↓n4c3,↓n4c4,↓n4c5,↓n4c6,↓n4c7]
 refine callK_ret (Copy_ret _ _ d ⟨_,rfl,hM.ext E1⟩ (fits_tame hfit)) ?_
 rintro _ w2 ⟨hN,e2⟩
 obtain ⟨mv2,rfl,hM2⟩:=hN.plain
 have hm2:=SliceOf.oneCell hM2
 have E2:=E1.trans e2
 have hcW2:=hBW.c3 (e1.trans e2)
 have hlt:=World.block_lt_of_cell? w2 ⟨w0.heap.size,0,none⟩ hcW2.1
 simp (disch:=try exact DI) only [↓PR,QR,Int.reduceBEq,Int.reduceBNe,Int.reduceLT,Int.reduceLE,Int.reduceGT,Int.reduceGE,Int.reduceNeg,hcW2,↓n4c1,↓n4c2,↓n4c3,↓n4c4,↓n4c5,↓n4c6,↓n4c7]
 have hBX:=ElemAt.new (w:=w2) (defCells d mv2) (24)
 have eX:Ext w2 (w2.alloc (Obj.cells (List.toArray (defCells d mv2)) (24))):=(Ext.refl _).alloc _
 generalize (w2.alloc (Obj.cells (List.toArray (defCells d mv2)) (24)))=X at hBX eX ⊢
 have E3:=E2.trans eX
 refine zcr (Check_ret _ d ⟨_,rfl,hM.ext E3⟩ hcalm) fun w3 e3=>?_
 have E4:=E3.trans e3
 have hcW4:=hBW.c3 ((e1.trans e2).trans (eX.trans e3))
 have hcX4:=hBX.c3 e3
 have hlt4:=World.block_lt_of_cell? w3 ⟨w0.heap.size,0,none⟩ hcW4.1
 have hlx4:=World.block_lt_of_cell? w3 ⟨w2.heap.size,0,none⟩ hcX4.1
 simp (disch:=try exact DI) only [↓PR,QR,Int.reduceBEq,Int.reduceBNe,Int.reduceLT,Int.reduceLE,Int.reduceGT,Int.reduceGE,Int.reduceNeg,hcW4,↓n4c1,↓n4c2,↓n4c3,↓n4c4,↓n4c5,↓n4c6,↓n4c7]
 have hBY:=ElemAt.new (w:=w3) ([.int .i64 (checkP d).1,.int .i64 (checkP d).2.1,.int .i64 (checkP d).2.2]) (39)
 have eY:Ext w3 (w3.alloc (Obj.cells (List.toArray ([.int .i64 (checkP d).1,.int .i64 (checkP d).2.1,.int .i64 (checkP d).2.2])) (39))):=(Ext.refl _).alloc _
 generalize (w3.alloc (Obj.cells (List.toArray ([.int .i64 (checkP d).1,.int .i64 (checkP d).2.1,.int .i64 (checkP d).2.2])) (39)))=Y at hBY eY ⊢
 have E5:=E4.trans eY
 refine zcr (rCheck_ret _ _ d ⟨_,rfl,hM.ext E5⟩ hcalm) fun w4 e4=>?_
 have E6:=E5.trans e4
 have e34:Ext w3 w4:=eY.trans e4
 have hcW5:=hBW.c3 (((e1.trans e2).trans (eX.trans e3)).trans e34)
 have hcX5:=hBX.c3 (e3.trans e34)
 have hcY5:=hBY.c3 e4
 have hly4:=World.block_lt_of_cell? w4 ⟨w3.heap.size,0,none⟩ hcY5.1
 have hlw4:=World.block_lt_of_cell? w4 ⟨w0.heap.size,0,none⟩ hcW5.1
 have hlx5:=World.block_lt_of_cell? w4 ⟨w2.heap.size,0,none⟩ hcX5.1
 simp only at hly4 hlw4 hlx5
 simp (disch:=try exact DI) only [↓PR,QR,Int.reduceBEq,Int.reduceBNe,Int.reduceLT,Int.reduceLE,Int.reduceGT,Int.reduceGE,Int.reduceNeg,hcY5,hcW5,eq_self,hbe,↓n4c1,↓n4c2,↓n4c3,↓n4c4,↓n4c5,↓n4c6,↓n4c7]
 have hBZ:=ElemAt.new (w:=w4) ([.int .i64 (checkP d).1,.int .i64 (checkP d).2.1,.int .i64 (checkP d).2.2]) (39)
 have eZ:Ext w4 (w4.alloc (Obj.cells (List.toArray ([.int .i64 (checkP d).1,.int .i64 (checkP d).2.1,.int .i64 (checkP d).2.2])) (39))):=(Ext.refl _).alloc _
 generalize (w4.alloc (Obj.cells (List.toArray ([.int .i64 (checkP d).1,.int .i64 (checkP d).2.1,.int .i64 (checkP d).2.2])) (39)))=Z at hBZ eZ ⊢
 have E7:=E6.trans eZ
 refine zcr (Valid_ret' _ d ⟨_,rfl,hM.ext E7⟩ hcalm) fun w5 e5=>?_
 have E8:=E7.trans e5
 have e45:=eZ.trans e5
 simp (disch:=try exact DI) only [↓PR,QR,Int.reduceBEq,Int.reduceBNe,Int.reduceLT,Int.reduceLE,Int.reduceGT,Int.reduceGE,Int.reduceNeg,hbe,hBW.c3 ((((e1.trans e2).trans (eX.trans e3)).trans e34).trans e45),hBX.c3 ((e3.trans e34).trans e45),↓n4c1,↓n4c2,↓n4c3,↓n4c4,↓n4c5,↓n4c6,↓n4c7]
 refine zcr (rEqual_ret _ _ _ d d ⟨_,rfl,hM2.ext (eX.trans ((e3.trans e34).trans e45))⟩ ⟨_,rfl,hM.ext E8⟩) fun w6 e6=>?_
 simp (disch:=try exact DI) only [↓PR,QR,Int.reduceBEq,Int.reduceBNe,Int.reduceLT,Int.reduceLE,Int.reduceGT,Int.reduceGE,Int.reduceNeg,eq_self,hbe,↓n4c1,↓n4c2,↓n4c3,↓n4c4,↓n4c5,↓n4c6,↓n4c7]
 refine zcr (known_ret _) fun w7 e7=>?_
 simp (disch:=try exact DI) only [↓PR,QR,Int.reduceBEq,Int.reduceBNe,Int.reduceLT,Int.reduceLE,Int.reduceGT,Int.reduceGE,Int.reduceNeg]
 exact ⟨by trivial,E8.trans (e6.trans e7)⟩
end Go.Proofs.YtiajhbbmgglmlaaGreat
namespace Go.Proofs.YtiajhbbmgglmlaaGreat
open Sw
open Go.ChangeShapes Go.WideShapes Go.RowKit Go.ChangeAt Go.Deep
theorem checks_own:ownKnob Pg.godebug=none:=by kernel_rfl
theorem checks_laidOut:laidOutB Pg=true:=by kernel_rfl
theorem checks_lifted (os:Os) (started:os.Started) (H:Type) (enc:TypeId×Value→H) :
 ReturnsInHanded {} Tryz.checked os 4 .any (Rows.schemaChecksSpec.pre6 enc Pg Tryz.f4 Rows.schemaChecksRow.domain false) (Rows.schemaChecksSpec.post enc Pg Tryz.f4 false true false false):=by
 refine returnsInHanded_of_change_sized (C:=Tryz.checked) checks_own started (by kernel_rfl) Tryz.func4
  (ChangeSpec.witness6 (enc:=enc) (C:=Tryz.checked) false ⟨#[],#[.agg #[.string ByteArray.empty,.slice none 0 0,.string ByteArray.empty]],[]⟩ 8 (by kernel_rfl) (by kernel_rfl) (by kernel_rfl) (by kernel_rfl)) ?_
 intro W base args ds gs before hval hW _ hsz _
 have hW':=hW
 obtain ⟨p,q,hA0,hV,rfl,_,_⟩:=hW
 have hA:DataW.TrodAll enc Pg W 0 (fun _=>true) true Tryz.f4.params.toList args.toList ds p:=hA0
 rw [Tryz.params4] at hA hval hsz
 obtain ⟨v0,vs0,d0,ds0,p0,q0,ha0,rfl,rfl,h0,r0⟩:=trodAll_cons hA
 obtain ⟨rfl,rfl,rfl⟩:=trodAll_nil r0
 obtain rfl:args = #[v0]:=by cases args;simp_all
 obtain ⟨f0,hf0,hs0⟩:=def_val (hval 0 _ v0 rfl rfl) h0 (reached_of (j:=0) hsz rfl rfl)
 refine Calls.mono (SchemaChecks_ret W v0 f0 hf0 hs0) fun e W' ⟨v,he,hv,hx⟩=>?_
 subst he hv
 exact ⟨_,rfl,law_post checks_laidOut (by decide +kernel) rfl hW' hx rfl Tryz.underlying4 rfl rfl rfl⟩
theorem checks_holds:Rows.SchemaChecksSaid :=
 OpenClaim.holds_of_wide 4 Tryz.f4 rfl rfl rfl rfl rfl rfl rfl ⟨rfl,rfl,rfl,rfl,rfl⟩ rfl rfl rfl rfl rfl (by kernel_rfl) Tryz.func4 (by kernel_rfl)
  (of_decide_eq_true (by kernel_rfl)) (by unfold Func.isWrapper;first | (rw [if_pos (by decide +kernel)];kernel_rfl) | (rw [if_neg (by decide +kernel)];exact ⟨rfl,rfl⟩))
  (fun os started H enc _=>checks_lifted os started H enc)
end Go.Proofs.YtiajhbbmgglmlaaGreat
