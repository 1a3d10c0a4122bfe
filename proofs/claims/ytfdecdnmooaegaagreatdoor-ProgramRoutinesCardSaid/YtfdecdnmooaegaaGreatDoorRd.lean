/-
  phrasebooklaw18.ProgramRoutines returns true for every definition and every name, and leaves its arguments as they were; no condition is asked but that the tables of the library lie as the program lays them (the card ties them).
-/
import Derived.Test.YtfdecdnmooaegaaGreatDoorRd5
set_option linter.all false
set_option maxHeartbeats 4000000
set_option maxRecDepth 100000
namespace Go.Proofs.YtfdecdnmooaegaaGreatDoor
open Sw
open Go.RowKit (intOf Below)
section
variable {P:Program} {QP:List PanicEntry→World→Prop} {w:World} {k:Value→World→Prop}
theorem eqNil_p (d0:Nat) {t e:TypeId} (hu:P.underlying t=some (.pointer e)) (a:Option Addr):(Op.equalIn (d0+1) t (.pointer a) (.pointer none)).run P w = .ok a.isNone w:=by cases a<;>simp [Op.equalIn,run_underlying hu]
theorem op_eqNilP {t e:TypeId} (hu:P.underlying t=some (.pointer e)) (c:Bool) (a:Option Addr):opV P (binS .eql t c (.pointer a) (.pointer none)) QP w k=k (.bool a.isNone) w:=opV_ok (run_eqv (eqNil_p 9999 hu a))
theorem op_neNilP {t e:TypeId} (hu:P.underlying t=some (.pointer e)) (c:Bool) (a:Option Addr):opV P (binS .neq t c (.pointer a) (.pointer none)) QP w k=k (.bool (!a.isNone)) w:=opV_ok (run_nev (eqNil_p 9999 hu a))
end
theorem codeP_len (d:DefD):(codeP d).length=sizeP d:=by
 unfold codeP sizeP
 rw [List.length_append,← codeN_len (rt:=toR d.msgs (reachD d))]
 show 2+_=_
 omega
theorem sizeP_pos (d:DefD):2≤sizeP d:=by rw [← codeP_len];unfold codeP;rw [List.length_append];show 2≤2+_;omega
def zeroI:InsD:=⟨0,0,0,0,0,0⟩
section
variable {w:World} {lo pb:Nat} {d:DefD}
theorem ProgAt.code (h:ProgAt w lo pb d):∃ mc rm gm g cap,w.heap[pb]?=some (.cells (progCells d mc (.slice (some ⟨g,0,none⟩) (sizeP d) cap) rm gm).toArray 61 (0,0))∧OwnE w lo TI 6 insCells (.slice (some ⟨g,0,none⟩) (sizeP d) cap) (codeP d)∧(∀ k x,(codeP d)[k]?=some x→ElemAt w g (k*6) (insCells x))∧sizeP d≤cap:=by
 obtain ⟨mc,cv,rm,gm,h1,_,_,_,_,h2,_⟩:=h
 have hp:=sizeP_pos d
 have hl:=codeP_len d
 have hs:=h2.slice (E:=fun _ cs x=>cs=insCells x) (fun _=>rfl) (fun _ _=>rfl)
 obtain ⟨g,cap,rfl,_,_,_,_,hE⟩:=h2.row (fun _=>rfl) (by omega)
 obtain ⟨A,c,hv,hlc,_⟩:=SliceOf.open hs
 injection hv with _ _ hv
 rw [hl] at h1 h2
 exact ⟨mc,rm,gm,g,cap,h1,h2,hE,by omega⟩
theorem none_ret (h:ProgAt w lo pb d):Ret Pg 36 #[.pointer (some ⟨pb,0,none⟩)] w fun r w'=>r = .bool false∧Ext w w':=by
 obtain ⟨mc,rm,gm,g,cap,h1,_⟩:=h.code
 have hp:=sizeP_pos d
 have hz:((sizeP d:Int) == 0)=false:=by simp;omega
 refine n46s (R:=retR _) ?_;unfold n46
 rw [op_eqNilP Tryz.underlying27]
 simp (disch:=try exact DI) only [↓PR,QR,simprocAttr,(cells_of_heap h1).1,hz,Option.isNone_some]
 exact ⟨by trivial,Ext.refl _⟩
theorem Len_ret (h:ProgAt w lo pb d):Ret Pg 17 #[.pointer (some ⟨pb,0,none⟩)] w fun r w'=>r = .int .i64 (sizeP d:Int)∧Ext w w':=by
 refine n38s (R:=retR _) ?_;unfold n38
 refine zcr (none_ret h) fun w1 e1=>?_
 obtain ⟨mc,rm,gm,g,cap,h1,_⟩:=(h.ext e1).code
 simp (disch:=try exact DI) only [↓PR,QR,simprocAttr,↓n38c1,(cells_of_heap h1).1]
 exact ⟨by first | trivial | rfl,ee⟩
theorem found_ret (h:ProgAt w lo pb d) (s:ByteArray) {fn:FuncId} {cp rr:Nat} {φ:ByteArray→Option Int} (hc:Callable Pg fn) (hM:MapI w rr φ) (hfn:∀ w',Ext w w'→Ret Pg fn #[.pointer (some ⟨cp,0,none⟩)] w' fun r w''=>r = .map (some rr)∧Ext w' w'') :
 Ret Pg 49 #[.pointer (some ⟨pb,0,none⟩),.string s,.func (.func fn) #[] #[.pointer (some ⟨cp,0,none⟩)]] w fun r w'=>r = .tuple #[.int .i64 ((φ s).getD 0),.int .i64 (if (φ s).isSome then 0 else 9)]∧Ext w w':=by
 refine n44s (R:=retR _) ?_;unfold n44
 refine zcr (none_ret h) fun w1 e1=>?_
 simp (disch:=try exact DI) only [↓PR,QR,simprocAttr]
 rw [callV_func hc]
 simp only [Array.empty_append,List.push_toArray,List.append_toArray,Array.append_eq_append,List.nil_append]
 refine zcr (hfn w1 e1) fun w2 e2=>?_
 unfold n44c1
 rw [(hM.ext (e1.trans e2)).look2]
 cases hf:φ s with
 | none=>simp (disch:=try exact DI) only [↓PR,QR,simprocAttr,Option.isSome_none,Option.getD_none];exact ⟨by trivial,e1.trans e2⟩
 | some n=>simp (disch:=try exact DI) only [↓PR,QR,simprocAttr,Option.isSome_some,Option.getD_some];exact ⟨by trivial,e1.trans e2⟩
def routE (d:DefD) (s:ByteArray):Option Int:=mapF d.msgs (reachD d) (fun i=>(routN d.msgs (reachD d) i:Int)) d.msgs.length s
def regE (d:DefD) (s:ByteArray):Option Int:=mapF d.msgs (reachD d) (cntM d.msgs) d.msgs.length s
theorem Routine_ret (h:ProgAt w lo pb d) (s:ByteArray):Ret Pg 22 #[.pointer (some ⟨pb,0,none⟩),.string s] w fun r w'=>r = .tuple #[.int .i64 ((routE d s).getD 0),.int .i64 (if (routE d s).isSome then 0 else 9)]∧Ext w w':=by
 refine n41s (R:=retR _) ?_;unfold n41
 simp (disch:=try exact DI) only [↓PR,QR,simprocAttr]
 generalize hV:World.alloc w _=W
 have eW:Ext w W:=by rw [← hV];exact ee
 have oW:W.heap[w.heap.size]?=some (.cells #[.pointer (some ⟨pb,0,none⟩)] 27 (0,0)):=by rw [← hV];exact heap_new _ _ _
 clear hV
 have hW:=h.ext eW
 obtain ⟨mc,cv,rm,gm,h1,h2,h3,h4,h5,h6,h7,h8⟩:=id hW
 refine callK_ret (found_ret hW s (φ:=routE d) c51 h7 fun w' e=>?_) ?_
 · refine n42s (R:=retR _) ?_;unfold n42
   simp (disch:=try exact DI) only [↓PR,QR,simprocAttr,(cells_of_heap (e.obj oW)).1,(cells_of_heap (e.obj h1)).1]
   exact ⟨by trivial,Ext.refl _⟩
 rintro _ w2 ⟨rfl,e2⟩
 simp (disch:=try exact DI) only [↓PR,QR,simprocAttr]
 exact ⟨by trivial,eW.trans e2⟩
theorem Registers_ret (h:ProgAt w lo pb d) (s:ByteArray):Ret Pg 21 #[.pointer (some ⟨pb,0,none⟩),.string s] w fun r w'=>r = .tuple #[.int .i64 ((regE d s).getD 0),.int .i64 (if (regE d s).isSome then 0 else 9)]∧Ext w w':=by
 refine n39s (R:=retR _) ?_;unfold n39
 simp (disch:=try exact DI) only [↓PR,QR,simprocAttr]
 generalize hV:World.alloc w _=W
 have eW:Ext w W:=by rw [← hV];exact ee
 have oW:W.heap[w.heap.size]?=some (.cells #[.pointer (some ⟨pb,0,none⟩)] 27 (0,0)):=by rw [← hV];exact heap_new _ _ _
 clear hV
 have hW:=h.ext eW
 obtain ⟨mc,cv,rm,gm,h1,h2,h3,h4,h5,h6,h7,h8⟩:=id hW
 refine callK_ret (found_ret hW s (φ:=regE d) c50 h8 fun w' e=>?_) ?_
 · refine n40s (R:=retR _) ?_;unfold n40
   simp (disch:=try exact DI) only [↓PR,QR,simprocAttr,(cells_of_heap (e.obj oW)).1,(cells_of_heap (e.obj h1)).1]
   exact ⟨by trivial,Ext.refl _⟩
 rintro _ w2 ⟨rfl,e2⟩
 simp (disch:=try exact DI) only [↓PR,QR,simprocAttr]
 exact ⟨by trivial,eW.trans e2⟩
theorem Definition_ret (h:ProgAt w lo pb d) (ht:tame d):Ret Pg 23 #[.pointer (some ⟨pb,0,none⟩)] w fun r w'=>DefN w' w.heap.size w'.heap.size r d∧Ext w w':=by
 refine n35s (R:=retR _) ?_;unfold n35
 simp (disch:=try exact DI) only [↓PR,QR,simprocAttr]
 generalize hW:World.alloc w _=W
 have eW:Ext w W:=by rw [← hW];exact ee
 have oW:W.heap[w.heap.size]?=some (.cells (defCells nilDef (.slice none 0 0)).toArray 24 (0,0)):=by rw [← hW];exact heap_new _ _ _
 clear hW
 refine zcr (none_ret (h.ext eW)) fun w1 e1=>?_
 have E1:=eW.trans e1
 have q1:=e1.obj oW
 obtain ⟨mc,cv,rm,gm,h1,h2,h3,h4,h5,h6,h7,h8⟩:=h.ext E1
 have hmc:=SliceOf.oneCell h5.plain
 simp (disch:=try exact DI) only [↓PR,QR,simprocAttr,↓n35c2,↓n35c1,(cells_of_heap h1).1]
 refine callK_ret (Copy_retA w1 _ d ⟨mc,rfl,h5.plain⟩ ht) ?_
 rintro _ w2 ⟨⟨mv,rfl,hN⟩,e2⟩
 have hmv:=SliceOf.oneCell hN.toN.plain
 have q2:=e2.obj q1
 have l2:=(Array.getElem?_eq_some_iff.1 q1).1
 generalize hp:w.heap.size=p at *
 have l1:=(Array.getElem?_eq_some_iff.1 q1).1
 have z1:=E1.size
 have z2:=e2.size
 have E2:=E1.trans e2
 have ho:∀ (w':World) o v,MsgsA w' w1.heap.size w2.heap.size mv d.msgs→MsgsA (w'.setCell ⟨p,o,none⟩ v) w1.heap.size w2.heap.size mv d.msgs:=fun w' o v h=>h.only (Only.setCell w' _ o v) (.inr (.inl l1))
 simp (disch:=try exact DI) only [↓PR,QR,simprocAttr,(cells_of_heap q2).1,(cells_of_heap q2).2]
 have hb:w.heap.size≤p:=by omega
 exact ⟨⟨mv,rfl,(((ho _ _ _ (ho _ _ _ (ho _ _ _ hN))).mono (by omega) (Nat.le_refl _)).toN)⟩,((E2.setCell (p:=⟨p,0,none⟩) hb _).setCell (p:=⟨p,1,none⟩) hb _).setCell (p:=⟨p,2,none⟩) hb _⟩
end
end Go.Proofs.YtfdecdnmooaegaaGreatDoor
namespace Go.Sw
open Go.RowKit (Below)
section
variable {P:Program} {QP:List PanicEntry→World→Prop} {w:World}
theorem op_appendL {α:Type} {t ty T n m:Nat} {z:Value} {agg:Bool} {enc:α→List Value} {v:Value} {l l':List α} {base:Nat} {k:Value→World→Prop}
 (ht:P.underlying t=some (.slice T)) (hT:TyInfo P T agg n m z) (hz:z.cells.size=n) (h0:0 < n) (hn:∀ x,(enc x).length=n) (h1:∀ x,x∈l'→∀ u∈enc x,u.oneCell'=true)
 (hown:OwnE w base T n enc v l) {b o c:Nat} (hc:∀ j x,l'[j]?=some x→ElemAt w b (o+j*n) (enc x)) (hbase:base≤w.heap.size) (hl':0 < l'.length) (hm:(l.length+l'.length)*m≤140737488355328) (hb:l.length+l'.length≤140737488355328)
 (hk:∀ g cap w',OwnE w' base T n enc (.slice (some ⟨g,0,none⟩) (l.length+l'.length) cap) (l++l')→w.grownBy w' v.ownBlock→(v.ownBlock=some g∨g=w.heap.size)→g < w'.heap.size→k (.slice (some ⟨g,0,none⟩) (l.length+l'.length) cap) w') :
 opV P (Builtin.append_ #[t,t] ty #[v,.slice (some ⟨b,o,none⟩) l'.length c]) QP w k:=by
 obtain ⟨⟨i,hi,hs,hby,hzz⟩,_⟩:=hT
 have hfl:(l'.flatMap enc).length=l'.length*n:=by
  clear hm hb hc h1 hk hl'
  induction l' with
  | nil=>simp
  | cons a l ih=>rw [List.flatMap_cons,List.length_append,hn,ih,List.length_cons,Nat.add_mul];omega
 have hcells:∀ j u,(l'.flatMap enc)[j]?=some u→w.cell? ((⟨b,o,none⟩:Addr).add j)=some u:=by
  intro j u hu
  have hj:j < l'.length*n:=by have:=(List.getElem?_eq_some_iff.1 hu).1;rwa [hfl] at this
  have hq:j / n < l'.length:=Nat.div_lt_of_lt_mul (by rw [Nat.mul_comm];exact hj)
  obtain ⟨x,hx⟩:=getElem?_lt hq
  have hjn:j % n < (enc x).length:=by rw [hn];exact Nat.mod_lt _ h0
  have hdm:j / n*n+j % n=j:=by rw [Nat.mul_comm];exact Nat.div_add_mod j n
  have hg:=flatMap_get hn l' (j / n) x (j % n) _ hx (List.getElem?_eq_getElem hjn)
  rw [hdm,hu] at hg
  injection hg with hg
  rw [Addr.add_lit]
  have:=hc _ _ hx (j % n) _ (List.getElem?_eq_getElem hjn)
  rw [hg,← this]
  congr 2;omega
 obtain ⟨g,cap,w',hr,ho,hg,hgl,hlt⟩:=run_append_lies (P:=P) (w:=w) t ty base T i z n m ht hi hzz hs hby hz h0 v l.length (l.flatMap enc) hown ⟨b,o,none⟩ l'.length c (l'.flatMap enc) hfl hcells
  (by intro u hu;obtain ⟨x,hx,hux⟩:=List.mem_flatMap.1 hu;exact h1 x hx u hux) hl' (by simp only [maxLen];omega) hm hbase _ rfl
 rw [opV_ok hr]
 refine hk g cap w' ?_ hg hgl hlt
 unfold OwnE
 rw [List.flatMap_append,List.length_append];exact ho
end
theorem OwnE.grown {α:Type} {w w':World} {lo n:Nat} {T:TypeId} {enc:α→List Value} {v:Value} {l:List α} {row:Option Nat} (h:OwnE w lo T n enc v l) (hg:w.grownBy w' row) (hne:∀ b,v.ownBlock=some b→row≠some b):OwnE w' lo T n enc v l:=by
 obtain ⟨h1,h2⟩:=h
 refine ⟨h1,?_⟩
 rcases h2 with h2 | ⟨g,cap,cur,hv,hb,hc,h3⟩
 · exact .inl h2
 · refine .inr ⟨g,cap,cur,hv,hb,?_,h3⟩
   rw [hg.block g (Array.getElem?_eq_some_iff.1 hc).1 (fun e=>hne g (by rw [hv];rfl) e.symm)]
   exact hc
end Go.Sw
namespace Go.Proofs.YtfdecdnmooaegaaGreatDoor
open Sw
open Go.RowKit (intOf Below)
def addS (o:List ByteArray) (s:ByteArray):List ByteArray:=if o.any (fun y=>decide (y=s)) then o else o++[s]
theorem dedup_snoc:∀ (l seen:List ByteArray) (s:ByteArray),dedupA seen (l++[s])=dedupA seen l++(if (seen++l).any (fun y=>decide (s=y)) then [] else [s])
 | [],seen,s=>by
  simp only [List.nil_append,dedupA,List.append_nil]
 | a::l,seen,s=>by
  simp only [List.cons_append,dedupA]
  rw [dedup_snoc l (seen++[a]) s]
  have:(seen++[a]++l)=seen++a::l:=by simp
  rw [this]
  split<;>simp
theorem mem_dedup:∀ (l seen:List ByteArray) (s:ByteArray),s∈dedupA seen l↔s∈l∧s ∉ seen
 | [],seen,s=>by simp [dedupA]
 | a::l,seen,s=>by
  simp only [dedupA]
  by_cases h:(seen.any fun y=>decide (a=y))=true
  · rw [if_pos h,mem_dedup l]
    have ha:a∈seen:=by obtain ⟨y,h1,h2⟩:=List.any_eq_true.1 h;simp at h2;subst h2;exact h1
    simp only [List.mem_append,List.mem_singleton,List.mem_cons,not_or]
    constructor
    · rintro ⟨h1,h2,h3⟩;exact ⟨.inr h1,h2⟩
    · rintro ⟨h1 | h1,h2⟩
      · subst h1;exact absurd ha h2
      · exact ⟨h1,h2,⟨fun (e:s=a)=>h2 (e ▸ ha),by simp⟩⟩
  · rw [if_neg h]
    have ha:a ∉ seen:=fun h2=>h (List.any_eq_true.2 ⟨a,h2,by simp⟩)
    simp only [List.mem_cons,mem_dedup l,List.mem_append,List.mem_singleton,not_or]
    by_cases e:s=a
    · subst e;simp [ha]
    · simp [e]
theorem dedup_fold (l:List ByteArray):dedupA [] l=l.foldl addS []:=by
 refine snoc_induct (motive:=fun l=>dedupA [] l=l.foldl addS []) rfl (fun l a ih=>?_) l
 rw [dedup_snoc,List.foldl_append,← ih,List.nil_append]
 show _=addS (dedupA [] l) a
 unfold addS
 have:((dedupA [] l).any fun y=>decide (y=a))=(l.any fun y=>decide (a=y)):=by
  rw [Bool.eq_iff_iff,List.any_eq_true,List.any_eq_true]
  constructor
  · rintro ⟨y,h1,h2⟩;simp at h2;subst h2;exact ⟨y,((mem_dedup l [] y).1 h1).1,by simp⟩
  · rintro ⟨y,h1,h2⟩;simp at h2;subst h2;exact ⟨a,(mem_dedup l [] a).2 ⟨h1,by simp⟩,by simp⟩
 rw [this]
 split<;>simp
theorem addS_len (o:List ByteArray) (s:ByteArray):o.length≤(addS o s).length∧(addS o s).length≤o.length+1:=by unfold addS;split<;>simp
theorem foldl_addS_len:∀ (l o:List ByteArray),(l.foldl addS o).length≤o.length+l.length
 | [],o=>by simp
 | s::l,o=>by
  have h1:=foldl_addS_len l (addS o s)
  have h2:=(addS_len o s).2
  simp only [List.foldl_cons,List.length_cons];omega
abbrev OwnS (w:World) (base:Nat) (v:Value) (l:List ByteArray):Prop:=OwnE w base 9 1 strEnc v l
theorem append_strL {w:World} {QP:List PanicEntry→World→Prop} {k:Value→World→Prop} {base:Nat} {v:Value} {l:List ByteArray} (s:ByteArray) {p:Nat} (hown:OwnS w base v l) (hp:w.heap[p]?=some (.cells #[.string s] 9 (0,0))) (hbase:base≤w.heap.size) (hl:l.length≤1048576)
 (hk:∀ v' w',OwnS w' base v' (l++[s])→w.grownBy w' v.ownBlock→(∀ b,v'.ownBlock=some b→v.ownBlock=some b∨b=w.heap.size)→k v' w') :
 opV Pg (Builtin.append_ #[80,80] 80 #[v,.slice (some ⟨p,0,none⟩) 1 1]) QP w k:=by
 have hby:=by9
 refine op_appendL (l':=[s]) Tryz.underlying80 ty9 rfl (by decide) (fun _=>rfl) (fun x _ u hu=>by simp at hu;subst hu;rfl) hown (fun j x hx=>?_) hbase (Nat.zero_lt_one) ?_ (by simp;omega) ?_
 · cases j with
   | zero =>
    simp at hx;subst hx
    intro j v hv
    rw [(cells_of_heap hp).1]
    simpa using hv
   | succ j=>simp at hx
 · simp only [List.length_cons,List.length_nil]
   exact Nat.le_trans (Nat.mul_le_mul (Nat.add_le_add_right hl 1) hby) (by decide)
 · intro g cap w' h1 h2 h3 h4
   refine hk _ w' h1 h2 (fun b hb=>?_)
   simp only [Value.ownBlock,Option.some.injEq] at hb
   subst hb
   exact h3
def Apart (v u:Value):Prop:=∀ b,v.ownBlock=some b→u.ownBlock≠some b
theorem OwnS.lt {w:World} {base:Nat} {v:Value} {l:List ByteArray} (h:OwnS w base v l):∀ b,v.ownBlock=some b→b < w.heap.size:=fun b hb=>(World.ownsRow.lt h b hb).2
theorem Apart.after {v u v':Value} {n:Nat} (h:Apart v u) (hu:∀ b,u.ownBlock=some b→b < n) (hv:∀ b,v'.ownBlock=some b→v.ownBlock=some b∨b=n):Apart v' u:=fun b hb e=>by
 rcases hv b hb with h1 | h1
 · exact h b h1 e
 · have:=hu b e;omega
def refsL (m:MsgD):List ByteArray:=dedupA [] (allRefs m.fields)
section
variable {W:World} {R:RT}
theorem rre_in2 {w:World} (e:Ext W w) (sv t6 t4:Value) (out L:List ByteArray) (hO:OwnS w W.heap.size sv out) (hL:OwnS w W.heap.size t6 L) (hA:Apart sv t6) (hlen:out.length+L.length≤1048576) (next1:Value→Value→World→Prop)
 (i:Nat) (hi:i < 9223372036854775807) (h4:t4 = .int .i64 (i:Int)) (hn:∀ sv' w',Ext W w'→OwnS w' W.heap.size sv' (L.foldl addS out)→next1 sv' (.int .i64 ((i+1:Nat):Int)) w') :
 loop2 (fun t3 t8 w next7=>n27c5 t3 t4 t6 t8 next1 next7 R w) sv (.int .i64 0) w:=by
 refine loop2_intro (fun a b w'=>∃ (k:Nat) (sv':Value),a=sv'∧b = .int .i64 k∧k≤L.length∧Ext W w'∧OwnS w' W.heap.size sv' ((L.take k).foldl addS out)∧OwnS w' W.heap.size t6 L∧Apart sv' t6) (fun _ b _=>L.length - (intOf b).toNat) ⟨0,sv,rfl,rfl,by omega,e,hO,hL,hA⟩ ?_
 rintro _ _ w1 ⟨k,sv',rfl,rfl,hk,e1,hO1,hL1,hA1⟩
 have hsl:=hL1.slice (E:=EStr) (fun _=>rfl) (fun _ _=>rfl)
 obtain ⟨A,c,h6,hlc,hcm,hlm,hel⟩:=SliceOf.open hsl
 unfold n27c5
 rcases drop_cases hk with ⟨x,hx,hd,hlt,hdec⟩ | ⟨hk,hd,hdec⟩
 · have hstep:(L.take (k+1)).foldl addS out=addS ((L.take k).foldl addS out) x:=by rw [take_snoc hx,List.foldl_append];rfl
   have hol:((L.take k).foldl addS out).length≤1048576:=by
    have:=foldl_addS_len (L.take k) out
    have h2:(L.take k).length≤L.length:=by rw [List.length_take];omega
    omega
   generalize ((L.take k).foldl addS out)=o1 at hO1 hstep hol
   obtain ⟨b6,o6,cs6,hA6,_,hE6,hcs6⟩:=hel k x hx
   subst h6 hA6
   subst hcs6
   simp (disch:=try exact DI) only [↓PR,QR,simprocAttr,hdec]
   refine loop2_intro (fun a b w'=>∃ (j:Nat),a = .bool ((o1.take j).any fun y=>decide (y=x))∧b = .int .i64 j∧j≤o1.length∧Ext w1 w') (fun _ b _=>o1.length - (intOf b).toNat) ⟨0,by simp,rfl,by omega,Ext.refl _⟩ ?_
   rintro _ _ w2 ⟨j,rfl,rfl,hj,e2⟩
   have hso:=hO1.slice (E:=EStr) (fun _=>rfl) (fun _ _=>rfl)
   obtain ⟨A3,c3,h3,hlc3,hcm3,hlm3,hel3⟩:=SliceOf.open hso
   unfold n27c4
   rcases drop_cases hj with ⟨y,hy,hdj,hltj,hdecj⟩ | ⟨hj,hdj,hdecj⟩
   · obtain ⟨b3,o3,cs3,hA3,_,hE3,hcs3⟩:=hel3 j y hy
     subst h3 hA3
     subst hcs3
     have hany:((o1.take (j+1)).any fun y=>decide (y=x))=(((o1.take j).any fun y=>decide (y=x))||decide (y=x)):=by rw [take_snoc hy,List.any_append];simp
     simp (disch:=try exact DI) only [↓PR,QR,simprocAttr,hdecj]
     refine drawK_intro ?_
     unfold n27c1
     generalize hsn:((o1.take j).any fun y=>decide (y=x))=sn at hany
     cases sn with
     | true =>
      simp (disch:=try exact DI) only [↓PR,QR,simprocAttr]
      refine ⟨⟨j+1,?_,rfl,by omega,ee⟩,meas_lt (kd := .i64) hltj⟩
      rw [hany];rfl
     | false =>
      simp (disch:=try exact DI) only [↓PR,QR,simprocAttr,hE3.c1 e2,hE6.c1 e2]
      refine ⟨⟨j+1,?_,rfl,by omega,ee⟩,meas_lt (kd := .i64) hltj⟩
      rw [hany];rfl
   · subst hj
     rw [List.take_length]
     have hadd:addS o1 x=if (o1.any fun y=>decide (y=x))=true then o1 else o1++[x]:=rfl
     rw [hadd] at hstep
     subst h3
     simp (disch:=try exact DI) only [↓PR,QR,simprocAttr,hdecj]
     unfold n27c3
     generalize (o1.any fun y=>decide (y=x))=sn at hstep
     cases sn with
     | true =>
      rw [if_pos rfl] at hstep
      simp (disch:=try exact DI) only [↓PR,QR,simprocAttr]
      exact ⟨⟨k+1,_,rfl,rfl,by omega,e1.trans e2,by rw [hstep];exact hO1.ext e2,hL1.ext e2,hA1⟩,meas_lt (kd := .i64) hlt⟩
     | false =>
      rw [if_neg (by simp)] at hstep
      simp (disch:=try exact DI) only [↓PR,QR,simprocAttr,n27c2,hE6.c1 e2]
      have ea:Ext w1 (w2.alloc (Obj.cells #[.string x] 9)):=e2.alloc _
      have hsz:(w2.alloc (Obj.cells #[.string x] 9)).heap.size=w2.heap.size+1:=by simp only [World.size_alloc]
      have s1:=e1.size
      have s2:=e2.size
      refine append_strL x (hO1.ext ea) (heap_new w2 _ _) (by omega) hol ?_
      intro v' w' hO' hg hv'
      have ew:Ext W w':=(e1.trans ea).grown hg (fun b hb=>(World.ownsRow.lt hO1 b hb).1)
      simp (disch:=try exact DI) only [↓PR,QR,simprocAttr]
      refine ⟨⟨k+1,v',rfl,rfl,by omega,ew,by rw [hstep];exact hO',(hL1.ext ea).grown hg (fun b hb e=>hA1 b e hb),hA1.after (fun b hb=>?_) hv'⟩,meas_lt (kd := .i64) hlt⟩
      have:=hL1.lt b hb
      omega
 · subst hk
   rw [List.take_length] at hO1
   subst h6
   rw [h4]
   simp (disch:=try exact DI) only [↓PR,QR,simprocAttr,hdec]
   exact hn _ w1 e1 hO1
theorem rre_c8 {w:World} (e:Ext W w) (x:FieldD) (tv cv:Value) (p5:Nat) (o5:w.heap[p5]?=some (.cells (fieldCells x tv cv).toArray 71 (0,0))) (hC:CasesOf W cv x.cases) (sv t6 t4:Value) (out:List ByteArray) (hO:OwnS w W.heap.size sv out) (hlen:out.length+(refsF x).length≤1048576)
 (h6:(x.kind≠9∧OwnS w W.heap.size t6 (refsF x)∧Apart sv t6)∨(x.kind=9∧t6 = .slice none 0 0)) (next1:Value→Value→World→Prop) (i:Nat) (hi:i < 9223372036854775807) (h4:t4 = .int .i64 (i:Int))
 (hn:∀ sv' w',Ext W w'→OwnS w' W.heap.size sv' ((refsF x).foldl addS out)→next1 sv' (.int .i64 ((i+1:Nat):Int)) w') :
 loop2 (fun t6 t7 w next5=>n27c8 sv t4 (.pointer (some ⟨p5,0,none⟩)) t6 t7 next1 next5 R w) t6 (.int .i64 0) w:=by
 rcases h6 with ⟨hk,hL,hA⟩ | ⟨hk,rfl⟩
 · refine loop2_intro (fun a b w'=>a=t6∧b = .int .i64 0∧w'=w) (fun _ _ _=>0) ⟨rfl,rfl,rfl⟩ ?_
   rintro _ _ _ ⟨rfl,rfl,rfl⟩
   unfold n27c8
   have k9:(x.kind == 9)=false:=by simpa using hk
   simp (disch:=try exact DI) only [↓PR,QR,simprocAttr,(cells_of_heap o5).1,k9,n27c7]
   exact rre_in2 e sv _ t4 out (refsF x) hO hL hA hlen next1 i hi h4 hn
 · have hr:refsF x=x.cases.map (·.of):=by unfold refsF;rw [if_neg (by omega),if_pos hk]
   have k9:(x.kind == 9)=true:=by simpa using hk
   obtain ⟨A,c,rfl,hlc,hcm,hlm,hel⟩:=SliceOf.open hC
   have l5:p5 < w.heap.size:=(Array.getElem?_eq_some_iff.1 o5).1
   rw [hr] at hlen hn
   simp only [List.length_map] at hlen
   refine loop2_intro (fun a b w'=>∃ (k:Nat) (u:Value),a=u∧b = .int .i64 k∧k≤x.cases.length∧Ext W w'∧w'.heap[p5]?=some (.cells (fieldCells x tv (.slice A x.cases.length c)).toArray 71 (0,0))∧OwnS w' w.heap.size u ((x.cases.take k).map (·.of))∧OwnS w' W.heap.size sv out∧w.heap.size≤w'.heap.size) (fun _ b _=>x.cases.length - (intOf b).toNat) ⟨0,_,rfl,rfl,by omega,e,o5,OwnE.nil _ _ _ _ _,hO,Nat.le_refl _⟩ ?_
   rintro u _ w1 ⟨k,_,rfl,rfl,hk1,e1,y5,hU,hO1,hs1⟩
   have hAp:Apart sv u:=fun b hb e=>by
    have h1:=hO.lt b hb
    have h2:=(World.ownsRow.lt hU b e).1
    omega
   unfold n27c8
   rcases drop_cases hk1 with ⟨y,hy,hd,hlt,hdec⟩ | ⟨hk1,hd,hdec⟩
   · obtain ⟨b,o,cs,rfl,hl,hA,rfl⟩:=hel k y hy
     simp (disch:=try exact DI) only [↓PR,QR,simprocAttr,(cells_of_heap y5).1,k9,hdec,n27c7]
     unfold n27c6
     simp (disch:=try exact DI) only [↓PR,QR,simprocAttr,(cells_of_heap y5).1,hA.c3 e1]
     have ea:Ext w1 (w1.alloc (Obj.cells #[.string y.of] 9)):=ee
     have hsz:(w1.alloc (Obj.cells #[.string y.of] 9)).heap.size=w1.heap.size+1:=by simp only [World.size_alloc]
     have sW:=e.size
     refine append_strL y.of (hU.ext ea) (heap_new w1 _ _) (by omega) (by rw [List.length_map,List.length_take];omega) ?_
     intro v' w' hO' hg hv'
     have ew:Ext W w':=(e1.trans ea).grown hg (fun b hb=>by have:=(World.ownsRow.lt hU b hb).1;omega)
     have hsw:=hg.size
     simp (disch:=try exact DI) only [↓PR,QR,simprocAttr]
     refine ⟨⟨k+1,v',rfl,rfl,by omega,ew,?_,?_,(hO1.ext ea).grown hg (fun b hb e=>hAp b hb e),by omega⟩,meas_lt (kd := .i64) hlt⟩
     · rw [hg.block p5 (by omega) (fun e=>by have:=(World.ownsRow.lt hU p5 e.symm).1;omega)]
       exact ea.obj y5
     · rw [take_snoc hy,List.map_append];exact hO'
   · subst hk1
     rw [List.take_length] at hU
     simp (disch:=try exact DI) only [↓PR,QR,simprocAttr,(cells_of_heap y5).1,k9,hdec,n27c7]
     exact rre_in2 e1 sv _ t4 out (x.cases.map (·.of)) hO1 (OwnE.base hU e.size) hAp (by simpa using hlen) next1 i hi h4 hn
theorem rRefers_ret (w0:World) (v:Value) (m:MsgD) (hm:MsgVal w0 v m) (hb:(allRefs m.fields).length≤1048576) :
 Ret Pg 63 #[v] w0 fun r w'=>OwnS w' w0.heap.size r (refsL m)∧Ext w0 w':=by
 obtain ⟨fv,rfl,hF⟩:=hm
 obtain ⟨A,c,rfl,hlc,hcm,hlm,hel⟩:=SliceOf.open hF
 refine n27s (R:=retR _) ?_;unfold n27
 simp (disch:=try exact DI) only [↓PR,QR,simprocAttr]
 have hBW:=ElemAt.new (w:=w0) (msgCells m (.slice A m.fields.length c)) (53)
 have eW:Ext w0 (w0.alloc (Obj.cells (List.toArray (msgCells m (.slice A m.fields.length c))) (53))):=(Ext.refl _).alloc _
 generalize (w0.alloc (Obj.cells (List.toArray (msgCells m (.slice A m.fields.length c))) (53)))=W at hBW eW ⊢
 have hW:w0.heap.size≤W.heap.size:=eW.size
 refine loop2_intro (fun a b w'=>∃ (k:Nat) (sv:Value),a=sv∧b = .int .i64 k∧k≤m.fields.length∧Ext W w'∧OwnS w' W.heap.size sv (dedupA [] (allRefs (m.fields.take k)))) (fun _ b _=>m.fields.length - (intOf b).toNat) ⟨0,_,rfl,rfl,by omega,Ext.refl _,OwnE.nil _ _ _ _ _⟩ ?_
 rintro sv _ w1 ⟨k,_,rfl,rfl,hk,e,hO⟩
 have e':=eW.trans e
 have s1:=e.size
 unfold n27c13
 rcases drop_cases hk with ⟨x,hx,hd,hlt,hdec⟩ | ⟨hk,hd,hdec⟩
 · obtain ⟨b,o,cs,rfl,hl,hA,hE⟩:=hel k x hx
   obtain ⟨tv,cv,rfl,hT,hC,ht1,hc1⟩:=hE.op
   have hpre:allRefs (m.fields.take (k+1))=allRefs (m.fields.take k)++refsF x:=by unfold allRefs;rw [take_snoc hx,List.flatMap_append];simp
   have hle:(allRefs (m.fields.take k)).length+(refsF x).length≤1048576:=by
    have h1:(allRefs (m.fields.take (k+1))).length≤(allRefs m.fields).length:=by
     conv=>rhs;rw [← List.take_append_drop (k+1) m.fields]
     unfold allRefs
     rw [List.flatMap_append,List.length_append];omega
    rw [hpre,List.length_append] at h1;omega
   have hout:(dedupA [] (allRefs (m.fields.take k))).length≤(allRefs (m.fields.take k)).length:=by
    rw [dedup_fold];have:=foldl_addS_len (allRefs (m.fields.take k)) [];simpa using this
   have hle':(dedupA [] (allRefs (m.fields.take k))).length+(refsF x).length≤1048576:=by omega
   have hnext:dedupA [] (allRefs (m.fields.take (k+1)))=(refsF x).foldl addS (dedupA [] (allRefs (m.fields.take k))):=by rw [hpre,dedup_fold,dedup_fold,List.foldl_append]
   simp (disch:=try exact DI) only [↓PR,QR,simprocAttr,hdec,hBW.c2]
   unfold n27c12
   simp (disch:=try exact DI) only [↓PR,QR,simprocAttr,hBW.c2,hA.c15 e']
   have ea:Ext w1 (w1.alloc (Obj.cells (fieldCells x tv cv).toArray 71)):=ee
   have o5:=heap_new w1 (fieldCells x tv cv).toArray 71
   have hO2:=hO.ext ea
   have ew:=e.trans ea
   have hbn:∀ sv' w',Ext W w'→OwnS w' W.heap.size sv' ((refsF x).foldl addS (dedupA [] (allRefs (m.fields.take k))))→(∃ (k':Nat) (sv:Value),sv'=sv∧(Value.int .i64 ((k+1:Nat):Int)) = .int .i64 k'∧k'≤m.fields.length∧Ext W w'∧OwnS w' W.heap.size sv (dedupA [] (allRefs (m.fields.take k'))))∧m.fields.length - (intOf (Value.int .i64 ((k+1:Nat):Int))).toNat < m.fields.length - (intOf (Value.int .i64 (k:Int))).toNat :=
    fun sv' w' ew h=>⟨⟨k+1,sv',rfl,rfl,by omega,ew,by rw [hnext];exact h⟩,meas_lt (kd := .i64) hlt⟩
   have hCW:=CasesOf.ext hC eW
   have lo:∀ b,sv.ownBlock=some b→b < w1.heap.size:=fun b hb=>hO.lt b hb
   generalize hw2:(w1.alloc (Obj.cells (fieldCells x tv cv).toArray 71))=w2 at ea o5 hO2 ew
   have hs2:w2.heap.size=w1.heap.size+1:=by rw [← hw2];simp only [World.size_alloc]
   by_cases hr:x.kind=7∨x.kind=8∨x.kind=12
   · have hrf:refsF x=[x.of]:=by unfold refsF;rw [if_pos hr]
     have tail:joinK (fun (t6:Value) (w:World)=>loop2 (fun t6 t7 w next5=>n27c8 sv (.int .i64 (k:Int)) (.pointer (some ⟨w1.heap.size,0,none⟩)) t6 t7 (fun a0' a1' w'=>(∃ (k':Nat) (sv:Value),a0'=sv∧a1' = .int .i64 k'∧k'≤m.fields.length∧Ext W w'∧OwnS w' W.heap.size sv (dedupA [] (allRefs (m.fields.take k'))))∧m.fields.length - (intOf a1').toNat < m.fields.length - (intOf (Value.int .i64 (k:Int))).toNat) next5 (retR fun r w'=>OwnS w' w0.heap.size r (refsL m)∧Ext w0 w') w) t6 (.int .i64 0) w) fun K4=>n27c9 (.pointer (some ⟨w1.heap.size,0,none⟩)) K4 (retR fun r w'=>OwnS w' w0.heap.size r (refsL m)∧Ext w0 w') w2:=by
      rw [joinK_eq]
      unfold n27c9
      simp (disch:=try exact DI) only [↓PR,QR,simprocAttr,(cells_of_heap o5).1]
      have eb:Ext w2 (w2.alloc (Obj.cells #[.string x.of] 9)):=ee
      have hsb:(w2.alloc (Obj.cells #[.string x.of] 9)).heap.size=w2.heap.size+1:=by simp only [World.size_alloc]
      refine append_strL x.of (OwnE.nil _ W.heap.size _ _ _) (heap_new w2 _ _) (by omega) (by decide) ?_
      intro v' w' hO' hg hv'
      have eg:Ext w1 w':=(ea.trans eb).grown hg (fun b hb=>by cases hb)
      refine rre_c8 (e.trans eg) x tv cv w1.heap.size ?_ hCW sv v' _ _ (hO.ext eg) hle' (.inl ⟨by omega,by rw [hrf];exact hO',fun b hb e=>?_⟩) _ k (by omega) rfl hbn
      · exact (Ext.grown (Ext.refl _) hg (fun b hb=>by cases hb)).obj (eb.obj o5)
      · rcases hv' b e with h1 | h1
        · cases h1
        · have:=lo b hb;omega
     rw [joinK_eq] at tail
     rcases hr with h7 | h8 | h12
     · have k7:(x.kind == 7)=true:=by simpa using h7
       simp (disch:=try exact DI) only [↓PR,QR,simprocAttr,k7,n27c11,n27c10]
       exact tail
     · have k7:(x.kind == 7)=false:=by simp;omega
       have k8:(x.kind == 8)=true:=by simpa using h8
       simp (disch:=try exact DI) only [↓PR,QR,simprocAttr,k7,k8,n27c11,n27c10,(cells_of_heap o5).1]
       exact tail
     · have k7:(x.kind == 7)=false:=by simp;omega
       have k8:(x.kind == 8)=false:=by simp;omega
       have k12:(x.kind == 12)=true:=by simpa using h12
       simp (disch:=try exact DI) only [↓PR,QR,simprocAttr,k7,k8,k12,n27c11,n27c10,(cells_of_heap o5).1]
       exact tail
   · have k7:(x.kind == 7)=false:=by simp;omega
     have k8:(x.kind == 8)=false:=by simp;omega
     have k12:(x.kind == 12)=false:=by simp;omega
     simp (disch:=try exact DI) only [↓PR,QR,simprocAttr,k7,k8,k12,n27c11,n27c10,(cells_of_heap o5).1]
     refine rre_c8 ew x tv cv w1.heap.size o5 hCW sv _ _ _ hO2 hle' ?_ _ k (by omega) rfl hbn
     by_cases h9:x.kind=9
     · exact .inr ⟨h9,rfl⟩
     · have hrf:refsF x=[]:=by unfold refsF;rw [if_neg hr,if_neg h9]
       exact .inl ⟨h9,by rw [hrf];exact OwnE.nil _ _ _ _ _,fun b _ e=>by cases e⟩
 · subst hk
   rw [List.take_length] at hO
   simp (disch:=try exact DI) only [↓PR,QR,simprocAttr,hdec,hBW.c2]
   exact ⟨OwnE.base hO hW,ee⟩
end
end Go.Proofs.YtfdecdnmooaegaaGreatDoor
namespace Go.Proofs.YtfdecdnmooaegaaGreatDoor
open Sw
open Go.RowKit (intOf Below)
def FineF (deps:List (ByteArray×Int)) (strs:List (ByteArray×Bool)) (l:List FieldD):Prop:=∀ (j:Nat) (f:FieldD),l[j]?=some f→examineC (l.take j) (vI deps) (vB strs) f=0
theorem withinQ {hi lo n:Int} {l:List Int} (h:withinC hi lo (n::l)=0):lo≤n∧n≤hi∧withinC hi n l=0:=by
 rw [withinC,orC_iff,needC_iff (by decide)] at h
 simp only [Bool.and_eq_true,decide_eq_true_eq] at h
 exact ⟨h.1.1,h.1.2,h.2⟩
theorem top_in {f:FieldD} (h:bitsB f=true):topF f≤34359738367:=by
 unfold bitsB at h
 simp only [Bool.and_eq_true,decide_eq_true_eq] at h
 obtain ⟨⟨h1,h2⟩,_⟩:=h
 unfold topF
 obtain ⟨n,hn⟩:∃ n:Nat,f.bits=n:=⟨f.bits.toNat,by omega⟩
 rw [hn,Int.toNat_natCast]
 have hn:n≤32:=by omega
 have key:∀ n:Nat,n≤32→(2:Int) ^ n - 1≤34359738367:=by decide
 exact key n hn
theorem exam_check {bef:List FieldD} {deps strs:List (ByteArray×Value)} {f:FieldD} (h:examineC bef deps strs f=0):checkC bef deps strs f=0:=by
 unfold examineC at h
 rw [orC_iff,orC_iff,orC_iff,orC_iff] at h
 exact h.2.2.2.2
theorem num_in {deps:List (ByteArray×Int)} {strs:List (ByteArray×Bool)} {l:List FieldD} (hF:FineF deps strs l) {g:FieldD} (hg:g∈l) (hn:numberB g=true):0≤g.low∧highOf g≤34359738367:=by
 obtain ⟨j,hj⟩:=List.getElem?_of_mem hg
 have h:=exam_check (hF j g hj)
 unfold checkC at h
 by_cases h1:g.kind=1
 · rw [if_pos h1,orC_iff,needC_iff (by decide)] at h
   have a:=withinQ h.2
   have b:=withinQ a.2.2
   have c:=top_in h.1
   have:highOf g=g.high:=by unfold highOf;rw [h1];rfl
   omega
 · rw [if_neg h1] at h
   by_cases h2:g.kind=2
   · rw [if_pos h2,orC_iff,needC_iff (by decide)] at h
     have a:=withinQ h.2
     have c:=top_in h.1
     have:highOf g=g.low:=by unfold highOf;rw [h2];rfl
     omega
   · rw [if_neg h2] at h
     have h3:g.kind=3:=by
      unfold numberB at hn
      simp [h1,h2] at hn
      exact hn
     rw [if_pos h3] at h
     have a:=withinQ h
     have b:=withinQ a.2.2
     have:highOf g=g.high:=by unfold highOf;rw [h3];rfl
     omega
theorem casesL_in {hi:Int} {deps:List (ByteArray×Value)} (hh:hi≤34359738367):∀ (l:List CaseD) (lo:Int),0≤lo→casesL hi deps lo l=0→∀ c∈l,0≤c.low∧c.low≤c.high∧c.high≤34359738367
 | [],_,_,_,c,hc=>by cases hc
 | a::l,lo,hl,h,c,hc=>by
  rw [casesL,orC_iff,orC_iff] at h
  have h1:=withinQ h.1
  have h2:=withinQ h1.2.2
  rcases List.mem_cons.1 hc with rfl | hc
  · omega
  · refine casesL_in hh l _ ?_ h.2.2 c hc
    rw [wrap_ok (by omega) (by omega)]
    omega
theorem case_in {l:List MsgD} (hf:Fine l) {i:Nat} {m:MsgD} (hm:l[i]?=some m) {f:FieldD} (hfm:f∈m.fields) (h9:f.kind=9):∀ c∈f.cases,0≤c.low∧c.low≤c.high∧c.high≤34359738367:=by
 obtain ⟨_,_,h3,h4,_⟩:=next_parts (hf.next hm)
 have hF:FineF (depsOf (l.take i)) (strsOf (l.take i)) m.fields:=fun j f hj=>by simpa using fields_all _ _ h4 j f hj
 obtain ⟨j,hj⟩:=List.getElem?_of_mem hfm
 have h:=exam_check (hF j f hj)
 unfold checkC at h
 rw [h9] at h
 simp only [Int.reduceEq,if_false,if_true] at h
 unfold casesC at h
 rw [orC_iff,orC_iff,needC_iff (by decide)] at h
 simp only [Bool.and_eq_true] at h
 obtain ⟨⟨ht,_⟩,_,hc⟩:=h
 cases hl:lastR (numR (m.fields.take j)) f.tag with
 | none=>rw [hl] at ht;cases ht
 | some q =>
  rw [hl] at hc
  obtain ⟨g,hg,hn,_,rfl⟩:=mem_numR.1 (lastP_mem hl)
  have:=num_in hF (List.mem_of_mem_take hg) hn
  exact casesL_in this.2 _ _ this.1 hc
def decB (n:Int):ByteArray:=⟨(Go.Lib.itoa n).toArray⟩
def joinW (sep:ByteArray) (xs:List ByteArray):ByteArray:=⟨(Go.Lib.join (xs.map (·.data.toList)) sep.data.toList).toArray⟩
theorem joinW_nil (sep:ByteArray):joinW sep []=ByteArray.empty:=rfl
theorem size_append (a b:ByteArray):(a++b).size=a.size+b.size:=by simp [ByteArray.size_append]
theorem lens_le {B:Nat}:∀ {xs:List (List UInt8)},(∀ x∈xs,x.length≤B)→Go.Lib.lens xs≤xs.length*B
 | [],_=>by simp [Go.Lib.lens]
 | a::l,h=>by
  have h1:=h a (List.mem_cons_self ..)
  have h2:=lens_le (xs:=l) fun x hx=>h x (List.mem_cons_of_mem _ hx)
  unfold Go.Lib.lens at *
  rw [List.map_cons,List.sum_cons,List.length_cons,Nat.add_mul]
  omega
theorem joinW_size {sep:ByteArray} {B:Nat} {xs:List ByteArray} (h:∀ x∈xs,x.size≤B):(joinW sep xs).size≤xs.length*(B+sep.size):=by
 cases xs with
 | nil=>simp [joinW_nil]
 | cons a l =>
  have h1:(joinW sep (a::l)).size=(Go.Lib.join ((a::l).map (·.data.toList)) sep.data.toList).length:=by unfold joinW ByteArray.size;simp
  have h2:=lens_le (B:=B) (xs:=(a::l).map (·.data.toList)) fun x hx=>by
   obtain ⟨y,hy,rfl⟩:=List.mem_map.1 hx
   have:=h y hy
   unfold ByteArray.size at this
   simpa using this
  rw [List.map_cons] at h1 h2
  rw [h1,Go.Lib.join_length]
  rw [List.length_cons,List.length_map] at h2
  have h3:sep.data.toList.length=sep.size:=by unfold ByteArray.size;simp
  rw [h3,List.length_map,List.length_cons,Nat.mul_add,Nat.mul_comm sep.size,Nat.add_mul l.length 1 sep.size]
  omega
def opNames:List ByteArray:=[⟨#[]⟩,⟨#[99,97,108,108]⟩,⟨#[115,116,111,112]⟩,⟨#[101,110,116,101,114]⟩,⟨#[114,101,97,100]⟩,⟨#[111,110,101]⟩,⟨#[109,97,110,121]⟩,⟨#[115,101,108,101,99,116]⟩,⟨#[99,97,115,101]⟩,⟨#[118,105,101,119]⟩,⟨#[114,101,116,117,114,110]⟩]
def opN (c:Int):ByteArray:=(opNames[c.toNat]?).getD ⟨#[]⟩
structure OkX (d:DefD) (x:InsD):Prop where
 code:1≤x.code∧x.code≤10
 msg:(x.msg = -1∧x.code≠8)∨∃ (i:Nat) (m:MsgD),x.msg=i∧d.msgs[i]?=some m∧((x.field = -1∧x.code≠8)∨∃ (k:Nat) (f:FieldD),x.field=k∧m.fields[k]?=some f∧(x.code≠8∨∃ (j:Nat) (c:CaseD),x.cas=j∧f.cases[j]?=some c∧0≤c.low∧c.low≤c.high∧c.high≤34359738367))
 reg : -1≤x.reg∧x.reg≤100000
 to : -1≤x.to∧x.to≤100000
def caseB (c:CaseD):ByteArray:=decB c.low++⟨#[45]⟩++decB c.high
def nameX (d:DefD) (x:InsD):ByteArray:=match d.msgs[x.msg.toNat]? with
 | some m=>if x.field < 0 then m.name else match m.fields[x.field.toNat]? with
  | some f=>if x.code=8 then (match f.cases[x.cas.toNat]? with
   | some c=>caseB c
   | none=>⟨#[]⟩) else m.name++(⟨#[46]⟩++f.name)
  | none=>⟨#[]⟩
 | none=>⟨#[]⟩
def words1 (i:Int) (x:InsD):List ByteArray:=[decB i,opN x.code]
def words2 (d:DefD) (i:Int) (x:InsD):List ByteArray:=if 0≤x.msg then words1 i x++[nameX d x] else words1 i x
def words3 (d:DefD) (i:Int) (x:InsD):List ByteArray:=if 0≤x.reg then words2 d i x++[⟨#[114]⟩++decB x.reg] else words2 d i x
def words4 (d:DefD) (i:Int) (x:InsD):List ByteArray:=if 0≤x.to then words3 d i x++[decB x.to] else words3 d i x
def lineB (d:DefD) (i:Int) (x:InsD):ByteArray:=joinW ⟨#[32]⟩ (words4 d i x)
def linesN (d:DefD) (l:List InsD):Nat→List ByteArray
 | 0=>[]
 | k+1=>linesN d l k++(match l[k]? with
  | some x=>[lineB d k x]
  | none=>[])
def textN (d:DefD) (l:List InsD) (k:Nat):ByteArray:=joinW ⟨#[10]⟩ (linesN d l k)
def Names100 (d:DefD):Prop:=∀ m∈d.msgs,m.name.size≤100∧∀ f∈m.fields,f.name.size≤100
theorem decB_size {n:Int} (h0 : -9223372036854775808≤n) (h1:n≤9223372036854775807):(decB n).size≤21:=by
 have:=Go.Lib.itoa_length_le n h0 h1
 unfold decB ByteArray.size
 simpa using this
theorem opN_size (c:Int):(opN c).size≤6:=by
 unfold opN
 rcases Nat.lt_or_ge c.toNat 11 with h | h
 · have:∀ n,n < 11→((opNames[n]?).getD ⟨#[]⟩).size≤6:=by decide
   exact this _ h
 · rw [List.getElem?_eq_none (by simpa [opNames] using h)]
   decide
theorem nameX_size {d:DefD} (hN:Names100 d) {x:InsD} (hx:OkX d x):(nameX d x).size≤201:=by
 unfold nameX
 cases hm:d.msgs[x.msg.toNat]? with
 | none=>exact (by decide:(⟨#[]⟩:ByteArray).size≤201)
 | some m =>
  have h1:=hN m (List.mem_of_getElem? hm)
  simp only
  split
  · omega
  · cases hf:m.fields[x.field.toNat]? with
    | none=>exact (by decide:(⟨#[]⟩:ByteArray).size≤201)
    | some f =>
     have h2:=h1.2 f (List.mem_of_getElem? hf)
     simp only
     split
     · rename_i hfd h8
       rcases hx.msg with ⟨_,h⟩ | ⟨i,m',hi,hm',h⟩
       · exact absurd h8 h
       · rcases h with ⟨_,h⟩ | ⟨k,f',hk,hf',h⟩
         · exact absurd h8 h
         · rcases h with h | ⟨j,c,hj,hc,h3,h4,h5⟩
           · exact absurd h8 h
           · rw [hi,Int.toNat_natCast,hm'] at hm
             injection hm with hm
             subst hm
             rw [hk,Int.toNat_natCast,hf'] at hf
             injection hf with hf
             subst hf
             rw [hj,Int.toNat_natCast,hc]
             simp only
             unfold caseB
             rw [size_append,size_append]
             have a:=decB_size (n:=c.low) (by omega) (by omega)
             have b:=decB_size (n:=c.high) (by omega) (by omega)
             have:(⟨#[45]⟩:ByteArray).size=1:=rfl
             omega
     · rw [size_append,size_append]
       have:(⟨#[46]⟩:ByteArray).size=1:=rfl
       omega
theorem words_size {d:DefD} (hN:Names100 d) {i:Int} (hi:0≤i∧i≤100000) {x:InsD} (hx:OkX d x):(∀ s∈words4 d i x,s.size≤201)∧(words4 d i x).length≤5∧(words3 d i x).length≤4∧(words2 d i x).length≤3:=by
 have h1:∀ s∈words1 i x,s.size≤201:=by
  intro s hs
  simp only [words1,List.mem_cons,List.not_mem_nil,or_false] at hs
  rcases hs with rfl | rfl
  · have:=decB_size (n:=i) (by omega) (by omega);omega
  · have:=opN_size x.code;omega
 have h2:(∀ s∈words2 d i x,s.size≤201)∧(words2 d i x).length≤3:=by
  unfold words2
  split
  · refine ⟨fun s hs=>?_,by simp [words1]⟩
    rcases List.mem_append.1 hs with hs | hs
    · exact h1 s hs
    · simp only [List.mem_singleton] at hs;subst hs;exact nameX_size hN hx
  · exact ⟨h1,by simp [words1]⟩
 have h3:(∀ s∈words3 d i x,s.size≤201)∧(words3 d i x).length≤4:=by
  unfold words3
  split
  · refine ⟨fun s hs=>?_,by simp;omega⟩
    rcases List.mem_append.1 hs with hs | hs
    · exact h2.1 s hs
    · simp only [List.mem_singleton] at hs;subst hs
      rw [size_append]
      have:=decB_size (n:=x.reg) (by have:=hx.reg;omega) (by have:=hx.reg;omega)
      have:(⟨#[114]⟩:ByteArray).size=1:=rfl
      omega
  · exact ⟨h2.1,by omega⟩
 refine ⟨?_,?_,h3.2,h2.2⟩
 · unfold words4
   split
   · intro s hs
     rcases List.mem_append.1 hs with hs | hs
     · exact h3.1 s hs
     · simp only [List.mem_singleton] at hs;subst hs
       have:=decB_size (n:=x.to) (by have:=hx.to;omega) (by have:=hx.to;omega)
       omega
   · exact h3.1
 · unfold words4
   split
   · simp;omega
   · omega
theorem line_size {d:DefD} (hN:Names100 d) {i:Int} (hi:0≤i∧i≤100000) {x:InsD} (hx:OkX d x):(lineB d i x).size≤1010:=by
 obtain ⟨h1,h2,_⟩:=words_size hN hi hx
 have:=joinW_size (sep:=⟨#[32]⟩) h1
 have h3:(⟨#[32]⟩:ByteArray).size=1:=rfl
 rw [h3] at this
 have:=Nat.mul_le_mul_right (201+1) h2
 unfold lineB
 omega
theorem linesN_len {d:DefD} {l:List InsD}:∀ {k:Nat},k≤l.length→(linesN d l k).length=k
 | 0,_=>rfl
 | k+1,h=>by
  obtain ⟨x,hx⟩:=getElem?_lt (show k < l.length by omega)
  unfold linesN
  rw [hx,List.length_append,linesN_len (by omega)]
  rfl
theorem linesN_succ {d:DefD} {l:List InsD} {k:Nat} {x:InsD} (hx:l[k]?=some x):linesN d l (k+1)=linesN d l k++[lineB d k x]:=by
 show linesN d l k++_=_
 rw [hx]
theorem linesN_size {d:DefD} (hN:Names100 d) {l:List InsD} (hx:∀ x∈l,OkX d x):∀ {k:Nat},k≤l.length→k≤100000→∀ s∈linesN d l k,s.size≤1010
 | 0,_,_,s,hs=>by cases hs
 | k+1,h,hk,s,hs=>by
  obtain ⟨x,hx'⟩:=getElem?_lt (show k < l.length by omega)
  rw [linesN_succ hx'] at hs
  rcases List.mem_append.1 hs with hs | hs
  · exact linesN_size hN hx (by omega) (by omega) s hs
  · simp only [List.mem_singleton] at hs
    subst hs
    exact line_size hN (by omega) (hx x (List.mem_of_getElem? hx'))
theorem textN_size {d:DefD} (hN:Names100 d) {l:List InsD} (hx:∀ x∈l,OkX d x) {k:Nat} (hk:k≤l.length) (hl:k≤100000):(textN d l k).size≤101100000:=by
 have:=joinW_size (sep:=⟨#[10]⟩) (linesN_size hN hx hk hl)
 rw [linesN_len hk] at this
 have h3:(⟨#[10]⟩:ByteArray).size=1:=rfl
 rw [h3] at this
 have:=Nat.mul_le_mul_right (1010+1) hl
 unfold textN
 omega
theorem idx_low {α:Type} (p:α→Bool) (l:List α):(idx p l).toNat≤l.length:=by
 unfold idx
 cases h:l.findIdx? p with
 | none=>simp
 | some i =>
  have:=(List.findIdx?_eq_some_iff_getElem.1 h).1
  simp
  omega
theorem toR_in (l:List MsgD) (r:Nat→Bool) (s:ByteArray):2≤toR l r s∧toR l r s≤routN l r l.length:=by
 unfold toR
 have h1:=routN_mono l r (idx_low (fun m=>decide (m.name=s)) l)
 have h2:=routN_mono l r (Nat.zero_le (idx (fun m=>decide (m.name=s)) l).toNat)
 have h3:routN l r 0=2:=rfl
 omega
theorem casI_mem {rt:ByteArray→Int} {i k:Int} {l:List CaseD} {x:InsD}:∀ {n:Nat},x∈casI rt i k l n→∃ (j:Nat) (c:CaseD),l[j]?=some c∧x=⟨8,i,k,-1,j,rt c.of⟩
 | 0,h=>by cases h
 | n+1,h=>by
  unfold casI at h
  rcases List.mem_append.1 h with h | h
  · exact casI_mem h
  · cases hc:l[n]? with
    | none=>rw [hc] at h;cases h
    | some c=>rw [hc] at h;simp only [List.mem_singleton] at h;exact ⟨n,c,hc,h⟩
theorem fieldsC_mem {rt:ByteArray→Int} {i:Int} {l:List FieldD} {x:InsD}:∀ {n:Nat},x∈fieldsC rt i l n→∃ (k:Nat) (f:FieldD),k < n∧l[k]?=some f∧x∈fieldC rt i k (gR l k f) f
 | 0,h=>by cases h
 | n+1,h=>by
  unfold fieldsC at h
  rcases List.mem_append.1 h with h | h
  · obtain ⟨k,f,h1,h2,h3⟩:=fieldsC_mem h
    exact ⟨k,f,by omega,h2,h3⟩
  · cases hc:l[n]? with
    | none=>rw [hc] at h;cases h
    | some c=>rw [hc] at h;exact ⟨n,c,Nat.lt_succ_self n,hc,h⟩
theorem codeN_mem {rt:ByteArray→Int} {l:List MsgD} {r:Nat→Bool} {x:InsD}:∀ {n:Nat},x∈codeN rt l r n→∃ (i:Nat) (m:MsgD),i < n∧l[i]?=some m∧r i=true∧x∈msgC rt i m
 | 0,h=>by cases h
 | n+1,h=>by
  unfold codeN at h
  rcases List.mem_append.1 h with h | h
  · obtain ⟨k,f,h1,h2,h3⟩:=codeN_mem h
    exact ⟨k,f,by omega,h2,h3⟩
  · cases hc:l[n]? with
    | none=>rw [hc] at h;cases h
    | some m =>
     rw [hc] at h
     simp only at h
     split at h
     · rename_i hr;exact ⟨n,m,Nat.lt_succ_self n,hc,hr,h⟩
     · cases h
theorem okx {d:DefD} {c m f g s t:Int} (h1:1≤c∧c≤10) (h2:(m = -1∧c≠8)∨∃ (i:Nat) (x:MsgD),m=i∧d.msgs[i]?=some x∧((f = -1∧c≠8)∨∃ (k:Nat) (y:FieldD),f=k∧x.fields[k]?=some y∧(c≠8∨∃ (j:Nat) (z:CaseD),s=j∧y.cases[j]?=some z∧0≤z.low∧z.low≤z.high∧z.high≤34359738367))) (h3 : -1≤g∧g≤100000) (h4 : -1≤t∧t≤100000):OkX d ⟨c,m,f,g,s,t⟩:=⟨h1,h2,h3,h4⟩
theorem code_ok {d:DefD} (hc:(checkP d).2.2=0) (hz:sizeP d≤100000):∀ x∈codeP d,OkX d x:=by
 have hf:=(check_fine hc).2.2.1
 have hto:∀ s,-1≤toR d.msgs (reachD d) s∧toR d.msgs (reachD d) s≤100000:=fun s=>by
  have:=toR_in d.msgs (reachD d) s
  unfold sizeP at hz
  omega
 intro x hx
 unfold codeP at hx
 rcases List.mem_append.1 hx with hx | hx
 · simp only [headC,List.mem_cons,List.not_mem_nil,or_false] at hx
   rcases hx with rfl | rfl
   · exact okx (by decide) (.inl ⟨rfl,by decide⟩) (by decide) (hto _)
   · exact okx (by decide) (.inl ⟨rfl,by decide⟩) (by decide) (by decide)
 · obtain ⟨i,m,_,hm,_,hx⟩:=codeN_mem hx
   unfold msgC at hx
   simp only [List.cons_append,List.mem_cons,List.mem_append,List.not_mem_nil,or_false] at hx
   rcases hx with rfl | hx | rfl
   · exact okx (by decide) (.inr ⟨i,m,rfl,hm,.inl ⟨rfl,by decide⟩⟩) (by decide) (by decide)
   · obtain ⟨k,f,hk,hfk,hx⟩:=fieldsC_mem hx
     have hl40:=(next_parts (hf.next hm)).2.2.1.2
     have hg : -1≤gR m.fields k f∧gR m.fields k f≤100000:=by
      unfold gR
      have:=cnt_le m.fields k
      split<;>omega
     have hrest:∀ c:Int,(1≤c∧c≤10)→c≠8→∀ g t:Int,(-1≤g∧g≤100000)→(-1≤t∧t≤100000)→OkX d ⟨c,i,k,g,-1,t⟩:=fun c h1 h2 g t h3 h4=>⟨h1,.inr ⟨i,m,rfl,hm,.inr ⟨k,f,rfl,hfk,.inl h2⟩⟩,h3,h4⟩
     unfold fieldC at hx
     split at hx
     · rename_i h9
       rcases List.mem_cons.1 hx with rfl | hx
       · exact hrest 7 (by decide) (by decide) _ _ (by decide) (by decide)
       · obtain ⟨j,c,hj,rfl⟩:=casI_mem hx
         have hb:=case_in hf hm (List.mem_of_getElem? hfk) h9 c (List.mem_of_getElem? hj)
         exact okx (by decide) (.inr ⟨i,m,rfl,hm,.inr ⟨k,f,rfl,hfk,.inr ⟨j,c,rfl,hj,hb⟩⟩⟩) (by decide) (hto _)
     · split at hx
       · simp only [List.mem_singleton] at hx;subst hx;exact hrest 5 (by decide) (by decide) _ _ (by decide) (hto _)
       · split at hx
         · simp only [List.mem_singleton] at hx;subst hx;exact hrest 6 (by decide) (by decide) _ _ (by decide) (hto _)
         · split at hx
           · simp only [List.mem_singleton] at hx;subst hx;exact hrest 9 (by decide) (by decide) _ _ (by decide) (hto _)
           · simp only [List.mem_singleton] at hx;subst hx;exact hrest 4 (by decide) (by decide) _ _ hg (by decide)
   · exact okx (by decide) (.inr ⟨i,m,rfl,hm,.inl ⟨rfl,by decide⟩⟩) (by decide) (by decide)
theorem dedupA_len:∀ (l seen:List ByteArray),(dedupA seen l).length≤l.length
 | [],_=>Nat.le_refl _
 | x::l,seen=>by
  have ih:=dedupA_len l (seen++[x])
  unfold dedupA
  split
  · simp only [List.length_cons];omega
  · simp only [List.length_cons];omega
theorem rReached_ret (w0:World) (v:Value) (d:DefD) (hd:DefVal w0 v d) (ht:calm d) (hc:(checkP d).2.2=0):Ret Pg 27 #[v] w0 fun r w'=>(∃ b,r = .slice (some ⟨b,0,none⟩) d.msgs.length d.msgs.length∧BRow w' b (tab d.msgs.length (reachD d)))∧Ext w0 w':=by
 obtain ⟨mv,rfl,hM⟩:=hd
 have hm1:=SliceOf.oneCell hM
 have hM0:=hM
 obtain ⟨A,c,rfl,hlc,hcm,hlm,hel⟩:=SliceOf.open hM
 obtain ⟨hs,hany,hidx⟩:=start_spec hc
 have hf:=(check_fine hc).2.2.1
 have hl60:=(check_fine hc).2.1.2
 have hidx2:idx (fun m:MsgD=>decide (m.name=d.start)) d.msgs=startI d:=by
  have ha:=hany
  rw [← idx_neg] at ha
  rw [← hidx]
  unfold idx0
  simp at ha
  rw [if_neg (by omega)]
 unfold reachD
 generalize startI d=s at hs hidx2 ⊢
 refine n28s (R:=retR _) ?_;unfold n28
 rw [op_boxA]
 have o1:=heap_new w0 (defCells d (.slice A d.msgs.length c)).toArray 24
 have eW:Ext w0 (w0.alloc (.cells (defCells d (.slice A d.msgs.length c)).toArray 24)):=ee
 generalize (w0.alloc (.cells (defCells d (.slice A d.msgs.length c)).toArray 24))=W at o1 eW ⊢
 generalize hp1:w0.heap.size=p1 at o1 ⊢
 simp (disch:=try exact DI) only [↓PR,QR,simprocAttr,(cells_of_heap o1).1]
 rw [op_makeBools d.msgs.length (by omega)]
 have eV:Ext W (W.alloc (.cells ((List.replicate d.msgs.length false).map fun x=>Value.bool x).toArray 4)):=ee
 have oR:BRow (W.alloc (.cells ((List.replicate d.msgs.length false).map fun x=>Value.bool x).toArray 4)) W.heap.size (tab d.msgs.length fun _=>false):=by
  have:=heap_new W ((List.replicate d.msgs.length false).map fun x=>Value.bool x).toArray 4
  rw [show tab d.msgs.length (fun _=>false)=List.replicate d.msgs.length false by unfold tab;rw [List.map_const'];simp]
  exact this
 have sV:=eV.size
 generalize (W.alloc (.cells ((List.replicate d.msgs.length false).map fun x=>Value.bool x).toArray 4))=V at eV oR sV ⊢
 generalize hr:W.heap.size=r at oR ⊢
 simp (disch:=try exact DI) only [↓PR,QR,simprocAttr,(cells_of_heap (eV.obj o1)).1]
 refine zcr (rFind_ret _ _ d d.start d.msgs.length ⟨_,rfl,hM0.ext (eW.trans eV)⟩ (Nat.le_refl _)) fun w2 e2=>?_
 rw [List.take_length,hidx2]
 have oR2:=oR.ext e2
 have g2:Ext W w2:=eV.trans e2
 have hfz:∀ o,w2.frozen? ⟨r,o,none⟩=false:=(cells_of_heap oR2).2
 have hcs:w2.cell? ⟨r,s,none⟩=some (.bool false):=oR2.get (tab_get hs)
 unfold n28c6
 have oR3:=oR2.set s true
 rw [tab_set hs] at oR3
 have g3:Ext W (w2.setCell ⟨r,s,none⟩ (.bool true)):=g2.setCell (by show W.heap.size≤r;omega) _
 have hwl:IntKind.i64.wrap ((d.msgs.length:Int) - 1)=(d.msgs.length:Int) - 1:=wrap_ok (by omega) (by omega)
 have q1:=g3.obj o1
 simp (disch:=try exact DI) only [↓PR,QR,simprocAttr,hcs,hfz,Nat.mul_one,Nat.zero_add,(cells_of_heap q1).1,hwl]
 clear hfz hcs q1
 generalize (w2.setCell ⟨r,s,none⟩ (.bool true))=w3 at oR3 g3 ⊢
 have h0:tab d.msgs.length (fun j=>if j=s then true else false)=tab d.msgs.length (reachN d.msgs s 0):=tab_congr fun i _=>by
  by_cases h:i=s<;>simp [h,reachN]
 rw [h0] at oR3
 refine loop1_intro (fun a w=>∃ t:Nat,a = .int .i64 ((d.msgs.length:Int) - 1 - t)∧t≤d.msgs.length∧Ext W w∧BRow w r (tab d.msgs.length (reachN d.msgs s t))) (fun a _=>(intOf a+1).toNat) ⟨0,by rw [Int.natCast_zero,Int.sub_zero],by omega,g3,oR3⟩ ?_
 rintro _ w4 ⟨t,rfl,htl,g4,oR4⟩
 by_cases hlt:t < d.msgs.length
 · have hge:decide (((d.msgs.length:Int) - 1 - t)≥0)=true:=decide_eq_true (by omega)
   obtain ⟨at_,hat⟩:∃ k:Nat,k=d.msgs.length - 1 - t:=⟨_,rfl⟩
   have hatI:((d.msgs.length:Int) - 1 - t)=(at_:Int):=by omega
   rw [hatI] at hge ⊢
   have hal:at_ < d.msgs.length:=by omega
   obtain ⟨m,hm⟩:=getElem?_lt hal
   obtain ⟨b,o,cs,rfl,_,hA,fv,rfl,hF⟩:=hel at_ m hm
   have hfv:=SliceOf.oneCell hF
   have hm':d.msgs[d.msgs.length - 1 - t]?=some m:=by rw [← hat];exact hm
   simp (disch:=try exact DI) only [↓PR,QR,simprocAttr,hge,↓n28c5,(cells_of_heap (g4.obj o1)).1,hA.c2 (eW.trans g4)]
   refine callK_ret (rRefers_ret _ _ m ⟨_,rfl,hF.ext (eW.trans g4)⟩ (ht m (List.mem_of_getElem? hm)).1) ?_
   rintro rv w5 ⟨hT,e5⟩
   have g5:=g4.trans e5
   have oR5:=oR4.ext e5
   have hTs:SliceOf w5 1 EStr rv (refsM m):=hT.slice (fun _=>rfl) (fun _ _=>rfl)
   have hrl:(refsM m).length≤1048576:=Nat.le_trans (dedupA_len _ _) (ht m (List.mem_of_getElem? hm)).1
   obtain ⟨Ar,cr,rfl,hlr,hcr,hlmr,helr⟩:=SliceOf.open hTs
   have s4:=(Array.getElem?_eq_some_iff.1 oR4).1
   refine loop1_intro (fun a w=>∃ k:Nat,a = .int .i64 k∧k≤(refsM m).length∧Ext W w∧OwnS w w4.heap.size (.slice Ar (refsM m).length cr) (refsM m)∧BRow w r (tab d.msgs.length (reachY d.msgs s t ((refsM m).take k)))) (fun a _=>(refsM m).length - (intOf a).toNat) ⟨0,rfl,by omega,g5,hT,by rw [List.take_zero,tab_congr fun i _=>reachY_nil d.msgs s t i];exact oR5⟩ ?_
   rintro _ w6 ⟨k,rfl,hk,g6,hT6,oR6⟩
   have c2:w6.cell? ⟨r,at_,none⟩=some (.bool (reachN d.msgs s t at_)):=by
    rw [oR6.get (tab_get hal),hat,reachY_at hf hm']
   have hwr:IntKind.i64.wrap ((at_:Int) - 1)=(d.msgs.length:Int) - 1 - ((t+1:Nat):Int):=by rw [wrap_ok (by omega) (by omega)];omega
   unfold n28c4
   cases hb:reachN d.msgs s t at_ with
   | false =>
    rw [hb] at c2
    simp (disch:=try exact DI) only [↓PR,QR,simprocAttr,c2,↓n28c3,hwr,Nat.mul_one,Nat.zero_add]
    refine ⟨⟨t+1,rfl,by omega,g6,?_⟩,?_⟩
    · rw [tab_congr fun i _=>reachY_dead (by rw [← hat];exact hb) _ i] at oR6
      exact oR6
    · simp only [intOf]
      omega
   | true =>
    rw [hb] at c2
    rcases drop_cases hk with ⟨x,hx,_,hltk,hdec⟩ | ⟨hke,_,hdec⟩
    · obtain ⟨j,_,hjl,_,_,hix,hix2⟩:=fine_idx hf hm (List.mem_of_getElem? hx)
      obtain ⟨_,_,hv,_,_,_,hel6⟩:=SliceOf.open (hT6.slice (E:=EStr) (fun _=>rfl) (fun _ _=>rfl))
      injection hv with hv _ hv'
      subst hv hv'
      obtain ⟨b6,o6,cs6,rfl,_,hA6,rfl⟩:=hel6 k _ hx
      have hjn:j < d.msgs.length:=by omega
      simp (disch:=try exact DI) only [↓PR,QR,simprocAttr,c2,hdec,↓n28c3,Nat.mul_one,Nat.zero_add]
      refine drawK_intro ?_
      have g7:=g6.wdrew
      unfold n28c2
      simp (disch:=try exact DI) only [↓PR,QR,simprocAttr,(cells_of_heap (g6.obj o1)).1,hA6.c1 (Ext.refl _)]
      refine zcr (rFind_ret _ _ d x d.msgs.length ⟨_,rfl,hM0.ext (eW.trans g7)⟩ (Nat.le_refl _)) fun w7 e7=>?_
      refine ⟨e7,?_⟩
      rw [List.take_length,hix]
      have eD:Ext w6 w6.drew:=(Ext.refl w6).wdrew
      have oR7:=oR6.ext (eD.trans e7)
      have hT7:=hT6.ext (eD.trans e7)
      have g8:=g7.trans e7
      have s7:=(eD.trans e7).size
      have c1:w7.cell? ⟨r,j,none⟩=some (.bool (reachY d.msgs s t ((refsM m).take k) j)):=oR7.get (tab_get hjn)
      have hfz:∀ o,w7.frozen? ⟨r,o,none⟩=false:=(cells_of_heap oR7).2
      have oR8:=oR7.set j true
      rw [tab_set hjn] at oR8
      rw [tab_congr fun i _=>(reachY_snoc (ns:=(refsM m).take k) (by rw [← hat];exact hb) hix i).symm,← take_snoc hx] at oR8
      unfold n28c1
      simp (disch:=try exact DI) only [↓PR,QR,simprocAttr,c1,hfz,Nat.mul_one,Nat.zero_add]
      refine turnK_intro ?_
      have hwk:IntKind.i64.wrap ((k:Int)+1)=(k:Int)+1:=wrap_ok (by omega) (by omega)
      simp (disch:=try exact DI) only [↓PR,QR,simprocAttr,hwk]
      refine ⟨⟨k+1,rfl,by omega,g8.setCell (by show W.heap.size≤r;omega) _,?_,oR8⟩,meas_lt (kd := .i64) hltk⟩
      exact (OwnR.only (lo:=w4.heap.size) (hi:=w7.heap.size) ⟨hT7,fun b hb=>(hT7.lt b hb).2⟩ (Only.setCell w7 r j _) (.inr (.inl s4))).1
    · subst hke
      simp (disch:=try exact DI) only [↓PR,QR,simprocAttr,c2,hdec,↓n28c3,hwr,Nat.mul_one,Nat.zero_add]
      refine ⟨⟨t+1,rfl,by omega,g6,?_⟩,?_⟩
      · rw [List.take_length,tab_congr fun i _=>reachY_all hm' i] at oR6
        exact oR6
      · simp only [intOf]
        omega
 · obtain rfl:t=d.msgs.length:=by omega
   have hge:decide (((d.msgs.length:Int) - 1 - (d.msgs.length:Int))≥0)=false:=decide_eq_false (by omega)
   simp (disch:=try exact DI) only [↓PR,QR,simprocAttr,hge]
   exact ⟨⟨r,rfl,oR4⟩,eW.trans g4⟩
theorem rRoutine_ret (w0:World) (v:Value) (d:DefD) (ix:Int) (hd:DefVal w0 v d) (ht:calm d) (htm:tame d) (hc:(checkP d).2.2=0) (hz:sizeP d≤100000) (hix:ix≤d.msgs.length):Ret Pg 28 #[v,.int .i64 ix] w0 fun r w'=>r = .int .i64 (routN d.msgs (reachD d) ix.toNat)∧Ext w0 w':=by
 obtain ⟨mv,rfl,hM⟩:=hd
 have hM0:=hM
 obtain ⟨A,c,rfl,hlc,hcm,hlm,hel⟩:=SliceOf.open hM
 refine n31s (R:=retR _) ?_;unfold n31
 rw [op_boxA]
 have o2:=heap_new w0 (defCells d (.slice A d.msgs.length c)).toArray 24
 have eW:Ext w0 (w0.alloc (.cells (defCells d (.slice A d.msgs.length c)).toArray 24)):=ee
 generalize (w0.alloc (.cells (defCells d (.slice A d.msgs.length c)).toArray 24))=W at o2 eW ⊢
 generalize hp2:w0.heap.size=p2 at o2 ⊢
 simp (disch:=try exact DI) only [↓PR,QR,simprocAttr,(cells_of_heap o2).1]
 refine callK_ret (rReached_ret _ _ d ⟨_,rfl,hM0.ext eW⟩ ht hc) ?_
 rintro _ w1 ⟨⟨g,rfl,hB⟩,e1⟩
 have E1:=eW.trans e1
 have hzz:routN d.msgs (reachD d) d.msgs.length≤100000:=hz
 unfold n31c4
 refine loop2_intro (fun a b w'=>∃ i:Nat,a = .int .i64 (routN d.msgs (reachD d) i:Int)∧b = .int .i64 i∧i≤ix.toNat∧Ext w1 w') (fun _ b _=>ix.toNat - (intOf b).toNat) ⟨0,rfl,rfl,by omega,Ext.refl _⟩ ?_
 rintro _ _ w2 ⟨i,rfl,rfl,hi,e2⟩
 have E2:=E1.trans e2
 rcases Nat.lt_or_ge i ix.toNat with hlt | hge
 · have d1:decide ((i:Int) < ix)=true:=decide_eq_true (by omega)
   have hil:i < d.msgs.length:=by omega
   obtain ⟨m,hm⟩:=getElem?_lt hil
   obtain ⟨b,o,cs,rfl,_,hA,fv,rfl,hF⟩:=hel i m hm
   obtain ⟨AF,cF,rfl,_,_,_,helF⟩:=SliceOf.open hF
   have hcell:w2.cell? ⟨g,i,none⟩=some (.bool (reachD d i)):=(hB.ext e2).get (tab_get hil)
   have hwi:IntKind.i64.wrap ((i:Int)+1)=(i:Int)+1:=wrap_ok (by omega) (by omega)
   have hrm:=routN_mono d.msgs (reachD d) (show i+1≤d.msgs.length by omega)
   have hrs:=routN_succ (r:=reachD d) hm
   cases hr:reachD d i with
   | false =>
    rw [hr] at hcell hrs
    simp only [Bool.false_eq_true,if_false,Nat.add_zero] at hrs
    simp (disch:=try exact DI) only [↓PR,QR,simprocAttr,d1,↓n31c3,hcell,Nat.mul_one,Nat.zero_add,hwi]
    refine ⟨⟨i+1,by rw [hrs],rfl,by omega,e2⟩,?_⟩
    simp only [intOf];omega
   | true =>
    rw [hr] at hcell hrs
    simp only [if_true] at hrs
    have hlm:lenM m=2+lenK m.fields m.fields.length:=rfl
    have hmm:=htm.2 m (List.mem_of_getElem? hm)
    have hw2:IntKind.i64.wrap ((routN d.msgs (reachD d) i:Int)+2)=((routN d.msgs (reachD d) i+2+lenK m.fields 0:Nat):Int):=by rw [wrap_ok (by omega) (by omega)];show _=((routN d.msgs (reachD d) i+2+0:Nat):Int);omega
    simp (disch:=try exact DI) only [↓PR,QR,simprocAttr,d1,↓n31c3,hcell,Nat.mul_one,Nat.zero_add,hw2]
    refine loop2_intro (fun a b w'=>∃ k:Nat,a = .int .i64 ((routN d.msgs (reachD d) i+2+lenK m.fields k:Nat):Int)∧b = .int .i64 k∧k≤m.fields.length∧Ext w2 w') (fun _ b _=>m.fields.length - (intOf b).toNat) ⟨0,rfl,rfl,by omega,Ext.refl _⟩ ?_
    rintro _ _ w3 ⟨k,rfl,rfl,hk,e3⟩
    have E3:=E2.trans e3
    have q2:=(e1.trans (e2.trans e3)).obj o2
    unfold n31c2
    rcases drop_cases hk with ⟨x,hx,_,hltk,hdec⟩ | ⟨hke,_,hdec⟩
    · obtain ⟨bF,oF,csF,rfl,_,hAF,tv,cv,rfl,hT,hC⟩:=helF k x hx
      have hlk:=lenK_succ hx
      have hlkm:=lenK_mono m.fields (show k+1≤m.fields.length by omega)
      have hwk:IntKind.i64.wrap ((k:Int)+1)=(k:Int)+1:=wrap_ok (by omega) (by omega)
      have hwn:IntKind.i64.wrap (((routN d.msgs (reachD d) i+2+lenK m.fields k:Nat):Int)+(lenF x:Int))=((routN d.msgs (reachD d) i+2+lenK m.fields (k+1):Nat):Int):=by rw [wrap_ok (by omega) (by omega)];omega
      simp (disch:=try exact DI) only [↓PR,QR,simprocAttr,(cells_of_heap q2).1,hA.c2 E3,hdec,↓n31c1,hAF.c15 E3]
      refine zcr (rlength_ret w3 _ x ⟨tv,cv,rfl,TermsOf.ext hT E3,CasesOf.ext hC E3⟩ (hmm.2 x (List.mem_of_getElem? hx)).2) fun w4 e4=>?_
      simp (disch:=try exact DI) only [↓PR,QR,simprocAttr,hwn,hwk]
      exact ⟨⟨k+1,rfl,rfl,by omega,e3.trans e4⟩,by simp only [intOf];omega⟩
    · subst hke
      simp (disch:=try exact DI) only [↓PR,QR,simprocAttr,(cells_of_heap q2).1,hA.c2 E3,hdec,hwi]
      refine ⟨⟨i+1,?_,rfl,by omega,e2.trans e3⟩,?_⟩
      · rw [hrs,hlm]
        congr 1
        omega
      · simp only [intOf];omega
 · obtain rfl:i=ix.toNat:=by omega
   have d1:decide (((ix.toNat:Nat):Int) < ix)=false:=decide_eq_false (by omega)
   simp (disch:=try exact DI) only [↓PR,QR,simprocAttr,d1]
   exact ⟨by trivial,E2⟩
end Go.Proofs.YtfdecdnmooaegaaGreatDoor
namespace Go.Sw
open Go.RowKit (Below)
structure LW3 (B:Nat) (w w':World):Prop where
 os:w'.os=w.os
 tape:w'.tape=w.tape
 output:w'.output=w.output
 size:w.heap.size≤w'.heap.size
 block:∀ b,b < B→b < w.heap.size→w'.heap[b]?=w.heap[b]?
end Go.Sw
namespace Go.Sw
open Go.RowKit (Below)
def KR5 (_B:Nat) (w w':World):Prop:=w.heap.size≤w'.heap.size∧(∀ (b:Nat) (r:Loop),w.heap[b]?=some (.loop r)→∃ st p,w'.heap[b]?=some (.loop { r with state:=st,pending:=p })) ∧
 (∀ (b:Nat),w.heap[b]?=some (.deferred (some []))→w'.heap[b]?=some (.deferred (some [])))
section
variable {B:Nat} {w w1 w2:World}
theorem KR5.of2 (h:KR B w w1):KR5 B w w1:=⟨h.1,h.2.1,h.2.2.1⟩
theorem KR5.trans (h:KR5 B w w1) (k:KR5 B w1 w2):KR5 B w w2:=⟨Nat.le_trans h.1 k.1,fun b r hb=>by
 obtain ⟨st,p,h1⟩:=h.2.1 b r hb
 obtain ⟨st',p',h2⟩:=k.2.1 b _ h1
 exact ⟨st',p',h2⟩,fun b hb=>k.2.2 b (h.2.2 b hb)⟩
theorem KR5.of (e:Ext w w1):KR5 B w w1 := .of2 (.of e)
theorem KR5.setCell (h:KR5 B w w1) (b o:Nat) (v:Value):KR5 B w (w1.setCell ⟨b,o,none⟩ v):=h.trans ⟨by simp,fun b r hb=>⟨r.state,r.pending,(KeepsOthers.setCell w1 _ v).same _ _ hb rfl⟩,fun b hb=>(KeepsOthers.setCell w1 _ v).same _ _ hb rfl⟩
theorem KR5.busied {l:Nat} (h:Busied l w w1):KR5 B w w1 := .of2 (.busied h)
theorem KR5.turn {l:Nat} {r:Loop} (hl:w.heap[l]?=some (.loop r)) (st:LoopState) (p:Option Code):KR5 B w (w.putObj l (.loop { r with state:=st,pending:=p })) := .of2 (.turn hl st p)
theorem KR5.grown {row:Option Nat} (h:KR5 B w w1) (hg:w1.grownBy w2 row) (hr:∀ g,row=some g→∃ cs T f,w1.heap[g]?=some (.cells cs T f)):KR5 B w w2:=h.trans ⟨hg.size,fun b r hb=>⟨r.state,r.pending,(hg.block b (Array.getElem?_eq_some_iff.1 hb).1 (fun e=>by
 obtain ⟨cs,T,f,hc⟩:=hr b e.symm
 rw [hb] at hc;cases hc)).trans hb⟩,fun b hb=>(hg.block b (Array.getElem?_eq_some_iff.1 hb).1 (fun e=>by
 obtain ⟨cs,T,f,hc⟩:=hr b e.symm
 rw [hb] at hc;cases hc)).trans hb⟩
end
def Firm5 (B:Nat) (R:World→Prop):Prop:=∀ w w',KR5 B w w'→R w→R w'
theorem RecAt.firm5 (rec:Loop) (B b:Nat):Firm5 B (RecAt rec b):=fun w w' h ⟨h1,st,p,h2⟩=>by
 obtain ⟨st',p',h3⟩:=h.2.1 _ _ h2
 exact ⟨h.2.2 _ h1,st',p',h3⟩
theorem Firm5.and {B:Nat} {R S:World→Prop} (h:Firm5 B R) (k:Firm5 B S):Firm5 B (fun w=>R w∧S w):=fun w w' e hh=>⟨h _ _ e hh.1,k _ _ e hh.2⟩
def SeqIt5 (P:Program) (f:FuncId) (caps:Array Value) (n:Nat) (xs ys:Nat→Value) (FP:World→Prop):Prop :=
 ∀ (yv:Value) (J:Nat→World→Prop) (Jx:World→Prop) (Jp:List PanicEntry→World→Prop) (w:World),yv.oneCell'=true→(∀ k w,J k w→FP w)→(∀ k,Lasts2 w.heap.size (J k))→Lasts2 w.heap.size Jx→(∀ ch,Lasts2 w.heap.size (Jp ch)) →
  (∀ k,k < n→∀ Rk,Firm5 w.heap.size Rk→∀ w,J k w→Rk w→callV P yv #[xs k,ys k] (fun ch w'=>Rk w'∧Jp ch w') w (fun v w'=>Rk w'∧((v = .bool true∧J (k+1) w')∨(v = .bool false∧Jx w'))))→J 0 w →
  Calls P f (#[yv]++caps) w (fun e w'=>match e with
   | .returned _=>J n w'∨Jx w'
   | .panicked ch=>Jp ch w'
   | .outgrown=>False)
def rangeN5 (P:Program) (fv:Value) (ds:List Deferred) (body:Nat→Value→Value→World→(World→Prop)→(Nat→World→Prop)→(List PanicEntry→World→Prop)→Prop) (QP:List PanicEntry→List Deferred→World→Prop) (w:World)
 (k:List Deferred→World→Prop) (kx:List (List Deferred→World→Prop)):Prop :=
 ∃ (f:FuncId) (caps:Array Value) (n:Nat) (xs ys:Nat→Value) (FP:World→Prop) (I:Nat→World→Prop) (Ix:Nat→World→Prop) (Ip:List PanicEntry→World→Prop),
  fv = .func (.func f) #[] caps∧Callable P f∧SeqIt5 P f caps n xs ys FP∧I 0 w∧(∀ k w,I k w→FP w)∧(∀ k,Lasts2 w.heap.size (I k))∧(∀ c,Lasts2 w.heap.size (Ix c))∧(∀ ch,Lasts2 w.heap.size (Ip ch)) ∧
  (∀ (Rk:World→Prop),Firm5 (w.heap.size+1+1) Rk→∀ (j:Nat) (w':World),j < n→I j w'→Rk w'→w.heap.size+1 < w'.heap.size→ReadyAt (w.heap.size+1) w' →
   body (w.heap.size+1) (xs j) (ys j) w' (fun w''=>Rk w''∧I (j+1) w'') (fun c w''=>Rk w''∧Ix c w'') (fun ch w''=>Rk w''∧Ip ch w'')) ∧
  (∀ w',I n w'→MarkAt w.heap.size w'→k (mark w.heap.size::ds) w') ∧
  (∀ c w',Ix c w'→MarkAt w.heap.size w'→nthK kx c (mark w.heap.size::ds) w') ∧
  (∀ ch w',Ip ch w'→MarkAt w.heap.size w'→QP ch (mark w.heap.size::ds) w')
section
variable {P:Program} {N:Nat}
theorem sim_range5 {g:Operand} {p p2:Nat} {asg body:Code} {Q:K} {QP:KP} {ρ:Env} {ds:List Deferred} {w:World} {fv:Value} {nbody:Nat→Value→Value→World→(World→Prop)→(Nat→World→Prop)→(List PanicEntry→World→Prop)→Prop} {QPn:List PanicEntry→List Deferred→World→Prop}
 {k:List Deferred→World→Prop} {kx:List (List Deferred→World→Prop)} (js:List Code) (h:rangeN5 P fv ds nbody QPn w k kx) (hg:ev ρ g=fv)
 (hbody:∀ l x y w K X QPr,nbody l x y w K X QPr→den P N (some l) asg (thenK (fun ρ' ds' w'=>ds'=[]∧busyK l w' (fun w''=>den P N (some l) body (roundK js K X) (roundQP QPr) ρ' [] w'')) (fun _ _ _ _=>False)) (fun _ _ _ _=>False) (put N (put N ρ (some p) x) (some p2) y) [] w)
 (hk:∀ ds w,k ds w→Q .normal ρ ds w) (hx:∀ c ds w,nthK kx c ds w→∃ code,js[c]?=some code∧((code = .ret∧Q .ret ρ ds w)∨(∃ id,code = .exit id∧Q (.exit id) ρ ds w))) (hp:∀ ch ds w,QPn ch ds w→QP ch ρ ds w) :
 den P N none (.rangeFunc g #[p,p2] asg body) Q QP ρ ds w:=by
 intro a ha hds
 subst hds
 obtain ⟨f,caps,n,xs,ys,FP,I,Ix,Ip,hfv,hcal,hseq,h0,hFP,hL,hLx,hLp,hround,hend,hjump,hpan⟩:=h
 refine wpV_rangeFunc fun fn hfn=>?_
 obtain ⟨rec,hrec⟩:∃ rec:Loop,rec={ state := .ready,pending:=none,fn,tmps:=a.tmps,params := #[p,p2],assign:=asg,body,defers:=w.heap.size }:=⟨_,rfl⟩
 obtain ⟨W1,hW1⟩:∃ W1,(w.alloc (.deferred (some []))).alloc (.loop rec)=W1:=⟨_,rfl⟩
 have hE1:Ext w W1:=by rw [← hW1];exact ((Ext.refl w).alloc _).alloc _
 have hW1s:W1.heap.size=w.heap.size+1+1:=by rw [← hW1];simp
 have hL1:W1.heap[w.heap.size+1]?=some (.loop rec):=by
  rw [← hW1];have:=World.alloc_heap_new (w.alloc (.deferred (some []))) (.loop rec);rwa [World.size_alloc] at this
 have hK1:MarkAt w.heap.size W1:=by
  rw [← hW1];exact MarkAt.alloc (World.alloc_heap_new w _) _
 have hev:a.eval g=fv:=by rw [ha.eval];exact hg
 refine ⟨w.heap.size+1,[mark w.heap.size],W1,{ target := .fn (.func f) caps,args := #[.func (.yield (w.heap.size+1)) #[] #[]] },W1,f,#[.func (.yield (w.heap.size+1)) #[] #[]]++caps,W1,?_,?_,?_,?_⟩
 · rw [← hW1,hrec];exact run_enterLoop_outer _ _ _ _ _
 · simp only [resolve,hev,hfv]
   simp [go_sem]
 · simp only [invoke]
   exact callFunc_run hcal _ _
 · refine Calls.mono (hseq (.func (.yield (w.heap.size+1)) #[] #[]) (fun j w'=>I j w'∧MarkAt w.heap.size w'∧∃ p,w'.heap[w.heap.size+1]?=some (.loop { rec with state := .ready,pending:=p })∧p=none)
    (fun w'=>MarkAt w.heap.size w'∧∃ c code,Ix c w'∧js[c]?=some code∧w'.heap[w.heap.size+1]?=some (.loop { rec with state := .done,pending:=some code }))
    (fun ch w'=>MarkAt w.heap.size w'∧Ip ch w') W1 rfl (fun j w' hj=>hFP j w' hj.1) (fun j=>((hL j).mono (by omega)).and ((Lasts2.low (by omega) _).and (.ex fun q=>(Lasts2.low (by omega) _).and (.const _ _))))
    ((Lasts2.low (by omega) _).and (.ex fun c => .ex fun code=>((hLx c).mono (by omega)).and ((Lasts2.const _ _).and (Lasts2.low (by omega) _)))) (fun ch=>(Lasts2.low (by omega) _).and ((hLp ch).mono (by omega))) ?_ ⟨(hL 0).ext h0 hE1,hK1,none,by rw [hL1,hrec],rfl⟩) ?_
   · rintro j hj Rk hF w' ⟨hi,hm,q,hl,rfl⟩ hR
     have hlt:w.heap.size+1 < w'.heap.size:=(Array.getElem?_eq_some_iff.1 hl).1
     have hy:=run_yield (P:=P) (args := #[xs j,ys j]) hl (by rw [hrec];rfl)
     show onNext P _ _ _ _
     have hcs:callS (.func (.yield (w.heap.size+1)) #[] #[]) #[xs j,ys j]=Instr.yield (w.heap.size+1) #[xs j,ys j]:=by
      simp [callS,Deferred.ofValue,invoke,go_sem,bind,pure,Sem.bind]
     rw [hcs,hy]
     have key:∀ R,wpV (some (w.heap.size+1)) P asg (Exit.then (fun a₁ w₁=>∃ w₂,(Instr.beginRound (w.heap.size+1)).run P w₁ = .ok () w₂∧wpV (some (w.heap.size+1)) P body (endV P (w.heap.size+1) R) a₁ w₂) (fun _ _ _=>False)) { tmps:=((#[p,p2].zip #[xs j,ys j]).foldl (fun tmps (t,a)=>tmps.setIfInBounds t a) a.tmps),defers:=[] } w' →
      RoundV P (w.heap.size+1) rec.fn ((rec.params.zip #[xs j,ys j]).foldl (fun tmps (t,a)=>tmps.setIfInBounds t a) rec.tmps) rec.assign rec.body w' R:=by
      intro R h;rw [hrec];exact roundV_of_wpV hfn h
     refine key _ ?_
     have hb:=hbody _ _ _ _ _ _ _ (hround _ ((RecAt.firm5 rec _ w.heap.size).and (hW1s ▸ hF)) j w' hj hi ⟨⟨hm,_,_,hl⟩,hR⟩ hlt ⟨_,hl,rfl⟩)
     have hagr:Agrees N ({ tmps:=((#[p,p2].zip #[xs j,ys j]).foldl (fun tmps (t,a)=>tmps.setIfInBounds t a) a.tmps),defers:=[] }:Act) (put N (put N ρ (some p) (xs j)) (some p2) (ys j)):=by
      have:=((Agrees.defers ha []).put (some p) (xs j)).put (some p2) (ys j)
      simpa [Act.put] using this
     refine wpV_mono (den_sound asg _ _ _ _ _ hagr hb) ?_
     intro e a1 w1 hl1
     cases e with
     | panic ch=>obtain ⟨_,_,hf⟩:=hl1;exact hf.elim
     | outgrown=>exact hl1
     | exit id=>obtain ⟨_,_,_,hf⟩:=hl1;exact hf.elim
     | goto l=>obtain ⟨_,_,_,hf⟩:=hl1;exact hf.elim
     | ret=>obtain ⟨_,_,_,hf⟩:=hl1;exact hf.elim
     | normal =>
      obtain ⟨ρ1,ha1,_,hd1,hbz⟩:=hl1
      obtain ⟨⟨r,hr1,hr2⟩,hbz⟩:=hbz
      refine ⟨_,run_beginRound hr1 hr2,?_⟩
      rw [show a1={ a1 with defers:=[] } by rw [← hd1]]
      refine wpV_mono (den_sound body _ _ _ _ _ (Agrees.defers ha1 []) (hbz _ ⟨_,hr1,rfl⟩)) ?_
      have fin:∀ (jump:Option Code) (w2:World),RecAt rec w.heap.size w2→(Instr.endRound (w.heap.size+1) jump).run P w2 = .ok (.bool jump.isNone) (w2.putObj (w.heap.size+1) (.loop { rec with state:=if jump.isNone then .ready else .done,pending:=jump })) ∧
       (w2.putObj (w.heap.size+1) (.loop { rec with state:=if jump.isNone then .ready else .done,pending:=jump })).heap[w.heap.size+1]?=some (.loop { rec with state:=if jump.isNone then .ready else .done,pending:=jump }) ∧
       MarkAt w.heap.size (w2.putObj (w.heap.size+1) (.loop { rec with state:=if jump.isNone then .ready else .done,pending:=jump })):=by
       rintro jump w2 ⟨hm2,st,q,hq⟩
       refine ⟨by have:=run_endRound (P:=P) jump hq;exact this,World.putObj_heap_same (Array.getElem?_eq_some_iff.1 hq).1,?_⟩
       unfold MarkAt
       rw [World.putObj_heap_other (by omega)];exact hm2
      intro e a2 w2 hl2
      cases e with
      | normal =>
       obtain ⟨_,_,_,_,⟨hrec2,hR2⟩,hi2⟩:=hl2
       obtain ⟨f1,f2,f3⟩:=fin none w2 hrec2
       obtain ⟨_,st,q,hq⟩:=hrec2
       exact ⟨_,_,f1,hF _ _ (KR5.turn hq _ _) hR2,.inl ⟨rfl,(hL _).loop (Nat.le_succ _) hi2 hq _,f3,none,f2,rfl⟩⟩
      | ret =>
       obtain ⟨_,_,_,_,c,hc,⟨hrec2,hR2⟩,hi2⟩:=hl2
       obtain ⟨f1,f2,f3⟩:=fin (some .ret) w2 hrec2
       obtain ⟨_,st,q,hq⟩:=hrec2
       exact ⟨_,_,f1,hF _ _ (KR5.turn hq _ _) hR2,.inr ⟨rfl,f3,c,_,(hLx _).loop (Nat.le_succ _) hi2 hq _,hc,f2⟩⟩
      | exit id =>
       obtain ⟨_,_,_,_,c,hc,⟨hrec2,hR2⟩,hi2⟩:=hl2
       obtain ⟨f1,f2,f3⟩:=fin (some (.exit id)) w2 hrec2
       obtain ⟨_,st,q,hq⟩:=hrec2
       exact ⟨_,_,f1,hF _ _ (KR5.turn hq _ _) hR2,.inr ⟨rfl,f3,c,_,(hLx _).loop (Nat.le_succ _) hi2 hq _,hc,f2⟩⟩
      | panic ch =>
       obtain ⟨_,_,hd2,⟨hrec2,hR2⟩,hi2⟩:=hl2
       exact ⟨hd2,hR2,hrec2.1,hi2⟩
      | goto l=>obtain ⟨_,_,_,hf⟩:=hl2;exact hf.elim
      | outgrown=>exact hl2
   · have hagr:Agrees N ({ a with defers:=[mark w.heap.size]++a.defers }:Act) ρ:=ha
     have exh:∀ (st:LoopState) (q:Option Code) (w':World),w'.heap[w.heap.size+1]?=some (.loop { rec with state:=st,pending:=q })→st ≠ .busy→MarkAt w.heap.size w' →
      (Instr.endLoop (w.heap.size+1)).run P w' = .ok q (w'.putObj (w.heap.size+1) (.loop { rec with state := .exhausted,pending:=q }))∧MarkAt w.heap.size (w'.putObj (w.heap.size+1) (.loop { rec with state := .exhausted,pending:=q })):=by
      intro st q w' hq hne hm
      refine ⟨by have:=run_endLoop (P:=P) hq hne;exact this,?_⟩
      unfold MarkAt
      rw [World.putObj_heap_other (by omega)];exact hm
     rintro e w' he
     cases e with
     | returned v =>
      rcases he with ⟨hi,hm,q,hl,rfl⟩ | ⟨hm,c,code,hi,hc,hl⟩
      · obtain ⟨e1,e2⟩:=exh _ _ w' hl (by simp) hm
        exact ⟨none,_,e1,hagr,hk _ _ (hend _ ((hL _).loop (Nat.le_succ _) hi hl _) e2)⟩
      · obtain ⟨e1,e2⟩:=exh _ _ w' hl (by simp) hm
        refine ⟨some code,_,e1,?_⟩
        obtain ⟨code',hc',hden⟩:=hx c _ _ (hjump c _ ((hLx _).loop (Nat.le_succ _) hi hl _) e2)
        rw [hc] at hc';cases hc'
        rcases hden with ⟨rfl,hq⟩ | ⟨id,rfl,hq⟩
        · exact wpV_ret ⟨hagr,hq⟩
        · exact wpV_exit ⟨hagr,hq⟩
     | panicked ch=>exact ⟨hagr,hp _ _ _ (hpan ch _ he.2 he.1)⟩
     | outgrown=>exact he.elim
end
end Go.Sw
namespace Go.Proofs.YtfdecdnmooaegaaGreatDoor
open Sw
open Go.RowKit (intOf Below)
abbrev EIns:World→List Value→InsD→Prop:=fun _ cs x=>cs=insCells x
def InsAt (e:Nat) (v:Value) (l:List InsD) (w:World):Prop:=w.heap[e]?=some (.cells #[v] 32 (0,0))∧SliceOf w 6 EIns v l
section
variable {w:World} {lo pb:Nat} {d:DefD}
theorem clone_ret (w0:World) (l:List InsD) (g cap n:Nat) (hn:n=l.length) (hE:∀ k x,l[k]?=some x→ElemAt w0 g (k*6) (insCells x)) (hl:l.length≤100000):Ret Pg 37 #[.slice (some ⟨g,0,none⟩) n cap] w0 fun r w'=>OwnE w' w0.heap.size TI 6 insCells r l∧Ext w0 w':=by
 subst hn
 refine n47s (R:=retR _) ?_;unfold n47
 simp (disch:=try exact DI) only [↓PR,QR,simprocAttr]
 have hO:=OwnE.new w0 TI 6 insCells [] (fun _=>rfl) (by simp)
 have eW:Ext w0 (w0.alloc (.cells ([]:List Value).toArray TI)):=ee
 simp only [List.flatMap_nil,List.length_nil] at hO
 generalize (w0.alloc (.cells ([]:List Value).toArray TI))=W at hO eW ⊢
 refine op_appendE (l':=l) (o:=0) Tryz.underlying32 ty36 rfl (by decide) (fun x=>rfl) (fun x hx u hu=>?_) hO (fun j x hx=>?_) eW.size (Nat.le_trans (Nat.mul_le_mul (show ([]:List InsD).length+l.length≤100001 by simp;omega) by36) (by decide)) (by simp;omega) ?_
 · simp only [insCells,List.mem_cons,List.not_mem_nil,or_false] at hu
   rcases hu with rfl | rfl | rfl | rfl | rfl | rfl<;>rfl
 · rw [Nat.zero_add]
   intro j' u hu
   exact eW.cell (hE j x hx j' u hu)
 · intro v' w' hO' hg
   simp (disch:=try exact DI) only [↓PR,QR,simprocAttr]
   exact ⟨hO',eW.grown hg fun b hb=>(hO.lt b hb).1⟩
theorem Each_ret (h:ProgAt w lo pb d) (hz:sizeP d≤100000):Ret Pg 16 #[.pointer (some ⟨pb,0,none⟩)] w fun r w'=>(∃ e v,r = .func (.func 38) #[] #[.pointer (some ⟨e,0,none⟩)]∧w.heap.size≤e∧w'.heap[e]?=some (.cells #[v] 32 (0,0))∧OwnE w' w.heap.size TI 6 insCells v (codeP d))∧Ext w w':=by
 refine n36s (R:=retR _) ?_;unfold n36
 simp (disch:=try exact DI) only [↓PR,QR,simprocAttr]
 generalize hV:World.alloc w _=W
 have eW:Ext w W:=by rw [← hV];exact ee
 have oW:W.heap[w.heap.size]?=some (.cells #[.slice none 0 0] 32 (0,0)):=by rw [← hV];exact heap_new _ _ _
 clear hV
 refine zcr (none_ret (h.ext eW)) fun w1 e1=>?_
 obtain ⟨mc,rm,gm,g,cap,h1,hO,hE,hcap⟩:=(h.ext (eW.trans e1)).code
 simp (disch:=try exact DI) only [↓PR,QR,simprocAttr,↓n36c2,↓n36c1,(cells_of_heap h1).1]
 refine callK_ret (clone_ret w1 (codeP d) g cap _ (codeP_len d).symm hE (by rw [codeP_len];exact hz)) ?_
 rintro v w2 ⟨hO2,e2⟩
 have E2:=eW.trans (e1.trans e2)
 have q2:=(e1.trans e2).obj oW
 have hS2:=hO2.slice (E:=EIns) (fun _=>rfl) (fun _ _=>rfl)
 have hv1:=SliceOf.oneCell hS2
 have l1:=(Array.getElem?_eq_some_iff.1 (e1.obj oW)).1
 have ho:=Only.setCell w2 w.heap.size 0 v
 generalize hp:w.heap.size=p at *
 simp (disch:=try exact DI) only [↓PR,QR,simprocAttr,(cells_of_heap q2).1,(cells_of_heap q2).2]
 refine ⟨⟨p,v,rfl,by omega,by simpa using heap_set (o:=0) q2 v,((hO2.range.only ho (.inr (.inl l1))).1).base (by have:=e1.size;have:=eW.size;omega)⟩,E2.setCell (p:=⟨p,0,none⟩) (by show w.heap.size≤p;omega) _⟩
theorem ins_at {e B:Nat} {v:Value} {l:List InsD} {w:World} (h:w.heap[e]?=some (.cells #[v] 32 (0,0))∧OwnE w B TI 6 insCells v l):InsAt e v l w:=⟨h.1,h.2.slice (fun _=>rfl) (fun _ _=>rfl)⟩
theorem Each_seq (e:Nat) (v:Value) (l:List InsD) (hl:l.length≤100000) :
 SeqIt5 Pg 38 #[.pointer (some ⟨e,0,none⟩)] l.length (fun k => .int .i64 k) (fun k=>insVal ((l[k]?).getD zeroI)) (InsAt e v l):=by
 intro yv J Jx Jp w hy hFP hJl hJx hJp hstep h0
 obtain ⟨ho,hF⟩:=hFP 0 w h0
 obtain ⟨A,c,rfl,hlc,hcm,hlm,_⟩:=SliceOf.open hF
 refine n37s (t0:=yv) (t1 := .pointer (some ⟨e,0,none⟩)) ?_
 unfold n37
 simp (disch:=try exact DI) only [↓PR,QR,simprocAttr,(cells_of_heap ho).1]
 refine loop1_intro (fun i w'=>∃ k:Nat,i = .int .i64 k∧k≤l.length∧J k w'∧w.heap.size≤w'.heap.size) (fun i _=>l.length - (intOf i).toNat) ⟨0,rfl,by omega,h0,Nat.le_refl _⟩ ?_
 rintro _ w' ⟨k,rfl,hk,hJ,hsz⟩
 obtain ⟨ho',hF'⟩:=hFP k w' hJ
 rcases drop_cases hk with ⟨x,hx,hd,hlt,hdec⟩ | ⟨hk,hd,hdec⟩
 · obtain ⟨A',c',hv,_,_,_,hel⟩:=SliceOf.open hF'
   injection hv with hv1 _ hv2
   subst hv1 hv2
   obtain ⟨b,o,cs,rfl,hl',hA,rfl⟩:=hel k x hx
   have hwr:IntKind.i64.wrap ((k:Int)+1)=(k:Int)+1:=wrap_ok (by omega) (by omega)
   simp (disch:=try exact DI) only [↓PR,QR,simprocAttr,hdec]
   unfold n37c1
   simp (disch:=try exact DI) only [↓PR,QR,simprocAttr,hA.c6 (Ext.refl _)]
   generalize hV:World.alloc w' _=W
   have eW:Ext w' W:=by rw [← hV];exact ee
   clear hV
   have hs:=hstep k (by omega) (fun u=>w.heap.size≤u.heap.size) (fun u u' h hh=>Nat.le_trans hh h.1) W ((hJl k).ext hJ eW) (Nat.le_trans hsz eW.size)
   simp only [hx,Option.getD_some] at hs
   refine callV_mono hs (fun ch w h=>h.2) ?_
   rintro v w2 ⟨hs2,⟨rfl,h2⟩ | ⟨rfl,h2⟩⟩
   · simp (disch:=try exact DI) only [↓PR,QR,simprocAttr,hwr]
     exact ⟨⟨k+1,rfl,by omega,h2,hs2⟩,meas_lt (kd := .i64) hlt⟩
   · simp (disch:=try exact DI) only [↓PR,QR,simprocAttr]
     exact .inr h2
 · subst hk
   simp (disch:=try exact DI) only [↓PR,QR,simprocAttr,hdec]
   exact .inl hJ
end
open Go.Shelf
def sh_lays156_ren:Go.Shelf.Ren:=⟨fun | 156=>32 | 165=>66 | 166=>67 | 169=>68 | 240=>83 | 241=>84 | 276=>102 | 277=>103 | n=>n,fun | 31=>80 | 9=>9 | 3=>3 | 4=>4 | 0=>0 | 20=>20 | 72=>128 | 76=>132 | 70=>125 | 37=>126 | 75=>131 | 127=>150 | 164=>171 | 5=>5 | 80=>30 | n=>n,fun | n=>n⟩
theorem sh_lays156:Go.Proofs.Lays.n156 Pg sh_lays156_ren:={
 mixed:=by kernel_rfl
 f156:=Tryz.func32.trans (congrArg some (by kernel_rfl))
 f165:=Tryz.func66.trans (congrArg some (by kernel_rfl))
 f166:=Tryz.func67.trans (congrArg some (by kernel_rfl))
 f169:=Tryz.func68.trans (congrArg some (by kernel_rfl))
 f240:=Tryz.func83.trans (congrArg some (by kernel_rfl))
 f241:=Tryz.func84.trans (congrArg some (by kernel_rfl))
 f276:=Tryz.func102.trans (congrArg some (by kernel_rfl))
 f277:=Tryz.func103.trans (congrArg some (by kernel_rfl))
 t0:=Tryz.underlying0
 a0:=Tryz.isAgg0
 z0:=Tryz.sizeOf0
 v0:=Tryz.zeroValue0
 t3:=Tryz.underlying3
 a3:=Tryz.isAgg3
 z3:=Tryz.sizeOf3
 v3:=Tryz.zeroValue3
 t4:=Tryz.underlying4
 a4:=Tryz.isAgg4
 z4:=Tryz.sizeOf4
 v4:=Tryz.zeroValue4
 t9:=Tryz.underlying9
 a9:=Tryz.isAgg9
 z9:=Tryz.sizeOf9
 v9:=Tryz.zeroValue9
 t20:=Tryz.underlying20
 a20:=Tryz.isAgg20
 z20:=Tryz.sizeOf20
 v20:=Tryz.zeroValue20
 t31:=Tryz.underlying80
 a31:=Tryz.isAgg80
 z31:=Tryz.sizeOf80
 v31:=Tryz.zeroValue80
 t37:=Tryz.underlying126
 a37:=Tryz.isAgg126
 z37:=Tryz.sizeOf126
 v37:=Tryz.zeroValue126
 t70:=Tryz.underlying125
 a70:=Tryz.isAgg125
 z70:=Tryz.sizeOf125
 v70:=Tryz.zeroValue125
 t72:=Tryz.underlying128
 a72:=Tryz.isAgg128
 z72:=Tryz.sizeOf128
 v72:=Tryz.zeroValue128
 t75:=Tryz.underlying131
 a75:=Tryz.isAgg131
 z75:=Tryz.sizeOf131
 v75:=Tryz.zeroValue131
 t76:=Tryz.underlying132
 a76:=Tryz.isAgg132
 z76:=Tryz.sizeOf132
 v76:=Tryz.zeroValue132
 t127:=Tryz.underlying150
 a127:=Tryz.isAgg150
 z127:=Tryz.sizeOf150
 v127:=Tryz.zeroValue150
 t164:=Tryz.underlying171
 a164:=Tryz.isAgg171
 z164:=Tryz.sizeOf171
 v164:=Tryz.zeroValue171 }
theorem sh_Builder_Extra_156:Builder.Extra Pg sh_lays156_ren:={
 sizeBuilder:=by kernel_rfl
 liesBuilder:=by kernel_rfl
 t5:=Tryz.underlying5
 a5:=Tryz.isAgg5
 z5:=Tryz.sizeOf5
 v5:=Tryz.zeroValue5
 infoByte:=by kernel_rfl
 cellsByte:=by kernel_rfl
 sizeByte:=by kernel_rfl
 neB5:=by decide }
open Go.RowKit in
open Go.RowKit in
theorem sh_strings_Join (bk o c:Nat) (xs:List ByteArray) (sep:ByteArray) (w:World) (hcells:∀ (j:Nat) x,xs[j]?=some x→w.cell? ⟨bk,o+j,none⟩=some (.string x)) (hbk:bk < w.heap.size) (hN:xs.length≤140737488355328) (hcap:xs.length≤c) (hlen:(Lib.join (xs.map (·.data.toList)) sep.data.toList).length≤140737488355328) :
 Calls Pg 32 #[.slice (some ⟨bk,o,none⟩) xs.length c,.string sep] w fun e w'=>e = .returned (.string ⟨(Lib.join (xs.map (·.data.toList)) sep.data.toList).toArray⟩)∧Below w.heap.size w w':=Any.strings_Join sh_lays156 sh_Builder_Extra_156 bk o c xs sep w hcells hbk hN hcap hlen
open Go.RowKit Go.Sort Go.Lib in
open Go.RowKit Go.Sort Go.Lib in
open Go.RowKit Go.Sort Go.Lib in
open Go.RowKit Go.Sort Go.Lib in
def sh_laysM171_ren:Go.Shelf.Ren:=⟨fun | 171=>65 | 243=>82 | 246=>101 | 283=>117 | 284=>118 | 285=>119 | 286=>120 | 129=>128 | 317=>127 | 318=>129 | 319=>130 | 320=>131 | 337=>136 | 338=>137 | n=>n,fun | 3=>3 | 9=>9 | 2=>2 | 4=>4 | 171=>184 | 0=>0 | 53=>185 | 37=>126 | 5=>5 | 173=>188 | 212=>196 | 51=>197 | 20=>20 | 213=>198 | 46=>200 | 232=>215 | 233=>216 | n=>n,fun | 17=>1 | 18=>2 | 19=>3 | n=>n⟩
theorem sh_laysM171:Go.Proofs.LaysM.n171 Pg sh_laysM171_ren:={
 mixed:=by kernel_rfl
 f129:=Tryz.func128.trans (congrArg some (by kernel_rfl))
 f171:=Tryz.func65.trans (congrArg some (by kernel_rfl))
 f243:=Tryz.func82.trans (congrArg some (by kernel_rfl))
 f246:=Tryz.func101.trans (congrArg some (by kernel_rfl))
 f283:=Tryz.func117.trans (congrArg some (by kernel_rfl))
 f284:=Tryz.func118.trans (congrArg some (by kernel_rfl))
 f285:=Tryz.func119.trans (congrArg some (by kernel_rfl))
 f286:=Tryz.func120.trans (congrArg some (by kernel_rfl))
 f317:=Tryz.func127.trans (congrArg some (by kernel_rfl))
 f318:=Tryz.func129.trans (congrArg some (by kernel_rfl))
 f319:=Tryz.func130.trans (congrArg some (by kernel_rfl))
 f320:=Tryz.func131.trans (congrArg some (by kernel_rfl))
 f337:=Tryz.func136.trans (congrArg some (by kernel_rfl))
 f338:=Tryz.func137.trans (congrArg some (by kernel_rfl))
 t0:=Tryz.underlying0
 a0:=Tryz.isAgg0
 z0:=Tryz.sizeOf0
 v0:=Tryz.zeroValue0
 t2:=Tryz.underlying2
 a2:=Tryz.isAgg2
 z2:=Tryz.sizeOf2
 v2:=Tryz.zeroValue2
 t3:=Tryz.underlying3
 a3:=Tryz.isAgg3
 z3:=Tryz.sizeOf3
 v3:=Tryz.zeroValue3
 t4:=Tryz.underlying4
 a4:=Tryz.isAgg4
 z4:=Tryz.sizeOf4
 v4:=Tryz.zeroValue4
 t5:=Tryz.underlying5
 a5:=Tryz.isAgg5
 z5:=Tryz.sizeOf5
 v5:=Tryz.zeroValue5
 t9:=Tryz.underlying9
 a9:=Tryz.isAgg9
 z9:=Tryz.sizeOf9
 v9:=Tryz.zeroValue9
 t20:=Tryz.underlying20
 a20:=Tryz.isAgg20
 z20:=Tryz.sizeOf20
 v20:=Tryz.zeroValue20
 t37:=Tryz.underlying126
 a37:=Tryz.isAgg126
 z37:=Tryz.sizeOf126
 v37:=Tryz.zeroValue126
 t46:=Tryz.underlying200
 a46:=Tryz.isAgg200
 z46:=Tryz.sizeOf200
 v46:=Tryz.zeroValue200
 t51:=Tryz.underlying197
 a51:=Tryz.isAgg197
 z51:=Tryz.sizeOf197
 v51:=Tryz.zeroValue197
 t53:=Tryz.underlying185
 a53:=Tryz.isAgg185
 z53:=Tryz.sizeOf185
 v53:=Tryz.zeroValue185
 t171:=Tryz.underlying184
 a171:=Tryz.isAgg184
 z171:=Tryz.sizeOf184
 v171:=Tryz.zeroValue184
 t173:=Tryz.underlying188
 a173:=Tryz.isAgg188
 z173:=Tryz.sizeOf188
 v173:=Tryz.zeroValue188
 t212:=Tryz.underlying196
 a212:=Tryz.isAgg196
 z212:=Tryz.sizeOf196
 v212:=Tryz.zeroValue196
 t213:=Tryz.underlying198
 a213:=Tryz.isAgg198
 z213:=Tryz.sizeOf198
 t232:=Tryz.underlying215
 a232:=Tryz.isAgg215
 z232:=Tryz.sizeOf215
 v232:=Tryz.zeroValue215
 t233:=Tryz.underlying216
 a233:=Tryz.isAgg216
 z233:=Tryz.sizeOf216
 v233:=Tryz.zeroValue216
 g17:=by kernel_rfl
 g18:=by kernel_rfl
 g19:=by kernel_rfl
 i0:=by kernel_rfl
 i2:=by kernel_rfl
 i3:=by kernel_rfl
 i4:=by kernel_rfl
 i5:=by kernel_rfl
 i9:=by kernel_rfl
 i20:=by kernel_rfl
 i37:=by kernel_rfl
 i46:=by kernel_rfl
 i51:=by kernel_rfl
 i53:=by kernel_rfl
 i171:=by kernel_rfl
 i173:=by kernel_rfl
 i212:=by kernel_rfl
 i232:=by kernel_rfl
 i233:=by kernel_rfl
 m17:=by kernel_rfl
 m18:=by kernel_rfl
 m19:=by kernel_rfl }
open Go.RowKit Go.Sort Go.Lib in
theorem sh_strconv_Itoa (n:Int) (h0 : -9223372036854775808≤n) (h1:n≤9223372036854775807) (w:World) (htab:Lib.TabIs Pg w "internal/strconv.uint64pow10" .u64 Lib.pow10Tab) :
 Calls Pg 65 #[.int .i64 n] w fun e w'=>e = .returned (.string ⟨(Lib.itoa n).toArray⟩)∧∃ k os,w'=grow (w.drewN k) os:=Any.strconv_Itoa sh_laysM171 n h0 h1 w htab
open Go.RowKit Go.Sort Go.Lib in
def TabOK (w:World):Prop:=Go.Lib.TabIs Pg w "internal/strconv.uint64pow10" .u64 Go.Lib.pow10Tab
theorem gPow:(Pg.globalNamed "internal/strconv.uint64pow10").isSome=true:=by kernel_rfl
theorem TabOK.lt {w:World} (h:TabOK w) {g:Nat} (hg:Pg.globalNamed "internal/strconv.uint64pow10" = some g):g < w.heap.size:=by
 unfold TabOK Go.Lib.TabIs World.var? at h
 rw [hg] at h
 simp only [Option.bind_some] at h
 rcases Nat.lt_or_ge g w.heap.size with h' | h'
 · exact h'
 · rw [Array.getElem?_eq_none h'] at h;cases h
theorem TabOK.same {w w':World} (h:TabOK w) (hb:∀ g,Pg.globalNamed "internal/strconv.uint64pow10" = some g→w'.heap[g]?=w.heap[g]?):TabOK w':=by
 obtain ⟨g,hg⟩:=Option.isSome_iff_exists.1 gPow
 have:=hb g hg
 unfold TabOK Go.Lib.TabIs World.var? at h ⊢
 rw [hg] at h ⊢
 simp only [Option.bind_some] at h ⊢
 rw [this]
 exact h
theorem TabOK.ext {w w':World} (h:TabOK w) (e:Ext w w'):TabOK w':=h.same fun g hg=>e.block g (h.lt hg)
theorem grow_ext (w:World) (k:Nat) (os:Array Obj):Ext w (Sort.grow (w.drewN k) os):=⟨rfl,rfl,rfl,by show w.heap.size≤(w.heap++os).size;simp,fun i hi=>by show (w.heap++os)[i]?=_;rw [Array.getElem?_append_left hi]⟩
theorem Itoa_ret {w:World} (hT:TabOK w) (n:Int) (h0 : -9223372036854775808≤n) (h1:n≤9223372036854775807):Ret Pg 65 #[.int .i64 n] w fun r w'=>r = .string (decB n)∧Ext w w':=by
 refine Calls.mono (sh_strconv_Itoa n h0 h1 w hT) ?_
 rintro e w' ⟨rfl,k,os,rfl⟩
 exact ⟨_,rfl,rfl,grow_ext w k os⟩
theorem Join_ret {w:World} {base:Nat} {v:Value} {l:List ByteArray} (h:OwnS w base v l) (sep:ByteArray) (hl:0 < l.length) (hn:l.length≤100000) (hz:(joinW sep l).size≤1000000000):Ret Pg 32 #[v,.string sep] w fun r w'=>r = .string (joinW sep l)∧Ext w w':=by
 obtain ⟨g,cap,rfl,_,hg,_,_,hE⟩:=h.row (fun _=>rfl) hl
 obtain ⟨A,c,hv,hlc,_⟩:=SliceOf.open (h.slice (E:=EStr) (fun _=>rfl) (fun _ _=>rfl))
 injection hv with _ _ hv
 subst hv
 have hzz:(Go.Lib.join (l.map (·.data.toList)) sep.data.toList).length≤140737488355328:=by
  unfold joinW ByteArray.size at hz
  simp only [List.size_toArray] at hz
  omega
 refine Calls.mono (sh_strings_Join g 0 cap l sep w (fun j x hx=>?_) hg (by omega) hlc hzz) ?_
 · have:=hE j x hx 0 _ rfl
   rw [Nat.zero_add]
   simpa using this
 · rintro e w' ⟨rfl,hb⟩
   exact ⟨_,rfl,rfl,Ext.of_below hb⟩
section
variable {P:Program} {QP:List PanicEntry→World→Prop} {w:World} {k:Value→World→Prop}
theorem op_indexArr {t e:TypeId} {agg:Bool} {n m len:Nat} {z:Value} (hu:P.underlying t=some (.array len e)) (ht:TyInfo P e agg n m z) (b o:Nat) (ik:IntKind) (i:Nat) (h1:i < len) :
 opV P (Instr.indexAt t (.pointer (some ⟨b,o,none⟩)) (.int ik (i:Int))) QP w k=k (.pointer (some ⟨b,o+i*n,none⟩)) w:=opV_ok (by
 have h0:(0:Int)≤i:=by omega
 have h2:(i:Int) < len:=by omega
 simp [Instr.indexAt,asIntOf,run_underlying hu,Sw.run_sizeOf ht,Instr.sureAddr,h1,h0,h2,Addr.add_lit])
theorem op_buildArr {T e:TypeId} {agg:Bool} {n m n' m' len:Nat} {z cs:Array Value} {z':Value} {parts:Array (Nat×Value)} (hu:P.underlying T=some (.array len e)) (hz:TyInfo P T true n m (.agg z)) (he:TyInfo P e agg n' m' z') (hf:Instr.fill (fun i=>some (i*n',n')) z parts.toList=some cs):opV P (Instr.build T parts) QP w k=k (.agg cs) w:=by
 have hsz:=Sw.run_sizeOf (w:=w) he
 obtain ⟨⟨i,hi,_,_,hzz⟩,_⟩:=hz
 refine opV_ok ?_
 unfold Instr.build
 have hz0:(zeroValue T).run P w = .ok (.agg z) w:=by simp [zeroValue,typeInfo,hi,hzz]
 simp only [Sem.run_bind,hz0,Result.andThen_ok,run_underlying hu,hsz]
 have:(Value.agg z).cells=z:=rfl
 rw [this,hf]
 rfl
theorem op_sadd' (t:TypeId) (c:Bool) (a b:ByteArray) (h:a.size+b.size≤9223372036854775807):opV P (binS .add t c (.string a) (.string b)) QP w k=k (.string (a++b)) w:=opV_ok (by
 have h1:¬ (((a.size+b.size:Nat):Int) > IntKind.i64.max):=by
  have:IntKind.i64.max=9223372036854775807:=rfl
  omega
 simp [binS,binOp,Op.stringOp,h1]
 omega)
theorem qV_sadd {C:World→Prop} [ClassNe C] {k:Value→Prop} (t:TypeId) (c:Bool) (a b:ByteArray) (h:a.size+b.size≤9223372036854775807):qV P C (binS .add t c (.string a) (.string b)) k=k (.string (a++b)):=qV_of fun _ _ _=>op_sadd' t c a b h
end
abbrev opArr:Array Value := #[.string ⟨#[]⟩,.string ⟨#[99,97,108,108]⟩,.string ⟨#[115,116,111,112]⟩,.string ⟨#[101,110,116,101,114]⟩,.string ⟨#[114,101,97,100]⟩,.string ⟨#[111,110,101]⟩,.string ⟨#[109,97,110,121]⟩,.string ⟨#[115,101,108,101,99,116]⟩,.string ⟨#[99,97,115,101]⟩,.string ⟨#[118,105,101,119]⟩,.string ⟨#[114,101,116,117,114,110]⟩]
theorem opArr_get {c:Nat} (h:c≤10):opArr[c]?=some (.string (opN c)):=by
 have:∀ c:Nat,c≤10→opArr[c]?=some (.string (opN c)):=by
  intro c hc
  match c,hc with
  | 0,_=>rfl
  | 1,_=>rfl
  | 2,_=>rfl
  | 3,_=>rfl
  | 4,_=>rfl
  | 5,_=>rfl
  | 6,_=>rfl
  | 7,_=>rfl
  | 8,_=>rfl
  | 9,_=>rfl
  | 10,_=>rfl
 exact this c h
section
variable {w:World} {lo pb:Nat} {d:DefD}
theorem line_ret (h:ProgAt w lo pb d) (hT:TabOK w) (hN:Names100 d) (i:Int) (hi:0≤i∧i≤100000) (x:InsD) (hx:OkX d x):Ret Pg 31 #[.pointer (some ⟨pb,0,none⟩),.int .i64 i,insVal x] w fun r w'=>r = .string (lineB d i x)∧Ext w w':=by
 refine n45s (R:=retR _) ?_;unfold n45
 rw [op_boxA]
 have o5:=heap_new w (insCells x).toArray TI
 have e1:Ext w (w.alloc (.cells (insCells x).toArray TI)):=ee
 generalize (w.alloc (.cells (insCells x).toArray TI))=w1 at o5 e1 ⊢
 generalize hp5:w.heap.size=p5 at o5 ⊢
 rw [op_buildArr (cs:=opArr) Tryz.underlying124 ty124 ty9 rfl]
 simp (disch:=try exact DI) only [↓PR,QR,simprocAttr]
 have o7:=heap_new w1 opArr 124
 have e2:Ext w1 (w1.alloc (.cells opArr 124)):=ee
 generalize hp7:w1.heap.size=p7 at o7 ⊢
 generalize (w1.alloc (.cells opArr 124))=w2 at o7 e2 ⊢
 refine drawK_intro ?_
 have eD:Ext w2 (Sw.drew w2):=(Ext.refl w2).drew
 have q5:=(e2.trans eD).obj o5
 have q7:=eD.obj o7
 have E2:=e1.trans (e2.trans eD)
 generalize (Sw.drew w2)=w3 at q5 q7 E2 ⊢
 clear eD
 unfold n45c14
 obtain ⟨c,hc⟩:∃ c:Nat,x.code=c:=⟨x.code.toNat,by have:=hx.code;omega⟩
 have hc10:c≤10:=by have:=hx.code;omega
 have hidx:∀ K:Value→Prop,qV Pg (EC w3) (Instr.indexAt 124 (.pointer (some ⟨p7,0,none⟩)) (.int .i64 x.code)) K=K (.pointer (some ⟨p7,c,none⟩)):=fun K=>qV_eqC fun w' _=>run_of_op fun QP kk=>by
  rw [hc]
  exact (op_indexArr Tryz.underlying124 ty9 p7 0 .i64 c (by omega)).trans (by rw [Nat.zero_add,Nat.mul_one])
 have hcell:w3.cell? ⟨p7,c,none⟩=some (.string (opN x.code)):=by rw [(cells_of_heap q7).1,opArr_get hc10,hc]
 simp (disch:=try exact DI) only [↓PR,QR,simprocAttr,(cells_of_heap q5).1,hidx,hcell]
 obtain ⟨wz,w5l,w4l,w3l⟩:=words_size hN hi hx
 have w4n:0 < (words4 d i x).length:=by
  have a1:words1 i x≠[]:=by simp [words1]
  have a2:words2 d i x≠[]:=by
   unfold words2
   split
   · simp
   · exact a1
  have a3:words3 d i x≠[]:=by
   unfold words3
   split
   · simp
   · exact a2
  refine List.length_pos_iff.2 ?_
  unfold words4
  split
  · simp
  · exact a3
 have last:∀ v u,OwnS u w3.heap.size v (words4 d i x)→Ext w3 u→callK Pg 32 #[v,.string ⟨#[32]⟩] (panK (retR fun r w'=>r=Value.string (lineB d i x)∧Ext w w')) u fun t94 w_1=>retR (fun r w'=>r=Value.string (lineB d i x)∧Ext w w') (Ending.returned t94) w_1:=by
  intro v u hO e
  have hz:=line_size hN hi hx
  refine zcr (Join_ret hO ⟨#[32]⟩ w4n (by omega) (Nat.le_trans hz (by decide))) fun u2 e2=>?_
  exact ⟨_,rfl,rfl,E2.trans (e.trans e2)⟩
 have fin2:∀ v u,OwnS u w3.heap.size v (words3 d i x)→Ext w3 u→n45c2 (.pointer (some ⟨p5,0,none⟩)) v (retR fun r w'=>r=Value.string (lineB d i x)∧Ext w w') u:=by
  intro v u hO e
  have q:=cells_of_heap (e.obj q5)
  have hto:=hx.to
  have last:=last
  unfold words4 at last
  unfold n45c2
  by_cases h0:0≤x.to
  · have d0:decide (x.to≥0)=true:=decide_eq_true h0
    rw [if_pos h0] at last
    simp (disch:=try exact DI) only [↓PR,QR,simprocAttr,q.1,d0,↓n45c1]
    refine zcr (Itoa_ret (hT.ext (E2.trans e)) x.to (by omega) (by omega)) fun u2 e2=>?_
    simp (disch:=try exact DI) only [↓PR,QR,simprocAttr]
    generalize hY:World.alloc u2 _=Y
    have eY:Ext u2 Y:=by rw [← hY];exact ee
    have oY:Y.cell? ⟨u2.heap.size,0,none⟩=some (.string (decB x.to)):=by rw [← hY,(cells_of_heap (heap_new _ _ _)).1];rfl
    clear hY
    have E3:=e.trans (e2.trans eY)
    refine append_str (decB x.to) (hO.ext (e2.trans eY)) oY E3.size (by omega) ?_
    intro v' u' hO' hg
    exact last v' u' hO' (E3.grown hg fun b hb=>(World.ownsRow.lt hO b hb).1)
  · have d0:decide (x.to≥0)=false:=decide_eq_false h0
    rw [if_neg h0] at last
    simp (disch:=try exact DI) only [↓PR,QR,simprocAttr,q.1,d0]
    exact last v u hO e
 have fin5:∀ v u,OwnS u w3.heap.size v (words2 d i x)→Ext w3 u→n45c5 (.pointer (some ⟨p5,0,none⟩)) v (retR fun r w'=>r=Value.string (lineB d i x)∧Ext w w') u:=by
  intro v u hO e
  have q:=cells_of_heap (e.obj q5)
  have hreg:=hx.reg
  have fin2:=fin2
  unfold words3 at fin2
  unfold n45c5
  by_cases h0:0≤x.reg
  · have d0:decide (x.reg≥0)=true:=decide_eq_true h0
    rw [if_pos h0] at fin2
    simp (disch:=try exact DI) only [↓PR,QR,simprocAttr,q.1,d0,↓n45c4]
    refine zcr (Itoa_ret (hT.ext (E2.trans e)) x.reg (by omega) (by omega)) fun u2 e2=>?_
    unfold n45c3
    rw [op_sadd' _ _ _ _ (by have:=decB_size (n:=x.reg) (by omega) (by omega);have h3:(⟨#[114]⟩:ByteArray).size=1:=rfl;omega)]
    simp (disch:=try exact DI) only [↓PR,QR,simprocAttr]
    generalize hY:World.alloc u2 _=Y
    have eY:Ext u2 Y:=by rw [← hY];exact ee
    have oY:Y.cell? ⟨u2.heap.size,0,none⟩=some (.string (⟨#[114]⟩++decB x.reg)):=by rw [← hY,(cells_of_heap (heap_new _ _ _)).1];rfl
    clear hY
    have E3:=e.trans (e2.trans eY)
    refine append_str (⟨#[114]⟩++decB x.reg) (hO.ext (e2.trans eY)) oY E3.size (by omega) ?_
    intro v' u' hO' hg
    exact fin2 v' u' hO' (E3.grown hg fun b hb=>(World.ownsRow.lt hO b hb).1)
  · have d0:decide (x.reg≥0)=false:=decide_eq_false h0
    rw [if_neg h0] at fin2
    simp (disch:=try exact DI) only [↓PR,QR,simprocAttr,q.1,d0]
    exact fin2 v u hO e
 refine zcr (Itoa_ret (hT.ext E2) i (by omega) (by omega)) fun w4 e4=>?_
 refine ⟨e4,?_⟩
 simp (disch:=try exact DI) only [↓PR,QR,simprocAttr]
 generalize hY:World.alloc w4 _=Y
 have eY:Ext w4 Y:=by rw [← hY];exact ee
 have hO1:OwnS Y w3.heap.size (.slice (some ⟨w4.heap.size,0,none⟩) 2 2) (words1 i x):=by
  rw [← hY]
  exact (OwnE.new w4 9 1 strEnc (words1 i x) (fun _=>rfl) (by simp [words1])).base e4.size
 clear hY
 have E4:=e4.trans eY
 refine ⟨E4,?_⟩
 generalize hv1:(Value.slice (some ⟨w4.heap.size,0,none⟩) 2 2)=v1 at hO1 ⊢
 unfold n45c13
 have q:=cells_of_heap (E4.obj q5)
 rcases hx.msg with ⟨hm,h8⟩ | ⟨mi,m,hm,hmi,hrest⟩
 · have d0:decide (x.msg≥0)=false:=decide_eq_false (by omega)
   have h0:¬ 0≤x.msg:=by omega
   simp (disch:=try exact DI) only [↓PR,QR,simprocAttr,q.1,d0]
   exact fin5 v1 Y (by unfold words2;rw [if_neg h0];exact hO1) E4
 · have d0:decide (x.msg≥0)=true:=decide_eq_true (by omega)
   have h0:0≤x.msg:=by omega
   simp (disch:=try exact DI) only [↓PR,QR,simprocAttr,q.1,d0]
   have hw2:words2 d i x=words1 i x++[nameX d x]:=by unfold words2;rw [if_pos h0]
   have hns:=nameX_size hN hx
   obtain ⟨mc,cv,rm,gm,hpb,_,_,_,hMN,_⟩:=h.ext (E2.trans E4)
   obtain ⟨A,c',rfl,hlc,hcm,hlm,hel⟩:=SliceOf.open hMN.plain
   obtain ⟨b,o,cs,rfl,_,hA,fv,rfl,hF⟩:=hel mi m hmi
   have hmil:=(List.getElem?_eq_some_iff.1 hmi).1
   have hfv:=SliceOf.oneCell hF
   have fin8:∀ u,Ext Y u→opV Pg (Builtin.append_ #[80,80] 80 #[v1,.slice (some ⟨u.heap.size,0,none⟩) 1 1]) (panK (retR fun r w'=>r=Value.string (lineB d i x)∧Ext w w')) (u.alloc (.cells #[.string (nameX d x)] 9)) fun t73 w_2=>n45c5 (.pointer (some ⟨p5,0,none⟩)) t73 (retR fun r w'=>r=Value.string (lineB d i x)∧Ext w w') w_2:=by
    intro u e
    generalize hZ:World.alloc u _=Z
    have eZ:Ext u Z:=by rw [← hZ];exact ee
    have oZ:Z.cell? ⟨u.heap.size,0,none⟩=some (.string (nameX d x)):=by rw [← hZ,(cells_of_heap (heap_new _ _ _)).1];rfl
    clear hZ
    have E5:=E4.trans (e.trans eZ)
    have hOZ:=hO1.ext (e.trans eZ)
    refine append_str (nameX d x) hOZ oZ E5.size (by simp [words1]) ?_
    intro v' u' hO' hg
    exact fin5 v' u' (by rw [hw2];exact hO') (E5.grown hg fun b hb=>(World.ownsRow.lt hOZ b hb).1)
   refine drawK_intro ?_
   have eD:Ext Y (Sw.drew Y):=(Ext.refl Y).drew
   generalize (Sw.drew Y)=Y1 at eD ⊢
   have q5':=(E4.trans eD).obj q5
   unfold n45c12
   simp (disch:=try exact DI) only [↓PR,QR,simprocAttr,(cells_of_heap q5').1,(cells_of_heap (eD.obj hpb)).1,hm,hA.c2 eD]
   refine ⟨ee,?_⟩
   refine turnK_intro ?_
   have o9:=heap_new Y1 #[.string m.name,fv] 53
   have eZ:Ext Y1 (Y1.alloc (.cells #[.string m.name,fv] 53)):=ee
   generalize (Y1.alloc (.cells #[.string m.name,fv] 53))=Z at o9 eZ ⊢
   generalize hp9:Y1.heap.size=p9 at o9 ⊢
   have q5'':=eZ.obj q5'
   have eYZ:=eD.trans eZ
   have hFZ:=FieldsOf.ext hF eYZ
   have hNm:=hN m (List.mem_of_getElem? hmi)
   obtain ⟨AF,cF,rfl,_,_,_,helF⟩:=SliceOf.open hF
   have fin9:∀ s,(x.code≠8→s=nameX d x)→n45c9 (.pointer (some ⟨p5,0,none⟩)) (.pointer (some ⟨p9,0,none⟩)) (.string s) v1 (fun t8 w_4=>n45c5 (.pointer (some ⟨p5,0,none⟩)) t8 (retR fun r w'=>r=Value.string (lineB d i x)∧Ext w w') w_4) (retR fun r w'=>r=Value.string (lineB d i x)∧Ext w w') Z:=by
    intro s hs
    unfold n45c9
    by_cases h8:x.code=8
    · have d8:(x.code == 8)=true:=by simp [h8]
      rcases hrest with ⟨_,hn8⟩ | ⟨k,f,hk,hfk,hn8 | ⟨j,cc,hj,hcc,hl0,hlh,hh⟩⟩
      · exact absurd h8 hn8
      · exact absurd h8 hn8
      have hkl:=(List.getElem?_eq_some_iff.1 hfk).1
      have hjl:=(List.getElem?_eq_some_iff.1 hcc).1
      obtain ⟨bF,oF,csF,rfl,_,hAF,tv,cv',rfl,hTF,hCF⟩:=helF k f hfk
      obtain ⟨AC,cC,rfl,_,_,_,helC⟩:=SliceOf.open hCF
      obtain ⟨bC,oC,csC,rfl,_,hAC,rfl⟩:=helC j cc hcc
      simp (disch:=try exact DI) only [↓PR,QR,simprocAttr,(cells_of_heap q5'').1,d8]
      refine drawK_intro ?_
      have eD2:Ext Z (Sw.drew Z):=(Ext.refl Z).drew
      have r5:=eD2.obj q5''
      have r9:=eD2.obj o9
      have E9:=eYZ.trans eD2
      generalize (Sw.drew Z)=Z1 at r5 r9 E9 ⊢
      unfold n45c8
      simp (disch:=try exact DI) only [↓PR,QR,simprocAttr,(cells_of_heap r5).1,(cells_of_heap r9).1,hk,hj,hAF.c15 E9,hAC.c3 E9]
      refine ⟨ee,?_⟩
      refine turnK_intro ?_
      refine drawK_intro ?_
      have o11:=heap_new Z1 #[.int .i64 cc.low,.int .i64 cc.high,.string cc.of] 85
      have eC:Ext Z1 (Z1.alloc (.cells #[.int .i64 cc.low,.int .i64 cc.high,.string cc.of] 85)):=ee
      generalize (Z1.alloc (.cells #[.int .i64 cc.low,.int .i64 cc.high,.string cc.of] 85))=Z2 at o11 eC ⊢
      have eD3:Ext Z2 (Sw.drew Z2):=(Ext.refl Z2).drew
      have r11:=eD3.obj o11
      have E10:=E9.trans (eC.trans eD3)
      generalize (Sw.drew Z2)=Z3 at r11 E10 ⊢
      unfold n45c7
      simp (disch:=try exact DI) only [↓PR,QR,simprocAttr,(cells_of_heap r11).1]
      have sl:=decB_size (n:=cc.low) (by omega) (by omega)
      have sh:=decB_size (n:=cc.high) (by omega) (by omega)
      have s1:(⟨#[45]⟩:ByteArray).size=1:=rfl
      refine zcr (Itoa_ret (hT.ext (E2.trans (E4.trans E10))) cc.low (by omega) (by omega)) fun u3 e3=>?_
      refine ⟨e3,?_⟩
      unfold n45c6
      rw [qV_sadd _ _ _ _ (by omega)]
      refine callK_ret (Itoa_ret (hT.ext (E2.trans (E4.trans (E10.trans e3)))) cc.high (by omega) (by omega)) ?_
      rintro _ u4 ⟨rfl,e4'⟩
      refine ⟨e3.trans e4',?_⟩
      rw [qV_sadd _ _ _ _ (by rw [size_append];omega)]
      have hname:decB cc.low++⟨#[45]⟩++decB cc.high=nameX d x:=by
       unfold nameX
       rw [hm,hk,hj,Int.toNat_natCast,hmi]
       simp only
       rw [if_neg (by omega),Int.toNat_natCast,hfk]
       simp only
       rw [if_pos h8,Int.toNat_natCast,hcc]
       rfl
      rw [hname]
      simp (disch:=try exact DI) only [↓PR,QR,simprocAttr]
      exact fin8 u4 (E10.trans (e3.trans e4'))
    · have d8:(x.code == 8)=false:=by simpa using h8
      simp (disch:=try exact DI) only [↓PR,QR,simprocAttr,(cells_of_heap q5'').1,d8]
      rw [hs h8]
      exact fin8 Z eYZ
   unfold n45c11
   rcases hrest with ⟨hfd,hn8⟩ | ⟨k,f,hk,hfk,hn8⟩
   · have d1:decide (x.field≥0)=false:=decide_eq_false (by omega)
     simp (disch:=try exact DI) only [↓PR,QR,simprocAttr,(cells_of_heap q5'').1,(cells_of_heap o9).1,d1]
     refine fin9 m.name fun _=>?_
     unfold nameX
     rw [hm,Int.toNat_natCast,hmi]
     simp only
     rw [if_pos (by omega)]
   · have d1:decide ((k:Int)≥0)=true:=decide_eq_true (by omega)
     have d2:decide (0≤(k:Int))=true:=decide_eq_true (by omega)
     have hkl:=(List.getElem?_eq_some_iff.1 hfk).1
     obtain ⟨bF,oF,csF,rfl,_,hAF,tv,cv',rfl,hTF,hCF⟩:=helF k f hfk
     have hf1:=hNm.2 f (List.mem_of_getElem? hfk)
     simp (disch:=try exact DI) only [↓PR,QR,simprocAttr,(cells_of_heap q5'').1,(cells_of_heap o9).1,d1,d2,↓n45c10,hk,hAF.c15 eYZ]
     have s1:(⟨#[46]⟩:ByteArray).size=1:=rfl
     rw [op_sadd' _ _ _ _ (by omega),op_sadd' _ _ _ _ (by rw [size_append];omega)]
     refine fin9 _ fun hn=>?_
     unfold nameX
     rw [hm,hk,Int.toNat_natCast,hmi]
     simp only
     rw [if_neg (by omega),Int.toNat_natCast,hfk]
     simp only
     rw [if_neg hn]
end
def n24c1 (t4 t5:Value) (K7:KV) (R:RT) (w:World):Prop :=
 opV Pg (Instr.fieldAt 53 t4 1) (panK R) w fun t70 w =>
 opV Pg (Instr.loadAt 51 t70) (panK R) w fun t71 w =>
 opV Pg (Instr.indexAt 51 t71 t5) (panK R) w fun t73 w =>
 opV Pg (Instr.fieldAt 71 t73 7) (panK R) w fun t74 w =>
 opV Pg (Instr.fieldAt 68 t74 1) (panK R) w fun t75 w =>
 opV Pg (Instr.loadAt 66 t75) (panK R) w fun t76 w =>
 opV Pg (Builtin.len_ #[66] 3 #[t76]) (panK R) w fun t77 w =>
 opV Pg (binS .gtr 3 true t77 (.int .i64 6)) (panK R) w fun t78 w =>
 K7 t78 w
def n24c2 (t4 t5 t58 t67:Value) (next5:KV) (R:RT) (w:World):Prop :=
 pickK t58 (.bool true) t67 fun t68 =>
 joinK (fun (t78:Value) (w:World) =>
 pickK t68 (.bool true) t78 fun t79 =>
 condP t79 (
 R (.returned (.bool false)) w) (
 opV Pg (binS .add 3 true t5 (.int .i64 1)) (panK R) w fun t50 w =>
 next5 t50 w)) fun K7 =>
 guardP t68 false (
 n24c1 t4 t5 K7 R w) (
 K7 undef w)
def n24c3 (t4 t5:Value) (K6:KV) (R:RT) (w:World):Prop :=
 opV Pg (Instr.fieldAt 53 t4 1) (panK R) w fun t60 w =>
 opV Pg (Instr.loadAt 51 t60) (panK R) w fun t61 w =>
 opV Pg (Instr.indexAt 51 t61 t5) (panK R) w fun t63 w =>
 opV Pg (Instr.fieldAt 71 t63 11) (panK R) w fun t64 w =>
 opV Pg (Instr.loadAt 69 t64) (panK R) w fun t65 w =>
 opV Pg (Builtin.len_ #[69] 3 #[t65]) (panK R) w fun t66 w =>
 opV Pg (binS .gtr 3 true t66 (.int .i64 20)) (panK R) w fun t67 w =>
 K6 t67 w
def n24c4 (t4 t5:Value) (next5:KV) (R:RT) (w:World):Prop :=
 opV Pg (Instr.fieldAt 53 t4 1) (panK R) w fun t51 w =>
 opV Pg (Instr.loadAt 51 t51) (panK R) w fun t52 w =>
 opV Pg (Instr.indexAt 51 t52 t5) (panK R) w fun t54 w =>
 opV Pg (Instr.fieldAt 71 t54 0) (panK R) w fun t55 w =>
 opV Pg (Instr.loadAt 9 t55) (panK R) w fun t56 w =>
 opV Pg (Builtin.len_ #[9] 3 #[t56]) (panK R) w fun t57 w =>
 opV Pg (binS .gtr 3 true t57 (.int .i64 100)) (panK R) w fun t58 w =>
 joinK (fun (t67:Value) (w:World) =>
 n24c2 t4 t5 t58 t67 next5 R w) fun K6 =>
 guardP t58 false (
 n24c3 t4 t5 K6 R w) (
 K6 undef w)
def n24c5 (t3 t4 t5:Value) (next3:KV) (next5:KV) (R:RT) (w:World):Prop :=
 opV Pg (Instr.fieldAt 53 t4 1) (panK R) w fun t45 w =>
 opV Pg (Instr.loadAt 51 t45) (panK R) w fun t46 w =>
 opV Pg (Builtin.len_ #[51] 3 #[t46]) (panK R) w fun t47 w =>
 opV Pg (binS .lss 3 false t5 t47) (panK R) w fun t48 w =>
 condP t48 (
 n24c4 t4 t5 next5 R w) (
 opV Pg (binS .add 3 true t3 (.int .i64 1)) (panK R) w fun t28 w =>
 next3 t28 w)
def n24c6 (t1 t3:Value) (next3:KV) (R:RT) (w:World):Prop :=
 opV Pg (Instr.fieldAt 24 t1 1) (panK R) w fun t29 w =>
 opV Pg (Instr.loadAt 22 t29) (panK R) w fun t30 w =>
 opV Pg (Instr.indexAt 22 t30 t3) (panK R) w fun t32 w =>
 opV Pg (Instr.loadAt 53 t32) (panK R) w fun t33 w =>
 opV Pg (Instr.alloc 53 true (.tuple #[])) (panK R) w fun t4 w =>
 opU Pg (Instr.storeAt 53 t4 t33) (panK R) w fun w =>
 opV Pg (Instr.fieldAt 53 t4 1) (panK R) w fun t34 w =>
 opV Pg (Instr.loadAt 51 t34) (panK R) w fun t35 w =>
 opV Pg (Builtin.len_ #[51] 3 #[t35]) (panK R) w fun t36 w =>
 opV Pg (binS .gtr 3 true t36 (.int .i64 20)) (panK R) w fun t37 w =>
 joinK (fun (t42:Value) (w:World) =>
 pickK t37 (.bool true) t42 fun t43 =>
 condP t43 (
 R (.returned (.bool false)) w) (
 loop1 (fun t5 w next5 =>
 n24c5 t3 t4 t5 next3 next5 R w) (.int .i64 0) w)) fun K4 =>
 guardP t37 false (
 opV Pg (Instr.fieldAt 53 t4 0) (panK R) w fun t39 w =>
 opV Pg (Instr.loadAt 9 t39) (panK R) w fun t40 w =>
 opV Pg (Builtin.len_ #[9] 3 #[t40]) (panK R) w fun t41 w =>
 opV Pg (binS .gtr 3 true t41 (.int .i64 100)) (panK R) w fun t42 w =>
 K4 t42 w) (
 K4 undef w)
def n24c7 (t1 t3:Value) (next3:KV) (R:RT) (w:World):Prop :=
 opV Pg (Instr.fieldAt 24 t1 1) (panK R) w fun t23 w =>
 opV Pg (Instr.loadAt 22 t23) (panK R) w fun t24 w =>
 opV Pg (Builtin.len_ #[22] 3 #[t24]) (panK R) w fun t25 w =>
 opV Pg (binS .lss 3 false t3 t25) (panK R) w fun t26 w =>
 condP t26 (
 n24c6 t1 t3 next3 R w) (
 R (.returned (.bool true)) w)
def n24c8 (t1 t9 t14:Value) (R:RT) (w:World):Prop :=
 pickK t9 (.bool true) t14 fun t15 =>
 joinK (fun (t20:Value) (w:World) =>
 pickK t15 (.bool true) t20 fun t21 =>
 condP t21 (
 R (.returned (.bool false)) w) (
 loop1 (fun t3 w next3 =>
 n24c7 t1 t3 next3 R w) (.int .i64 0) w)) fun K2 =>
 guardP t15 false (
 opV Pg (Instr.fieldAt 24 t1 2) (panK R) w fun t17 w =>
 opV Pg (Instr.loadAt 9 t17) (panK R) w fun t18 w =>
 opV Pg (Builtin.len_ #[9] 3 #[t18]) (panK R) w fun t19 w =>
 opV Pg (binS .gtr 3 true t19 (.int .i64 100)) (panK R) w fun t20 w =>
 K2 t20 w) (
 K2 undef w)
def n24 (t0:Value) (R:RT) (w:World):Prop :=
 opV Pg (Instr.box 24 t0) (panK R) w fun t1 w =>
 opV Pg (Instr.fieldAt 24 t1 1) (panK R) w fun t6 w =>
 opV Pg (Instr.loadAt 22 t6) (panK R) w fun t7 w =>
 opV Pg (Builtin.len_ #[22] 3 #[t7]) (panK R) w fun t8 w =>
 opV Pg (binS .gtr 3 true t8 (.int .i64 12)) (panK R) w fun t9 w =>
 joinK (fun (t14:Value) (w:World) =>
 n24c8 t1 t9 t14 R w) fun K1 =>
 guardP t9 false (
 opV Pg (Instr.fieldAt 24 t1 0) (panK R) w fun t11 w =>
 opV Pg (Instr.loadAt 9 t11) (panK R) w fun t12 w =>
 opV Pg (Builtin.len_ #[9] 3 #[t12]) (panK R) w fun t13 w =>
 opV Pg (binS .gtr 3 true t13 (.int .i64 100)) (panK R) w fun t14 w =>
 K1 t14 w) (
 K1 undef w)
set_option maxHeartbeats 40000000 in
theorem n24s {t0:Value} {R:RT} {w:World} (h:n24 t0 R w):Calls Pg 8 #[t0] w R:=by
 refine yD Tryz.func8 ?_
 refine zs<|zr<|yv h fun _ w h=>zm<|zn<|zk<|zs<|zs<|sim_regionG<|yG 5<|yv h fun _ w h=>yv h fun _ w h=>yx h fun _ w h=>yb h fun _ w h=>zm ?_
 refine zn<|yg1 4 4 false [11,12,13,14] 14 h (fun _ T hT h=>?_) fun σ w h=>?_
 · refine yv h fun _ w h=>yv h fun _ w h=>yx h fun _ w h=>yb h fun _ w h=>zn ?_
   exact zt hT h
 refine yG 2<|yp h fun _ h=>zm<|zn<|yg1 4 10 false [17,18,19,20] 20 h (fun _ T hT h=>?_) fun σ w h=>?_
 · refine yv h fun _ w h=>yv h fun _ w h=>yx h fun _ w h=>yb h fun _ w h=>zn ?_
   exact zt hT h
 refine yG 1<|yp h fun _ h=>zn<|sim_end<|zk<|yC h (fun h=>zs<|zr<|zm<|zn<|zk<|sim_ret<|sim_then_ret<|body_ret1 rfl rfl h) fun h=>sim_skip<|zk<|zs<|zs<|zr<|zm<|zn<|zk ?_
 refine sim_block<|yl1 [2,3,4,5,22,23,24,25,26,27,28,29,30,31,32,33,34,35,36,37,38,39,40,41,42,43,44,45,46,47,48,49,50,51,52,53,54,55,56,57,58,59,60,61,62,63,64,65,66,67,68,69,70,71,72,73,74,75,76,77,78,79] 3 h fun σ w next h=>zs<|zs<|zr<|zm<|yv h fun _ w h=>yv h fun _ w h=>yx h fun _ w h=>yb h fun _ w h=>zn<|zk<|yC h (fun h=>?_) fun h=>?_
 · refine sim_skip<|zk<|zs<|sim_block<|zs<|zr<|yv h fun _ w h=>yv h fun _ w h=>zm<|yv h fun _ w h=>yv h fun _ w h=>yv h fun _ w h=>yu h fun w h=>zn<|zk ?_
   refine zs<|zs<|sim_regionG<|yG 5<|yv h fun _ w h=>yv h fun _ w h=>yx h fun _ w h=>yb h fun _ w h=>zm<|zn<|yg1 4 4 false [39,40,41,42] 42 h (fun _ T hT h=>?_) fun σ w h=>?_
   · refine yv h fun _ w h=>yv h fun _ w h=>yx h fun _ w h=>yb h fun _ w h=>zn ?_
     exact zt hT h
   refine yG 1<|yp h fun _ h=>zn<|sim_end<|zk<|yC h (fun h=>zs<|zr<|zm<|zn<|zk<|sim_ret<|sim_then_ret<|sim_block_ret<|sim_then_ret<|sim_then_ret<|sim_block_ret<|sim_then_ret<|body_ret1 rfl rfl h) fun h=>sim_skip<|zk<|zs<|zr<|zm<|zn<|zk<|sim_block ?_
   refine yl1 [2,5,44,45,46,47,48,49,50,51,52,53,54,55,56,57,58,59,60,61,62,63,64,65,66,67,68,69,70,71,72,73,74,75,76,77,78,79] 5 h fun σ w next h=>zs<|zs<|zr<|zm<|yv h fun _ w h=>yv h fun _ w h=>yx h fun _ w h=>yb h fun _ w h=>zn<|zk<|yC h (fun h=>?_) fun h=>?_
   · refine sim_skip<|zk<|zs<|sim_block<|zs<|sim_regionG<|yG 9<|yv h fun _ w h=>yv h fun _ w h=>zm<|yv h fun _ w h=>yv h fun _ w h=>yv h fun _ w h=>yx h fun _ w h=>yb h fun _ w h=>?_
     refine zm<|zn<|yg1 8 8 false [60,61,62,63,64,65,66,67] 67 h (fun _ T hT h=>?_) fun σ w h=>?_
     · refine yv h fun _ w h=>yv h fun _ w h=>zm<|yv h fun _ w h=>yv h fun _ w h=>yv h fun _ w h=>yx h fun _ w h=>yb h fun _ w h=>zn ?_
       exact zt hT h
     refine yG 2<|yp h fun _ h=>zm<|zn<|yg1 9 18 false [70,71,72,73,74,75,76,77,78] 78 h (fun _ T hT h=>?_) fun σ w h=>?_
     · refine yv h fun _ w h=>yv h fun _ w h=>zm<|yv h fun _ w h=>yv h fun _ w h=>yv h fun _ w h=>yv h fun _ w h=>yx h fun _ w h=>yb h fun _ w h=>zn ?_
       exact zt hT h
     refine yG 1<|yp h fun _ h=>zn<|sim_end<|zk<|yC h (fun h=>?_) fun h=>?_
     · refine zs<|zr<|zm<|zn<|zk<|sim_ret<|sim_block_ret<|sim_then_ret<|sim_then_ret<|sim_block_ret<|sim_block_ret<|sim_then_ret<|sim_then_ret<|sim_block_ret<|sim_then_ret ?_
       exact body_ret1 rfl rfl h
     exact sim_skip<|sim_block_normal<|zk<|zr<|zm<|yb h fun _ w h=>zm<|zn<|zk<|⟨rfl,h⟩
   exact sim_exit<|sim_then_exit<|sim_then_exit<|sim_block_hit<|sim_block_normal<|zk<|zr<|zm<|yb h fun _ w h=>zm<|zn<|zk<|⟨rfl,h⟩
 exact sim_exit<|sim_then_exit<|sim_then_exit<|sim_block_hit<|zk<|zs<|zr<|zm<|zn<|zk<|sim_ret<|body_ret1 rfl rfl h
def n20c1 (t76:Value) (K7:KV) (R:RT) (w:World):Prop :=
 opV Pg (binS .eql 9 true t76 (.string { data := #[48,32,99,97,108,108,32,53,10,49,32,115,116,111,112,10,50,32,101,110,116,101,114,32,97,10,51,32,114,101,97,100,32,97,46,120,10,52,32,114,101,116,117,114,110,32,97,10,53,32,101,110,116,101,114,32,115,10,54,32,114,101,97,100,32,115,46,110,32,114,48,10,55,32,114,101,97,100,32,115,46,116,32,114,49,10,56,32,109,97,110,121,32,115,46,108,32,50,10,57,32,115,101,108,101,99,116,32,115,46,99,10,49,48,32,99,97,115,101,32,50,45,50,32,50,10,49,49,32,114,101,116,117,114,110,32,115] })) (panK R) w fun t77 w =>
 K7 t77 w
def n20c2 (t14 t68 t72:Value) (R:RT) (w:World):Prop :=
 pickK t68 t72 (.bool false) fun t73 =>
 joinK (fun (t77:Value) (w:World) =>
 pickK t73 t77 (.bool false) fun t78 =>
 R (.returned t78) w) fun K7 =>
 guardP t73 true (
 callK Pg 11 #[t14] (panK R) w fun t76 w =>
 n20c1 t76 K7 R w) (
 K7 undef w)
def n20c3 (t14 t42 t57 t67:Value) (R:RT) (w:World):Prop :=
 pickK t57 t67 (.bool false) fun t68 =>
 joinK (fun (t72:Value) (w:World) =>
 n20c2 t14 t68 t72 R w) fun K6 =>
 guardP t68 true (
 callK Pg 15 #[t42] (panK R) w fun t71 w =>
 opV Pg (binS .eql 3 true t71 (.int .i64 9)) (panK R) w fun t72 w =>
 K6 t72 w) (
 K6 undef w)
def n20c4 (t37 t60 t62:Value) (K5:KV) (R:RT) (w:World):Prop :=
 opV Pg (binS .add 3 false t60 t62) (panK R) w fun t63 w =>
 callK Pg 15 #[t37] (panK R) w fun t65 w =>
 opV Pg (binS .add 3 false t63 t65) (panK R) w fun t66 w =>
 opV Pg (binS .eql 3 true t66 (.int .i64 0)) (panK R) w fun t67 w =>
 K5 t67 w
def n20c5 (t14 t27 t32 t37 t42 t53 t56:Value) (R:RT) (w:World):Prop :=
 pickK t53 t56 (.bool false) fun t57 =>
 joinK (fun (t67:Value) (w:World) =>
 n20c3 t14 t42 t57 t67 R w) fun K5 =>
 guardP t57 true (
 callK Pg 15 #[t27] (panK R) w fun t60 w =>
 callK Pg 15 #[t32] (panK R) w fun t62 w =>
 n20c4 t37 t60 t62 K5 R w) (
 K5 undef w)
def n20c6 (t14 t27 t32 t36 t37 t42 t49 t52:Value) (R:RT) (w:World):Prop :=
 pickK t49 t52 (.bool false) fun t53 =>
 joinK (fun (t56:Value) (w:World) =>
 n20c5 t14 t27 t32 t37 t42 t53 t56 R w) fun K4 =>
 guardP t53 true (
 opV Pg (binS .eql 3 true t36 (.int .i64 0)) (panK R) w fun t56 w =>
 K4 t56 w) (
 K4 undef w)
def n20c7 (t14 t27 t31 t32 t36 t37 t42 t45 t48:Value) (R:RT) (w:World):Prop :=
 pickK t45 t48 (.bool false) fun t49 =>
 joinK (fun (t52:Value) (w:World) =>
 n20c6 t14 t27 t32 t36 t37 t42 t49 t52 R w) fun K3 =>
 guardP t49 true (
 opV Pg (binS .eql 3 true t31 (.int .i64 2)) (panK R) w fun t52 w =>
 K3 t52 w) (
 K3 undef w)
def n20c8 (t14 t26 t27 t31 t32 t36 t37 t42 t44:Value) (R:RT) (w:World):Prop :=
 opV Pg (binS .eql 3 true t44 (.int .i64 12)) (panK R) w fun t45 w =>
 joinK (fun (t48:Value) (w:World) =>
 n20c7 t14 t27 t31 t32 t36 t37 t42 t45 t48 R w) fun K2 =>
 guardP t45 true (
 opV Pg (binS .eql 3 true t26 (.int .i64 5)) (panK R) w fun t48 w =>
 K2 t48 w) (
 K2 undef w)
def n20c9 (t14 t26 t27 t31 t32 t36 t37 t40:Value) (R:RT) (w:World):Prop :=
 opV Pg (Instr.extract t40 0) (panK R) w fun t41 w =>
 opV Pg (Instr.extract t40 1) (panK R) w fun t42 w =>
 callK Pg 17 #[t14] (panK R) w fun t44 w =>
 n20c8 t14 t26 t27 t31 t32 t36 t37 t42 t44 R w
def n20c10 (t14 t26 t27 t31 t32 t35:Value) (R:RT) (w:World):Prop :=
 opV Pg (Instr.extract t35 0) (panK R) w fun t36 w =>
 opV Pg (Instr.extract t35 1) (panK R) w fun t37 w =>
 callK Pg 22 #[t14,(.string { data := #[98] })] (panK R) w fun t40 w =>
 n20c9 t14 t26 t27 t31 t32 t36 t37 t40 R w
def n20c11 (t14 t26 t27 t30:Value) (R:RT) (w:World):Prop :=
 opV Pg (Instr.extract t30 0) (panK R) w fun t31 w =>
 opV Pg (Instr.extract t30 1) (panK R) w fun t32 w =>
 callK Pg 21 #[t14,(.string { data := #[97] })] (panK R) w fun t35 w =>
 n20c10 t14 t26 t27 t31 t32 t35 R w
def n20c12 (t14 t25:Value) (R:RT) (w:World):Prop :=
 opV Pg (Instr.extract t25 0) (panK R) w fun t26 w =>
 opV Pg (Instr.extract t25 1) (panK R) w fun t27 w =>
 callK Pg 21 #[t14,(.string { data := #[115] })] (panK R) w fun t30 w =>
 n20c11 t14 t26 t27 t30 R w
def n20c13 (t14 t18 t21:Value) (R:RT) (w:World):Prop :=
 pickK t18 (.bool true) t21 fun t22 =>
 condP t22 (
 R (.returned (.bool false)) w) (
 callK Pg 22 #[t14,(.string { data := #[115] })] (panK R) w fun t25 w =>
 n20c12 t14 t25 R w)
def n20c14 (t14 t17:Value) (R:RT) (w:World):Prop :=
 opV Pg (binS .neq 3 true t17 (.int .i64 0)) (panK R) w fun t18 w =>
 joinK (fun (t21:Value) (w:World) =>
 n20c13 t14 t18 t21 R w) fun K1 =>
 guardP t18 false (
 opV Pg (binS .eql 27 true t14 (Value.pointer none)) (panK R) w fun t21 w =>
 K1 t21 w) (
 K1 undef w)
def n20c15 (t13:Value) (R:RT) (w:World):Prop :=
 opV Pg (Instr.extract t13 0) (panK R) w fun t14 w =>
 opV Pg (Instr.extract t13 1) (panK R) w fun t15 w =>
 callK Pg 15 #[t15] (panK R) w fun t17 w =>
 n20c14 t14 t17 R w
def n20 (R:RT) (w:World):Prop :=
 callK Pg 30 #[] (panK R) w fun t12 w =>
 callK Pg 20 #[t12] (panK R) w fun t13 w =>
 n20c15 t13 R w
theorem n20s {R:RT} {w:World} (h:n20 R w):Calls Pg 9 #[] w R:=by
 refine yD Tryz.func9 ?_
 refine zs<|zr<|zm<|zn<|zk<|zs<|zr<|yc h c30 fun _ w h=>yc h c20 fun _ w h=>zm<|yv h fun _ w h=>yv h fun _ w h=>zm<|zm<|zn ?_
 refine zk<|zs<|zs<|sim_regionG<|yG 4<|zm<|yc h c15 fun _ w h=>yb h fun _ w h=>zm<|zn<|yg1 2 3 false [20,21] 21 h (fun _ T hT h=>?_) fun σ w h=>?_
 · refine zm<|yb h fun _ w h=>zn ?_
   exact zt hT h
 refine yG 1<|yp h fun _ h=>zn<|sim_end<|zk<|yC h (fun h=>zs<|zr<|zm<|zn<|zk<|sim_ret<|sim_then_ret<|body_ret1 rfl rfl h) fun h=>sim_skip<|zk<|zs<|zr<|zm<|yc h c22 fun _ w h=>zm<|yv h fun _ w h=>?_
 refine yv h fun _ w h=>zm<|zm<|zn<|zk<|zs<|zr<|zm<|yc h c21 fun _ w h=>zm<|yv h fun _ w h=>yv h fun _ w h=>zm<|zm<|zn ?_
 refine zk<|zs<|zr<|zm<|yc h c21 fun _ w h=>zm<|yv h fun _ w h=>yv h fun _ w h=>zm<|zm<|zn<|zk<|zs<|zr<|zm ?_
 refine yc h c22 fun _ w h=>zm<|yv h fun _ w h=>yv h fun _ w h=>zm<|zm<|zn<|zk<|zs<|sim_regionG<|yG 4<|zm<|yc h c17 fun _ w h=>yb h fun _ w h=>zm ?_
 refine zn<|yg1 2 3 true [47,48] 48 h (fun _ T hT h=>?_) fun σ w h=>?_
 · refine zm<|yb h fun _ w h=>zn ?_
   exact zt hT h
 refine yG 2<|yp h fun _ h=>zm<|zn<|yg1 2 7 true [51,52] 52 h (fun _ T hT h=>?_) fun σ w h=>?_
 · refine zm<|yb h fun _ w h=>zn ?_
   exact zt hT h
 refine yG 2<|yp h fun _ h=>zm<|zn<|yg1 2 11 true [55,56] 56 h (fun _ T hT h=>?_) fun σ w h=>?_
 · refine zm<|yb h fun _ w h=>zn ?_
   exact zt hT h
 refine yG 2<|yp h fun _ h=>zm<|zn<|yg1 9 15 true [59,60,61,62,63,64,65,66,67] 67 h (fun _ T hT h=>?_) fun σ w h=>?_
 · refine zm<|yc h c15 fun _ w h=>zm<|yc h c15 fun _ w h=>yb h fun _ w h=>zm<|yc h c15 fun _ w h=>yb h fun _ w h=>yb h fun _ w h=>zn ?_
   exact zt hT h
 refine yG 2<|yp h fun _ h=>zm<|zn<|yg1 3 26 true [70,71,72] 72 h (fun _ T hT h=>?_) fun σ w h=>?_
 · refine zm<|yc h c15 fun _ w h=>yb h fun _ w h=>zn ?_
   exact zt hT h
 refine yG 2<|yp h fun _ h=>zm<|zn<|yg1 3 31 true [75,76,77] 77 h (fun _ T hT h=>?_) fun σ w h=>?_
 · refine zm<|yc h c11 fun _ w h=>yb h fun _ w h=>zn ?_
   exact zt hT h
 exact yG 2<|yp h fun _ h=>zm<|zn<|sim_end<|zk<|sim_ret<|body_ret1 rfl rfl h
def n21c1 (t9 t10:Value) (R:RT) (w:World):Prop :=
 opV Pg (binS .eql 27 true t9 (Value.pointer none)) (panK R) w fun t15 w =>
 joinK (fun (t19:Value) (w:World) =>
 pickK t15 t19 (.bool false) fun t20 =>
 R (.returned (.tuple #[(Value.pointer none),t20])) w) fun K1 =>
 guardP t15 true (
 callK Pg 15 #[t10] (panK R) w fun t18 w =>
 opV Pg (binS .eql 3 true t18 (.int .i64 2)) (panK R) w fun t19 w =>
 K1 t19 w) (
 K1 undef w)
def n21c2 (t9 t10:Value) (R:RT) (w:World):Prop :=
 opV Pg (binS .neq 27 true t9 (Value.pointer none)) (panK R) w fun t23 w =>
 joinK (fun (t27:Value) (w:World) =>
 pickK t23 t27 (.bool false) fun t28 =>
 R (.returned (.tuple #[t9,t28])) w) fun K2 =>
 guardP t23 true (
 callK Pg 15 #[t10] (panK R) w fun t26 w =>
 opV Pg (binS .eql 3 true t26 (.int .i64 0)) (panK R) w fun t27 w =>
 K2 t27 w) (
 K2 undef w)
def n21c3 (t1 t8:Value) (R:RT) (w:World):Prop :=
 opV Pg (Instr.extract t8 0) (panK R) w fun t9 w =>
 opV Pg (Instr.extract t8 1) (panK R) w fun t10 w =>
 opV Pg (Instr.loadAt 24 t1) (panK R) w fun t11 w =>
 callK Pg 19 #[t11] (panK R) w fun t12 w =>
 opV Pg (Op.unary .not t12) (panK R) w fun t13 w =>
 condP t13 (
 n21c1 t9 t10 R w) (
 n21c2 t9 t10 R w)
def n21 (t0:Value) (R:RT) (w:World):Prop :=
 opV Pg (Instr.box 24 t0) (panK R) w fun t1 w =>
 opV Pg (Instr.loadAt 24 t1) (panK R) w fun t7 w =>
 callK Pg 20 #[t7] (panK R) w fun t8 w =>
 n21c3 t1 t8 R w
theorem n21s {t0:Value} {R:RT} {w:World} (h:n21 t0 R w):Calls Pg 10 #[t0] w R:=by
 refine yD Tryz.func10 ?_
 refine zs<|zr<|yv h fun _ w h=>zm<|zm<|zn<|zk<|zs<|zr<|yv h fun _ w h=>yc h c20 fun _ w h=>zm<|yv h fun _ w h=>yv h fun _ w h=>zm ?_
 refine zm<|zn<|zk<|zs<|zs<|zr<|yv h fun _ w h=>yc h c19 fun _ w h=>yv h fun _ w h=>zn<|zk<|yC h (fun h=>?_) fun h=>?_
 · refine zs<|sim_regionG<|yG 3<|zm<|yb h fun _ w h=>zm<|zn<|yg1 3 2 true [17,18,19] 19 h (fun _ T hT h=>?_) fun σ w h=>?_
   · refine zm<|yc h c15 fun _ w h=>yb h fun _ w h=>zn ?_
     exact zt hT h
   exact yG 3<|yp h fun _ h=>zm<|zm<|zn<|sim_end<|zk<|sim_ret<|sim_then_ret<|body_ret2 rfl rfl rfl h
 refine sim_skip<|zk<|zs<|sim_regionG<|yG 4<|zm<|zm<|yb h fun _ w h=>zm<|zn<|yg1 3 3 true [25,26,27] 27 h (fun _ T hT h=>?_) fun σ w h=>?_
 · refine zm<|yc h c15 fun _ w h=>yb h fun _ w h=>zn ?_
   exact zt hT h
 exact yG 3<|yp h fun _ h=>zm<|zm<|zn<|sim_end<|zk<|sim_ret<|body_ret2 rfl rfl rfl h
def n43c1 (t3 t10 t14:Value) (C2:World→Prop) (Kr1:World→Prop) (Qr1:List PanicEntry→World→Prop) (R:RT) (w:World):Prop :=
 opV Pg (Instr.buildSlice 80 1 #[(0,t14)]) Qr1 w fun t15 w =>
 C2 w∧(
 opV Pg (Builtin.append_ #[80,80] 80 #[t10,t15]) Qr1 w fun t16 w =>
 C2 w∧(
 opU Pg (Instr.storeAt 80 t3 t16) Qr1 w fun w =>
 turnK w fun C3 w =>
 Kr1 w))
def n43c2 (t1 t3 t5 t8:Value) (C2:World→Prop) (Kr1:World→Prop) (Qr1:List PanicEntry→World→Prop) (R:RT) (w:World):Prop :=
 qV Pg C2 (Instr.loadAt 80 t3) fun t10 =>
 qV Pg C2 (Instr.loadAt 27 t1) fun t11 =>
 qV Pg C2 (Instr.loadAt 36 t5) fun t13 =>
 callK Pg 31 #[t11,t8,t13] Qr1 w fun t14 w =>
 C2 w∧(
 n43c1 t3 t10 t14 C2 Kr1 Qr1 R w)
def n43c3 (t1 t3 t8 t9:Value) (Kr1:World→Prop) (Qr1:List PanicEntry→World→Prop) (l1:Nat) (R:RT) (w:World):Prop :=
 opV Pg (Instr.alloc 36 true (.tuple #[])) (fun _ _=>False) w fun t5 w =>
 opU Pg (Instr.storeAt 36 t5 t9) (fun _ _=>False) w fun w =>
 busyK l1 w fun w =>
 drawK w fun C2 w =>
 n43c2 t1 t3 t5 t8 C2 Kr1 Qr1 R w
def n43c4 (t3:Value) (ds:List Deferred) (R:RT) (w:World):Prop :=
 opV Pg (Instr.loadAt 80 t3) (outQ Pg ds [(none,(.string { data := #[] }))] R) w fun t17 w =>
 callK Pg 32 #[t17,(.string { data := #[10] })] (outQ Pg ds [(none,(.string { data := #[] }))] R) w fun t18 w =>
 outX Pg ds [(none,t18)] R w
def n43c5 (t1 t3 t7:Value) (ds:List Deferred) (R:RT) (w:World):Prop :=
 rangeN5 Pg t7 ds (fun l1 t8 t9 w Kr1 Xr1 Qr1 =>
 n43c3 t1 t3 t8 t9 Kr1 Qr1 l1 R w) (fun ch ds w=>outQ Pg ds [(none,(.string { data := #[] }))] R ch w) w (fun ds w =>
 n43c4 t3 ds R w) []
def n43 (t0:Value) (R:RT) (w:World):Prop :=
 (fun (ds:List Deferred) =>
 opV Pg (Instr.box 27 t0) (outQ Pg ds [(none,undef)] R) w fun t1 w =>
 opV Pg (Instr.alloc 80 true (.tuple #[])) (outQ Pg ds [(none,(.string { data := #[] }))] R) w fun t3 w =>
 opV Pg (Instr.loadAt 27 t1) (outQ Pg ds [(none,(.string { data := #[] }))] R) w fun t6 w =>
 callK Pg 16 #[t6] (outQ Pg ds [(none,(.string { data := #[] }))] R) w fun t7 w =>
 n43c5 t1 t3 t7 ds R w) []
theorem n43s {t0:Value} {R:RT} {w:World} (h:n43 t0 R w):Calls Pg 11 #[t0] w R:=by
 refine yE Tryz.func11 ?_
 unfold n43 at h
 dsimp only at h
 refine zs<|zr<|yv h fun _ w h=>zm<|zn<|zk<|zs<|zr<|yv h fun _ w h=>zn<|zk<|zs<|zs<|zr<|yv h fun _ w h=>?_
 refine yc h c16 fun _ w h=>zn<|zk<|sim_block<|sim_range5 [] h rfl (fun l1 t8 t9 w Kr1 Xr1 Qr1 h=>?_) (fun ds w h=>?_) (fun c ds w h=>?_) (fun ch ds w h=>outQ_of rfl h)
 · refine zs<|zr<|zm<|zn<|zk<|zr<|yv h fun _ w h=>yu h fun w h=>zn<|zk ?_
   obtain ⟨hr,h⟩:=h
   refine ⟨rfl,hr,fun w hb=>?_⟩
   have h:=h w hb
   refine sim_block<|yh [10,11,12,13,14,15,16] h fun C hC h=>ye 0 hC h fun _ h=>?_
   refine ye 1 hC h fun _ h=>?_
   refine yw 2 hC ?_
   refine ye 3 hC h fun _ h=>?_
   refine yo 4 ?_
   refine yc h c31 fun _ w h=>zn ?_
   obtain ⟨hC,h⟩:=h
   refine ⟨hC,?_⟩
   refine yo 5 ?_
   refine yS h fun _ w h=>zn ?_
   obtain ⟨hC,h⟩:=h
   refine ⟨hC,?_⟩
   refine yo 6 ?_
   refine yx h fun _ w h=>zn ?_
   obtain ⟨hC,h⟩:=h
   refine ⟨hC,?_⟩
   refine yq 7 1 ?_
   refine yu h fun w h=>zn ?_
   obtain ⟨C3,hC,h⟩:=h
   refine ⟨C3,hC,?_⟩
   exact yz<|sim_block_normal<|⟨rfl,h⟩
 · exact sim_block_normal<|zk<|zs<|zr<|yv h fun _ w h=>yc h c32 fun _ w h=>zm<|zn<|zk<|sim_ret<|bodyM_ret rfl h
 exact h.elim
theorem lasts2_sv {B lo hi:Nat} {W:World} (hB:W.heap.size≤B):Lasts2 B (Save lo hi W):=fun w w' hl e=>⟨hl.os.trans e.os,hl.tape.trans e.tape,hl.output.trans e.output,Nat.le_trans e.size hl.size,fun k hk hb=>by
 have:=e.size
 rcases hl.block k (by omega) with h | ⟨h,_⟩
 · rw [h];exact e.block k hk hb
 · omega⟩
theorem lasts2_own {α:Type} {B base n:Nat} {T:TypeId} {enc:α→List Value} {v:Value} {l:List α}:Lasts2 B (fun w=>OwnE w base T n enc v l):=fun w w' hl h=>by
 refine ⟨h.1,?_⟩
 rcases h.2 with h1 | ⟨g,cap,cur,h1,h2,h3,h4⟩
 · exact .inl h1
 · exact .inr ⟨g,cap,cur,h1,h2,Lasts2.has B (by simp) (by simp) w w' hl h3,h4⟩
theorem Save.grown {lo hi:Nat} {w w1 w2:World} {row:Option Nat} (h:Save lo hi w w1) (hg:w1.grownBy w2 row) (hr:∀ g,row=some g→w.heap.size≤g):Save lo hi w w2:=⟨hg.os.trans h.os,hg.tape.trans h.tape,hg.output.trans h.output,Nat.le_trans h.size hg.size,fun k hk hb=>(hg.block k (by have:=h.size;omega) (fun e=>by have:=hr k e.symm;omega)).trans (h.block k hk hb)⟩
theorem own_row {α:Type} {w:World} {base n:Nat} {T:TypeId} {enc:α→List Value} {v:Value} {l:List α} (h:OwnE w base T n enc v l) {g:Nat} (hg:v.ownBlock=some g):∃ cur,w.heap[g]?=some (.cells cur T (0,0)):=by
 rcases h.2 with ⟨rfl,_⟩ | ⟨g',cap,cur,rfl,_,h3,_⟩
 · cases hg
 · have:g'=g:=by injection hg
   subst this
   exact ⟨cur,h3⟩
theorem row_apart {α:Type} {w w':World} {base n:Nat} {T:TypeId} {enc:α→List Value} {v:Value} {l:List α} (h:OwnE w base T n enc v l) (hg:w.grownBy w' v.ownBlock) {b:Nat} {cs:Array Value} {T':TypeId} (hb:w.heap[b]?=some (.cells cs T' (0,0))) (hT:T'≠T):w'.heap[b]?=some (.cells cs T' (0,0)):=(hg.block b (Array.getElem?_eq_some_iff.1 hb).1 (fun e=>by
 obtain ⟨cur,hc⟩:=own_row h e.symm
 rw [hb] at hc
 injection hc with hc
 injection hc with _ hc
 exact hT hc)).trans hb
section
variable {w:World} {lo pb:Nat} {d:DefD}
theorem Text_ret (h:ProgAt w lo pb d) (hT:TabOK w) (hN:Names100 d) (hc:(checkP d).2.2=0) (hz:sizeP d≤100000):Ret Pg 11 #[.pointer (some ⟨pb,0,none⟩)] w fun r w'=>r = .string (textN d (codeP d) (sizeP d))∧Ext w w':=by
 have hlen:=codeP_len d
 have hok:=code_ok hc hz
 refine n43s (R:=retR _) ?_;unfold n43
 dsimp only
 simp (disch:=try exact DI) only [↓PR,QR,simprocAttr]
 generalize hV:World.alloc (World.alloc w _) _=W
 have eW:Ext w W:=by rw [← hV];exact ee
 have o1:W.heap[w.heap.size]?=some (.cells #[.pointer (some ⟨pb,0,none⟩)] 27 (0,0)):=by rw [← hV];simp (disch:=try exact DI) only [↓PR,QR,simprocAttr]
 have o3:W.heap[w.heap.size+1]?=some (.cells #[.slice none 0 0] 80 (0,0)):=by rw [← hV];simp (disch:=try exact DI) only [↓PR,QR,simprocAttr]
 clear hV
 simp only [World.size_alloc]
 have sW:=(Array.getElem?_eq_some_iff.1 o3).1
 generalize hp1:w.heap.size=p1 at *
 generalize hp3:p1+1=p3 at *
 refine callK_ret (Each_ret (h.ext eW) hz) ?_
 rintro _ w2 ⟨⟨e,v0,rfl,he,hI0⟩,e2⟩
 have E2:=eW.trans e2
 have x1:=e2.obj o1
 have x3:=e2.obj o3
 have s2:=e2.size
 unfold n43c5
 let I:Nat→World→Prop:=fun k w'=>k≤sizeP d∧Save p3 (p3+1) w2 w'∧∃ v,w'.heap[p3]?=some (.cells #[v] 80 (0,0))∧OwnS w' w2.heap.size v (linesN d (codeP d) k)
 have hLI:∀ k,Lasts2 w2.heap.size (I k):=fun k=>(Lasts2.const _ _).and ((lasts2_sv (Nat.le_refl _)).and (.ex fun v=>(Lasts2.low (by omega) _).and lasts2_own))
 have hat:∀ w',Save p3 (p3+1) w2 w'→InsAt e v0 (codeP d) w':=fun w' hs=>ins_at (B:=W.heap.size) ⟨hs.obj hI0.1 (.inr (by omega)),hI0.2.1,by
  rcases hI0.2.2 with h1 | ⟨g,cap,cur,h1,h2,h3,h4⟩
  · exact .inl h1
  · exact .inr ⟨g,cap,cur,h1,h2,hs.obj h3 (.inr (by omega)),h4⟩⟩
 refine ⟨_,_,(codeP d).length,(fun k => .int .i64 k),(fun k=>insVal (((codeP d)[k]?).getD zeroI)),InsAt e v0 (codeP d),I,fun _ _=>False,fun _ _=>False,rfl,c38,Each_seq e v0 _ (by omega),⟨Nat.zero_le _,Save.refl _ _ _,_,x3,OwnE.nil _ _ _ _ _⟩,fun k w' h=>hat w' h.2.1,hLI,fun _=>Lasts2.const _ _,fun _=>Lasts2.const _ _,?_,?_,?_,?_⟩
 · intro Rk hRk j w3 hj hI3 hR3 hlt hready
   obtain ⟨x,hx⟩:=getElem?_lt hj
   have hgx:insVal (((codeP d)[j]?).getD zeroI)=insVal x:=by rw [hx];rfl
   dsimp only
   rw [hgx]
   unfold n43c3
   have eA:Ext w3 (w3.alloc (.cells (insCells x).toArray TI)):=ee
   have oA:=heap_new w3 (insCells x).toArray TI
   have hR4:=hRk _ _ (KR5.of eA) hR3
   have hI4:=(hLI j).ext hI3 eA
   have hrd:ReadyAt (w2.heap.size+1) (w3.alloc (.cells (insCells x).toArray TI)):=by obtain ⟨r,h1,h2⟩:=hready;exact ⟨r,eA.obj h1,h2⟩
   simp (disch:=try exact DI) only [↓PR,QR,simprocAttr]
   generalize (w3.alloc (.cells (insCells x).toArray TI))=w4 at oA hR4 hI4 hrd ⊢
   have hq2:w2.heap.size≤w3.heap.size:=hI3.2.1.size
   generalize w3.heap.size=q at oA hq2 ⊢
   refine ⟨hrd,fun w5 hbz=>?_⟩
   have hR5:=hRk _ _ (KR5.busied hbz) hR4
   have hI5:=(hLI j).busied hbz (Nat.le_succ _) hI4
   have o5:w5.heap[q]?=some (.cells (insCells x).toArray TI (0,0)):=by
    obtain ⟨r,hr,rfl⟩:=hbz
    rw [World.putObj_heap_other (by rintro rfl;rw [oA] at hr;cases hr)]
    exact oA
   have eD:Ext w5 (Sw.drew w5):=(Ext.refl w5).drew
   have hR6:=hRk _ _ (KR5.of eD) hR5
   obtain ⟨_,hs6,v,y3,hO6⟩:=(hLI j).ext hI5 eD
   have y5:=eD.obj o5
   have y1:=hs6.obj x1 (.inl (by omega))
   refine looksK (C:=fun u=>u.heap[p3]?=some (.cells #[v] 80 (0,0))∧u.heap[p1]?=some (.cells #[.pointer (some ⟨pb,0,none⟩)] 27 (0,0))∧u.heap[q]?=some (.cells (insCells x).toArray TI (0,0))) ⟨y3,y1,y5⟩ fun hne=>?_
   generalize hCC:(fun u:World=>u.heap[p3]?=some (.cells #[v] 80 (0,0))∧u.heap[p1]?=some (.cells #[.pointer (some ⟨pb,0,none⟩)] 27 (0,0))∧u.heap[q]?=some (.cells (insCells x).toArray TI (0,0)))=CC at hne ⊢
   have hCC1:∀ u,CC u↔(u.heap[p3]?=some (.cells #[v] 80 (0,0))∧u.heap[p1]?=some (.cells #[.pointer (some ⟨pb,0,none⟩)] 27 (0,0))∧u.heap[q]?=some (.cells (insCells x).toArray TI (0,0))):=fun u=>by rw [← hCC]
   clear hCC
   have r3:∀ K:Value→Prop,qV Pg CC (Instr.loadAt 80 (.pointer (some ⟨p3,0,none⟩))) K=K v:=fun K=>qV_loadG fun u hu=>Loads.one ty80 (by rw [(cells_of_heap ((hCC1 u).1 hu).1).1];rfl)
   have r1:∀ K:Value→Prop,qV Pg CC (Instr.loadAt 27 (.pointer (some ⟨p1,0,none⟩))) K=K (.pointer (some ⟨pb,0,none⟩)):=fun K=>qV_loadG fun u hu=>Loads.one ty27 (by rw [(cells_of_heap ((hCC1 u).1 hu).2.1).1];rfl)
   have r5:∀ K:Value→Prop,qV Pg CC (Instr.loadAt TI (.pointer (some ⟨q,0,none⟩))) K=K (insVal x):=fun K=>qV_loadG fun u hu=>ElemAt.loads (b:=q) (o:=0) (cs:=insCells x) (fun j u' hu'=>by rw [Nat.zero_add,(cells_of_heap ((hCC1 u).1 hu).2.2).1];simpa using hu') ty36 rfl
   generalize (Sw.drew w5)=w6 at hR6 hs6 y3 hO6 y5 y1 ⊢
   have E6:Ext w w6:=hs6.to_ext E2 (by omega)
   unfold n43c2
   rw [r3,r1,r5]
   refine zcr (line_ret (h.ext E6) (hT.ext E6) hN j ⟨by omega,by omega⟩ x (hok x (List.mem_of_getElem? hx))) fun w7 e7=>?_
   refine ⟨(hCC1 w7).2 ⟨e7.obj y3,e7.obj y1,e7.obj y5⟩,?_⟩
   unfold n43c1
   simp (disch:=try exact DI) only [↓PR,QR,simprocAttr]
   generalize hY:World.alloc w7 _=w8
   have e8:Ext w7 w8:=by rw [← hY];exact ee
   have oY:w8.cell? ⟨w7.heap.size,0,none⟩=some (.string (lineB d j x)):=by rw [← hY,(cells_of_heap (heap_new _ _ _)).1];rfl
   clear hY
   have e68:=e7.trans e8
   have z3:=e68.obj y3
   have z1:=e68.obj y1
   have z5:=e68.obj y5
   have hO8:=hO6.ext e68
   have hs8:=hs6.ext e68
   refine ⟨(hCC1 w8).2 ⟨z3,z1,z5⟩,?_⟩
   refine append_str (lineB d j x) hO8 oY hs8.size (by rw [linesN_len (by omega)];omega) ?_
   intro v' w9 hO9 hg
   have a3:=row_apart hO8 hg z3 (by decide)
   have a1:=row_apart hO8 hg z1 (by decide)
   have a5:=row_apart hO8 hg z5 (by decide)
   refine ⟨(hCC1 w9).2 ⟨a3,a1,a5⟩,?_⟩
   have hv1:v'.oneCell'=true:=SliceOf.oneCell (hO9.slice (E:=EStr) (fun _=>rfl) (fun _ _=>rfl))
   simp (disch:=try exact DI) only [↓PR,QR,simprocAttr,(cells_of_heap a3).1,(cells_of_heap a3).2]
   refine turnK_intro ?_
   have hs9:=hs8.grown hg fun g hgr=>(World.ownsRow.lt hO8 g hgr).1
   have hk9:KR5 (w2.heap.size+1+1) w6 w9:=(KR5.of e68).grown hg fun g hgr=>by
    obtain ⟨cur,hc⟩:=own_row hO8 hgr
    exact ⟨cur,_,_,hc⟩
   refine ⟨hRk _ _ (hk9.setCell p3 0 v') hR6,by omega,hs9.setCell (Nat.le_refl _) (Nat.lt_succ_self _) v',v',by simpa using heap_set (o:=0) a3 v',?_⟩
   rw [linesN_succ hx]
   exact (OwnR.only (OwnE.range hO9) (Only.setCell w9 p3 0 v') (.inr (.inl (by omega)))).1
 · rintro w3 ⟨_,hs,v,y3,hO⟩ hmk
   have E3:Ext w w3:=hs.to_ext E2 (by omega)
   unfold n43c4
   have hsz:=sizeP_pos d
   have htz:=textN_size hN hok (k:=(codeP d).length) (Nat.le_refl _) (by omega)
   simp (disch:=try exact DI) only [↓PR,QR,simprocAttr,(cells_of_heap y3).1]
   refine zcr (Join_ret hO ⟨#[10]⟩ (by rw [linesN_len (Nat.le_refl _)];omega) (by rw [linesN_len (Nat.le_refl _)];omega) (Nat.le_trans htz (by decide))) fun w4 e4=>?_
   refine outX_mark (hmk.ext e4) ?_
   simp (disch:=try exact DI) only [↓PR,QR,simprocAttr,outX_nil,retV,resOne]
   exact ⟨by rw [hlen];rfl,(E3.trans e4).putObj (by have:=E2.size;omega) _⟩
 · rintro c w3 hf
   exact hf.elim
 · rintro ch w3 hf
   exact hf.elim
end
def L1 (i:Int) (x:InsD):ByteArray:=decB i++⟨#[32]⟩++opN x.code
def L2 (d:DefD) (i:Int) (x:InsD):ByteArray:=if 0≤x.msg then L1 i x++⟨#[32]⟩++nameX d x else L1 i x
def L3 (d:DefD) (i:Int) (x:InsD):ByteArray:=if 0≤x.reg then L2 d i x++⟨#[32]⟩++(⟨#[114]⟩++decB x.reg) else L2 d i x
def L4 (d:DefD) (i:Int) (x:InsD):ByteArray:=if 0≤x.to then L3 d i x++⟨#[32]⟩++decB x.to else L3 d i x
end Go.Proofs.YtfdecdnmooaegaaGreatDoor
namespace Go.Sw
open Go.ChangeShapes Go.WideShapes Go.RowKit Go.ChangeAt Go.Deep
theorem list_of {α:Type} {p:Nat→α→Prop}:∀ (n:Nat),(∀ i,i < n→∃ x,p i x)→∃ l:List α,l.length=n∧∀ k x,l[k]?=some x→p k x
 | 0,_=>⟨[],rfl,fun k x h=>by simp at h⟩
 | n+1,h=>by
  obtain ⟨l,hl,hp⟩:=list_of n (fun i hi=>h i (by omega))
  obtain ⟨x,hx⟩:=h n (by omega)
  refine ⟨l++[x],by simp [hl],fun k y hy=>?_⟩
  rw [List.getElem?_append] at hy
  split at hy
  · exact hp k y hy
  · have hk:k=n:=by
     have:=(List.getElem?_eq_some_iff.1 hy).1
     simp at this
     omega
    subst hk
    simp [hl] at hy
    subst hy
    exact hx
section
variable {H:Type} {enc:TypeId×Value→H} {P:Program} {w:World} {base:Nat} {spare:Nat→Bool} {held:Bool}
theorem weightsAll_mem {e:TypeId} {m:Nat} {d:DataW H}:∀ {l:List (DataW H)},d∈l→m∈d.weights P e→m∈DataW.weightsAll P e l
 | [],h,_=>by cases h
 | a::l,h,hm=>by
  rw [DataW.weightsAll,List.mem_append]
  rcases List.mem_cons.1 h with rfl | h
  · exact .inl hm
  · exact .inr (weightsAll_mem h hm)
def Reached (P:Program) (t:TypeId) (d:DataW H):Prop:=∀ m∈d.weights P t,m≤reachBytes
theorem reached_of {ts:List TypeId} {ds:List (DataW H)} (h:(DataW.weightsEach P ts ds).all (· ≤ reachBytes)=true) {j:Nat} {t:TypeId} {d:DataW H} (ht:ts[j]?=some t) (hd:ds[j]?=some d):Reached P t d:=fun m hm=>by
 have:=List.all_eq_true.1 h _ (DataW.weights_mem_each ht hd m hm)
 simpa using this
theorem slice_of_trod {α:Type} {E:World→List Value→α→Prop} {Q:α→Prop} {t e:TypeId} {n fuel:Nat} {cs:List Value} {x:DataW H×List MemPlace} (ht:P.underlying t=some (.slice e)) (hn:P.cellsOf e=n) (hb1:1≤P.bytesOf e) (h0:0 < n)
 (hE:∀ m cs' y,DataW.trod enc P w base spare held m e cs'=some y→Reached P e y.1→∃ x,E w cs' x∧Q x) (h:DataW.trod enc P w base spare held fuel t cs=some x) (hr:Reached P t x.1):∃ v l,cs=[v]∧SliceOf w n E v l∧(∀ x∈l,Q x)∧l.length≤140737488355328:=by
 rcases open_slice ht h with ⟨rfl,_⟩ | ⟨a,len,cap,m,k,D,Pl,rfl,hb,hl,hm,hmm,hx,hel⟩
 · exact ⟨_,[],rfl,SliceOf.nil _ _ _,fun x hx=>by (cases hx),Nat.zero_le _⟩
 · have hlm:len≤m:=by rw [hmm];split<;>omega
   subst hx
   have hw0:=hr ((len+(m - len))*P.bytesOf e) (by simp only [DataW.weights,ht];simp)
   have hlen:len≤140737488355328:=by
    have:len*1≤(len+(m - len))*P.bytesOf e:=Nat.mul_le_mul (by omega) hb1
    simp only [reachBytes] at hw0
    omega
   have hD:∀ i,i < len→Reached P e (D i):=fun i hi q hq=>hr q (by
    simp only [DataW.weights,ht,List.mem_cons,List.mem_append]
    exact .inr (.inl (weightsAll_mem (List.mem_map.2 ⟨i,List.mem_range.2 hi,rfl⟩) hq)))
   obtain ⟨l,hll,hp⟩:=list_of (p:=fun i (x:α)=>∃ cs',w.cells? base (a.add (i*n)) n=some cs'∧E w cs' x∧Q x) len (fun i hi=>by
    obtain ⟨cs',h1,h2⟩:=hel i (by omega)
    rw [hn] at h1
    obtain ⟨x,hx⟩:=hE _ _ _ h2 (hD i hi)
    exact ⟨x,cs',h1,hx⟩)
   refine ⟨_,l,rfl,⟨some a,cap,by rw [hll],by rw [hll];exact hl,by simp only [maxLen] at hm;omega,fun hne=>?_⟩,fun x hx=>?_,by omega⟩
   · obtain ⟨b,o,spot⟩:=a
     have hspot:spot=none:=by
      have:0 < l.length:=List.length_pos_iff.2 hne
      obtain ⟨y,hy⟩:=getElem?_lt this
      obtain ⟨cs',h1,_⟩:=hp 0 y hy
      obtain ⟨_,h2,h3⟩:=World.cells?_some h1
      have h4:=h3 0 h0
      rw [List.getElem?_eq_getElem (by omega)] at h4
      simpa [Addr.add] using World.cell?_spot h4
     subst hspot
     refine ⟨b,o,rfl,fun k x hx=>?_⟩
     obtain ⟨cs',h1,h2,_⟩:=hp k x hx
     obtain ⟨_,h3,h4⟩:=World.cells?_some h1
     refine ⟨cs',h3,fun j v hv=>?_,h2⟩
     have h5:=h4 j (by have:=(List.getElem?_eq_some_iff.1 hv).1;omega)
     rw [hv] at h5
     simpa [Addr.add_lit] using h5
   · obtain ⟨k,hk⟩:=List.getElem?_of_mem hx
     obtain ⟨_,_,_,hq⟩:=hp k x hk
     exact hq
theorem struct_of_trod {fs:Array Field} {t:TypeId} {n fuel:Nat} {cs:List Value} {x:DataW H×List MemPlace} (ht:P.underlying t=some (.struct fs)) (hn:P.cellsOf t=n) (h:DataW.trod enc P w base spare held fuel t cs=some x) (hr:Reached P t x.1) :
 cs.length=n∧∃ m,∀ (i:Nat) (ty off k:Nat),(fs[i]?).map (fun f=>(f.type,f.offset))=some (ty,off)→P.cellsOf ty=k→∃ y,DataW.trod enc P w base spare held m ty ((cs.drop off).take k)=some y∧Reached P ty y.1:=by
 obtain ⟨xs,m,_,rfl,hl,hlen,hf⟩:=DataW.trod_struct ht h
 refine ⟨hl.trans hn,m,fun i ty off k hi hk=>?_⟩
 obtain ⟨f,hfi,he⟩:=Option.map_eq_some_iff.1 hi
 injection he with h1 h2
 subst h1 h2 hk
 have hil:i < xs.length:=by rw [hlen];exact (Array.getElem?_eq_some_iff.1 hfi).1
 refine ⟨xs[i],(hf i f hfi).trans (List.getElem?_eq_getElem hil),fun q hq=>hr q ?_⟩
 simp only [DataW.weights,ht]
 refine DataW.weights_mem_each (j:=i) (t:=f.type) (d:=xs[i].1) ?_ ?_ q hq
 · rw [List.getElem?_map,Array.getElem?_toList,hfi];rfl
 · rw [List.getElem?_map,List.getElem?_eq_getElem hil];rfl
theorem open_str {r:Reach} {b0:Nat} {t:TypeId} {v:Value} {d:DataW H} {ps:List MemPlace} (ht:P.underlying t=some .string) (hval:Value.okWide P w r b0 t v) (hd:DataW.Trod enc P w base spare held t v d ps):∃ s:ByteArray,v = .string s∧d = .lit (.string s.data.toList):=by
 obtain ⟨s,rfl⟩:=okWide_string ht hval
 obtain ⟨fuel,hf⟩:=hd
 obtain ⟨s',h,hx,hs⟩:=DataW.trod_string ht hf
 simp [Value.cells] at h
 simp only [Prod.mk.injEq] at hx
 exact ⟨s,rfl,by rw [hx.1,h]⟩
theorem trodAll_stays (hl:laidOutB P=true) {W W':World} (he:Ext W W'):∀ {ts:List TypeId} {vs:List Value} {ds:List (DataW H)} {ps:List MemPlace},(∀ t∈ts,P.readableRec t=true∧t < P.types.size)→(∀ x∈ps,x.block < W.heap.size) →
 DataW.TrodAll enc P W 0 (fun _=>true) true ts vs ds ps→DataW.TrodAll enc P W' 0 (fun b=>decide (b < W.heap.size)) true ts vs ds ps
 | [],_,_,_,_,_,h=>by obtain ⟨rfl,rfl,rfl⟩:=trodAll_nil h;exact trodAll_mk0
 | t::ts,_,_,_,hr,hlt,h=>by
  obtain ⟨v,vs1,d,ds1,a,b,rfl,rfl,rfl,h1,h2⟩:=trodAll_cons h
  refine ⟨a,b,?_,trodAll_stays hl he (fun t ht=>hr t (List.mem_cons_of_mem _ ht)) (fun x hx=>hlt x (List.mem_append_right _ hx)) h2,rfl⟩
  exact Below.trod hl (hr t (List.mem_cons_self ..)).1 (hr t (List.mem_cons_self ..)).2 h1 ⟨he.os,he.tape,he.output,he.size,he.block⟩ (fun x hx=>hlt x (List.mem_append_left _ hx))
theorem law_post {f:Func} {s:ChangeSpec} {W W':World} {args:Array Value} {ds gs:List (DataW H)} {before:List MemPlace} {tb:TypeId} (hl:laidOutB P=true) (hr:∀ t∈f.params.toList,P.readableRec t=true∧t < P.types.size) (hs:s.vars=[])
 (hW:DataW.Whole enc P f.params.toList s.vars false W args.toList ds gs before) (he:Ext W W') (hres:f.resultTypes = #[tb]) (htb:P.underlying tb=some .bool) (hfn:(s.fn H ds).results=[.lit (.bool true)]) (hargs:(s.fn H ds).args=ds) (hvars:(s.fn H ds).vars=[]) :
 s.post enc P f false true false false W args (.bool true) W':=by
 have hW':=hW
 obtain ⟨p,q,hA,hV,rfl,_,_⟩:=hW
 rw [hs] at hV
 obtain ⟨rfl,rfl⟩:=trodVars_none hV
 have hlt:∀ x∈p,x.block < W.heap.size:=fun x hx=>hW'.lt x (by simpa using hx)
 rw [List.append_nil] at hW'
 refine ⟨ds,[],p,[],p,[],hW',?_,?_,?_,Below.frame ⟨he.os,he.tape,he.output,he.size,he.block⟩ _,fun h=>by cases h⟩
 · rw [List.append_nil,hfn,hres]
   exact trodAll_mk1 (shut_bool htb _)
 · rw [List.append_nil,hargs]
   exact trodAll_stays hl he hr hlt hA
 · rw [List.append_nil,hvars,hs]
   exact rfl
end
end Go.Sw
namespace Go.Proofs.YtfdecdnmooaegaaGreatDoor
open Sw
open Go.ChangeShapes Go.WideShapes Go.RowKit Go.ChangeAt Go.Deep
theorem cellsTerm:Pg.cellsOf 113=2:=by kernel_rfl
theorem cellsCase:Pg.cellsOf 85=3:=by kernel_rfl
theorem cellsSize:Pg.cellsOf 68=2:=by kernel_rfl
theorem cellsField:Pg.cellsOf 71=15:=by kernel_rfl
theorem cellsMessage:Pg.cellsOf 53=2:=by kernel_rfl
theorem cellsDefinition:Pg.cellsOf 24=3:=by kernel_rfl
theorem cellsString:Pg.cellsOf 9=1:=by kernel_rfl
theorem cellsInt:Pg.cellsOf 3=1:=by kernel_rfl
theorem cellsBool:Pg.cellsOf 4=1:=by kernel_rfl
theorem cellsKind:Pg.cellsOf 65=1:=by kernel_rfl
theorem cellsTerms:Pg.cellsOf 66=1:=by kernel_rfl
theorem cellsCases:Pg.cellsOf 69=1:=by kernel_rfl
theorem cellsFields:Pg.cellsOf 51=1:=by kernel_rfl
theorem bytesTerm:1≤Pg.bytesOf 113:=Nat.le_of_ble_eq_true (by kernel_rfl)
theorem bytesCase:1≤Pg.bytesOf 85:=Nat.le_of_ble_eq_true (by kernel_rfl)
theorem bytesField:1≤Pg.bytesOf 71:=Nat.le_of_ble_eq_true (by kernel_rfl)
theorem bytesMessage:1≤Pg.bytesOf 53:=Nat.le_of_ble_eq_true (by kernel_rfl)
def FieldSm (f:FieldD):Prop:=f.terms.length≤140737488355328∧f.cases.length≤140737488355328∧∀ c∈f.cases,c.of.size≤140737488355328
def MsgSm (m:MsgD):Prop:=m.fields.length≤140737488355328∧∀ f∈m.fields,FieldSm f
def DefSm (d:DefD):Prop:=d.msgs.length≤140737488355328∧∀ m∈d.msgs,MsgSm m
theorem cellsMessages:Pg.cellsOf 22=1:=by kernel_rfl
section
variable {H:Type} {enc:TypeId×Value→H} {w:World} {base:Nat} {spare:Nat→Bool} {held:Bool}
theorem term_of {m:Nat} {cs:List Value} {y:DataW H×List MemPlace} (h:DataW.trod enc Pg w base spare held m 113 cs=some y) (hr:Reached Pg 113 y.1):∃ x,ETerm w cs x:=by
 obtain ⟨hl,n,hf⟩:=struct_of_trod Tryz.underlying113 cellsTerm h hr
 obtain ⟨y0,h0,r0⟩:=hf 0 9 0 1 rfl cellsString
 obtain ⟨y1,h1,r1⟩:=hf 1 3 1 1 rfl cellsInt
 match cs,hl with
 | [c0,c1],_ =>
  obtain ⟨s,e0,_⟩:=DataW.trod_string Tryz.underlying9 h0
  obtain ⟨k,e1,_⟩:=DataW.trod_int Tryz.underlying3 h1
  simp at e0 e1
  subst e0 e1
  exact ⟨⟨s,k⟩,rfl⟩
theorem case_of {m:Nat} {cs:List Value} {y:DataW H×List MemPlace} (h:DataW.trod enc Pg w base spare held m 85 cs=some y) (hr:Reached Pg 85 y.1):∃ x,ECase w cs x∧x.of.size≤140737488355328:=by
 obtain ⟨hl,n,hf⟩:=struct_of_trod Tryz.underlying85 cellsCase h hr
 obtain ⟨y0,h0,r0⟩:=hf 0 3 0 1 rfl cellsInt
 obtain ⟨y1,h1,r1⟩:=hf 1 3 1 1 rfl cellsInt
 obtain ⟨y2,h2,r2⟩:=hf 2 9 2 1 rfl cellsString
 match cs,hl with
 | [c0,c1,c2],_ =>
  obtain ⟨a,e0,_⟩:=DataW.trod_int Tryz.underlying3 h0
  obtain ⟨b,e1,_⟩:=DataW.trod_int Tryz.underlying3 h1
  obtain ⟨s,e2,e3,_⟩:=DataW.trod_string Tryz.underlying9 h2
  simp at e0 e1 e2
  subst e0 e1 e2
  refine ⟨⟨a,b,s⟩,rfl,?_⟩
  have:=r2 s.data.toList.length (by rw [e3];exact List.mem_singleton.2 rfl)
  simp only [reachBytes] at this
  have h4:s.size=s.data.toList.length:=Array.length_toList.symm
  show s.size≤_
  omega
theorem size_of {m:Nat} {cs:List Value} {y:DataW H×List MemPlace} (h:DataW.trod enc Pg w base spare held m 68 cs=some y) (hr:Reached Pg 68 y.1):∃ b tv ts,cs=[.int .i64 b,tv]∧TermsOf w tv ts∧ts.length≤140737488355328:=by
 obtain ⟨hl,n,hf⟩:=struct_of_trod Tryz.underlying68 cellsSize h hr
 obtain ⟨y0,h0,r0⟩:=hf 0 3 0 1 rfl cellsInt
 obtain ⟨y1,h1,r1⟩:=hf 1 66 1 1 rfl cellsTerms
 match cs,hl with
 | [c0,c1],_ =>
  obtain ⟨a,e0,_⟩:=DataW.trod_int Tryz.underlying3 h0
  obtain ⟨v,l,e1,hS,_,hL⟩:=slice_of_trod (E:=ETerm) (Q:=fun _=>True) Tryz.underlying66 cellsTerm bytesTerm (by decide) (fun _ _ _ h hr=>let ⟨x,hx⟩:=term_of h hr; ⟨x,hx,trivial⟩) h1 r1
  simp at e0 e1
  subst e0 e1
  exact ⟨a,_,l,rfl,hS,hL⟩
theorem field_of {m:Nat} {cs:List Value} {y:DataW H×List MemPlace} (h:DataW.trod enc Pg w base spare held m 71 cs=some y) (hr:Reached Pg 71 y.1):∃ x,EField w cs x∧FieldSm x:=by
 obtain ⟨hl,n,hf⟩:=struct_of_trod Tryz.underlying71 cellsField h hr
 obtain ⟨y0,h0,r0⟩:=hf 0 9 0 1 rfl cellsString
 obtain ⟨y1,h1,r1⟩:=hf 1 65 1 1 rfl cellsKind
 obtain ⟨y2,h2,r2⟩:=hf 2 3 2 1 rfl cellsInt
 obtain ⟨y3,h3,r3⟩:=hf 3 4 3 1 rfl cellsBool
 obtain ⟨y4,h4,r4⟩:=hf 4 4 4 1 rfl cellsBool
 obtain ⟨y5,h5,r5⟩:=hf 5 3 5 1 rfl cellsInt
 obtain ⟨y6,h6,r6⟩:=hf 6 3 6 1 rfl cellsInt
 obtain ⟨y7,h7,r7⟩:=hf 7 68 7 2 rfl cellsSize
 obtain ⟨y8,h8,r8⟩:=hf 8 9 9 1 rfl cellsString
 obtain ⟨y9,h9,r9⟩:=hf 9 9 10 1 rfl cellsString
 obtain ⟨y10,h10,r10⟩:=hf 10 9 11 1 rfl cellsString
 obtain ⟨y11,h11,r11⟩:=hf 11 69 12 1 rfl cellsCases
 obtain ⟨y12,h12,r12⟩:=hf 12 3 13 1 rfl cellsInt
 obtain ⟨y13,h13,r13⟩:=hf 13 3 14 1 rfl cellsInt
 match cs,hl with
 | [c0,c1,c2,c3,c4,c5,c6,c7,c8,c9,c10,c11,c12,c13,c14],_ =>
  obtain ⟨x0,e0,_⟩:=DataW.trod_string Tryz.underlying9 h0
  obtain ⟨x1,e1,_⟩:=DataW.trod_int Tryz.underlying65 h1
  obtain ⟨x2,e2,_⟩:=DataW.trod_int Tryz.underlying3 h2
  obtain ⟨x3,e3,_⟩:=DataW.trod_bool Tryz.underlying4 h3
  obtain ⟨x4,e4,_⟩:=DataW.trod_bool Tryz.underlying4 h4
  obtain ⟨x5,e5,_⟩:=DataW.trod_int Tryz.underlying3 h5
  obtain ⟨x6,e6,_⟩:=DataW.trod_int Tryz.underlying3 h6
  obtain ⟨x7,tv,ts,e7,hT,hTl⟩:=size_of h7 r7
  obtain ⟨x9,e9,_⟩:=DataW.trod_string Tryz.underlying9 h8
  obtain ⟨x10,e10,_⟩:=DataW.trod_string Tryz.underlying9 h9
  obtain ⟨x11,e11,_⟩:=DataW.trod_string Tryz.underlying9 h10
  obtain ⟨cv,l,e12,hC,hCq,hCl⟩:=slice_of_trod (E:=ECase) (Q:=fun c=>c.of.size≤140737488355328) Tryz.underlying69 cellsCase bytesCase (by decide) (fun _ _ _ h hr=>case_of h hr) h11 r11
  obtain ⟨x13,e13,_⟩:=DataW.trod_int Tryz.underlying3 h12
  obtain ⟨x14,e14,_⟩:=DataW.trod_int Tryz.underlying3 h13
  simp at e0 e1 e2 e3 e4 e5 e6 e7 e9 e10 e11 e12 e13 e14
  obtain ⟨e7,e8⟩:=e7
  subst e0 e1 e2 e3 e4 e5 e6 e7 e8 e9 e10 e11 e12 e13 e14
  exact ⟨⟨x0,x1,x2,x3,x4,x5,x6,x7,ts,x9,x10,x11,l,x13,x14⟩,⟨_,_,rfl,hT,hC⟩,hTl,hCl,hCq⟩
theorem msg_of {m:Nat} {cs:List Value} {y:DataW H×List MemPlace} (h:DataW.trod enc Pg w base spare held m 53 cs=some y) (hr:Reached Pg 53 y.1):∃ x,EMsg w cs x∧MsgSm x:=by
 obtain ⟨hl,n,hf⟩:=struct_of_trod Tryz.underlying53 cellsMessage h hr
 obtain ⟨y0,h0,r0⟩:=hf 0 9 0 1 rfl cellsString
 obtain ⟨y1,h1,r1⟩:=hf 1 51 1 1 rfl cellsFields
 match cs,hl with
 | [c0,c1],_ =>
  obtain ⟨a,e0,_⟩:=DataW.trod_string Tryz.underlying9 h0
  obtain ⟨v,l,e1,hS,hQ,hL⟩:=slice_of_trod (E:=EField) (Q:=FieldSm) Tryz.underlying51 cellsField bytesField (by decide) (fun _ _ _ h hr=>field_of h hr) h1 r1
  simp at e0 e1
  subst e0 e1
  exact ⟨⟨a,l⟩,⟨_,rfl,hS⟩,hL,hQ⟩
theorem def_of {m:Nat} {cs:List Value} {y:DataW H×List MemPlace} (h:DataW.trod enc Pg w base spare held m 24 cs=some y) (hr:Reached Pg 24 y.1):∃ d mv,cs=defCells d mv∧MsgsOf w mv d.msgs∧DefSm d:=by
 obtain ⟨hl,n,hf⟩:=struct_of_trod Tryz.underlying24 cellsDefinition h hr
 obtain ⟨y0,h0,r0⟩:=hf 0 9 0 1 rfl cellsString
 obtain ⟨y1,h1,r1⟩:=hf 1 22 1 1 rfl cellsMessages
 obtain ⟨y2,h2,r2⟩:=hf 2 9 2 1 rfl cellsString
 match cs,hl with
 | [c0,c1,c2],_ =>
  obtain ⟨a,e0,_⟩:=DataW.trod_string Tryz.underlying9 h0
  obtain ⟨v,l,e1,hS,hQ,hL⟩:=slice_of_trod (E:=EMsg) (Q:=MsgSm) Tryz.underlying22 cellsMessage bytesMessage (by decide) (fun _ _ _ h hr=>msg_of h hr) h1 r1
  obtain ⟨b,e2,_⟩:=DataW.trod_string Tryz.underlying9 h2
  simp at e0 e1 e2
  subst e0 e1 e2
  exact ⟨⟨a,l,b⟩,_,rfl,hS,hL,hQ⟩
theorem def_val {r:Reach} {b0:Nat} {v:Value} {d:DataW H} {ps:List MemPlace} (hval:Value.okWide Pg w r b0 24 v) (h:DataW.Trod enc Pg w base spare held 24 v d ps) (hr:Reached Pg 24 d):∃ f,DefVal w v f∧DefSm f:=by
 obtain ⟨cs,rfl,_⟩:=okWide_struct Tryz.underlying24 hval
 obtain ⟨fuel,hf⟩:=h
 obtain ⟨f,tv,h1,h2,hs⟩:=def_of hf hr
 exact ⟨f,⟨tv,congrArg Value.agg (by rw [← h1,cells_agg]),h2⟩,hs⟩
end
end Go.Proofs.YtfdecdnmooaegaaGreatDoor
namespace Go.Proofs.YtfdecdnmooaegaaGreatDoor
open Sw
open Go.RowKit (intOf Below)
theorem EqualFunc_Field_ret (w0:World) (v u:Value) (l m:List FieldD) (g:FuncId) (hl:FieldsOf w0 v l) (hm:FieldsOf w0 u m) (hg:Callable Pg g)
 (hc:∀ w v u x y,Ext w0 w→FieldVal w v x→FieldVal w u y→Ret Pg g #[v,u] w fun r w'=>r = .bool (decide (x=y))∧Ext w w') :
 Ret Pg 58 #[v,u,.func (.func g) #[] #[]] w0 fun r w'=>r = .bool (decide (l=m))∧Ext w0 w':=by
 obtain ⟨A,c,rfl,hlc,hcm,hlm,hel⟩:=SliceOf.open hl
 obtain ⟨A',c',rfl,hlc',hcm',hlm',hel'⟩:=SliceOf.open hm
 refine n139s (R:=retR _) ?_;unfold n139
 simp (disch:=try exact DI) only [↓PR,QR,simprocAttr]
 by_cases hlen:l.length=m.length
 · have hne:((l.length:Int) != (m.length:Int))=false:=by simp [hlen]
   simp (disch:=try exact DI) only [↓PR,QR,simprocAttr,↓n139c1,↓n139c2,↓n139c3,hne]
   refine loop1_intro (fun a0 w=>∃ (k:Nat) , a0 = .int .i64 (k:Int)∧k≤l.length∧Ext w0 w∧l.take k=m.take k) (fun a0 _=>l.length - (intOf a0).toNat) ⟨0,rfl,Nat.zero_le _,ee,rfl⟩ ?_
   rintro _ w ⟨k,rfl,hk,e,hI⟩
   have se:=e.size
   rcases drop_cases hk with ⟨x,hx,hd,hlt,hdec⟩ | ⟨hk,hd,hdec⟩
   · obtain ⟨b,o,cs,rfl,_,hA,hE1⟩:=hel k x hx
     obtain ⟨y,hy⟩:=getElem?_lt (l:=m) (k:=k) (by omega)
     obtain ⟨b',o',cs',rfl,_,hA',hE2⟩:=hel' k y hy
     have hlt':k < m.length:=by omega
     obtain ⟨tv1,cv1,rfl,hT1,hC1,ht1,hc1⟩:=hE1.op
     obtain ⟨tv2,cv2,rfl,hT2,hC2,ht2,hc2⟩:=hE2.op
     have ea:∀ o,Ext w0 (w.alloc o):=fun o=>e.alloc o
     have e1:=ea (.cells (fieldCells x tv1 cv1).toArray 71)
     simp (disch:=try exact DI) only [↓PR,QR,simprocAttr,↓n139c1,↓n139c2,↓n139c3,hdec,hA.c15,hA'.c15]
     generalize hW:World.alloc (World.alloc w _) _=W
     have e2:Ext w0 W:=by rw [← hW];exact ee
     clear hW
     rw [callV_func hg]
     refine zcr (hc W _ _ x y e2 ⟨tv1,cv1,rfl,TermsOf.ext hT1 e2,CasesOf.ext hC1 e2⟩ ⟨tv2,cv2,rfl,TermsOf.ext hT2 e2,CasesOf.ext hC2 e2⟩) fun w1 e3=>?_
     by_cases hxy:x=y
     · subst hxy
       simp only [decide_true]
       simp (disch:=try exact DI) only [↓PR,QR,simprocAttr,↓n139c1,↓n139c2,↓n139c3]
       exact ⟨⟨k+1,rfl,by omega,ee,by rw [List.take_add_one,List.take_add_one,hx,hy,hI]⟩,meas_lt (kd := .i64) hlt⟩
     · simp only [hxy,decide_false]
       simp (disch:=try exact DI) only [↓PR,QR,simprocAttr,↓n139c1,↓n139c2,↓n139c3]
       have hne':¬ l=m:=by
        rintro rfl
        rw [hx] at hy
        injection hy with hy
        exact hxy hy
       exact ⟨by simp [hne'],e2.trans e3⟩
   · subst hk
     simp (disch:=try exact DI) only [↓PR,QR,simprocAttr,↓n139c1,↓n139c2,↓n139c3,hdec]
     rw [List.take_length,hlen,List.take_length] at hI
     exact ⟨by simp [hI],e⟩
 · have hne:((l.length:Int) != (m.length:Int))=true:=by simp;omega
   simp (disch:=try exact DI) only [↓PR,QR,simprocAttr,↓n139c1,↓n139c2,↓n139c3,hne]
   have hne':¬ l=m:=fun h=>hlen (by rw [h])
   exact ⟨by simp [hne'],Ext.refl _⟩
theorem EqualFunc_Message_ret (w0:World) (v u:Value) (l m:List MsgD) (g:FuncId) (hl:MsgsOf w0 v l) (hm:MsgsOf w0 u m) (hg:Callable Pg g)
 (hc:∀ w v u x y,Ext w0 w→MsgVal w v x→MsgVal w u y→Ret Pg g #[v,u] w fun r w'=>r = .bool (decide (x=y))∧Ext w w') :
 Ret Pg 56 #[v,u,.func (.func g) #[] #[]] w0 fun r w'=>r = .bool (decide (l=m))∧Ext w0 w':=by
 obtain ⟨A,c,rfl,hlc,hcm,hlm,hel⟩:=SliceOf.open hl
 obtain ⟨A',c',rfl,hlc',hcm',hlm',hel'⟩:=SliceOf.open hm
 refine n140s (R:=retR _) ?_;unfold n140
 simp (disch:=try exact DI) only [↓PR,QR,simprocAttr]
 by_cases hlen:l.length=m.length
 · have hne:((l.length:Int) != (m.length:Int))=false:=by simp [hlen]
   simp (disch:=try exact DI) only [↓PR,QR,simprocAttr,↓n140c1,↓n140c2,↓n140c3,hne]
   refine loop1_intro (fun a0 w=>∃ (k:Nat) , a0 = .int .i64 (k:Int)∧k≤l.length∧Ext w0 w∧l.take k=m.take k) (fun a0 _=>l.length - (intOf a0).toNat) ⟨0,rfl,Nat.zero_le _,ee,rfl⟩ ?_
   rintro _ w ⟨k,rfl,hk,e,hI⟩
   have se:=e.size
   rcases drop_cases hk with ⟨x,hx,hd,hlt,hdec⟩ | ⟨hk,hd,hdec⟩
   · obtain ⟨b,o,cs,rfl,_,hA,hE1⟩:=hel k x hx
     obtain ⟨y,hy⟩:=getElem?_lt (l:=m) (k:=k) (by omega)
     obtain ⟨b',o',cs',rfl,_,hA',hE2⟩:=hel' k y hy
     have hlt':k < m.length:=by omega
     obtain ⟨fv1,rfl,hF1⟩:=hE1
     have ht1:=SliceOf.oneCell hF1
     obtain ⟨fv2,rfl,hF2⟩:=hE2
     have ht2:=SliceOf.oneCell hF2
     have ea:∀ o,Ext w0 (w.alloc o):=fun o=>e.alloc o
     have e1:=ea (.cells (msgCells x fv1).toArray 53)
     simp (disch:=try exact DI) only [↓PR,QR,simprocAttr,↓n140c1,↓n140c2,↓n140c3,hdec,hA.c2,hA'.c2]
     generalize hW:World.alloc (World.alloc w _) _=W
     have e2:Ext w0 W:=by rw [← hW];exact ee
     clear hW
     rw [callV_func hg]
     refine zcr (hc W _ _ x y e2 ⟨fv1,rfl,FieldsOf.ext hF1 e2⟩ ⟨fv2,rfl,FieldsOf.ext hF2 e2⟩) fun w1 e3=>?_
     by_cases hxy:x=y
     · subst hxy
       simp only [decide_true]
       simp (disch:=try exact DI) only [↓PR,QR,simprocAttr,↓n140c1,↓n140c2,↓n140c3]
       exact ⟨⟨k+1,rfl,by omega,ee,by rw [List.take_add_one,List.take_add_one,hx,hy,hI]⟩,meas_lt (kd := .i64) hlt⟩
     · simp only [hxy,decide_false]
       simp (disch:=try exact DI) only [↓PR,QR,simprocAttr,↓n140c1,↓n140c2,↓n140c3]
       have hne':¬ l=m:=by
        rintro rfl
        rw [hx] at hy
        injection hy with hy
        exact hxy hy
       exact ⟨by simp [hne'],e2.trans e3⟩
   · subst hk
     simp (disch:=try exact DI) only [↓PR,QR,simprocAttr,↓n140c1,↓n140c2,↓n140c3,hdec]
     rw [List.take_length,hlen,List.take_length] at hI
     exact ⟨by simp [hI],e⟩
 · have hne:((l.length:Int) != (m.length:Int))=true:=by simp;omega
   simp (disch:=try exact DI) only [↓PR,QR,simprocAttr,↓n140c1,↓n140c2,↓n140c3,hne]
   have hne':¬ l=m:=fun h=>hlen (by rw [h])
   exact ⟨by simp [hne'],Ext.refl _⟩
theorem EqualS1_ret (w0:World) (v u:Value) (x y:MsgD) (hx:MsgVal w0 v x) (hy:MsgVal w0 u y):Ret Pg 57 #[v,u] w0 fun r w'=>r = .bool (decide (x=y))∧Ext w0 w':=by
 obtain ⟨fv,rfl,hF⟩:=hx
 obtain ⟨gv,rfl,hG⟩:=hy
 refine n64s (R:=retR _) ?_;unfold n64
 simp (disch:=try exact DI) only [↓PR,QR,simprocAttr,Sw.joinK_eq]
 generalize hW:World.alloc (World.alloc w0 _) _=W
 have e0:Ext w0 W:=by rw [← hW];exact ee
 have o3:W.heap[w0.heap.size]?=some (.cells #[.string x.name,fv] 53 (0,0)):=by rw [← hW];simp (disch:=try exact DI) only [↓PR,QR,simprocAttr]
 have o4:W.heap[w0.heap.size+1]?=some (.cells #[.string y.name,gv] 53 (0,0)):=by rw [← hW];simp (disch:=try exact DI) only [↓PR,QR,simprocAttr]
 clear hW
 by_cases hn:x.name=y.name
 · simp only [hn,decide_true]
   simp (disch:=try exact DI) only [↓PR,QR,simprocAttr,Sw.joinK_eq,(cells_of_heap o3).1,(cells_of_heap o4).1]
   refine zcr (EqualFunc_Field_ret W _ _ x.fields y.fields _ (FieldsOf.ext hF e0) (FieldsOf.ext hG e0) c59 (fun w v u a b _ hv hu=>sameField_ret w v u a b hv hu)) fun w1 e1=>?_
   simp (disch:=try exact DI) only [↓PR,QR,simprocAttr,Sw.joinK_eq]
   refine ⟨?_,e0.trans e1⟩
   congr 1
   rw [Bool.eq_iff_iff]
   simp only [decide_eq_true_eq]
   constructor
   · intro h;cases x;cases y;simp_all
   · rintro rfl;rfl
 · simp only [hn,decide_false]
   simp (disch:=try exact DI) only [↓PR,QR,simprocAttr,Sw.joinK_eq]
   have hne:¬ x=y:=by rintro rfl;exact hn rfl
   exact ⟨by simp [hne],by first | exact e0 | exact ee⟩
theorem Equal_ret (w0:World) (v u:Value) (x y:DefD) (hx:DefVal w0 v x) (hy:DefVal w0 u y):Ret Pg 25 #[v,u] w0 fun r w'=>r = .bool (decide (x=y))∧Ext w0 w':=by
 obtain ⟨fv,rfl,hF⟩:=hx
 obtain ⟨gv,rfl,hG⟩:=hy
 refine n63s (R:=retR _) ?_;unfold n63
 simp (disch:=try exact DI) only [↓PR,QR,simprocAttr,↓n63c1]
 generalize hW:World.alloc (World.alloc w0 _) _=W
 have e0:Ext w0 W:=by rw [← hW];exact ee
 have o3:W.heap[w0.heap.size]?=some (.cells #[.string x.name,fv,.string x.start] 24 (0,0)):=by rw [← hW];simp (disch:=try exact DI) only [↓PR,QR,simprocAttr]
 have o4:W.heap[w0.heap.size+1]?=some (.cells #[.string y.name,gv,.string y.start] 24 (0,0)):=by rw [← hW];simp (disch:=try exact DI) only [↓PR,QR,simprocAttr]
 clear hW
 by_cases hn:x.name=y.name∧x.start=y.start
 · obtain ⟨h1,h2⟩:=hn
   simp only [h1,h2,decide_true]
   simp (disch:=try exact DI) only [↓PR,QR,simprocAttr,↓n63c1,h1,h2,(cells_of_heap o3).1,(cells_of_heap o4).1]
   refine zcr (EqualFunc_Message_ret W _ _ x.msgs y.msgs _ (MsgsOf.ext hF e0) (MsgsOf.ext hG e0) c57 (fun w v u a b _ hv hu=>EqualS1_ret w v u a b hv hu)) fun w1 e1=>?_
   simp (disch:=try exact DI) only [↓PR,QR,simprocAttr,↓n63c1]
   refine ⟨?_,e0.trans e1⟩
   congr 1
   rw [Bool.eq_iff_iff]
   simp only [decide_eq_true_eq]
   constructor
   · intro h;cases x;cases y;simp_all
   · rintro rfl;rfl
 · have hf:(decide (x.name=y.name)&&decide (x.start=y.start))=false:=by
    rw [Bool.eq_false_iff]
    intro h
    simp at h
    exact hn h
   have hne:¬ x=y:=by rintro rfl;exact hn ⟨rfl,rfl⟩
   simp only [hf]
   simp (disch:=try exact DI) only [↓PR,QR,simprocAttr,↓n63c1,hf]
   exact ⟨by simp [hne],by first | exact e0 | exact ee⟩
def smallF (f:FieldD):Prop:=f.name.size≤100∧f.cases.length≤20∧f.terms.length≤6
def smallM (m:MsgD):Prop:=m.fields.length≤20∧m.name.size≤100∧∀ f∈m.fields,smallF f
def smallP (d:DefD):Prop:=d.msgs.length≤12∧∀ m∈d.msgs,smallM m
theorem all_step {α:Type} {p:α→Prop} {l:List α} {k:Nat} {x:α} (h:∀ y∈l.take k,p y) (hx:l[k]?=some x) (hp:p x):∀ y∈l.take (k+1),p y:=by
 rw [take_snoc hx]
 intro y hy
 rcases List.mem_append.1 hy with hy | hy
 · exact h y hy
 · simp only [List.mem_singleton] at hy;subst hy;exact hp
theorem lsmall_ret (w0:World) (v:Value) (d:DefD) (hd:DefVal w0 v d):Ret Pg 8 #[v] w0 fun r w'=>∃ b,r = .bool b∧(b=true→smallP d)∧Ext w0 w':=by
 obtain ⟨mv,rfl,hM⟩:=hd
 obtain ⟨A,c,rfl,hlc,hcm,hlm,hel⟩:=SliceOf.open hM
 refine n24s (R:=retR _) ?_;unfold n24
 rw [op_boxA]
 have hBW:=ElemAt.new (w:=w0) (defCells d (.slice A d.msgs.length c)) (24)
 have eW:Ext w0 (w0.alloc (Obj.cells (List.toArray (defCells d (.slice A d.msgs.length c))) (24))):=(Ext.refl _).alloc _
 generalize (w0.alloc (Obj.cells (List.toArray (defCells d (.slice A d.msgs.length c))) (24)))=W at hBW eW ⊢
 have no:∀ w,Ext W w→∃ b:Bool,Value.bool false=Value.bool b∧(b=true→smallP d)∧Ext w0 w:=fun w e=>⟨false,rfl,⟨fun h=>(by cases h),eW.trans e⟩⟩
 by_cases h1:d.msgs.length≤12
 · have d1:decide ((d.msgs.length:Int) > 12)=false:=decide_eq_false (by omega)
   by_cases h2:d.name.size≤100
   · have d2:decide ((d.name.size:Int) > 100)=false:=decide_eq_false (by omega)
     by_cases h3:d.start.size≤100
     · have d3:decide ((d.start.size:Int) > 100)=false:=decide_eq_false (by omega)
       simp (disch:=try exact DI) only [↓PR,QR,simprocAttr,hBW.c3 (Ext.refl W),d1,d2,↓n24c8,d3]
       refine loop1_intro (fun a0 w=>∃ (k:Nat) , a0 = .int .i64 (k:Int)∧k≤d.msgs.length∧Ext W w∧∀ m∈d.msgs.take k,smallM m) (fun a0 _=>d.msgs.length - (intOf a0).toNat) ⟨0,rfl,Nat.zero_le _,ee,by simp⟩ ?_
       rintro _ w ⟨k,rfl,hk,e,hI⟩
       have se:=e.size
       rcases drop_cases hk with ⟨x,hx,hd,hlt,hdec⟩ | ⟨hk,hd,hdec⟩
       · obtain ⟨b,o,cs,rfl,_,hA,fv,rfl,hF⟩:=hel k x hx
         obtain ⟨Af,cf,rfl,_,_,hlmf,helf⟩:=SliceOf.open hF
         have e':=eW.trans e
         unfold n24c7
         by_cases g1:x.fields.length≤20
         · have f1:decide ((x.fields.length:Int) > 20)=false:=decide_eq_false (by omega)
           by_cases g2:x.name.size≤100
           · have f2:decide ((x.name.size:Int) > 100)=false:=decide_eq_false (by omega)
             simp (disch:=try exact DI) only [↓PR,QR,simprocAttr,hBW.c3 e,hdec,↓n24c6,hA.c2 e',f1,f2]
             have o4:=heap_new w #[.string x.name,.slice Af x.fields.length cf] 53
             have e4:Ext w (w.alloc (.cells #[.string x.name,.slice Af x.fields.length cf] 53)):=ee
             generalize hp4:w.heap.size=p4 at o4 ⊢
             generalize (w.alloc (.cells #[.string x.name,.slice Af x.fields.length cf] 53))=w4 at o4 e4 ⊢
             refine loop1_intro (fun a0 wb=>∃ (kb:Nat) , a0 = .int .i64 (kb:Int)∧kb≤x.fields.length∧Ext w4 wb∧∀ f∈x.fields.take kb,smallF f) (fun a0 _=>x.fields.length - (intOf a0).toNat) ⟨0,rfl,Nat.zero_le _,ee,by simp⟩ ?_
             rintro _ wb ⟨kb,rfl,hkb,eb,hIb⟩
             have seb:=eb.size
             rcases drop_cases hkb with ⟨xb,hxb,hdb,hltb,hdecb⟩ | ⟨hkb,hdb,hdecb⟩
             · obtain ⟨b2,o2,cs2,rfl,_,hA2,tv,cv,rfl,hT,hC⟩:=helf kb xb hxb
               obtain ⟨At,ct,rfl,_,_,_,_⟩:=SliceOf.open hT
               obtain ⟨Ac,cc,rfl,_,_,_,_⟩:=SliceOf.open hC
               have eb':=e'.trans (e4.trans eb)
               have c4:=cells_of_heap (eb.obj o4)
               have no':=no _ (e.trans (e4.trans eb))
               unfold n24c5
               by_cases k1:xb.name.size≤100
               · have l1:decide ((xb.name.size:Int) > 100)=false:=decide_eq_false (by omega)
                 by_cases k2:xb.cases.length≤20
                 · have l2:decide ((xb.cases.length:Int) > 20)=false:=decide_eq_false (by omega)
                   by_cases k3:xb.terms.length≤6
                   · have l3:decide ((xb.terms.length:Int) > 6)=false:=decide_eq_false (by omega)
                     simp (disch:=try exact DI) only [↓PR,QR,simprocAttr,c4.1,hdecb,↓n24c4,↓n24c3,↓n24c2,↓n24c1,hA2.c15 eb',l1,l2,l3]
                     exact ⟨⟨kb+1,rfl,by omega,ee,all_step hIb hxb ⟨k1,k2,k3⟩⟩,meas_lt (kd := .i64) hltb⟩
                   · have l3:decide ((xb.terms.length:Int) > 6)=true:=decide_eq_true (by omega)
                     simp (disch:=try exact DI) only [↓PR,QR,simprocAttr,c4.1,hdecb,↓n24c4,↓n24c3,↓n24c2,↓n24c1,hA2.c15 eb',l1,l2,l3]
                     exact no'
                 · have l2:decide ((xb.cases.length:Int) > 20)=true:=decide_eq_true (by omega)
                   simp (disch:=try exact DI) only [↓PR,QR,simprocAttr,c4.1,hdecb,↓n24c4,↓n24c3,↓n24c2,↓n24c1,hA2.c15 eb',l1,l2]
                   exact no'
               · have l1:decide ((xb.name.size:Int) > 100)=true:=decide_eq_true (by omega)
                 simp (disch:=try exact DI) only [↓PR,QR,simprocAttr,c4.1,hdecb,↓n24c4,↓n24c3,↓n24c2,↓n24c1,hA2.c15 eb',l1]
                 exact no'
             · subst hkb
               rw [List.take_length] at hIb
               have c4:=cells_of_heap (eb.obj o4)
               have ee':=e.trans (e4.trans eb)
               unfold n24c5
               simp (disch:=try exact DI) only [↓PR,QR,simprocAttr,c4.1,hdecb]
               exact ⟨⟨k+1,rfl,by omega,ee,all_step hI hx ⟨g1,g2,hIb⟩⟩,meas_lt (kd := .i64) hlt⟩
           · have f2:decide ((x.name.size:Int) > 100)=true:=decide_eq_true (by omega)
             simp (disch:=try exact DI) only [↓PR,QR,simprocAttr,hBW.c3 e,hdec,↓n24c6,hA.c2 e',f1,f2]
             exact no _ (e.alloc _)
         · have f1:decide ((x.fields.length:Int) > 20)=true:=decide_eq_true (by omega)
           simp (disch:=try exact DI) only [↓PR,QR,simprocAttr,hBW.c3 e,hdec,↓n24c6,hA.c2 e',f1]
           exact no _ (e.alloc _)
       · subst hk
         rw [List.take_length] at hI
         unfold n24c7
         simp (disch:=try exact DI) only [↓PR,QR,simprocAttr,hBW.c3 e,hdec]
         exact ⟨_,rfl,fun _=>⟨h1,hI⟩,eW.trans e⟩
     · have d3:decide ((d.start.size:Int) > 100)=true:=decide_eq_true (by omega)
       simp (disch:=try exact DI) only [↓PR,QR,simprocAttr,hBW.c3 (Ext.refl W),d1,d2,↓n24c8,d3]
       exact no _ (Ext.refl _)
   · have d2:decide ((d.name.size:Int) > 100)=true:=decide_eq_true (by omega)
     simp (disch:=try exact DI) only [↓PR,QR,simprocAttr,hBW.c3 (Ext.refl W),d1,d2,↓n24c8]
     exact no _ (Ext.refl _)
 · have d1:decide ((d.msgs.length:Int) > 12)=true:=decide_eq_true (by omega)
   simp (disch:=try exact DI) only [↓PR,QR,simprocAttr,hBW.c3 (Ext.refl W),d1,↓n24c8]
   exact no _ (Ext.refl _)
theorem srefsF_len {f:FieldD} (h:smallF f):(refsF f).length≤20:=by
 unfold refsF
 split
 · simp
 · split
   · simpa using h.2.1
   · simp
theorem sallRefs_len:∀ {l:List FieldD},(∀ f∈l,smallF f)→(allRefs l).length≤l.length*20
 | [],_=>by simp [allRefs]
 | f::l,h=>by
  have h1:=srefsF_len (h f (List.mem_cons_self ..))
  have h2:=sallRefs_len (l:=l) (fun g hg=>h g (List.mem_cons_of_mem _ hg))
  unfold allRefs at *
  rw [List.flatMap_cons,List.length_append,List.length_cons]
  omega
section
variable {d:DefD}
theorem small_calm (h:smallP d):calm d:=fun m hm=>by
 obtain ⟨h1,_,h3⟩:=h.2 m hm
 have:=sallRefs_len h3
 exact ⟨by omega,fun f hf=>by have:=(h3 f hf).2.2;omega⟩
theorem small_tame (h:smallP d):tame d:=⟨by have:=h.1;omega,fun m hm=>⟨by have:=(h.2 m hm).1;omega,fun f hf=>⟨by have:=((h.2 m hm).2.2 f hf).2.2;omega,by have:=((h.2 m hm).2.2 f hf).2.1;omega⟩⟩⟩
theorem small_names (h:smallP d):Names100 d:=fun m hm=>⟨(h.2 m hm).2.1,fun f hf=>((h.2 m hm).2.2 f hf).1⟩
theorem small_lenK {l:List FieldD} (h:∀ f∈l,smallF f):∀ k,lenK l k≤k*21
 | 0=>Nat.le_refl _
 | k+1=>by
  have:=small_lenK h k
  unfold lenK
  cases hf:l[k]? with
  | none=>simp;omega
  | some f =>
   have:=(h f (List.mem_of_getElem? hf)).2.1
   have:lenF f≤21:=by unfold lenF;split<;>omega
   simp only
   omega
theorem small_rout {l:List MsgD} (h:∀ m∈l,smallM m) (r:Nat→Bool):∀ k,routN l r k≤2+k*422
 | 0=>Nat.le_refl _
 | k+1=>by
  have:=small_rout h r k
  unfold routN
  cases hm:l[k]? with
  | none=>simp;omega
  | some m =>
   obtain ⟨h1,_,h3⟩:=h m (List.mem_of_getElem? hm)
   have h4:=small_lenK h3 m.fields.length
   have:lenM m≤422:=by unfold lenM;omega
   simp only
   split<;>omega
theorem small_size (h:smallP d):sizeP d≤100000:=by
 have:=small_rout h.2 (reachD d) d.msgs.length
 have:=h.1
 unfold sizeP
 omega
end
theorem ProgAt.base {w:World} {lo lo' pb:Nat} {d:DefD} (h:ProgAt w lo pb d) (hl:lo'≤lo):ProgAt w lo' pb d:=by
 obtain ⟨mc,cv,rm,gm,h1,h2,h3,h4,h5,h6,h7,h8⟩:=h
 exact ⟨mc,cv,rm,gm,h1,by omega,by omega,by omega,h5.mono hl (Nat.le_refl _),OwnE.base h6 hl,h7,h8⟩
theorem num_ret (w0:World) (v:Value):Ret Pg 15 #[v] w0 fun r w'=>r=v∧Ext w0 w':=by
 refine n22s (R:=retR _) ?_;unfold n22
 exact ⟨_,rfl,rfl,Ext.refl _⟩
theorem made_ret (w0:World) (v:Value) (d:DefD) (hd:DefVal w0 v d) (ht:calm d) (htm:tame d) (hz:sizeP d≤100000):Ret Pg 10 #[v] w0 fun r w'=>(if flawedA d then r = .tuple #[.pointer none,.bool true] else ∃ pb,r = .tuple #[.pointer (some ⟨pb,0,none⟩),.bool true]∧ProgAt w' w0.heap.size pb d)∧Ext w0 w':=by
 obtain ⟨mv,rfl,hM⟩:=hd
 have hm1:=SliceOf.oneCell hM
 refine n21s (R:=retR _) ?_;unfold n21
 rw [op_boxA]
 have o1:=heap_new w0 (defCells d mv).toArray 24
 have eW:Ext w0 (w0.alloc (.cells (defCells d mv).toArray 24)):=ee
 generalize (w0.alloc (.cells (defCells d mv).toArray 24))=W at o1 eW ⊢
 generalize hp1:w0.heap.size=p1 at o1 ⊢
 simp (disch:=try exact DI) only [↓PR,QR,simprocAttr,(cells_of_heap o1).1]
 refine callK_ret (Compile_ret W _ d ⟨mv,rfl,hM.ext eW⟩ ht htm hz) ?_
 rintro rv w1 ⟨hr,e1⟩
 have E1:=eW.trans e1
 cases hfl:flawedA d with
 | true =>
  rw [hfl,if_pos rfl] at hr
  subst hr
  simp (disch:=try exact DI) only [↓PR,QR,simprocAttr,↓n21c3,(cells_of_heap (e1.obj o1)).1]
  refine zcr (Aligned_ret _ d ⟨_,rfl,hM.ext E1⟩ ht) fun w2 e2=>?_
  rw [hfl]
  simp (disch:=try exact DI) only [↓PR,QR,simprocAttr,↓n21c1]
  rw [op_eqNilP Tryz.underlying27]
  simp (disch:=try exact DI) only [↓PR,QR,simprocAttr,Option.isNone_none]
  refine zcr (num_ret _ _) fun w3 e3=>?_
  simp (disch:=try exact DI) only [↓PR,QR,simprocAttr]
  exact ⟨_,rfl,by rw [if_pos rfl],E1.trans (e2.trans e3)⟩
 | false =>
  rw [hfl,if_neg (by decide)] at hr
  obtain ⟨pb,rfl,hP⟩:=hr
  simp (disch:=try exact DI) only [↓PR,QR,simprocAttr,↓n21c3,(cells_of_heap (e1.obj o1)).1]
  refine zcr (Aligned_ret _ d ⟨_,rfl,hM.ext E1⟩ ht) fun w2 e2=>?_
  rw [hfl]
  simp (disch:=try exact DI) only [↓PR,QR,simprocAttr,↓n21c2]
  rw [op_neNilP Tryz.underlying27]
  simp (disch:=try exact DI) only [↓PR,QR,simprocAttr,Option.isNone_some]
  refine zcr (num_ret _ _) fun w3 e3=>?_
  simp only [Option.isNone_some,Bool.not_false]
  simp (disch:=try exact DI) only [↓PR,QR,simprocAttr]
  exact ⟨⟨pb,rfl,(hP.ext (e2.trans e3)).base (by have:=eW.size;omega)⟩,E1.trans (e2.trans e3)⟩
def zFd:FieldD:={ name:=ByteArray.empty,kind:=0,bits:=0,little:=false,loose:=false,low:=0,high:=0,base:=0,terms:=[],of:=ByteArray.empty,tag:=ByteArray.empty,fr:=ByteArray.empty,cases:=[],check:=0,key:=0 }
def fAx:FieldD:={ zFd with name:=⟨#[120]⟩,kind:=1,bits:=8,high:=1 }
def fBz:FieldD:={ zFd with name:=⟨#[122]⟩,kind:=2,bits:=8 }
def fSn:FieldD:={ zFd with name:=⟨#[110]⟩,kind:=1,bits:=8,high:=3 }
def fSt:FieldD:={ zFd with name:=⟨#[116]⟩,kind:=2,bits:=8,low:=2 }
def fSl:FieldD:={ zFd with name:=⟨#[108]⟩,kind:=7,of:=⟨#[97]⟩,terms:=[⟨⟨#[110]⟩,1⟩] }
def fSc:FieldD:={ zFd with name:=⟨#[99]⟩,kind:=9,tag:=⟨#[116]⟩,cases:=[⟨2,2,⟨#[97]⟩⟩] }
def xA:MsgD:=⟨⟨#[97]⟩,[fAx]⟩
def xB:MsgD:=⟨⟨#[98]⟩,[fBz]⟩
def xS:MsgD:=⟨⟨#[115]⟩,[fSn,fSt,fSl,fSc]⟩
def gv18:DefD:=⟨⟨#[100]⟩,[xA,xB,xS],⟨#[115]⟩⟩
theorem gv_small:smallP gv18:=by
 refine ⟨by decide,?_⟩
 intro m hm
 simp only [gv18,List.mem_cons,List.not_mem_nil,or_false] at hm
 rcases hm with rfl | rfl | rfl
 all_goals
  refine ⟨by decide,by decide,?_⟩
  intro f hf
  simp only [xA,xB,xS,List.mem_cons,List.not_mem_nil,or_false] at hf
  rcases hf with rfl | rfl | rfl | rfl<;>exact ⟨by decide,by decide,by decide⟩
theorem gv_ok:flawedA gv18=false:=by decide +kernel
theorem gv_size:sizeP gv18=12:=by decide +kernel
theorem gv_rs:routE gv18 ⟨#[115]⟩=some 5:=by decide +kernel
theorem gv_gs:regE gv18 ⟨#[115]⟩=some 2:=by decide +kernel
theorem gv_ga:regE gv18 ⟨#[97]⟩=some 0:=by decide +kernel
theorem gv_rb:routE gv18 ⟨#[98]⟩=none:=by decide +kernel
theorem gv_text:textN gv18 (codeP gv18) 12=⟨#[48,32,99,97,108,108,32,53,10,49,32,115,116,111,112,10,50,32,101,110,116,101,114,32,97,10,51,32,114,101,97,100,32,97,46,120,10,52,32,114,101,116,117,114,110,32,97,10,53,32,101,110,116,101,114,32,115,10,54,32,114,101,97,100,32,115,46,110,32,114,48,10,55,32,114,101,97,100,32,115,46,116,32,114,49,10,56,32,109,97,110,121,32,115,46,108,32,50,10,57,32,115,101,108,101,99,116,32,115,46,99,10,49,48,32,99,97,115,101,32,50,45,50,32,50,10,49,49,32,114,101,116,117,114,110,32,115]⟩:=by decide +kernel
theorem rows_given {α:Type} {w:World} {b n:Nat} {T:TypeId} {E:World→List Value→α→Prop} (css:List (List Value)) (l:List α) (hn0:0 < n) (h:w.heap[b]?=some (.cells css.flatten.toArray T (0,0))) (hn:∀ cs∈css,cs.length=n) (hl:l.length=css.length) (hb:l.length≤1048576) (hE:∀ (k:Nat) cs x,css[k]?=some cs→l[k]?=some x→E w cs x):SliceOf w n E (.slice (some ⟨b,0,none⟩) l.length l.length) l:=by
 refine ⟨_,_,rfl,Nat.le_refl _,by omega,fun _=>⟨b,0,rfl,fun k x hx=>?_⟩⟩
 obtain ⟨cs,hcs⟩:=getElem?_lt (l:=css) (k:=k) (by have:=(List.getElem?_eq_some_iff.1 hx).1;omega)
 refine ⟨cs,hn cs (List.mem_of_getElem? hcs),fun j u hu=>?_,hE k cs x hcs hx⟩
 rw [(cells_of_heap h).1]
 have hj:j < n:=by have:=(List.getElem?_eq_some_iff.1 hu).1;rw [hn cs (List.mem_of_getElem? hcs)] at this;exact this
 have key:∀ (css:List (List Value)) (k:Nat),(∀ cs∈css,cs.length=n)→css[k]?=some cs→css.flatten[k*n+j]?=some u:=by
  intro css
  induction css with
  | nil=>intro k _ h;cases h
  | cons c css ih =>
   intro k hn h
   have hc:=hn c (List.mem_cons_self ..)
   cases k with
   | zero =>
    injection h with h
    subst h
    rw [List.flatten_cons,Nat.zero_mul,Nat.zero_add,List.getElem?_append_left (by omega)]
    exact hu
   | succ k =>
    rw [List.flatten_cons,List.getElem?_append_right (by rw [hc,Nat.succ_mul];omega),hc,show (k+1)*n+j - n=k*n+j by rw [Nat.succ_mul];omega]
    exact ih k (fun cs hm=>hn cs (List.mem_cons_of_mem _ hm)) h
 have:=key css k hn hcs
 simpa using this
theorem given18_ret (w0:World):Ret Pg 30 #[] w0 fun r w'=>DefVal w' r gv18∧Ext w0 w':=by
 refine n19s (R:=retR _) ?_;unfold n19
 simp (disch:=try exact DI) only [↓PR,QR,simprocAttr]
 generalize hn:w0.heap.size=n
 refine ⟨⟨_,rfl,?_⟩,ee⟩
 subst hn
 have r1:∀ (f:FieldD) (k:Nat) (cs:List Value) (x:FieldD) (w:World),f.terms=[]→f.cases=[]→[fieldCells f (.slice none 0 0) (.slice none 0 0)][k]?=some cs→[f][k]?=some x→EField w cs x:=fun f k cs x w ht hc h1 h2=>by
  match k with
  | 0=>injection h1 with h1;injection h2 with h2;subst h1 h2;exact ⟨_,_,rfl,by rw [ht];exact SliceOf.nil _ _ _,by rw [hc];exact SliceOf.nil _ _ _⟩
 refine rows_given (T:=53) [msgCells xA (.slice (some ⟨w0.heap.size+1,0,none⟩) 1 1),msgCells xB (.slice (some ⟨w0.heap.size+3,0,none⟩) 1 1),msgCells xS (.slice (some ⟨w0.heap.size+7,0,none⟩) 4 4)] gv18.msgs (by decide) (by simp (disch:=try exact DI) only [↓PR,QR,simprocAttr];rfl) (by simp [msgCells]) rfl (by decide) fun k cs x h1 h2=>?_
 match k with
 | 0 =>
  injection h1 with h1;injection h2 with h2;subst h1 h2
  exact ⟨_,rfl,rows_given [fieldCells fAx (.slice none 0 0) (.slice none 0 0)] [fAx] (by decide) (by simp (disch:=try exact DI) only [↓PR,QR,simprocAttr];rfl) (by simp [fieldCells]) rfl (by decide) fun k cs x h1 h2=>r1 fAx k cs x _ rfl rfl h1 h2⟩
 | 1 =>
  injection h1 with h1;injection h2 with h2;subst h1 h2
  exact ⟨_,rfl,rows_given [fieldCells fBz (.slice none 0 0) (.slice none 0 0)] [fBz] (by decide) (by simp (disch:=try exact DI) only [↓PR,QR,simprocAttr];rfl) (by simp [fieldCells]) rfl (by decide) fun k cs x h1 h2=>r1 fBz k cs x _ rfl rfl h1 h2⟩
 | 2 =>
  injection h1 with h1;injection h2 with h2;subst h1 h2
  refine ⟨_,rfl,rows_given [fieldCells fSn (.slice none 0 0) (.slice none 0 0),fieldCells fSt (.slice none 0 0) (.slice none 0 0),fieldCells fSl (.slice (some ⟨w0.heap.size+5,0,none⟩) 1 1) (.slice none 0 0),fieldCells fSc (.slice none 0 0) (.slice (some ⟨w0.heap.size+6,0,none⟩) 1 1)] xS.fields (by decide) (by simp (disch:=try exact DI) only [↓PR,QR,simprocAttr];rfl) (by simp [fieldCells]) rfl (by decide) fun k cs x h1 h2=>?_⟩
  match k with
  | 0=>injection h1 with h1;injection h2 with h2;subst h1 h2;exact ⟨_,_,rfl,SliceOf.nil _ _ _,SliceOf.nil _ _ _⟩
  | 1=>injection h1 with h1;injection h2 with h2;subst h1 h2;exact ⟨_,_,rfl,SliceOf.nil _ _ _,SliceOf.nil _ _ _⟩
  | 2 =>
   injection h1 with h1;injection h2 with h2;subst h1 h2
   refine ⟨_,_,rfl,?_,SliceOf.nil _ _ _⟩
   exact rows_given (T:=113) [termCells ⟨⟨#[110]⟩,1⟩] fSl.terms (by decide) (by simp (disch:=try exact DI) only [↓PR,QR,simprocAttr];rfl) (by simp [termCells]) rfl (by decide) fun k cs x h1 h2=>by
    match k with
    | 0=>injection h1 with h1;injection h2 with h2;subst h1 h2;rfl
  | 3 =>
   injection h1 with h1;injection h2 with h2;subst h1 h2
   refine ⟨_,_,rfl,SliceOf.nil _ _ _,?_⟩
   exact rows_given (T:=85) [caseCells ⟨2,2,⟨#[97]⟩⟩] fSc.cases (by decide) (by simp (disch:=try exact DI) only [↓PR,QR,simprocAttr];rfl) (by simp [caseCells]) rfl (by decide) fun k cs x h1 h2=>by
    match k with
    | 0=>injection h1 with h1;injection h2 with h2;subst h1 h2;rfl
theorem known18_ret (w0:World) (hT:TabOK w0):Ret Pg 9 #[] w0 fun r w'=>r = .bool true∧Ext w0 w':=by
 have hz:sizeP gv18≤100000:=small_size gv_small
 have hcv:=aligned_valid gv_ok
 refine n20s (R:=retR _) ?_;unfold n20
 refine callK_ret (given18_ret w0) ?_
 rintro gv w1 ⟨hD,e1⟩
 refine callK_ret (Compile_ret w1 _ gv18 hD (small_calm gv_small) (small_tame gv_small) hz) ?_
 rintro _ w2 ⟨hr,e2⟩
 rw [gv_ok,if_neg (by decide)] at hr
 obtain ⟨pb,rfl,hP⟩:=hr
 have E2:=e1.trans e2
 simp (disch:=try exact DI) only [↓PR,QR,simprocAttr,↓n20c15]
 refine zcr (num_ret _ _) fun w3 e3=>?_
 have P3:=hP.ext e3
 simp (disch:=try exact DI) only [↓PR,QR,simprocAttr,↓n20c14]
 rw [op_eqNilP Tryz.underlying27]
 simp only [Option.isNone_some]
 simp (disch:=try exact DI) only [↓PR,QR,simprocAttr,↓n20c13]
 refine zcr (Routine_ret P3 ⟨#[115]⟩) fun w4 e4=>?_
 rw [gv_rs]
 have P4:=P3.ext e4
 simp (disch:=try exact DI) only [↓PR,QR,simprocAttr,↓n20c12,Option.getD_some,Option.isSome_some]
 refine zcr (Registers_ret P4 ⟨#[115]⟩) fun w5 e5=>?_
 rw [gv_gs]
 have P5:=P4.ext e5
 simp (disch:=try exact DI) only [↓PR,QR,simprocAttr,↓n20c11,Option.getD_some,Option.isSome_some]
 refine zcr (Registers_ret P5 ⟨#[97]⟩) fun w6 e6=>?_
 rw [gv_ga]
 have P6:=P5.ext e6
 simp (disch:=try exact DI) only [↓PR,QR,simprocAttr,↓n20c10,Option.getD_some,Option.isSome_some]
 refine zcr (Routine_ret P6 ⟨#[98]⟩) fun w7 e7=>?_
 rw [gv_rb]
 have P7:=P6.ext e7
 simp (disch:=try exact DI) only [↓PR,QR,simprocAttr,↓n20c9,Option.getD_none,Option.isSome_none]
 refine zcr (Len_ret P7) fun w8 e8=>?_
 rw [gv_size]
 have P8:=P7.ext e8
 simp (disch:=try exact DI) only [↓PR,QR,simprocAttr,↓n20c8,↓n20c7,↓n20c6,↓n20c5]
 simp only [Option.isSome_some,Option.isSome_none,Bool.false_eq_true,if_true,if_false]
 refine zcr (num_ret _ _) fun w9 e9=>?_
 refine zcr (num_ret _ _) fun w10 e10=>?_
 have a10:IntKind.i64.wrap ((0:Int)+0)=0:=by decide
 simp (disch:=try exact DI) only [↓PR,QR,simprocAttr,↓n20c4,a10]
 refine zcr (num_ret _ _) fun w11 e11=>?_
 simp (disch:=try exact DI) only [↓PR,QR,simprocAttr,a10,↓n20c3]
 refine zcr (num_ret _ _) fun w12 e12=>?_
 have e812:=e9.trans (e10.trans (e11.trans e12))
 have E12:=(E2.trans (e3.trans (e4.trans (e5.trans (e6.trans (e7.trans e8)))))).trans e812
 simp (disch:=try exact DI) only [↓PR,QR,simprocAttr,↓n20c2]
 refine zcr (Text_ret (P8.ext e812) (hT.ext E12) (small_names gv_small) hcv hz) fun w13 e13=>?_
 rw [gv_size,gv_text]
 simp (disch:=try exact DI) only [↓PR,QR,simprocAttr,↓n20c1]
 exact ⟨by trivial,E12.trans e13⟩
theorem scRow {b:Nat} {T:TypeId} {fr:Nat×Nat}:∀ (vs:List Value) (o:Nat) {w:World} {cur:Array Value},w.heap[b]?=some (.cells cur T fr)→∃ cur':Array Value,(setCells w b o vs).heap[b]?=some (.cells cur' T fr)∧cur'.size=cur.size
 | [],_,_,_,h=>⟨_,h,rfl⟩
 | v::vs,o,w,cur,h=>by
  obtain ⟨cur',h1,h2⟩:=scRow vs (o+1) (heap_set (o:=o) h v)
  exact ⟨cur',h1,by rw [h2];simp⟩
theorem scOnly {b:Nat}:∀ (vs:List Value) (o:Nat) (w:World),Only b w (setCells w b o vs)
 | [],_,_=>fun _ _=>rfl
 | v::vs,o,w=>fun g hg=>(scOnly vs (o+1) (w.setCell ⟨b,o,none⟩ v) g hg).trans (Only.setCell w b o v g hg)
theorem scStore {P:Program} {QP:List PanicEntry→World→Prop} {w:World} {T n m:Nat} {z:Value} {ku:World→Prop} (h:TyInfo P T true n m z) {b:Nat} {cur:Array Value} {T':TypeId} (hc:w.heap[b]?=some (.cells cur T' (0,0))) (o:Nat) (vs:List Value) (ho:o+n≤cur.size) (hn:vs.length=n) (hv:∀ v∈vs,v.oneCell'=true) :
 opU P (Instr.storeAt T (.pointer (some ⟨b,o,none⟩)) (.agg vs.toArray)) QP w ku=ku (setCells w b o vs):=by
 refine opU_ok (u:=()) ?_
 have:=run_storeCellsA (P:=P) b o vs 0 w (fun j hj=>⟨cur[o+(0+j)]'(by omega),by rw [(cells_of_heap hc).1];exact Array.getElem?_eq_getElem (by omega)⟩) (fun j hj=>(cells_of_heap hc).2 _) hv
 simp [Instr.storeAt,Instr.sureAddr,storeVar,Sw.run_sizeOf h,cells_agg,hn,this]
section
variable {lo hi B:Nat} {w w':World}
def Fit (T:TypeId) (o:Nat) (v:Value) (B:Nat):Prop:=(T=TM→o % 2=0)∧(T=TF→o % 15=0∧v.oneCell'=true)∧(T=TC→o % 3=2→∃ s:ByteArray,v = .string s∧s.size≤B)∧(T=TT→o % 2=1∧∃ n:Int,v = .int .i64 n)
variable {b o:Nat} {v:Value} {T:TypeId} {cur0:Array Value} (hb:w.heap[b]?=some (.cells cur0 T (0,0))) {B':Nat} (hBB:B≤B') (hf:Fit T o v B')
include hb hBB hf
end
section
variable {lo hi B:Nat} {w w':World}
theorem row_cell {w:World} {lo hi n:Nat} {T:TypeId} {v:Value} {css:List (Cs n)} (h:OwnR w lo hi T n Subtype.val v css):(v = .slice none 0 0∧css=[])∨∃ g cap cur,v = .slice (some ⟨g,0,none⟩) css.length cap∧lo≤g∧g < hi∧w.heap[g]?=some (.cells cur T (0,0))∧css.length*n≤cur.size∧∀ (k:Nat) (cs:Cs n) (j:Nat) (u:Value),css[k]?=some cs→cs.1[j]?=some u→cur[k*n+j]?=some u:=by
 obtain ⟨⟨h1,h2⟩,h3⟩:=h
 rcases h2 with ⟨hv,h0⟩ | ⟨g,cap,cur,hv,hb,hc,hn,_,hsz,htake⟩
 · exact .inl ⟨hv,List.eq_nil_of_length_eq_zero h0⟩
 · refine .inr ⟨g,cap,cur,hv,hb,h3 g (by rw [hv];rfl),hc,by rw [hsz];exact Nat.mul_le_mul_right _ hn,fun k cs j u hk hu=>?_⟩
   have:=flatMap_get (enc:=(Subtype.val:Cs n→List Value)) (fun x=>x.2) css k cs j u hk hu
   rw [← htake,List.getElem?_take] at this
   split at this
   · simpa using this
   · cases this
end
def Away (w:World) (lo2 hi2 lo hi:Nat) (Ts:List TypeId):Prop:=hi2≤lo∨hi≤lo2∨hi=lo+1∧∃ T',TypeAt w lo T'∧∀ T∈Ts,T'≠T
section
variable {w w':World} {lo hi lo2 hi2:Nat}
theorem Away.sub {Ts Ts':List TypeId} (h:Away w lo2 hi2 lo hi Ts) (hs:∀ T∈Ts',T∈Ts):Away w lo2 hi2 lo hi Ts':=by
 rcases h with h | h | ⟨h0,T',h1,h2⟩
 · exact .inl h
 · exact .inr (.inl h)
 · exact .inr (.inr ⟨h0,T',h1,fun T hT=>h2 T (hs T hT)⟩)
theorem own_save {α:Type} {n:Nat} {T:TypeId} {Ts:List TypeId} {enc:α→List Value} {v:Value} {l:List α} (h:OwnR w lo2 hi2 T n enc v l) (hs:Save lo hi w w') (hd:Away w lo2 hi2 lo hi Ts) (hT:T∈Ts):OwnR w' lo2 hi2 T n enc v l:=by
 refine ⟨⟨h.1.1,?_⟩,h.2⟩
 rcases h.1.2 with h2 | ⟨g,cap,cur,h1,h2,h3,h4⟩
 · exact .inl h2
 · have:=h.2 g (by rw [h1];rfl)
   refine .inr ⟨g,cap,cur,h1,h2,hs.obj h3 ?_,h4⟩
   rcases hd with hd | hd | ⟨hd,T',⟨cur',fr,ht⟩,hne⟩
   · omega
   · omega
   · by_cases e:g=lo
     · subst e
       rw [h3] at ht;injection ht with ht;injection ht with _ ht _
       exact absurd ht.symm (hne T hT)
     · omega
theorem fields_save {v:Value} {l:List FieldD} (h:FieldsN w lo2 hi2 v l) (hs:Save lo hi w w') (hd:Away w lo2 hi2 lo hi [TT,TC,TF]):FieldsN w' lo2 hi2 v l:=by
 obtain ⟨css,h1,h2⟩:=h
 exact ⟨css,own_save h1 hs hd (by simp),h2.imp fun _ _ ⟨tv,cv,h1,h2,h3⟩=>⟨tv,cv,h1,own_save h2 hs hd (by simp),own_save h3 hs hd (by simp)⟩⟩
theorem msgs_save {v:Value} {l:List MsgD} (h:MsgsN w lo2 hi2 v l) (hs:Save lo hi w w') (hd:Away w lo2 hi2 lo hi [TT,TC,TF,TM]):MsgsN w' lo2 hi2 v l:=by
 obtain ⟨css,h1,h2⟩:=h
 exact ⟨css,own_save h1 hs hd (by simp),h2.imp fun _ _ ⟨fv,h1,h2⟩=>⟨fv,h1,fields_save h2 hs (hd.sub (by simp))⟩⟩
end
section
variable {lo hi n:Nat} {w w' U:World}
def RowF (w:World) (lo hi:Nat) (fv:Value) (nf:Nat):Prop:=(fv = .slice none 0 0∧nf=0)∨∃ g cap cur,fv = .slice (some ⟨g,0,none⟩) nf cap∧lo≤g∧g < hi∧w.heap[g]?=some (.cells cur TF (0,0))∧nf*15≤cur.size
def RowMs (w:World) (lo hi:Nat) (mv:Value) (n:Nat):Prop:=(mv = .slice none 0 0∧n=0)∨∃ g cap cur,mv = .slice (some ⟨g,0,none⟩) n cap∧lo≤g∧g < hi∧w.heap[g]?=some (.cells cur TM (0,0))∧n*2≤cur.size∧∀ k,k < n→∃ fv nf,cur[k*2+1]?=some fv∧nf≤400∧RowF w lo hi fv nf
theorem RowF.turn {fv:Value} {nf:Nat} (h:RowF w lo hi fv nf) (hk:∀ (b:Nat) (cur:Array Value),w.heap[b]?=some (.cells cur TF (0,0))→∃ cur':Array Value,w'.heap[b]?=some (.cells cur' TF (0,0))∧cur.size≤cur'.size):RowF w' lo hi fv nf:=by
 rcases h with h | ⟨g,cap,cur,h1,h2,h3,h4,h5⟩
 · exact .inl h
 · obtain ⟨cur',a,b⟩:=hk g cur h4
   exact .inr ⟨g,cap,cur',h1,h2,h3,a,by omega⟩
theorem RowMs.turn {mv:Value} (h:RowMs w lo hi mv n) (hk:∀ (b:Nat) (cur:Array Value),w.heap[b]?=some (.cells cur TF (0,0))→∃ cur':Array Value,w'.heap[b]?=some (.cells cur' TF (0,0))∧cur.size≤cur'.size)
 (hm:∀ (b:Nat) (cur:Array Value),w.heap[b]?=some (.cells cur TM (0,0))→∃ cur':Array Value,w'.heap[b]?=some (.cells cur' TM (0,0))∧cur.size≤cur'.size∧∀ k,cur'[k*2+1]?=cur[k*2+1]?):RowMs w' lo hi mv n:=by
 rcases h with h | ⟨g,cap,cur,h1,h2,h3,h4,h5,h6⟩
 · exact .inl h
 · obtain ⟨cur',a,b,c⟩:=hm g cur h4
   refine .inr ⟨g,cap,cur',h1,h2,h3,a,by omega,fun k hk'=>?_⟩
   obtain ⟨fv,nf,d1,d2,d3⟩:=h6 k hk'
   exact ⟨fv,nf,by rw [c];exact d1,d2,d3.turn hk⟩
theorem MsgsN.rows {mv:Value} {l:List MsgD} (h:MsgsN w lo hi mv l) (ht:∀ m∈l,m.fields.length≤400):RowMs w lo hi mv l.length:=by
 obtain ⟨css,hO,hm1,hm2⟩:=h
 rcases row_cell hO with ⟨hv,h0⟩ | ⟨g,cap,cur,hv,h1,h2,h3,h4,h5⟩
 · refine .inl ⟨hv,?_⟩
   rw [h0] at hm1;exact hm1.symm
 · rw [hm1] at hv h4
   refine .inr ⟨g,cap,cur,hv,h1,h2,h3,h4,fun k hk=>?_⟩
   obtain ⟨x,hx⟩:=getElem?_lt hk
   obtain ⟨cs,hcs⟩:=getElem?_lt (l:=css) (k:=k) (by rw [hm1];exact hk)
   obtain ⟨fv,he,cf,hF,hf1,hf2⟩:=hm2 k x cs hx hcs
   refine ⟨fv,x.fields.length,h5 k cs 1 fv hcs (by rw [he];rfl),ht x (List.mem_of_getElem? hx),?_⟩
   rcases row_cell hF with ⟨hv,h0⟩ | ⟨g',cap',cur',hv',a1,a2,a3,a4,_⟩
   · refine .inl ⟨hv,?_⟩
     rw [h0] at hf1;exact hf1.symm
   · rw [hf1] at hv' a4
     exact .inr ⟨g',cap',cur',hv',a1,a2,a3,a4⟩
theorem keep_TF {g o:Nat} {cf:Array Value} {vs:List Value} (hg:w.heap[g]?=some (.cells cf TF (0,0))):(∀ (b:Nat) (cur:Array Value),w.heap[b]?=some (.cells cur TF (0,0))→∃ cur':Array Value,(setCells w g o vs).heap[b]?=some (.cells cur' TF (0,0))∧cur.size≤cur'.size) ∧
 (∀ (b:Nat) (cur:Array Value),w.heap[b]?=some (.cells cur TM (0,0))→∃ cur':Array Value,(setCells w g o vs).heap[b]?=some (.cells cur' TM (0,0))∧cur.size≤cur'.size∧∀ j,cur'[j*2+1]?=cur[j*2+1]?):=by
 refine ⟨fun b cur h=>?_,fun b cur h=>⟨cur,(scOnly vs o w b (by
  rintro rfl
  rw [hg] at h
  injection h with h
  injection h with _ h _
  exact absurd h (by decide))).trans h,Nat.le_refl _,fun _=>rfl⟩⟩
 by_cases e:b=g
 · subst e
   obtain ⟨cur',a,c⟩:=scRow vs o h
   exact ⟨cur',a,by omega⟩
 · exact ⟨cur,(scOnly vs o w b e).trans h,Nat.le_refl _⟩
theorem scSave {b:Nat} (h1:lo≤b) (h2:b < hi):∀ (vs:List Value) (o:Nat) {w:World},Save lo hi U w→Save lo hi U (setCells w b o vs)
 | [],_,_,e=>e
 | v::vs,o,w,e=>scSave h1 h2 vs (o+1) (e.setCell h1 h2 v)
end
theorem ProgAt.save {w w':World} {lo hi lo2 pb:Nat} {d:DefD} (h:ProgAt w lo2 pb d) (hs:Save lo hi w w') (hl:hi≤lo2):ProgAt w' lo2 pb d:=by
 obtain ⟨mc,cv,rm,gm,h1,h2,h3,h4,h5,h6,h7,h8⟩:=h
 exact ⟨mc,cv,rm,gm,hs.obj h1 (.inr (by omega)),h2,h3,h4,(msgs_save h5 hs (.inr (.inl hl))).mono (Nat.le_refl _) hs.size,(own_save (Ts:=[TI]) h6.range hs (.inr (.inl hl)) (by simp)).1,h7.same (hs.block _ h7.lt (.inr (by omega))),h8.same (hs.block _ h8.lt (.inr (by omega)))⟩
theorem mapF_miss {l:List MsgD} {r:Nat→Bool} {g:Nat→Int} {s:ByteArray} (h:(l.any fun m=>decide (m.name=s))=false):mapF l r g l.length s=none:=by
 unfold mapF
 rw [if_neg]
 rintro ⟨h1,_,_⟩
 obtain ⟨k,hk⟩:∃ k:Nat,idN l s=k:=⟨(idN l s).toNat,by omega⟩
 obtain ⟨m,h2,h3⟩:=idN_get hk
 have:(l.any fun m=>decide (m.name=s))=true:=List.any_eq_true.2 ⟨m,List.mem_of_getElem? h2,by simp [h3]⟩
 rw [h] at this
 cases this
theorem find_hit {l:List MsgD} {s:ByteArray} (h:(l.any fun m=>decide (m.name=s))=true):∃ k:Nat,k < l.length∧idx0 (fun m=>decide (m.name=s)) l=k∧idN l s=k:=by
 have:=idx_take (p:=fun m:MsgD=>decide (m.name=s)) (l:=l) (i:=l.length) (by rw [List.take_length];exact h)
 rw [List.take_length] at this
 obtain ⟨h1,h2,h3⟩:=this
 exact ⟨(idx (fun m=>decide (m.name=s)) l).toNat,by omega,by rw [h3];omega,by unfold idN;omega⟩
theorem mapF_find {l:List MsgD} {r:Nat→Bool} {g:Nat→Int} {s:ByteArray} {k:Nat} (h:idN l s=k) (hk:k < l.length):mapF l r g l.length s=if r k=true then some (g k) else none:=by
 unfold mapF
 rw [h,Int.toNat_natCast]
 by_cases hr:r k=true
 · rw [if_pos ⟨by omega,by omega,hr⟩,if_pos hr]
 · rw [if_neg (fun h=>hr h.2.2),if_neg hr]
def n18c1 (t5 t8 t9:Value) (next5:KV) (R:RT) (w:World):Prop :=
 opV Pg (Instr.fieldAt 24 t5 1) (panK R) w fun t61 w =>
 opV Pg (Instr.loadAt 22 t61) (panK R) w fun t62 w =>
 opV Pg (Instr.indexAt 22 t62 t8) (panK R) w fun t64 w =>
 opV Pg (Instr.fieldAt 53 t64 1) (panK R) w fun t65 w =>
 opV Pg (Instr.loadAt 51 t65) (panK R) w fun t66 w =>
 opV Pg (Instr.build 71 #[]) (panK R) w fun t68 w =>
 opV Pg (Instr.indexAt 51 t66 t9) (panK R) w fun t69 w =>
 opU Pg (Instr.storeAt 71 t69 t68) (panK R) w fun w =>
 opV Pg (binS .add 3 true t9 (.int .i64 1)) (panK R) w fun t60 w =>
 next5 t60 w
def n18c2 (t5 t8 t9:Value) (next4:KV) (next5:KV) (R:RT) (w:World):Prop :=
 opV Pg (Instr.fieldAt 24 t5 1) (panK R) w fun t51 w =>
 opV Pg (Instr.loadAt 22 t51) (panK R) w fun t52 w =>
 opV Pg (Instr.indexAt 22 t52 t8) (panK R) w fun t54 w =>
 opV Pg (Instr.fieldAt 53 t54 1) (panK R) w fun t55 w =>
 opV Pg (Instr.loadAt 51 t55) (panK R) w fun t56 w =>
 opV Pg (Builtin.len_ #[51] 3 #[t56]) (panK R) w fun t57 w =>
 opV Pg (binS .lss 3 false t9 t57) (panK R) w fun t58 w =>
 condP t58 (
 n18c1 t5 t8 t9 next5 R w) (
 opV Pg (binS .add 3 true t8 (.int .i64 1)) (panK R) w fun t49 w =>
 next4 t49 w)
def n18c3 (t137 t142:Value) (C9:World→Prop) (R:RT) (w:World):Prop :=
 pickK t137 t142 (.bool false) fun t143 =>
 joinK (fun (t145:Value) (w:World) =>
 pickK t143 t145 (.bool false) fun t146 =>
 R (.returned t146) w) fun K13 =>
 guardP t143 true (
 callK Pg 9 #[] (panK R) w fun t145 w =>
 C9 w∧(
 K13 t145 w)) (
 K13 undef w)
def n18c4 (t2 t31 t132 t136:Value) (C9:World→Prop) (R:RT) (w:World):Prop :=
 pickK t132 t136 (.bool false) fun t137 =>
 joinK (fun (t142:Value) (w:World) =>
 n18c3 t137 t142 C9 R w) fun K12 =>
 guardP t137 true (
 qV Pg C9 (Instr.loadAt 24 t2) fun t141 =>
 callK Pg 23 #[t31] (panK R) w fun t140 w =>
 C9 w∧(
 callK Pg 25 #[t140,t141] (panK R) w fun t142 w =>
 C9 w∧(
 K12 t142 w))) (
 K12 undef w)
def n18c5 (t2 t31 t81 t127 t131:Value) (C9:World→Prop) (R:RT) (w:World):Prop :=
 pickK t127 t131 (.bool false) fun t132 =>
 joinK (fun (t136:Value) (w:World) =>
 n18c4 t2 t31 t132 t136 C9 R w) fun K11 =>
 guardP t132 true (
 callK Pg 15 #[t81] (panK R) w fun t135 w =>
 C9 w∧(
 qV Pg C9 (binS .eql 3 true t135 (.int .i64 9)) fun t136 =>
 K11 t136 w)) (
 K11 undef w)
def n18c6 (t2 t31 t74 t75 t80 t81:Value) (C9:World→Prop) (R:RT) (w:World):Prop :=
 qV Pg C9 (binS .add 3 false t74 t80) fun t126 =>
 qV Pg C9 (binS .eql 3 true t126 (.int .i64 0)) fun t127 =>
 joinK (fun (t131:Value) (w:World) =>
 n18c5 t2 t31 t81 t127 t131 C9 R w) fun K10 =>
 guardP t127 true (
 callK Pg 15 #[t75] (panK R) w fun t130 w =>
 C9 w∧(
 qV Pg C9 (binS .eql 3 true t130 (.int .i64 9)) fun t131 =>
 K10 t131 w)) (
 K10 undef w)
def n18c7 (t81 t164:Value) (C14:World→Prop) (K16:KV) (R:RT) (w:World):Prop :=
 callK Pg 15 #[t81] (panK R) w fun t166 w =>
 C14 w∧(
 qV Pg C14 (binS .add 3 false t164 t166) fun t167 =>
 qV Pg C14 (binS .eql 3 true t167 (.int .i64 0)) fun t168 =>
 K16 t168 w)
def n18c8 (t169 t174:Value) (C14:World→Prop) (R:RT) (w:World):Prop :=
 pickK t169 t174 (.bool false) fun t175 =>
 joinK (fun (t177:Value) (w:World) =>
 pickK t175 t177 (.bool false) fun t178 =>
 R (.returned t178) w) fun K18 =>
 guardP t175 true (
 callK Pg 9 #[] (panK R) w fun t177 w =>
 C14 w∧(
 K18 t177 w)) (
 K18 undef w)
def n18c9 (t2 t31 t161 t168:Value) (C14:World→Prop) (R:RT) (w:World):Prop :=
 pickK t161 t168 (.bool false) fun t169 =>
 joinK (fun (t174:Value) (w:World) =>
 n18c8 t169 t174 C14 R w) fun K17 =>
 guardP t169 true (
 qV Pg C14 (Instr.loadAt 24 t2) fun t173 =>
 callK Pg 23 #[t31] (panK R) w fun t172 w =>
 C14 w∧(
 callK Pg 25 #[t172,t173] (panK R) w fun t174 w =>
 C14 w∧(
 K17 t174 w))) (
 K17 undef w)
def n18c10 (t2 t31 t75 t81 t151 t160:Value) (C14:World→Prop) (R:RT) (w:World):Prop :=
 pickK t151 t160 (.bool false) fun t161 =>
 joinK (fun (t168:Value) (w:World) =>
 n18c9 t2 t31 t161 t168 C14 R w) fun K16 =>
 guardP t161 true (
 callK Pg 15 #[t75] (panK R) w fun t164 w =>
 C14 w∧(
 n18c7 t81 t164 C14 K16 R w)) (
 K16 undef w)
def n18c11 (t2 t31 t74 t75 t80 t81 t112 t150:Value) (C14:World→Prop) (R:RT) (w:World):Prop :=
 qV Pg C14 (binS .eql 3 false t74 t150) fun t151 =>
 joinK (fun (t160:Value) (w:World) =>
 n18c10 t2 t31 t75 t81 t151 t160 C14 R w) fun K15 =>
 guardP t151 true (
 qV Pg C14 (Instr.fieldAt 24 t2 1) fun t154 =>
 qV Pg C14 (Instr.loadAt 22 t154) fun t155 =>
 qV Pg C14 (Instr.indexAt 22 t155 t112) fun t157 =>
 qV Pg C14 (Instr.loadAt 53 t157) fun t158 =>
 callK Pg 29 #[t158] (panK R) w fun t159 w =>
 C14 w∧(
 qV Pg C14 (binS .eql 3 false t80 t159) fun t160 =>
 K15 t160 w)) (
 K15 undef w)
def n18c12 (t2 t31 t74 t75 t80 t81 t112:Value) (C14:World→Prop) (R:RT) (w:World):Prop :=
 qV Pg C14 (Instr.loadAt 24 t2) fun t148 =>
 callK Pg 28 #[t148,t112] (panK R) w fun t150 w =>
 C14 w∧(
 n18c11 t2 t31 t74 t75 t80 t81 t112 t150 C14 R w)
def n18c13 (t2 t31 t74 t75 t80 t81 t112 t115 t122:Value) (R:RT) (w:World):Prop :=
 pickK t115 (.bool true) t122 fun t123 =>
 condP t123 (
 drawK w fun C9 w =>
 n18c6 t2 t31 t74 t75 t80 t81 C9 R w) (
 drawK w fun C14 w =>
 n18c12 t2 t31 t74 t75 t80 t81 t112 C14 R w)
def n18c14 (t112 t118:Value) (K8:KV) (R:RT) (w:World):Prop :=
 opV Pg (Instr.indexAt 75 t118 t112) (panK R) w fun t120 w =>
 opV Pg (Instr.loadAt 4 t120) (panK R) w fun t121 w =>
 opV Pg (Op.unary .not t121) (panK R) w fun t122 w =>
 K8 t122 w
def n18c15 (t2 t31 t74 t75 t80 t81 t111:Value) (R:RT) (w:World):Prop :=
 opV Pg (Instr.extract t111 0) (panK R) w fun t112 w =>
 opV Pg (Instr.extract t111 1) (panK R) w fun t113 w =>
 opV Pg (Op.unary .not t113) (panK R) w fun t115 w =>
 joinK (fun (t122:Value) (w:World) =>
 n18c13 t2 t31 t74 t75 t80 t81 t112 t115 t122 R w) fun K8 =>
 guardP t115 false (
 opV Pg (Instr.loadAt 24 t2) (panK R) w fun t117 w =>
 callK Pg 27 #[t117] (panK R) w fun t118 w =>
 n18c14 t112 t118 K8 R w) (
 K8 undef w)
def n18c16 (t14:Value) (K7:World→Prop) (R:RT) (w:World):Prop :=
 opV Pg (Instr.fieldAt 24 t14 1) (panK R) w fun t101 w =>
 opV Pg (Instr.loadAt 22 t101) (panK R) w fun t102 w =>
 opV Pg (Instr.indexAt 22 t102 (.int .i64 0)) (panK R) w fun t103 w =>
 opV Pg (Instr.fieldAt 53 t103 1) (panK R) w fun t104 w =>
 opV Pg (Instr.loadAt 51 t104) (panK R) w fun t105 w =>
 opV Pg (Instr.indexAt 51 t105 (.int .i64 0)) (panK R) w fun t106 w =>
 opV Pg (Instr.fieldAt 71 t106 0) (panK R) w fun t107 w =>
 opU Pg (Instr.storeAt 9 t107 (.string { data := #[63] })) (panK R) w fun w =>
 K7 w
def n18c17 (t1 t2 t14 t31 t74 t75 t80 t81 t91 t99:Value) (R:RT) (w:World):Prop :=
 pickK t91 t99 (.bool false) fun t100 =>
 joinK (fun (w:World) =>
 opV Pg (Instr.loadAt 24 t2) (panK R) w fun t109 w =>
 callK Pg 26 #[t109,t1] (panK R) w fun t111 w =>
 n18c15 t2 t31 t74 t75 t80 t81 t111 R w) fun K7 =>
 condP t100 (
 n18c16 t14 K7 R w) (
 K7 w)
def n18c18 (t14:Value) (K6:KV) (R:RT) (w:World):Prop :=
 opV Pg (Instr.fieldAt 24 t14 1) (panK R) w fun t93 w =>
 opV Pg (Instr.loadAt 22 t93) (panK R) w fun t94 w =>
 opV Pg (Instr.indexAt 22 t94 (.int .i64 0)) (panK R) w fun t95 w =>
 opV Pg (Instr.fieldAt 53 t95 1) (panK R) w fun t96 w =>
 opV Pg (Instr.loadAt 51 t96) (panK R) w fun t97 w =>
 opV Pg (Builtin.len_ #[51] 3 #[t97]) (panK R) w fun t98 w =>
 opV Pg (binS .gtr 3 true t98 (.int .i64 0)) (panK R) w fun t99 w =>
 K6 t99 w
def n18c19 (t1 t2 t14 t31 t74 t75 t80 t81:Value) (R:RT) (w:World):Prop :=
 opV Pg (Instr.fieldAt 24 t14 1) (panK R) w fun t88 w =>
 opV Pg (Instr.loadAt 22 t88) (panK R) w fun t89 w =>
 opV Pg (Builtin.len_ #[22] 3 #[t89]) (panK R) w fun t90 w =>
 opV Pg (binS .gtr 3 true t90 (.int .i64 0)) (panK R) w fun t91 w =>
 joinK (fun (t99:Value) (w:World) =>
 n18c17 t1 t2 t14 t31 t74 t75 t80 t81 t91 t99 R w) fun K6 =>
 guardP t91 true (
 n18c18 t14 K6 R w) (
 K6 undef w)
def n18c20 (t1 t2 t31 t74 t75 t80 t81 t83:Value) (R:RT) (w:World):Prop :=
 opV Pg (Instr.alloc 24 true (.tuple #[])) (panK R) w fun t14 w =>
 opU Pg (Instr.storeAt 24 t14 t83) (panK R) w fun w =>
 opV Pg (Instr.loadAt 24 t14) (panK R) w fun t84 w =>
 opV Pg (Instr.loadAt 24 t2) (panK R) w fun t85 w =>
 callK Pg 25 #[t84,t85] (panK R) w fun t86 w =>
 opV Pg (Op.unary .not t86) (panK R) w fun t87 w =>
 condP t87 (
 R (.returned (.bool false)) w) (
 n18c19 t1 t2 t14 t31 t74 t75 t80 t81 R w)
def n18c21 (t1 t2 t31 t74 t75 t79:Value) (R:RT) (w:World):Prop :=
 opV Pg (Instr.extract t79 0) (panK R) w fun t80 w =>
 opV Pg (Instr.extract t79 1) (panK R) w fun t81 w =>
 callK Pg 23 #[t31] (panK R) w fun t83 w =>
 n18c20 t1 t2 t31 t74 t75 t80 t81 t83 R w
def n18c22 (t1 t2 t31 t73:Value) (R:RT) (w:World):Prop :=
 opV Pg (Instr.extract t73 0) (panK R) w fun t74 w =>
 opV Pg (Instr.extract t73 1) (panK R) w fun t75 w =>
 callK Pg 21 #[t31,t1] (panK R) w fun t79 w =>
 n18c21 t1 t2 t31 t74 t75 t79 R w
def n18c23 (t1 t2 t5 t8 t31:Value) (next4:KV) (R:RT) (w:World):Prop :=
 opV Pg (Instr.fieldAt 24 t5 1) (panK R) w fun t44 w =>
 opV Pg (Instr.loadAt 22 t44) (panK R) w fun t45 w =>
 opV Pg (Builtin.len_ #[22] 3 #[t45]) (panK R) w fun t46 w =>
 opV Pg (binS .lss 3 false t8 t46) (panK R) w fun t47 w =>
 condP t47 (
 loop1 (fun t9 w next5 =>
 n18c2 t5 t8 t9 next4 next5 R w) (.int .i64 0) w) (
 callK Pg 22 #[t31,t1] (panK R) w fun t73 w =>
 n18c22 t1 t2 t31 t73 R w)
def n18c24 (t32:Value) (R:RT) (w:World):Prop :=
 joinK (fun (t41:Value) (w:World) =>
 pickK t32 t41 (.bool false) fun t42 =>
 R (.returned t42) w) fun K3 =>
 guardP t32 true (
 callK Pg 9 #[] (panK R) w fun t41 w =>
 K3 t41 w) (
 K3 undef w)
def n18c25 (t1 t2 t5 t31 t32 t34 t37:Value) (R:RT) (w:World):Prop :=
 pickK t34 (.bool true) t37 fun t38 =>
 condP t38 (
 n18c24 t32 R w) (
 loop1 (fun t8 w next4 =>
 n18c23 t1 t2 t5 t8 t31 next4 R w) (.int .i64 0) w)
def n18c26 (t1 t2 t5 t30:Value) (R:RT) (w:World):Prop :=
 opV Pg (Instr.extract t30 0) (panK R) w fun t31 w =>
 opV Pg (Instr.extract t30 1) (panK R) w fun t32 w =>
 opV Pg (binS .eql 27 true t31 (Value.pointer none)) (panK R) w fun t34 w =>
 joinK (fun (t37:Value) (w:World) =>
 n18c25 t1 t2 t5 t31 t32 t34 t37 R w) fun K2 =>
 guardP t34 false (
 opV Pg (Op.unary .not t32) (panK R) w fun t37 w =>
 K2 t37 w) (
 K2 undef w)
def n18c27 (t1 t2 t27:Value) (R:RT) (w:World):Prop :=
 opV Pg (Instr.alloc 24 true (.tuple #[])) (panK R) w fun t5 w =>
 opU Pg (Instr.storeAt 24 t5 t27) (panK R) w fun w =>
 opV Pg (Instr.loadAt 24 t5) (panK R) w fun t29 w =>
 callK Pg 10 #[t29] (panK R) w fun t30 w =>
 n18c26 t1 t2 t5 t30 R w
def n18c28 (t1 t2 t19 t23:Value) (R:RT) (w:World):Prop :=
 pickK t19 (.bool true) t23 fun t24 =>
 condP t24 (
 callK Pg 9 #[] (panK R) w fun t25 w =>
 R (.returned t25) w) (
 opV Pg (Instr.loadAt 24 t2) (panK R) w fun t26 w =>
 callK Pg 24 #[t26] (panK R) w fun t27 w =>
 n18c27 t1 t2 t27 R w)
def n18c29 (t1 t2 t18:Value) (R:RT) (w:World):Prop :=
 opV Pg (Op.unary .not t18) (panK R) w fun t19 w =>
 joinK (fun (t23:Value) (w:World) =>
 n18c28 t1 t2 t19 t23 R w) fun K1 =>
 guardP t19 false (
 opV Pg (Builtin.len_ #[9] 3 #[t1]) (panK R) w fun t22 w =>
 opV Pg (binS .gtr 3 true t22 (.int .i64 100)) (panK R) w fun t23 w =>
 K1 t23 w) (
 K1 undef w)
def n18 (t0 t1:Value) (R:RT) (w:World):Prop :=
 opV Pg (Instr.box 24 t0) (panK R) w fun t2 w =>
 opV Pg (Instr.loadAt 24 t2) (panK R) w fun t17 w =>
 callK Pg 8 #[t17] (panK R) w fun t18 w =>
 n18c29 t1 t2 t18 R w
set_option maxHeartbeats 40000000 in
theorem n18s {t0 t1:Value} {R:RT} {w:World} (h:n18 t0 t1 R w):Calls Pg 7 #[t0,t1] w R:=by
 refine yD Tryz.func7 ?_
 refine zs<|zr<|yv h fun _ w h=>zm<|zn<|zk<|zs<|zs<|sim_regionG<|yG 4<|yv h fun _ w h=>yc h c8 fun _ w h=>yv h fun _ w h=>zm<|zn ?_
 refine yg1 3 3 false [21,22,23] 23 h (fun _ T hT h=>?_) fun σ w h=>?_
 · refine zm<|yx h fun _ w h=>yb h fun _ w h=>zn ?_
   exact zt hT h
 refine yG 1<|yp h fun _ h=>zn<|sim_end<|zk<|yC h (fun h=>zs<|zr<|yc h c9 fun _ w h=>zm<|zn<|zk<|sim_ret<|sim_then_ret<|body_ret1 rfl rfl h) fun h=>sim_skip<|zk<|zs<|zr<|yv h fun _ w h=>yc h c24 fun _ w h=>yv h fun _ w h=>yu h fun w h=>?_
 refine zn<|zk<|zs<|zr<|yv h fun _ w h=>yc h c10 fun _ w h=>zm<|yv h fun _ w h=>yv h fun _ w h=>zm<|zm<|zn<|zk<|zs<|zs ?_
 refine sim_regionG<|yG 3<|zm<|yb h fun _ w h=>zm<|zn<|yg1 2 2 false [36,37] 37 h (fun _ T hT h=>?_) fun σ w h=>?_
 · refine zm<|yv h fun _ w h=>zn ?_
   exact zt hT h
 refine yG 1<|yp h fun _ h=>zn<|sim_end<|zk<|yC h (fun h=>?_) fun h=>?_
 · refine zs<|sim_regionG<|yG 2<|zm<|zm<|zn<|yg1 1 1 true [41] 41 h (fun _ T hT h=>?_) fun σ w h=>?_
   · refine yc h c9 fun _ w h=>zn ?_
     exact zt hT h
   exact yG 2<|yp h fun _ h=>zm<|zn<|sim_end<|zk<|sim_ret<|sim_then_ret<|body_ret1 rfl rfl h
 refine sim_skip<|zk<|zs<|zs<|zr<|zm<|zn<|zk<|sim_block<|yl1 [8,9,43,44,45,46,47,48,49,50,51,52,53,54,55,56,57,58,59,60,61,62,63,64,65,66,67,68,69] 8 h fun σ w next h=>zs<|zs<|zr<|zm<|yv h fun _ w h=>?_
 refine yv h fun _ w h=>yx h fun _ w h=>yb h fun _ w h=>zn<|zk<|yC h (fun h=>?_) fun h=>?_
 · refine sim_skip<|zk<|zs<|sim_block<|zs<|zr<|zm<|zn<|zk<|sim_block<|yl1 [9,50,51,52,53,54,55,56,57,58,59,60,61,62,63,64,65,66,67,68,69] 9 h fun σ w next h=>zs<|zs<|zr<|zm ?_
   refine yv h fun _ w h=>yv h fun _ w h=>zm<|yv h fun _ w h=>yv h fun _ w h=>yv h fun _ w h=>yx h fun _ w h=>yb h fun _ w h=>zn<|zk<|yC h (fun h=>?_) fun h=>?_
   · refine sim_skip<|zk<|zs<|sim_block<|zr<|yv h fun _ w h=>yv h fun _ w h=>zm<|yv h fun _ w h=>yv h fun _ w h=>yv h fun _ w h=>zm<|yB h fun _ w h=>yv h fun _ w h=>yu h fun w h=>?_
     exact zn<|sim_block_normal<|zk<|zr<|zm<|yb h fun _ w h=>zm<|zn<|zk<|⟨rfl,h⟩
   exact sim_exit<|sim_then_exit<|sim_then_exit<|sim_block_hit<|sim_block_normal<|zk<|zr<|zm<|yb h fun _ w h=>zm<|zn<|zk<|⟨rfl,h⟩
 refine sim_exit<|sim_then_exit<|sim_then_exit<|sim_block_hit<|zk<|zs<|zr<|zm<|zm<|yc h c22 fun _ w h=>zm<|yv h fun _ w h=>yv h fun _ w h=>zm<|zm ?_
 refine zn<|zk<|zs<|zr<|zm<|zm<|yc h c21 fun _ w h=>zm<|yv h fun _ w h=>yv h fun _ w h=>zm<|zm<|zn<|zk<|zs ?_
 refine zr<|zm<|yc h c23 fun _ w h=>yv h fun _ w h=>yu h fun w h=>zn<|zk<|zs<|zs<|zr<|yv h fun _ w h=>yv h fun _ w h=>yc h c25 fun _ w h=>yv h fun _ w h=>zn ?_
 refine zk<|yC h (fun h=>zs<|zr<|zm<|zn<|zk<|sim_ret<|sim_then_ret<|body_ret1 rfl rfl h) fun h=>sim_skip<|zk<|zs<|zs<|sim_regionG<|yG 5<|yv h fun _ w h=>yv h fun _ w h=>yx h fun _ w h=>yb h fun _ w h=>zm<|zn ?_
 refine yg1 7 4 true [93,94,95,96,97,98,99] 99 h (fun _ T hT h=>?_) fun σ w h=>?_
 · refine yv h fun _ w h=>yv h fun _ w h=>yv h fun _ w h=>yv h fun _ w h=>yv h fun _ w h=>yx h fun _ w h=>yb h fun _ w h=>zn ?_
   exact zt hT h
 refine yG 1<|yp h fun _ h=>zn<|sim_end<|zk<|yJ0 [101,102,103,104,105,106,107] h (fun _ _ hkK7 h=>?_) fun σ w h=>?_
 · refine yC h (fun h=>?_) fun h=>?_
   · refine zr<|yv h fun _ w h=>yv h fun _ w h=>yv h fun _ w h=>yv h fun _ w h=>yv h fun _ w h=>yv h fun _ w h=>yv h fun _ w h=>yu h fun w h=>zn<|zk ?_
     exact zt hkK7 h
   refine sim_skip<|zk ?_
   exact zt hkK7 h
 refine zk<|zs<|zr<|yv h fun _ w h=>zm<|yc h c26 fun _ w h=>zm<|yv h fun _ w h=>yv h fun _ w h=>zm<|zm<|zn<|zk<|zs<|zs ?_
 refine sim_regionG<|yG 3<|zm<|yv h fun _ w h=>zm<|zn<|yg1 6 2 false [117,118,119,120,121,122] 122 h (fun _ T hT h=>?_) fun σ w h=>?_
 · refine yv h fun _ w h=>yc h c27 fun _ w h=>zm<|yv h fun _ w h=>yv h fun _ w h=>yv h fun _ w h=>zn ?_
   exact zt hT h
 refine yG 1<|yp h fun _ h=>zn<|sim_end<|zk<|yC h (fun h=>?_) fun h=>?_
 · refine zs<|yh [4,124,125,126,127,128,129,130,131,132,133,134,135,136,137,138,139,140,141,142,143,144,145,146] h fun C hC h=>yw 0 hC ?_
   refine yw 1 hC ?_
   refine ye 2 hC h fun _ h=>?_
   refine ye 3 hC h fun _ h=>?_
   refine yw 4 hC ?_
   refine yj1 16 [7,6,5,4,3,2,1,0] [129,130,131] 131 h (fun _ hT hb h=>?_) (fun _ hT hb h=>?_) fun σ w hC h=>?_
   · refine yw 5 hC ?_
     refine yo 6 ?_
     refine yc h c15 fun _ w h=>zn ?_
     obtain ⟨hC,h⟩:=h
     refine ⟨hC,?_⟩
     refine ye 7 hC h fun _ h=>?_
     exact yt hT hC h
   · refine yi 5 hC ?_
     refine yi 6 hC ?_
     refine yi 7 hC ?_
     exact yt hT hC h
   refine yP 8 hC h fun _ h=>?_
   refine yw 9 hC ?_
   refine yj1 11 [12,11,10,9,8,7,6,5,4,3,2,1,0] [134,135,136] 136 h (fun _ hT hb h=>?_) (fun _ hT hb h=>?_) fun σ w hC h=>?_
   · refine yw 10 hC ?_
     refine yo 11 ?_
     refine yc h c15 fun _ w h=>zn ?_
     obtain ⟨hC,h⟩:=h
     refine ⟨hC,?_⟩
     refine ye 12 hC h fun _ h=>?_
     exact yt hT hC h
   · refine yi 10 hC ?_
     refine yi 11 hC ?_
     refine yi 12 hC ?_
     exact yt hT hC h
   refine yP 13 hC h fun _ h=>?_
   refine yw 14 hC ?_
   refine yj1 5 [18,16,17,15,14,13,12,11,10,9,8,7,6,5,4,3,2,1,0] [139,140,141,142] 142 h (fun _ hT hb h=>?_) (fun _ hT hb h=>?_) fun σ w hC h=>?_
   · refine yw 15 hC ?_
     refine ye 17 hC h fun _ h=>?_
     refine yo 16 ?_
     refine yc h c23 fun _ w h=>zn ?_
     obtain ⟨hC,h⟩:=h
     refine ⟨hC,?_⟩
     refine yo 18 ?_
     refine yc h c25 fun _ w h=>zn ?_
     obtain ⟨hC,h⟩:=h
     refine ⟨hC,?_⟩
     exact yt hT hC h
   · refine yi 15 hC ?_
     refine yi 17 hC ?_
     refine yi 16 hC ?_
     refine yi 18 hC ?_
     exact yt hT hC h
   refine yP 19 hC h fun _ h=>?_
   refine yw 20 hC ?_
   refine yj1 2 [21,20,19,18,16,17,15,14,13,12,11,10,9,8,7,6,5,4,3,2,1,0] [145] 145 h (fun _ hT hb h=>?_) (fun _ hT hb h=>?_) fun σ w hC h=>?_
   · refine yo 21 ?_
     refine yc h c9 fun _ w h=>zn ?_
     obtain ⟨hC,h⟩:=h
     refine ⟨hC,?_⟩
     exact yt hT hC h
   · refine yi 21 hC ?_
     exact yt hT hC h
   refine yP 22 hC h fun _ h=>?_
   refine yw 23 hC ?_
   exact yz<|zk<|sim_ret<|sim_then_ret<|body_ret1 rfl rfl h
 refine sim_skip<|zk<|zs<|yh [4,147,148,149,150,151,152,153,154,155,156,157,158,159,160,161,162,163,164,165,166,167,168,169,170,171,172,173,174,175,176,177,178] h fun C hC h=>yw 0 hC ?_
 refine ye 1 hC h fun _ h=>?_
 refine yw 2 hC ?_
 refine yo 3 ?_
 refine yc h c28 fun _ w h=>zn ?_
 obtain ⟨hC,h⟩:=h
 refine ⟨hC,?_⟩
 refine ye 4 hC h fun _ h=>?_
 refine yw 5 hC ?_
 refine yj1 19 [13,12,11,10,9,8,7,6,5,4,3,2,1,0] [153,154,155,156,157,158,159,160] 160 h (fun _ hT hb h=>?_) (fun _ hT hb h=>?_) fun σ w hC h=>?_
 · refine yw 6 hC ?_
   refine ye 7 hC h fun _ h=>?_
   refine ye 8 hC h fun _ h=>?_
   refine yw 9 hC ?_
   refine ye 10 hC h fun _ h=>?_
   refine ye 11 hC h fun _ h=>?_
   refine yo 12 ?_
   refine yc h c29 fun _ w h=>zn ?_
   obtain ⟨hC,h⟩:=h
   refine ⟨hC,?_⟩
   refine ye 13 hC h fun _ h=>?_
   exact yt hT hC h
 · refine yi 6 hC ?_
   refine yi 7 hC ?_
   refine yi 8 hC ?_
   refine yi 9 hC ?_
   refine yi 10 hC ?_
   refine yi 11 hC ?_
   refine yi 12 hC ?_
   refine yi 13 hC ?_
   exact yt hT hC h
 refine yP 14 hC h fun _ h=>?_
 refine yw 15 hC ?_
 refine yj1 11 [21,20,19,17,18,16,15,14,13,12,11,10,9,8,7,6,5,4,3,2,1,0] [163,164,165,166,167,168] 168 h (fun _ hT hb h=>?_) (fun _ hT hb h=>?_) fun σ w hC h=>?_
 · refine yw 16 hC ?_
   refine yw 18 hC ?_
   refine yo 17 ?_
   refine yc h c15 fun _ w h=>zn ?_
   obtain ⟨hC,h⟩:=h
   refine ⟨hC,?_⟩
   refine yo 19 ?_
   refine yc h c15 fun _ w h=>zn ?_
   obtain ⟨hC,h⟩:=h
   refine ⟨hC,?_⟩
   refine ye 20 hC h fun _ h=>?_
   refine ye 21 hC h fun _ h=>?_
   exact yt hT hC h
 · refine yi 16 hC ?_
   refine yi 18 hC ?_
   refine yi 17 hC ?_
   refine yi 19 hC ?_
   refine yi 20 hC ?_
   refine yi 21 hC ?_
   exact yt hT hC h
 refine yP 22 hC h fun _ h=>?_
 refine yw 23 hC ?_
 refine yj1 5 [27,25,26,24,23,22,21,20,19,17,18,16,15,14,13,12,11,10,9,8,7,6,5,4,3,2,1,0] [171,172,173,174] 174 h (fun _ hT hb h=>?_) (fun _ hT hb h=>?_) fun σ w hC h=>?_
 · refine yw 24 hC ?_
   refine ye 26 hC h fun _ h=>?_
   refine yo 25 ?_
   refine yc h c23 fun _ w h=>zn ?_
   obtain ⟨hC,h⟩:=h
   refine ⟨hC,?_⟩
   refine yo 27 ?_
   refine yc h c25 fun _ w h=>zn ?_
   obtain ⟨hC,h⟩:=h
   refine ⟨hC,?_⟩
   exact yt hT hC h
 · refine yi 24 hC ?_
   refine yi 26 hC ?_
   refine yi 25 hC ?_
   refine yi 27 hC ?_
   exact yt hT hC h
 refine yP 28 hC h fun _ h=>?_
 refine yw 29 hC ?_
 refine yj1 2 [30,29,28,27,25,26,24,23,22,21,20,19,17,18,16,15,14,13,12,11,10,9,8,7,6,5,4,3,2,1,0] [177] 177 h (fun _ hT hb h=>?_) (fun _ hT hb h=>?_) fun σ w hC h=>?_
 · refine yo 30 ?_
   refine yc h c9 fun _ w h=>zn ?_
   obtain ⟨hC,h⟩:=h
   refine ⟨hC,?_⟩
   exact yt hT hC h
 · refine yi 30 hC ?_
   exact yt hT hC h
 refine yP 31 hC h fun _ h=>?_
 refine yw 32 hC ?_
 exact yz<|zk<|sim_ret<|body_ret1 rfl rfl h
abbrev fU0:List Value:=[.string ByteArray.empty,.int .i64 0,.int .i64 0,.bool false,.bool false,.int .i64 0,.int .i64 0,.int .i64 0,.slice none 0 0,.string ByteArray.empty,.string ByteArray.empty,.string ByteArray.empty,.slice none 0 0,.int .i64 0,.int .i64 0]
section
variable {R:RT} {U:World} {lo hi n p2 p5:Nat} {t1 t31:Value}
theorem rt_fields {w:World} {g cap k:Nat} {d:DefD} {next1:Value→World→Prop} (hk:k < n) (hn:n≤70) (hsv:Save lo hi U w) (hR:RowMs w lo hi (.slice (some ⟨g,0,none⟩) n cap) n) (o5:U.heap[p5]?=some (.cells (defCells d (.slice (some ⟨g,0,none⟩) n cap)).toArray 24 (0,0))) (h5:hi≤p5)
 (hK:∀ w',Save lo hi U w'→RowMs w' lo hi (.slice (some ⟨g,0,none⟩) n cap) n→next1 (.int .i64 ((k:Int)+1)) w') :
 loop1 (fun t8 w next2=>n18c2 (.pointer (some ⟨p5,0,none⟩)) (.int .i64 (k:Int)) t8 next1 next2 R w) (.int .i64 0) w:=by
 obtain ⟨fv,nf,hnf,cm0,hcm0,hcm0k,hF0⟩:∃ fv nf,nf≤400∧∃ cm,w.heap[g]?=some (.cells cm TM (0,0))∧cm[k*2+1]?=some fv∧RowF w lo hi fv nf:=by
  rcases hR with ⟨h,_⟩ | ⟨g',cap',cur,h1,_,_,h4,_,h6⟩
  · cases h
  · injection h1 with h1 _ _
    injection h1 with h1
    injection h1 with h1
    subst h1
    obtain ⟨fv,nf,a1,a2,a3⟩:=h6 k hk
    exact ⟨fv,nf,a2,cur,h4,a1,a3⟩
 have hfv:∃ A cc,fv = .slice A nf cc:=by
  rcases hF0 with ⟨h,rfl⟩ | ⟨g2,cc,cur,h,_⟩
  · exact ⟨_,_,h⟩
  · exact ⟨_,_,h⟩
 have hfv1:fv.oneCell'=true:=by obtain ⟨A,cc,rfl⟩:=hfv;rfl
 have hwk:IntKind.i64.wrap ((k:Int)+1)=(k:Int)+1:=wrap_ok (by omega) (by omega)
 have dk:(k:Int) < (n:Int):=by omega
 refine loop1_intro (fun i w'=>∃ q:Nat,i = .int .i64 q∧q≤nf∧Save lo hi U w'∧RowMs w' lo hi (.slice (some ⟨g,0,none⟩) n cap) n∧RowF w' lo hi fv nf∧∃ cm,w'.heap[g]?=some (.cells cm TM (0,0))∧cm[k*2+1]?=some fv) (fun i _=>nf - (intOf i).toNat) ⟨0,rfl,by omega,hsv,hR,hF0,cm0,hcm0,hcm0k⟩ ?_
 rintro _ w1 ⟨q,rfl,hq,sv1,hR1,hF1,cm,hcm,hcmk⟩
 have y5:=sv1.obj o5 (.inr h5)
 have a5:w1.cell? ⟨p5,1,none⟩=some (.slice (some ⟨g,0,none⟩) n cap):=by rw [(cells_of_heap y5).1];rfl
 have a1:w1.cell? ⟨g,k*2+1,none⟩=some fv:=by rw [(cells_of_heap hcm).1];exact hcmk
 unfold n18c2
 by_cases hqn:q < nf
 · rcases hF1 with ⟨rfl,h0⟩ | ⟨gF,cc,cur,rfl,h1,h2,h3,h4⟩
   · omega
   have d1:decide ((q:Int) < (nf:Int))=true:=decide_eq_true (by omega)
   have hwq:IntKind.i64.wrap ((q:Int)+1)=(q:Int)+1:=wrap_ok (by omega) (by omega)
   simp (disch:=try exact DI) only [↓PR,QR,simprocAttr,a5,a1,d1,↓n18c1]
   rw [scStore ty71 h3 (q*15) fU0 (by omega) rfl (by simp [Value.oneCell'])]
   obtain ⟨kF,kM⟩:=keep_TF (o:=q*15) (vs:=fU0) h3
   have sv2:=scSave (U:=U) h1 h2 fU0 (q*15) sv1
   obtain ⟨cm',hcm',_,hcc⟩:=kM g cm hcm
   generalize setCells w1 gF (q*15) fU0=w3 at kF kM sv2 hcm' ⊢
   simp (disch:=try exact DI) only [↓PR,QR,simprocAttr,hwq]
   exact ⟨⟨q+1,rfl,by omega,sv2,hR1.turn kF kM,RowF.turn (.inr ⟨gF,cc,cur,rfl,h1,h2,h3,h4⟩) kF,cm',hcm',by rw [hcc];exact hcmk⟩,meas_lt (kd := .i64) hqn⟩
 · obtain ⟨A,cc,rfl⟩:=hfv
   have d1:decide ((q:Int) < (nf:Int))=false:=decide_eq_false (by omega)
   simp (disch:=try exact DI) only [↓PR,QR,simprocAttr,a5,a1,d1,hwk]
   exact hK w1 sv1 hR1
theorem rt_msgs {mv:Value} {d:DefD} (hR:RowMs U lo hi mv n) (hn:n≤70) (o5:U.heap[p5]?=some (.cells (defCells d mv).toArray 24 (0,0))) (h5:hi≤p5)
 (hK:∀ w',Save lo hi U w'→callK Pg 22 #[t31,t1] (panK R) w' fun t73 w=>n18c22 t1 (.pointer (some ⟨p2,0,none⟩)) t31 t73 R w) :
 loop1 (fun t8 w next4=>n18c23 t1 (.pointer (some ⟨p2,0,none⟩)) (.pointer (some ⟨p5,0,none⟩)) t8 t31 next4 R w) (.int .i64 0) U:=by
 have hmv:∃ A cc,mv = .slice A n cc:=by
  rcases hR with ⟨h,rfl⟩ | ⟨g2,cc,cur,h,_⟩
  · exact ⟨_,_,h⟩
  · exact ⟨_,_,h⟩
 refine loop1_intro (fun i w'=>∃ k:Nat,i = .int .i64 k∧k≤n∧Save lo hi U w'∧RowMs w' lo hi mv n) (fun i _=>n - (intOf i).toNat) ⟨0,rfl,by omega,Save.refl _ _ _,hR⟩ ?_
 rintro _ w1 ⟨k,rfl,hk,sv1,hR1⟩
 have y5:=sv1.obj o5 (.inr h5)
 have a5:w1.cell? ⟨p5,1,none⟩=some mv:=by rw [(cells_of_heap y5).1];rfl
 have hmv1:mv.oneCell'=true:=by obtain ⟨A,cc,rfl⟩:=hmv;rfl
 unfold n18c23
 by_cases hkn:k < n
 · have hR1':=hR1
   rcases hR1 with ⟨rfl,h0⟩ | ⟨g,cap,cur,rfl,h1,h2,h3,h4,h6⟩
   · omega
   have d1:decide ((k:Int) < (n:Int))=true:=decide_eq_true (by omega)
   simp (disch:=try exact DI) only [↓PR,QR,simprocAttr,a5,d1]
   refine rt_fields (d:=d) hkn hn sv1 hR1' o5 h5 (fun w' s r=>?_)
   exact ⟨⟨k+1,rfl,by omega,s,r⟩,meas_lt (kd := .i64) hkn⟩
 · obtain ⟨A,cc,rfl⟩:=hmv
   have d1:decide ((k:Int) < (n:Int))=false:=decide_eq_false (by omega)
   simp (disch:=try exact DI) only [↓PR,QR,simprocAttr,a5,d1]
   exact hK w1 sv1
theorem rt_touch {w Wb:World} {mv t2 t74 t75 t80 t81:Value} {p14:Nat} {d:DefD} (hR:RowMs w lo hi mv n) (eB:Ext Wb w) (hlo:Wb.heap.size≤lo) (hn:n≤70) (o14:w.heap[p14]?=some (.cells (defCells d mv).toArray 24 (0,0)))
 (hK:∀ w',Ext Wb w'→opV Pg (Instr.loadAt 24 t2) (panK R) w' fun t109 w=>callK Pg 26 #[t109,t1] (panK R) w fun t111 w=>n18c15 t2 t31 t74 t75 t80 t81 t111 R w) :
 n18c19 t1 t2 (.pointer (some ⟨p14,0,none⟩)) t31 t74 t75 t80 t81 R w:=by
 have hmv:∃ A cc,mv = .slice A n cc:=by
  rcases hR with ⟨h,rfl⟩ | ⟨g2,cc,cur,h,_⟩
  · exact ⟨_,_,h⟩
  · exact ⟨_,_,h⟩
 have a5:w.cell? ⟨p14,1,none⟩=some mv:=by rw [(cells_of_heap o14).1];rfl
 have hmv1:mv.oneCell'=true:=by obtain ⟨A,cc,rfl⟩:=hmv;rfl
 unfold n18c19
 by_cases h0:0 < n
 · rcases hR with ⟨_,rfl⟩ | ⟨g,cap,cur,rfl,h1,h2,h3,h4,h6⟩
   · omega
   obtain ⟨fv,nf,b1,b2,hF⟩:=h6 0 h0
   have hfv:∃ A cc,fv = .slice A nf cc:=by
    rcases hF with ⟨h,rfl⟩ | ⟨g2,cc,cur,h,_⟩
    · exact ⟨_,_,h⟩
    · exact ⟨_,_,h⟩
   have hfv1:fv.oneCell'=true:=by obtain ⟨A,cc,rfl⟩:=hfv;rfl
   have d1:decide ((n:Int) > 0)=true:=decide_eq_true (by omega)
   have i0:∀ (QP:List PanicEntry→World→Prop) (K:Value→World→Prop),opV Pg (Instr.indexAt 22 (.slice (some ⟨g,0,none⟩) n cap) (.int .i64 0)) QP w K=K (.pointer (some ⟨g,0,none⟩)) w:=fun QP K=>(op_indexN Tryz.underlying22 ty53 g 0 n cap .i64 0 h0).trans (by rw [Nat.zero_add,Nat.zero_mul])
   have a1:w.cell? ⟨g,1,none⟩=some fv:=by rw [(cells_of_heap h3).1];simpa using b1
   by_cases hq:0 < nf
   · rcases hF with ⟨_,rfl⟩ | ⟨gF,cc,cf,rfl,f1,f2,f3,f4⟩
     · omega
     have d2:decide ((nf:Int) > 0)=true:=decide_eq_true (by omega)
     have j0:∀ (QP:List PanicEntry→World→Prop) (K:Value→World→Prop),opV Pg (Instr.indexAt 51 (.slice (some ⟨gF,0,none⟩) nf cc) (.int .i64 0)) QP w K=K (.pointer (some ⟨gF,0,none⟩)) w:=fun QP K=>(op_indexN Tryz.underlying51 ty71 gF 0 nf cc .i64 0 hq).trans (by rw [Nat.zero_add,Nat.zero_mul])
     obtain ⟨u,hu⟩:∃ u,cf[0]?=some u:=⟨_,Array.getElem?_eq_getElem (by omega)⟩
     have a0:w.cell? ⟨gF,0,none⟩=some u:=by rw [(cells_of_heap f3).1];exact hu
     simp (disch:=try exact DI) only [↓PR,QR,simprocAttr,a5,d1,↓n18c18,i0,a1,d2,↓n18c17,↓n18c16,j0,a0,(cells_of_heap f3).2]
     exact hK _ (eB.setCell (p:=⟨gF,0,none⟩) (by show Wb.heap.size≤gF;omega) _)
   · obtain ⟨A,cc,rfl⟩:=hfv
     have d2:decide ((nf:Int) > 0)=false:=decide_eq_false (by omega)
     simp (disch:=try exact DI) only [↓PR,QR,simprocAttr,a5,d1,↓n18c18,i0,a1,d2,↓n18c17]
     exact hK _ eB
 · obtain ⟨A,cc,rfl⟩:=hmv
   have d1:decide ((n:Int) > 0)=false:=decide_eq_false (by omega)
   simp (disch:=try exact DI) only [↓PR,QR,simprocAttr,a5,d1,↓n18c17]
   exact hK _ eB
end
theorem ProgramRoutines_ret (w0:World) (v:Value) (d:DefD) (s:ByteArray) (hd:DefVal w0 v d) (_hs:DefSm d) (hT:TabOK w0):Ret Pg 7 #[v,.string s] w0 fun r w'=>r = .bool true∧Ext w0 w':=by
 obtain ⟨mv,rfl,hM⟩:=hd
 have hm1:=SliceOf.oneCell hM
 refine n18s (R:=retR _) ?_;unfold n18
 rw [op_boxA]
 have o1:=heap_new w0 (defCells d mv).toArray 24
 have eW:Ext w0 (w0.alloc (.cells (defCells d mv).toArray 24)):=ee
 generalize (w0.alloc (.cells (defCells d mv).toArray 24))=W at o1 eW ⊢
 generalize hp1:w0.heap.size=p1 at o1 ⊢
 simp (disch:=try exact DI) only [↓PR,QR,simprocAttr,(cells_of_heap o1).1]
 have dv:∀ w,Ext W w→DefVal w (.agg (defCells d mv).toArray) d:=fun w e=>⟨mv,rfl,hM.ext (eW.trans e)⟩
 have tb:∀ w,Ext W w→TabOK w:=fun w e=>hT.ext (eW.trans e)
 refine callK_ret (lsmall_ret W _ d (dv _ (Ext.refl _))) ?_
 rintro _ w1 ⟨b,rfl,hsm,e1⟩
 have kn:∀ w,Ext W w→callK Pg 9 #[] (panK (retR fun r w'=>r = .bool true∧Ext w0 w')) w fun t w=>retR (fun r w'=>r = .bool true∧Ext w0 w') (.returned t) w:=by
  intro w e
  refine zcr (known18_ret w (tb _ e)) fun w2 e2=>?_
  exact ⟨_,rfl,rfl,eW.trans (e.trans e2)⟩
 unfold n18c29
 cases b with
 | false =>
  simp (disch:=try exact DI) only [↓PR,QR,simprocAttr,↓n18c28]
  exact kn w1 e1
 | true =>
 have hsm:=hsm rfl
 have ht:=small_calm hsm
 have htm:=small_tame hsm
 have hz:=small_size hsm
 by_cases hs1:100 < s.size
 · have d1:decide ((s.size:Int) > 100)=true:=decide_eq_true (by omega)
   simp (disch:=try exact DI) only [↓PR,QR,simprocAttr,d1,↓n18c28]
   exact kn w1 e1
 have d1:decide ((s.size:Int) > 100)=false:=decide_eq_false (by omega)
 simp (disch:=try exact DI) only [↓PR,QR,simprocAttr,d1,↓n18c28,(cells_of_heap (e1.obj o1)).1]
 refine callK_ret (Copy_ret w1 _ d (dv _ e1) htm) ?_
 rintro _ w2 ⟨⟨mo,rfl,hN⟩,e2⟩
 have hmo1:=SliceOf.oneCell hN.plain
 have E2:=e1.trans e2
 have hcl:∀ m:Value,(#[.string d.name,m,.string d.start]:Array Value)=(defCells d m).toArray:=fun _=>rfl
 simp (disch:=try exact DI) only [↓PR,QR,simprocAttr,↓n18c27]
 simp only [hcl]
 have o5:=heap_new w2 (defCells d mo).toArray 24
 have e3:Ext w2 (w2.alloc (.cells (defCells d mo).toArray 24)):=(Ext.refl w2).alloc _
 have s3:(w2.alloc (.cells (defCells d mo).toArray 24)).heap.size=w2.heap.size+1:=by simp only [World.size_alloc]
 generalize (w2.alloc (.cells (defCells d mo).toArray 24))=w3 at o5 e3 s3 ⊢
 generalize hp5:w2.heap.size=p5 at o5 s3 hN ⊢
 have hN3:=hN.ext e3
 refine callK_ret (made_ret w3 _ d ⟨mo,rfl,hN3.plain⟩ ht htm hz) ?_
 rintro _ w4 ⟨hr,e4⟩
 have E4:=E2.trans (e3.trans e4)
 cases hfl:flawedA d with
 | true =>
  rw [hfl,if_pos rfl] at hr
  subst hr
  simp (disch:=try exact DI) only [↓PR,QR,simprocAttr,↓n18c26]
  rw [op_eqNilP Tryz.underlying27]
  simp only [Option.isNone_none]
  simp (disch:=try exact DI) only [↓PR,QR,simprocAttr,↓n18c25,↓n18c24]
  refine zcr (known18_ret w4 (tb _ E4)) fun w5 e5=>?_
  simp (disch:=try exact DI) only [↓PR,QR,simprocAttr]
  exact ⟨by trivial,eW.trans (E4.trans e5)⟩
 | false =>
 rw [hfl,if_neg (by decide)] at hr
 obtain ⟨pb,rfl,hP⟩:=hr
 have hcv:=aligned_valid hfl
 have hlm:=hsm.1
 simp (disch:=try exact DI) only [↓PR,QR,simprocAttr,↓n18c26]
 rw [op_eqNilP Tryz.underlying27]
 simp only [Option.isNone_some]
 simp (disch:=try exact DI) only [↓PR,QR,simprocAttr,↓n18c25]
 have hRow:RowMs w4 w1.heap.size p5 mo d.msgs.length:=(hN3.ext e4).rows fun m hm=>by have:=(hsm.2 m hm).1;omega
 refine rt_msgs (d:=d) hRow (by omega) (e4.obj o5) (Nat.le_refl _) ?_
 intro w5 sv5
 have E5:Ext W w5:=sv5.to_ext E4 e1.size
 have P5:=hP.save sv5 (by omega)
 clear hRow sv5
 refine zcr (Routine_ret P5 s) fun w6 e6=>?_
 have P6:=P5.ext e6
 simp (disch:=try exact DI) only [↓PR,QR,simprocAttr,↓n18c22]
 refine zcr (Registers_ret P6 s) fun w7 e7=>?_
 have P7:=P6.ext e7
 have E7:=E5.trans (e6.trans e7)
 simp (disch:=try exact DI) only [↓PR,QR,simprocAttr,↓n18c21]
 refine callK_ret (Definition_ret P7 htm) ?_
 rintro _ w8 ⟨⟨mx,rfl,hX⟩,e8⟩
 have hmx1:=SliceOf.oneCell hX.plain
 have hW8:∀ o:Obj,(w8.alloc o).heap[p1]?=some (.cells (defCells d mv).toArray 24 (0,0)):=fun o=>((E7.trans e8).trans ((Ext.refl w8).alloc o)).obj o1
 simp (disch:=try exact DI) only [↓PR,QR,simprocAttr,↓n18c20,fun o=>(cells_of_heap (hW8 o)).1]
 generalize hV:World.alloc w8 _=w9
 have o14:w9.heap[w8.heap.size]?=some (.cells (defCells d mx).toArray 24 (0,0)):=by rw [← hV];exact heap_new _ _ _
 have e9:Ext w8 w9:=by rw [← hV];exact (Ext.refl w8).alloc _
 clear hV
 generalize hp14:w8.heap.size=p14 at o14 hX ⊢
 have hX9:=hX.ext e9
 have E9:=E7.trans (e8.trans e9)
 refine zcr (Equal_ret w9 _ _ d d ⟨mx,rfl,hX9.plain⟩ (dv _ E9)) fun w10 e10=>?_
 have dd:decide (d=d)=true:=decide_eq_true rfl
 simp (disch:=try exact DI) only [↓PR,QR,simprocAttr,dd]
 have hRx:RowMs w10 w7.heap.size p14 mx d.msgs.length:=(hX9.ext e10).rows fun m hm=>by have:=(hsm.2 m hm).1;omega
 refine rt_touch (Wb:=w7) (d:=d) hRx (e8.trans (e9.trans e10)) (Nat.le_refl _) (by omega) (e10.obj o14) ?_
 clear hRx
 intro w11 f11
 have E11:=E7.trans f11
 have P11:=P7.ext f11
 simp (disch:=try exact DI) only [↓PR,QR,simprocAttr,(cells_of_heap (E11.obj o1)).1]
 refine zcr (Find_ret w11 _ d s (dv _ E11)) fun w12 e12=>?_
 have E12:=E11.trans e12
 have P12:=P11.ext e12
 have neg:∀ (w:World),Ext w12 w→routE d s=none→regE d s=none→(drawK w fun C9 w=>n18c6 (.pointer (some ⟨p1,0,none⟩)) (.pointer (some ⟨pb,0,none⟩)) (.int .i64 ((routE d s).getD 0)) (.int .i64 (if (routE d s).isSome then 0 else 9)) (.int .i64 ((regE d s).getD 0)) (.int .i64 (if (regE d s).isSome then 0 else 9)) C9 (retR fun r w'=>r = .bool true∧Ext w0 w') w):=by
  intro w e h1 h2
  rw [h1,h2]
  refine drawK_intro ?_
  have eD:Ext w (Sw.drew w):=(Ext.refl w).drew
  have e13:=e.trans eD
  generalize (Sw.drew w)=w13 at e13 ⊢
  clear eD
  have a0:IntKind.i64.wrap ((0:Int)+0)=0:=by decide
  have E13:=E12.trans e13
  unfold n18c6
  simp (disch:=try exact DI) only [↓PR,QR,simprocAttr,a0,Option.getD_none,Option.isSome_none,Bool.false_eq_true,if_false]
  refine zcr (num_ret _ _) fun w14 f14=>?_
  refine ⟨f14,?_⟩
  simp (disch:=try exact DI) only [↓PR,QR,simprocAttr,↓n18c5]
  refine zcr (num_ret _ _) fun w15 f15=>?_
  have g15:=f14.trans f15
  refine ⟨g15,?_⟩
  simp (disch:=try exact DI) only [↓PR,QR,simprocAttr,↓n18c4,(cells_of_heap (E13.obj o1)).1]
  refine callK_ret (Definition_ret (P12.ext (e13.trans g15)) htm) ?_
  rintro _ w16 ⟨hX,f16⟩
  have g16:=g15.trans f16
  refine ⟨g16,?_⟩
  refine zcr (Equal_ret w16 _ _ d d hX.plain (dv _ (E13.trans g16))) fun w17 f17=>?_
  have g17:=g16.trans f17
  refine ⟨g17,?_⟩
  rw [dd]
  simp (disch:=try exact DI) only [↓PR,QR,simprocAttr,↓n18c3]
  refine zcr (known18_ret w17 (tb _ (E13.trans g17))) fun w18 f18=>?_
  have g18:=g17.trans f18
  refine ⟨g18,?_⟩
  simp (disch:=try exact DI) only [↓PR,QR,simprocAttr]
  exact ⟨by trivial,eW.trans (E13.trans g18)⟩
 unfold n18c15
 cases hany:(d.msgs.any fun m=>decide (m.name=s)) with
 | false =>
  simp (disch:=try exact DI) only [↓PR,QR,simprocAttr,↓n18c13]
  exact neg _ (Ext.refl _) (mapF_miss hany) (mapF_miss hany)
 | true =>
 obtain ⟨k,hk,hid0,hidN⟩:=find_hit hany
 rw [hid0]
 obtain ⟨x,hx⟩:=getElem?_lt hk
 simp (disch:=try exact DI) only [↓PR,QR,simprocAttr,(cells_of_heap (E12.obj o1)).1]
 refine callK_ret (rReached_ret w12 _ d (dv _ E12) ht hcv) ?_
 rintro _ w13 ⟨⟨rb,rfl,hB⟩,e13⟩
 have E13:=E12.trans e13
 have dk:(k:Int) < (d.msgs.length:Int):=by omega
 have hc:=hB.get (tab_get (p:=reachD d) hk)
 have m1:∀ g:Nat→Int,mapF d.msgs (reachD d) g d.msgs.length s=if reachD d k=true then some (g k) else none:=fun g=>mapF_find hidN hk
 simp (disch:=try exact DI) only [↓PR,QR,simprocAttr,↓n18c14,Nat.mul_one,hc]
 cases hrk:reachD d k with
 | false =>
  simp (disch:=try exact DI) only [↓PR,QR,simprocAttr,↓n18c13]
  have h1:routE d s=none:=by unfold routE;rw [m1,hrk];rfl
  have h2:regE d s=none:=by unfold regE;rw [m1,hrk];rfl
  exact neg _ e13 h1 h2
 | true =>
 have h1:routE d s=some (routN d.msgs (reachD d) k:Int):=by unfold routE;rw [m1,hrk];rfl
 have h2:regE d s=some (cntR x.fields x.fields.length:Int):=by unfold regE;rw [m1,hrk,if_pos rfl];unfold cntM;rw [hx]
 rw [h1,h2]
 clear neg
 simp (disch:=try exact DI) only [↓PR,QR,simprocAttr,↓n18c13,Option.getD_some,Option.isSome_some,if_true]
 refine drawK_intro ?_
 have eD:Ext w13 (Sw.drew w13):=(Ext.refl w13).drew
 have e14:=e13.trans eD
 generalize (Sw.drew w13)=w14 at e14 ⊢
 clear eD
 have E14:=E12.trans e14
 unfold n18c12
 simp (disch:=try exact DI) only [↓PR,QR,simprocAttr,(cells_of_heap (E14.obj o1)).1]
 refine zcr (rRoutine_ret w14 _ d (k:Int) (dv _ E14) ht htm hcv hz (by omega)) fun w15 f15=>?_
 refine ⟨f15,?_⟩
 rw [Int.toNat_natCast]
 have b1:((routN d.msgs (reachD d) k:Int) == (routN d.msgs (reachD d) k:Int))=true:=by simp
 have hM14:=hM.ext (eW.trans E14)
 obtain ⟨A,c,rfl,_,_,_,hel⟩:=SliceOf.open hM14
 obtain ⟨b,o,cs,rfl,_,hA,fv,rfl,hF⟩:=hel k x hx
 have hfv1:=SliceOf.oneCell hF
 simp (disch:=try exact DI) only [↓PR,QR,simprocAttr,↓n18c11,b1,(cells_of_heap (E14.obj o1)).1,hA.c2 (Ext.refl _)]
 refine zcr (rRegisters_ret w15 _ x ⟨fv,rfl,hF.ext f15⟩ (by have:=(hsm.2 x (List.mem_of_getElem? hx)).1;omega)) fun w16 f16=>?_
 have g16:=f15.trans f16
 refine ⟨g16,?_⟩
 have b2:((cntR x.fields x.fields.length:Int) == (cntR x.fields x.fields.length:Int))=true:=by simp
 simp (disch:=try exact DI) only [↓PR,QR,simprocAttr,↓n18c10,b1,b2,Option.isSome_some,if_true]
 refine zcr (num_ret _ _) fun w17 f17=>?_
 have g17:=g16.trans f17
 refine ⟨g17,?_⟩
 simp (disch:=try exact DI) only [↓PR,QR,simprocAttr,↓n18c7,Option.isSome_some,if_true]
 refine zcr (num_ret _ _) fun w18 f18=>?_
 have g18:=g17.trans f18
 refine ⟨g18,?_⟩
 have a0:IntKind.i64.wrap ((0:Int)+0)=0:=by decide
 simp (disch:=try exact DI) only [↓PR,QR,simprocAttr,a0,↓n18c9,(cells_of_heap (E14.obj o1)).1]
 refine callK_ret (Definition_ret (P12.ext (e14.trans g18)) htm) ?_
 rintro _ w19 ⟨hX,f19⟩
 have g19:=g18.trans f19
 refine ⟨g19,?_⟩
 refine zcr (Equal_ret w19 _ _ d d hX.plain (dv _ (E14.trans g19))) fun w20 f20=>?_
 have g20:=g19.trans f20
 refine ⟨g20,?_⟩
 rw [dd]
 simp (disch:=try exact DI) only [↓PR,QR,simprocAttr,↓n18c8]
 refine zcr (known18_ret w20 (tb _ (E14.trans g20))) fun w21 f21=>?_
 have g21:=g20.trans f21
 refine ⟨g21,?_⟩
 simp (disch:=try exact DI) only [↓PR,QR,simprocAttr]
 exact ⟨by trivial,eW.trans (E14.trans g21)⟩
end Go.Proofs.YtfdecdnmooaegaaGreatDoor
namespace Go.Proofs.YtfdecdnmooaegaaGreatDoor
open Sw
open Go.ChangeShapes Go.WideShapes Go.RowKit Go.ChangeAt Go.Deep
def proutines_laid:List (String×DataW Unit):=[("math/bits.deBruijn32tab", Rows.laid_math_bits_deBruijn32tab),("math/bits.deBruijn64tab", Rows.laid_math_bits_deBruijn64tab),("internal/strconv.uint64pow10", Rows.laid_internal_strconv_uint64pow10)]
theorem proutines_own:ownKnob Pg.godebug=none:=by kernel_rfl
theorem proutines_laidOut:laidOutB Pg=true:=by kernel_rfl
theorem proutines_met (os:Os) (args:Array Value):laidMetH Pg proutines_laid ((World.doorLaid Pg 400 os).forCall (fun _ _=>0) ⟨#[],args,[]⟩).memory:=laidMetH_of_parts3 (fuel:=8) (laidMet_of_run' 8 (by kernel_rfl) (by kernel_rfl)) (by kernel_rfl) (by kernel_rfl)
theorem proutines_tab {W:World} (h:laidMetH Pg proutines_laid W):TabOK W:=by
 rw [MakeChecks.laidMetH_plain _ _ _ (by kernel_rfl)] at h
 have h3:=laidMet.tail (laidMet.tail h)
 have he:(Rows.laid_internal_strconv_uint64pow10:DataW Unit)=Go.Lib.tabData .u64 Go.Lib.pow10Tab:=by kernel_rfl
 rw [he] at h3
 obtain ⟨g,hg⟩:=Option.isSome_iff_exists.1 gPow
 have hty:(Pg.globals[g]?).map (·.type)=some 196:=by
  have h1:(Pg.globalNamed "internal/strconv.uint64pow10").bind (fun g=>(Pg.globals[g]?).map (·.type))=some 196:=by kernel_rfl
  rw [hg] at h1
  exact h1
 exact Go.Lib.tabIs_of_head hg hty Tryz.underlying196 Tryz.underlying185 (by kernel_rfl) (by kernel_rfl) h3
theorem proutines_lifted (os:Os) (started:os.Started) (H:Type) (enc:TypeId×Value→H) :
 ReturnsInHanded {} Tryz.checked os 7 .any (fun w args=>(Rows.programRoutinesSpec.pre enc Pg Tryz.f7 Rows.programRoutinesRow.domain false w args∧laidMetH Pg proutines_laid w)∧sizedMet enc Pg Tryz.f7 (OpenSpec.ofChange Rows.programRoutinesSpec) false w args) (Rows.programRoutinesSpec.post enc Pg Tryz.f7 false true false false):=by
 refine returnsInHanded_of_change_and (C:=Tryz.checked) (X:=fun w _=>laidMetH Pg proutines_laid w) (fun _ _ _ hh h=>h.of_heap hh) proutines_own started (by kernel_rfl) Tryz.func7
  (ChangeSpec.witness_shaped (enc:=enc) (C:=Tryz.checked) (os:=os) (X:=fun w _=>laidMetH Pg proutines_laid w) false (World.doorLaid Pg 400 os) #[.agg #[.string ByteArray.empty,.slice none 0 0,.string ByteArray.empty],.string ByteArray.empty] 8 rfl (World.shaped_of_RefB (by kernel_rfl) (by kernel_rfl)) (by kernel_rfl) (by kernel_rfl) (by kernel_rfl) (proutines_met os _)) ?_
 intro W base args ds gs before hval hW _ hsz hL _
 have hW':=hW
 obtain ⟨p,q,hA0,hV,rfl,_,_⟩:=hW
 have hA:DataW.TrodAll enc Pg W 0 (fun _=>true) true Tryz.f7.params.toList args.toList ds p:=hA0
 rw [Tryz.params7] at hA hval hsz
 obtain ⟨v0,vs0,d0,ds0,p0,q0,ha0,rfl,rfl,h0,r0⟩:=trodAll_cons hA
 obtain ⟨v1,vs1,d1,ds1,p1,q1,ha1,rfl,rfl,h1,r1⟩:=trodAll_cons r0
 obtain ⟨rfl,rfl,rfl⟩:=trodAll_nil r1
 subst ha1
 obtain rfl:args = #[v0,v1]:=by cases args;simp_all
 obtain ⟨f0,hf0,hs0⟩:=def_val (hval 0 _ v0 rfl rfl) h0 (reached_of (j:=0) hsz rfl rfl)
 obtain ⟨s1,rfl,_⟩:=open_str Tryz.underlying9 (hval 1 _ v1 rfl rfl) h1
 refine Calls.mono (ProgramRoutines_ret W v0 f0 s1 hf0 hs0 (proutines_tab hL)) fun e W' ⟨v,he,hv,hx⟩=>?_
 subst he hv
 exact ⟨_,rfl,law_post proutines_laidOut (by decide +kernel) rfl hW' hx rfl Tryz.underlying4 rfl rfl rfl⟩
theorem proutines_holds:Rows.ProgramRoutinesSaid :=
 OpenClaim.holds_of_wide 7 Tryz.f7 rfl rfl rfl rfl rfl rfl rfl ⟨rfl,rfl,rfl,rfl,rfl⟩ rfl rfl rfl rfl rfl (by kernel_rfl) Tryz.func7 (by kernel_rfl)
  (of_decide_eq_true (by kernel_rfl)) (by unfold Func.isWrapper;first | (rw [if_pos (by decide +kernel)];kernel_rfl) | (rw [if_neg (by decide +kernel)];exact ⟨rfl,rfl⟩))
  (fun os started H enc _=>proutines_lifted os started H enc)
theorem proutines_card:Rows.ProgramRoutinesCardSaid :=
 Claim7.holds_tied_plain_at .later [] [.data,.data,.data] true (true, "098e99f67870c94ed070b7e90f46c62b88197afeac646b9f27e4aa6966b563e4") true
  proutines_holds (fun _ h=>by cases h) (by kernel_rfl) (fun _ h=>by cases h) programRoutines_row_tie rfl ⟨rfl,rfl⟩ (by kernel_rfl) rfl
  (fun f fn hf hfn=>by
   obtain rfl:f=7:=Option.some.inj ((show Pg.funcNamed "phrasebook/phrasebooklaw18.ProgramRoutines" = some 7 by kernel_rfl).symm.trans hf) |>.symm
   obtain rfl:fn=Tryz.f7:=(Option.some.inj (Tryz.func7.symm.trans hfn)).symm
   exact ⟨by kernel_rfl,fun j t ht=>by
    rw [Tryz.params7] at ht
    have hm:t∈[24,9]:=by simpa using Array.mem_of_getElem? ht
    have hall:([24,9].all fun u=>!Pg.wantsStandIn u)=true:=by kernel_rfl
    exact (show Pg.wantsStandIn t=false by simpa using List.all_eq_true.1 hall t hm)⟩)
  (by kernel_rfl)
end Go.Proofs.YtfdecdnmooaegaaGreatDoor
