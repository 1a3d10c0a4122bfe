/-
  Lemmas for the claim.
-/
import Derived.Test.YtgalpdihjbinjaaGreatDoorXe4
set_option linter.all false
set_option maxHeartbeats 40000000
set_option maxRecDepth 100000
namespace Go.Proofs.YtgalpdihjbinjaaGreatDoor
open Sw
open Go.RowKit (intOf Below)
def NextR (D:List ByteArray) (seen:List Value) (v:Value):Prop:=∃ s,seen=(D.take seen.length).map Value.string∧D[seen.length]?=some s∧v = .string s
def AllR (D:List ByteArray) (seen:List Value):Prop:=seen=D.map Value.string
theorem Refers_seq6 (pb:Nat) (sv:Value) (l:List ByteArray):SeqIt6 Pg 198 #[.pointer (some ⟨pb,0,none⟩)] (NextR (dedupA [] l)) (AllR (dedupA [] l)) (fun w=>StrsAt w pb sv l):=by
 intro yv J Jx Jp w _ hFP hJe hJx hJp hstep h0
 obtain ⟨hc,hT,_⟩:=hFP _ w h0
 obtain ⟨A,c,rfl,hlc,hcm,hlm,hel⟩:=SliceOf.open hT
 refine n54s (t0:=yv) (t1 := .pointer (some ⟨pb,0,none⟩)) ?_
 unfold n54
 refine Qp hc ?_
 refine loop1_intro (fun i w'=>∃ k j:Nat,i = .int .i64 k∧k≤l.length∧J (((dedupA [] l).take j).map Value.string) w'∧j≤(dedupA [] l).length∧(dedupA [] l).drop j=dedupA (l.take k) (l.drop k)) (fun i _=>l.length - (intOf i).toNat) ⟨0,0,rfl,by omega,h0,by omega,rfl⟩ ?_
 rintro i w' ⟨k,j,rfl,hk,hJ,hj,hD⟩
 rcases drop_cases hk with ⟨x,hx,hd,hlt,hdec⟩ | ⟨hk,hd,hdec⟩
 · obtain ⟨hc',hT',_⟩:=hFP _ w' hJ
   obtain ⟨A',c',hv,_,hcm',_,hel'⟩:=SliceOf.open hT'
   injection hv with hv _ hv'
   subst hv hv'
   obtain ⟨b,o,cs,rfl,hl,hA,rfl⟩:=hel' k x hx
   have er:=Ext.refl w'
   rw [hd] at hD
   simp only [dedupA] at hD
   simp (disch:=try exact DI) only [↓PR,QR,simprocAttr,↓n54c1,↓n54c2,hdec,hA.c1,hc']
   rw [op_sliceTo Tryz.underlying94 ty9 b o l.length c .i64 k Qx]
   have hlen:(l.take k).length=k:=by rw [List.length_take];omega
   have hpre:SliceOf w' 1 EStr (.slice (some ⟨b,o,none⟩) k c) (l.take k):=by
    refine ⟨_,c,by rw [hlen],by rw [hlen];omega,hcm,fun _=>⟨b,o,rfl,fun i y hy=>?_⟩⟩
    rw [List.getElem?_take] at hy
    split at hy
    · obtain ⟨b',o',cs,hA',h1,h2,h3⟩:=hel' i y hy
      injection hA' with hA'
      injection hA' with h5 h6
      subst h5 h6
      exact ⟨cs,h1,h2,h3⟩
    · cases hy
   refine zcr (Contains_string_ret w' _ _ x hpre) fun w2 e2=>?_
   have hJ2:=(hJe _).ext hJ e2
   have htk:l.take (k+1)=l.take k++[x]:=take_snoc hx
   cases hany:(l.take k).any (fun y=>decide (x=y)) with
   | true =>
    rw [hany,if_pos rfl,← htk] at hD
    simp (disch:=try exact DI) only [↓PR,QR,simprocAttr,↓n54c1,↓n54c2]
    exact ⟨⟨k+1,j,rfl,by omega,hJ2,hj,hD⟩,meas_lt (kd := .i64) hlt⟩
   | false =>
    rw [hany,if_neg (by simp),← htk] at hD
    have hjl:j < (dedupA [] l).length:=by
     have:=congrArg List.length hD
     simp at this
     omega
    have hxj:(dedupA [] l)[j]?=some x:=by
     have:=congrArg (fun l=>l[0]?) hD
     simpa using this
    have hD2:(dedupA [] l).drop (j+1)=dedupA (l.take (k+1)) (l.drop (k+1)):=by
     rw [← List.tail_drop,hD];rfl
    have hjm:(((dedupA [] l).take j).map Value.string).length=j:=by rw [List.length_map,List.length_take];omega
    have hs:=hstep _ (.string x) ⟨x,by rw [hjm],by rw [hjm];exact hxj,rfl⟩ (fun _=>True) Firm6.true w2 hJ2 trivial
    rw [show ((dedupA [] l).take j).map Value.string++[.string x]=((dedupA [] l).take (j+1)).map Value.string by rw [take_snoc hxj];simp] at hs
    simp (disch:=try exact DI) only [↓PR,QR,simprocAttr,↓n54c1,↓n54c2]
    refine callV_mono hs (fun ch w h=>h.2) ?_
    rintro v w3 ⟨_,⟨rfl,h2⟩ | ⟨rfl,h2⟩⟩
    · simp (disch:=try exact DI) only [↓PR,QR,simprocAttr,↓n54c1,↓n54c2]
      exact ⟨⟨k+1,j+1,rfl,by omega,h2,hjl,hD2⟩,meas_lt (kd := .i64) hlt⟩
    · simp (disch:=try exact DI) only [↓PR,QR,simprocAttr,↓n54c1,↓n54c2]
      exact .inr h2
 · subst hk
   simp (disch:=try exact DI) only [↓PR,QR,simprocAttr,↓n54c1,↓n54c2,hdec]
   rw [hd] at hD
   have hjl:j=(dedupA [] l).length:=by
    have:=congrArg List.length hD
    simp [dedupA] at this
    omega
   exact .inl ⟨_,by unfold AllR;rw [hjl,List.take_length],hJ⟩
theorem OwnE.cellsAt {α:Type} {w:World} {base n:Nat} {T:TypeId} {enc:α→List Value} {v:Value} {l:List α} (h:OwnE w base T n enc v l) (g:Nat) (hg:v.ownBlock=some g):∃ cs T f,w.heap[g]?=some (.cells cs T f):=by
 rcases h.2 with ⟨rfl,h0⟩ | ⟨g',cap,cur,rfl,hb,hg',hc,hm,hs,ht⟩
 · cases hg
 · have:g'=g:=by simpa [Value.ownBlock] using hg
   subst this
   exact ⟨_,_,_,hg'⟩
theorem OwnE.keep {α:Type} {w w':World} {base n:Nat} {T:TypeId} {enc:α→List Value} {v:Value} {l:List α} (h:OwnE w base T n enc v l) (hk:∀ b,v.ownBlock=some b→w'.heap[b]?=w.heap[b]?):OwnE w' base T n enc v l:=by
 obtain ⟨h1,h2⟩:=h
 refine ⟨h1,?_⟩
 rcases h2 with h2 | ⟨g,cap,cur,hv,a1,a2,a3⟩
 · exact .inl h2
 · exact .inr ⟨g,cap,cur,hv,a1,by rw [hk g (by rw [hv];rfl)];exact a2,a3⟩
theorem string_inj:∀ {a b:List ByteArray},a.map Value.string=b.map Value.string→a=b
 | [],[],_=>rfl
 | [],_::_,h=>by cases h
 | _::_,[],h=>by cases h
 | x::a,y::b,h=>by
  rw [List.map_cons,List.map_cons] at h
  injection h with h1 h2
  injection h1 with h1
  rw [h1,string_inj h2]
theorem AppendSeq_refers (w0:World) (pb:Nat) (sv:Value) (l:List ByteArray) (hS:StrsAt w0 pb sv l) (hL:(dedupA [] l).length≤1048576) :
 Ret Pg 200 #[.slice none 0 0,.func (.func 198) #[] #[.pointer (some ⟨pb,0,none⟩)]] w0 fun r w'=>OwnE w' w0.heap.size 9 1 strEnc r (dedupA [] l)∧Ext w0 w':=by
 have hseq:=Refers_seq6 pb sv l
 generalize hDD:dedupA [] l=D at hseq hL ⊢
 refine n113s (R:=retR _) ?_;unfold n113
 refine Qf ?_
 let I:List Value→World→Prop:=fun seen w=>Ext w0 w∧∃ (ss:List ByteArray) (tv:Value),seen=ss.map Value.string∧ss.length≤D.length∧w.heap[w0.heap.size]?=some (.cells #[tv] 94 (0,0))∧OwnE w (w0.heap.size+1) 9 1 strEnc tv ss
 have hLI:∀ B,w0.heap.size≤B→∀ k,Lasts6 B (I k):=fun B hB k=>Lasts6.and (Lasts6.from hB) (Lasts6.ex fun ss=>Lasts6.ex fun tv=>Lasts6.and (Lasts6.const _ _) (Lasts6.and (Lasts6.const _ _) (Lasts6.and (Lasts6.has B rfl) Lasts6.own)))
 refine ⟨_,_,NextR D,AllR D,(fun w=>StrsAt w pb sv l),I,fun _ _=>False,fun _ _=>False,rfl,c198,hseq,?_,fun k w h=>hS.ext h.1,fun k=>hLI _ (by simp) k,fun _=>Lasts6.const _ _,fun _=>Lasts6.const _ _,?_,?_,?_,?_⟩
 · refine ⟨ee,[],.slice none 0 0,rfl,Nat.zero_le _,?_,OwnE.nil _ _ _ _ _⟩
   exact Qb
 · intro Rk hF seen x w1 hal hI1 hR1 hlt1 hready
   refine ⟨hready,fun w4 hbz=>?_⟩
   have hR4:=hF _ _ (KR6.busied hbz) hR1
   have hI4:=(hLI (w0.alloc (.cells #[.slice none 0 0] 94)).heap.size (by simp) seen).busied hbz (Nat.le_succ _) hI1
   clear hI1 hR1 hready hbz hlt1
   obtain ⟨x0,_,hx0,rfl⟩:=hal
   obtain ⟨e4,ss,tv,rfl,hsub,h24,hO⟩:=hI4
   rw [List.length_map] at hx0
   have hlt:=(Qv hx0).1
   have hlen:ss.length≤1048576:=Qx
   have z2:=(Qk h24).1
   have hr:∀ g,tv.ownBlock=some g→w0.heap.size+1≤g:=fun g hb=>(World.ownsRow.lt hO g hb).1
   have eA:Ext w4 (w4.alloc (.cells #[.string x0] 9)):=(Ext.refl _).alloc _
   unfold n113c1
   refine Qp (cells_of_heap h24).1 ?_
   refine append_str x0 (b:=w4.heap.size) (hO.ext eA) (by rw [cell_new];rfl) (by have:=eA.size;omega) hlen ?_
   intro v' w' hO' hg
   have h2':w'.heap[w0.heap.size]?=some (.cells #[tv] 94 (0,0)):=(hg.block w0.heap.size (by have:=eA.size;omega) fun e=>by have:=hr _ e.symm;omega).trans (eA.obj h24)
   have ht1:v'.oneCell'=true:=SliceOf.oneCell (OwnE.slice (E:=fun _ cs s=>cs=strEnc s) hO' (fun _=>rfl) (fun _ _=>rfl))
   refine QJ (cells_of_heap h2').1 (cells_of_heap h2').2 ?_
   have hE5:Ext w0 (w'.setCell ⟨w0.heap.size,0,none⟩ v'):=((e4.trans eA).grown hg fun g hb=>by have:=hr g hb;omega).setCell (p:=⟨w0.heap.size,0,none⟩) (Nat.le_refl _) _
   refine ⟨hF _ _ ((((KR6.refl _ w4).ext eA).grown hg fun g hb=>OwnE.cellsAt (hO.ext eA) g hb).cell h2' 0 v') hR4,hE5,ss++[x0],v',by simp,by simp;omega,heap_set (o:=0) h2' v',OwnE.keep hO' fun g hb=>?_⟩
   have:=(World.ownsRow.lt hO' g hb).1
   rw [Only.setCell _ w0.heap.size _ _ g Qx]
 · intro seen w1 hfin hI1 hmk
   obtain ⟨e1,ss,tv,rfl,_,h24,hO⟩:=hI1
   have hz:(w0.alloc (.cells #[.slice none 0 0] 94)).heap.size=w0.heap.size+1:=by simp
   rw [hz] at hmk ⊢
   show onCell _ _ _
   rw [(cells_of_heap h24).1]
   show outX _ _ _ _ _
   refine outX_mark hmk ?_
   simp (disch:=try exact DI) only [↓PR,QR,simprocAttr,outX_nil,retV,resOne]
   rw [← string_inj hfin]
   refine ⟨(OwnE.keep hO fun g hb=>?_).base (Nat.le_succ _),e1.putObj (Nat.le_succ _) _⟩
   have hne:g≠w0.heap.size+1:=by
    rintro rfl
    obtain ⟨cs,T,f,hc⟩:=OwnE.cellsAt hO _ hb
    have:w1.heap[w0.heap.size+1]?=some (.deferred (some [])):=hmk
    rw [hc] at this
    cases this
   exact World.putObj_heap_other hne
 · exact fun _ _ h=>h.elim
 · exact fun _ _ h=>h.elim
theorem dedup_len:∀ (seen l:List ByteArray),(dedupA seen l).length≤l.length
 | _,[]=>Nat.le_refl _
 | seen,s::l=>by
  unfold dedupA
  split
  · exact Nat.le_trans (dedup_len _ l) (Nat.le_succ _)
  · simp only [List.length_cons]
    exact Nat.succ_le_succ (dedup_len _ l)
theorem Collect_refers (w0:World) (pb:Nat) (sv:Value) (l:List ByteArray) (hS:StrsAt w0 pb sv l) (hL:(dedupA [] l).length≤1048576) :
 Ret Pg 166 #[.func (.func 198) #[] #[.pointer (some ⟨pb,0,none⟩)]] w0 fun r w'=>OwnE w' w0.heap.size 9 1 strEnc r (dedupA [] l)∧Ext w0 w':=by
 refine n116s (R:=retR _) ?_;unfold n116
 refine callK_ret (AppendSeq_refers w0 pb sv l hS hL) ?_
 rintro v w1 ⟨h,e1⟩
 refine Qf ?_
 exact ⟨h,e1⟩
theorem refers_ret (w0:World) (v:Value) (f:FieldD) (hf:FieldVal w0 v f) (hb:(refsF f).length≤1048576):Ret Pg 141 #[v] w0 fun r w'=>SliceOf w' 1 EStr r (dedupA [] (refsF f))∧Ext w0 w':=by
 obtain ⟨tv,cv,rfl,hT,hC,t1,c1⟩:=hf.op
 have hr:allRefs [f]=refsF f:=by unfold allRefs;simp
 refine n38s (R:=retR _) ?_;unfold n38
 rw [op_boxA]
 have hBW:=ElemAt.new (w:=w0) (fieldCells f tv cv) (123)
 have eW:Ext w0 (w0.alloc (Obj.cells (List.toArray (fieldCells f tv cv)) (123))):=(Ext.refl _).alloc _
 generalize (w0.alloc (Obj.cells (List.toArray (fieldCells f tv cv)) (123)))=W at hBW eW ⊢
 refine Qp (hBW.c15 (Ext.refl W)) ?_
 have hA:ElemAt (W.alloc (.cells (fieldCells f tv cv).toArray 123)) W.heap.size 0 (fieldCells f tv cv):=ElemAt.new _ _
 have eV:Ext W (W.alloc (.cells (fieldCells f tv cv).toArray 123)):=(Ext.refl W).alloc _
 generalize (W.alloc (.cells (fieldCells f tv cv).toArray 123))=V at hA eV ⊢
 have hM:MsgVal V (.agg #[.string Qy,.slice (some ⟨W.heap.size,0,none⟩) 1 1]) ⟨ByteArray.empty,[f]⟩:=by
  refine ⟨_,rfl,_,1,rfl,Nat.le_refl _,by decide,fun _=>⟨_,0,rfl,fun k x hx=>?_⟩⟩
  cases k with
  | zero =>
   simp only [List.getElem?_cons_zero,Option.some.injEq] at hx
   subst hx
   exact ⟨_,rfl,hA,tv,cv,rfl,hT.ext (eW.trans eV),hC.ext (eW.trans eV)⟩
  | succ k=>simp at hx
 refine callK_ret (Refers_ret V _ ⟨ByteArray.empty,[f]⟩ hM (by rw [hr];exact hb)) ?_
 rintro _ w1 ⟨pb,sv,rfl,hS,hpb,e1⟩
 rw [hr] at hS
 refine callK_ret (Collect_refers w1 pb sv _ hS (Nat.le_trans (dedup_len _ _) hb)) ?_
 rintro v w2 ⟨hO,e2⟩
 refine Qf ?_
 exact ⟨hO.slice (fun _=>rfl) (fun _ _=>rfl),eW.trans (eV.trans (e1.trans e2))⟩
section
variable {a0 w:World} {cb:Nat} {m:MapD} {d e:DefD} {ru fi:Int}
def rowB (last:Int) (x:RowD):Bool:=decide (last < x.low)&&(decide (x.low≤x.high)&&(numOk x.high&&numOk x.to))
theorem rowsB_cons (last:Int) (x:RowD) (l:List RowD):rowsB last (x::l)=(rowB last x&&rowsB x.high l):=by
 rw [rowsB];unfold rowB;simp only [Bool.and_assoc]
theorem rows_m (h:CkM a0 w cb m d e ru fi) (v:Value) (l:List RowD) (hs:RowsOf w v l):Calls Pg 112 #[.pointer (some ⟨cb,0,none⟩),v] w (mR w (decide (tableC l=0)) ru fi (tableC l)):=by
 obtain ⟨A,c,rfl,hlc,hcm,hlm,hel⟩:=SliceOf.open hs
 refine n28s ?_;unfold n28
 have first:∀ b,b=decide (1≤l.length∧l.length≤40)→callK Pg 33 #[.pointer (some ⟨cb,0,none⟩),.bool b,.int .i64 2] (panK (mR w (decide (tableC l=0)) ru fi (tableC l))) w (fun _ w'=>n28c5 (.pointer (some ⟨cb,0,none⟩)) (.slice A l.length c) (mR w (decide (tableC l=0)) ru fi (tableC l)) w'):=by
  rintro b rfl
  refine callK_m (must_m h _ 2) (fun w1 e1 hb=>?_) (fun w1 e1 hb=>?_)
  · simp only [decide_eq_true_eq] at hb
    have ht:tableC l=if rowsB (-1) l=true then 0 else 8:=by unfold tableC;rw [if_neg Qx]
    unfold n28c5
    refine Qf ?_
    refine loop2_intro (fun a b w'=>∃ (k:Nat) (last:Int),a = .int .i64 last∧b = .int .i64 k∧k≤l.length∧Ext w w'∧rowsB (-1) l=rowsB last (l.drop k)) (fun _ b _=>l.length - (intOf b).toNat) ⟨0,-1,rfl,rfl,by omega,e1,rfl⟩ ?_
    rintro _ _ w2 ⟨k,last,rfl,rfl,hk,e2,hR⟩
    rcases drop_cases hk with ⟨x,hx,hdr,hlt,hdec⟩ | ⟨hk,hdr,hdec⟩
    · obtain ⟨bt,ot,cst,rfl,_,hAt,rfl⟩:=hel k x hx
      rw [hdr,rowsB_cons] at hR
      refine Qp hdec ?_
      unfold n28c4
      refine Qp (hAt.c3 e2) ?_
      have oV:=heap_new w2 (rowCells x).toArray 78
      have eV:Ext w2 (w2.alloc (.cells (rowCells x).toArray 78)):=(Ext.refl w2).alloc _
      generalize (w2.alloc (.cells (rowCells x).toArray 78))=V at oV eV ⊢
      have e3:=e2.trans eV
      have last3:∀ b,b=rowB last x→∀ k1:Value→World→Prop,(∀ w4,Ext V w4→rowB last x=true→k1 (.tuple #[]) w4)→callK Pg 33 #[.pointer (some ⟨cb,0,none⟩),.bool b,.int .i64 8] (panK (mR w (decide (tableC l=0)) ru fi (tableC l))) V k1:=by
       rintro b rfl k1 hk1
       refine callK_m (must_m (h.go e3) _ 8) (fun w4 e4 hb=>hk1 w4 e4 hb) (fun w4 e4 hb=>?_)
       rw [hb,Bool.false_and] at hR
       rw [hR,if_neg (by simp)] at ht
       exact mR_pan (e3.trans e4) (by rw [ht];rfl) ht
      have q:=cells_of_heap oV
      have goOn:∀ w4,Ext V w4→rowB last x=true→n28c1 (.pointer (some ⟨w2.heap.size,0,none⟩)) (.int .i64 k) (fun a b w'=>(∃ (k:Nat) (last:Int),a = .int .i64 last∧b = .int .i64 k∧k≤l.length∧Ext w w'∧rowsB (-1) l=rowsB last (l.drop k))∧l.length - (intOf b).toNat < l.length - (intOf (Value.int IntKind.i64 k)).toNat) (mR w (decide (tableC l=0)) ru fi (tableC l)) w4:=by
       intro w4 e4 hb
       rw [hb,Bool.true_and] at hR
       have q4:=cells_of_heap (e4.obj oV)
       unfold n28c1
       refine Qp q4.1 ?_
       exact ⟨⟨k+1,_,rfl,rfl,hlt,e3.trans e4,hR⟩,meas_lt (kd := .i64) hlt⟩
      by_cases h1:last < x.low
      · have d1:decide (x.low > last)=true:=by simpa using h1
        by_cases h2:x.low≤x.high
        · have d2:decide (x.low≤x.high)=true:=by simpa using h2
          have hB:rowB last x=(numOk x.high&&numOk x.to):=by unfold rowB;simp [h1,h2]
          simp (disch:=try exact DI) only [↓PR,QR,simprocAttr,q.1,d1,d2,↓n28c1,↓n28c2,↓n28c3,↓n28c4,↓n28c5]
          refine callK_ret (allowed_ret V x.high) ?_
          rintro _ w' ⟨rfl,hw⟩
          rw [hw]
          generalize hn:numOk x.high=nh at hB
          cases nh with
          | true =>
           simp (disch:=try exact DI) only [↓PR,QR,simprocAttr,q.1,↓n28c1,↓n28c2,↓n28c3,↓n28c4,↓n28c5]
           refine callK_ret (allowed_ret V x.to) ?_
           rintro _ w' ⟨rfl,hw⟩
           rw [hw]
           refine Qf ?_
           exact last3 _ (by rw [hB,Bool.true_and]) _ goOn
          | false =>
           simp (disch:=try exact DI) only [↓PR,QR,simprocAttr,q.1,↓n28c1,↓n28c2,↓n28c3,↓n28c4,↓n28c5]
           exact last3 _ (by rw [hB,Bool.false_and]) _ goOn
        · have d2:decide (x.low≤x.high)=false:=by simpa using h2
          have hB:rowB last x=false:=by unfold rowB;simp [h2]
          simp (disch:=try exact DI) only [↓PR,QR,simprocAttr,q.1,d1,d2,↓n28c1,↓n28c2,↓n28c3,↓n28c4,↓n28c5]
          exact last3 _ hB.symm _ goOn
      · have d1:decide (x.low > last)=false:=by simpa using h1
        have hB:rowB last x=false:=by unfold rowB;simp [h1]
        simp (disch:=try exact DI) only [↓PR,QR,simprocAttr,q.1,d1,↓n28c1,↓n28c2,↓n28c3,↓n28c4,↓n28c5]
        exact last3 _ hB.symm _ goOn
    · subst hk
      rw [hdr,rowsB] at hR
      rw [hR,if_pos rfl] at ht
      refine Qp hdec ?_
      exact mR_ret e2 (by rw [ht];rfl)
  · have ht:tableC l=2:=by
     unfold tableC
     rw [if_pos]
     simp only [decide_eq_false_iff_not] at hb
     omega
    exact mR_pan e1 (by rw [ht];rfl) ht
 by_cases h1:1≤l.length
 · have d1:decide ((l.length:Int)≥1)=true:=by simp;omega
   by_cases h2:l.length≤40
   · have d2:decide ((l.length:Int)≤40)=true:=by simp;omega
     refine QJ d1 d2 ?_
     exact first _ (by simp [h1,h2])
   · have d2:decide ((l.length:Int)≤40)=false:=by simp;omega
     refine QJ d1 d2 ?_
     exact first _ (by simp [h2])
 · have d1:decide ((l.length:Int)≥1)=false:=by simp;omega
   refine Qp d1 ?_
   exact first _ (by simp [h1])
end
section
variable {a0 w:World} {cb:Nat} {m:MapD} {d e:DefD} {ru fi:Int}
def nestB (m:MapD) (f t:FieldD):Bool:=(dedupA [] (refsF f)).all (okN m (dedupA [] (refsF t)))
theorem nested_m (h:CkM a0 w cb m d e ru fi) (u v:Value) (f t:FieldD) (hf:FieldVal w u f) (ht:FieldVal w v t) (bf:(refsF f).length≤1048576) (bt:(refsF t).length≤1048576):Calls Pg 113 #[.pointer (some ⟨cb,0,none⟩),u,v] w (mR w (nestB m f t) ru fi 9):=by
 obtain ⟨tf,cf,rfl,hTf,hCf,o1,o2⟩:=hf.op
 obtain ⟨tt,ct,rfl,hTt,hCt,o3,o4⟩:=ht.op
 refine n25s ?_;unfold n25
 rw [op_boxA]
 have hBW:=ElemAt.new (w:=w) (fieldCells f tf cf) (123)
 have eW:Ext w (w.alloc (Obj.cells (List.toArray (fieldCells f tf cf)) (123))):=(Ext.refl _).alloc _
 generalize (w.alloc (Obj.cells (List.toArray (fieldCells f tf cf)) (123)))=W at hBW eW ⊢
 rw [op_boxA]
 have hBX:=ElemAt.new (w:=W) (fieldCells t tt ct) (123)
 have eX:Ext W (W.alloc (Obj.cells (List.toArray (fieldCells t tt ct)) (123))):=(Ext.refl _).alloc _
 generalize (W.alloc (Obj.cells (List.toArray (fieldCells t tt ct)) (123)))=X at hBX eX ⊢
 refine Qp (hBW.c15 eX) ?_
 refine callK_ret (refers_ret X _ f ⟨_,_,rfl,hTf.ext (eW.trans eX),hCf.ext (eW.trans eX)⟩ bf) ?_
 rintro v1 w1 ⟨hD,e1⟩
 have E1:=eW.trans (eX.trans e1)
 have hNB:nestB m f t=(dedupA [] (refsF f)).all (okN m (dedupA [] (refsF t))):=rfl
 generalize dedupA [] (refsF f)=D at hD hNB
 obtain ⟨A,c,rfl,hlc,hcm,hlm,hel⟩:=SliceOf.open hD
 unfold n25c5
 refine Qf ?_
 refine loop1_intro (fun b w'=>∃ k:Nat,b = .int .i64 k∧k≤D.length∧Ext w1 w'∧nestB m f t=(D.drop k).all (okN m (dedupA [] (refsF t)))) (fun b _=>D.length - (intOf b).toNat) ⟨0,rfl,by omega,Ext.refl _,hNB⟩ ?_
 rintro _ w2 ⟨k,rfl,hk,e2,hR⟩
 have E2:=E1.trans e2
 have hC:=h.go E2
 rcases drop_cases hk with ⟨s,hx,hdr,hlt,hdec⟩ | ⟨hk,hdr,hdec⟩
 · obtain ⟨bt',ot,cst,rfl,_,hAt,rfl⟩:=hel k s hx
   rw [hdr,List.all_cons] at hR
   obtain ⟨rv,dv,ev,q,hRv,hdv,hev⟩:=hC.obj
   have rv1:=SliceOf.oneCell hRv
   refine Qp hdec ?_
   unfold n25c4
   refine QQ (hAt.c1 e2) (cells_of_heap q).1 (cells_of_heap q).2 ?_
   refine zcr (Rule_ret w2 _ m s ⟨_,rfl,hRv.ext hC.ext⟩) fun w3 e3=>?_
   unfold n25c3
   have fin:∀ (b:Bool) w4,Ext w3 w4→EC w3.drew w4→b=okN m (dedupA [] (refsF t)) s→callK Pg 33 #[.pointer (some ⟨cb,0,none⟩),.bool b,.int .i64 9] (panK (mR w (nestB m f t) ru fi 9)) w4 (fun _ w5=>EC w3.drew w5∧(opV Pg (binS .add 3 true (.int .i64 k) (.int .i64 1)) (panK (mR w (nestB m f t) ru fi 9)) w5 fun b w'=>(∃ k:Nat,b = .int .i64 k∧k≤D.length∧Ext w1 w'∧nestB m f t=(D.drop k).all (okN m (dedupA [] (refsF t))))∧D.length - (intOf b).toNat < D.length - (intOf (Value.int IntKind.i64 k)).toNat)):=by
    rintro b w4 e4 x4 rfl
    refine callK_m (must_m (h.go (E2.trans (e3.trans e4))) _ 9) (fun w5 e5 hb=>?_) (fun w5 e5 hb=>?_)
    · rw [hb,Bool.true_and] at hR
      refine ⟨Ext.trans x4 e5,?_⟩
      refine Qf ?_
      exact ⟨⟨k+1,rfl,hlt,e2.trans (e3.trans (e4.trans e5)),hR⟩,meas_lt (kd := .i64) hlt⟩
    · rw [hb,Bool.false_and] at hR
      exact mR_pan (E2.trans (e3.trans (e4.trans e5))) hR rfl
   rcases seek (fun r:MrD=>decide (r.fr=s)) m.rules with ⟨h1,h2,_,_,_⟩ | ⟨i,x,hxi,h1,h2,_,_,_⟩
   · have hp:ruleP m s=none:=h2
     have hk0:okN m (dedupA [] (refsF t)) s=false:=by unfold okN;rw [h1]
     rw [hp,Option.getD_none,show (none:Option Nat).isSome=false from rfl]
     refine Qf ?_
     refine drawK_intro ?_
     refine Qf ?_
     unfold n25c1
     exact fin false _ (Ext.refl w3).drew (Ext.refl _) hk0.symm
   · have hp:ruleP m s=some i:=h2
     rw [hp,Option.getD_some,show (some i).isSome=true from rfl]
     refine Qf ?_
     refine drawK_intro ?_
     obtain ⟨br,or',cr,rfl,_,_,_,hil,helr⟩:=open1 hRv hxi
     obtain ⟨csr,_,hAr,hEr⟩:=helr i x hxi
     obtain ⟨fv,rfl,hFr⟩:=hEr
     have q3:=cells_of_heap (e3.obj q)
     unfold n25c2
     refine QX q3.1 q3.2 (hBX.c15 (e1.trans (e2.trans e3))) (hAr.c3 (hC.ext.trans e3)) ?_
     have E3:=E2.trans e3.drew
     refine callK_ret (refers_ret _ _ t ⟨_,_,rfl,hTt.ext E3,hCt.ext E3⟩ bt) ?_
     rintro v2 w4 ⟨hT2,e4⟩
     refine ⟨e4,?_⟩
     refine zcr (Contains_string_ret w4 _ _ x.to hT2) fun w5 e5=>?_
     refine ⟨e4.trans e5,?_⟩
     have hk1:okN m (dedupA [] (refsF t)) s=(dedupA [] (refsF t)).any fun y=>decide (x.to=y):=by unfold okN;rw [h1]
     unfold n25c1
     refine Qf ?_
     exact fin _ w5 ((Ext.refl w3).drew.trans (e4.trans e5)) (e4.trans e5) hk1.symm
 · subst hk
   rw [hdr] at hR
   refine Qp hdec ?_
   exact mR_ret E2 (by rw [hR];rfl)
end
theorem dedup_iff {s:ByteArray} {l:List ByteArray}:s∈dedupA [] l↔s∈l:=by rw [mem_dedup];simp
theorem all_iff {α:Type} {p:α→Bool} {a b:List α} (h:∀ x,x∈a↔x∈b):a.all p=b.all p:=by
 rw [Bool.eq_iff_iff,List.all_eq_true,List.all_eq_true]
 exact ⟨fun k x hx=>k x ((h x).2 hx),fun k x hx=>k x ((h x).1 hx)⟩
theorem any_iff {α:Type} {p:α→Bool} {a b:List α} (h:∀ x,x∈a↔x∈b):a.any p=b.any p:=by
 rw [Bool.eq_iff_iff,List.any_eq_true,List.any_eq_true]
 exact ⟨fun ⟨x,hx,k⟩=>⟨x,(h x).1 hx,k⟩,fun ⟨x,hx,k⟩=>⟨x,(h x).2 hx,k⟩⟩
theorem class_four {f:FieldD} (h:4≤classB f):f.kind=7∨f.kind=8∨f.kind=12∨f.kind=9:=by
 unfold classB at h
 split at h
 · omega
 · split at h
   · omega
   · split at h
     · omega
     · split at h
       · omega
       · split at h
         · omega
         · split at h<;>omega
theorem class_refs {f:FieldD} (h:4≤classB f):refsF f=refsO (some f):=by
 unfold refsO refsF
 rcases class_four h with k | k | k | k<;>simp [k]
theorem okN_iff {m:MapD} {s:ByteArray} {a b:List ByteArray} (h:∀ x,x∈a↔x∈b):okN m a s=okN m b s:=by
 unfold okN
 cases m.rules.find? fun r=>decide (r.fr=s) with
 | none=>rfl
 | some r=>exact any_iff h
theorem nest_eq {m:MapD} {f t:FieldD} (hf:4≤classB f) (ht:4≤classB t):nestC m (some f) (some t)=if nestB m f t=true then 0 else 9:=by
 unfold nestC nestB
 rw [← class_refs hf,← class_refs ht]
 have:((refsF f).all (okN m (refsF t)))=((dedupA [] (refsF f)).all (okN m (dedupA [] (refsF t)))):=by
  rw [all_iff (a:=dedupA [] (refsF f)) (b:=refsF f) fun _=>dedup_iff]
  congr 1
  funext s
  exact okN_iff fun _=>dedup_iff.symm
 rw [this]
section
variable {a0 w w0:World} {cb p6 p10:Nat} {m:MapD} {d e:DefD} {ru fi:Int}
theorem add_ok {r:FrD} (h:inF r=true):numOk (if IntKind.i64.wrap (0 - r.add) > r.add then IntKind.i64.wrap (0 - r.add) else r.add)=addOk r.add:=by
 unfold inF rangeI at h
 simp only [Bool.and_eq_true,decide_eq_true_eq] at h
 obtain ⟨⟨h1,h2⟩,_⟩:=h
 generalize r.add=n at h1 h2
 by_cases hn:n = -9223372036854775808
 · subst hn;decide
 · rw [wrap_ok Qx Qx]
   unfold numOk addOk
   rw [Bool.eq_iff_iff]
   simp only [Bool.and_eq_true,decide_eq_true_eq]
   split<;>omega
theorem one_tail (h:CkM a0 w cb m d e ru fi) (e0:Ext w0 w) (r:FrD) (bv tv:Value) (o6:w.heap[p6]?=some (.cells (frCells r bv tv).toArray 43 (0,0))) (hT:RowsOf w tv r.table) (hB:ByOf w bv r.bytes)
 (fo to:Option FieldD) (tt tc:Value) (o10:w.heap[p10]?=some (.cells (fieldCells (to.getD zeroF) tt tc).toArray 123 (0,0))) (hTt:TermsOf w tt (to.getD zeroF).terms) (hTc:CasesOf w tc (to.getD zeroF).cases) (u:Value) (hu:FieldVal w u (fo.getD zeroF))
 (bf:(refsF (fo.getD zeroF)).length≤1048576) (bt:(refsF (to.getD zeroF)).length≤1048576) (hk:1≤r.kind∧r.kind≤7) (hin:inF r=true) :
 n26c15 (.pointer (some ⟨cb,0,none⟩)) (.pointer (some ⟨p6,0,none⟩)) (.pointer (some ⟨p10,0,none⟩)) (.int .i64 (clsO to)) (.tuple #[u,.int .i64 (clsO fo)]) (mR w0 (decide (kindC m r fo to=0)) ru fi (kindC m r fo to)) w:=by
 obtain ⟨tf,cf,rfl,hTf,hCf,f1,f2⟩:=hu.op
 obtain ⟨At,ct,rfl,_,_,_,_⟩:=SliceOf.open hT
 obtain ⟨Ab,cby,rfl,_,_,hbl,_⟩:=SliceOf.open hB
 unfold n26c15
 refine Qf ?_
 have oV:=heap_new w (fieldCells (fo.getD zeroF) tf cf).toArray 123
 have eV:Ext w (w.alloc (.cells (fieldCells (fo.getD zeroF) tf cf).toArray 123)):=(Ext.refl w).alloc _
 generalize (w.alloc (.cells (fieldCells (fo.getD zeroF) tf cf).toArray 123))=V at oV eV ⊢
 generalize w.heap.size=p14 at oV ⊢
 have hC:=h.go eV
 have E:=e0.trans eV
 have q:=(cells_of_heap (eV.obj o6)).1
 have fin:∀ w',Ext V w'→kindC m r fo to=0→mR w0 (decide (kindC m r fo to=0)) ru fi (kindC m r fo to) (.returned (.tuple #[])) w':=fun w' e' hc=>mR_ret (E.trans e') (by rw [hc];rfl)
 have pan:∀ w' c,Ext V w'→kindC m r fo to=c→c≠0→panK (mR w0 (decide (kindC m r fo to=0)) ru fi (kindC m r fo to)) [mEntry ru fi c] w':=fun w' c e' hc h0=>mR_pan (E.trans e') (by rw [hc];simpa using h0) hc
 generalize hx:clsO fo=x
 generalize hy:clsO to=y
 have this:r.kind=1∨r.kind=2∨r.kind=3∨r.kind=4∨r.kind=5∨r.kind=6∨r.kind=7:=Qx
 have hkc:kindC m r fo to=kindC m r fo to:=rfl
 conv at hkc=>rhs;unfold kindC;rw [hx,hy];simp only
 rcases this with hk | hk | hk | hk | hk | hk | hk
 all_goals rw [hk] at hkc
 all_goals simp (disch:=try exact DI) only [↓PR,QR,simprocAttr,q,hk,↓n26c1,↓n26c2,↓n26c3,↓n26c4,↓n26c5,↓n26c6,↓n26c7,↓n26c8,↓n26c9,↓n26c10,↓n26c11,↓n26c12,↓n26c13,↓n26c14,↓n26c15,↓n26c16,↓n26c17,↓n26c18,↓n26c19,↓n26c20,↓n26c21,↓n26c22]
 · replace hkc:kindC m r fo to=if x≠y∨3 < y then 5 else 0:=hkc
   refine callK_m (must_m hC _ 5) (fun w1 e1 hb=>?_) (fun w1 e1 hb=>?_)
   · simp only [Bool.and_eq_true,beq_iff_eq,decide_eq_true_eq] at hb
     exact fin _ e1 (by rw [hkc,if_neg Qx])
   · simp only [Bool.and_eq_false_iff,beq_eq_false_iff_ne,decide_eq_false_iff_not] at hb
     exact pan _ _ e1 (by rw [hkc,if_pos Qx]) Qj
 · replace hkc:kindC m r fo to=if x≠1∨y≠1 then 5 else if addOk r.add=true then 0 else 8:=hkc
   refine callK_m (must_m hC _ 5) (fun w1 e1 hb=>?_) (fun w1 e1 hb=>?_)
   · simp only [Bool.and_eq_true,beq_iff_eq] at hb
     rw [if_neg Qx] at hkc
     have q1:=(cells_of_heap ((eV.trans e1).obj o6)).1
     simp (disch:=try exact DI) only [↓PR,QR,simprocAttr,q1,↓n26c1,↓n26c2,↓n26c3,↓n26c4,↓n26c5,↓n26c6,↓n26c7,↓n26c8,↓n26c9,↓n26c10,↓n26c11,↓n26c12,↓n26c13,↓n26c14,↓n26c15,↓n26c16,↓n26c17,↓n26c18,↓n26c19,↓n26c20,↓n26c21,↓n26c22]
     refine callK_ret (allowed_ret w1 _) ?_
     rintro _ w2 ⟨rfl,hw⟩
     rw [hw,add_ok hin]
     refine callK_m (must_m (hC.go e1) _ 8) (fun w3 e3 hb=>?_) (fun w3 e3 hb=>?_)
     · exact fin _ (e1.trans e3) (by rw [hkc,if_pos hb])
     · exact pan _ _ (e1.trans e3) (by rw [hkc,hb];rfl) Qj
   · simp only [Bool.and_eq_false_iff,beq_eq_false_iff_ne] at hb
     exact pan _ _ e1 (by rw [hkc,if_pos Qx]) Qj
 · replace hkc:kindC m r fo to=if y≠1 then 5 else if numOk r.value=true then 0 else 8:=hkc
   refine callK_m (must_m hC _ 5) (fun w1 e1 hb=>?_) (fun w1 e1 hb=>?_)
   · simp only [beq_iff_eq] at hb
     rw [if_neg Qx] at hkc
     have q1:=(cells_of_heap ((eV.trans e1).obj o6)).1
     simp (disch:=try exact DI) only [↓PR,QR,simprocAttr,q1,↓n26c1,↓n26c2,↓n26c3,↓n26c4,↓n26c5,↓n26c6,↓n26c7,↓n26c8,↓n26c9,↓n26c10,↓n26c11,↓n26c12,↓n26c13,↓n26c14,↓n26c15,↓n26c16,↓n26c17,↓n26c18,↓n26c19,↓n26c20,↓n26c21,↓n26c22]
     refine callK_ret (allowed_ret w1 _) ?_
     rintro _ w2 ⟨rfl,hw⟩
     rw [hw]
     refine callK_m (must_m (hC.go e1) _ 8) (fun w3 e3 hb=>?_) (fun w3 e3 hb=>?_)
     · exact fin _ (e1.trans e3) (by rw [hkc,if_pos hb])
     · exact pan _ _ (e1.trans e3) (by rw [hkc,hb];rfl) Qj
   · simp only [beq_eq_false_iff_ne] at hb
     exact pan _ _ e1 (by rw [hkc,if_pos Qx]) Qj
 · replace hkc:kindC m r fo to=if y≠2 then 5 else if 1000 < r.bytes.length then 2 else 0:=hkc
   refine callK_m (must_m hC _ 5) (fun w1 e1 hb=>?_) (fun w1 e1 hb=>?_)
   · simp only [beq_iff_eq] at hb
     rw [if_neg Qx] at hkc
     have q1:=(cells_of_heap ((eV.trans e1).obj o6)).1
     simp (disch:=try exact DI) only [↓PR,QR,simprocAttr,q1,↓n26c1,↓n26c2,↓n26c3,↓n26c4,↓n26c5,↓n26c6,↓n26c7,↓n26c8,↓n26c9,↓n26c10,↓n26c11,↓n26c12,↓n26c13,↓n26c14,↓n26c15,↓n26c16,↓n26c17,↓n26c18,↓n26c19,↓n26c20,↓n26c21,↓n26c22]
     refine callK_m (must_m (hC.go e1) _ 2) (fun w3 e3 hb=>?_) (fun w3 e3 hb=>?_)
     · simp only [decide_eq_true_eq] at hb
       exact fin _ (e1.trans e3) (by rw [hkc,if_neg Qx])
     · simp only [decide_eq_false_iff_not] at hb
       exact pan _ _ (e1.trans e3) (by rw [hkc,if_pos Qx]) Qj
   · simp only [beq_eq_false_iff_ne] at hb
     exact pan _ _ e1 (by rw [hkc,if_pos Qx]) Qj
 · replace hkc:kindC m r fo to=if x≠1∨y≠1 then 5 else tableC r.table:=hkc
   refine callK_m (must_m hC _ 5) (fun w1 e1 hb=>?_) (fun w1 e1 hb=>?_)
   · simp only [Bool.and_eq_true,beq_iff_eq] at hb
     rw [if_neg Qx] at hkc
     have q1:=(cells_of_heap ((eV.trans e1).obj o6)).1
     simp (disch:=try exact DI) only [↓PR,QR,simprocAttr,q1,↓n26c1,↓n26c2,↓n26c3,↓n26c4,↓n26c5,↓n26c6,↓n26c7,↓n26c8,↓n26c9,↓n26c10,↓n26c11,↓n26c12,↓n26c13,↓n26c14,↓n26c15,↓n26c16,↓n26c17,↓n26c18,↓n26c19,↓n26c20,↓n26c21,↓n26c22]
     refine callK_m (rows_m (hC.go e1) _ _ (hT.ext (eV.trans e1))) (fun w3 e3 hb=>?_) (fun w3 e3 hb=>?_)
     · exact fin _ (e1.trans e3) (by rw [hkc];simpa using hb)
     · exact pan _ _ (e1.trans e3) hkc (by simpa using hb)
   · simp only [Bool.and_eq_false_iff,beq_eq_false_iff_ne] at hb
     exact pan _ _ e1 (by rw [hkc,if_pos Qx]) Qj
 · replace hkc:kindC m r fo to=if x≠y∨y < 4 then 5 else nestC m fo to:=hkc
   refine callK_m (must_m hC _ 5) (fun w1 e1 hb=>?_) (fun w1 e1 hb=>?_)
   · simp only [Bool.and_eq_true,beq_iff_eq,decide_eq_true_eq] at hb
     rw [if_neg Qx] at hkc
     cases fo with
     | none=>have:(0:Int)=x:=hx;omega
     | some f =>
     cases to with
     | none=>have:(0:Int)=y:=hy;omega
     | some t =>
     have c1:classB f=x:=hx
     have c2:classB t=y:=hy
     rw [nest_eq Qx Qx] at hkc
     have e01:=eV.trans e1
     have q2:=(cells_of_heap (e1.obj oV)).1
     have q3:=(cells_of_heap (e01.obj o10)).1
     simp (disch:=try exact DI) only [↓PR,QR,simprocAttr,q2,q3,↓n26c1,↓n26c2,↓n26c3,↓n26c4,↓n26c5,↓n26c6,↓n26c7,↓n26c8,↓n26c9,↓n26c10,↓n26c11,↓n26c12,↓n26c13,↓n26c14,↓n26c15,↓n26c16,↓n26c17,↓n26c18,↓n26c19,↓n26c20,↓n26c21,↓n26c22]
     refine callK_m (nested_m (hC.go e1) _ _ f t ⟨_,_,rfl,TermsOf.ext hTf e01,CasesOf.ext hCf e01⟩ ⟨_,_,rfl,TermsOf.ext hTt e01,CasesOf.ext hTc e01⟩ bf bt) (fun w3 e3 hb=>?_) (fun w3 e3 hb=>?_)
     · exact fin _ (e1.trans e3) (by rw [hkc,if_pos hb])
     · exact pan _ _ (e1.trans e3) (by rw [hkc,hb];rfl) Qj
   · simp only [Bool.and_eq_false_iff,beq_eq_false_iff_ne,decide_eq_false_iff_not] at hb
     exact pan _ _ e1 (by rw [hkc,if_pos Qx]) Qj
 · replace hkc:kindC m r fo to=if y≠1 then 5 else 0:=hkc
   refine callK_m (must_m hC _ 5) (fun w1 e1 hb=>?_) (fun w1 e1 hb=>?_)
   · simp only [beq_iff_eq] at hb
     exact fin _ e1 (by rw [hkc,if_neg Qx])
   · simp only [beq_eq_false_iff_ne] at hb
     exact pan _ _ e1 (by rw [hkc,if_pos Qx]) Qj
end
theorem uses_kind {k:Int} {u:UseD} (h:usesK k=some u):1≤k∧k≤7:=by
 unfold usesK at h
 by_cases h7:1≤k∧k≤7
 · exact h7
 · rw [if_neg Qx,if_neg Qx,if_neg Qx,if_neg Qx,if_neg Qx,if_neg Qx,if_neg Qx] at h
   cases h
def noUse:UseD:=⟨false,false,false,false,false⟩
section
variable {a0 w:World} {cb:Nat} {m:MapD} {d e:DefD} {ru fi:Int}
theorem one_m (h:CkM a0 w cb m d e ru fi) (rv av bv lv:Value) (r:FrD) (a b:MsgD) (l:List FrD) (hr:FrVal w rv r) (ha:MsgVal w av a) (hb:MsgVal w bv b) (hl:FrsOf w lv l) (hin:inF r=true)
 (ba:∀ f∈a.fields,(refsF f).length≤1048576) (bb:∀ f∈b.fields,(refsF f).length≤1048576) :
 Calls Pg 77 #[.pointer (some ⟨cb,0,none⟩),rv,av,bv,lv] w (mR w (decide (oneC m r a b l=0)) ru fi (oneC m r a b l)):=by
 obtain ⟨bv1,tv1,rfl,hB,hT,o1,o2⟩:=hr.op
 obtain ⟨fa,rfl,hFa⟩:=ha
 obtain ⟨fb,rfl,hFb⟩:=hb
 have p1:=SliceOf.oneCell hFa
 have p2:=SliceOf.oneCell hFb
 have refb:∀ (f:Option FieldD),f=fieldP b r.to→(refsF (f.getD zeroF)).length≤1048576:=by
  rintro _ rfl
  cases hp:fieldP b r.to with
  | none=>decide
  | some f=>exact bb f (List.mem_of_find?_eq_some hp)
 have refa:∀ (f:Option FieldD),f=fieldP a r.fr→(refsF (f.getD zeroF)).length≤1048576:=by
  rintro _ rfl
  cases hp:fieldP a r.fr with
  | none=>decide
  | some f=>exact ba f (List.mem_of_find?_eq_some hp)
 refine n26s ?_;unfold n26
 rw [op_boxA]
 have oW:=heap_new w (frCells r bv1 tv1).toArray 43
 have eW:Ext w (w.alloc (.cells (frCells r bv1 tv1).toArray 43)):=(Ext.refl w).alloc _
 generalize (w.alloc (.cells (frCells r bv1 tv1).toArray 43))=W at oW eW ⊢
 generalize w.heap.size=p6 at oW ⊢
 rw [op_boxA]
 have hBX:=ElemAt.new (w:=W) (msgCells a fa) (74)
 have eX:Ext W (W.alloc (Obj.cells (List.toArray (msgCells a fa)) (74))):=(Ext.refl _).alloc _
 generalize (W.alloc (Obj.cells (List.toArray (msgCells a fa)) (74)))=X at hBX eX ⊢
 rw [op_boxA]
 have hBY:=ElemAt.new (w:=X) (msgCells b fb) (74)
 have eY:Ext X (X.alloc (Obj.cells (List.toArray (msgCells b fb)) (74))):=(Ext.refl _).alloc _
 generalize (X.alloc (Obj.cells (List.toArray (msgCells b fb)) (74)))=Y at hBY eY ⊢
 have EY:=eW.trans (eX.trans eY)
 generalize hCC:oneC m r a b l=C
 have pan:∀ w' c,Ext w w'→C=c→c≠0→panK (mR w (decide (C=0)) ru fi C) [mEntry ru fi c] w':=fun w' c e' hc h0=>mR_pan e' (by rw [hc];simpa using h0) hc
 unfold oneC at hCC
 refine QJ (hBY.c2 (Ext.refl Y)) (cells_of_heap ((eX.trans eY).obj oW)).1 ?_
 refine callK_ret (field_ret Y _ b r.to ⟨_,rfl,hFb.ext EY⟩) ?_
 rintro _ w1 ⟨⟨u,rfl,hu⟩,e1⟩
 obtain ⟨tf,cf,rfl,hTf,hCf,f1,f2⟩:=hu.op
 unfold n26c22
 refine Qf ?_
 have oV:=heap_new w1 (fieldCells ((fieldP b r.to).getD zeroF) tf cf).toArray 123
 have eV:Ext w1 (w1.alloc (.cells (fieldCells ((fieldP b r.to).getD zeroF) tf cf).toArray 123)):=(Ext.refl w1).alloc _
 generalize (w1.alloc (.cells (fieldCells ((fieldP b r.to).getD zeroF) tf cf).toArray 123))=V at oV eV ⊢
 generalize w1.heap.size=p10 at oV ⊢
 have EV:=EY.trans (e1.trans eV)
 refine callK_m (must_m (h.go EV) _ 5) (fun w2 e2 hb=>?_) (fun w2 e2 hb=>?_)
 case refine_2 =>
  simp only [bne_eq_false_iff_eq] at hb
  rw [if_pos hb] at hCC
  exact pan _ _ (EV.trans e2) hCC.symm Qj
 simp only [bne_iff_ne,ne_eq] at hb
 rw [if_neg hb] at hCC
 refine Qf ?_
 refine callK_ret (ContainsFunc_FRule_ret w2 _ l _ _ (fun x=>decide (x.to=r.to)) (hl.ext (EV.trans e2)) c111 fun w' v x _ e' hv=>?_) ?_
 · exact oneS1_ret w' v x r hv _ bv1 tv1 (((eX.trans eY).trans (e1.trans (eV.trans (e2.trans e')))).obj oW)
 rintro _ w3 ⟨rfl,e3⟩
 have E3:=EV.trans (e2.trans e3)
 unfold n26c21
 refine Qf ?_
 refine callK_m (must_m (h.go E3) _ 4) (fun w4 e4 hq=>?_) (fun w4 e4 hq=>?_)
 case refine_2 =>
  simp only [Bool.not_eq_false'] at hq
  rw [if_pos hq] at hCC
  exact pan _ _ (E3.trans e4) hCC.symm Qj
 simp only [Bool.not_eq_true'] at hq
 rw [hq,if_neg (by simp)] at hCC
 have E4:=E3.trans e4
 have rest:∀ (w5:World) (p12:Nat) (us:Option UseD),us=usesK r.kind→Ext w4 w5→w5.heap[p12]?=some (.cells #[.bool (us.getD noUse).fr,.bool (us.getD noUse).add,.bool (us.getD noUse).value,.bool (us.getD noUse).bytes,.bool (us.getD noUse).table] 105 (0,0)) →
  callK Pg 33 #[.pointer (some ⟨cb,0,none⟩),.bool us.isSome,.int .i64 6] (panK (mR w (decide (C=0)) ru fi C)) w5 fun _ w6=>n26c17 (.pointer (some ⟨cb,0,none⟩)) (.pointer (some ⟨p6,0,none⟩)) (.pointer (some ⟨W.heap.size,0,none⟩)) (.pointer (some ⟨p10,0,none⟩)) (.pointer (some ⟨p12,0,none⟩)) (.int .i64 (clsO (fieldP b r.to))) (mR w (decide (C=0)) ru fi C) w6:=by
  intro w5 p12 us hus e5 o12
  have E5:=E4.trans e5
  rw [← hus] at hCC
  refine callK_m (must_m (h.go E5) _ 6) (fun w6 e6 hq=>?_) (fun w6 e6 hq=>?_)
  case refine_2 =>
   cases us with
   | some _=>cases hq
   | none=>exact pan _ _ (E5.trans e6) hCC.symm Qj
  cases us with
  | none=>cases hq
  | some x =>
  have E6:=E5.trans e6
  have e46:=e5.trans e6
  have hk:=uses_kind hus.symm
  have o6:w6.heap[p6]?=some (.cells (frCells r bv1 tv1).toArray 43 (0,0)):=((eX.trans eY).trans (e1.trans (eV.trans (e2.trans (e3.trans (e4.trans e46)))))).obj oW
  have q12:=(cells_of_heap (e6.obj o12)).1
  unfold n26c17
  refine QJ (cells_of_heap o6).1 q12 ?_
  refine zcr (clean_ret w6 _ r ⟨_,_,rfl,hB.ext E6,hT.ext E6⟩ x) fun w7 e7=>?_
  replace hCC:(if cleanB r x=false then 7 else kindC m r (fieldP a r.fr) (fieldP b r.to))=C:=hCC
  have E7:=E6.trans e7
  refine callK_m (must_m (h.go E7) _ 7) (fun w8 e8 hq=>?_) (fun w8 e8 hq=>?_)
  case refine_2 =>
   rw [if_pos hq] at hCC
   exact pan _ _ (E7.trans e8) hCC.symm Qj
  rw [hq,if_neg Qj] at hCC
  have E8:=E7.trans e8
  have e68:=e7.trans e8
  have e48:=e46.trans e68
  have eV8:Ext V w8:=e2.trans (e3.trans (e4.trans e48))
  unfold n26c16
  refine QJ (hBX.c2 (eY.trans (e1.trans (eV.trans eV8)))) (cells_of_heap (e68.obj o6)).1 ?_
  refine callK_ret (field_ret w8 _ a r.fr ⟨_,rfl,hFa.ext E8⟩) ?_
  rintro _ w9 ⟨⟨u2,rfl,hu2⟩,e9⟩
  rw [← hCC]
  have E9:=E8.trans e9
  exact one_tail (h.go E9) E9 r bv1 tv1 ((e68.trans e9).obj o6) (hT.ext E9) (hB.ext E9) (fieldP a r.fr) (fieldP b r.to) tf cf ((eV8.trans e9).obj oV) (hTf.ext (eV.trans (eV8.trans e9))) (hCf.ext (eV.trans (eV8.trans e9))) u2 hu2 (refa _ rfl) (refb _ rfl) hk hin
 refine drawK_intro ?_
 unfold n26c20
 have eD:Ext w4 w4.drew:=(Ext.refl _).wdrew
 have o64:w4.heap[p6]?=some (.cells (frCells r bv1 tv1).toArray 43 (0,0)):=((eX.trans eY).trans (e1.trans (eV.trans (e2.trans (e3.trans e4))))).obj oW
 refine Qp (cells_of_heap o64).1 ?_
 have hget:((usesK r.kind).map useV).getD (.agg #[.bool false,.bool false,.bool false,.bool false,.bool false]) = .agg #[.bool ((usesK r.kind).getD noUse).fr,.bool ((usesK r.kind).getD noUse).add,.bool ((usesK r.kind).getD noUse).value,.bool ((usesK r.kind).getD noUse).bytes,.bool ((usesK r.kind).getD noUse).table]:=by cases usesK r.kind<;>rfl
 refine ⟨?_,(Ext.refl _).alloc _,?_⟩
 · refine callK_ret (mkinds_ret _) ?_
   rintro _ w6 ⟨mm,L,c,rfl,hm,hM,hL,e6⟩
   refine narrowK_KM e6 hM ?_
   unfold n26c18
   simp only [drew_wdrew]
   rw [qV_lookupKM Tryz.underlying106 (KeyOK.int Tryz.underlying39) ty105 ⟨w6,e6,hM⟩,hL r.kind,hget,Option.isSome_map]
   haveI:ClassNe (KM w4.drew mm kindEnc L c):=⟨⟨w6,e6,hM⟩⟩
   refine Qf ?_
   exact ⟨⟨e6.alloc _,hM.ext ((Ext.refl _).alloc _)⟩,⟨e6.alloc _,hM.ext ((Ext.refl _).alloc _)⟩,rest _ _ _ rfl (eD.trans (e6.alloc _)) (heap_new _ _ _)⟩
 · refine callK_ret (mkinds_ret _) ?_
   rintro _ w6 ⟨mm,L,c,rfl,hm,hM,hL,e6⟩
   have e6':=((Ext.refl w4.drew).alloc (Obj.cells #[Value.bool false,Value.bool false,Value.bool false,Value.bool false,Value.bool false] 105)).trans e6
   refine narrowK_KM e6' hM ?_
   unfold n26c19
   simp only [drew_wdrew]
   rw [qV_lookupKM Tryz.underlying106 (KeyOK.int Tryz.underlying39) ty105 ⟨w6,e6',hM⟩,hL r.kind,hget,Option.isSome_map]
   haveI:ClassNe (KM w4.drew mm kindEnc L c):=⟨⟨w6,e6',hM⟩⟩
   have o12:w6.heap[w4.heap.size]?=some (.cells #[Value.bool false,Value.bool false,Value.bool false,Value.bool false,Value.bool false] 105 (0,0)):=e6.obj (heap_new w4.drew #[Value.bool false,Value.bool false,Value.bool false,Value.bool false,Value.bool false] 105)
   refine QJ (cells_of_heap o12).1 (cells_of_heap o12).2 ?_
   generalize hU:(usesK r.kind).getD noUse=U at rest
   have z:=heap_set (o:=4) (heap_set (o:=3) (heap_set (o:=2) (heap_set (o:=1) (heap_set (o:=0) o12 (.bool U.fr)) (.bool U.add)) (.bool U.value)) (.bool U.bytes)) (.bool U.table)
   have hz:w4.drew.heap.size≤w4.heap.size:=Nat.le_refl _
   have eZ:=((((e6'.setCell (p:=⟨w4.heap.size,0,none⟩) hz (.bool U.fr)).setCell (p:=⟨w4.heap.size,1,none⟩) hz (.bool U.add)).setCell (p:=⟨w4.heap.size,2,none⟩) hz (.bool U.value)).setCell (p:=⟨w4.heap.size,3,none⟩) hz (.bool U.bytes)).setCell (p:=⟨w4.heap.size,4,none⟩) hz (.bool U.table)
   exact ⟨⟨eZ,((((hM.setCell _ _).setCell _ _).setCell _ _).setCell _ _).setCell _ _⟩,rest _ _ _ rfl (eD.trans eZ) (by rw [hU];simpa using z)⟩
end
section
variable {a0 w:World} {cb:Nat} {m:MapD} {d e:DefD} {ru fi:Int}
def msR (a0:World) (cb:Nat) (m:MapD) (d e:DefD) (ru:Int) (q:Int×Int):Ending→World→Prop:=fun x w'=>Ext a0 w'∧(q.2=0∧x = .returned (.tuple #[])∧CkM a0 w' cb m d e ru (-1)∨q.2≠0∧x = .panicked [mEntry ru q.1 q.2])
theorem msR_pan {w':World} {q:Int×Int} {f c:Int} (x:Ext a0 w') (h:q=(f,c)) (h0:c≠0):panK (msR a0 cb m d e ru q) [mEntry ru f c] w':=⟨x,.inr ⟨by rw [h];exact h0,by rw [h]⟩⟩
theorem SliceOf.pre {α:Type} {w:World} {n:Nat} {E:World→List Value→α→Prop} {A:Option Addr} {c:Nat} {l:List α} (h:SliceOf w n E (.slice A l.length c) l) (k:Nat) (hk:k≤l.length):SliceOf w n E (.slice A k c) (l.take k):=by
 obtain ⟨A',c',hv,h2,h3,h4⟩:=h
 injection hv with hA _ hc
 subst hA hc
 have hl:(l.take k).length=k:=by rw [List.length_take];omega
 refine ⟨_,_,by rw [hl],by rw [hl];omega,h3,fun hne=>?_⟩
 obtain ⟨b,o,hA,hel⟩:=h4 (by rintro rfl;simp at hne)
 refine ⟨b,o,hA,fun i y hy=>hel i y ?_⟩
 rw [List.getElem?_take] at hy
 split at hy
 · exact hy
 · cases hy
theorem missing_m (h:CkM a0 w cb m d e ru fi) (l:List FrD) (fv:Value) (hF:FrsOf a0 fv l) (b:MsgD) (fb:Value) (hFb:FieldsOf a0 fb b.fields) (p3 p6:Nat) (n3:p3≠cb) (n6:p6≠cb) (fr to:ByteArray) (o3:w.heap[p3]?=some (.cells #[.string fr,.string to,fv] 60 (0,0))) (o6:w.heap[p6]?=some (.cells (msgCells b fb).toArray 74 (0,0)))
 (Q:Int×Int) (hq:Q=if (b.fields.any (missB l))=true then (-1,10) else (-1,0)) :
 n21c5 (.pointer (some ⟨cb,0,none⟩)) (.pointer (some ⟨p3,0,none⟩)) (.pointer (some ⟨p6,0,none⟩)) (msR a0 cb m d e ru Q) w:=by
 obtain ⟨rv',dv,ev,q,hRv,hdv,hev⟩:=h.obj
 have p1:=SliceOf.oneCell hF
 obtain ⟨A,c,rfl,hlc,hcm,hlm,hel⟩:=SliceOf.open hFb
 unfold n21c5
 refine QQ (cells_of_heap q).1 (cells_of_heap q).2 (cells_of_heap o6).1 ?_
 have hC2:=h.setField (-1)
 have y3:=(Only.setCell w cb 9 (.int .i64 (-1)) p3 n3).trans o3
 have y6:=(Only.setCell w cb 9 (.int .i64 (-1)) p6 n6).trans o6
 generalize (w.setCell ⟨cb,9,none⟩ (.int .i64 (-1)))=X at hC2 y3 y6 ⊢
 refine loop1_intro (fun i w'=>∃ k:Nat,i = .int .i64 k∧k≤b.fields.length∧Ext X w'∧b.fields.any (missB l)=(b.fields.drop k).any (missB l)) (fun i _=>b.fields.length - (intOf i).toNat) ⟨0,rfl,by omega,Ext.refl _,rfl⟩ ?_
 rintro _ w1 ⟨k,rfl,hk,e1,hR⟩
 have E1:=hC2.ext.trans e1
 rcases drop_cases hk with ⟨x,hx,hdr,hlt,hdec⟩ | ⟨hk,hdr,hdec⟩
 · obtain ⟨bt,ot,cst,rfl,_,hAt,hE⟩:=hel k x hx
   obtain ⟨tv,cv,rfl,hT,hC,t1,c1⟩:=hE.op
   rw [hdr,List.any_cons] at hR
   refine Qp hdec ?_
   unfold n21c4
   refine Qp (hAt.c15 E1) ?_
   have oV:=heap_new w1 (fieldCells x tv cv).toArray 123
   have eV:Ext w1 (w1.alloc (.cells (fieldCells x tv cv).toArray 123)):=(Ext.refl w1).alloc _
   generalize (w1.alloc (.cells (fieldCells x tv cv).toArray 123))=V at oV eV ⊢
   generalize w1.heap.size=p13 at oV ⊢
   have e2:=e1.trans eV
   have E2:=hC2.ext.trans e2
   refine Qp (cells_of_heap (e2.obj y3)).1 ?_
   refine zcr (ContainsFunc_FRule_ret V _ l _ _ (fun y=>decide (y.to=x.name)) (hF.ext E2) c79 fun w' v y _ e' hv=>messagesS1_ret w' v y x hv _ tv cv (e'.obj oV)) fun w3 e3=>?_
   have e13:=e2.trans e3
   have fin:∀ (w4:World) (bb:Bool),Ext X w4→bb=!missB l x→callK Pg 33 #[.pointer (some ⟨cb,0,none⟩),.bool bb,.int .i64 10] (panK (msR a0 cb m d e ru Q)) w4 fun _ w5=>opV Pg (binS .add 3 true (.int .i64 k) (.int .i64 1)) (panK (msR a0 cb m d e ru Q)) w5 fun i w'=>(∃ k:Nat,i = .int .i64 k∧k≤b.fields.length∧Ext X w'∧b.fields.any (missB l)=(b.fields.drop k).any (missB l))∧b.fields.length - (intOf i).toNat < b.fields.length - (intOf (Value.int IntKind.i64 k)).toNat:=by
    rintro w4 bb e4 rfl
    refine callK_m (must_m (hC2.go e4) _ 10) (fun w5 e5 hb=>?_) (fun w5 e5 hb=>?_)
    · simp only [Bool.not_eq_true'] at hb
      rw [hb,Bool.false_or] at hR
      refine Qf ?_
      exact ⟨⟨k+1,rfl,hlt,e4.trans e5,hR⟩,meas_lt (kd := .i64) hlt⟩
    · simp only [Bool.not_eq_false'] at hb
      rw [hb,Bool.true_or] at hR
      exact msR_pan (hC2.ext.trans (e4.trans e5)) (by rw [hq,if_pos hR]) Qj
   unfold n21c3
   unfold missB at fin
   generalize (l.any fun y=>decide (y.to=x.name))=g at fin
   cases g with
   | true =>
    simp (disch:=try exact DI) only [↓PR,QR,simprocAttr,↓n21c1,↓n21c2,↓n21c3,↓n21c4,↓n21c5,↓n21c6,↓n21c7,↓n21c8,↓n21c9,↓n21c10,↓n21c11,↓n21c12,↓n21c13,↓n21c14,↓n21c15,↓n21c16]
    exact fin w3 _ e13 (by simp)
   | false =>
    simp (disch:=try exact DI) only [↓PR,QR,simprocAttr,↓n21c1,↓n21c2,↓n21c3,↓n21c4,↓n21c5,↓n21c6,↓n21c7,↓n21c8,↓n21c9,↓n21c10,↓n21c11,↓n21c12,↓n21c13,↓n21c14,↓n21c15,↓n21c16,(cells_of_heap (e3.obj oV)).1]
    refine zcr (classOf_ret w3 _ x ⟨_,_,rfl,hT.ext (E2.trans e3),hC.ext (E2.trans e3)⟩) fun w4 e4=>?_
    simp (disch:=try exact DI) only [↓PR,QR,simprocAttr,↓n21c1,↓n21c2,↓n21c3,↓n21c4,↓n21c5,↓n21c6,↓n21c7,↓n21c8,↓n21c9,↓n21c10,↓n21c11,↓n21c12,↓n21c13,↓n21c14,↓n21c15,↓n21c16]
    exact fin w4 _ (e13.trans e4) (by by_cases hz:classB x=0<;>simp [hz])
 · subst hk
   rw [hdr,List.any_nil] at hR
   rw [hR,if_neg (by simp)] at hq
   refine Qp hdec ?_
   exact ⟨E1,.inl ⟨by rw [hq],rfl,hC2.go e1⟩⟩
theorem fields_m (h:CkM a0 w cb m d e ru (-1)) (r:MrD) (fv:Value) (hF:FrsOf a0 fv r.fields) (a b:MsgD) (fa fb:Value) (hFa:FieldsOf a0 fa a.fields) (hFb:FieldsOf a0 fb b.fields) (hin:∀ x∈r.fields,inF x=true)
 (ba:∀ f∈a.fields,(refsF f).length≤1048576) (bb:∀ f∈b.fields,(refsF f).length≤1048576) (p3 p4 p6:Nat) (n3:p3≠cb) (n4:p4≠cb) (n6:p6≠cb) (o3:w.heap[p3]?=some (.cells (mrCells r fv).toArray 60 (0,0))) (o4:w.heap[p4]?=some (.cells (msgCells a fa).toArray 74 (0,0))) (o6:w.heap[p6]?=some (.cells (msgCells b fb).toArray 74 (0,0)))
 (Q:Int×Int) (hq:Q=if (fieldsC m a b r.fields 0 r.fields).2≠0 then fieldsC m a b r.fields 0 r.fields else if (b.fields.any (missB r.fields))=true then (-1,10) else (-1,0)) :
 n21c7 (.pointer (some ⟨cb,0,none⟩)) (.pointer (some ⟨p3,0,none⟩)) (.pointer (some ⟨p4,0,none⟩)) (.pointer (some ⟨p6,0,none⟩)) (msR a0 cb m d e ru Q) w:=by
 obtain ⟨A,c,rfl,hlc,hcm,hlm,hel⟩:=SliceOf.open hF
 have p1:=SliceOf.oneCell hFa
 have p2:=SliceOf.oneCell hFb
 unfold n21c7
 refine Qp (cells_of_heap o3).1 ?_
 refine loop1_intro (fun i w'=>∃ (k:Nat) (fl:Int),i = .int .i64 k∧k≤r.fields.length∧CkM a0 w' cb m d e ru fl∧w'.heap[p3]?=some (.cells (mrCells r (.slice A r.fields.length c)).toArray 60 (0,0))∧w'.heap[p4]?=some (.cells (msgCells a fa).toArray 74 (0,0))∧w'.heap[p6]?=some (.cells (msgCells b fb).toArray 74 (0,0))∧fieldsC m a b r.fields 0 r.fields=fieldsC m a b r.fields k (r.fields.drop k)) (fun i _=>r.fields.length - (intOf i).toNat) ⟨0,-1,rfl,by omega,h,o3,o4,o6,rfl⟩ ?_
 rintro _ w1 ⟨k,fl,rfl,hk,hC,x3,x4,x6,hR⟩
 obtain ⟨rv',dv,ev,q,hRv,hdv,hev⟩:=hC.obj
 rcases drop_cases hk with ⟨x,hx,hdr,hlt,hdec⟩ | ⟨hk,hdr,hdec⟩
 · obtain ⟨bt,ot,cst,rfl,_,hAt,hE⟩:=hel k x hx
   obtain ⟨bv1,tv1,rfl,hB,hT,z1,z2⟩:=hE.op
   refine Qp hdec ?_
   unfold n21c6
   have lcb:=(Qk q).1
   refine Qp (hAt.c7 hC.ext) ?_
   have oV:=heap_new w1 (frCells x bv1 tv1).toArray 43
   have eV:Ext w1 (w1.alloc (.cells (frCells x bv1 tv1).toArray 43)):=(Ext.refl w1).alloc _
   generalize (w1.alloc (.cells (frCells x bv1 tv1).toArray 43))=V at oV eV ⊢
   have n11:w1.heap.size≠cb:=Qx
   generalize w1.heap.size=p11 at oV n11 ⊢
   have qV:=cells_of_heap (eV.obj q)
   refine QQ (cells_of_heap q).1 qV.1 qV.2 ?_
   have hC2:=(hC.go eV).setField (k:Int)
   have y3:=(Only.setCell V cb 9 (.int .i64 (k:Int)) p3 n3).trans (eV.obj x3)
   have y4:=(Only.setCell V cb 9 (.int .i64 (k:Int)) p4 n4).trans (eV.obj x4)
   have y6:=(Only.setCell V cb 9 (.int .i64 (k:Int)) p6 n6).trans (eV.obj x6)
   have y11:=(Only.setCell V cb 9 (.int .i64 (k:Int)) p11 n11).trans oV
   generalize (V.setCell ⟨cb,9,none⟩ (.int .i64 (k:Int)))=X at hC2 y3 y4 y6 y11 ⊢
   refine drawK_intro ?_
   unfold n21c1
   refine QX (cells_of_heap y3).1 (cells_of_heap y4).1 (cells_of_heap y6).1 (cells_of_heap y11).1 ?_
   rw [qV_of fun QP w' k'=>op_sliceTo Tryz.underlying58 ty43 bt ot r.fields.length c .i64 k Qx]
   refine Qf ?_
   have eD:Ext X X.drew:=(Ext.refl X).wdrew
   have E:=hC2.ext.trans eD
   have hlen:(r.fields.take k).length=k:=by rw [List.length_take];omega
   have hstep:fieldsC m a b r.fields 0 r.fields=if oneC m x a b (r.fields.take k)≠0 then ((k:Int),oneC m x a b (r.fields.take k)) else fieldsC m a b r.fields (k+1) (r.fields.drop (k+1)):=by rw [hR,hdr,fieldsC]
   refine callK_m (one_m (hC2.go eD) _ _ _ _ x a b (r.fields.take k) ⟨_,_,rfl,hB.ext E,hT.ext E⟩ ⟨_,rfl,hFa.ext E⟩ ⟨_,rfl,hFb.ext E⟩ ((SliceOf.pre hF k Qx).ext keptFr E) (hin x (List.mem_of_getElem? hx)) ba bb) (fun w5 e5 hb=>?_) (fun w5 e5 hb=>?_)
   · have h0:oneC m x a b (r.fields.take k)=0:=by simpa using hb
     rw [if_neg (by simpa using h0)] at hstep
     refine ⟨e5,?_⟩
     have e':=eD.trans e5
     refine Qf ?_
     exact ⟨⟨k+1,k,rfl,hlt,hC2.go e',e'.obj y3,e'.obj y4,e'.obj y6,hstep⟩,meas_lt (kd := .i64) hlt⟩
   · have h0:oneC m x a b (r.fields.take k)≠0:=by simpa using hb
     rw [if_pos h0] at hstep
     exact msR_pan (E.trans e5) (by rw [hq,hstep,if_pos h0]) h0
 · subst hk
   rw [hdr,fieldsC] at hR
   rw [hR,if_neg (by simp)] at hq
   refine Qp hdec ?_
   exact missing_m hC r.fields _ hF b fb hFb p3 p6 n3 n6 r.fr r.to x3 x6 Q hq
theorem messages_m (h:CkM a0 w cb m d e ru (-1)) (i:Nat) (hru:ru=i) (rv:Value) (r:MrD) (hr:MrVal a0 rv r) (hri:m.rules[i]?=some r) (hin:∀ x∈r.fields,inF x=true)
 (bd:∀ x∈d.msgs,∀ f∈x.fields,(refsF f).length≤1048576) (be:∀ x∈e.msgs,∀ f∈x.fields,(refsF f).length≤1048576) :
 Calls Pg 36 #[.pointer (some ⟨cb,0,none⟩),rv] w (msR a0 cb m d e ru (ruleC m d e i r)):=by
 obtain ⟨fv,rfl,hF,o1⟩:=hr.op
 have E0:=h.ext
 refine n21s ?_;unfold n21
 rw [op_boxA]
 have oW:=heap_new w (mrCells r fv).toArray 60
 have eW:Ext w (w.alloc (.cells (mrCells r fv).toArray 60)):=(Ext.refl w).alloc _
 generalize (w.alloc (.cells (mrCells r fv).toArray 60))=W at oW eW ⊢
 have lcb0:cb < w.heap.size:=by obtain ⟨_,_,_,z,_⟩:=h.obj;exact (Qk z).1
 generalize w.heap.size=p3 at oW lcb0 ⊢
 have hC:=h.go eW
 obtain ⟨rv',dv,ev,q,hRv,hdv,hev⟩:=hC.obj
 have d1:=SliceOf.oneCell hdv
 have d2:=SliceOf.oneCell hev
 generalize hq:ruleC m d e i r=Q
 refine drawK_intro ?_
 unfold n21c16
 refine QJ (cells_of_heap q).1 (cells_of_heap oW).1 ?_
 obtain ⟨A,hA⟩:∃ A,msgP d r.fr=A:=⟨_,rfl⟩
 obtain ⟨B,hB⟩:∃ B,msgP e r.to=B:=⟨_,rfl⟩
 have rest2:∀ (w5:World) (p4 p6:Nat) (fa fb:Value),Ext W w5→p4≠cb→p6≠cb→w5.heap[p4]?=some (.cells (msgCells (A.getD zeroM) fa).toArray 74 (0,0))→FieldsOf a0 fa (A.getD zeroM).fields→w5.heap[p6]?=some (.cells (msgCells (B.getD zeroM) fb).toArray 74 (0,0))→FieldsOf a0 fb (B.getD zeroM).fields →
  n21c10 (.pointer (some ⟨cb,0,none⟩)) (.pointer (some ⟨p3,0,none⟩)) (.pointer (some ⟨p4,0,none⟩)) (.bool A.isSome) (.pointer (some ⟨p6,0,none⟩)) (.bool B.isSome) (msR a0 cb m d e ru Q) w5:=by
  intro w5 p4 p6 fa fb e5 n4 n6 o4 hFa o6 hFb
  have hC5:=hC.go e5
  unfold n21c10
  refine Qf ?_
  refine callK_m (must_m hC5 _ 3) (fun w7 e7 hb=>?_) (fun w7 e7 hb=>?_)
  case refine_2 =>
   refine msR_pan (hC5.ext.trans e7) ?_ Qj
   rw [← hq]
   unfold ruleC
   rw [hA,hB]
   cases A with
   | none=>rfl
   | some a=>cases B with
    | none=>rfl
    | some b=>cases hb
  cases A with
  | none=>cases hb
  | some a =>
  cases B with
  | none=>cases hb
  | some b =>
  replace hq:(if ruleP m r.fr≠some i then ((-1:Int),(4:Int)) else if (fieldsC m a b r.fields 0 r.fields).2≠0 then fieldsC m a b r.fields 0 r.fields else if (b.fields.any (missB r.fields))=true then (-1,10) else (-1,0))=Q:=by
   rw [← hq];unfold ruleC;rw [hA,hB]
  have ham:=List.mem_of_find?_eq_some hA
  have hbm:=List.mem_of_find?_eq_some hB
  have hC7:=hC5.go e7
  have q7:=cells_of_heap ((e5.trans e7).obj q)
  have r7:=cells_of_heap ((e5.trans e7).obj oW)
  have rv1:=SliceOf.oneCell hRv
  refine drawK_intro ?_
  unfold n21c9
  refine QQ q7.1 q7.2 r7.1 ?_
  refine zcr (Rule_ret _ _ m r.fr ⟨_,rfl,hRv.ext hC7.ext.wdrew⟩) fun w8 e8=>?_
  refine ⟨e8,?_⟩
  have e78:=(Ext.refl w7).wdrew.trans e8
  have q8:=cells_of_heap (((e5.trans e7).trans e78).obj q)
  have r8:=cells_of_heap (((e5.trans e7).trans e78).obj oW)
  have hC8:=hC7.go e78
  unfold n21c8
  refine QQ q8.1 q8.2 r8.1 ?_
  obtain ⟨j,hj⟩:∃ j,ruleP m r.fr=some j:=by
   rcases seek (fun x:MrD=>decide (x.fr=r.fr)) m.rules with ⟨h1,_⟩ | ⟨k,x,_,_,h2,_⟩
   · have:=List.find?_eq_none.1 h1 r (List.mem_of_getElem? hri)
     simp at this
   · exact ⟨k,h2⟩
  rw [hj] at hq
  rw [hj,Option.getD_some]
  refine callK_m (must_m hC8 _ 4) (fun w9 e9 hb=>?_) (fun w9 e9 hb=>?_)
  case refine_2 =>
   refine msR_pan (hC8.ext.trans e9) ?_ Qj
   rw [← hq,if_pos]
   rintro h
   injection h with h
   rw [hru,h] at hb
   simp at hb
  rw [if_neg (by rw [hru] at hb;simp only [beq_iff_eq] at hb;intro h;apply h;congr 1;omega)] at hq
  exact fields_m (hC8.go e9) r fv hF a b fa fb hFa hFb hin (bd a ham) (be b hbm) p3 p4 p6 Qx n4 n6 ((e5.trans (e7.trans (e78.trans e9))).obj oW) ((e7.trans (e78.trans e9)).obj o4) ((e7.trans (e78.trans e9)).obj o6) Q hq.symm
 have rest1:∀ (w5:World) (p4:Nat) (fa:Value),Ext W w5→p4≠cb→w5.heap[p4]?=some (.cells (msgCells (A.getD zeroM) fa).toArray 74 (0,0))→FieldsOf a0 fa (A.getD zeroM).fields →
  drawK w5 fun C3 w6=>n21c13 (.pointer (some ⟨cb,0,none⟩)) (.pointer (some ⟨p3,0,none⟩)) (.pointer (some ⟨p4,0,none⟩)) (.bool A.isSome) C3 (msR a0 cb m d e ru Q) w6:=by
  intro w5 p4 fa e5 n4 o4 h4
  refine drawK_intro ?_
  unfold n21c13
  have q5:=cells_of_heap (e5.obj q)
  have r5:=cells_of_heap (e5.obj oW)
  have lcb:=(Qk (e5.obj q)).1
  have E5:=hC.ext.trans e5
  refine QJ q5.1 r5.1 ?_
  refine ⟨?_,(Ext.refl _).alloc _,?_⟩
  · refine callK_ret (message_ret a0 _ E5.wdrew _ e r.to ⟨_,rfl,hev⟩) ?_
    rintro _ w6 ⟨⟨u,rfl,fb,rfl,hFb⟩,e6⟩
    rw [hB] at hFb ⊢
    have g1:=SliceOf.oneCell hFb
    refine ⟨e6,?_⟩
    unfold n21c11
    refine Qf ?_
    have sz:=e6.size
    exact ⟨e6.alloc _,e6.alloc _,rest2 _ _ _ fa fb (e5.wdrew.trans (e6.alloc _)) n4 (by have:w5.drew.heap.size=w5.heap.size:=rfl;omega) ((((Ext.refl w5).wdrew.trans e6).alloc _).obj o4) h4 (heap_new _ _ _) hFb⟩
  · refine callK_ret (message_ret a0 _ (E5.wdrew.alloc _) _ e r.to ⟨_,rfl,hev⟩) ?_
    rintro _ w6 ⟨⟨u,rfl,fb,rfl,hFb⟩,e6⟩
    rw [hB] at hFb ⊢
    have g1:=SliceOf.oneCell hFb
    have e6':=((Ext.refl w5.drew).alloc _).trans e6
    have o6:w6.heap[w5.heap.size]?=some (.cells #[.string Qy,.slice none 0 0] 74 (0,0)):=e6.obj (heap_new w5.drew _ _)
    unfold n21c12
    refine QJ (cells_of_heap o6).1 (cells_of_heap o6).2 ?_
    have hz:w5.drew.heap.size≤w5.heap.size:=Nat.le_refl _
    have eZ:=(e6'.setCell (p:=⟨w5.heap.size,0,none⟩) hz (.string (B.getD zeroM).name)).setCell (p:=⟨w5.heap.size,1,none⟩) hz fb
    have z:=heap_set (o:=1) (heap_set (o:=0) o6 (.string (B.getD zeroM).name)) fb
    exact ⟨e6',eZ,rest2 _ _ _ fa fb (e5.wdrew.trans eZ) n4 Qx (((Ext.refl w5).wdrew.trans eZ).obj o4) h4 (by simpa using z) hFb⟩
 have lcb:=(Qk q).1
 refine ⟨?_,(Ext.refl _).alloc _,?_⟩
 · refine callK_ret (message_ret a0 _ hC.ext.wdrew _ d r.fr ⟨_,rfl,hdv⟩) ?_
   rintro _ w6 ⟨⟨u,rfl,fb,rfl,hFb⟩,e6⟩
   rw [hA] at hFb ⊢
   have g1:=SliceOf.oneCell hFb
   refine ⟨e6,?_⟩
   unfold n21c14
   refine Qf ?_
   have sz:=e6.size
   exact ⟨e6.alloc _,e6.alloc _,rest1 _ _ fb ((Ext.refl W).wdrew.trans (e6.alloc _)) (by have:W.drew.heap.size=W.heap.size:=rfl;omega) (heap_new _ _ _) hFb⟩
 · refine callK_ret (message_ret a0 _ (hC.ext.wdrew.alloc _) _ d r.fr ⟨_,rfl,hdv⟩) ?_
   rintro _ w6 ⟨⟨u,rfl,fb,rfl,hFb⟩,e6⟩
   rw [hA] at hFb ⊢
   have g1:=SliceOf.oneCell hFb
   have e6':=((Ext.refl W.drew).alloc _).trans e6
   have o6:w6.heap[W.heap.size]?=some (.cells #[.string Qy,.slice none 0 0] 74 (0,0)):=e6.obj (heap_new W.drew _ _)
   unfold n21c15
   refine QJ (cells_of_heap o6).1 (cells_of_heap o6).2 ?_
   have hz:W.drew.heap.size≤W.heap.size:=Nat.le_refl _
   have eZ:=(e6'.setCell (p:=⟨W.heap.size,0,none⟩) hz (.string (A.getD zeroM).name)).setCell (p:=⟨W.heap.size,1,none⟩) hz fb
   have z:=heap_set (o:=1) (heap_set (o:=0) o6 (.string (A.getD zeroM).name)) fb
   exact ⟨e6',eZ,rest1 _ W.heap.size fb ((Ext.refl W).wdrew.trans eZ) Qx (by simpa using z) hFb⟩
end
def startB (m:MapD) (d e:DefD):Bool:=match m.rules.find? fun r=>decide (r.fr=d.start) with
 | none=>false
 | some r=>decide (r.to=e.start)
def endMap (m:MapD) (d e:DefD) (q:Int×Int×Int):Option (Int×Int×Int):=if q.2.2≠0 then some q else if startB m d e=true then none else some (-1,-1,11)
def mapC (m:MapD) (d e:DefD):Option (Int×Int×Int) :=
 if (!flawedB d&&!flawedB e)=false then some (-1,-1,0) else if nameB m.name=false then some (-1,-1,1) else if ¬ (1≤m.rules.length∧m.rules.length≤60) then some (-1,-1,2) else endMap m d e (rulesC m d e 0 m.rules)
def mapV (o:Option (Int×Int×Int)):Value := .tuple #[flawVal (o.getD (0,0,0)).1 (o.getD (0,0,0)).2.1 (o.getD (0,0,0)).2.2,.bool o.isSome]
theorem op_assert1 {P:Program} {QP:List PanicEntry→World→Prop} {w:World} {k:Value→World→Prop} {xt t:TypeId} {d:TypeDesc} (hu:P.underlying t=some d) (hn:(match d with | .interface _=>false | _=>true)=true) (v:Value):opV P (Instr.typeAssert (.iface t v) xt t false) QP w k=k v w:=by
 refine opV_ok ?_
 unfold Instr.typeAssert
 simp only [Sem.run_bind,run_underlying hu,Result.andThen_ok]
 cases d<;>simp at hn<;>simp
abbrev catchM (p3 p4:Nat):Deferred:={ target := .fn (.func 32) #[.pointer (some ⟨p3,0,none⟩),.pointer (some ⟨p4,0,none⟩)],args := #[] }
theorem catchM_ret {p3 p4:Nat} {w:World} {k:FrameMode→World→Prop} (h:k .returning w):outM Pg [catchM p3 p4] .returning w k:=by
 refine ⟨by simp,.inr ⟨.func 32,_,32,#[.pointer (some ⟨p3,0,none⟩),.pointer (some ⟨p4,0,none⟩)],rfl,?_,?_⟩⟩
 · exact callFunc_run c32 _ w
 · refine n8s ?_
   unfold n8
   show opV _ (binS .neq _ true .nilIface .nilIface) _ _ _
   rw [op_neqNil_none Tryz.underlying20]
   refine Qf ?_
   exact h
theorem catchM_pan {p3 p4:Nat} {w:World} {k:FrameMode→World→Prop} {a f c:Int} {x0 x1 x2 y:Value} (o3:w.heap[p3]?=some (.cells #[x0,x1,x2] 34 (0,0))) (o4:w.heap[p4]?=some (.cells #[y] 4 (0,0)))
 (h:k .returning ((((w.setCell ⟨p3,0,none⟩ (.int .i64 a)).setCell ⟨p3,1,none⟩ (.int .i64 f)).setCell ⟨p3,2,none⟩ (.int .i64 c)).setCell ⟨p4,0,none⟩ (.bool true))):outM Pg [catchM p3 p4] (.panicking [mEntry a f c]) w k:=by
 have hne:p3≠p4:=by rintro rfl;rw [o3] at o4;cases o4
 refine ⟨by simp,.inr ⟨.func 32,_,32,#[.pointer (some ⟨p3,0,none⟩),.pointer (some ⟨p4,0,none⟩)],rfl,?_,?_⟩⟩
 · exact callFunc_run c32 _ w
 · refine n8s ?_
   rw [show recM (.panicking [mEntry a f c])=(.iface 82 (flawVal a f c),.panicking [{ v := .iface 82 (flawVal a f c),recovered:=true }]) from rfl]
   unfold n8
   rw [op_neqNil_some Tryz.underlying20]
   refine Qf ?_
   unfold n8c1
   rw [op_assert1 Tryz.underlying82 rfl]
   refine QX (cells_of_heap o3).1 (cells_of_heap o3).2 (cells_of_heap o4).1 (cells_of_heap o4).2 ?_
   exact h
section
variable {w0:World}
abbrev resM (p3 p4:Nat):List (Option TypeId×Value):=[(some 34,.pointer (some ⟨p3,0,none⟩)),(some 4,.pointer (some ⟨p4,0,none⟩))]
def mapK (w0:World) (o:Option (Int×Int×Int)) (r:Value) (w':World):Prop:=r=mapV o∧Ext w0 w'
theorem map_pan {w:World} {o:Option (Int×Int×Int)} {p3 p4:Nat} {a f c:Int} {x0 x1 x2 y:Value} (e:Ext w0 w) (h3:w0.heap.size≤p3) (h4:w0.heap.size≤p4) (o3:w.heap[p3]?=some (.cells #[x0,x1,x2] 34 (0,0))) (o4:w.heap[p4]?=some (.cells #[y] 4 (0,0)))
 (h:o=some (a,f,c)):outQ Pg [catchM p3 p4] (resM p3 p4) (retR (mapK w0 o)) [mEntry a f c] w:=by
 have hne:p3≠p4:=by rintro rfl;rw [o3] at o4;cases o4
 unfold outQ
 refine catchM_pan o3 o4 ?_
 have q3:=heap_set (o:=2) (heap_set (o:=1) (heap_set (o:=0) o3 (.int .i64 a)) (.int .i64 f)) (.int .i64 c)
 have e1:Ext w0 ((((w.setCell ⟨p3,0,none⟩ (.int .i64 a)).setCell ⟨p3,1,none⟩ (.int .i64 f)).setCell ⟨p3,2,none⟩ (.int .i64 c)).setCell ⟨p4,0,none⟩ (.bool true)):=(((e.setCell h3 _).setCell h3 _).setCell h3 _).setCell h4 _
 have q4:=heap_set (o:=0) ((Only.setCell ((w.setCell ⟨p3,0,none⟩ (.int .i64 a)).setCell ⟨p3,1,none⟩ (.int .i64 f)) p3 2 (.int .i64 c) p4 Qx).trans ((Only.setCell (w.setCell ⟨p3,0,none⟩ (.int .i64 a)) p3 1 (.int .i64 f) p4 Qx).trans ((Only.setCell w p3 0 (.int .i64 a) p4 Qx).trans o4))) (.bool true)
 have q3':=(Only.setCell _ p4 0 (.bool true) p3 hne).trans q3
 simp only [List.setIfInBounds_toArray,List.set_cons_zero,List.set_cons_succ] at q3' q4
 generalize ((((w.setCell ⟨p3,0,none⟩ (.int .i64 a)).setCell ⟨p3,1,none⟩ (.int .i64 f)).setCell ⟨p3,2,none⟩ (.int .i64 c)).setCell ⟨p4,0,none⟩ (.bool true))=W at e1 q3' q4 ⊢
 unfold Sw.endM retV resOne resM
 simp only
 refine QJ (cells_of_heap q3').1 (cells_of_heap q4).1 ?_
 exact ⟨by rw [h];rfl,e1⟩
end
def n45c1 (t6 t7 t8:Value) (next2:KW) (R:RT) (w:World):Prop :=
 L0 43 t8 R w fun t42 w =>
 opV Pg (Instr.buildSlice 58 1 #[(0,t42)]) (panK R) w fun t43 w =>
 opV Pg (Builtin.append_ #[58,58] 58 #[t6,t43]) (panK R) w fun t44 w =>
 B0 .add 3 true t7 (.int .i64 1) R w fun t27 w =>
 next2 t44 t27 w
def n45c2 (t6 t7 t8 t35 t38 t39:Value) (next2:KW) (R:RT) (w:World):Prop :=
 opU Pg (Instr.storeAt 40 t39 t35) (panK R) w fun w =>
 turnK w fun C4 w =>
 qV Pg C4 (Instr.fieldAt 43 t8 6) fun t40 =>
 opU Pg (Instr.storeAt 41 t40 t38) (panK R) w fun w =>
 turnK w fun C5 w =>
 n45c1 t6 t7 t8 next2 R w
def n45c3 (t6 t7 t8 t35 t37:Value) (C3:World→Prop) (next2:KW) (R:RT) (w:World):Prop :=
 qV Pg C3 (Instr.fieldAt 43 t8 5) fun t39 =>
 opV Pg (Builtin.append_ #[41,41] 41 #[(Value.slice none 0 0),t37]) (panK R) w fun t38 w =>
 C3 w∧(
 n45c2 t6 t7 t8 t35 t38 t39 next2 R w)
def n45c4 (t6 t7 t8:Value) (C3:World→Prop) (next2:KW) (R:RT) (w:World):Prop :=
 qV Pg C3 (Instr.fieldAt 43 t8 5) fun t33 =>
 qV Pg C3 (Instr.loadAt 40 t33) fun t34 =>
 qV Pg C3 (Instr.fieldAt 43 t8 6) fun t36 =>
 qV Pg C3 (Instr.loadAt 41 t36) fun t37 =>
 opV Pg (Builtin.append_ #[40,40] 40 #[(Value.slice none 0 0),t34]) (panK R) w fun t35 w =>
 C3 w∧(
 n45c3 t6 t7 t8 t35 t37 C3 next2 R w)
def n45c5 (t3 t4 t5 t6:Value) (next1:KW) (R:RT) (w:World):Prop :=
 F0 60 t5 2 R w fun t46 w =>
 opU Pg (Instr.storeAt 58 t46 t6) (panK R) w fun w =>
 L0 60 t5 R w fun t48 w =>
 opV Pg (Instr.buildSlice 22 1 #[(0,t48)]) (panK R) w fun t49 w =>
 opV Pg (Builtin.append_ #[22,22] 22 #[t3,t49]) (panK R) w fun t50 w =>
 B0 .add 3 true t4 (.int .i64 1) R w fun t15 w =>
 next1 t50 t15 w
def n45c6 (t5 t6 t7:Value) (next2:KW) (R:RT) (w:World):Prop :=
 F0 60 t5 2 R w fun t28 w =>
 L0 58 t28 R w fun t29 w =>
 X0 58 t29 t7 R w fun t31 w =>
 L0 43 t31 R w fun t32 w =>
 opV Pg (Instr.alloc 43 true (.tuple #[])) (panK R) w fun t8 w =>
 opU Pg (Instr.storeAt 43 t8 t32) (panK R) w fun w =>
 drawK w fun C3 w =>
 n45c4 t6 t7 t8 C3 next2 R w
def n45c7 (t3 t4 t5 t6 t7:Value) (next1:KW) (next2:KW) (R:RT) (w:World):Prop :=
 F0 60 t5 2 R w fun t22 w =>
 L0 58 t22 R w fun t23 w =>
 opV Pg (Builtin.len_ #[58] 3 #[t23]) (panK R) w fun t24 w =>
 B0 .lss 3 false t7 t24 R w fun t25 w =>
 condP t25 (
 n45c6 t5 t6 t7 next2 R w) (
 n45c5 t3 t4 t5 t6 next1 R w)
def n45c8 (t1 t2 t3:Value) (R:RT) (w:World):Prop :=
 F0 24 t1 1 R w fun t52 w =>
 opU Pg (Instr.storeAt 22 t52 t3) (panK R) w fun w =>
 L0 24 t1 R w fun t53 w =>
 opU Pg (Instr.storeAt 24 t2 t53) (panK R) w fun w =>
 qW Pg 24 t2 w fun r0 =>
 R (.returned r0) w
def n45c9 (t1 t3 t4:Value) (next1:KW) (R:RT) (w:World):Prop :=
 F0 24 t1 1 R w fun t16 w =>
 L0 22 t16 R w fun t17 w =>
 X0 22 t17 t4 R w fun t19 w =>
 L0 60 t19 R w fun t20 w =>
 opV Pg (Instr.alloc 60 true (.tuple #[])) (panK R) w fun t5 w =>
 opU Pg (Instr.storeAt 60 t5 t20) (panK R) w fun w =>
 loop2 (fun t6 t7 w next2 =>
 n45c7 t3 t4 t5 t6 t7 next1 next2 R w) (Value.slice none 0 0) (.int .i64 0) w
def n45c10 (t1 t2 t3 t4:Value) (next1:KW) (R:RT) (w:World):Prop :=
 F0 24 t1 1 R w fun t10 w =>
 L0 22 t10 R w fun t11 w =>
 opV Pg (Builtin.len_ #[22] 3 #[t11]) (panK R) w fun t12 w =>
 B0 .lss 3 false t4 t12 R w fun t13 w =>
 condP t13 (
 n45c9 t1 t3 t4 next1 R w) (
 n45c8 t1 t2 t3 R w)
def n45 (t0:Value) (R:RT) (w:World):Prop :=
 opV Pg (Instr.box 24 t0) (panK R) w fun t1 w =>
 opV Pg (Instr.alloc 24 true (.tuple #[])) (panK R) w fun t2 w =>
 loop2 (fun t3 t4 w next1 =>
 n45c10 t1 t2 t3 t4 next1 R w) (Value.slice none 0 0) (.int .i64 0) w
theorem n45s {t0:Value} {R:RT} {w:World} (h:n45 t0 R w):Calls Pg 13 #[t0] w R:=by
 refine yD Tryz.func13 ?_
 refine zs<|zr<|yv h fun _ w h=>yv h fun _ w h=>zn<|zk<|zs<|zr<|zm<|zn<|zk<|zs<|zs<|zr<|zm ?_
 refine zn<|zk<|sim_block<|yl2 [3,4,5,6,7,8,9,10,11,12,13,14,15,16,17,18,19,20,21,22,23,24,25,26,27,28,29,30,31,32,33,34,35,36,37,38,39,40,41,42,43,44,45,46,47,48,49,50] 3 4 h fun σ w next h=>zs<|zs<|zr<|zm<|yv h fun _ w h=>yv h fun _ w h=>yx h fun _ w h=>yb h fun _ w h=>zn<|zk<|yC h (fun h=>?_) fun h=>?_
 · refine sim_skip<|zk<|zs<|sim_block<|zs<|zr<|yv h fun _ w h=>yv h fun _ w h=>zm<|yv h fun _ w h=>yv h fun _ w h=>yv h fun _ w h=>yu h fun w h=>zn<|zk ?_
   refine zs<|zr<|zm<|zn<|zk<|zs<|zs<|zr<|zm<|zn<|zk<|sim_block<|yl2 [6,7,8,21,22,23,24,25,26,27,28,29,30,31,32,33,34,35,36,37,38,39,40,41,42,43,44] 6 7 h fun σ w next h=>zs<|zs ?_
   refine zr<|zm<|yv h fun _ w h=>yv h fun _ w h=>yx h fun _ w h=>yb h fun _ w h=>zn<|zk<|yC h (fun h=>?_) fun h=>?_
   · refine sim_skip<|zk<|zs<|sim_block<|zs<|zr<|yv h fun _ w h=>yv h fun _ w h=>zm<|yv h fun _ w h=>yv h fun _ w h=>yv h fun _ w h=>yu h fun w h=>zn<|zk ?_
     refine zs<|yh [33,34,35,36,37,38,39,40] h fun C hC h=>ye 0 hC h fun _ h=>?_
     refine ye 1 hC h fun _ h=>?_
     refine ye 3 hC h fun _ h=>?_
     refine ye 4 hC h fun _ h=>?_
     refine yo 2 ?_
     refine yx h fun _ w h=>zn ?_
     obtain ⟨hC,h⟩:=h
     refine ⟨hC,?_⟩
     refine ye 6 hC h fun _ h=>?_
     refine yo 5 ?_
     refine yx h fun _ w h=>zn ?_
     obtain ⟨hC,h⟩:=h
     refine ⟨hC,?_⟩
     refine yq 7 1 ?_
     refine yu h fun w h=>zn ?_
     obtain ⟨C4,hC,h⟩:=h
     refine ⟨C4,hC,?_⟩
     refine ye 8 hC h fun _ h=>?_
     refine yq 9 1 ?_
     refine yu h fun w h=>zn ?_
     obtain ⟨C5,hC,h⟩:=h
     refine ⟨C5,hC,?_⟩
     refine yz<|zk<|zr<|zm<|yv h fun _ w h=>yS h fun _ w h=>yx h fun _ w h=>zm<|zn<|sim_block_normal<|zk<|zr<|zm<|yb h fun _ w h=>zm ?_
     exact zn<|zk<|⟨rfl,h⟩
   refine sim_exit<|sim_then_exit<|sim_then_exit<|sim_block_hit<|zk<|zs<|zr<|zm<|yv h fun _ w h=>yu h fun w h=>zn<|zk<|zr<|zm<|yv h fun _ w h=>?_
   exact yS h fun _ w h=>yx h fun _ w h=>zm<|zn<|sim_block_normal<|zk<|zr<|zm<|yb h fun _ w h=>zm<|zn<|zk<|⟨rfl,h⟩
 refine sim_exit<|sim_then_exit<|sim_then_exit<|sim_block_hit<|zk<|zs<|zr<|zm<|yv h fun _ w h=>yu h fun w h=>zn<|zk<|zs<|zr<|yv h fun _ w h=>?_
 exact yu h fun w h=>zn<|zk<|sim_ret<|body_retC rfl rfl h
def n7c1 (t6 t7:Value) (ds:List Deferred) (R:RT) (w:World):Prop :=
 opV Pg (Instr.build 34 #[]) (outQ Pg ds [(some 34,t6),(some 4,t7)] R) w fun t84 w =>
 opU Pg (Instr.storeAt 34 t6 t84) (outQ Pg ds [(some 34,t6),(some 4,t7)] R) w fun w =>
 opU Pg (Instr.storeAt 4 t7 (.bool false)) (outQ Pg ds [(some 34,t6),(some 4,t7)] R) w fun w =>
 outX Pg ds [(some 34,t6),(some 4,t7)] R w
def n7c2 (t6 t7 t17 t69 t81:Value) (C4:World→Prop) (ds:List Deferred) (R:RT) (w:World):Prop :=
 pickK t69 t81 (.bool false) fun t82 =>
 callK Pg 33 #[t17,t82,(.int .i64 11)] (outQ Pg ds [(some 34,t6),(some 4,t7)] R) w fun t83 w =>
 C4 w∧(
 n7c1 t6 t7 ds R w)
def n7c3 (t3 t5 t6 t7 t17 t68 t69:Value) (C4:World→Prop) (ds:List Deferred) (R:RT) (w:World):Prop :=
 joinK (fun (t81:Value) (w:World) =>
 n7c2 t6 t7 t17 t69 t81 C4 ds R w) fun K5 =>
 guardP t69 true (
 qV Pg C4 (Instr.fieldAt 24 t3 1) fun t73 =>
 qV Pg C4 (Instr.loadAt 22 t73) fun t74 =>
 qV Pg C4 (Instr.indexAt 22 t74 t68) fun t76 =>
 qV Pg C4 (Instr.fieldAt 60 t76 1) fun t77 =>
 qV Pg C4 (Instr.loadAt 9 t77) fun t78 =>
 qV Pg C4 (Instr.fieldAt 27 t5 2) fun t79 =>
 qV Pg C4 (Instr.loadAt 9 t79) fun t80 =>
 qV Pg C4 (binS .eql 9 false t78 t80) fun t81 =>
 K5 t81 w) (
 K5 undef w)
def n7c4 (t3 t5 t6 t7 t17 t67:Value) (ds:List Deferred) (R:RT) (w:World):Prop :=
 opV Pg (Instr.extract t67 0) (outQ Pg ds [(some 34,t6),(some 4,t7)] R) w fun t68 w =>
 opV Pg (Instr.extract t67 1) (outQ Pg ds [(some 34,t6),(some 4,t7)] R) w fun t69 w =>
 drawK w fun C4 w =>
 n7c3 t3 t5 t6 t7 t17 t68 t69 C4 ds R w
def n7c5 (t3 t4 t5 t6 t7 t17:Value) (ds:List Deferred) (R:RT) (w:World):Prop :=
 opN Pg (nilN t17) (outQ Pg ds [(some 34,t6),(some 4,t7)] R) w fun t61 w =>
 opV Pg (Instr.fieldAt 81 t61 3) (outQ Pg ds [(some 34,t6),(some 4,t7)] R) w fun t62 w =>
 opU Pg (Instr.storeAt 3 t62 (.int .i64 (-1))) (outQ Pg ds [(some 34,t6),(some 4,t7)] R) w fun w =>
 opV Pg (Instr.loadAt 24 t3) (outQ Pg ds [(some 34,t6),(some 4,t7)] R) w fun t64 w =>
 opV Pg (Instr.fieldAt 27 t4 2) (outQ Pg ds [(some 34,t6),(some 4,t7)] R) w fun t65 w =>
 opV Pg (Instr.loadAt 9 t65) (outQ Pg ds [(some 34,t6),(some 4,t7)] R) w fun t66 w =>
 callK Pg 20 #[t64,t66] (outQ Pg ds [(some 34,t6),(some 4,t7)] R) w fun t67 w =>
 n7c4 t3 t5 t6 t7 t17 t67 ds R w
def n7c6 (t6 t7 t17 t45 t47:Value) (next3:KV) (ds:List Deferred) (R:RT) (w:World):Prop :=
 opV Pg (Instr.indexAt 22 t45 t47) (outQ Pg ds [(some 34,t6),(some 4,t7)] R) w fun t50 w =>
 opV Pg (Instr.loadAt 60 t50) (outQ Pg ds [(some 34,t6),(some 4,t7)] R) w fun t51 w =>
 opV Pg (Instr.alloc 60 true (.tuple #[])) (outQ Pg ds [(some 34,t6),(some 4,t7)] R) w fun t10 w =>
 opU Pg (Instr.storeAt 60 t10 t51) (outQ Pg ds [(some 34,t6),(some 4,t7)] R) w fun w =>
 opN Pg (nilN t17) (outQ Pg ds [(some 34,t6),(some 4,t7)] R) w fun t54 w =>
 opV Pg (Instr.fieldAt 81 t54 3) (outQ Pg ds [(some 34,t6),(some 4,t7)] R) w fun t55 w =>
 opU Pg (Instr.storeAt 3 t55 t47) (outQ Pg ds [(some 34,t6),(some 4,t7)] R) w fun w =>
 opV Pg (Instr.loadAt 60 t10) (outQ Pg ds [(some 34,t6),(some 4,t7)] R) w fun t57 w =>
 callK Pg 36 #[t17,t57] (outQ Pg ds [(some 34,t6),(some 4,t7)] R) w fun t58 w =>
 opV Pg (binS .add 3 true t47 (.int .i64 1)) (outQ Pg ds [(some 34,t6),(some 4,t7)] R) w fun t59 w =>
 next3 t59 w
def n7c7 (t3 t4 t5 t6 t7 t17 t45 t46 t47:Value) (next3:KV) (ds:List Deferred) (R:RT) (w:World):Prop :=
 opV Pg (binS .lss 3 false t47 t46) (outQ Pg ds [(some 34,t6),(some 4,t7)] R) w fun t48 w =>
 condP t48 (
 n7c6 t6 t7 t17 t45 t47 next3 ds R w) (
 n7c5 t3 t4 t5 t6 t7 t17 ds R w)
def n7c8 (t3 t4 t5 t6 t7 t17:Value) (ds:List Deferred) (R:RT) (w:World):Prop :=
 opV Pg (Instr.fieldAt 24 t3 1) (outQ Pg ds [(some 34,t6),(some 4,t7)] R) w fun t44 w =>
 opV Pg (Instr.loadAt 22 t44) (outQ Pg ds [(some 34,t6),(some 4,t7)] R) w fun t45 w =>
 opV Pg (Builtin.len_ #[22] 3 #[t45]) (outQ Pg ds [(some 34,t6),(some 4,t7)] R) w fun t46 w =>
 loop1 (fun t47 w next3 =>
 n7c7 t3 t4 t5 t6 t7 t17 t45 t46 t47 next3 ds R w) (.int .i64 0) w
def n7c9 (t3 t4 t5 t6 t7 t17 t36 t41:Value) (ds:List Deferred) (R:RT) (w:World):Prop :=
 pickK t36 t41 (.bool false) fun t42 =>
 callK Pg 33 #[t17,t42,(.int .i64 2)] (outQ Pg ds [(some 34,t6),(some 4,t7)] R) w fun t43 w =>
 n7c8 t3 t4 t5 t6 t7 t17 ds R w
def n7c10 (t3 t4 t5 t6 t7 t17:Value) (ds:List Deferred) (R:RT) (w:World):Prop :=
 opV Pg (Instr.fieldAt 24 t3 1) (outQ Pg ds [(some 34,t6),(some 4,t7)] R) w fun t33 w =>
 opV Pg (Instr.loadAt 22 t33) (outQ Pg ds [(some 34,t6),(some 4,t7)] R) w fun t34 w =>
 opV Pg (Builtin.len_ #[22] 3 #[t34]) (outQ Pg ds [(some 34,t6),(some 4,t7)] R) w fun t35 w =>
 opV Pg (binS .geq 3 true t35 (.int .i64 1)) (outQ Pg ds [(some 34,t6),(some 4,t7)] R) w fun t36 w =>
 joinK (fun (t41:Value) (w:World) =>
 n7c9 t3 t4 t5 t6 t7 t17 t36 t41 ds R w) fun K2 =>
 guardP t36 true (
 opV Pg (Instr.fieldAt 24 t3 1) (outQ Pg ds [(some 34,t6),(some 4,t7)] R) w fun t38 w =>
 opV Pg (Instr.loadAt 22 t38) (outQ Pg ds [(some 34,t6),(some 4,t7)] R) w fun t39 w =>
 opV Pg (Builtin.len_ #[22] 3 #[t39]) (outQ Pg ds [(some 34,t6),(some 4,t7)] R) w fun t40 w =>
 opV Pg (binS .leq 3 true t40 (.int .i64 60)) (outQ Pg ds [(some 34,t6),(some 4,t7)] R) w fun t41 w =>
 K2 t41 w) (
 K2 undef w)
def n7c11 (t3 t4 t5 t6 t7 t17:Value) (ds:List Deferred) (R:RT) (w:World):Prop :=
 opV Pg (Instr.fieldAt 24 t3 0) (outQ Pg ds [(some 34,t6),(some 4,t7)] R) w fun t28 w =>
 opV Pg (Instr.loadAt 9 t28) (outQ Pg ds [(some 34,t6),(some 4,t7)] R) w fun t29 w =>
 callK Pg 35 #[t29] (outQ Pg ds [(some 34,t6),(some 4,t7)] R) w fun t30 w =>
 callK Pg 33 #[t17,t30,(.int .i64 1)] (outQ Pg ds [(some 34,t6),(some 4,t7)] R) w fun t31 w =>
 n7c10 t3 t4 t5 t6 t7 t17 ds R w
def n7c12 (t3 t4 t5 t6 t7 t17 t21 t24:Value) (ds:List Deferred) (R:RT) (w:World):Prop :=
 pickK t21 t24 (.bool false) fun t25 =>
 callK Pg 33 #[t17,t25,(.int .i64 0)] (outQ Pg ds [(some 34,t6),(some 4,t7)] R) w fun t26 w =>
 n7c11 t3 t4 t5 t6 t7 t17 ds R w
def n7c13 (t3 t4 t5 t6 t7 t17 t21:Value) (ds:List Deferred) (R:RT) (w:World):Prop :=
 joinK (fun (t24:Value) (w:World) =>
 n7c12 t3 t4 t5 t6 t7 t17 t21 t24 ds R w) fun K1 =>
 guardP t21 true (
 opV Pg (Instr.loadAt 27 t5) (outQ Pg ds [(some 34,t6),(some 4,t7)] R) w fun t23 w =>
 callK Pg 34 #[t23] (outQ Pg ds [(some 34,t6),(some 4,t7)] R) w fun t24 w =>
 K1 t24 w) (
 K1 undef w)
def n7 (t0 t1 t2:Value) (R:RT) (w:World):Prop :=
 (fun (ds:List Deferred) =>
 opV Pg (Instr.box 24 t0) (outQ Pg ds [(some 34,undef),(some 4,undef)] R) w fun t3 w =>
 opV Pg (Instr.box 27 t1) (outQ Pg ds [(some 34,undef),(some 4,undef)] R) w fun t4 w =>
 opV Pg (Instr.box 27 t2) (outQ Pg ds [(some 34,undef),(some 4,undef)] R) w fun t5 w =>
 opV Pg (Instr.alloc 34 true (.tuple #[])) (outQ Pg ds [(some 34,undef),(some 4,undef)] R) w fun t6 w =>
 opV Pg (Instr.alloc 4 true (.tuple #[])) (outQ Pg ds [(some 34,t6),(some 4,undef)] R) w fun t7 w =>
 opV Pg (Instr.loadAt 24 t3) (outQ Pg ds [(some 34,t6),(some 4,t7)] R) w fun t13 w =>
 opV Pg (Instr.loadAt 27 t4) (outQ Pg ds [(some 34,t6),(some 4,t7)] R) w fun t14 w =>
 opV Pg (Instr.loadAt 27 t5) (outQ Pg ds [(some 34,t6),(some 4,t7)] R) w fun t15 w =>
 opV Pg (Instr.build 81 #[(0,t13),(1,t14),(2,t15),(3,(.int .i64 (-1))),(4,(.int .i64 (-1)))]) (outQ Pg ds [(some 34,t6),(some 4,t7)] R) w fun t16 w =>
 opV Pg (Instr.box 81 t16) (outQ Pg ds [(some 34,t6),(some 4,t7)] R) w fun t17 w =>
 opV Pg (Instr.makeFunc (.func 32) #[] #[t6,t7]) (outQ Pg ds [(some 34,t6),(some 4,t7)] R) w fun t18 w =>
 defK Pg t18 #[] ds w fun ds w =>
 opV Pg (Instr.loadAt 27 t4) (outQ Pg ds [(some 34,t6),(some 4,t7)] R) w fun t20 w =>
 callK Pg 34 #[t20] (outQ Pg ds [(some 34,t6),(some 4,t7)] R) w fun t21 w =>
 n7c13 t3 t4 t5 t6 t7 t17 t21 ds R w) []
theorem n7s {t0 t1 t2:Value} {R:RT} {w:World} (h:n7 t0 t1 t2 R w):Calls Pg 14 #[t0,t1,t2] w R:=by
 refine yE Tryz.func14 ?_
 unfold n7 at h
 dsimp only at h
 refine zs<|zr<|yv h fun _ w h=>yv h fun _ w h=>yv h fun _ w h=>yv h fun _ w h=>yv h fun _ w h=>zn<|zk<|zs<|zr<|yv h fun _ w h=>yv h fun _ w h=>yv h fun _ w h=>yB h fun _ w h=>?_
 refine yv h fun _ w h=>zm<|zn<|zk<|zs<|zr<|yF h fun _ w h=>?_
 refine sim_defer h rfl rfl ?_;intro ds w h
 refine zn<|zk<|zs<|sim_regionG<|yG 4<|zm<|yv h fun _ w h=>yc h c34 fun _ w h=>zm<|zn<|yg1 2 3 true [23,24] 24 h (fun _ T hT h=>?_) fun σ w h=>?_
 · refine yv h fun _ w h=>yc h c34 fun _ w h=>zn ?_
   exact zt hT h
 refine yG 2<|yp h fun _ h=>yc h c33 fun _ w h=>zn<|sim_end<|zk<|zs<|zr<|zm<|yv h fun _ w h=>yv h fun _ w h=>yc h c35 fun _ w h=>yc h c33 fun _ w h=>zn<|zk ?_
 refine zs<|sim_regionG<|yG 6<|zm<|yv h fun _ w h=>yv h fun _ w h=>yx h fun _ w h=>yb h fun _ w h=>zm<|zn<|yg1 4 5 true [38,39,40,41] 41 h (fun _ T hT h=>?_) fun σ w h=>?_
 · refine yv h fun _ w h=>yv h fun _ w h=>yx h fun _ w h=>yb h fun _ w h=>zn ?_
   exact zt hT h
 refine yG 2<|yp h fun _ h=>yc h c33 fun _ w h=>zn<|sim_end<|zk<|zs<|zs<|zr<|yv h fun _ w h=>yv h fun _ w h=>yx h fun _ w h=>zm<|zn<|zk ?_
 refine sim_block<|yl1 [9,10,47,48,49,50,51,52,53,54,55,56,57,58,59] 47 h fun σ w next h=>zs<|zr<|yb h fun _ w h=>zn<|zk<|zs<|yC h (fun h=>?_) fun h=>?_
 · refine sim_skip<|zk<|zs<|sim_block<|zs<|zr<|zm<|yv h fun _ w h=>yv h fun _ w h=>yv h fun _ w h=>zm<|yu h fun w h=>zn<|zk<|zs ?_
   refine zr<|zm<|zm<|yN h fun _ w h=>yv h fun _ w h=>yu h fun w h=>zn<|zk<|zr<|zm<|yv h fun _ w h=>yc h c36 fun _ w h=>zn<|sim_block_normal<|zk ?_
   exact zr<|yb h fun _ w h=>zm<|zn<|zk<|⟨rfl,h⟩
 refine sim_exit<|sim_then_exit<|sim_then_exit<|sim_block_hit<|zk<|zs<|zr<|zm<|yN h fun _ w h=>yv h fun _ w h=>yu h fun w h=>zn<|zk<|zs<|zr ?_
 refine yv h fun _ w h=>yv h fun _ w h=>yv h fun _ w h=>yc h c20 fun _ w h=>zm<|yv h fun _ w h=>yv h fun _ w h=>zm<|zm<|zn<|zk<|zs<|yh [70,71,72,73,74,75,76,77,78,79,80,81,82,83] h fun C hC h=>yw 0 hC ?_
 refine yw 1 hC ?_
 refine yw 2 hC ?_
 refine yj1 2 [11,10,9,8,7,6,5,4,3,2,1,0] [73,74,75,76,77,78,79,80,81] 81 h (fun _ hT hb h=>?_) (fun _ hT hb h=>?_) fun σ w hC h=>?_
 · refine ye 3 hC h fun _ h=>?_
   refine ye 4 hC h fun _ h=>?_
   refine yw 5 hC ?_
   refine ye 6 hC h fun _ h=>?_
   refine ye 7 hC h fun _ h=>?_
   refine ye 8 hC h fun _ h=>?_
   refine ye 9 hC h fun _ h=>?_
   refine ye 10 hC h fun _ h=>?_
   refine ye 11 hC h fun _ h=>?_
   exact yt hT hC h
 · refine yi 3 hC ?_
   refine yi 4 hC ?_
   refine yi 5 hC ?_
   refine yi 6 hC ?_
   refine yi 7 hC ?_
   refine yi 8 hC ?_
   refine yi 9 hC ?_
   refine yi 10 hC ?_
   refine yi 11 hC ?_
   exact yt hT hC h
 refine yP 12 hC h fun _ h=>?_
 refine yo 13 ?_
 refine yc h c33 fun _ w h=>zn ?_
 obtain ⟨hC,h⟩:=h
 refine ⟨hC,?_⟩
 exact yz<|zk<|zs<|zr<|yB h fun _ w h=>yu h fun w h=>yu h fun w h=>zn<|zk<|sim_ret<|bodyM_ret rfl h
theorem valid_refs {d:DefD} (h:(!flawedB d)=true):∀ x∈d.msgs,∀ f∈x.fields,(refsF f).length≤1048576:=by
 intro x hx f hf
 have h0:(checkP d).2.2=0:=by
  unfold flawedB at h
  simpa using h
 obtain ⟨_,_,h3,_⟩:=check_fine h0
 obtain ⟨k,hk⟩:=List.getElem?_of_mem hx
 obtain ⟨_,_,h40,h4,_⟩:=next_parts (h3.next hk)
 have h1:=refs_fine _ _ _ _ h4
 have h2:(refsF f).length≤(allRefs x.fields).length:=by
  unfold allRefs
  obtain ⟨l1,l2,hl⟩:=List.append_of_mem hf
  rw [hl,List.flatMap_append,List.flatMap_cons,List.length_append,List.length_append]
  omega
 omega
theorem map_fine {w0 w:World} {o:Option (Int×Int×Int)} {p3 p4:Nat} (e:Ext w0 w) (o3:w.heap[p3]?=some (.cells #[.int .i64 0,.int .i64 0,.int .i64 0] 34 (0,0))) (o4:w.heap[p4]?=some (.cells #[.bool false] 4 (0,0)))
 (h:o=none):outX Pg [catchM p3 p4] (resM p3 p4) (retR (mapK w0 o)) w:=by
 unfold outX
 refine catchM_ret ?_
 unfold Sw.endM retV resOne resM
 simp only
 refine QJ (cells_of_heap o3).1 (cells_of_heap o4).1 ?_
 exact ⟨by rw [h];rfl,e⟩
section
variable {w0 A0 w:World} {cb p1 p2 p5 p3 p4:Nat} {m:MapD} {d e:DefD} {ru:Int} {rv dv ev:Value} {O:Option (Int×Int×Int)}
structure MapEnv (w0 A0:World) (p1 p2 p5 p3 p4:Nat) (m:MapD) (d e:DefD) (rv dv ev:Value):Prop where
 ea:Ext w0 A0
 o1:A0.heap[p1]?=some (.cells (mapCells m rv).toArray 24 (0,0))
 o2:A0.heap[p2]?=some (.cells (defCells d dv).toArray 27 (0,0))
 o5:A0.heap[p5]?=some (.cells (defCells e ev).toArray 27 (0,0))
 o3:A0.heap[p3]?=some (.cells #[.int .i64 0,.int .i64 0,.int .i64 0] 34 (0,0))
 o4:A0.heap[p4]?=some (.cells #[.bool false] 4 (0,0))
 l3:w0.heap.size≤p3
 l4:w0.heap.size≤p4
 hR:MrsOf A0 rv m.rules
theorem MapEnv.pan (h:MapEnv w0 A0 p1 p2 p5 p3 p4 m d e rv dv ev) {w':World} {a f c:Int} (x:Ext A0 w') (ho:O=some (a,f,c)):outQ Pg [catchM p3 p4] (resM p3 p4) (retR (mapK w0 O)) [mEntry a f c] w':=map_pan (h.ea.trans x) h.l3 h.l4 (x.obj h.o3) (x.obj h.o4) ho
theorem start_m (h:MapEnv w0 A0 p1 p2 p5 p3 p4 m d e rv dv ev) (hC:CkM A0 w cb m d e ru (-1)) (hO:(if startB m d e=true then none else some (-1,-1,11))=O) :
 n7c5 (.pointer (some ⟨p1,0,none⟩)) (.pointer (some ⟨p2,0,none⟩)) (.pointer (some ⟨p5,0,none⟩)) (.pointer (some ⟨p3,0,none⟩)) (.pointer (some ⟨p4,0,none⟩)) (.pointer (some ⟨cb,0,none⟩)) [catchM p3 p4] (retR (mapK w0 O)) w:=by
 obtain ⟨rv',dv',ev',q,_⟩:=hC.obj
 have t1:=SliceOf.oneCell h.hR
 unfold n7c5
 refine QX (cells_of_heap q).1 (cells_of_heap q).2 (cells_of_heap (hC.ext.obj h.o1)).1 (cells_of_heap (hC.ext.obj h.o2)).1 ?_
 have hC2:=hC.setRule (-1)
 generalize (w.setCell ⟨cb,8,none⟩ (.int .i64 (-1)))=X at hC2 ⊢
 refine zcr (Rule_ret X _ m d.start ⟨_,rfl,h.hR.ext hC2.ext⟩) fun w1 e1=>?_
 have hC3:=hC2.go e1
 unfold n7c4
 refine Qf ?_
 refine drawK_intro ?_
 have eD:Ext w1 (Sw.drew w1):=(Ext.refl w1).drew
 have hC4:=hC3.go eD
 generalize (Sw.drew w1)=D at hC4 ⊢
 have fin:∀ b,b=startB m d e→callK Pg 33 #[.pointer (some ⟨cb,0,none⟩),.bool b,.int .i64 11] (outQ Pg [catchM p3 p4] (resM p3 p4) (retR (mapK w0 O))) D fun _ w=>EC D w∧n7c1 (.pointer (some ⟨p3,0,none⟩)) (.pointer (some ⟨p4,0,none⟩)) [catchM p3 p4] (retR (mapK w0 O)) w:=by
  rintro b rfl
  refine callK_m (must_m hC4 _ 11) (fun w5 e5 hb=>?_) (fun w5 e5 hb=>?_)
  · refine ⟨e5,?_⟩
    rw [if_pos hb] at hO
    have E5:=hC4.ext.trans e5
    have q3:=E5.obj h.o3
    have q4:=E5.obj h.o4
    have hne:p3≠p4:=by rintro rfl;rw [q3] at q4;cases q4
    have lA3:w0.heap.size≤p3:=h.l3
    have lA4:w0.heap.size≤p4:=h.l4
    unfold n7c1
    refine QX (cells_of_heap q3).1 (cells_of_heap q3).2 (cells_of_heap q4).1 (cells_of_heap q4).2 ?_
    have z3:=heap_set (o:=2) (heap_set (o:=1) (heap_set (o:=0) q3 (.int .i64 0)) (.int .i64 0)) (.int .i64 0)
    have eZ:Ext w0 ((((w5.setCell ⟨p3,0,none⟩ (.int .i64 0)).setCell ⟨p3,1,none⟩ (.int .i64 0)).setCell ⟨p3,2,none⟩ (.int .i64 0)).setCell ⟨p4,0,none⟩ (.bool false)):=((((h.ea.trans E5).setCell lA3 _).setCell lA3 _).setCell lA3 _).setCell lA4 _
    have z4:=heap_set (o:=0) ((Only.setCell ((w5.setCell ⟨p3,0,none⟩ (.int .i64 0)).setCell ⟨p3,1,none⟩ (.int .i64 0)) p3 2 (.int .i64 0) p4 Qx).trans ((Only.setCell (w5.setCell ⟨p3,0,none⟩ (.int .i64 0)) p3 1 (.int .i64 0) p4 Qx).trans ((Only.setCell w5 p3 0 (.int .i64 0) p4 Qx).trans q4))) (.bool false)
    have z3':=(Only.setCell _ p4 0 (.bool false) p3 hne).trans z3
    simp only [List.setIfInBounds_toArray,List.set_cons_zero,List.set_cons_succ] at z3' z4
    exact map_fine eZ z3' z4 hO.symm
  · rw [if_neg (by rw [hb];simp)] at hO
    exact h.pan (hC4.ext.trans e5) hO.symm
 unfold n7c3
 rcases seek (fun r:MrD=>decide (r.fr=d.start)) m.rules with ⟨h1,h2,_,_,_⟩ | ⟨i,x,hxi,h1,h2,_,_,_⟩
 · have hp:ruleP m d.start=none:=h2
   have hs:startB m d e=false:=by unfold startB;rw [h1]
   rw [hp,Option.getD_none,show (none:Option Nat).isSome=false from rfl]
   refine Qf ?_
   unfold n7c2
   refine Qf ?_
   exact fin false hs.symm
 · have hp:ruleP m d.start=some i:=h2
   have hs:startB m d e=decide (x.to=e.start):=by unfold startB;rw [h1]
   rw [hp,Option.getD_some,show (some i).isSome=true from rfl]
   obtain ⟨br,or',cr,rfl,_,_,_,hil,helr⟩:=open1 h.hR hxi
   obtain ⟨csr,_,hAr,hEr⟩:=helr i x hxi
   obtain ⟨fv,rfl,hFr⟩:=hEr
   refine QQ (cells_of_heap (hC4.ext.obj h.o1)).1 (cells_of_heap (hC4.ext.obj h.o5)).1 (hAr.c3 hC4.ext) ?_
   unfold n7c2
   refine Qf ?_
   exact fin _ hs.symm
theorem rules_m (h:MapEnv w0 A0 p1 p2 p5 p3 p4 m d e rv dv ev) (hC:CkM A0 w cb m d e ru (-1)) (hin:∀ r∈m.rules,∀ x∈r.fields,inF x=true) (bd:∀ x∈d.msgs,∀ f∈x.fields,(refsF f).length≤1048576) (be:∀ x∈e.msgs,∀ f∈x.fields,(refsF f).length≤1048576)
 (hO:endMap m d e (rulesC m d e 0 m.rules)=O) :
 n7c8 (.pointer (some ⟨p1,0,none⟩)) (.pointer (some ⟨p2,0,none⟩)) (.pointer (some ⟨p5,0,none⟩)) (.pointer (some ⟨p3,0,none⟩)) (.pointer (some ⟨p4,0,none⟩)) (.pointer (some ⟨cb,0,none⟩)) [catchM p3 p4] (retR (mapK w0 O)) w:=by
 obtain ⟨A,c,rfl,hlc,hcm,hlm,hel⟩:=SliceOf.open h.hR
 unfold n7c8
 refine Qp (cells_of_heap (hC.ext.obj h.o1)).1 ?_
 refine loop1_intro (fun i w'=>∃ (k:Nat) (r:Int),i = .int .i64 k∧k≤m.rules.length∧CkM A0 w' cb m d e r (-1)∧rulesC m d e 0 m.rules=rulesC m d e k (m.rules.drop k)) (fun i _=>m.rules.length - (intOf i).toNat) ⟨0,_,rfl,by omega,hC,rfl⟩ ?_
 rintro _ w1 ⟨k,r0,rfl,hk,hC1,hR⟩
 unfold n7c7
 rcases drop_cases hk with ⟨x,hx,hdr,hlt,hdec⟩ | ⟨hk,hdr,hdec⟩
 · obtain ⟨bt,ot,cst,rfl,_,hAt,hE⟩:=hel k x hx
   obtain ⟨fv,rfl,hF,o1⟩:=hE.op
   obtain ⟨rv',dv',ev',q,_⟩:=hC1.obj
   rw [hdr,rulesC] at hR
   refine Qp hdec ?_
   unfold n7c6
   have lcb:=(Qk q).1
   have qV:=cells_of_heap q
   refine QQ (hAt.c3 hC1.ext) qV.1 qV.2 ?_
   have hC2:=(hC1.setRule (k:Int)).go ((Ext.refl _).alloc (.cells #[.string x.fr,.string x.to,fv] 60))
   refine callK_calls (messages_m hC2 k rfl _ x ⟨_,rfl,hF⟩ hx (hin x (List.mem_of_getElem? hx)) bd be) (fun v w5 hq=>?_) (fun ch w5 hq=>?_) (fun w5 hq=>?_)
   · rcases hq with ⟨E5,⟨h0,hv,hC5⟩ | ⟨_,hv⟩⟩
     · rw [if_neg (by rw [h0];simp)] at hR
       refine Qf ?_
       exact ⟨⟨k+1,_,rfl,hlt,hC5,hR⟩,meas_lt (kd := .i64) hlt⟩
     · cases hv
   · rcases hq with ⟨E5,⟨_,hv,_⟩ | ⟨h0,hv⟩⟩
     · cases hv
     · injection hv with hv
       subst hv
       rw [if_pos h0] at hR
       refine h.pan E5 ?_
       rw [← hO,hR]
       unfold endMap
       rw [if_pos h0]
   · rcases hq with ⟨_,⟨_,hv,_⟩ | ⟨_,hv⟩⟩<;>cases hv
 · subst hk
   rw [hdr,rulesC] at hR
   refine Qp hdec ?_
   refine start_m h hC1 ?_
   rw [← hO,hR]
   rfl
end
theorem mCheck_ret (w0:World) (v1 v2 v3:Value) (m:MapD) (d e:DefD) (hm:MapVal w0 v1 m) (hd:DefVal w0 v2 d) (he:DefVal w0 v3 e) (hin:∀ r∈m.rules,∀ x∈r.fields,inF x=true):Ret Pg 14 #[v1,v2,v3] w0 (mapK w0 (mapC m d e)):=by
 obtain ⟨rv,rfl,hR⟩:=hm
 obtain ⟨dv,rfl,hD⟩:=hd
 obtain ⟨ev,rfl,hE⟩:=he
 have t1:=SliceOf.oneCell hR
 have t2:=SliceOf.oneCell hD
 have t3:=SliceOf.oneCell hE
 refine n7s (R:=retR _) ?_;unfold n7
 refine Qf ?_
 refine ⟨catchM (w0.heap.size+1+1+1) (w0.heap.size+1+1+1+1),_,rfl,?_⟩
 simp only [World.size_alloc]
 generalize hA0:((((w0.alloc (Obj.cells (mapCells m rv).toArray 24)).alloc (Obj.cells (defCells d dv).toArray 27)).alloc (Obj.cells (defCells e ev).toArray 27)).alloc (Obj.cells #[.int .i64 0,.int .i64 0,.int .i64 0] 34)).alloc (Obj.cells #[.bool false] 4)=A0
 have ea:Ext w0 A0:=by rw [← hA0];exact ee
 have o1:A0.heap[w0.heap.size]?=some (.cells (mapCells m rv).toArray 24 (0,0)):=by rw [← hA0];exact Qb
 have o2:A0.heap[w0.heap.size+1]?=some (.cells (defCells d dv).toArray 27 (0,0)):=by rw [← hA0];exact Qb
 have o5:A0.heap[w0.heap.size+1+1]?=some (.cells (defCells e ev).toArray 27 (0,0)):=by rw [← hA0];exact Qb
 have o3:A0.heap[w0.heap.size+1+1+1]?=some (.cells #[.int .i64 0,.int .i64 0,.int .i64 0] 34 (0,0)):=by rw [← hA0];exact Qb
 have o4:A0.heap[w0.heap.size+1+1+1+1]?=some (.cells #[.bool false] 4 (0,0)):=by rw [← hA0];exact Qb
 have hsz:A0.heap.size=w0.heap.size+1+1+1+1+1:=by rw [← hA0];simp only [World.size_alloc]
 clear hA0
 have hC:CkM A0 (A0.alloc (Obj.cells #[.string m.name,rv,.string d.name,dv,.string d.start,.string e.name,ev,.string e.start,.int .i64 (-1),.int .i64 (-1)] 81)) A0.heap.size m d e (-1) (-1):=⟨(Ext.refl _).alloc _,Nat.le_refl _,rv,dv,ev,heap_new _ _ _,hR.ext ea,hD.ext ea,hE.ext ea⟩
 generalize (A0.alloc (Obj.cells #[.string m.name,rv,.string d.name,dv,.string d.start,.string e.name,ev,.string e.start,.int .i64 (-1),.int .i64 (-1)] 81))=W at hC ⊢
 generalize hcb:w0.heap.size+1+1+1+1+1=cb at hsz ⊢
 rw [hsz] at hC
 generalize hp4:w0.heap.size+1+1+1+1=p4 at o4 hcb ⊢
 generalize hp3:w0.heap.size+1+1+1=p3 at o3 hp4 ⊢
 generalize hp5:w0.heap.size+1+1=p5 at o5 hp3 ⊢
 generalize hp2:w0.heap.size+1=p2 at o2 hp5 ⊢
 generalize hp1:w0.heap.size=p1 at o1 hp2 ⊢
 refine Qp (cells_of_heap (hC.ext.obj o2)).1 ?_
 have l3:w0.heap.size≤p3:=Qx
 have l4:w0.heap.size≤p4:=Qx
 generalize hO:mapC m d e=O
 have hEnv:MapEnv w0 A0 p1 p2 p5 p3 p4 m d e rv dv ev:=⟨ea,o1,o2,o5,o3,o4,l3,l4,hR.ext ea⟩
 have pan:∀ w' a f c,Ext A0 w'→O=some (a,f,c)→outQ Pg [catchM p3 p4] (resM p3 p4) (retR (mapK w0 O)) [mEntry a f c] w':=fun w' a f c x h=>hEnv.pan x h
 unfold mapC at hO
 refine zcr (Valid_all _ d ⟨_,rfl,hD.ext (ea.trans hC.ext)⟩) fun w1 e1=>?_
 have hC1:=hC.go e1
 have rest:∀ (w2:World) (bb:Bool),CkM A0 w2 cb m d e (-1) (-1)→bb=(!flawedB d&&!flawedB e)→callK Pg 33 #[.pointer (some ⟨cb,0,none⟩),.bool bb,.int .i64 0] (outQ Pg [catchM p3 p4] (resM p3 p4) (retR (mapK w0 O))) w2 fun _ w3=>n7c11 (.pointer (some ⟨p1,0,none⟩)) (.pointer (some ⟨p2,0,none⟩)) (.pointer (some ⟨p5,0,none⟩)) (.pointer (some ⟨p3,0,none⟩)) (.pointer (some ⟨p4,0,none⟩)) (.pointer (some ⟨cb,0,none⟩)) [catchM p3 p4] (retR (mapK w0 O)) w3:=by
  rintro w2 bb hC2 hbb
  refine callK_m (must_m hC2 _ 0) (fun w3 e3 hb=>?_) (fun w3 e3 hb=>?_)
  case refine_2 =>
   rw [← hbb,if_pos hb] at hO
   exact pan _ _ _ _ (hC2.ext.trans e3) hO.symm
  have hvv:(!flawedB d&&!flawedB e)=true:=hbb.symm.trans hb
  rw [hvv,if_neg (by simp)] at hO
  have hvd:(!flawedB d)=true:=by cases h:(!flawedB d)<;>simp_all
  have hve:(!flawedB e)=true:=by cases h:(!flawedB e)<;>simp_all
  have hC3:=hC2.go e3
  have x3:=cells_of_heap (hC3.ext.obj o1)
  unfold n7c11
  refine Qp x3.1 ?_
  refine zcr (Name_ret _ m.name) fun w4 e4=>?_
  have hC4:=hC3.go e4
  refine callK_m (must_m hC4 _ 1) (fun w5 e5 hb=>?_) (fun w5 e5 hb=>?_)
  case refine_2 =>
   rw [if_pos hb] at hO
   exact pan _ _ _ _ (hC4.ext.trans e5) hO.symm
  rw [hb,if_neg (by simp)] at hO
  have hC5:=hC4.go e5
  have x5:=cells_of_heap (hC5.ext.obj o1)
  obtain ⟨A,c,hrv,hlc,hcm,hlm,hel⟩:=SliceOf.open hR
  rw [hrv] at x5
  have last:∀ b,b=decide (1≤m.rules.length∧m.rules.length≤60)→callK Pg 33 #[.pointer (some ⟨cb,0,none⟩),.bool b,.int .i64 2] (outQ Pg [catchM p3 p4] (resM p3 p4) (retR (mapK w0 O))) w5 fun _ w=>n7c8 (.pointer (some ⟨p1,0,none⟩)) (.pointer (some ⟨p2,0,none⟩)) (.pointer (some ⟨p5,0,none⟩)) (.pointer (some ⟨p3,0,none⟩)) (.pointer (some ⟨p4,0,none⟩)) (.pointer (some ⟨cb,0,none⟩)) [catchM p3 p4] (retR (mapK w0 O)) w:=by
   rintro b rfl
   refine callK_m (must_m hC5 _ 2) (fun w6 e6 hb=>?_) (fun w6 e6 hb=>?_)
   · rw [if_neg (by simpa using hb)] at hO
     exact rules_m hEnv (hC5.go e6) hin (valid_refs hvd) (valid_refs hve) hO
   · rw [if_pos (by simpa using hb)] at hO
     exact pan _ _ _ _ (hC5.ext.trans e6) hO.symm
  unfold n7c10
  by_cases h1:1≤m.rules.length
  · have d1:decide ((m.rules.length:Int)≥1)=true:=by simp;omega
    by_cases h2:m.rules.length≤60
    · have d2:decide ((m.rules.length:Int)≤60)=true:=by simp;omega
      simp (disch:=try exact DI) only [↓PR,QR,simprocAttr,x5.1,d1,d2,↓n7c1,↓n7c2,↓n7c3,↓n7c4,↓n7c5,↓n7c6,↓n7c7,↓n7c8,↓n7c9,↓n7c10,↓n7c11,↓n7c12,↓n7c13]
      exact last _ (by simp [h1,h2])
    · have d2:decide ((m.rules.length:Int)≤60)=false:=by simp;omega
      simp (disch:=try exact DI) only [↓PR,QR,simprocAttr,x5.1,d1,d2,↓n7c1,↓n7c2,↓n7c3,↓n7c4,↓n7c5,↓n7c6,↓n7c7,↓n7c8,↓n7c9,↓n7c10,↓n7c11,↓n7c12,↓n7c13]
      exact last _ (by simp [h2])
  · have d1:decide ((m.rules.length:Int)≥1)=false:=by simp;omega
    simp (disch:=try exact DI) only [↓PR,QR,simprocAttr,x5.1,d1,↓n7c1,↓n7c2,↓n7c3,↓n7c4,↓n7c5,↓n7c6,↓n7c7,↓n7c8,↓n7c9,↓n7c10,↓n7c11,↓n7c12,↓n7c13]
    exact last _ (by simp [h1])
 obtain ⟨vb,hv⟩:∃ vb,(!flawedB d)=vb:=⟨_,rfl⟩
 rw [hv] at rest ⊢
 cases vb with
 | false =>
  rw [Bool.false_and] at rest
  unfold n7c13
  rw [joinK_eq]
  simp (disch:=try exact DI) only [↓PR,QR,simprocAttr,↓n7c1,↓n7c2,↓n7c3,↓n7c4,↓n7c5,↓n7c6,↓n7c7,↓n7c8,↓n7c9,↓n7c10,↓n7c11,↓n7c12,↓n7c13]
  exact rest w1 _ hC1 rfl
 | true =>
  rw [Bool.true_and] at rest
  unfold n7c13
  simp (disch:=try exact DI) only [↓PR,QR,simprocAttr,↓n7c1,↓n7c2,↓n7c3,↓n7c4,↓n7c5,↓n7c6,↓n7c7,↓n7c8,↓n7c9,↓n7c10,↓n7c11,↓n7c12,↓n7c13,(cells_of_heap (hC1.ext.obj o5)).1]
  refine zcr (Valid_all _ e ⟨_,rfl,hE.ext (ea.trans hC1.ext)⟩) fun w2 e2=>?_
  exact rest w2 _ (hC1.go e2) rfl
def n19c1 (t13:Value) (R:RT) (w:World):Prop :=
 opV Pg (Instr.extract t13 0) (panK R) w fun t14 w =>
 opV Pg (Instr.extract t13 1) (panK R) w fun t15 w =>
 opV Pg (Instr.alloc 34 true (.tuple #[])) (panK R) w fun t7 w =>
 opU Pg (Instr.storeAt 34 t7 t14) (panK R) w fun w =>
 opV Pg (Op.unary .not t15) (panK R) w fun t17 w =>
 R (.returned t17) w
def n19 (t0 t1 t2:Value) (R:RT) (w:World):Prop :=
 opV Pg (Instr.box 24 t0) (panK R) w fun t3 w =>
 opV Pg (Instr.box 27 t1) (panK R) w fun t4 w =>
 opV Pg (Instr.box 27 t2) (panK R) w fun t5 w =>
 L0 24 t3 R w fun t10 w =>
 L0 27 t4 R w fun t11 w =>
 L0 27 t5 R w fun t12 w =>
 C0 14 #[t10,t11,t12] R w fun t13 w =>
 n19c1 t13 R w
theorem n19s {t0 t1 t2:Value} {R:RT} {w:World} (h:n19 t0 t1 t2 R w):Calls Pg 16 #[t0,t1,t2] w R:=by
 refine yD Tryz.func16 ?_
 refine zs<|zr<|yv h fun _ w h=>yv h fun _ w h=>yv h fun _ w h=>zm<|zn<|zk<|zs<|zr<|yv h fun _ w h=>yv h fun _ w h=>yv h fun _ w h=>yc h c14 fun _ w h=>zm ?_
 refine yv h fun _ w h=>yv h fun _ w h=>yv h fun _ w h=>yu h fun w h=>zm<|zn<|zk<|zs<|zr<|zm<|yv h fun _ w h=>zm<|zn<|zk<|sim_ret ?_
 exact body_ret1 rfl rfl h
theorem mValid_ret (w0:World) (v1 v2 v3:Value) (m:MapD) (d e:DefD) (hm:MapVal w0 v1 m) (hd:DefVal w0 v2 d) (he:DefVal w0 v3 e) (hin:∀ r∈m.rules,∀ x∈r.fields,inF x=true):Ret Pg 16 #[v1,v2,v3] w0 fun r w'=>r = .bool (mapC m d e).isNone∧Ext w0 w':=by
 obtain ⟨rv,rfl,hR⟩:=hm
 obtain ⟨dv,rfl,hD⟩:=hd
 obtain ⟨ev,rfl,hE⟩:=he
 have t1:=SliceOf.oneCell hR
 have t2:=SliceOf.oneCell hD
 have t3:=SliceOf.oneCell hE
 refine n19s (R:=retR _) ?_;unfold n19
 refine Qf ?_
 generalize hA0:(((w0.alloc (Obj.cells (mapCells m rv).toArray 24)).alloc (Obj.cells (defCells d dv).toArray 27)).alloc (Obj.cells (defCells e ev).toArray 27))=A0
 have ea:Ext w0 A0:=by rw [← hA0];exact ee
 clear hA0
 refine zcr (mCheck_ret A0 _ _ _ m d e ⟨_,rfl,hR.ext ea⟩ ⟨_,rfl,hD.ext ea⟩ ⟨_,rfl,hE.ext ea⟩ hin) fun w1 e1=>?_
 unfold n19c1 mapV
 refine Qf ?_
 exact ⟨by cases mapC m d e<;>rfl,(ea.trans e1).alloc _⟩
def numV (r:FrD) (n:Int):Option Int:=if r.kind=1 then some n else if r.kind=2 then (if addOk r.add=true then some (n+r.add) else none) else if r.kind=3 then some r.value else if r.kind=5 then (r.table.find? fun x=>decide (x.low≤n)&&decide (n≤x.high)).map (·.to) else none
def sureN:Option Int→Option Int
 | some v=>if numOk v=true then some v else none
 | none=>none
def numM (r:FrD) (n:Int):Option Int:=if numOk n=false then none else sureN (numV r n)
def numU (o:Option Int):Value := .tuple #[.int .i64 (o.getD 0),.bool o.isSome]
theorem NumberS1_ret (w:World) (x:RowD) (q:Nat) (n:Int) (hq:w.heap[q]?=some (.cells #[.int .i64 n] 3 (0,0))):Ret Pg 44 #[.agg (rowCells x).toArray,.pointer (some ⟨q,0,none⟩)] w fun r w'=>r = .bool (decide (x.low≤n)&&decide (n≤x.high))∧Ext w w':=by
 have lq:=(Qk hq).1
 have hc:=(cells_of_heap hq).1
 refine n10s (R:=retR _) ?_;unfold n10
 by_cases h1:x.low≤n
 · have d1:decide (n≥x.low)=true:=by simpa using h1
   by_cases h2:n≤x.high
   · have d2:decide (n≤x.high)=true:=by simpa using h2
     refine QQ hc d1 d2 ?_
     exact ⟨by simp [h1],ee⟩
   · have d2:decide (n≤x.high)=false:=by simpa using h2
     refine QQ hc d1 d2 ?_
     exact ⟨by simp,ee⟩
 · have d1:decide (n≥x.low)=false:=by simpa using h1
   refine QJ hc d1 ?_
   exact ⟨by simp [h1],ee⟩
theorem num_range {n:Int} (h:numOk n=true):0≤n∧n < 34359738368:=by
 unfold numOk at h
 simpa only [Bool.and_eq_true,decide_eq_true_eq] using h
theorem mNumber_ret (w0:World) (v:Value) (r:FrD) (n:Int) (hr:FrVal w0 v r) (hin:inF r=true):Ret Pg 18 #[v,.int .i64 n] w0 fun u w'=>u=numU (numM r n)∧Ext w0 w':=by
 obtain ⟨bv,tv,rfl,hB,hT,b1,b2⟩:=hr.op
 refine n9s (R:=retR _) ?_;unfold n9
 rw [op_boxA]
 have q2:=heap_new w0 (frCells r bv tv).toArray 43
 have e2:Ext w0 (w0.alloc (.cells (frCells r bv tv).toArray 43)):=(Ext.refl w0).alloc _
 have s2:(w0.alloc (.cells (frCells r bv tv).toArray 43)).heap.size=w0.heap.size+1:=World.size_alloc ..
 generalize (w0.alloc (.cells (frCells r bv tv).toArray 43))=w2 at q2 e2 s2 ⊢
 generalize hp2:w0.heap.size=p2 at q2 ⊢
 refine Qf ?_
 have q3:=heap_new w2 #[.int .i64 n] 3
 have e3:Ext w2 (w2.alloc (.cells #[.int .i64 n] 3)):=(Ext.refl w2).alloc _
 generalize (w2.alloc (.cells #[.int .i64 n] 3))=w3 at q3 e3 ⊢
 have l3:w0.heap.size≤w2.heap.size:=e2.size
 have n23:p2≠w2.heap.size:=Qx
 generalize w2.heap.size=p3 at q3 l3 n23 ⊢
 replace q2:=e3.obj q2
 have E3:=e2.trans e3
 refine callK_ret (allowed_ret w3 n) ?_
 rintro _ w' ⟨rfl,hw⟩
 rw [hw]
 clear hw
 have c2:=(cells_of_heap q2).1
 have c3:=cells_of_heap q3
 cases hn:numOk n with
 | false =>
  refine Qf ?_
  exact ⟨by unfold numM;rw [hn];rfl,E3⟩
 | true =>
 have hM:numM r n=sureN (numV r n):=by unfold numM;rw [hn];rfl
 have rng:=num_range hn
 have none_:numV r n=none→∀ w',Ext w0 w'→(Value.tuple #[.int .i64 0,.bool false]=numU (numM r n)∧Ext w0 w'):=fun h w' e=>⟨by rw [hM,h];rfl,e⟩
 have tail:∀ (w1:World) (u:Int),Ext w0 w1→w1.heap[p3]?=some (.cells #[.int .i64 u] 3 (0,0))→numV r n=some u→callK Pg 42 #[.int .i64 u] (panK (retR fun u w'=>u=numU (numM r n)∧Ext w0 w')) w1 fun t47 w=>n9c1 (.pointer (some ⟨p3,0,none⟩)) t47 (retR fun u w'=>u=numU (numM r n)∧Ext w0 w') w:=by
  intro w1 u e1 hq hu
  refine callK_ret (allowed_ret w1 u) ?_
  rintro _ w' ⟨rfl,hw⟩
  rw [hw]
  unfold n9c1
  cases hv:numOk u with
  | true =>
   refine Qp (cells_of_heap hq).1 ?_
   exact ⟨by rw [hM,hu];simp only [sureN,hv];rfl,e1⟩
  | false =>
   refine Qf ?_
   exact ⟨by rw [hM,hu];simp only [sureN,hv];rfl,e1⟩
 have put:∀ (w1:World) (a:Value),Ext w0 w1→w1.heap[p3]?=some (.cells #[.int .i64 n] 3 (0,0))→Ext w0 (w1.setCell ⟨p3,0,none⟩ a)∧(w1.setCell ⟨p3,0,none⟩ a).heap[p3]?=some (.cells #[a] 3 (0,0)):=fun w1 a e1 hq=>⟨e1.setCell l3 _,heap_set (o:=0) hq a⟩
 unfold n9c8
 by_cases k1:r.kind=1
 · have hv:numV r n=some n:=by unfold numV;rw [if_pos k1]
   refine QQ c2 c3.1 k1 ?_
   exact tail w3 n E3 q3 hv
 by_cases k2:r.kind=2
 · simp (disch:=try exact DI) only [↓PR,QR,simprocAttr,c2,c3.1,k2,n9c6]
   refine callK_ret (allowed_ret w3 _) ?_
   rintro _ w' ⟨rfl,hw⟩
   rw [hw,add_ok hin]
   clear hw
   cases ha:addOk r.add with
   | false =>
    refine Qf ?_
    exact none_ (by unfold numV;rw [if_neg k1,if_pos k2,ha];rfl) _ E3
   | true =>
    have hv:numV r n=some (n+r.add):=by unfold numV;rw [if_neg k1,if_pos k2,ha];rfl
    have hb : -34359738368 < r.add∧r.add < 34359738368:=by unfold addOk at ha;simpa only [Bool.and_eq_true,decide_eq_true_eq] using ha
    have hw:IntKind.i64.wrap (n+r.add)=n+r.add:=wrap_ok Qx Qx
    obtain ⟨g1,g2⟩:=put w3 (.int .i64 (n+r.add)) E3 q3
    simp (disch:=try exact DI) only [↓PR,QR,simprocAttr,n9c2,c2,c3.1,c3.2,hw]
    exact tail _ _ g1 g2 hv
 have e1:(r.kind == 1)=false:=by simpa using k1
 have e2':(r.kind == 2)=false:=by simpa using k2
 by_cases k3:r.kind=3
 · have hv:numV r n=some r.value:=by unfold numV;rw [if_neg k1,if_neg k2,if_pos k3]
   obtain ⟨g1,g2⟩:=put w3 (.int .i64 r.value) E3 q3
   simp (disch:=try exact DI) only [↓PR,QR,simprocAttr,c2,c3.1,c3.2,k3,n9c7,n9c5]
   exact tail _ _ g1 g2 hv
 have e3':(r.kind == 3)=false:=by simpa using k3
 by_cases k5:r.kind=5
 · have hv:numV r n=(r.table.find? fun x=>decide (x.low≤n)&&decide (n≤x.high)).map (·.to):=by unfold numV;rw [if_neg k1,if_neg k2,if_neg k3,if_pos k5]
   simp (disch:=try exact DI) only [↓PR,QR,simprocAttr,c2,c3.1,k5,n9c7,n9c4]
   refine zcr (IndexFunc_Row_ret w3 _ r.table _ _ (fun x=>decide (x.low≤n)&&decide (n≤x.high)) (hT.ext E3) c44 fun w' v y _ e' hv=>by subst hv;exact NumberS1_ret w' y _ n (e'.obj q3)) fun w4 e4=>?_
   have E4:=E3.trans e4
   rcases seek (fun x:RowD=>decide (x.low≤n)&&decide (n≤x.high)) r.table with ⟨h1,_,_,_,h5⟩ | ⟨i,x,hxi,h1,_,_,_,h5⟩
   · rw [h5]
     refine Qf ?_
     exact none_ (by rw [hv,h1];rfl) _ E4
   · rw [h5]
     have d0:decide ((i:Int) < 0)=false:=by simp
     obtain ⟨bt,ot,ct,rfl,_,_,_,hil,helr⟩:=open1 hT hxi
     obtain ⟨cs,_,hA,rfl⟩:=helr i x hxi
     obtain ⟨g1,g2⟩:=put w4 (.int .i64 x.to) E4 (e4.obj q3)
     simp (disch:=try exact DI) only [↓PR,QR,simprocAttr,d0,n9c3,(cells_of_heap (e4.obj q2)).1,(cells_of_heap (e4.obj q3)).1,(cells_of_heap (e4.obj q3)).2,hA.c3 E4]
     exact tail _ _ g1 g2 (by rw [hv,h1];rfl)
 · have e5:(r.kind == 5)=false:=by simpa using k5
   simp (disch:=try exact DI) only [↓PR,QR,simprocAttr,c2,c3.1,e1,e2',e3',e5,n9c7]
   exact none_ (by unfold numV;rw [if_neg k1,if_neg k2,if_neg k3,if_neg k5]) _ E3
def n136 (t0 t1:Value) (R:RT) (w:World):Prop :=
 opV Pg (Builtin.len_ #[9] 3 #[t1]) (panK R) w fun t8 w =>
 C0 85 #[t0,t1,t8,(.int .i64 (-1))] R w fun t9 w =>
 R (.returned t9) w
theorem n136s {t0 t1:Value} {R:RT} {w:World} (h:n136 t0 t1 R w):Calls Pg 48 #[t0,t1] w R:=by
 refine yD Tryz.func48 ?_
 refine zs<|zr<|zm<|zn<|zk<|zs<|zr<|zm<|zm<|zm<|yx h fun _ w h=>yc h c85 fun _ w h=>zm<|zn<|zk ?_
 exact sim_ret<|body_ret1 rfl rfl h
structure EnvM (w:World):Prop where
 env:EnvOK w
 tz:w.cell? ⟨7,15,none⟩=some (.int .u8 4)
theorem EnvM.ext {w w':World} (h:EnvM w) (e:Ext w w'):EnvM w':=⟨h.env.ext e,e.cell h.tz⟩
theorem take_snoc' {α:Type} {l:List α} {k:Nat} {x:α} (h:l[k]?=some x):l.take (k+1)=l.take k++[x]:=by
 rw [List.take_add_one,h];rfl
structure PsD where
 name:ByteArray
 done:List MrD
 cur:Option MrD
theorem mkB_list (l:List UInt8):(mkB l).data.toList=l:=by unfold mkB;exact toList_mk l
def afterL (c:UInt8):List (List UInt8)→List (List UInt8)
 | []=>[]
 | [x]=>[x]
 | x::y::r=>(x++[c])::afterL c (y::r)
theorem splitK_ne (sep:List UInt8) (sv k:Nat) (s:List UInt8):Go.Lib.splitK sep sv k s≠[]:=by
 cases k with
 | zero=>simp [Go.Lib.splitK]
 | succ k=>unfold Go.Lib.splitK;split<;>simp
theorem afterL_cons (c:UInt8) (x:List UInt8) {l:List (List UInt8)} (h:l≠[]):afterL c (x::l)=(x++[c])::afterL c l:=by
 cases l with
 | nil=>exact absurd rfl h
 | cons y r=>rfl
theorem afterL_one {c:UInt8} {L:List (List UInt8)} {x:List UInt8} (h:afterL c L=[x]) (hL:L≠[]):L=[x]:=by
 cases L with
 | nil=>exact absurd rfl hL
 | cons a l =>
  cases l with
  | nil=>exact h
  | cons b r =>
   cases r<;>simp [afterL] at h
theorem splitK_after (c:UInt8):∀ s:List UInt8,Go.Lib.splitK [c] 1 (Go.Lib.count s [c]) s=afterL c (cutL c s)
 | []=>by rw [Go.Lib.count_one];rfl
 | b::l=>by
  have ih:=splitK_after c l
  by_cases h:b=c
  · subst h
    rw [Go.Lib.count_cons_eq,Nat.add_comm,Go.Lib.splitK,index_eq,if_neg Qj,cutL_same,afterL_cons _ _ (cutL_ne _ _),← ih]
    rfl
  · rw [Go.Lib.count_cons_ne b c l h]
    cases hk:Go.Lib.count l [c] with
    | zero =>
     rw [hk] at ih
     have h1:=afterL_one ih.symm (cutL_ne _ _)
     rw [cutL_other h h1]
     rfl
    | succ k =>
     rw [hk] at ih
     have hge:=Go.Lib.index_ge l [c]
     have hm:Go.Lib.index l [c] ≠ -1:=fun e=>by rw [Go.Lib.count_miss e] at hk;cases hk
     obtain ⟨i,hi⟩:∃ i:Nat,Go.Lib.index l [c]=i:=⟨(Go.Lib.index l [c]).toNat,by omega⟩
     have n1:¬ (((i:Int) == -1)=true):=fun e=>by have:=beq_iff_eq.1 e;omega
     have n2:¬ ((((i:Int)+1) == -1)=true):=fun e=>by have:=beq_iff_eq.1 e;omega
     have t2:((i:Int)+1).toNat=i+1:=Qx
     rw [Go.Lib.splitK,hi,if_neg n1] at ih
     rw [Go.Lib.splitK,index_ne l h,hi,if_neg n1,if_neg n2,t2]
     cases hL:cutL c l with
     | nil=>exact absurd hL (cutL_ne _ _)
     | cons x r =>
      cases r with
      | nil =>
       rw [hL] at ih
       injection ih with _ h2
       exact absurd h2 (splitK_ne _ _ _ _)
      | cons y r =>
       rw [hL] at ih
       rw [cutL_other h hL]
       injection ih with h1 h2
       show _=((b::x)++[c])::afterL c (y::r)
       rw [← h2,List.cons_append,← h1]
       simp only [Int.toNat_natCast,List.length_singleton,List.take_succ_cons,List.drop_succ_cons]
theorem split_after (c:UInt8) (s:ByteArray):Go.Lib.splitB ⟨#[c]⟩ 1 (Go.Lib.countB s ⟨#[c]⟩) s=(afterL c (cutL c s.data.toList)).map mkB:=by
 have h:=Go.Lib.splitB_data ⟨#[c]⟩ 1 (Go.Lib.countB s ⟨#[c]⟩) s
 have hs:Go.Lib.splitK [c] 1 (Go.Lib.countB s ⟨#[c]⟩) s.data.toList=afterL c (cutL c s.data.toList):=splitK_after c s.data.toList
 have h:(Go.Lib.splitB ⟨#[c]⟩ 1 (Go.Lib.countB s ⟨#[c]⟩) s).map (·.data.toList)=afterL c (cutL c s.data.toList):=h.trans hs
 rw [← h,List.map_map]
 have:(mkB ∘ fun x:ByteArray=>x.data.toList)=id:=by funext x;rfl
 rw [this,List.map_id]
theorem afterL_len (c:UInt8):∀ L:List (List UInt8),(afterL c L).length=L.length
 | []=>rfl
 | [_]=>rfl
 | x::y::r=>by
  have:=afterL_len c (y::r)
  show (afterL c (y::r)).length+1=_
  rw [this]
  rfl
def n36c1 (t28 t33 t37:Value) (R:RT) (w:World):Prop :=
 joinK (fun (t38:Value) (w:World) =>
 pickK t28 t38 (.bool false) fun t39 =>
 R (.returned t39) w) fun K8 =>
 guardP t28 true (
 pickK t33 (.bool true) t37 fun t38 =>
 K8 t38 w) (
 K8 undef w)
def n36c2 (t1 t28 t33:Value) (R:RT) (w:World):Prop :=
 joinK (fun (t37:Value) (w:World) =>
 n36c1 t28 t33 t37 R w) fun K7 =>
 guardP t33 false (
 F0 43 t1 2 R w fun t34 w =>
 L0 9 t34 R w fun t35 w =>
 opV Pg (Instr.buildSlice 94 1 #[(0,t35)]) (panK R) w fun t36 w =>
 C0 52 #[t36] R w fun t37 w =>
 K7 t37 w) (
 K7 undef w)
def n36c3 (t1 t3 t23 t27:Value) (R:RT) (w:World):Prop :=
 pickK t23 t27 (.bool false) fun t28 =>
 joinK (fun (t33:Value) (w:World) =>
 n36c2 t1 t28 t33 R w) fun K6 =>
 guardP t28 true (
 F0 105 t3 0 R w fun t30 w =>
 L0 4 t30 R w fun t31 w =>
 opV Pg (Op.unary .not t31) (panK R) w fun t32 w =>
 K6 t32 w) (
 K6 undef w)
def n36c4 (t1 t3 t17 t22:Value) (R:RT) (w:World):Prop :=
 pickK t17 t22 (.bool false) fun t23 =>
 joinK (fun (t27:Value) (w:World) =>
 n36c3 t1 t3 t23 t27 R w) fun K5 =>
 guardP t23 true (
 F0 43 t1 0 R w fun t25 w =>
 L0 9 t25 R w fun t26 w =>
 opV Pg (binS .neq 9 true t26 (.string { data := #[101,110,100] })) (panK R) w fun t27 w =>
 K5 t27 w) (
 K5 undef w)
def n36c5 (t1 t3 t4 t16:Value) (R:RT) (w:World):Prop :=
 pickK t4 t16 (.bool false) fun t17 =>
 joinK (fun (t22:Value) (w:World) =>
 n36c4 t1 t3 t17 t22 R w) fun K4 =>
 guardP t17 true (
 F0 43 t1 0 R w fun t19 w =>
 L0 9 t19 R w fun t20 w =>
 opV Pg (Instr.buildSlice 94 1 #[(0,t20)]) (panK R) w fun t21 w =>
 C0 52 #[t21] R w fun t22 w =>
 K4 t22 w) (
 K4 undef w)
def n36c6 (t1 t3 t4:Value) (R:RT) (w:World):Prop :=
 joinK (fun (t16:Value) (w:World) =>
 n36c5 t1 t3 t4 t16 R w) fun K3 =>
 guardP t4 true (
 L0 43 t1 R w fun t14 w =>
 L0 105 t3 R w fun t15 w =>
 C0 97 #[t14,t15] R w fun t16 w =>
 K3 t16 w) (
 K3 undef w)
def n36c7 (t6 t8:Value) (C9:World→Prop) (K2:KW) (R:RT) (w:World):Prop :=
 qV Pg C9 (Instr.lookup 106 t6 t8 true) fun t9 =>
 qV Pg C9 (Instr.extract t9 0) fun t10 =>
 qV Pg C9 (Instr.extract t9 1) fun t11 =>
 opV Pg (Instr.alloc 105 true (.tuple #[])) (panK R) w fun t3 w =>
 C9 w∧(
 opU Pg (Instr.storeAt 105 t3 t10) (panK R) w fun w =>
 C9 w∧(
 K2 t3 t11 w))
def n36c8 (t3 t6 t8:Value) (C10:World→Prop) (K2:KW) (R:RT) (w:World):Prop :=
 qV Pg C10 (Instr.lookup 106 t6 t8 true) fun t9 =>
 qV Pg C10 (Instr.extract t9 0) fun t10 =>
 qV Pg C10 (Instr.extract t9 1) fun t11 =>
 opU Pg (Instr.storeAt 105 t3 t10) (panK R) w fun w =>
 C10 w∧(
 K2 t3 t11 w)
def n36c9 (t1:Value) (C1:World→Prop) (R:RT) (w:World):Prop :=
 qV Pg C1 (Instr.fieldAt 43 t1 1) fun t7 =>
 qV Pg C1 (Instr.loadAt 39 t7) fun t8 =>
 joinK (fun (t3:Value) (t4:Value) (w:World) =>
 n36c6 t1 t3 t4 R w) fun K2 =>
 (
 C0 57 #[] R w fun t6 w =>
 narrowK C1 w fun C9 w =>
 n36c7 t6 t8 C9 K2 R w)∧(
 opV Pg (Instr.alloc 105 true (.tuple #[])) (panK R) w fun t3 w =>
 C1 w∧(
 C0 57 #[] R w fun t6 w =>
 narrowK C1 w fun C10 w =>
 n36c8 t3 t6 t8 C10 K2 R w))
def n36 (t0:Value) (R:RT) (w:World):Prop :=
 opV Pg (Instr.box 43 t0) (panK R) w fun t1 w =>
 drawK w fun C1 w =>
 n36c9 t1 C1 R w
theorem n36s {t0:Value} {R:RT} {w:World} (h:n36 t0 R w):Calls Pg 58 #[t0] w R:=by
 refine yD Tryz.func58 ?_
 refine zs<|zr<|yv h fun _ w h=>zm<|zn<|zk<|zs<|yh [3,4,5,6,7,8,9,10,11] h fun C hC h=>ye 1 hC h fun _ h=>?_
 refine ye 2 hC h fun _ h=>?_
 refine joinK_elim h (fun K2 hK h=>?_)
 refine sim_dmeet [3,4,5,6,9,10,11] (fun ρ w=>K2 (ρ 3) (ρ 4) w) (fun T hT=>?_) (fun σ w h=>?_)
 · obtain ⟨h0,h1⟩:=h
   refine sim_dloud2 0 7 rfl rfl Qq (fun _ _=>rfl) (fun _ _=>rfl) ?_ ?_
   · have h:=h0
     refine yc h c57 fun _ w h=>zn ?_
     obtain ⟨C9,hs,hC,h⟩:=h
     refine ⟨C9,hs,hC,?_⟩
     refine ye 3 hC h fun _ h=>?_
     refine yw 4 hC ?_
     refine ye 5 hC h fun _ h=>?_
     refine ye 6 hC h fun _ h=>?_
     refine yo 7 ?_
     refine yv h fun _ w h=>zn ?_
     obtain ⟨hC,h⟩:=h
     refine ⟨hC,?_⟩
     refine yo 8 ?_
     refine yu h fun w h=>zn ?_
     obtain ⟨hC,h⟩:=h
     refine ⟨hC,?_⟩
     refine yw 9 hC ?_
     refine yz ?_
     exact zt hT h
   have h:=h1
   refine yv h fun _ w h=>zn ?_
   obtain ⟨hC,h⟩:=h
   refine ⟨_,fun _ h=>h,hC,?_⟩
   refine yr 0 ?_
   refine yc h c57 fun _ w h=>zn ?_
   obtain ⟨C10,hs,hC,h⟩:=h
   refine ⟨C10,hs,hC,?_⟩
   refine ye 3 hC h fun _ h=>?_
   refine yw 4 hC ?_
   refine ye 5 hC h fun _ h=>?_
   refine ye 6 hC h fun _ h=>?_
   refine yo 8 ?_
   refine yu h fun w h=>zn ?_
   obtain ⟨hC,h⟩:=h
   refine ⟨hC,?_⟩
   refine yw 9 hC ?_
   refine yz ?_
   exact zt hT h
 subst hK
 refine zk<|zs<|sim_regionG<|yG 2<|zm<|zm<|zn<|yg1 3 1 true [14,15,16] 16 h (fun _ T hT h=>?_) fun σ w h=>?_
 · refine yv h fun _ w h=>yv h fun _ w h=>yc h c97 fun _ w h=>zn ?_
   exact zt hT h
 refine yG 2<|yp h fun _ h=>zm<|zn<|yg1 4 6 true [19,20,21,22] 22 h (fun _ T hT h=>?_) fun σ w h=>?_
 · refine yv h fun _ w h=>yv h fun _ w h=>yS h fun _ w h=>yc h c52 fun _ w h=>zn ?_
   exact zt hT h
 refine yG 2<|yp h fun _ h=>zm<|zn<|yg1 3 12 true [25,26,27] 27 h (fun _ T hT h=>?_) fun σ w h=>?_
 · refine yv h fun _ w h=>yv h fun _ w h=>yb h fun _ w h=>zn ?_
   exact zt hT h
 refine yG 2<|yp h fun _ h=>zm<|zn<|yg1 4 17 true [30,31,32,33] 33 h (fun _ T hT h=>?_) fun σ w h=>?_
 · refine yv h fun _ w h=>yv h fun _ w h=>yv h fun _ w h=>zm<|zn ?_
   exact zt hT h
 refine yg1 4 21 false [34,35,36,37] 37 h (fun _ T hT h=>?_) fun σ w h=>?_
 · refine yv h fun _ w h=>yv h fun _ w h=>yS h fun _ w h=>yc h c52 fun _ w h=>zn ?_
   exact zt hT h
 refine yg1 1 17 true [38] 38 h (fun _ T hT h=>?_) fun σ w h=>?_
 · refine yp h fun _ h=>zn ?_
   exact zt hT h
 exact yG 2<|yp h fun _ h=>zm<|zn<|sim_end<|zk<|sim_ret<|body_ret1 rfl rfl h
def n37c1 (t1:Value) (C1:World→Prop) (R:RT) (w:World):Prop :=
 qV Pg C1 (Instr.fieldAt 43 t1 0) fun t17 =>
 qV Pg C1 (Instr.loadAt 9 t17) fun t18 =>
 qV Pg C1 (Instr.fieldAt 43 t1 2) fun t19 =>
 qV Pg C1 (Instr.loadAt 9 t19) fun t20 =>
 qV Pg C1 (Instr.fieldAt 43 t1 3) fun t21 =>
 qV Pg C1 (Instr.loadAt 3 t21) fun t22 =>
 C0 101 #[t22] R w fun t23 w =>
 C1 w∧(
 opV Pg (Instr.buildSlice 94 4 #[(0,t18),(1,(.string { data := #[97,100,100] })),(2,t20),(3,t23)]) (panK R) w fun t24 w =>
 C1 w∧(
 R (.returned t24) w))
def n37c2 (t1:Value) (C2:World→Prop) (R:RT) (w:World):Prop :=
 qV Pg C2 (Instr.fieldAt 43 t1 0) fun t27 =>
 qV Pg C2 (Instr.loadAt 9 t27) fun t28 =>
 qV Pg C2 (Instr.fieldAt 43 t1 4) fun t29 =>
 qV Pg C2 (Instr.loadAt 3 t29) fun t30 =>
 C0 101 #[t30] R w fun t31 w =>
 C2 w∧(
 opV Pg (Instr.buildSlice 94 3 #[(0,t28),(1,(.string { data := #[118,97,108,117,101] })),(2,t31)]) (panK R) w fun t32 w =>
 C2 w∧(
 R (.returned t32) w))
def n37c3 (t1:Value) (C3:World→Prop) (R:RT) (w:World):Prop :=
 qV Pg C3 (Instr.fieldAt 43 t1 0) fun t35 =>
 qV Pg C3 (Instr.loadAt 9 t35) fun t36 =>
 qV Pg C3 (Instr.fieldAt 43 t1 5) fun t37 =>
 qV Pg C3 (Instr.loadAt 40 t37) fun t38 =>
 C0 102 #[t38] R w fun t39 w =>
 C3 w∧(
 opV Pg (Instr.buildSlice 94 3 #[(0,t36),(1,(.string { data := #[98,121,116,101,115] })),(2,t39)]) (panK R) w fun t40 w =>
 C3 w∧(
 R (.returned t40) w))
def n37c4 (t3 t61 t74 t77:Value) (C5:World→Prop) (next4:KW) (R:RT) (w:World):Prop :=
 qV Pg C5 (binS .add 9 false t74 t77) fun t78 =>
 opV Pg (Instr.buildSlice 94 1 #[(0,t78)]) (panK R) w fun t79 w =>
 C5 w∧(
 opV Pg (Builtin.append_ #[94,94] 94 #[t3,t79]) (panK R) w fun t80 w =>
 C5 w∧(
 B0 .add 3 true t61 (.int .i64 1) R w fun t81 w =>
 next4 t80 t81 w))
def n37c5 (t3 t61 t69 t72 t76:Value) (C5:World→Prop) (next4:KW) (R:RT) (w:World):Prop :=
 qV Pg C5 (binS .add 9 false t69 t72) fun t73 =>
 qV Pg C5 (binS .add 9 true t73 (.string { data := #[58] })) fun t74 =>
 C0 101 #[t76] R w fun t77 w =>
 C5 w∧(
 n37c4 t3 t61 t74 t77 C5 next4 R w)
def n37c6 (t3 t61 t68 t71 t76:Value) (C5:World→Prop) (next4:KW) (R:RT) (w:World):Prop :=
 qV Pg C5 (binS .add 9 true t68 (.string { data := #[45] })) fun t69 =>
 C0 101 #[t71] R w fun t72 w =>
 C5 w∧(
 n37c5 t3 t61 t69 t72 t76 C5 next4 R w)
def n37c7 (t3 t5 t61:Value) (C5:World→Prop) (next4:KW) (R:RT) (w:World):Prop :=
 qV Pg C5 (Instr.fieldAt 78 t5 0) fun t66 =>
 qV Pg C5 (Instr.loadAt 3 t66) fun t67 =>
 qV Pg C5 (Instr.fieldAt 78 t5 1) fun t70 =>
 qV Pg C5 (Instr.loadAt 3 t70) fun t71 =>
 qV Pg C5 (Instr.fieldAt 78 t5 2) fun t75 =>
 qV Pg C5 (Instr.loadAt 3 t75) fun t76 =>
 C0 101 #[t67] R w fun t68 w =>
 C5 w∧(
 n37c6 t3 t61 t68 t71 t76 C5 next4 R w)
def n37c8 (t3 t59 t61:Value) (next4:KW) (R:RT) (w:World):Prop :=
 X0 41 t59 t61 R w fun t63 w =>
 L0 78 t63 R w fun t64 w =>
 opV Pg (Instr.alloc 78 true (.tuple #[])) (panK R) w fun t5 w =>
 opU Pg (Instr.storeAt 78 t5 t64) (panK R) w fun w =>
 drawK w fun C5 w =>
 n37c7 t3 t5 t61 C5 next4 R w
def n37c9 (t1:Value) (R:RT) (w:World):Prop :=
 F0 43 t1 0 R w fun t50 w =>
 L0 9 t50 R w fun t51 w =>
 opV Pg (Instr.buildSlice 94 2 #[(0,t51),(1,(.string { data := #[102,105,116] }))]) (panK R) w fun t52 w =>
 R (.returned t52) w
def n37c10 (t1:Value) (R:RT) (w:World):Prop :=
 F0 43 t1 0 R w fun t53 w =>
 L0 9 t53 R w fun t54 w =>
 F0 43 t1 2 R w fun t55 w =>
 L0 9 t55 R w fun t56 w =>
 opV Pg (Instr.buildSlice 94 3 #[(0,t54),(1,(.string { data := #[116,97,98,108,101] })),(2,t56)]) (panK R) w fun t57 w =>
 F0 43 t1 6 R w fun t58 w =>
 L0 41 t58 R w fun t59 w =>
 opV Pg (Builtin.len_ #[41] 3 #[t59]) (panK R) w fun t60 w =>
 loop2 (fun t3 t61 w next4 =>
 B0 .lss 3 false t61 t60 R w fun t62 w =>
 condP t62 (
 n37c8 t3 t59 t61 next4 R w) (
 R (.returned t3) w)) t57 (.int .i64 0) w
def n37c11 (t1:Value) (R:RT) (w:World):Prop :=
 F0 43 t1 0 R w fun t43 w =>
 L0 9 t43 R w fun t44 w =>
 F0 43 t1 2 R w fun t45 w =>
 L0 9 t45 R w fun t46 w =>
 opV Pg (Instr.buildSlice 94 3 #[(0,t44),(1,(.string { data := #[110,101,115,116,101,100] })),(2,t46)]) (panK R) w fun t47 w =>
 R (.returned t47) w
def n37c12 (t1 t7:Value) (R:RT) (w:World):Prop :=
 B0 .eql 39 true t7 (.int .i64 6) R w fun t42 w =>
 condP t42 (
 n37c11 t1 R w) (
 B0 .eql 39 true t7 (.int .i64 7) R w fun t49 w =>
 condP t49 (
 n37c9 t1 R w) (
 n37c10 t1 R w))
def n37c13 (t1 t7:Value) (R:RT) (w:World):Prop :=
 B0 .eql 39 true t7 (.int .i64 3) R w fun t26 w =>
 condP t26 (
 drawK w fun C2 w =>
 n37c2 t1 C2 R w) (
 B0 .eql 39 true t7 (.int .i64 4) R w fun t34 w =>
 condP t34 (
 drawK w fun C3 w =>
 n37c3 t1 C3 R w) (
 n37c12 t1 t7 R w))
def n37c14 (t1:Value) (R:RT) (w:World):Prop :=
 F0 43 t1 0 R w fun t10 w =>
 L0 9 t10 R w fun t11 w =>
 F0 43 t1 2 R w fun t12 w =>
 L0 9 t12 R w fun t13 w =>
 opV Pg (Instr.buildSlice 94 3 #[(0,t11),(1,(.string { data := #[99,111,112,121] })),(2,t13)]) (panK R) w fun t14 w =>
 R (.returned t14) w
def n37 (t0:Value) (R:RT) (w:World):Prop :=
 opV Pg (Instr.box 43 t0) (panK R) w fun t1 w =>
 F0 43 t1 1 R w fun t6 w =>
 L0 39 t6 R w fun t7 w =>
 B0 .eql 39 true t7 (.int .i64 1) R w fun t9 w =>
 condP t9 (
 n37c14 t1 R w) (
 B0 .eql 39 true t7 (.int .i64 2) R w fun t16 w =>
 condP t16 (
 drawK w fun C1 w =>
 n37c1 t1 C1 R w) (
 n37c13 t1 t7 R w))
theorem n37s {t0:Value} {R:RT} {w:World} (h:n37 t0 R w):Calls Pg 60 #[t0] w R:=by
 refine yD Tryz.func60 ?_
 refine zs<|zr<|yv h fun _ w h=>zm<|zn<|zk<|zs<|zs<|zr<|yv h fun _ w h=>yv h fun _ w h=>zn<|zk<|sim_block<|zs ?_
 refine zr<|yb h fun _ w h=>zm<|zn<|zk<|yC h (fun h=>zs<|zr<|yv h fun _ w h=>yv h fun _ w h=>yv h fun _ w h=>yv h fun _ w h=>yS h fun _ w h=>zm<|zn<|zk<|sim_ret<|sim_block_ret<|sim_then_ret<|body_ret1 rfl rfl h) fun h=>zs<|zr<|yb h fun _ w h=>zm<|zn<|zk<|yC h (fun h=>?_) fun h=>?_
 · refine zs<|yh [2,17,18,19,20,21,22,23,24] h fun C hC h=>ye 0 hC h fun _ h=>?_
   refine ye 1 hC h fun _ h=>?_
   refine ye 2 hC h fun _ h=>?_
   refine ye 3 hC h fun _ h=>?_
   refine ye 4 hC h fun _ h=>?_
   refine ye 5 hC h fun _ h=>?_
   refine yo 6 ?_
   refine yc h c101 fun _ w h=>zn ?_
   obtain ⟨hC,h⟩:=h
   refine ⟨hC,?_⟩
   refine yo 7 ?_
   refine yS h fun _ w h=>zn ?_
   obtain ⟨hC,h⟩:=h
   refine ⟨hC,?_⟩
   refine yw 8 hC ?_
   exact yz<|zk<|sim_ret<|sim_block_ret<|sim_then_ret<|body_ret1 rfl rfl h
 refine zs<|zr<|yb h fun _ w h=>zm<|zn<|zk<|yC h (fun h=>?_) fun h=>?_
 · refine zs<|yh [2,27,28,29,30,31,32] h fun C hC h=>ye 0 hC h fun _ h=>?_
   refine ye 1 hC h fun _ h=>?_
   refine ye 2 hC h fun _ h=>?_
   refine ye 3 hC h fun _ h=>?_
   refine yo 4 ?_
   refine yc h c101 fun _ w h=>zn ?_
   obtain ⟨hC,h⟩:=h
   refine ⟨hC,?_⟩
   refine yo 5 ?_
   refine yS h fun _ w h=>zn ?_
   obtain ⟨hC,h⟩:=h
   refine ⟨hC,?_⟩
   refine yw 6 hC ?_
   exact yz<|zk<|sim_ret<|sim_block_ret<|sim_then_ret<|body_ret1 rfl rfl h
 refine zs<|zr<|yb h fun _ w h=>zm<|zn<|zk<|yC h (fun h=>?_) fun h=>?_
 · refine zs<|yh [2,35,36,37,38,39,40] h fun C hC h=>ye 0 hC h fun _ h=>?_
   refine ye 1 hC h fun _ h=>?_
   refine ye 2 hC h fun _ h=>?_
   refine ye 3 hC h fun _ h=>?_
   refine yo 4 ?_
   refine yc h c102 fun _ w h=>zn ?_
   obtain ⟨hC,h⟩:=h
   refine ⟨hC,?_⟩
   refine yo 5 ?_
   refine yS h fun _ w h=>zn ?_
   obtain ⟨hC,h⟩:=h
   refine ⟨hC,?_⟩
   refine yw 6 hC ?_
   exact yz<|zk<|sim_ret<|sim_block_ret<|sim_then_ret<|body_ret1 rfl rfl h
 refine zs<|zr<|yb h fun _ w h=>zm<|zn<|zk<|yC h (fun h=>zs<|zr<|yv h fun _ w h=>yv h fun _ w h=>yv h fun _ w h=>yv h fun _ w h=>yS h fun _ w h=>zm<|zn<|zk<|sim_ret<|sim_block_ret<|sim_then_ret<|body_ret1 rfl rfl h) fun h=>zs<|zr<|yb h fun _ w h=>zm<|zn<|zk<|yC h (fun h=>zs<|zr<|yv h fun _ w h=>yv h fun _ w h=>yS h fun _ w h=>zm<|zn<|zk<|sim_ret<|sim_block_ret<|sim_then_ret<|body_ret1 rfl rfl h) fun h=>?_
 refine sim_skip<|sim_block_normal<|zk<|zs<|zr<|yv h fun _ w h=>yv h fun _ w h=>yv h fun _ w h=>yv h fun _ w h=>yS h fun _ w h=>zm<|zn<|zk<|zs<|zs ?_
 refine zr<|yv h fun _ w h=>yv h fun _ w h=>yx h fun _ w h=>zm<|zn<|zk<|sim_block<|yl2 [3,5,61,62,63,64,65,66,67,68,69,70,71,72,73,74,75,76,77,78,79,80,81] 3 61 h fun σ w next h=>zs<|zr<|yb h fun _ w h=>zn<|zk<|zs ?_
 refine yC h (fun h=>?_) fun h=>?_
 · refine sim_skip<|zk<|zs<|sim_block<|zs<|zr<|yv h fun _ w h=>yv h fun _ w h=>yv h fun _ w h=>yu h fun w h=>zn<|zk<|yh [3,65,66,67,68,69,70,71,72,73,74,75,76,77,78,79,80] h fun C hC h=>yw 0 hC ?_
   refine ye 1 hC h fun _ h=>?_
   refine ye 2 hC h fun _ h=>?_
   refine ye 5 hC h fun _ h=>?_
   refine ye 6 hC h fun _ h=>?_
   refine ye 10 hC h fun _ h=>?_
   refine ye 11 hC h fun _ h=>?_
   refine yo 3 ?_
   refine yc h c101 fun _ w h=>zn ?_
   obtain ⟨hC,h⟩:=h
   refine ⟨hC,?_⟩
   refine ye 4 hC h fun _ h=>?_
   refine yo 7 ?_
   refine yc h c101 fun _ w h=>zn ?_
   obtain ⟨hC,h⟩:=h
   refine ⟨hC,?_⟩
   refine ye 8 hC h fun _ h=>?_
   refine ye 9 hC h fun _ h=>?_
   refine yo 12 ?_
   refine yc h c101 fun _ w h=>zn ?_
   obtain ⟨hC,h⟩:=h
   refine ⟨hC,?_⟩
   refine ye 13 hC h fun _ h=>?_
   refine yo 14 ?_
   refine yS h fun _ w h=>zn ?_
   obtain ⟨hC,h⟩:=h
   refine ⟨hC,?_⟩
   refine yo 15 ?_
   refine yx h fun _ w h=>zn ?_
   obtain ⟨hC,h⟩:=h
   refine ⟨hC,?_⟩
   refine yw 16 hC ?_
   exact yz<|sim_block_normal<|zk<|zr<|yb h fun _ w h=>zm<|zn<|zk<|⟨rfl,h⟩
 exact sim_exit<|sim_then_exit<|sim_then_exit<|sim_block_hit<|zk<|zs<|zr<|zm<|zm<|zn<|zk<|sim_ret<|body_ret1 rfl rfl h
theorem namesS1_ret (w:World) (s:ByteArray):Ret Pg 91 #[.string s] w fun r w'=>r = .bool (!nameB s)∧Ext w w':=by
 refine n35s (R:=retR _) ?_;unfold n35
 refine zcr (Name_ret w s) fun w1 e1=>?_
 refine Qf ?_
 exact ⟨by trivial,e1⟩
theorem names_ret (w0:World) (v:Value) (l:List ByteArray) (hs:StrsL w0 v l):Ret Pg 52 #[v] w0 fun r w'=>r = .bool (l.all nameB)∧Ext w0 w':=by
 refine n34s (R:=retR _) ?_;unfold n34
 refine zcr (ContainsFunc_string_ret w0 v l _ _ (fun s=>!nameB s) hs c91 fun w' v y _ e' hv=>by subst hv;exact namesS1_ret w' y) fun w1 e1=>?_
 refine Qf ?_
 refine ⟨?_,e1⟩
 congr 1
 rw [List.all_eq_not_any_not]
theorem own_strs {base:Nat} (w:World) (l:List ByteArray) (hl:l.length≤1000) (hb:base≤w.heap.size):OwnS (w.alloc (.cells (l.map Value.string).toArray 9)) base (.slice (some ⟨w.heap.size,0,none⟩) l.length l.length) l:=by
 have:=(OwnE.new w 9 1 strEnc l (fun _=>rfl) Qx).base hb
 have hf:l.flatMap strEnc=l.map Value.string:=by
  clear this hl
  induction l with
  | nil=>rfl
  | cons x l ih=>rw [List.flatMap_cons,ih];rfl
 rw [hf] at this
 exact this
theorem own_read {w:World} {base:Nat} {v:Value} {l:List ByteArray} (h:OwnS w base v l):StrsL w v l:=h.slice (fun _=>rfl) (fun _ _=>rfl)
theorem names1_ret (w0:World) (s:ByteArray):Ret Pg 52 #[.slice (some ⟨w0.heap.size,0,none⟩) 1 1] (w0.alloc (.cells #[.string s] 9)) fun r w'=>r = .bool (nameB s)∧Ext w0 w':=by
 have h:=own_read (own_strs w0 [s] (by simp) (Nat.le_refl _))
 refine (names_ret _ _ [s] h).mono ?_
 rintro _ w' ⟨rfl,e⟩
 exact ⟨by simp,((Ext.refl w0).alloc _).trans e⟩
theorem names2_ret (w0:World) (s t:ByteArray):Ret Pg 52 #[.slice (some ⟨w0.heap.size,0,none⟩) 2 2] (w0.alloc (.cells #[.string s,.string t] 9)) fun r w'=>r = .bool (nameB s&&nameB t)∧Ext w0 w':=by
 have h:=own_read (own_strs w0 [s,t] (by simp) (Nat.le_refl _))
 refine (names_ret _ _ [s,t] h).mono ?_
 rintro _ w' ⟨rfl,e⟩
 exact ⟨by simp,((Ext.refl w0).alloc _).trans e⟩
theorem qV_mkind {D:World} {m c:Nat} {L:List (Int×Value×Nat)} {k:Value→Prop} (hM:MapB D m kindEnc L c) (s:Int):qV Pg (EC D) (Instr.lookup 106 (.map (some m)) (.int .i64 s) true) k=k (.tuple #[(Sw.look L s).getD (useV ⟨false,false,false,false,false⟩),.bool (Sw.look L s).isSome]):=qV_eqC fun w' e=>run_of_op fun QP k=>op_lookup (enc:=kindEnc) Tryz.underlying106 (KeyOK.int Tryz.underlying39) ty105 (hM.ext e) s
theorem printable_ret (w0:World) (v:Value) (r:FrD) (hr:FrVal w0 v r):Ret Pg 58 #[v] w0 fun q w'=>q = .bool (printF r)∧Ext w0 w':=by
 obtain ⟨bv,tv,rfl,hB,hT,b1,b2⟩:=hr.op
 refine n36s (R:=retR _) ?_;unfold n36
 rw [op_boxA]
 have q1:=heap_new w0 (frCells r bv tv).toArray 43
 have e1:Ext w0 (w0.alloc (.cells (frCells r bv tv).toArray 43)):=(Ext.refl w0).alloc _
 generalize (w0.alloc (.cells (frCells r bv tv).toArray 43))=W at q1 e1 ⊢
 obtain ⟨p1,hp1⟩:∃ p1,w0.heap.size=p1:=⟨_,rfl⟩
 rw [hp1] at q1 ⊢
 refine drawK_intro ?_
 have eD:Ext W (Sw.drew W):=(Ext.refl W).drew
 generalize (Sw.drew W)=D at eD ⊢
 replace q1:=eD.obj q1
 have E1:=e1.trans eD
 have c1:=(cells_of_heap q1).1
 unfold n36c9
 refine Qp c1 ?_
 have main:∀ (p3:Nat) (u:UseD) (ok:Bool) (w:World),Ext w0 w→Ext D w→w.heap[p3]?=some (.cells #[.bool u.fr,.bool u.add,.bool u.value,.bool u.bytes,.bool u.table] 105 (0,0))→ok=(usesK r.kind).isSome→(ok=true→usesK r.kind=some u) →
  n36c6 (.pointer (some ⟨p1,0,none⟩)) (.pointer (some ⟨p3,0,none⟩)) (.bool ok) (retR fun q w'=>q = .bool (printF r)∧Ext w0 w') w:=by
  intro p3 u ok w e0 eD hu hok hus
  have k1:=(cells_of_heap (eD.obj q1)).1
  have k3:=(cells_of_heap hu).1
  unfold n36c6
  cases ok with
  | false =>
   have hp:printF r=false:=by
    unfold printF
    cases hk:usesK r.kind with
    | none=>rfl
    | some u=>rw [hk] at hok;cases hok
   simp (disch:=try exact DI) only [↓PR,QR,simprocAttr,n36c5,n36c4,n36c3,n36c2,n36c1]
   exact ⟨by rw [hp],e0⟩
  | true =>
   have hp:printF r=(cleanB r u&&(nameB r.to&&(decide (r.to≠endW)&&(!u.fr||nameB r.fr)))):=by unfold printF;rw [hus rfl]
   refine QJ k1 k3 ?_
   refine zcr (clean_ret w _ r ⟨_,_,rfl,hB.ext e0,hT.ext e0⟩ u) fun w2 e2=>?_
   have E2:=e0.trans e2
   unfold n36c5
   cases hc:cleanB r u with
   | false =>
    simp (disch:=try exact DI) only [↓PR,QR,simprocAttr,n36c4,n36c3,n36c2,n36c1]
    exact ⟨by rw [hp,hc];rfl,E2⟩
   | true =>
   have k1:=(cells_of_heap (((eD.trans e2)).obj q1)).1
   refine Qp k1 ?_
   refine callK_ret (names1_ret w2 r.to) ?_
   rintro _ w3 ⟨rfl,e3⟩
   have E3:=E2.trans e3
   unfold n36c4
   cases hn:nameB r.to with
   | false =>
    simp (disch:=try exact DI) only [↓PR,QR,simprocAttr,n36c3,n36c2,n36c1]
    exact ⟨by rw [hp,hc,hn];rfl,E3⟩
   | true =>
   have k1:=(cells_of_heap ((eD.trans (e2.trans e3)).obj q1)).1
   have k3:=(cells_of_heap ((e2.trans e3).obj hu)).1
   by_cases he:r.to=endW
   · have d1:decide (r.to=⟨#[101,110,100]⟩)=true:=decide_eq_true he
     simp (disch:=try exact DI) only [↓PR,QR,simprocAttr,k1,d1,n36c3,n36c2,n36c1]
     exact ⟨by rw [hp,hc,hn];simp [he],E3⟩
   · have d1:decide (r.to=⟨#[101,110,100]⟩)=false:=decide_eq_false he
     simp (disch:=try exact DI) only [↓PR,QR,simprocAttr,k1,d1,n36c3]
     unfold n36c2
     cases hf:u.fr with
     | false =>
      simp (disch:=try exact DI) only [↓PR,QR,simprocAttr,k3,hf,n36c1]
      exact ⟨by rw [hp,hc,hn,hf];simp [he,d1],E3⟩
     | true =>
      refine QQ k3 hf k1 ?_
      refine callK_ret (names1_ret w3 r.fr) ?_
      rintro _ w4 ⟨rfl,e4⟩
      simp (disch:=try exact DI) only [↓PR,QR,simprocAttr,n36c1]
      exact ⟨by rw [hp,hc,hn,hf];simp [he,d1],E3.trans e4⟩
 have lk:∀ (L:List (Int×Value×Nat)),KindsM L→∃ u:UseD,(Sw.look L r.kind).getD (useV ⟨false,false,false,false,false⟩)=useV u∧(Sw.look L r.kind).isSome=(usesK r.kind).isSome∧((usesK r.kind).isSome=true→usesK r.kind=some u):=by
  intro L hL
  rw [hL]
  cases usesK r.kind with
  | none=>exact ⟨_,rfl,rfl,fun h=>by cases h⟩
  | some u=>exact ⟨u,rfl,rfl,fun _=>rfl⟩
 have lD:=(Qk q1).1
 refine ⟨?_,(Ext.refl D).alloc _,?_⟩
 · refine callK_ret (mkinds_ret D) ?_
   rintro _ w1 ⟨m,L,c,rfl,hm,hM,hL,e2⟩
   refine narrowK_EC e2 ?_
   obtain ⟨u,h1,h2,h3⟩:=lk L hL
   unfold n36c7
   rw [qV_mkind hM,h1,h2]
   unfold useV
   refine Qf ?_
   refine ⟨(Ext.refl w1).alloc _,(Ext.refl w1).alloc _,main _ u _ _ ((E1.trans e2).alloc _) (e2.alloc _) (heap_new _ _ _) rfl h3⟩
 · have eV:Ext D (D.alloc (.cells #[.bool false,.bool false,.bool false,.bool false,.bool false] 105)):=(Ext.refl D).alloc _
   have oV:=heap_new D #[.bool false,.bool false,.bool false,.bool false,.bool false] 105
   generalize (D.alloc (.cells #[.bool false,.bool false,.bool false,.bool false,.bool false] 105))=V at eV oV ⊢
   obtain ⟨p3,hp3⟩:∃ p3,D.heap.size=p3:=⟨_,rfl⟩
   rw [hp3] at oV ⊢
   refine callK_ret (mkinds_ret V) ?_
   rintro _ w1 ⟨m,L,c,rfl,hm,hM,hL,e2⟩
   have eVw:=eV.trans e2
   refine narrowK_KM eVw hM ?_
   obtain ⟨u,h1,h2,h3⟩:=lk L hL
   have o3:=e2.obj oV
   have o3c:=cells_of_heap o3
   have hne:∃ x,KM D m kindEnc L c x:=⟨w1,eVw,hM⟩
   haveI:ClassNe (KM D m kindEnc L c):=⟨hne⟩
   have l3:D.heap.size≤p3:=Qx
   unfold n36c8
   rw [qV_lookupKM (enc:=kindEnc) Tryz.underlying106 (KeyOK.int Tryz.underlying39) ty105 hne r.kind]
   rw [show ((Sw.look L r.kind).getD (Value.agg #[.bool false,.bool false,.bool false,.bool false,.bool false]))=useV u from h1,h2]
   unfold useV
   refine QJ o3c.1 o3c.2 ?_
   have eZ:Ext D (((((w1.setCell ⟨p3,0,none⟩ (.bool u.fr)).setCell ⟨p3,1,none⟩ (.bool u.add)).setCell ⟨p3,2,none⟩ (.bool u.value)).setCell ⟨p3,3,none⟩ (.bool u.bytes)).setCell ⟨p3,4,none⟩ (.bool u.table)):=((((eVw.setCell l3 _).setCell l3 _).setCell l3 _).setCell l3 _).setCell l3 _
   have oZ:=heap_set (o:=4) (heap_set (o:=3) (heap_set (o:=2) (heap_set (o:=1) (heap_set (o:=0) o3 (.bool u.fr)) (.bool u.add)) (.bool u.value)) (.bool u.bytes)) (.bool u.table)
   have hM':=((((hM.setCell ⟨p3,0,none⟩ (.bool u.fr)).setCell ⟨p3,1,none⟩ (.bool u.add)).setCell ⟨p3,2,none⟩ (.bool u.value)).setCell ⟨p3,3,none⟩ (.bool u.bytes)).setCell ⟨p3,4,none⟩ (.bool u.table)
   exact ⟨⟨eZ,hM'⟩,main p3 u _ _ (E1.trans eZ) eZ (by simpa using oZ) rfl h3⟩
section
variable {P:Program} {QP:List PanicEntry→World→Prop} {w:World} {k:Value→World→Prop}
theorem op_sadd' (t:TypeId) (c:Bool) (a b:ByteArray) (h:a.size+b.size≤9223372036854775807):opV P (binS .add t c (.string a) (.string b)) QP w k=k (.string (a++b)) w:=opV_ok (by
 have h1:¬ (((a.size+b.size:Nat):Int) > IntKind.i64.max):=by
  have:IntKind.i64.max=9223372036854775807:=rfl
  omega
 simp [binS,binOp,Op.stringOp,h1]
 omega)
end
def wordsB (r:FrD):List ByteArray:=(wordsF r).map mkB
def n14c1 (t47 t55 t59 t1005:Value) (next3:Value→Value→Value→World→Prop) (R:RT) (w:World):Prop :=
 opV Pg (Instr.buildSlice 94 1 #[(0,t59)]) (panK R) w fun t60 w =>
 opV Pg (Builtin.append_ #[94,94] 94 #[t1005,t60]) (panK R) w fun t61 w =>
 B0 .add 3 true t47 (.int .i64 1) R w fun t62 w =>
 next3 t55 t61 t62 w
def n14c2 (t9 t47 t54 t1004 t1005:Value) (next3:Value→Value→Value→World→Prop) (R:RT) (w:World):Prop :=
 pickK t1004 t54 (.bool false) fun t55 =>
 L0 43 t9 R w fun t57 w =>
 C0 60 #[t57] R w fun t58 w =>
 callK Pg 59 #[t58,(.string { data := #[32] })] (panK R) w fun t59 w =>
 n14c1 t47 t55 t59 t1005 next3 R w
def n14c3 (t21 t1004 t1005:Value) (next1:Value→Value→Value→World→Prop) (R:RT) (w:World):Prop :=
 opV Pg (Instr.buildSlice 94 1 #[(0,(.string { data := #[101,110,100] }))]) (panK R) w fun t64 w =>
 opV Pg (Builtin.append_ #[94,94] 94 #[t1005,t64]) (panK R) w fun t65 w =>
 B0 .add 3 true t21 (.int .i64 1) R w fun t66 w =>
 next1 t1004 t65 t66 w
def n14c4 (t45 t47 t1004 t1005:Value) (next3:Value→Value→Value→World→Prop) (R:RT) (w:World):Prop :=
 X0 58 t45 t47 R w fun t49 w =>
 L0 43 t49 R w fun t50 w =>
 opV Pg (Instr.alloc 43 true (.tuple #[])) (panK R) w fun t9 w =>
 opU Pg (Instr.storeAt 43 t9 t50) (panK R) w fun w =>
 joinK (fun (t54:Value) (w:World) =>
 n14c2 t9 t47 t54 t1004 t1005 next3 R w) fun K4 =>
 guardP t1004 true (
 L0 43 t9 R w fun t53 w =>
 C0 58 #[t53] R w fun t54 w =>
 K4 t54 w) (
 K4 undef w)
def n14c5 (t4 t5 t7 t21 t32:Value) (next1:Value→Value→Value→World→Prop) (R:RT) (w:World):Prop :=
 pickK t4 t32 (.bool false) fun t33 =>
 F0 60 t7 0 R w fun t35 w =>
 L0 9 t35 R w fun t36 w =>
 opV Pg (binS .add 9 true (.string { data := #[109,97,112,32] }) t36) (panK R) w fun t37 w =>
 opV Pg (binS .add 9 true t37 (.string { data := #[32] })) (panK R) w fun t38 w =>
 F0 60 t7 1 R w fun t39 w =>
 L0 9 t39 R w fun t40 w =>
 B0 .add 9 false t38 t40 R w fun t41 w =>
 opV Pg (Instr.buildSlice 94 1 #[(0,t41)]) (panK R) w fun t42 w =>
 opV Pg (Builtin.append_ #[94,94] 94 #[t5,t42]) (panK R) w fun t43 w =>
 F0 60 t7 2 R w fun t44 w =>
 L0 58 t44 R w fun t45 w =>
 opV Pg (Builtin.len_ #[58] 3 #[t45]) (panK R) w fun t46 w =>
 loop3 (fun t1004 t1005 t47 w next3 =>
 B0 .lss 3 false t47 t46 R w fun t48 w =>
 condP t48 (
 n14c4 t45 t47 t1004 t1005 next3 R w) (
 n14c3 t21 t1004 t1005 next1 R w)) t33 t43 (.int .i64 0) w
def n14c6 (t5:Value) (R:RT) (w:World):Prop :=
 callK Pg 59 #[t5,(.string { data := #[10] })] (panK R) w fun t70 w =>
 opV Pg (binS .add 9 true t70 (.string { data := #[10] })) (panK R) w fun t71 w =>
 R (.returned (.tuple #[t71,(.int .i64 0)])) w
def n14c7 (t4 t5 t19 t21:Value) (next1:Value→Value→Value→World→Prop) (R:RT) (w:World):Prop :=
 X0 22 t19 t21 R w fun t23 w =>
 L0 60 t23 R w fun t24 w =>
 opV Pg (Instr.alloc 60 true (.tuple #[])) (panK R) w fun t7 w =>
 opU Pg (Instr.storeAt 60 t7 t24) (panK R) w fun w =>
 joinK (fun (t32:Value) (w:World) =>
 n14c5 t4 t5 t7 t21 t32 next1 R w) fun K2 =>
 guardP t4 true (
 F0 60 t7 0 R w fun t27 w =>
 L0 9 t27 R w fun t28 w =>
 F0 60 t7 1 R w fun t29 w =>
 L0 9 t29 R w fun t30 w =>
 opV Pg (Instr.buildSlice 94 2 #[(0,t28),(1,t30)]) (panK R) w fun t31 w =>
 C0 52 #[t31] R w fun t32 w =>
 K2 t32 w) (
 K2 undef w)
def n14c8 (t4 t5 t19 t20 t21:Value) (next1:Value→Value→Value→World→Prop) (R:RT) (w:World):Prop :=
 B0 .lss 3 false t21 t20 R w fun t22 w =>
 condP t22 (
 n14c7 t4 t5 t19 t21 next1 R w) (
 opV Pg (Op.unary .not t4) (panK R) w fun t68 w =>
 condP t68 (
 R (.returned (.tuple #[(.string { data := #[] }),(.int .i64 2)])) w) (
 n14c6 t5 R w))
def n14c9 (t1 t13:Value) (R:RT) (w:World):Prop :=
 F0 24 t1 0 R w fun t14 w =>
 L0 9 t14 R w fun t15 w =>
 opV Pg (binS .add 9 true (.string { data := #[109,97,112,112,105,110,103,32] }) t15) (panK R) w fun t16 w =>
 opV Pg (Instr.buildSlice 94 1 #[(0,t16)]) (panK R) w fun t17 w =>
 F0 24 t1 1 R w fun t18 w =>
 L0 22 t18 R w fun t19 w =>
 opV Pg (Builtin.len_ #[22] 3 #[t19]) (panK R) w fun t20 w =>
 loop3 (fun t4 t5 t21 w next1 =>
 n14c8 t4 t5 t19 t20 t21 next1 R w) t13 t17 (.int .i64 0) w
def n14 (t0:Value) (R:RT) (w:World):Prop :=
 opV Pg (Instr.box 24 t0) (panK R) w fun t1 w =>
 F0 24 t1 0 R w fun t10 w =>
 L0 9 t10 R w fun t11 w =>
 opV Pg (Instr.buildSlice 94 1 #[(0,t11)]) (panK R) w fun t12 w =>
 C0 52 #[t12] R w fun t13 w =>
 n14c9 t1 t13 R w
theorem n14s {t0:Value} {R:RT} {w:World} (h:n14 t0 R w):Calls Pg 25 #[t0] w R:=by
 refine yD Tryz.func25 ?_
 refine zs<|zr<|yv h fun _ w h=>zm<|zm<|zn<|zk<|zs<|zr<|yv h fun _ w h=>yv h fun _ w h=>yS h fun _ w h=>yc h c52 fun _ w h=>zm<|zn ?_
 refine zk<|zs<|zr<|yv h fun _ w h=>yv h fun _ w h=>yb h fun _ w h=>yS h fun _ w h=>zm<|zn<|zk<|zs<|zs<|zr<|yv h fun _ w h=>yv h fun _ w h=>?_
 refine yx h fun _ w h=>zm<|zn<|zk<|sim_block<|yl3 [4,5,7,9,21,22,23,24,25,26,27,28,29,30,31,32,33,34,35,36,37,38,39,40,41,42,43,44,45,46,47,48,49,50,51,52,53,54,55,56,57,58,59,60,61,62,63,64,65,66] 4 5 21 h fun σ w next h=>zs<|zr<|yb h fun _ w h=>zn<|zk<|zs<|yC h (fun h=>?_) fun h=>?_
 · refine sim_skip<|zk<|zs<|sim_block<|zs<|zr<|yv h fun _ w h=>yv h fun _ w h=>yv h fun _ w h=>yu h fun w h=>zn<|zk<|zs<|sim_regionG<|yG 2 ?_
   refine zm<|zm<|zn<|yg1 6 1 true [27,28,29,30,31,32] 32 h (fun _ T hT h=>?_) fun σ w h=>?_
   · refine yv h fun _ w h=>yv h fun _ w h=>yv h fun _ w h=>yv h fun _ w h=>yS h fun _ w h=>yc h c52 fun _ w h=>zn ?_
     exact zt hT h
   refine yG 2<|yp h fun _ h=>zm<|zn<|sim_end<|zk<|zs<|zr<|zm<|yv h fun _ w h=>yv h fun _ w h=>yb h fun _ w h=>yb h fun _ w h=>yv h fun _ w h=>yv h fun _ w h=>?_
   refine yb h fun _ w h=>yS h fun _ w h=>yx h fun _ w h=>zm<|zn<|zk<|zs<|zs<|zr<|yv h fun _ w h=>yv h fun _ w h=>yx h fun _ w h=>zm<|zn<|zk ?_
   refine sim_block<|yl3 [4,5,9,47,48,49,50,51,52,53,54,55,56,57,58,59,60,61,62] 4 5 47 h fun σ w next h=>zs<|zr<|yb h fun _ w h=>zn<|zk<|zs<|yC h (fun h=>?_) fun h=>?_
   · refine sim_skip<|zk<|zs<|sim_block<|zs<|zr<|yv h fun _ w h=>yv h fun _ w h=>yv h fun _ w h=>yu h fun w h=>zn<|zk<|zs<|sim_regionG<|yG 2 ?_
     refine zm<|zm<|zn<|yg1 2 1 true [53,54] 54 h (fun _ T hT h=>?_) fun σ w h=>?_
     · refine yv h fun _ w h=>yc h c58 fun _ w h=>zn ?_
       exact zt hT h
     refine yG 2<|yp h fun _ h=>zm<|zn<|sim_end<|zk<|zr<|zm<|yv h fun _ w h=>yc h c60 fun _ w h=>yc h c59 fun _ w h=>yS h fun _ w h=>yx h fun _ w h=>zm<|zn ?_
     exact sim_block_normal<|zk<|zr<|yb h fun _ w h=>zm<|zn<|zk<|⟨rfl,h⟩
   refine sim_exit<|sim_then_exit<|sim_then_exit<|sim_block_hit<|zk<|zr<|zm<|yS h fun _ w h=>yx h fun _ w h=>zm<|zn<|sim_block_normal<|zk<|zr<|yb h fun _ w h=>?_
   exact zm<|zn<|zk<|⟨rfl,h⟩
 refine sim_exit<|sim_then_exit<|sim_then_exit<|sim_block_hit<|zk<|zs<|zs<|zr<|zm<|yv h fun _ w h=>zn<|zk<|yC h (fun h=>zs<|zr<|zm<|zm<|zn<|zk<|sim_ret<|sim_then_ret<|body_ret2 rfl rfl rfl h) fun h=>sim_skip ?_
 exact zk<|zs<|zr<|zm<|yc h c59 fun _ w h=>yb h fun _ w h=>zm<|zm<|zn<|zk<|sim_ret<|body_ret2 rfl rfl rfl h
theorem mkB_size (l:List UInt8):(mkB l).size=l.length:=by unfold mkB ByteArray.size;simp
theorem app_line {w w0:World} {QP:List PanicEntry→World→Prop} {k:Value→World→Prop} {base:Nat} {v:Value} {l:List ByteArray} (s:ByteArray) (hO:OwnS w base v l) (hb:base≤w.heap.size) (hl:l.length≤1000000) (e:Ext w0 w) (h0:w0.heap.size≤base)
 (hk:∀ v' w',OwnS w' base v' (l++[s])→Ext w0 w'→base≤w'.heap.size→k v' w') :
 opV Pg (Instr.buildSlice 94 1 #[(0,.string s)]) QP w fun t w=>opV Pg (Builtin.append_ #[94,94] 94 #[v,t]) QP w k:=by
 refine Qf ?_
 generalize hY:World.alloc w _=Y
 have eY:Ext w Y:=by rw [← hY];exact (Ext.refl w).alloc _
 have oY:Y.cell? ⟨w.heap.size,0,none⟩=some (.string s):=by rw [← hY,(cells_of_heap (heap_new _ _ _)).1];rfl
 clear hY
 have sY:=eY.size
 refine append_str s (hO.ext eY) oY Qx Qx ?_
 intro v' w' hO' hg
 have hlo:∀ b,v.ownBlock=some b→base≤b:=fun b hb=>(World.ownsRow.lt hO b hb).1
 exact hk v' w' hO' ((e.trans eY).grown hg fun b hb=>Nat.le_trans h0 (hlo b hb)) (by have:=hg.size;omega)
theorem CutSuffix_ret (w:World) (l:List UInt8) (c:UInt8) (hl:l.length≤1000000000):Ret Pg 49 #[.string (mkB l),.string ⟨#[c]⟩] w fun r w'=>r = .tuple #[.string (mkB (Go.Lib.trimSuffix l [c])),.bool (Go.Lib.hasSuffix l [c])]∧w'=w:=by
 refine Calls.mono (sh_strings_CutSuffix (mkB l) ⟨#[c]⟩ w (by rw [mkB_size];omega)) ?_
 rintro e w' ⟨rfl,h⟩
 exact ⟨_,rfl,rfl,h⟩
abbrev byteEnc (c:UInt8):List Value:=[.int .u8 c.toNat]
theorem own_by {w:World} {base:Nat} {v:Value} {l:List UInt8} (h:OwnE w base 5 1 byteEnc v l):ByOf w v l:=h.slice (fun _=>rfl) (fun _ _=>rfl)
theorem own_rows {w:World} {base:Nat} {v:Value} {l:List RowD} (h:OwnE w base 78 3 rowCells v l):RowsOf w v l:=h.slice (fun _=>rfl) (fun _ _=>rfl)
theorem setCells_os {b:Nat}:∀ (vs:List Value) (w:World) (o:Nat),(setCells w b o vs).os=w.os∧(setCells w b o vs).tape=w.tape∧(setCells w b o vs).output=w.output
 | [],_,_=>⟨rfl,rfl,rfl⟩
 | v::vs,w,o=>setCells_os vs (w.setCell ⟨b,o,none⟩ v) (o+1)
theorem ext_same {a w:World} {b:Nat} {vs:List Value} {T:TypeId} (e:Ext a w) (ho:w.heap[b]?=some (.cells vs.toArray T (0,0))):Ext a (setCells w b 0 vs):=by
 obtain ⟨h1,h2,h3⟩:=setCells_os vs w 0 (b:=b)
 refine ⟨h1.trans e.os,h2.trans e.tape,h3.trans e.output,by rw [setCells_size];exact e.size,fun k hk=>?_⟩
 rw [← e.block k hk]
 by_cases hb:k=b
 · subst hb
   rw [setCells_heap vs 0 ho,setA_all (by simp),ho]
 · exact setCells_only vs w 0 k hb
section
variable {w0 w:World} {p2:Nat} {s:List UInt8} {x:FrD} {bv tv:Value}
structure BldAt2 (w0 w:World) (p2:Nat) (x:FrD) (bv tv:Value):Prop where
 e:Ext w0 w
 lp:w0.heap.size≤p2
 obj:w.heap[p2]?=some (.cells (frCells x bv tv).toArray 43 (0,0))
 ob:OwnE w w0.heap.size 5 1 byteEnc bv x.bytes
 ot:OwnE w w0.heap.size 78 3 rowCells tv x.table
end
section
variable {P:Program} {QP:List PanicEntry→World→Prop} {w:World} {k:Value→World→Prop}
theorem op_sliceLHH {t e:TypeId} {agg:Bool} {n m:Nat} {z:Value} (hu:P.underlying t=some (.slice e)) (ht:TyInfo P e agg n m z) (b o len cap:Nat) (l h:Nat) (hl:l≤h) (hh:h≤cap) :
 opV P (Instr.sliceAt t (.slice (some ⟨b,o,none⟩) len cap) (some (.int .i64 (l:Int))) (some (.int .i64 (h:Int))) (some (.int .i64 (h:Int)))) QP w k=k (.slice (some ⟨b,if h=l then o else o+l*n,none⟩) (h - l) (h - l)) w:=by
 refine opV_ok ?_
 have h1:(l:Int)≤(h:Int):=Qx
 have h2:(h:Int)≤(cap:Int):=Qx
 have h3:(0:Int)≤(l:Int):=Qx
 have h4:(0:Int)≤(h:Int):=Qx
 by_cases h5:h=l
 · subst h5
   simp [Instr.sliceAt,run_underlying hu,Instr.slice,Instr.sliceBounds,run_sliceBound,h2,h3,Sw.run_sizeOf ht,Addr.add_lit]
 · simp [Instr.sliceAt,run_underlying hu,Instr.slice,Instr.sliceBounds,run_sliceBound,h1,h2,h3,h4,h5,Sw.run_sizeOf ht,Addr.add_lit]
end
theorem flat_str (l:List ByteArray):(l.flatMap strEnc).length=l.length*1:=by
 induction l with
 | nil=>rfl
 | cons x l ih=>rw [List.flatMap_cons,List.length_append,ih,List.length_cons];simp;omega
theorem append_clipS {w:World} {QP:List PanicEntry→World→Prop} {k:Value→World→Prop} {g o:Nat} {u:Value} {l l':List ByteArray} (hs:∀ j x,l[j]?=some x→ElemAt w g (o+j*1) (strEnc x)) (hu:StrsL w u l') (hne:l'≠[]) (h1:l.length≤200000) (h2:l'.length≤100000)
 (hk:∀ v' w',OwnS w' w.heap.size v' (l++l')→Ext w w'→k v' w') :
 opV Pg (Builtin.append_ #[94,94] 94 #[.slice (some ⟨g,o,none⟩) l.length l.length,u]) QP w k:=by
 obtain ⟨⟨i,hi,hsz,hby,hzz⟩,_⟩:=ty9
 have hb4:=by9
 obtain ⟨A,c,rfl,hlc,hcm,hlm,hel⟩:=SliceOf.open hu
 obtain ⟨x0,l0,rfl⟩:=List.exists_cons_of_ne_nil hne
 obtain ⟨b,o',_,rfl,_⟩:=hel 0 x0 rfl
 have hcells:∀ (ll:List ByteArray) (B O:Nat),(∀ j x,ll[j]?=some x→ElemAt w B (O+j*1) (strEnc x))→∀ j v,(ll.flatMap strEnc)[j]?=some v→w.cell? ((⟨B,O,none⟩:Addr).add j)=some v:=by
  intro ll B O hh j v hv
  have hfl:(ll.flatMap strEnc).length=ll.length*1:=flat_str ll
  have hj:j < ll.length:=by have:=(Qv hv).1;omega
  obtain ⟨x,hx⟩:=getElem?_lt hj
  have hg:=flatMap_get (enc:=strEnc) (n:=1) (fun _=>rfl) ll j x 0 _ hx rfl
  rw [show j*1+0=j by omega,hv] at hg
  injection hg with hg
  rw [Addr.add_lit]
  have:=hh _ _ hx 0 _ rfl
  rw [hg,← this]
  congr 2;omega
 obtain ⟨v',w',hr,ho,hg⟩:=run_append_arg_grows (P:=Pg) w 94 94 9 i _ 1 _ Tryz.underlying94 hi hzz hsz hby rfl Qj ⟨g,o,none⟩ l.length l.length (l.flatMap strEnc) (flat_str l) (hcells l g o hs)
  ⟨b,o',none⟩ (x0::l0).length c ((x0::l0).flatMap strEnc) (flat_str _) (hcells _ b o' fun j x hx=>by
   obtain ⟨b2,o2,cs,e1,_,hA,e2⟩:=hel j x hx
   injection e1 with e1
   injection e1 with e1 e3
   subst e1 e3 e2
   exact hA) (by simp) (by simp only [maxLen];omega) (Nat.le_trans (Nat.mul_le_mul (Nat.add_le_add h1 h2) hb4) Qj)
 rw [opV_ok hr]
 refine hk v' w' ?_ ((Ext.refl w).grown hg fun k hk=>by cases hk)
 unfold OwnS OwnE
 rw [List.flatMap_append,List.length_append];exact ho
structure RS (w0 w:World) (p2 b0 n:Nat) (ws rs:List ByteArray) (t27:Value) (x:FrD) (bv tv:Value):Prop where
 bld:BldAt2 w0 w p2 x bv tv
 ws:StrsL w (.slice (some ⟨b0,0,none⟩) n n) ws
 nb:b0≠p2
 rs:StrsL w t27 rs
 nr:∀ A m c,t27 = .slice (some A) m c→A.block≠p2
theorem words_ret {w:World} (hE:EnvOK w) (s:List UInt8) (c:UInt8) (hs:s.length≤100000):Ret Pg 50 #[.string (mkB s),.string ⟨#[c]⟩] w fun r w'=>Ext w w'∧r = .slice (some ⟨w.heap.size,0,none⟩) (cutL c s).length (cutL c s).length∧StrsL w' r ((cutL c s).map mkB):=by
 refine (Split_ret hE (mkB s) c (by rw [mkB_size];exact hs)).mono ?_
 rintro _ w' ⟨e,n,rfl,h⟩
 rw [split_cut] at h
 unfold cutW at h
 rw [mkB_list] at h
 obtain ⟨A,cc,hv,_⟩:=SliceOf.open h
 injection hv with _ hn _
 rw [List.length_map] at hn
 subst hn
 exact ⟨e,rfl,h⟩
theorem SplitAfter_ret {w:World} (hE:EnvOK w) (s:List UInt8) (c:UInt8) (hs:s.length≤1000000000):Ret Pg 48 #[.string (mkB s),.string ⟨#[c]⟩] w fun r w'=>Ext w w'∧r = .slice (some ⟨w.heap.size,0,none⟩) (cutL c s).length (cutL c s).length∧w'.heap[w.heap.size]?=some (.cells (((afterL c (cutL c s)).map mkB).map Value.string).toArray 9 (0,0)):=by
 obtain ⟨m,hm⟩:=hE.len
 have h1:1≤(⟨#[c]⟩:ByteArray).size:=Nat.le_refl _
 have hle:=Go.Lib.countB_le ⟨#[c]⟩ h1 (mkB s).size (mkB s) (Nat.le_refl _)
 have hl:=Go.Lib.splitB_all ⟨#[c]⟩ h1 1 _ (mkB s) rfl
 have hz:=mkB_size s
 refine n136s (R:=retR _) ?_;unfold n136
 refine Qf ?_
 refine callK_ret (Φ:=fun r w'=>Ext w w'∧r = .slice (some ⟨w.heap.size,0,none⟩) (cutL c s).length (cutL c s).length∧w'.heap[w.heap.size]?=some (.cells (((afterL c (cutL c s)).map mkB).map Value.string).toArray 9 (0,0))) ?_ fun v w' h=>⟨v,rfl,h⟩
 have hk:=sh_strings_genSplit (mkB s) ⟨#[c]⟩ 1 (-1) (Go.Lib.countB (mkB s) ⟨#[c]⟩+1) m w Qx hm h1 h1 Qj Qj (by rw [if_pos Qj];omega)
 rw [Nat.add_sub_cancel,hl] at hk
 refine Calls.mono hk ?_
 rintro e w' ⟨rfl,rfl⟩
 have hsp:=split_after c (mkB s)
 rw [mkB_list] at hsp
 rw [hsp] at hl ⊢
 rw [List.length_map,afterL_len] at hl
 refine ⟨_,rfl,(Ext.refl w).alloc _,by rw [hl],?_⟩
 have e2:Go.Lib.cellsOf ((afterL c (cutL c s)).map mkB) (Go.Lib.countB (mkB s) ⟨#[c]⟩+1)=(((afterL c (cutL c s)).map mkB).map Value.string).toArray:=by
  have:Go.Lib.countB (mkB s) ⟨#[c]⟩+1=((afterL c (cutL c s)).map mkB).length:=by rw [List.length_map,afterL_len,hl]
  rw [this]
  exact Go.Lib.cellsOf_full _
 rw [e2]
 exact heap_new _ _ _
structure Chg (g:Nat) (w w':World):Prop where
 size:w.heap.size≤w'.heap.size
 block:∀ b,b < w.heap.size→b≠g→w'.heap[b]?=w.heap[b]?
theorem own_chg {α:Type} {w w':World} {g lo n:Nat} {T:TypeId} {enc:α→List Value} {v:Value} {l:List α} (h:OwnE w lo T n enc v l) (hc:Chg g w w') (hg:v.ownBlock≠some g):OwnE w' lo T n enc v l :=
 OwnE.keep h fun b hb=>hc.block b (World.ownsRow.lt h b hb).2 fun e=>hg (by rw [hb,e])
theorem own_type {α:Type} {w:World} {g lo n:Nat} {T T':TypeId} {enc:α→List Value} {v:Value} {l:List α} {cs:Array Value} {f:Nat×Nat} (h:OwnE w lo T n enc v l) (ho:w.heap[g]?=some (.cells cs T' f)) (hT:T≠T'):v.ownBlock≠some g:=by
 intro hg
 rcases h.2 with ⟨rfl,_⟩ | ⟨g',cap,cur,rfl,_,hg',_⟩
 · cases hg
 · have:g'=g:=by simpa [Value.ownBlock] using hg
   subst this
   rw [ho] at hg'
   injection hg' with hg'
   injection hg' with _ hg'
   exact hT hg'.symm
def E7 (w:World) (b0:Nat) (cs:List Value) (x:FrD):Prop:=∃ bv tv,cs=frCells x bv tv∧OwnE w b0 5 1 byteEnc bv x.bytes∧OwnE w b0 78 3 rowCells tv x.table
def Flds (w:World) (b0 lo hi:Nat) (fv:Value) (fs:List FrD):Prop:=∃ css:List (Cs 7),OwnE w lo 43 7 Subtype.val fv css∧(∀ b,fv.ownBlock=some b→b < hi)∧Mates 7 (E7 w b0) css fs
def EMr3 (w:World) (b0 lo hi:Nat) (cs:List Value) (r:MrD):Prop:=∃ fv,cs=mrCells r fv∧Flds w b0 lo hi fv r.fields
section
variable {w w':World} {b0 lo hi g:Nat} {fv:Value} {fs:List FrD} {cs:List Value} {x:FrD} {r:MrD} {T:TypeId} {oc:Array Value} {f:Nat×Nat}
theorem E7.ext (h:E7 w b0 cs x) (e:Ext w w'):E7 w' b0 cs x:=by obtain ⟨bv,tv,h1,h2,h3⟩:=h;exact ⟨bv,tv,h1,h2.ext e,h3.ext e⟩
theorem E7.chg (h:E7 w b0 cs x) (hc:Chg g w w') (ho:w.heap[g]?=some (.cells oc T f)) (h1:5≠T) (h2:78≠T):E7 w' b0 cs x:=by
 obtain ⟨bv,tv,a1,a2,a3⟩:=h
 exact ⟨bv,tv,a1,own_chg a2 hc (own_type a2 ho h1),own_chg a3 hc (own_type a3 ho h2)⟩
theorem E7.fr (h:E7 w b0 cs x):EFr w cs x:=by obtain ⟨bv,tv,a1,a2,a3⟩:=h;exact ⟨bv,tv,a1,own_by a2,own_rows a3⟩
end
structure PS (b16:Nat) (lcs:Array Value) (w0 w:World) (p2 B:Nat) (st:PsD) (rv:Value):Prop where
 ln:w.heap[b16]?=some (.cells lcs 9 (0,0))
 e:Ext w0 w
 lp:w0.heap.size≤p2
 obj:w.heap[p2]?=some (.cells #[.string st.name,rv] 24 (0,0))
 b1:w0.heap.size≤B
 b2:B≤w.heap.size
 row:∃ css dss:List (Cs 3),OwnE w w0.heap.size 60 3 Subtype.val rv (css++dss)∧Mates 3 (EMr3 w w0.heap.size w0.heap.size B) css st.done∧Mates 3 (EMr3 w w0.heap.size B w.heap.size) dss st.cur.toList
section
variable {b16:Nat} {lcs:Array Value} {w0 w w':World} {p2 B:Nat} {st:PsD} {rv:Value}
theorem mates_app {n:Nat} {α:Type} {E:List Value→α→Prop} {c1 c2:List (Cs n)} {l1 l2:List α} (h1:Mates n E c1 l1) (h2:Mates n E c2 l2):Mates n E (c1++c2) (l1++l2):=by
 refine ⟨by rw [List.length_append,List.length_append,h1.1,h2.1],fun k x cs hx hc=>?_⟩
 by_cases hk:k < l1.length
 · rw [List.getElem?_append_left hk] at hx
   rw [List.getElem?_append_left (by rw [h1.1];exact hk)] at hc
   exact h1.2 k x cs hx hc
 · rw [List.getElem?_append_right Qx] at hx
   rw [List.getElem?_append_right (by rw [h1.1];omega),h1.1] at hc
   exact h2.2 _ x cs hx hc
end
def n13c1 (t2 t3:Value) (R:RT) (w:World):Prop :=
 opV Pg (Instr.build 24 #[]) (panK R) w fun t148 w =>
 opU Pg (Instr.storeAt 24 t2 t148) (panK R) w fun w =>
 qW Pg 24 t2 w fun r0 =>
 R (.returned (.tuple #[r0,t3,(.int .i64 6)])) w
def n13c2 (t2 t3 t108 t116:Value) (C14:World→Prop) (K9:KW) (R:RT) (w:World):Prop :=
 opV Pg (Builtin.append_ #[22,22] 22 #[t108,t116]) (panK R) w fun t117 w =>
 C14 w∧(
 qV Pg C14 (Instr.fieldAt 24 t2 1) fun t118 =>
 opU Pg (Instr.storeAt 22 t118 t117) (panK R) w fun w =>
 turnK w fun C15 w =>
 K9 t3 (.bool true) w)
def n13c3 (t2 t3 t30:Value) (C14:World→Prop) (K9:KW) (R:RT) (w:World):Prop :=
 qV Pg C14 (Instr.fieldAt 24 t2 1) fun t107 =>
 qV Pg C14 (Instr.loadAt 22 t107) fun t108 =>
 qV Pg C14 (Instr.indexAt 94 t30 (.int .i64 1)) fun t110 =>
 qV Pg C14 (Instr.loadAt 9 t110) fun t111 =>
 qV Pg C14 (Instr.indexAt 94 t30 (.int .i64 2)) fun t113 =>
 qV Pg C14 (Instr.loadAt 9 t113) fun t114 =>
 qV Pg C14 (Instr.build 60 #[(0,t111),(1,t114)]) fun t115 =>
 opV Pg (Instr.buildSlice 22 1 #[(0,t115)]) (panK R) w fun t116 w =>
 C14 w∧(
 n13c2 t2 t3 t108 t116 C14 K9 R w)
def n13c4 (t3 t6 t136 t144:Value) (C18:World→Prop) (K9:KW) (R:RT) (w:World):Prop :=
 qN Pg C18 (nilN t136) fun t145 =>
 qV Pg C18 (Instr.fieldAt 60 t145 2) fun t146 =>
 opU Pg (Instr.storeAt 58 t146 t144) (panK R) w fun w =>
 turnK w fun C19 w =>
 K9 t3 t6 w
def n13c5 (t3 t6 t12 t136:Value) (C18:World→Prop) (K9:KW) (R:RT) (w:World):Prop :=
 qN Pg C18 (nilN t136) fun t139 =>
 qV Pg C18 (Instr.fieldAt 60 t139 2) fun t140 =>
 qV Pg C18 (Instr.loadAt 58 t140) fun t141 =>
 qV Pg C18 (Instr.loadAt 43 t12) fun t142 =>
 opV Pg (Instr.buildSlice 58 1 #[(0,t142)]) (panK R) w fun t143 w =>
 C18 w∧(
 opV Pg (Builtin.append_ #[58,58] 58 #[t141,t143]) (panK R) w fun t144 w =>
 C18 w∧(
 n13c4 t3 t6 t136 t144 C18 K9 R w))
def n13c6 (t2 t3 t6 t12:Value) (K9:KW) (R:RT) (w:World):Prop :=
 F0 24 t2 1 R w fun t130 w =>
 L0 22 t130 R w fun t131 w =>
 F0 24 t2 1 R w fun t132 w =>
 L0 22 t132 R w fun t133 w =>
 opV Pg (Builtin.len_ #[22] 3 #[t133]) (panK R) w fun t134 w =>
 B0 .sub 3 true t134 (.int .i64 1) R w fun t135 w =>
 X0 22 t131 t135 R w fun t136 w =>
 drawK w fun C18 w =>
 n13c5 t3 t6 t12 t136 C18 K9 R w
def n13c7 (t2 t3 t6 t12 t19 t35:Value) (K1:KV) (K9:KW) (R:RT) (w:World):Prop :=
 joinK (fun (t128:Value) (w:World) =>
 pickK t6 t128 (.bool false) fun t129 =>
 condP t129 (
 n13c6 t2 t3 t6 t12 K9 R w) (
 B0 .add 3 true t19 (.int .i64 1) R w fun t37 w =>
 K1 t37 w)) fun K17 =>
 guardP t6 true (
 K17 t35 w) (
 K17 undef w)
def n13c8 (t2 t3 t6 t12 t19 t27 t35:Value) (K1:KV) (K9:KW) (R:RT) (w:World):Prop :=
 joinK (fun (t123:Value) (w:World) =>
 pickK t6 t123 (.bool false) fun t124 =>
 condP t124 (
 K9 t3 (.bool false) w) (
 n13c7 t2 t3 t6 t12 t19 t35 K1 K9 R w)) fun K16 =>
 guardP t6 true (
 opV Pg (binS .eql 9 true t27 (.string { data := #[101,110,100] })) (panK R) w fun t123 w =>
 K16 t123 w) (
 K16 undef w)
def n13c9 (t2 t3 t6 t12 t19 t27 t30 t35 t95 t100:Value) (K1:KV) (K9:KW) (R:RT) (w:World):Prop :=
 pickK t95 t100 (.bool false) fun t101 =>
 joinK (fun (t105:Value) (w:World) =>
 pickK t101 t105 (.bool false) fun t106 =>
 condP t106 (
 drawK w fun C14 w =>
 n13c3 t2 t3 t30 C14 K9 R w) (
 n13c8 t2 t3 t6 t12 t19 t27 t35 K1 K9 R w)) fun K13 =>
 guardP t101 true (
 opV Pg (Instr.sliceAt 94 t30 (some (.int .i64 1)) none none) (panK R) w fun t104 w =>
 C0 52 #[t104] R w fun t105 w =>
 K13 t105 w) (
 K13 undef w)
def n13c10 (t2 t3 t6 t12 t19 t27 t30 t35 t90 t94:Value) (K1:KV) (K9:KW) (R:RT) (w:World):Prop :=
 pickK t90 t94 (.bool false) fun t95 =>
 joinK (fun (t100:Value) (w:World) =>
 n13c9 t2 t3 t6 t12 t19 t27 t30 t35 t95 t100 K1 K9 R w) fun K12 =>
 guardP t95 true (
 opV Pg (Instr.indexAt 94 t30 (.int .i64 0)) (panK R) w fun t98 w =>
 L0 9 t98 R w fun t99 w =>
 opV Pg (binS .eql 9 true t99 (.string { data := #[109,97,112] })) (panK R) w fun t100 w =>
 K12 t100 w) (
 K12 undef w)
def n13c11 (t2 t3 t6 t12 t19 t27 t30 t35 t86 t89:Value) (K1:KV) (K9:KW) (R:RT) (w:World):Prop :=
 pickK t86 t89 (.bool false) fun t90 =>
 joinK (fun (t94:Value) (w:World) =>
 n13c10 t2 t3 t6 t12 t19 t27 t30 t35 t90 t94 K1 K9 R w) fun K11 =>
 guardP t90 true (
 opV Pg (Builtin.len_ #[94] 3 #[t30]) (panK R) w fun t93 w =>
 B0 .eql 3 true t93 (.int .i64 3) R w fun t94 w =>
 K11 t94 w) (
 K11 undef w)
def n13c12 (t2 t3 t6 t30:Value) (K9:KW) (R:RT) (w:World):Prop :=
 opV Pg (Instr.indexAt 94 t30 (.int .i64 1)) (panK R) w fun t81 w =>
 L0 9 t81 R w fun t82 w =>
 F0 24 t2 0 R w fun t83 w =>
 opU Pg (Instr.storeAt 9 t83 t82) (panK R) w fun w =>
 K9 t3 t6 w
def n13c13 (t2 t3 t6 t12 t19 t27 t30 t35:Value) (K1:KV) (K9:KW) (R:RT) (w:World):Prop :=
 B0 .gtr 3 true t19 (.int .i64 0) R w fun t86 w =>
 joinK (fun (t89:Value) (w:World) =>
 n13c11 t2 t3 t6 t12 t19 t27 t30 t35 t86 t89 K1 K9 R w) fun K10 =>
 guardP t86 true (
 opV Pg (Op.unary .not t6) (panK R) w fun t89 w =>
 K10 t89 w) (
 K10 undef w)
def n13c14 (t2 t3 t6 t12 t19 t27 t30 t35 t72 t78:Value) (K1:KV) (next2:Value→Value→Value→World→Prop) (R:RT) (w:World):Prop :=
 pickK t72 t78 (.bool false) fun t79 =>
 joinK (fun (t3:Value) (t6:Value) (w:World) =>
 B0 .add 3 true t19 (.int .i64 1) R w fun t147 w =>
 next2 t3 t6 t147 w) fun K9 =>
 condP t79 (
 n13c12 t2 t3 t6 t30 K9 R w) (
 n13c13 t2 t3 t6 t12 t19 t27 t30 t35 K1 K9 R w)
def n13c15 (t2 t3 t6 t12 t19 t27 t30 t35 t66 t71:Value) (K1:KV) (next2:Value→Value→Value→World→Prop) (R:RT) (w:World):Prop :=
 pickK t66 t71 (.bool false) fun t72 =>
 joinK (fun (t78:Value) (w:World) =>
 n13c14 t2 t3 t6 t12 t19 t27 t30 t35 t72 t78 K1 next2 R w) fun K8 =>
 guardP t72 true (
 opV Pg (Instr.indexAt 94 t30 (.int .i64 1)) (panK R) w fun t75 w =>
 L0 9 t75 R w fun t76 w =>
 opV Pg (Instr.buildSlice 94 1 #[(0,t76)]) (panK R) w fun t77 w =>
 C0 52 #[t77] R w fun t78 w =>
 K8 t78 w) (
 K8 undef w)
def n13c16 (t2 t3 t6 t12 t19 t27 t30 t35 t61 t65:Value) (K1:KV) (next2:Value→Value→Value→World→Prop) (R:RT) (w:World):Prop :=
 pickK t61 t65 (.bool false) fun t66 =>
 joinK (fun (t71:Value) (w:World) =>
 n13c15 t2 t3 t6 t12 t19 t27 t30 t35 t66 t71 K1 next2 R w) fun K7 =>
 guardP t66 true (
 opV Pg (Instr.indexAt 94 t30 (.int .i64 0)) (panK R) w fun t69 w =>
 L0 9 t69 R w fun t70 w =>
 opV Pg (binS .eql 9 true t70 (.string { data := #[109,97,112,112,105,110,103] })) (panK R) w fun t71 w =>
 K7 t71 w) (
 K7 undef w)
def n13c17 (t2 t3 t6 t12 t19 t27 t30 t35:Value) (K1:KV) (next2:Value→Value→Value→World→Prop) (R:RT) (w:World):Prop :=
 B0 .eql 3 true t19 (.int .i64 0) R w fun t61 w =>
 joinK (fun (t65:Value) (w:World) =>
 n13c16 t2 t3 t6 t12 t19 t27 t30 t35 t61 t65 K1 next2 R w) fun K6 =>
 guardP t61 true (
 opV Pg (Builtin.len_ #[94] 3 #[t30]) (panK R) w fun t64 w =>
 B0 .eql 3 true t64 (.int .i64 2) R w fun t65 w =>
 K6 t65 w) (
 K6 undef w)
def n13c18 (t2:Value) (R:RT) (w:World):Prop :=
 L0 24 t2 R w fun t53 w =>
 opU Pg (Instr.storeAt 24 t2 t53) (panK R) w fun w =>
 qW Pg 24 t2 w fun r0 =>
 R (.returned (.tuple #[r0,(.int .i64 0),(.int .i64 0)])) w
def n13c19 (t2 t3 t6 t12 t19 t27 t28 t30 t35:Value) (K1:KV) (next2:Value→Value→Value→World→Prop) (R:RT) (w:World):Prop :=
 opV Pg (Op.unary .not t28) (panK R) w fun t56 w =>
 condP t56 (
 B0 .add 3 true t19 (.int .i64 1) R w fun t58 w =>
 K1 t58 w) (
 n13c17 t2 t3 t6 t12 t19 t27 t30 t35 K1 next2 R w)
def n13c20 (t2 t3 t6 t12 t19 t27 t28 t30 t35 t44 t47:Value) (K1:KV) (next2:Value→Value→Value→World→Prop) (R:RT) (w:World):Prop :=
 pickK t44 t47 (.bool false) fun t48 =>
 joinK (fun (t51:Value) (w:World) =>
 pickK t48 t51 (.bool false) fun t52 =>
 condP t52 (
 n13c18 t2 R w) (
 n13c19 t2 t3 t6 t12 t19 t27 t28 t30 t35 K1 next2 R w)) fun K5 =>
 guardP t48 true (
 opV Pg (Op.unary .not t6) (panK R) w fun t51 w =>
 K5 t51 w) (
 K5 undef w)
def n13c21 (t2 t3 t6 t12 t19 t27 t28 t30 t35 t40 t43:Value) (K1:KV) (next2:Value→Value→Value→World→Prop) (R:RT) (w:World):Prop :=
 pickK t40 t43 (.bool false) fun t44 =>
 joinK (fun (t47:Value) (w:World) =>
 n13c20 t2 t3 t6 t12 t19 t27 t28 t30 t35 t44 t47 K1 next2 R w) fun K4 =>
 guardP t44 true (
 B0 .gtr 3 true t19 (.int .i64 0) R w fun t47 w =>
 K4 t47 w) (
 K4 undef w)
def n13c22 (t2 t3 t6 t19 t27 t28 t30 t33:Value) (K1:KV) (next2:Value→Value→Value→World→Prop) (R:RT) (w:World):Prop :=
 opV Pg (Instr.extract t33 0) (panK R) w fun t34 w =>
 opV Pg (Instr.extract t33 1) (panK R) w fun t35 w =>
 opV Pg (Instr.alloc 43 true (.tuple #[])) (panK R) w fun t12 w =>
 opU Pg (Instr.storeAt 43 t12 t34) (panK R) w fun w =>
 opV Pg (Op.unary .not t28) (panK R) w fun t40 w =>
 joinK (fun (t43:Value) (w:World) =>
 n13c21 t2 t3 t6 t12 t19 t27 t28 t30 t35 t40 t43 K1 next2 R w) fun K3 =>
 guardP t40 true (
 opV Pg (binS .eql 9 true t27 (.string { data := #[] })) (panK R) w fun t43 w =>
 K3 t43 w) (
 K3 undef w)
def n13c23 (t2 t3 t6 t19 t26:Value) (K1:KV) (next2:Value→Value→Value→World→Prop) (R:RT) (w:World):Prop :=
 opV Pg (Instr.extract t26 0) (panK R) w fun t27 w =>
 opV Pg (Instr.extract t26 1) (panK R) w fun t28 w =>
 callK Pg 50 #[t27,(.string { data := #[32] })] (panK R) w fun t30 w =>
 C0 51 #[t27] R w fun t33 w =>
 n13c22 t2 t3 t6 t19 t27 t28 t30 t33 K1 next2 R w
def n13c24 (t2 t3 t6 t16 t19:Value) (K1:KV) (next2:Value→Value→Value→World→Prop) (R:RT) (w:World):Prop :=
 X0 94 t16 t19 R w fun t22 w =>
 L0 9 t22 R w fun t23 w =>
 callK Pg 49 #[t23,(.string { data := #[10] })] (panK R) w fun t26 w =>
 n13c23 t2 t3 t6 t19 t26 K1 next2 R w
def n13c25 (t2 t16:Value) (R:RT) (w:World):Prop :=
 opV Pg (Builtin.len_ #[94] 3 #[t16]) (panK R) w fun t18 w =>
 joinK (fun (t3:Value) (w:World) =>
 n13c1 t2 t3 R w) fun K1 =>
 loop3 (fun t3 t6 t19 w next2 =>
 B0 .lss 3 false t19 t18 R w fun t20 w =>
 condP t20 (
 n13c24 t2 t3 t6 t16 t19 K1 next2 R w) (
 K1 t3 w)) (.int .i64 0) (.bool false) (.int .i64 0) w
def n13 (t0:Value) (R:RT) (w:World):Prop :=
 opV Pg (Instr.alloc 24 true (.tuple #[])) (panK R) w fun t2 w =>
 callK Pg 48 #[t0,(.string { data := #[10] })] (panK R) w fun t16 w =>
 n13c25 t2 t16 R w
theorem n13s {t0:Value} {R:RT} {w:World} (h:n13 t0 R w):Calls Pg 22 #[t0] w R:=by
 refine yD Tryz.func22 ?_
 refine zs<|zr<|yv h fun _ w h=>zm<|zm<|zn<|zk<|sim_scope<|zs<|zr<|zm<|yc h c48 fun _ w h=>zm<|zn<|zk ?_
 refine zs<|zr<|zm<|zn<|zk<|zs<|sim_label<|zk<|zs<|zs<|zr<|zm<|yx h fun _ w h=>zm<|zn ?_
 refine zk<|yJ1 [3,4,6,7,8,9,10,11,12,13,14,19,20,21,22,23,24,25,26,27,28,29,30,31,32,33,34,35,36,37,38,39,40,41,42,43,44,45,46,47,48,49,50,51,52,53,54,55,56,57,58,59,60,61,62,63,64,65,66,67,68,69,70,71,72,73,74,75,76,77,78,79,80,81,82,83,84,85,86,87,88,89,90,91,92,93,94,95,96,97,98,99,100,101,102,103,104,105,106,107,108,109,110,111,112,113,114,115,116,117,118,119,120,121,122,123,124,125,126,127,128,129,130,131,132,133,134,135,136,137,138,139,140,141,142,143,144,145,146,147] 3 h (fun _ _ hkK1 h=>?_) fun σ w h=>?_
 · refine sim_block<|yl3 [3,4,6,7,8,9,10,11,12,13,14,19,20,21,22,23,24,25,26,27,28,29,30,31,32,33,34,35,36,37,38,39,40,41,42,43,44,45,46,47,48,49,50,51,52,53,54,55,56,57,58,59,60,61,62,63,64,65,66,67,68,69,70,71,72,73,74,75,76,77,78,79,80,81,82,83,84,85,86,87,88,89,90,91,92,93,94,95,96,97,98,99,100,101,102,103,104,105,106,107,108,109,110,111,112,113,114,115,116,117,118,119,120,121,122,123,124,125,126,127,128,129,130,131,132,133,134,135,136,137,138,139,140,141,142,143,144,145,146,147] 3 6 19 h fun σ w next h=>zs<|zr<|yb h fun _ w h=>zn<|zk<|zs<|yC h (fun h=>?_) fun h=>?_
   · refine sim_skip<|zk<|zs<|sim_block<|zs<|zr<|zm<|yv h fun _ w h=>yv h fun _ w h=>zm<|zm<|zn<|zk<|zs<|zr ?_
     refine zm<|yc h c49 fun _ w h=>zm<|yv h fun _ w h=>yv h fun _ w h=>zm<|zm<|zn<|zk<|zs<|zr<|zm<|yc h c50 fun _ w h=>zm<|zn ?_
     refine zk<|zs<|zr<|zm<|yc h c51 fun _ w h=>zm<|yv h fun _ w h=>yv h fun _ w h=>yv h fun _ w h=>yu h fun w h=>zm<|zn<|zk<|sim_block<|zs ?_
     refine sim_regionG<|yG 3<|zm<|yv h fun _ w h=>zm<|zn<|yg1 2 2 true [42,43] 43 h (fun _ T hT h=>?_) fun σ w h=>?_
     · refine zm<|yb h fun _ w h=>zn ?_
       exact zt hT h
     refine yG 2<|yp h fun _ h=>zm<|zn<|yg1 2 6 true [46,47] 47 h (fun _ T hT h=>?_) fun σ w h=>?_
     · refine zm<|yb h fun _ w h=>zn ?_
       exact zt hT h
     refine yG 2<|yp h fun _ h=>zm<|zn<|yg1 2 10 true [50,51] 51 h (fun _ T hT h=>?_) fun σ w h=>?_
     · refine zm<|yv h fun _ w h=>zn ?_
       exact zt hT h
     refine yG 2<|yp h fun _ h=>zm<|zn<|sim_end<|zk<|yC h (fun h=>?_) fun h=>?_
     · refine zs<|zr<|yv h fun _ w h=>yu h fun w h=>zm<|zm<|zn<|zk<|sim_ret<|sim_block_ret<|sim_block_ret<|sim_then_ret<|sim_then_ret<|sim_block_ret<|sim_then_ret ?_
       exact sim_then_ret<|body_retCTT rfl rfl rfl rfl h
     refine zs<|zr<|zm<|yv h fun _ w h=>zm<|zn<|zk<|yC h (fun h=>?_) fun h=>?_
     · refine zs<|zr<|zm<|yb h fun _ w h=>zm<|zn<|zk<|sim_exit<|sim_block_miss rfl<|sim_block_miss rfl<|sim_then_exit<|sim_then_exit<|sim_block_hit<|zk ?_
       exact zt hkK1 h
     refine zs<|sim_regionG<|yG 3<|zm<|yb h fun _ w h=>zm<|zn<|yg1 3 2 true [63,64,65] 65 h (fun _ T hT h=>?_) fun σ w h=>?_
     · refine zm<|yx h fun _ w h=>yb h fun _ w h=>zn ?_
       exact zt hT h
     refine yG 2<|yp h fun _ h=>zm<|zn<|yg1 4 7 true [68,69,70,71] 71 h (fun _ T hT h=>?_) fun σ w h=>?_
     · refine zm<|yv h fun _ w h=>yv h fun _ w h=>yb h fun _ w h=>zn ?_
       exact zt hT h
     refine yG 2<|yp h fun _ h=>zm<|zn<|yg1 5 13 true [74,75,76,77,78] 78 h (fun _ T hT h=>?_) fun σ w h=>?_
     · refine zm<|yv h fun _ w h=>yv h fun _ w h=>yS h fun _ w h=>yc h c52 fun _ w h=>zn ?_
       exact zt hT h
     refine yG 2<|yp h fun _ h=>zm<|zn<|sim_end<|zk<|yJ2 [3,6,14,36,37,80,81,82,83,84,85,86,87,88,89,90,91,92,93,94,95,96,97,98,99,100,101,102,103,104,105,106,107,108,109,110,111,112,113,114,115,116,117,118,119,120,121,122,123,124,125,126,127,128,129,130,131,132,133,134,135,136,137,138,139,140,141,142,143,144,145,146] 3 6 h (fun _ _ hkK9 h=>?_) fun σ w h=>?_
     · refine yC h (fun h=>?_) fun h=>?_
       · refine zr<|zm<|yv h fun _ w h=>yv h fun _ w h=>yv h fun _ w h=>yu h fun w h=>zn<|zk ?_
         exact zt hkK9 h
       refine zs<|sim_regionG<|yG 3<|zm<|yb h fun _ w h=>zm<|zn<|yg1 2 2 true [88,89] 89 h (fun _ T hT h=>?_) fun σ w h=>?_
       · refine zm<|yv h fun _ w h=>zn ?_
         exact zt hT h
       refine yG 2<|yp h fun _ h=>zm<|zn<|yg1 3 6 true [92,93,94] 94 h (fun _ T hT h=>?_) fun σ w h=>?_
       · refine zm<|yx h fun _ w h=>yb h fun _ w h=>zn ?_
         exact zt hT h
       refine yG 2<|yp h fun _ h=>zm<|zn<|yg1 4 11 true [97,98,99,100] 100 h (fun _ T hT h=>?_) fun σ w h=>?_
       · refine zm<|yv h fun _ w h=>yv h fun _ w h=>yb h fun _ w h=>zn ?_
         exact zt hT h
       refine yG 2<|yp h fun _ h=>zm<|zn<|yg1 3 17 true [103,104,105] 105 h (fun _ T hT h=>?_) fun σ w h=>?_
       · refine zm<|yv h fun _ w h=>yc h c52 fun _ w h=>zn ?_
         exact zt hT h
       refine yG 2<|yp h fun _ h=>zm<|zn<|sim_end<|zk<|yC h (fun h=>?_) fun h=>?_
       · refine zs<|yh [107,108,109,110,111,112,113,114,115,116,117,118] h fun C hC h=>ye 0 hC h fun _ h=>?_
         refine ye 1 hC h fun _ h=>?_
         refine yw 2 hC ?_
         refine ye 3 hC h fun _ h=>?_
         refine ye 4 hC h fun _ h=>?_
         refine yw 5 hC ?_
         refine ye 6 hC h fun _ h=>?_
         refine ye 7 hC h fun _ h=>?_
         refine ye 8 hC h fun _ h=>?_
         refine yo 9 ?_
         refine yS h fun _ w h=>zn ?_
         obtain ⟨hC,h⟩:=h
         refine ⟨hC,?_⟩
         refine yo 10 ?_
         refine yx h fun _ w h=>zn ?_
         obtain ⟨hC,h⟩:=h
         refine ⟨hC,?_⟩
         refine ye 11 hC h fun _ h=>?_
         refine yq 12 1 ?_
         refine yu h fun w h=>zn ?_
         obtain ⟨C15,hC,h⟩:=h
         refine ⟨C15,hC,?_⟩
         refine yz<|zk<|zr<|zm<|zn<|zk ?_
         exact zt hkK9 h
       refine zs<|sim_regionG<|yG 2<|zm<|zm<|zn<|yg1 2 1 true [122,123] 123 h (fun _ T hT h=>?_) fun σ w h=>?_
       · refine zm<|yb h fun _ w h=>zn ?_
         exact zt hT h
       refine yG 2<|yp h fun _ h=>zm<|zn<|sim_end<|zk<|yC h (fun h=>?_) fun h=>?_
       · refine zr<|zm<|zn<|zk ?_
         exact zt hkK9 h
       refine zs<|sim_regionG<|yG 2<|zm<|zm<|zn<|yg1 1 1 true [128] 128 h (fun _ T hT h=>?_) fun σ w h=>?_
       · refine zm<|zn ?_
         exact zt hT h
       refine yG 2<|yp h fun _ h=>zm<|zn<|sim_end<|zk<|yC h (fun h=>?_) fun h=>?_
       · refine zs<|zr<|yv h fun _ w h=>yv h fun _ w h=>yv h fun _ w h=>yv h fun _ w h=>yx h fun _ w h=>yb h fun _ w h=>yv h fun _ w h=>zm<|zn<|zk<|yh [137,138,139,140,141,142,143,144,145,146] h fun C hC h=>yw 0 hC ?_
         refine yw 1 hC ?_
         refine yn 2 hC h fun _ h=>?_
         refine ye 3 hC h fun _ h=>?_
         refine ye 4 hC h fun _ h=>?_
         refine ye 5 hC h fun _ h=>?_
         refine yo 6 ?_
         refine yS h fun _ w h=>zn ?_
         obtain ⟨hC,h⟩:=h
         refine ⟨hC,?_⟩
         refine yo 7 ?_
         refine yx h fun _ w h=>zn ?_
         obtain ⟨hC,h⟩:=h
         refine ⟨hC,?_⟩
         refine yn 8 hC h fun _ h=>?_
         refine ye 9 hC h fun _ h=>?_
         refine yq 10 2 ?_
         refine yu h fun w h=>zn ?_
         obtain ⟨C19,hC,h⟩:=h
         refine ⟨C19,hC,?_⟩
         refine yz<|zk ?_
         exact zt hkK9 h
       refine zs<|zr<|zm<|yb h fun _ w h=>zm<|zn<|zk<|sim_exit<|sim_then_exit<|sim_block_miss rfl<|sim_block_miss rfl<|sim_then_exit<|sim_then_exit<|sim_block_hit<|zk ?_
       exact zt hkK1 h
     exact sim_block_normal<|sim_block_normal<|zk<|zr<|yb h fun _ w h=>zm<|zn<|zk<|⟨rfl,h⟩
   refine sim_exit<|sim_then_exit<|sim_then_exit<|sim_block_hit<|zk ?_
   exact zt hkK1 h
 exact zk<|zs<|zr<|yB h fun _ w h=>zm<|yu h fun w h=>zm<|zm<|zn<|zk<|sim_ret<|body_retCTT rfl rfl rfl rfl h
theorem append_mr {w:World} {QP:List PanicEntry→World→Prop} {k:Value→World→Prop} {base:Nat} {v:Value} {l:List (Cs 3)} (x:Cs 3) {b:Nat} (h1:∀ u∈x.1,u.oneCell'=true) (hown:OwnE w base 60 3 Subtype.val v l) (hc:w.heap[b]?=some (.cells x.1.toArray 60 (0,0))) (hbase:base≤w.heap.size) (hl:l.length≤1048576)
 (hk:∀ v' w',OwnE w' base 60 3 Subtype.val v' (l++[x])→w.grownBy w' v.ownBlock→k v' w') :
 opV Pg (Builtin.append_ #[22,22] 22 #[v,.slice (some ⟨b,0,none⟩) 1 1]) QP w k:=by
 have hby:=by60
 refine op_appendE (l':=[x]) Tryz.underlying22 ty60 rfl Qj (fun x=>x.2) (fun y hy u hu=>by rw [List.mem_singleton.1 hy] at hu;exact h1 u hu) hown (fun j y hy=>?_) hbase ?_ (by simp;omega) hk
 · cases j with
   | zero =>
    simp at hy;subst hy
    intro j v hv
    rw [(cells_of_heap hc).1]
    simpa using hv
   | succ j=>simp at hy
 · simp only [List.length_cons,List.length_nil]
   exact Nat.le_trans (Nat.mul_le_mul (Nat.add_le_add_right hl 1) hby) Qj
theorem append_fr {w:World} {QP:List PanicEntry→World→Prop} {k:Value→World→Prop} {base:Nat} {v:Value} {l:List (Cs 7)} (x:Cs 7) {b:Nat} (h1:∀ u∈x.1,u.oneCell'=true) (hown:OwnE w base 43 7 Subtype.val v l) (hc:w.heap[b]?=some (.cells x.1.toArray 43 (0,0))) (hbase:base≤w.heap.size) (hl:l.length≤1048576)
 (hk:∀ v' w',OwnE w' base 43 7 Subtype.val v' (l++[x])→w.grownBy w' v.ownBlock→k v' w') :
 opV Pg (Builtin.append_ #[58,58] 58 #[v,.slice (some ⟨b,0,none⟩) 1 1]) QP w k:=by
 have hby:=by43
 refine op_appendE (l':=[x]) Tryz.underlying58 ty43 rfl Qj (fun x=>x.2) (fun y hy u hu=>by rw [List.mem_singleton.1 hy] at hu;exact h1 u hu) hown (fun j y hy=>?_) hbase ?_ (by simp;omega) hk
 · cases j with
   | zero =>
    simp at hy;subst hy
    intro j v hv
    rw [(cells_of_heap hc).1]
    simpa using hv
   | succ j=>simp at hy
 · simp only [List.length_cons,List.length_nil]
   exact Nat.le_trans (Nat.mul_le_mul (Nat.add_le_add_right hl 1) hby) Qj
section
variable {α:Type} {w w':World} {b0 lo hi lo2 n:Nat} {fv v:Value} {fs:List FrD} {cs:List Value} {x:FrD} {r:MrD} {T:TypeId} {enc:α→List Value} {l:List α}
theorem own_grow (hO:OwnE w lo2 T n enc v l) (hg:w.grownBy w' v.ownBlock):Ext w w'∨∃ g oc f,v.ownBlock=some g∧w.heap[g]?=some (.cells oc T f)∧Chg g w w':=by
 rcases hO.2 with ⟨rfl,_⟩ | ⟨g',cap,cur,rfl,_,hg',_⟩
 · exact .inl ((Ext.refl w).grown hg fun k hk=>by cases hk)
 · exact .inr ⟨g',_,_,rfl,hg',hg.size,fun b hb hne=>hg.block b hb fun e=>hne (by injection e)⟩
theorem E7.grow (h:E7 w b0 cs x) (hO:OwnE w lo2 T n enc v l) (hg:w.grownBy w' v.ownBlock) (h1:5≠T) (h2:78≠T):E7 w' b0 cs x:=by
 rcases own_grow hO hg with e | ⟨g,oc,f,_,ho,hc⟩
 · exact h.ext e
 · exact h.chg hc ho h1 h2
theorem own_ne {b:Nat} {oc:Array Value} {T':TypeId} {f:Nat×Nat} (hO:OwnE w lo2 T n enc v l) (hb:w.heap[b]?=some (.cells oc T' f)) (hT:T'≠T):b≠v.ownBlock.getD w.heap.size:=by
 have hlt:=(Qk hb).1
 rcases hO.2 with ⟨rfl,_⟩ | ⟨g',cap,cur,rfl,_,hg',_⟩
 · show b≠w.heap.size
   omega
 · show b≠g'
   rintro rfl
   rw [hb] at hg'
   injection hg' with hg'
   injection hg' with _ hg'
   exact hT hg'
theorem grow_obj {b:Nat} {oc:Array Value} {T':TypeId} {f:Nat×Nat} (hO:OwnE w lo2 T n enc v l) (hg:w.grownBy w' v.ownBlock) (hb:w.heap[b]?=some (.cells oc T' f)) (hT:T'≠T):w'.heap[b]?=some (.cells oc T' f):=by
 rw [hg.block b (Qk hb).1 fun e=>own_ne hO hb hT (by rw [← e];rfl)]
 exact hb
end
structure LnS (b16:Nat) (lcs:Array Value) (w0 w w1:World) (p2 p12 B bw:Nat) (st:PsD) (rv:Value) (x:List UInt8) (y:FrD) (bv tv:Value) (ok:Bool):Prop where
 ps:PS b16 lcs w0 w1 p2 B st rv
 e:Ext w1 w
 lb:w1.heap.size≤bw
 wd:StrsL w (.slice (some ⟨bw,0,none⟩) (cutL 32 x).length (cutL 32 x).length) ((cutL 32 x).map mkB)
 l12:w1.heap.size≤p12
 o12:w.heap[p12]?=some (.cells (frCells y bv tv).toArray 43 (0,0))
 ob:OwnE w w0.heap.size 5 1 byteEnc bv y.bytes
 ot:OwnE w w0.heap.size 78 3 rowCells tv y.table
 rd:(ok=true∧lineO x=some y)∨(ok=false∧lineO x=none)
def nFit:FrD:=⟨⟨#[110]⟩,7,⟨#[]⟩,0,0,[],[]⟩
def bCopy:FrD:=⟨⟨#[98]⟩,1,⟨#[98]⟩,0,0,[],[]⟩
def nCopy:FrD:=⟨⟨#[110]⟩,1,⟨#[98]⟩,0,0,[],[]⟩
def plainM:MapD:=⟨⟨#[109]⟩,[⟨⟨#[65]⟩,⟨#[65]⟩,[nFit,bCopy]⟩]⟩
def nF:FieldD:=⟨⟨#[110]⟩,1,8,false,false,0,255,0,[],⟨#[]⟩,⟨#[]⟩,⟨#[]⟩,[],0,0⟩
def bF:FieldD:=⟨⟨#[98]⟩,4,0,false,false,0,0,0,[⟨⟨#[110]⟩,1⟩],⟨#[]⟩,⟨#[]⟩,⟨#[]⟩,[],0,0⟩
def smallD:DefD:=⟨⟨#[100]⟩,[⟨⟨#[65]⟩,[nF,bF]⟩],⟨#[65]⟩⟩
theorem heap_alloc (w:World) (o:Obj) (k:Nat):(w.alloc o).heap[k]?=if k=w.heap.size then some o else w.heap[k]?:=by
 simp only [World.alloc,Array.getElem?_push]
theorem slice_at {α:Type} {w:World} {b n:Nat} {T:TypeId} {E:World→List Value→α→Prop} {cs:Array Value} {l:List α} (ho:w.heap[b]?=some (.cells cs T (0,0))) (hl:l.length≤1000) (h:∀ k x,l[k]?=some x→∃ c:List Value,c.length=n∧(cs.toList.drop (k*n)).take n=c∧E w c x):SliceOf w n E (.slice (some ⟨b,0,none⟩) l.length l.length) l:=by
 refine ⟨_,_,rfl,Nat.le_refl _,by omega,fun _=>⟨b,0,rfl,fun k x hx=>?_⟩⟩
 obtain ⟨c,h1,h2,h3⟩:=h k x hx
 refine ⟨c,h1,fun j v hv=>?_,h3⟩
 rw [(cells_of_heap ho).1,Nat.zero_add,← Array.getElem?_toList]
 have hj:j < n:=by rw [← h1];exact (Qv hv).1
 rw [← h2,List.getElem?_take,if_pos hj,List.getElem?_drop] at hv
 exact hv
abbrev nilS:Value := .slice none 0 0
structure PlAt (w0 w:World) (v:Value) (bF bM:Nat):Prop where
 e:Ext w0 w
 lF:w0.heap.size≤bF
 lM:w0.heap.size≤bM
 ne:bF≠bM
 oF:w.heap[bF]?=some (.cells (frCells nFit nilS nilS++frCells bCopy nilS nilS).toArray 43 (0,0))
 oM:w.heap[bM]?=some (.cells #[.string ⟨#[65]⟩,.string ⟨#[65]⟩,.slice (some ⟨bF,0,none⟩) 2 2] 60 (0,0))
 v:v = .agg #[.string ⟨#[109]⟩,.slice (some ⟨bM,0,none⟩) 1 1]
theorem plain_ret (w0:World):Ret Pg 30 #[] w0 fun r w'=>∃ bF bM,PlAt w0 w' r bF bM:=by
 refine n43s (R:=retR _) ?_;unfold n43
 refine Qf ?_
 refine ⟨w0.heap.size+1,w0.heap.size+1+1,ee,by omega,by omega,by omega,?_,?_,rfl⟩
 · repeat (first | rw [heap_alloc,if_neg (by simp only [World.size_alloc];omega)] | rw [heap_alloc,if_pos (by simp only [World.size_alloc])])
   rfl
 · repeat (first | rw [heap_alloc,if_neg (by simp only [World.size_alloc];omega)] | rw [heap_alloc,if_pos (by simp only [World.size_alloc])])
theorem fr_nil (w:World) (x:FrD) (hb:x.bytes=[]) (ht:x.table=[]):EFr w (frCells x nilS nilS) x:=⟨_,_,rfl,by rw [hb];exact SliceOf.nil ..,by rw [ht];exact SliceOf.nil ..⟩
theorem frs_two {w:World} {b:Nat} {x y:FrD} (ho:w.heap[b]?=some (.cells (frCells x nilS nilS++frCells y nilS nilS).toArray 43 (0,0))) (hx:x.bytes=[]) (hx':x.table=[]) (hy:y.bytes=[]) (hy':y.table=[]):FrsOf w (.slice (some ⟨b,0,none⟩) 2 2) [x,y]:=by
 refine slice_at (l:=[x,y]) ho (by simp) fun k z hz=>?_
 match k,hz with
 | 0,hz=>cases hz;exact ⟨_,rfl,rfl,fr_nil w _ hx hx'⟩
 | 1,hz=>cases hz;exact ⟨_,rfl,rfl,fr_nil w _ hy hy'⟩
 | _+2,hz=>simp at hz
theorem mrs_one {w:World} {b:Nat} {r:MrD} {fv:Value} (ho:w.heap[b]?=some (.cells (mrCells r fv).toArray 60 (0,0))) (hf:FrsOf w fv r.fields):MrsOf w (.slice (some ⟨b,0,none⟩) 1 1) [r]:=by
 refine slice_at (l:=[r]) ho (by simp) fun k z hz=>?_
 match k,hz with
 | 0,hz=>cases hz;exact ⟨_,rfl,rfl,fv,rfl,hf⟩
 | _+1,hz=>simp at hz
theorem PlAt.val {w0 w:World} {v:Value} {bF bM:Nat} (h:PlAt w0 w v bF bM):MapVal w v plainM:=⟨_,h.v,mrs_one h.oM (frs_two h.oF rfl rfl rfl rfl)⟩
theorem dsmall_ret (w0:World):Ret Pg 31 #[] w0 fun r w'=>DefVal w' r smallD∧Ext w0 w':=by
 refine n44s (R:=retR _) ?_;unfold n44
 refine Qf ?_
 refine ⟨⟨_,rfl,?_⟩,ee⟩
 generalize hW:World.alloc _ _=W
 have o1:W.heap[w0.heap.size+1+1]?=some (.cells #[.string ⟨#[110]⟩,.int .i64 1] 128 (0,0)):=by rw [← hW]; (repeat (first | rw [heap_alloc,if_neg (by simp only [World.size_alloc];omega)] | rw [heap_alloc,if_pos (by simp only [World.size_alloc])]));try rfl
 have o2:W.heap[w0.heap.size+1+1+1+1]?=some (.cells (fieldCells nF nilS nilS++fieldCells bF (.slice (some ⟨w0.heap.size+1+1,0,none⟩) 1 1) nilS).toArray 123 (0,0)):=by rw [← hW]; (repeat (first | rw [heap_alloc,if_neg (by simp only [World.size_alloc];omega)] | rw [heap_alloc,if_pos (by simp only [World.size_alloc])]));try rfl
 have o3:W.heap[w0.heap.size+1+1+1+1+1]?=some (.cells (msgCells ⟨⟨#[65]⟩,[nF,bF]⟩ (.slice (some ⟨w0.heap.size+1+1+1+1,0,none⟩) 2 2)).toArray 74 (0,0)):=by rw [← hW]; (repeat (first | rw [heap_alloc,if_neg (by simp only [World.size_alloc];omega)] | rw [heap_alloc,if_pos (by simp only [World.size_alloc])]));try rfl
 refine slice_at (l:=smallD.msgs) o3 Qj fun k z hz=>?_
 match k,hz with
 | 0,hz =>
  cases hz
  refine ⟨_,rfl,rfl,_,rfl,slice_at (l:=[nF,bF]) o2 (by simp) fun k z hz=>?_⟩
  match k,hz with
  | 0,hz=>cases hz;exact ⟨_,rfl,rfl,_,_,rfl,SliceOf.nil ..,SliceOf.nil ..⟩
  | 1,hz =>
   cases hz
   refine ⟨_,rfl,rfl,_,_,rfl,slice_at (l:=bF.terms) o1 Qj fun k z hz=>?_,SliceOf.nil ..⟩
   match k,hz with
   | 0,hz=>cases hz;exact ⟨_,rfl,rfl,rfl⟩
   | _+1,hz=>simp [bF] at hz
  | _+2,hz=>simp at hz
 | _+1,hz=>simp [smallD] at hz
def shortM:MapD:=⟨⟨#[109]⟩,[⟨⟨#[65]⟩,⟨#[65]⟩,[nFit]⟩]⟩
def wrongM:MapD:=⟨⟨#[109]⟩,[⟨⟨#[65]⟩,⟨#[65]⟩,[nCopy,bCopy]⟩]⟩
theorem k_plain:mapC plainM smallD smallD=none:=by rfl
theorem k_short:mapC shortM smallD smallD=some (0,-1,10):=by rfl
theorem k_wrong:mapC wrongM smallD smallD=some (0,0,5):=by rfl
theorem k_cut:cutL 10 [109,97,112,112,105,110,103,32,109,10,109,97,112,32,65]=[[109,97,112,112,105,110,103,32,109],[109,97,112,32,65]]:=by rfl
def kAdd:FrD:=⟨⟨#[]⟩,2,⟨#[]⟩,5,0,[],[]⟩
def kTab:FrD:=⟨⟨#[]⟩,5,⟨#[]⟩,0,0,[],[⟨1,2,9⟩]⟩
theorem k_n1:numU (numM kAdd 3) = .tuple #[.int .i64 8,.bool true]:=by rfl
theorem k_n2:numU (numM kTab 2) = .tuple #[.int .i64 9,.bool true]:=by rfl
theorem k_n3:numU (numM kTab 3) = .tuple #[.int .i64 0,.bool false]:=by rfl
theorem k_in:∀ m∈[plainM,shortM,wrongM],∀ r∈m.rules,∀ x∈r.fields,inF x=true:=Qj
def n41c1 (t108 t124 t127:Value) (R:RT) (w:World):Prop :=
 pickK t124 t127 (.bool false) fun t128 =>
 joinK (fun (t131:Value) (w:World) =>
 pickK t128 t131 (.bool false) fun t132 =>
 R (.returned t132) w) fun K17 =>
 guardP t128 true (
 B0 .eql 49 true t108 (.int .i64 6) R w fun t131 w =>
 K17 t131 w) (
 K17 undef w)
def n41c2 (t107 t108 t120 t123:Value) (R:RT) (w:World):Prop :=
 pickK t120 t123 (.bool false) fun t124 =>
 joinK (fun (t127:Value) (w:World) =>
 n41c1 t108 t124 t127 R w) fun K16 =>
 guardP t124 true (
 B0 .eql 3 true t107 (.int .i64 2) R w fun t127 w =>
 K16 t127 w) (
 K16 undef w)
def n41c3 (t103 t107 t108 t117 t119:Value) (R:RT) (w:World):Prop :=
 pickK t117 t119 (.bool false) fun t120 =>
 joinK (fun (t123:Value) (w:World) =>
 n41c2 t107 t108 t120 t123 R w) fun K15 =>
 guardP t120 true (
 opV Pg (Op.unary .not t103) (panK R) w fun t123 w =>
 K15 t123 w) (
 K15 undef w)
def n41c4 (t98 t103 t107 t108 t113 t116:Value) (R:RT) (w:World):Prop :=
 pickK t113 t116 (.bool false) fun t117 =>
 joinK (fun (t119:Value) (w:World) =>
 n41c3 t103 t107 t108 t117 t119 R w) fun K14 =>
 guardP t117 true (
 K14 t98 w) (
 K14 undef w)
def n41c5 (t97 t98 t103 t107 t108 t110 t112:Value) (R:RT) (w:World):Prop :=
 pickK t110 t112 (.bool false) fun t113 =>
 joinK (fun (t116:Value) (w:World) =>
 n41c4 t98 t103 t107 t108 t113 t116 R w) fun K13 =>
 guardP t113 true (
 B0 .eql 3 true t97 (.int .i64 9) R w fun t116 w =>
 K13 t116 w) (
 K13 undef w)
def n41c6 (t92 t93 t97 t98 t103 t105:Value) (R:RT) (w:World):Prop :=
 opV Pg (Instr.extract t105 0) (panK R) w fun t106 w =>
 opV Pg (Instr.extract t105 1) (panK R) w fun t107 w =>
 opV Pg (Instr.extract t105 2) (panK R) w fun t108 w =>
 opV Pg (Instr.alloc 24 true (.tuple #[])) (panK R) w fun t16 w =>
 opU Pg (Instr.storeAt 24 t16 t106) (panK R) w fun w =>
 B0 .eql 3 true t92 (.int .i64 8) R w fun t110 w =>
 joinK (fun (t112:Value) (w:World) =>
 n41c5 t97 t98 t103 t107 t108 t110 t112 R w) fun K12 =>
 guardP t110 true (
 K12 t93 w) (
 K12 undef w)
def n41c7 (t92 t93 t97 t98 t101:Value) (R:RT) (w:World):Prop :=
 opV Pg (Instr.extract t101 0) (panK R) w fun t102 w =>
 opV Pg (Instr.extract t101 1) (panK R) w fun t103 w =>
 callK Pg 22 #[(.string { data := #[109,97,112,112,105,110,103,32,109,10,109,97,112,32,65] })] (panK R) w fun t105 w =>
 n41c6 t92 t93 t97 t98 t103 t105 R w
def n41c8 (t9 t92 t93 t96:Value) (R:RT) (w:World):Prop :=
 opV Pg (Instr.extract t96 0) (panK R) w fun t97 w =>
 opV Pg (Instr.extract t96 1) (panK R) w fun t98 w =>
 L0 43 t9 R w fun t100 w =>
 C0 18 #[t100,(.int .i64 3)] R w fun t101 w =>
 n41c7 t92 t93 t97 t98 t101 R w
def n41c9 (t9 t91:Value) (R:RT) (w:World):Prop :=
 opV Pg (Instr.extract t91 0) (panK R) w fun t92 w =>
 opV Pg (Instr.extract t91 1) (panK R) w fun t93 w =>
 L0 43 t9 R w fun t95 w =>
 C0 18 #[t95,(.int .i64 2)] R w fun t96 w =>
 n41c8 t9 t92 t93 t96 R w
def n41c10 (R:RT) (w:World):Prop :=
 opV Pg (Instr.build 78 #[(0,(.int .i64 1)),(1,(.int .i64 2)),(2,(.int .i64 9))]) (panK R) w fun t86 w =>
 opV Pg (Instr.buildSlice 41 1 #[(0,t86)]) (panK R) w fun t87 w =>
 opV Pg (Instr.build 43 #[(1,(.int .i64 5)),(6,t87)]) (panK R) w fun t88 w =>
 opV Pg (Instr.alloc 43 true (.tuple #[])) (panK R) w fun t9 w =>
 opU Pg (Instr.storeAt 43 t9 t88) (panK R) w fun w =>
 opV Pg (Instr.build 43 #[(1,(.int .i64 2)),(3,(.int .i64 5))]) (panK R) w fun t90 w =>
 C0 18 #[t90,(.int .i64 3)] R w fun t91 w =>
 n41c9 t9 t91 R w
def n41c11 (t8 t77 t80:Value) (R:RT) (w:World):Prop :=
 pickK t77 (.bool true) t80 fun t81 =>
 joinK (fun (t84:Value) (w:World) =>
 pickK t81 (.bool true) t84 fun t85 =>
 condP t85 (
 R (.returned (.bool false)) w) (
 n41c10 R w)) fun K11 =>
 guardP t81 false (
 opV Pg (Op.unary .not t8) (panK R) w fun t84 w =>
 K11 t84 w) (
 K11 undef w)
def n41c12 (t6 t8 t72 t76:Value) (R:RT) (w:World):Prop :=
 pickK t72 (.bool true) t76 fun t77 =>
 joinK (fun (t80:Value) (w:World) =>
 n41c11 t8 t77 t80 R w) fun K10 =>
 guardP t77 false (
 opV Pg (Op.unary .not t6) (panK R) w fun t80 w =>
 K10 t80 w) (
 K10 undef w)
def n41c13 (t5 t6 t7 t8:Value) (R:RT) (w:World):Prop :=
 L0 34 t5 R w fun t70 w =>
 opV Pg (Instr.build 34 #[(0,(.int .i64 0)),(1,(.int .i64 (-1))),(2,(.int .i64 10))]) (panK R) w fun t71 w =>
 B0 .neq 34 false t70 t71 R w fun t72 w =>
 joinK (fun (t76:Value) (w:World) =>
 n41c12 t6 t8 t72 t76 R w) fun K9 =>
 guardP t72 false (
 L0 34 t7 R w fun t74 w =>
 opV Pg (Instr.build 34 #[(2,(.int .i64 5))]) (panK R) w fun t75 w =>
 B0 .neq 34 false t74 t75 R w fun t76 w =>
 K9 t76 w) (
 K9 undef w)
def n41c14 (t67:Value) (C7:World→Prop) (K8:KW) (R:RT) (w:World):Prop :=
 qV Pg C7 (Instr.extract t67 0) fun t68 =>
 qV Pg C7 (Instr.extract t67 1) fun t69 =>
 opV Pg (Instr.alloc 34 true (.tuple #[])) (panK R) w fun t7 w =>
 C7 w∧(
 opU Pg (Instr.storeAt 34 t7 t68) (panK R) w fun w =>
 C7 w∧(
 K8 t7 t69 w))
def n41c15 (t7 t67:Value) (C7:World→Prop) (K8:KW) (R:RT) (w:World):Prop :=
 C7 w∧(
 qV Pg C7 (Instr.extract t67 0) fun t68 =>
 qV Pg C7 (Instr.extract t67 1) fun t69 =>
 opU Pg (Instr.storeAt 34 t7 t68) (panK R) w fun w =>
 C7 w∧(
 K8 t7 t69 w))
def n41c16 (t64 t65 t66:Value) (C7:World→Prop) (K8:KW) (R:RT) (w:World):Prop :=
 (
 C0 14 #[t64,t65,t66] R w fun t67 w =>
 C7 w∧(
 n41c14 t67 C7 K8 R w))∧(
 opV Pg (Instr.alloc 34 true (.tuple #[])) (panK R) w fun t7 w =>
 C7 w∧(
 C0 14 #[t64,t65,t66] R w fun t67 w =>
 n41c15 t7 t67 C7 K8 R w))
def n41c17 (t7 t67:Value) (C7:World→Prop) (K8:KW) (R:RT) (w:World):Prop :=
 C7 w∧(
 qV Pg C7 (Instr.extract t67 0) fun t68 =>
 qV Pg C7 (Instr.extract t67 1) fun t69 =>
 opU Pg (Instr.storeAt 34 t7 t68) (panK R) w fun w =>
 C7 w∧(
 K8 t7 t69 w))
def n41c18 (t64 t65:Value) (C7:World→Prop) (K8:KW) (R:RT) (w:World):Prop :=
 (
 C0 31 #[] R w fun t66 w =>
 C7 w∧(
 n41c16 t64 t65 t66 C7 K8 R w))∧(
 opV Pg (Instr.alloc 34 true (.tuple #[])) (panK R) w fun t7 w =>
 C7 w∧(
 C0 31 #[] R w fun t66 w =>
 C7 w∧(
 C0 14 #[t64,t65,t66] R w fun t67 w =>
 n41c17 t7 t67 C7 K8 R w)))
def n41c19 (t7 t67:Value) (C7:World→Prop) (K8:KW) (R:RT) (w:World):Prop :=
 C7 w∧(
 qV Pg C7 (Instr.extract t67 0) fun t68 =>
 qV Pg C7 (Instr.extract t67 1) fun t69 =>
 opU Pg (Instr.storeAt 34 t7 t68) (panK R) w fun w =>
 C7 w∧(
 K8 t7 t69 w))
def n41c20 (t7 t64:Value) (C7:World→Prop) (K8:KW) (R:RT) (w:World):Prop :=
 C0 31 #[] R w fun t65 w =>
 C7 w∧(
 C0 31 #[] R w fun t66 w =>
 C7 w∧(
 C0 14 #[t64,t65,t66] R w fun t67 w =>
 n41c19 t7 t67 C7 K8 R w))
def n41c21 (t4 t5 t6:Value) (C7:World→Prop) (R:RT) (w:World):Prop :=
 qV Pg C7 (Instr.loadAt 24 t4) fun t64 =>
 joinK (fun (t7:Value) (t8:Value) (w:World) =>
 n41c13 t5 t6 t7 t8 R w) fun K8 =>
 (
 C0 31 #[] R w fun t65 w =>
 C7 w∧(
 n41c18 t64 t65 C7 K8 R w))∧(
 opV Pg (Instr.alloc 34 true (.tuple #[])) (panK R) w fun t7 w =>
 C7 w∧(
 n41c20 t7 t64 C7 K8 R w))
def n41c22 (t60:Value) (C5:World→Prop) (K6:KW) (R:RT) (w:World):Prop :=
 qV Pg C5 (Instr.extract t60 0) fun t61 =>
 qV Pg C5 (Instr.extract t60 1) fun t62 =>
 opV Pg (Instr.alloc 34 true (.tuple #[])) (panK R) w fun t5 w =>
 C5 w∧(
 opU Pg (Instr.storeAt 34 t5 t61) (panK R) w fun w =>
 C5 w∧(
 K6 t5 t62 w))
def n41c23 (t5 t60:Value) (C5:World→Prop) (K6:KW) (R:RT) (w:World):Prop :=
 C5 w∧(
 qV Pg C5 (Instr.extract t60 0) fun t61 =>
 qV Pg C5 (Instr.extract t60 1) fun t62 =>
 opU Pg (Instr.storeAt 34 t5 t61) (panK R) w fun w =>
 C5 w∧(
 K6 t5 t62 w))
def n41c24 (t57 t58 t59:Value) (C5:World→Prop) (K6:KW) (R:RT) (w:World):Prop :=
 (
 C0 14 #[t57,t58,t59] R w fun t60 w =>
 C5 w∧(
 n41c22 t60 C5 K6 R w))∧(
 opV Pg (Instr.alloc 34 true (.tuple #[])) (panK R) w fun t5 w =>
 C5 w∧(
 C0 14 #[t57,t58,t59] R w fun t60 w =>
 n41c23 t5 t60 C5 K6 R w))
def n41c25 (t5 t60:Value) (C5:World→Prop) (K6:KW) (R:RT) (w:World):Prop :=
 C5 w∧(
 qV Pg C5 (Instr.extract t60 0) fun t61 =>
 qV Pg C5 (Instr.extract t60 1) fun t62 =>
 opU Pg (Instr.storeAt 34 t5 t61) (panK R) w fun w =>
 C5 w∧(
 K6 t5 t62 w))
def n41c26 (t57 t58:Value) (C5:World→Prop) (K6:KW) (R:RT) (w:World):Prop :=
 (
 C0 31 #[] R w fun t59 w =>
 C5 w∧(
 n41c24 t57 t58 t59 C5 K6 R w))∧(
 opV Pg (Instr.alloc 34 true (.tuple #[])) (panK R) w fun t5 w =>
 C5 w∧(
 C0 31 #[] R w fun t59 w =>
 C5 w∧(
 C0 14 #[t57,t58,t59] R w fun t60 w =>
 n41c25 t5 t60 C5 K6 R w)))
def n41c27 (t5 t60:Value) (C5:World→Prop) (K6:KW) (R:RT) (w:World):Prop :=
 C5 w∧(
 qV Pg C5 (Instr.extract t60 0) fun t61 =>
 qV Pg C5 (Instr.extract t60 1) fun t62 =>
 opU Pg (Instr.storeAt 34 t5 t61) (panK R) w fun w =>
 C5 w∧(
 K6 t5 t62 w))
def n41c28 (t5 t57:Value) (C5:World→Prop) (K6:KW) (R:RT) (w:World):Prop :=
 C0 31 #[] R w fun t58 w =>
 C5 w∧(
 C0 31 #[] R w fun t59 w =>
 C5 w∧(
 C0 14 #[t57,t58,t59] R w fun t60 w =>
 n41c27 t5 t60 C5 K6 R w))
def n41c29 (t3 t4:Value) (C5:World→Prop) (R:RT) (w:World):Prop :=
 qV Pg C5 (Instr.loadAt 24 t3) fun t57 =>
 joinK (fun (t5:Value) (t6:Value) (w:World) =>
 drawK w fun C7 w =>
 n41c21 t4 t5 t6 C7 R w) fun K6 =>
 (
 C0 31 #[] R w fun t58 w =>
 C5 w∧(
 n41c26 t57 t58 C5 K6 R w))∧(
 opV Pg (Instr.alloc 34 true (.tuple #[])) (panK R) w fun t5 w =>
 C5 w∧(
 n41c28 t5 t57 C5 K6 R w))
def n41c30 (t3 t4:Value) (R:RT) (w:World):Prop :=
 F0 24 t4 1 R w fun t49 w =>
 L0 22 t49 R w fun t50 w =>
 opV Pg (Instr.indexAt 22 t50 (.int .i64 0)) (panK R) w fun t51 w =>
 F0 60 t51 2 R w fun t52 w =>
 L0 58 t52 R w fun t53 w =>
 opV Pg (Instr.build 43 #[(0,(.string { data := #[110] })),(1,(.int .i64 1)),(2,(.string { data := #[98] }))]) (panK R) w fun t54 w =>
 opV Pg (Instr.indexAt 58 t53 (.int .i64 0)) (panK R) w fun t55 w =>
 opU Pg (Instr.storeAt 43 t55 t54) (panK R) w fun w =>
 drawK w fun C5 w =>
 n41c29 t3 t4 C5 R w
def n41c31 (t3 t4:Value) (C3:World→Prop) (R:RT) (w:World):Prop :=
 qV Pg C3 (Instr.fieldAt 24 t3 1) fun t39 =>
 qV Pg C3 (Instr.loadAt 22 t39) fun t40 =>
 qV Pg C3 (Instr.fieldAt 24 t3 1) fun t41 =>
 qV Pg C3 (Instr.loadAt 22 t41) fun t42 =>
 qV Pg C3 (Instr.indexAt 22 t42 (.int .i64 0)) fun t43 =>
 qV Pg C3 (Instr.fieldAt 60 t43 2) fun t44 =>
 qV Pg C3 (Instr.loadAt 58 t44) fun t45 =>
 qV Pg C3 (Instr.sliceAt 58 t45 none (some (.int .i64 1)) none) fun t46 =>
 qV Pg C3 (Instr.indexAt 22 t40 (.int .i64 0)) fun t47 =>
 qV Pg C3 (Instr.fieldAt 60 t47 2) fun t48 =>
 opU Pg (Instr.storeAt 58 t48 t46) (panK R) w fun w =>
 turnK w fun C4 w =>
 n41c30 t3 t4 R w
def n41c32 (t37 t38:Value) (R:RT) (w:World):Prop :=
 opV Pg (Instr.alloc 24 true (.tuple #[])) (panK R) w fun t3 w =>
 opV Pg (Instr.alloc 24 true (.tuple #[])) (panK R) w fun t4 w =>
 opU Pg (Instr.storeAt 24 t3 t37) (panK R) w fun w =>
 opU Pg (Instr.storeAt 24 t4 t38) (panK R) w fun w =>
 drawK w fun C3 w =>
 n41c31 t3 t4 C3 R w
def n41c33 (t29 t35:Value) (R:RT) (w:World):Prop :=
 pickK t29 (.bool true) t35 fun t36 =>
 condP t36 (
 R (.returned (.bool false)) w) (
 C0 30 #[] R w fun t37 w =>
 C0 30 #[] R w fun t38 w =>
 n41c32 t37 t38 R w)
def n41c34 (t31:Value) (K2:KV) (R:RT) (w:World):Prop :=
 C0 31 #[] R w fun t32 w =>
 C0 31 #[] R w fun t33 w =>
 C0 16 #[t31,t32,t33] R w fun t34 w =>
 opV Pg (Op.unary .not t34) (panK R) w fun t35 w =>
 K2 t35 w
def n41c35 (t25 t28:Value) (R:RT) (w:World):Prop :=
 pickK t25 (.bool true) t28 fun t29 =>
 joinK (fun (t35:Value) (w:World) =>
 n41c33 t29 t35 R w) fun K2 =>
 guardP t29 false (
 C0 30 #[] R w fun t31 w =>
 n41c34 t31 K2 R w) (
 K2 undef w)
def n41c36 (t21:Value) (R:RT) (w:World):Prop :=
 opV Pg (Instr.extract t21 0) (panK R) w fun t22 w =>
 opV Pg (Instr.extract t21 1) (panK R) w fun t23 w =>
 opV Pg (binS .neq 9 true t22 (.string { data := #[109,97,112,112,105,110,103,32,109,10,109,97,112,32,65,32,65,10,110,32,102,105,116,10,98,32,99,111,112,121,32,98,10,101,110,100,10] })) (panK R) w fun t25 w =>
 joinK (fun (t28:Value) (w:World) =>
 n41c35 t25 t28 R w) fun K1 =>
 guardP t25 false (
 B0 .neq 49 true t23 (.int .i64 0) R w fun t28 w =>
 K1 t28 w) (
 K1 undef w)
def n41 (R:RT) (w:World):Prop :=
 C0 30 #[] R w fun t20 w =>
 C0 25 #[t20] R w fun t21 w =>
 n41c36 t21 R w
theorem n41s {R:RT} {w:World} (h:n41 R w):Calls Pg 12 #[] w R:=by
 refine yD Tryz.func12 ?_
 refine zs<|zr<|zm<|zn<|zk<|zs<|zr<|yc h c30 fun _ w h=>yc h c25 fun _ w h=>zm<|yv h fun _ w h=>yv h fun _ w h=>zm<|zm<|zn ?_
 refine zk<|zs<|zs<|sim_regionG<|yG 3<|zm<|yb h fun _ w h=>zm<|zn<|yg1 2 2 false [27,28] 28 h (fun _ T hT h=>?_) fun σ w h=>?_
 · refine zm<|yb h fun _ w h=>zn ?_
   exact zt hT h
 refine yG 2<|yp h fun _ h=>zm<|zn<|yg1 5 6 false [31,32,33,34,35] 35 h (fun _ T hT h=>?_) fun σ w h=>?_
 · refine yc h c30 fun _ w h=>yc h c31 fun _ w h=>yc h c31 fun _ w h=>yc h c16 fun _ w h=>yv h fun _ w h=>zn ?_
   exact zt hT h
 refine yG 1<|yp h fun _ h=>zn<|sim_end<|zk<|yC h (fun h=>zs<|zr<|zm<|zn<|zk<|sim_ret<|sim_then_ret<|body_ret1 rfl rfl h) fun h=>sim_skip<|zk<|zs<|zr<|yc h c30 fun _ w h=>yc h c30 fun _ w h=>yv h fun _ w h=>yv h fun _ w h=>?_
 refine yu h fun w h=>yu h fun w h=>zn<|zk<|zs<|yh [39,40,41,42,43,44,45,46,47,48] h fun C hC h=>ye 0 hC h fun _ h=>?_
 refine ye 1 hC h fun _ h=>?_
 refine ye 2 hC h fun _ h=>?_
 refine ye 3 hC h fun _ h=>?_
 refine ye 4 hC h fun _ h=>?_
 refine ye 5 hC h fun _ h=>?_
 refine ye 6 hC h fun _ h=>?_
 refine ye 7 hC h fun _ h=>?_
 refine ye 8 hC h fun _ h=>?_
 refine ye 9 hC h fun _ h=>?_
 refine yq 10 2 ?_
 refine yu h fun w h=>zn ?_
 obtain ⟨C4,hC,h⟩:=h
 refine ⟨C4,hC,?_⟩
 refine yz<|zk<|zs<|zr<|yv h fun _ w h=>yv h fun _ w h=>yv h fun _ w h=>yv h fun _ w h=>yv h fun _ w h=>yB h fun _ w h=>yv h fun _ w h=>yu h fun w h=>zn<|zk<|zs ?_
 refine yh [5,6,56,57,58,59,60,61,62] h fun C hC h=>ye 0 hC h fun _ h=>?_
 refine joinK_elim h (fun K6 hK h=>?_)
 refine sim_dmeet [5,6,56,58,59,60,61,62] (fun ρ w=>K6 (ρ 5) (ρ 6) w) (fun T hT=>?_) (fun σ w h=>?_)
 · obtain ⟨h0,h1⟩:=h
   refine sim_dloud2 1 7 rfl rfl Qq (fun _ _=>rfl) (fun _ _=>rfl) ?_ ?_
   · have h:=h0
     refine yc h c31 fun _ w h=>zn ?_
     obtain ⟨hC,h⟩:=h
     refine ⟨_,fun _ h=>h,hC,?_⟩
     obtain ⟨h0,h1⟩:=h
     refine sim_dloud2 2 7 rfl rfl Qq (fun _ _=>rfl) (fun _ _=>rfl) ?_ ?_
     · have h:=h0
       refine yc h c31 fun _ w h=>zn ?_
       obtain ⟨hC,h⟩:=h
       refine ⟨_,fun _ h=>h,hC,?_⟩
       obtain ⟨h0,h1⟩:=h
       refine sim_dloud2 3 7 rfl rfl Qq (fun _ _=>rfl) (fun _ _=>rfl) ?_ ?_
       · have h:=h0
         refine yc h c14 fun _ w h=>zn ?_
         obtain ⟨hC,h⟩:=h
         refine ⟨_,fun _ h=>h,hC,?_⟩
         refine yw 4 hC ?_
         refine ye 5 hC h fun _ h=>?_
         refine ye 6 hC h fun _ h=>?_
         refine yo 7 ?_
         refine yv h fun _ w h=>zn ?_
         obtain ⟨hC,h⟩:=h
         refine ⟨hC,?_⟩
         refine yo 8 ?_
         refine yu h fun w h=>zn ?_
         obtain ⟨hC,h⟩:=h
         refine ⟨hC,?_⟩
         refine yw 9 hC ?_
         refine yz ?_
         exact zt hT h
       have h:=h1
       refine yv h fun _ w h=>zn ?_
       obtain ⟨hC,h⟩:=h
       refine ⟨_,fun _ h=>h,hC,?_⟩
       refine yo 3 ?_
       refine yc h c14 fun _ w h=>zn ?_
       obtain ⟨hC,h⟩:=h
       refine ⟨hC,?_⟩
       refine yw 4 hC ?_
       refine ye 5 hC h fun _ h=>?_
       refine ye 6 hC h fun _ h=>?_
       refine yo 8 ?_
       refine yu h fun w h=>zn ?_
       obtain ⟨hC,h⟩:=h
       refine ⟨hC,?_⟩
       refine yw 9 hC ?_
       refine yz ?_
       exact zt hT h
     have h:=h1
     refine yv h fun _ w h=>zn ?_
     obtain ⟨hC,h⟩:=h
     refine ⟨_,fun _ h=>h,hC,?_⟩
     refine yo 2 ?_
     refine yc h c31 fun _ w h=>zn ?_
     obtain ⟨hC,h⟩:=h
     refine ⟨hC,?_⟩
     refine yo 3 ?_
     refine yc h c14 fun _ w h=>zn ?_
     obtain ⟨hC,h⟩:=h
     refine ⟨hC,?_⟩
     refine yw 4 hC ?_
     refine ye 5 hC h fun _ h=>?_
     refine ye 6 hC h fun _ h=>?_
     refine yo 8 ?_
     refine yu h fun w h=>zn ?_
     obtain ⟨hC,h⟩:=h
     refine ⟨hC,?_⟩
     refine yw 9 hC ?_
     refine yz ?_
     exact zt hT h
   have h:=h1
   refine yv h fun _ w h=>zn ?_
   obtain ⟨hC,h⟩:=h
   refine ⟨_,fun _ h=>h,hC,?_⟩
   refine yo 1 ?_
   refine yc h c31 fun _ w h=>zn ?_
   obtain ⟨hC,h⟩:=h
   refine ⟨hC,?_⟩
   refine yo 2 ?_
   refine yc h c31 fun _ w h=>zn ?_
   obtain ⟨hC,h⟩:=h
   refine ⟨hC,?_⟩
   refine yo 3 ?_
   refine yc h c14 fun _ w h=>zn ?_
   obtain ⟨hC,h⟩:=h
   refine ⟨hC,?_⟩
   refine yw 4 hC ?_
   refine ye 5 hC h fun _ h=>?_
   refine ye 6 hC h fun _ h=>?_
   refine yo 8 ?_
   refine yu h fun w h=>zn ?_
   obtain ⟨hC,h⟩:=h
   refine ⟨hC,?_⟩
   refine yw 9 hC ?_
   refine yz ?_
   exact zt hT h
 subst hK
 refine zk<|zs<|yh [7,8,63,64,65,66,67,68,69] h fun C hC h=>ye 0 hC h fun _ h=>?_
 refine joinK_elim h (fun K8 hK h=>?_)
 refine sim_dmeet [7,8,63,65,66,67,68,69] (fun ρ w=>K8 (ρ 7) (ρ 8) w) (fun T hT=>?_) (fun σ w h=>?_)
 · obtain ⟨h0,h1⟩:=h
   refine sim_dloud2 1 7 rfl rfl Qq (fun _ _=>rfl) (fun _ _=>rfl) ?_ ?_
   · have h:=h0
     refine yc h c31 fun _ w h=>zn ?_
     obtain ⟨hC,h⟩:=h
     refine ⟨_,fun _ h=>h,hC,?_⟩
     obtain ⟨h0,h1⟩:=h
     refine sim_dloud2 2 7 rfl rfl Qq (fun _ _=>rfl) (fun _ _=>rfl) ?_ ?_
     · have h:=h0
       refine yc h c31 fun _ w h=>zn ?_
       obtain ⟨hC,h⟩:=h
       refine ⟨_,fun _ h=>h,hC,?_⟩
       obtain ⟨h0,h1⟩:=h
       refine sim_dloud2 3 7 rfl rfl Qq (fun _ _=>rfl) (fun _ _=>rfl) ?_ ?_
       · have h:=h0
         refine yc h c14 fun _ w h=>zn ?_
         obtain ⟨hC,h⟩:=h
         refine ⟨_,fun _ h=>h,hC,?_⟩
         refine yw 4 hC ?_
         refine ye 5 hC h fun _ h=>?_
         refine ye 6 hC h fun _ h=>?_
         refine yo 7 ?_
         refine yv h fun _ w h=>zn ?_
         obtain ⟨hC,h⟩:=h
         refine ⟨hC,?_⟩
         refine yo 8 ?_
         refine yu h fun w h=>zn ?_
         obtain ⟨hC,h⟩:=h
         refine ⟨hC,?_⟩
         refine yw 9 hC ?_
         refine yz ?_
         exact zt hT h
       have h:=h1
       refine yv h fun _ w h=>zn ?_
       obtain ⟨hC,h⟩:=h
       refine ⟨_,fun _ h=>h,hC,?_⟩
       refine yo 3 ?_
       refine yc h c14 fun _ w h=>zn ?_
       obtain ⟨hC,h⟩:=h
       refine ⟨hC,?_⟩
       refine yw 4 hC ?_
       refine ye 5 hC h fun _ h=>?_
       refine ye 6 hC h fun _ h=>?_
       refine yo 8 ?_
       refine yu h fun w h=>zn ?_
       obtain ⟨hC,h⟩:=h
       refine ⟨hC,?_⟩
       refine yw 9 hC ?_
       refine yz ?_
       exact zt hT h
     have h:=h1
     refine yv h fun _ w h=>zn ?_
     obtain ⟨hC,h⟩:=h
     refine ⟨_,fun _ h=>h,hC,?_⟩
     refine yo 2 ?_
     refine yc h c31 fun _ w h=>zn ?_
     obtain ⟨hC,h⟩:=h
     refine ⟨hC,?_⟩
     refine yo 3 ?_
     refine yc h c14 fun _ w h=>zn ?_
     obtain ⟨hC,h⟩:=h
     refine ⟨hC,?_⟩
     refine yw 4 hC ?_
     refine ye 5 hC h fun _ h=>?_
     refine ye 6 hC h fun _ h=>?_
     refine yo 8 ?_
     refine yu h fun w h=>zn ?_
     obtain ⟨hC,h⟩:=h
     refine ⟨hC,?_⟩
     refine yw 9 hC ?_
     refine yz ?_
     exact zt hT h
   have h:=h1
   refine yv h fun _ w h=>zn ?_
   obtain ⟨hC,h⟩:=h
   refine ⟨_,fun _ h=>h,hC,?_⟩
   refine yo 1 ?_
   refine yc h c31 fun _ w h=>zn ?_
   obtain ⟨hC,h⟩:=h
   refine ⟨hC,?_⟩
   refine yo 2 ?_
   refine yc h c31 fun _ w h=>zn ?_
   obtain ⟨hC,h⟩:=h
   refine ⟨hC,?_⟩
   refine yo 3 ?_
   refine yc h c14 fun _ w h=>zn ?_
   obtain ⟨hC,h⟩:=h
   refine ⟨hC,?_⟩
   refine yw 4 hC ?_
   refine ye 5 hC h fun _ h=>?_
   refine ye 6 hC h fun _ h=>?_
   refine yo 8 ?_
   refine yu h fun w h=>zn ?_
   obtain ⟨hC,h⟩:=h
   refine ⟨hC,?_⟩
   refine yw 9 hC ?_
   refine yz ?_
   exact zt hT h
 subst hK
 refine zk<|zs<|zs<|sim_regionG<|yG 4<|yv h fun _ w h=>yB h fun _ w h=>yb h fun _ w h=>zm<|zn<|yg1 3 3 false [74,75,76] 76 h (fun _ T hT h=>?_) fun σ w h=>?_
 · refine yv h fun _ w h=>yB h fun _ w h=>yb h fun _ w h=>zn ?_
   exact zt hT h
 refine yG 2<|yp h fun _ h=>zm<|zn<|yg1 2 8 false [79,80] 80 h (fun _ T hT h=>?_) fun σ w h=>?_
 · refine zm<|yv h fun _ w h=>zn ?_
   exact zt hT h
 refine yG 2<|yp h fun _ h=>zm<|zn<|yg1 2 12 false [83,84] 84 h (fun _ T hT h=>?_) fun σ w h=>?_
 · refine zm<|yv h fun _ w h=>zn ?_
   exact zt hT h
 refine yG 1<|yp h fun _ h=>zn<|sim_end<|zk<|yC h (fun h=>zs<|zr<|zm<|zn<|zk<|sim_ret<|sim_then_ret<|body_ret1 rfl rfl h) fun h=>sim_skip<|zk<|zs<|zr<|yB h fun _ w h=>yS h fun _ w h=>yB h fun _ w h=>yv h fun _ w h=>?_
 refine yu h fun w h=>zn<|zk<|zs<|zr<|yB h fun _ w h=>yc h c18 fun _ w h=>zm<|yv h fun _ w h=>yv h fun _ w h=>zm<|zm<|zn<|zk<|zs ?_
 refine zr<|yv h fun _ w h=>yc h c18 fun _ w h=>zm<|yv h fun _ w h=>yv h fun _ w h=>zm<|zm<|zn<|zk<|zs<|zr<|yv h fun _ w h=>yc h c18 fun _ w h=>zm ?_
 refine yv h fun _ w h=>yv h fun _ w h=>zm<|zm<|zn<|zk<|zs<|zr<|yc h c22 fun _ w h=>zm<|yv h fun _ w h=>yv h fun _ w h=>yv h fun _ w h=>yv h fun _ w h=>yu h fun w h=>?_
 refine zm<|zm<|zn<|zk<|zs<|sim_regionG<|yG 3<|zm<|yb h fun _ w h=>zm<|zn<|yg1 1 2 true [112] 112 h (fun _ T hT h=>?_) fun σ w h=>?_
 · refine zm<|zn ?_
   exact zt hT h
 refine yG 2<|yp h fun _ h=>zm<|zn<|yg1 2 5 true [115,116] 116 h (fun _ T hT h=>?_) fun σ w h=>?_
 · refine zm<|yb h fun _ w h=>zn ?_
   exact zt hT h
 refine yG 2<|yp h fun _ h=>zm<|zn<|yg1 1 9 true [119] 119 h (fun _ T hT h=>?_) fun σ w h=>?_
 · refine zm<|zn ?_
   exact zt hT h
 refine yG 2<|yp h fun _ h=>zm<|zn<|yg1 2 12 true [122,123] 123 h (fun _ T hT h=>?_) fun σ w h=>?_
 · refine zm<|yv h fun _ w h=>zn ?_
   exact zt hT h
 refine yG 2<|yp h fun _ h=>zm<|zn<|yg1 2 16 true [126,127] 127 h (fun _ T hT h=>?_) fun σ w h=>?_
 · refine zm<|yb h fun _ w h=>zn ?_
   exact zt hT h
 refine yG 2<|yp h fun _ h=>zm<|zn<|yg1 2 20 true [130,131] 131 h (fun _ T hT h=>?_) fun σ w h=>?_
 · refine zm<|yb h fun _ w h=>zn ?_
   exact zt hT h
 exact yG 2<|yp h fun _ h=>zm<|zn<|sim_end<|zk<|sim_ret<|body_ret1 rfl rfl h
theorem flV (a f c:Int):mapV (some (a,f,c)) = .tuple #[.agg #[.int .i64 a,.int .i64 f,.int .i64 c],.bool true]:=rfl
def FlR (D w:World) (p:Nat) (a f c:Int):Prop:=Ext D w∧w.heap[p]?=some (.cells #[.int .i64 a,.int .i64 f,.int .i64 c] 34 (0,0))
section
variable {D w:World} {a f c:Int} {K:Value→Value→World→Prop} {R:RT}
theorem late1a {w1:World} {p:Nat} (e1:Ext D w1) (hp:D.heap.size≤p) (o1:w1.heap[p]?=some (.cells #[.int .i64 0,.int .i64 0,.int .i64 0] 34 (0,0))) (hK:∀ w' p,FlR D w' p a f c→K (.pointer (some ⟨p,0,none⟩)) (.bool true) w'):n41c23 (.pointer (some ⟨p,0,none⟩)) (mapV (some (a,f,c))) (EC D) K R w1:=by
 rw [flV]
 unfold n41c23
 refine QJ (cells_of_heap o1).1 (cells_of_heap o1).2 ?_
 have e3:Ext D (((w1.setCell ⟨p,0,none⟩ (.int .i64 a)).setCell ⟨p,1,none⟩ (.int .i64 f)).setCell ⟨p,2,none⟩ (.int .i64 c)):=((e1.setCell (p:=⟨p,0,none⟩) hp _).setCell (p:=⟨p,1,none⟩) hp _).setCell (p:=⟨p,2,none⟩) hp _
 exact ⟨e1,e3,hK _ _ ⟨e3,heap_set (o:=2) (heap_set (o:=1) (heap_set (o:=0) o1 (.int .i64 a)) (.int .i64 f)) (.int .i64 c)⟩⟩
theorem late1b {w1:World} {p:Nat} (e1:Ext D w1) (hp:D.heap.size≤p) (o1:w1.heap[p]?=some (.cells #[.int .i64 0,.int .i64 0,.int .i64 0] 34 (0,0))) (hK:∀ w' p,FlR D w' p a f c→K (.pointer (some ⟨p,0,none⟩)) (.bool true) w'):n41c25 (.pointer (some ⟨p,0,none⟩)) (mapV (some (a,f,c))) (EC D) K R w1:=by
 rw [flV]
 unfold n41c25
 refine QJ (cells_of_heap o1).1 (cells_of_heap o1).2 ?_
 have e3:Ext D (((w1.setCell ⟨p,0,none⟩ (.int .i64 a)).setCell ⟨p,1,none⟩ (.int .i64 f)).setCell ⟨p,2,none⟩ (.int .i64 c)):=((e1.setCell (p:=⟨p,0,none⟩) hp _).setCell (p:=⟨p,1,none⟩) hp _).setCell (p:=⟨p,2,none⟩) hp _
 exact ⟨e1,e3,hK _ _ ⟨e3,heap_set (o:=2) (heap_set (o:=1) (heap_set (o:=0) o1 (.int .i64 a)) (.int .i64 f)) (.int .i64 c)⟩⟩
theorem late1d {w1:World} {p:Nat} (e1:Ext D w1) (hp:D.heap.size≤p) (o1:w1.heap[p]?=some (.cells #[.int .i64 0,.int .i64 0,.int .i64 0] 34 (0,0))) (hK:∀ w' p,FlR D w' p a f c→K (.pointer (some ⟨p,0,none⟩)) (.bool true) w'):n41c27 (.pointer (some ⟨p,0,none⟩)) (mapV (some (a,f,c))) (EC D) K R w1:=by
 rw [flV]
 unfold n41c27
 refine QJ (cells_of_heap o1).1 (cells_of_heap o1).2 ?_
 have e3:Ext D (((w1.setCell ⟨p,0,none⟩ (.int .i64 a)).setCell ⟨p,1,none⟩ (.int .i64 f)).setCell ⟨p,2,none⟩ (.int .i64 c)):=((e1.setCell (p:=⟨p,0,none⟩) hp _).setCell (p:=⟨p,1,none⟩) hp _).setCell (p:=⟨p,2,none⟩) hp _
 exact ⟨e1,e3,hK _ _ ⟨e3,heap_set (o:=2) (heap_set (o:=1) (heap_set (o:=0) o1 (.int .i64 a)) (.int .i64 f)) (.int .i64 c)⟩⟩
theorem call1 {v1 v2 v3:Value} {m:MapD} (e:Ext D w) (h1:MapVal w v1 m) (h2:DefVal w v2 smallD) (h3:DefVal w v3 smallD) (hin:∀ r∈m.rules,∀ x∈r.fields,inF x=true) (hm:mapC m smallD smallD=some (a,f,c)) (hK:∀ w' p,FlR D w' p a f c→K (.pointer (some ⟨p,0,none⟩)) (.bool true) w') :
 n41c24 v1 v2 v3 (EC D) K R w:=by
 unfold n41c24
 constructor
 · refine zcr (mCheck_ret w _ _ _ m smallD smallD h1 h2 h3 hin) fun w1 e1=>?_
   refine ⟨e.trans e1,?_⟩
   rw [hm,flV]
   unfold n41c22
   refine Qf ?_
   have oV:=heap_new w1 #[.int .i64 a,.int .i64 f,.int .i64 c] 34
   have e3:=e.trans e1
   exact ⟨e3.alloc _,e3.alloc _,hK _ _ ⟨e3.alloc _,oV⟩⟩
 · 
   refine Qf ?_
   have oV:=heap_new w #[.int .i64 0,.int .i64 0,.int .i64 0] 34
   have eV:Ext w (w.alloc (.cells #[.int .i64 0,.int .i64 0,.int .i64 0] 34)):=(Ext.refl w).alloc _
   generalize (w.alloc (.cells #[.int .i64 0,.int .i64 0,.int .i64 0] 34))=V at oV eV ⊢
   refine ⟨e.trans eV,?_⟩
   refine zcr (mCheck_ret V _ _ _ m smallD smallD (h1.ext eV) (h2.ext eV) (h3.ext eV) hin) fun w1 e1=>?_
   rw [hm]
   exact late1a (e.trans (eV.trans e1)) e.size (e1.obj oV) hK
theorem one1 {v1 v2:Value} {m:MapD} (e:Ext D w) (h1:MapVal w v1 m) (h2:DefVal w v2 smallD) (hin:∀ r∈m.rules,∀ x∈r.fields,inF x=true) (hm:mapC m smallD smallD=some (a,f,c)) (hK:∀ w' p,FlR D w' p a f c→K (.pointer (some ⟨p,0,none⟩)) (.bool true) w') :
 n41c26 v1 v2 (EC D) K R w:=by
 unfold n41c26
 constructor
 · refine callK_ret (dsmall_ret w) ?_
   rintro v3 w1 ⟨h3,e1⟩
   exact ⟨e.trans e1,call1 (e.trans e1) (h1.ext e1) (h2.ext e1) h3 hin hm hK⟩
 · 
   refine Qf ?_
   have oV:=heap_new w #[.int .i64 0,.int .i64 0,.int .i64 0] 34
   have eV:Ext w (w.alloc (.cells #[.int .i64 0,.int .i64 0,.int .i64 0] 34)):=(Ext.refl w).alloc _
   generalize (w.alloc (.cells #[.int .i64 0,.int .i64 0,.int .i64 0] 34))=V at oV eV ⊢
   refine ⟨e.trans eV,?_⟩
   refine callK_ret (dsmall_ret V) ?_
   rintro v3 w2 ⟨h3,e2⟩
   refine ⟨e.trans (eV.trans e2),?_⟩
   have e02:=eV.trans e2
   refine zcr (mCheck_ret w2 _ _ _ m smallD smallD (h1.ext e02) (h2.ext e02) h3 hin) fun w1 e1=>?_
   rw [hm]
   exact late1b (e.trans (e02.trans e1)) e.size (e1.obj (e2.obj oV)) hK
theorem two1a {v1:Value} {m:MapD} (e:Ext D w) (h1:MapVal w v1 m) (hin:∀ r∈m.rules,∀ x∈r.fields,inF x=true) (hm:mapC m smallD smallD=some (a,f,c)) (hK:∀ w' p,FlR D w' p a f c→K (.pointer (some ⟨p,0,none⟩)) (.bool true) w') :
 callK Pg 31 #[] (panK R) w fun t58 w=>EC D w∧n41c26 v1 t58 (EC D) K R w:=by
 refine callK_ret (dsmall_ret w) ?_
 rintro v2 w1 ⟨h2,e1⟩
 exact ⟨e.trans e1,one1 (e.trans e1) (h1.ext e1) h2 hin hm hK⟩
theorem two1b {v1:Value} {m:MapD} (e:Ext D w) (h1:MapVal w v1 m) (hin:∀ r∈m.rules,∀ x∈r.fields,inF x=true) (hm:mapC m smallD smallD=some (a,f,c)) (hK:∀ w' p,FlR D w' p a f c→K (.pointer (some ⟨p,0,none⟩)) (.bool true) w') :
 EC D (w.alloc (.cells #[.int .i64 0,.int .i64 0,.int .i64 0] 34))∧n41c28 (.pointer (some ⟨w.heap.size,0,none⟩)) v1 (EC D) K R (w.alloc (.cells #[.int .i64 0,.int .i64 0,.int .i64 0] 34)):=by
 have oV:=heap_new w #[.int .i64 0,.int .i64 0,.int .i64 0] 34
 have eV:Ext w (w.alloc (.cells #[.int .i64 0,.int .i64 0,.int .i64 0] 34)):=(Ext.refl w).alloc _
 generalize (w.alloc (.cells #[.int .i64 0,.int .i64 0,.int .i64 0] 34))=V at oV eV ⊢
 refine ⟨e.trans eV,?_⟩
 unfold n41c28
 refine callK_ret (dsmall_ret V) ?_
 rintro v2 w2 ⟨h2,e2⟩
 refine ⟨e.trans (eV.trans e2),?_⟩
 refine callK_ret (dsmall_ret w2) ?_
 rintro v3 w3 ⟨h3,e3⟩
 have e03:=eV.trans (e2.trans e3)
 refine ⟨e.trans e03,?_⟩
 refine zcr (mCheck_ret w3 _ _ _ m smallD smallD (h1.ext e03) (h2.ext e3) h3 hin) fun w1 e1=>?_
 rw [hm]
 exact late1d (e.trans (e03.trans e1)) e.size (e1.obj (e3.obj (e2.obj oV))) hK
theorem late2a {w1:World} {p:Nat} (e1:Ext D w1) (hp:D.heap.size≤p) (o1:w1.heap[p]?=some (.cells #[.int .i64 0,.int .i64 0,.int .i64 0] 34 (0,0))) (hK:∀ w' p,FlR D w' p a f c→K (.pointer (some ⟨p,0,none⟩)) (.bool true) w'):n41c15 (.pointer (some ⟨p,0,none⟩)) (mapV (some (a,f,c))) (EC D) K R w1:=by
 rw [flV]
 unfold n41c15
 refine QJ (cells_of_heap o1).1 (cells_of_heap o1).2 ?_
 have e3:Ext D (((w1.setCell ⟨p,0,none⟩ (.int .i64 a)).setCell ⟨p,1,none⟩ (.int .i64 f)).setCell ⟨p,2,none⟩ (.int .i64 c)):=((e1.setCell (p:=⟨p,0,none⟩) hp _).setCell (p:=⟨p,1,none⟩) hp _).setCell (p:=⟨p,2,none⟩) hp _
 exact ⟨e1,e3,hK _ _ ⟨e3,heap_set (o:=2) (heap_set (o:=1) (heap_set (o:=0) o1 (.int .i64 a)) (.int .i64 f)) (.int .i64 c)⟩⟩
theorem late2b {w1:World} {p:Nat} (e1:Ext D w1) (hp:D.heap.size≤p) (o1:w1.heap[p]?=some (.cells #[.int .i64 0,.int .i64 0,.int .i64 0] 34 (0,0))) (hK:∀ w' p,FlR D w' p a f c→K (.pointer (some ⟨p,0,none⟩)) (.bool true) w'):n41c17 (.pointer (some ⟨p,0,none⟩)) (mapV (some (a,f,c))) (EC D) K R w1:=by
 rw [flV]
 unfold n41c17
 refine QJ (cells_of_heap o1).1 (cells_of_heap o1).2 ?_
 have e3:Ext D (((w1.setCell ⟨p,0,none⟩ (.int .i64 a)).setCell ⟨p,1,none⟩ (.int .i64 f)).setCell ⟨p,2,none⟩ (.int .i64 c)):=((e1.setCell (p:=⟨p,0,none⟩) hp _).setCell (p:=⟨p,1,none⟩) hp _).setCell (p:=⟨p,2,none⟩) hp _
 exact ⟨e1,e3,hK _ _ ⟨e3,heap_set (o:=2) (heap_set (o:=1) (heap_set (o:=0) o1 (.int .i64 a)) (.int .i64 f)) (.int .i64 c)⟩⟩
theorem late2d {w1:World} {p:Nat} (e1:Ext D w1) (hp:D.heap.size≤p) (o1:w1.heap[p]?=some (.cells #[.int .i64 0,.int .i64 0,.int .i64 0] 34 (0,0))) (hK:∀ w' p,FlR D w' p a f c→K (.pointer (some ⟨p,0,none⟩)) (.bool true) w'):n41c19 (.pointer (some ⟨p,0,none⟩)) (mapV (some (a,f,c))) (EC D) K R w1:=by
 rw [flV]
 unfold n41c19
 refine QJ (cells_of_heap o1).1 (cells_of_heap o1).2 ?_
 have e3:Ext D (((w1.setCell ⟨p,0,none⟩ (.int .i64 a)).setCell ⟨p,1,none⟩ (.int .i64 f)).setCell ⟨p,2,none⟩ (.int .i64 c)):=((e1.setCell (p:=⟨p,0,none⟩) hp _).setCell (p:=⟨p,1,none⟩) hp _).setCell (p:=⟨p,2,none⟩) hp _
 exact ⟨e1,e3,hK _ _ ⟨e3,heap_set (o:=2) (heap_set (o:=1) (heap_set (o:=0) o1 (.int .i64 a)) (.int .i64 f)) (.int .i64 c)⟩⟩
theorem call2 {v1 v2 v3:Value} {m:MapD} (e:Ext D w) (h1:MapVal w v1 m) (h2:DefVal w v2 smallD) (h3:DefVal w v3 smallD) (hin:∀ r∈m.rules,∀ x∈r.fields,inF x=true) (hm:mapC m smallD smallD=some (a,f,c)) (hK:∀ w' p,FlR D w' p a f c→K (.pointer (some ⟨p,0,none⟩)) (.bool true) w') :
 n41c16 v1 v2 v3 (EC D) K R w:=by
 unfold n41c16
 constructor
 · refine zcr (mCheck_ret w _ _ _ m smallD smallD h1 h2 h3 hin) fun w1 e1=>?_
   refine ⟨e.trans e1,?_⟩
   rw [hm,flV]
   unfold n41c14
   refine Qf ?_
   have oV:=heap_new w1 #[.int .i64 a,.int .i64 f,.int .i64 c] 34
   have e3:=e.trans e1
   exact ⟨e3.alloc _,e3.alloc _,hK _ _ ⟨e3.alloc _,oV⟩⟩
 · 
   refine Qf ?_
   have oV:=heap_new w #[.int .i64 0,.int .i64 0,.int .i64 0] 34
   have eV:Ext w (w.alloc (.cells #[.int .i64 0,.int .i64 0,.int .i64 0] 34)):=(Ext.refl w).alloc _
   generalize (w.alloc (.cells #[.int .i64 0,.int .i64 0,.int .i64 0] 34))=V at oV eV ⊢
   refine ⟨e.trans eV,?_⟩
   refine zcr (mCheck_ret V _ _ _ m smallD smallD (h1.ext eV) (h2.ext eV) (h3.ext eV) hin) fun w1 e1=>?_
   rw [hm]
   exact late2a (e.trans (eV.trans e1)) e.size (e1.obj oV) hK
theorem one2 {v1 v2:Value} {m:MapD} (e:Ext D w) (h1:MapVal w v1 m) (h2:DefVal w v2 smallD) (hin:∀ r∈m.rules,∀ x∈r.fields,inF x=true) (hm:mapC m smallD smallD=some (a,f,c)) (hK:∀ w' p,FlR D w' p a f c→K (.pointer (some ⟨p,0,none⟩)) (.bool true) w') :
 n41c18 v1 v2 (EC D) K R w:=by
 unfold n41c18
 constructor
 · refine callK_ret (dsmall_ret w) ?_
   rintro v3 w1 ⟨h3,e1⟩
   exact ⟨e.trans e1,call2 (e.trans e1) (h1.ext e1) (h2.ext e1) h3 hin hm hK⟩
 · 
   refine Qf ?_
   have oV:=heap_new w #[.int .i64 0,.int .i64 0,.int .i64 0] 34
   have eV:Ext w (w.alloc (.cells #[.int .i64 0,.int .i64 0,.int .i64 0] 34)):=(Ext.refl w).alloc _
   generalize (w.alloc (.cells #[.int .i64 0,.int .i64 0,.int .i64 0] 34))=V at oV eV ⊢
   refine ⟨e.trans eV,?_⟩
   refine callK_ret (dsmall_ret V) ?_
   rintro v3 w2 ⟨h3,e2⟩
   refine ⟨e.trans (eV.trans e2),?_⟩
   have e02:=eV.trans e2
   refine zcr (mCheck_ret w2 _ _ _ m smallD smallD (h1.ext e02) (h2.ext e02) h3 hin) fun w1 e1=>?_
   rw [hm]
   exact late2b (e.trans (e02.trans e1)) e.size (e1.obj (e2.obj oV)) hK
theorem two2a {v1:Value} {m:MapD} (e:Ext D w) (h1:MapVal w v1 m) (hin:∀ r∈m.rules,∀ x∈r.fields,inF x=true) (hm:mapC m smallD smallD=some (a,f,c)) (hK:∀ w' p,FlR D w' p a f c→K (.pointer (some ⟨p,0,none⟩)) (.bool true) w') :
 callK Pg 31 #[] (panK R) w fun t58 w=>EC D w∧n41c18 v1 t58 (EC D) K R w:=by
 refine callK_ret (dsmall_ret w) ?_
 rintro v2 w1 ⟨h2,e1⟩
 exact ⟨e.trans e1,one2 (e.trans e1) (h1.ext e1) h2 hin hm hK⟩
theorem two2b {v1:Value} {m:MapD} (e:Ext D w) (h1:MapVal w v1 m) (hin:∀ r∈m.rules,∀ x∈r.fields,inF x=true) (hm:mapC m smallD smallD=some (a,f,c)) (hK:∀ w' p,FlR D w' p a f c→K (.pointer (some ⟨p,0,none⟩)) (.bool true) w') :
 EC D (w.alloc (.cells #[.int .i64 0,.int .i64 0,.int .i64 0] 34))∧n41c20 (.pointer (some ⟨w.heap.size,0,none⟩)) v1 (EC D) K R (w.alloc (.cells #[.int .i64 0,.int .i64 0,.int .i64 0] 34)):=by
 have oV:=heap_new w #[.int .i64 0,.int .i64 0,.int .i64 0] 34
 have eV:Ext w (w.alloc (.cells #[.int .i64 0,.int .i64 0,.int .i64 0] 34)):=(Ext.refl w).alloc _
 generalize (w.alloc (.cells #[.int .i64 0,.int .i64 0,.int .i64 0] 34))=V at oV eV ⊢
 refine ⟨e.trans eV,?_⟩
 unfold n41c20
 refine callK_ret (dsmall_ret V) ?_
 rintro v2 w2 ⟨h2,e2⟩
 refine ⟨e.trans (eV.trans e2),?_⟩
 refine callK_ret (dsmall_ret w2) ?_
 rintro v3 w3 ⟨h3,e3⟩
 have e03:=eV.trans (e2.trans e3)
 refine ⟨e.trans e03,?_⟩
 refine zcr (mCheck_ret w3 _ _ _ m smallD smallD (h1.ext e03) (h2.ext e3) h3 hin) fun w1 e1=>?_
 rw [hm]
 exact late2d (e.trans (e03.trans e1)) e.size (e1.obj (e3.obj (e2.obj oV))) hK
end
def n42c1 (t5 t6 t66 t71:Value) (next5:KV) (R:RT) (w:World):Prop :=
 pickK t66 (.bool true) t71 fun t72 =>
 joinK (fun (t77:Value) (w:World) =>
 pickK t72 (.bool true) t77 fun t78 =>
 condP t78 (
 R (.returned (.bool true)) w) (
 B0 .add 3 true t5 (.int .i64 1) R w fun t51 w =>
 next5 t51 w)) fun K8 =>
 guardP t72 false (
 F0 43 t6 6 R w fun t74 w =>
 L0 41 t74 R w fun t75 w =>
 opV Pg (Builtin.len_ #[41] 3 #[t75]) (panK R) w fun t76 w =>
 B0 .gtr 3 true t76 (.int .i64 50) R w fun t77 w =>
 K8 t77 w) (
 K8 undef w)
def n42c2 (t5 t6 t60 t65:Value) (next5:KV) (R:RT) (w:World):Prop :=
 pickK t60 (.bool true) t65 fun t66 =>
 joinK (fun (t71:Value) (w:World) =>
 n42c1 t5 t6 t66 t71 next5 R w) fun K7 =>
 guardP t66 false (
 F0 43 t6 5 R w fun t68 w =>
 L0 40 t68 R w fun t69 w =>
 opV Pg (Builtin.len_ #[40] 3 #[t69]) (panK R) w fun t70 w =>
 B0 .gtr 3 true t70 (.int .i64 1100) R w fun t71 w =>
 K7 t71 w) (
 K7 undef w)
def n42c3 (t4 t5:Value) (next5:KV) (R:RT) (w:World):Prop :=
 F0 60 t4 2 R w fun t52 w =>
 L0 58 t52 R w fun t53 w =>
 X0 58 t53 t5 R w fun t55 w =>
 L0 43 t55 R w fun t56 w =>
 opV Pg (Instr.alloc 43 true (.tuple #[])) (panK R) w fun t6 w =>
 opU Pg (Instr.storeAt 43 t6 t56) (panK R) w fun w =>
 F0 43 t6 0 R w fun t57 w =>
 L0 9 t57 R w fun t58 w =>
 opV Pg (Builtin.len_ #[9] 3 #[t58]) (panK R) w fun t59 w =>
 B0 .gtr 3 true t59 (.int .i64 1100) R w fun t60 w =>
 joinK (fun (t65:Value) (w:World) =>
 n42c2 t5 t6 t60 t65 next5 R w) fun K6 =>
 guardP t60 false (
 F0 43 t6 2 R w fun t62 w =>
 L0 9 t62 R w fun t63 w =>
 opV Pg (Builtin.len_ #[9] 3 #[t63]) (panK R) w fun t64 w =>
 B0 .gtr 3 true t64 (.int .i64 1100) R w fun t65 w =>
 K6 t65 w) (
 K6 undef w)
def n42c4 (t3 t4 t5:Value) (next2:KV) (next5:KV) (R:RT) (w:World):Prop :=
 F0 60 t4 2 R w fun t46 w =>
 L0 58 t46 R w fun t47 w =>
 opV Pg (Builtin.len_ #[58] 3 #[t47]) (panK R) w fun t48 w =>
 B0 .lss 3 false t5 t48 R w fun t49 w =>
 condP t49 (
 n42c3 t4 t5 next5 R w) (
 B0 .add 3 true t3 (.int .i64 1) R w fun t23 w =>
 next2 t23 w)
def n42c5 (t3 t4 t32 t37:Value) (next2:KV) (R:RT) (w:World):Prop :=
 pickK t32 (.bool true) t37 fun t38 =>
 joinK (fun (t43:Value) (w:World) =>
 pickK t38 (.bool true) t43 fun t44 =>
 condP t44 (
 R (.returned (.bool true)) w) (
 loop1 (fun t5 w next5 =>
 n42c4 t3 t4 t5 next2 next5 R w) (.int .i64 0) w)) fun K4 =>
 guardP t38 false (
 F0 60 t4 1 R w fun t40 w =>
 L0 9 t40 R w fun t41 w =>
 opV Pg (Builtin.len_ #[9] 3 #[t41]) (panK R) w fun t42 w =>
 B0 .gtr 3 true t42 (.int .i64 1100) R w fun t43 w =>
 K4 t43 w) (
 K4 undef w)
def n42c6 (t1 t3:Value) (next2:KV) (R:RT) (w:World):Prop :=
 F0 24 t1 1 R w fun t24 w =>
 L0 22 t24 R w fun t25 w =>
 X0 22 t25 t3 R w fun t27 w =>
 L0 60 t27 R w fun t28 w =>
 opV Pg (Instr.alloc 60 true (.tuple #[])) (panK R) w fun t4 w =>
 opU Pg (Instr.storeAt 60 t4 t28) (panK R) w fun w =>
 F0 60 t4 2 R w fun t29 w =>
 L0 58 t29 R w fun t30 w =>
 opV Pg (Builtin.len_ #[58] 3 #[t30]) (panK R) w fun t31 w =>
 B0 .gtr 3 true t31 (.int .i64 50) R w fun t32 w =>
 joinK (fun (t37:Value) (w:World) =>
 n42c5 t3 t4 t32 t37 next2 R w) fun K3 =>
 guardP t32 false (
 F0 60 t4 0 R w fun t34 w =>
 L0 9 t34 R w fun t35 w =>
 opV Pg (Builtin.len_ #[9] 3 #[t35]) (panK R) w fun t36 w =>
 B0 .gtr 3 true t36 (.int .i64 1100) R w fun t37 w =>
 K3 t37 w) (
 K3 undef w)
def n42c7 (t1 t3:Value) (next2:KV) (R:RT) (w:World):Prop :=
 F0 24 t1 1 R w fun t18 w =>
 L0 22 t18 R w fun t19 w =>
 opV Pg (Builtin.len_ #[22] 3 #[t19]) (panK R) w fun t20 w =>
 B0 .lss 3 false t3 t20 R w fun t21 w =>
 condP t21 (
 n42c6 t1 t3 next2 R w) (
 R (.returned (.bool false)) w)
def n42 (t0:Value) (R:RT) (w:World):Prop :=
 opV Pg (Instr.box 24 t0) (panK R) w fun t1 w =>
 F0 24 t1 1 R w fun t7 w =>
 L0 22 t7 R w fun t8 w =>
 opV Pg (Builtin.len_ #[22] 3 #[t8]) (panK R) w fun t9 w =>
 B0 .gtr 3 true t9 (.int .i64 65) R w fun t10 w =>
 joinK (fun (t15:Value) (w:World) =>
 pickK t10 (.bool true) t15 fun t16 =>
 condP t16 (
 R (.returned (.bool true)) w) (
 loop1 (fun t3 w next2 =>
 n42c7 t1 t3 next2 R w) (.int .i64 0) w)) fun K1 =>
 guardP t10 false (
 F0 24 t1 0 R w fun t12 w =>
 L0 9 t12 R w fun t13 w =>
 opV Pg (Builtin.len_ #[9] 3 #[t13]) (panK R) w fun t14 w =>
 B0 .gtr 3 true t14 (.int .i64 1100) R w fun t15 w =>
 K1 t15 w) (
 K1 undef w)
theorem n42s {t0:Value} {R:RT} {w:World} (h:n42 t0 R w):Calls Pg 10 #[t0] w R:=by
 refine yD Tryz.func10 ?_
 refine zs<|zr<|yv h fun _ w h=>zm<|zn<|zk<|zs<|zs<|sim_regionG<|yG 5<|yv h fun _ w h=>yv h fun _ w h=>yx h fun _ w h=>yb h fun _ w h=>zm ?_
 refine zn<|yg1 4 4 false [12,13,14,15] 15 h (fun _ T hT h=>?_) fun σ w h=>?_
 · refine yv h fun _ w h=>yv h fun _ w h=>yx h fun _ w h=>yb h fun _ w h=>zn ?_
   exact zt hT h
 refine yG 1<|yp h fun _ h=>zn<|sim_end<|zk<|yC h (fun h=>zs<|zr<|zm<|zn<|zk<|sim_ret<|sim_then_ret<|body_ret1 rfl rfl h) fun h=>sim_skip<|zk<|zs<|zs<|zr<|zm<|zn<|zk ?_
 refine sim_block<|yl1 [2,3,4,5,6,17,18,19,20,21,22,23,24,25,26,27,28,29,30,31,32,33,34,35,36,37,38,39,40,41,42,43,44,45,46,47,48,49,50,51,52,53,54,55,56,57,58,59,60,61,62,63,64,65,66,67,68,69,70,71,72,73,74,75,76,77,78] 3 h fun σ w next h=>zs<|zs<|zr<|zm<|yv h fun _ w h=>yv h fun _ w h=>yx h fun _ w h=>yb h fun _ w h=>zn<|zk<|yC h (fun h=>?_) fun h=>?_
 · refine sim_skip<|zk<|zs<|sim_block<|zs<|zr<|yv h fun _ w h=>yv h fun _ w h=>zm<|yv h fun _ w h=>yv h fun _ w h=>yv h fun _ w h=>yu h fun w h=>zn<|zk ?_
   refine zs<|zs<|sim_regionG<|yG 5<|yv h fun _ w h=>yv h fun _ w h=>yx h fun _ w h=>yb h fun _ w h=>zm<|zn<|yg1 4 4 false [34,35,36,37] 37 h (fun _ T hT h=>?_) fun σ w h=>?_
   · refine yv h fun _ w h=>yv h fun _ w h=>yx h fun _ w h=>yb h fun _ w h=>zn ?_
     exact zt hT h
   refine yG 2<|yp h fun _ h=>zm<|zn<|yg1 4 10 false [40,41,42,43] 43 h (fun _ T hT h=>?_) fun σ w h=>?_
   · refine yv h fun _ w h=>yv h fun _ w h=>yx h fun _ w h=>yb h fun _ w h=>zn ?_
     exact zt hT h
   refine yG 1<|yp h fun _ h=>zn<|sim_end<|zk<|yC h (fun h=>zs<|zr<|zm<|zn<|zk<|sim_ret<|sim_then_ret<|sim_block_ret<|sim_then_ret<|sim_then_ret<|sim_block_ret<|sim_then_ret<|body_ret1 rfl rfl h) fun h=>sim_skip<|zk<|zs<|zr<|zm<|zn<|zk<|sim_block ?_
   refine yl1 [2,5,6,45,46,47,48,49,50,51,52,53,54,55,56,57,58,59,60,61,62,63,64,65,66,67,68,69,70,71,72,73,74,75,76,77,78] 5 h fun σ w next h=>zs<|zs<|zr<|zm<|yv h fun _ w h=>yv h fun _ w h=>yx h fun _ w h=>yb h fun _ w h=>zn<|zk<|yC h (fun h=>?_) fun h=>?_
   · refine sim_skip<|zk<|zs<|sim_block<|zs<|zr<|yv h fun _ w h=>yv h fun _ w h=>zm<|yv h fun _ w h=>yv h fun _ w h=>yv h fun _ w h=>yu h fun w h=>zn<|zk ?_
     refine zs<|sim_regionG<|yG 5<|yv h fun _ w h=>yv h fun _ w h=>yx h fun _ w h=>yb h fun _ w h=>zm<|zn<|yg1 4 4 false [62,63,64,65] 65 h (fun _ T hT h=>?_) fun σ w h=>?_
     · refine yv h fun _ w h=>yv h fun _ w h=>yx h fun _ w h=>yb h fun _ w h=>zn ?_
       exact zt hT h
     refine yG 2<|yp h fun _ h=>zm<|zn<|yg1 4 10 false [68,69,70,71] 71 h (fun _ T hT h=>?_) fun σ w h=>?_
     · refine yv h fun _ w h=>yv h fun _ w h=>yx h fun _ w h=>yb h fun _ w h=>zn ?_
       exact zt hT h
     refine yG 2<|yp h fun _ h=>zm<|zn<|yg1 4 16 false [74,75,76,77] 77 h (fun _ T hT h=>?_) fun σ w h=>?_
     · refine yv h fun _ w h=>yv h fun _ w h=>yx h fun _ w h=>yb h fun _ w h=>zn ?_
       exact zt hT h
     refine yG 1<|yp h fun _ h=>zn<|sim_end<|zk<|yC h (fun h=>?_) fun h=>?_
     · refine zs<|zr<|zm<|zn<|zk<|sim_ret<|sim_block_ret<|sim_then_ret<|sim_then_ret<|sim_block_ret<|sim_block_ret<|sim_then_ret<|sim_then_ret<|sim_block_ret<|sim_then_ret ?_
       exact body_ret1 rfl rfl h
     exact sim_skip<|sim_block_normal<|zk<|zr<|zm<|yb h fun _ w h=>zm<|zn<|zk<|⟨rfl,h⟩
   exact sim_exit<|sim_then_exit<|sim_then_exit<|sim_block_hit<|sim_block_normal<|zk<|zr<|zm<|yb h fun _ w h=>zm<|zn<|zk<|⟨rfl,h⟩
 exact sim_exit<|sim_then_exit<|sim_then_exit<|sim_block_hit<|zk<|zs<|zr<|zm<|zn<|zk<|sim_ret<|body_ret1 rfl rfl h
def bigN (n k:Nat):Bool:=decide ((n:Int) > (k:Int))
def largeX (x:FrD):Bool:=bigN x.to.size 1100||(bigN x.fr.size 1100||(bigN x.bytes.length 1100||bigN x.table.length 50))
def largeR (r:MrD):Bool:=(bigN r.fields.length 50||(bigN r.fr.size 1100||bigN r.to.size 1100))||r.fields.any largeX
def largeM (m:MapD):Bool:=(bigN m.rules.length 65||bigN m.name.size 1100)||m.rules.any largeR
theorem bigN_no {n k:Nat} (h:bigN n k=false):n≤k:=by
 unfold bigN at h
 simp only [decide_eq_false_iff_not] at h
 omega
theorem largeX_no {x:FrD} (h:largeX x=false):x.to.size≤1100∧x.fr.size≤1100∧x.bytes.length≤1100∧x.table.length≤50:=by
 unfold largeX at h
 simp only [Bool.or_eq_false_iff] at h
 exact ⟨bigN_no h.1,bigN_no h.2.1,bigN_no h.2.2.1,bigN_no h.2.2.2⟩
theorem largeR_no {r:MrD} (h:largeR r=false):r.fields.length≤50∧r.fr.size≤1100∧r.to.size≤1100∧∀ x∈r.fields,largeX x=false:=by
 unfold largeR at h
 simp only [Bool.or_eq_false_iff,List.any_eq_false] at h
 exact ⟨bigN_no h.1.1,bigN_no h.1.2.1,bigN_no h.1.2.2,fun x hx=>by simpa using h.2 x hx⟩
theorem largeM_no {m:MapD} (h:largeM m=false):m.rules.length≤65∧m.name.size≤1100∧∀ r∈m.rules,largeR r=false:=by
 unfold largeM at h
 simp only [Bool.or_eq_false_iff,List.any_eq_false] at h
 exact ⟨bigN_no h.1.1,bigN_no h.1.2,fun x hx=>by simpa using h.2 x hx⟩
theorem any_snoc {α:Type} {p:α→Bool} {l:List α} {k:Nat} {x:α} (hx:l[k]?=some x) (h:(l.take k).any p=false):(l.take (k+1)).any p=p x:=by
 rw [take_snoc' hx,List.any_append,h]
 simp
theorem any_at {α:Type} {p:α→Bool} {l:List α} {k:Nat} {x:α} (hx:l[k]?=some x) (h:p x=true):l.any p=true:=List.any_eq_true.2 ⟨x,List.mem_of_getElem? hx,h⟩
theorem large_ret (w0:World) (v:Value) (m:MapD) (hm:MapVal w0 v m):Ret Pg 10 #[v] w0 fun r w'=>r = .bool (largeM m)∧Ext w0 w':=by
 obtain ⟨rv,rfl,hR,t1⟩:=hm.op
 obtain ⟨A,c,rfl,hlc,hcm,hlm,hel⟩:=SliceOf.open hR
 refine n42s (R:=retR _) ?_;unfold n42
 rw [op_boxA]
 have o1:=heap_new w0 (mapCells m (.slice A m.rules.length c)).toArray 24
 have eV:Ext w0 (w0.alloc (.cells (mapCells m (.slice A m.rules.length c)).toArray 24)):=(Ext.refl w0).alloc _
 generalize (w0.alloc (.cells (mapCells m (.slice A m.rules.length c)).toArray 24))=V at o1 eV ⊢
 generalize w0.heap.size=p1 at o1 ⊢
 have d1:decide ((m.rules.length:Int) > 65)=bigN m.rules.length 65:=rfl
 have d2:decide ((m.name.size:Int) > 1100)=bigN m.name.size 1100:=rfl
 unfold joinK
 refine QQ (cells_of_heap o1).1 d1 d2 ?_
 have hM:largeM m=((bigN m.rules.length 65||bigN m.name.size 1100)||m.rules.any largeR):=rfl
 cases hc0:(bigN m.rules.length 65||bigN m.name.size 1100) with
 | true =>
  rw [hc0,Bool.true_or] at hM
  rw [hM]
  refine Qf ?_
  exact ⟨by trivial,eV⟩
 | false =>
  rw [hc0,Bool.false_or] at hM
  rw [hM]
  have hle:m.rules.length≤65:=bigN_no (Bool.or_eq_false_iff.1 hc0).1
  refine Qf ?_
  clear hM
  refine loop1_intro (fun i w=>∃ k:Nat,i = .int .i64 k∧k≤m.rules.length∧(m.rules.take k).any largeR=false∧Ext V w) (fun i _=>m.rules.length - (intOf i).toNat) ⟨0,rfl,by omega,rfl,Ext.refl _⟩ ?_
  rintro _ w1 ⟨k,rfl,hk,ht,e1⟩
  have q1:=cells_of_heap (e1.obj o1)
  unfold n42c7
  rcases drop_cases hk with ⟨r,hr,_,hlt,hdec⟩ | ⟨hke,_,hdec⟩
  · have hwk:IntKind.i64.wrap ((k:Int)+1)=(k:Int)+1:=wrap_ok Qx Qx
    obtain ⟨b,o,cs,rfl,_,hA,fv,rfl,hF⟩:=hel k r hr
    have t2:=SliceOf.oneCell hF
    obtain ⟨A2,c2,rfl,hlc2,hcm2,hlm2,hel2⟩:=SliceOf.open hF
    have hq:=hA.c3 (eV.trans e1)
    refine QJ q1.1 hdec ?_
    have d3:decide ((r.fields.length:Int) > 50)=bigN r.fields.length 50:=rfl
    have d4:decide ((r.fr.size:Int) > 1100)=bigN r.fr.size 1100:=rfl
    have d5:decide ((r.to.size:Int) > 1100)=bigN r.to.size 1100:=rfl
    unfold n42c6 n42c5 joinK
    refine QY q1.1 hq d3 d4 d5 ?_
    generalize hW:World.setCell (World.setCell (World.setCell (World.alloc w1 _) _ _) _ _) _ _=W
    have eW:Ext w1 W:=by rw [← hW];exact ((((Ext.refl w1).alloc _).setCell (Nat.le_refl _) _).setCell (Nat.le_refl _) _).setCell (Nat.le_refl _) _
    have oW:W.heap[w1.heap.size]?=some (.cells (mrCells r (.slice A2 r.fields.length c2)).toArray 60 (0,0)):=by rw [← hW];exact heap_set (o:=2) (heap_set (o:=1) (heap_set (o:=0) (heap_new w1 _ _) (.string r.fr)) (.string r.to)) (.slice A2 r.fields.length c2)
    clear hW
    generalize w1.heap.size=p4 at oW ⊢
    have hR0:largeR r=((bigN r.fields.length 50||bigN r.fr.size 1100||bigN r.to.size 1100)||r.fields.any largeX):=by unfold largeR;simp only [Bool.or_assoc]
    cases hc1:(bigN r.fields.length 50||bigN r.fr.size 1100||bigN r.to.size 1100) with
    | true =>
     rw [hc1,Bool.true_or] at hR0
     rw [any_at hr hR0]
     refine Qf ?_
     exact ⟨by trivial,eV.trans (e1.trans eW)⟩
    | false =>
     rw [hc1,Bool.false_or] at hR0
     have hle2:r.fields.length≤50:=bigN_no (Bool.or_eq_false_iff.1 (Bool.or_eq_false_iff.1 hc1).1).1
     refine Qf ?_
     refine loop1_intro (fun i w=>∃ j:Nat,i = .int .i64 j∧j≤r.fields.length∧(r.fields.take j).any largeX=false∧Ext W w) (fun i _=>r.fields.length - (intOf i).toNat) ⟨0,rfl,by omega,rfl,Ext.refl _⟩ ?_
     rintro _ w2 ⟨j,rfl,hj,htj,e2⟩
     have q2:=cells_of_heap (e2.obj oW)
     unfold n42c4
     rcases drop_cases hj with ⟨x,hx,_,hlt2,hdec2⟩ | ⟨hje,_,hdec2⟩
     · have hwj:IntKind.i64.wrap ((j:Int)+1)=(j:Int)+1:=wrap_ok Qx Qx
       obtain ⟨b3,o3,cs,rfl,_,hA3,bv,tv,rfl,hB,hT⟩:=hel2 j x hx
       have u1:=SliceOf.oneCell hB
       have u2:=SliceOf.oneCell hT
       obtain ⟨A3,c3,rfl,_,_,_,_⟩:=SliceOf.open hB
       obtain ⟨A4,c4,rfl,_,_,_,_⟩:=SliceOf.open hT
       have hq3:=hA3.c7 (eV.trans (e1.trans (eW.trans e2)))
       have f1:decide ((x.to.size:Int) > 1100)=bigN x.to.size 1100:=rfl
       have f2:decide ((x.fr.size:Int) > 1100)=bigN x.fr.size 1100:=rfl
       have f3:decide ((x.bytes.length:Int) > 1100)=bigN x.bytes.length 1100:=rfl
       have f4:decide ((x.table.length:Int) > 50)=bigN x.table.length 50:=rfl
       refine QJ q2.1 hdec2 ?_
       unfold n42c3 n42c2 n42c1 joinK
       refine Q0 q2.1 hq3 f1 f2 f3 f4 ?_
       have hX0:largeX x=(bigN x.to.size 1100||bigN x.fr.size 1100||bigN x.bytes.length 1100||bigN x.table.length 50):=by unfold largeX;simp only [Bool.or_assoc]
       rw [← hX0]
       cases hX:largeX x with
       | true =>
        rw [any_at hx hX] at hR0
        rw [any_at hr hR0]
        refine Qf ?_
        exact ⟨by trivial,(eV.trans (e1.trans (eW.trans e2))).alloc _⟩
       | false =>
        refine Qp hwj ?_
        exact ⟨⟨j+1,rfl,hlt2,by rw [any_snoc hx htj,hX],e2.alloc _⟩,meas_lt (kd := .i64) hlt2⟩
     · rw [hje,List.take_length] at htj
       rw [htj] at hR0
       refine QQ q2.1 hdec2 hwk ?_
       exact ⟨⟨k+1,rfl,hlt,by rw [any_snoc hr ht,hR0],e1.trans (eW.trans e2)⟩,meas_lt (kd := .i64) hlt⟩
  · rw [hke,List.take_length] at ht
    refine QJ q1.1 hdec ?_
    exact ⟨by rw [ht],eV.trans e1⟩
abbrev encF (x:FrD):List Value:=frCells x nilS nilS
def plainF (x:FrD):Prop:=x.bytes=[]∧x.table=[]
structure InI (w1 w:World) (p7:Nat) (n:ByteArray) (fv:Value) (fs:List FrD):Prop where
 e:Ext w1 w
 l7:w1.heap.size≤p7
 o7:w.heap[p7]?=some (.cells (mrCells ⟨n,n,fs⟩ fv).toArray 60 (0,0))
 own:OwnE w w1.heap.size 43 7 encF fv fs
def EId (w:World) (lo:Nat) (cs:List Value) (r:MrD):Prop:=∃ fv,cs=mrCells r fv∧OwnE w lo 43 7 encF fv r.fields∧∀ x∈r.fields,plainF x
structure IdS (w0 w:World) (p2 p4:Nat) (nm:ByteArray) (rv:Value) (done:List MrD):Prop where
 e:Ext w0 w
 l2:w0.heap.size≤p2
 l4:w0.heap.size≤p4
 ne:p2≠p4
 o2:w.heap[p2]?=some (.cells (mapCells ⟨ByteArray.empty,[]⟩ nilS).toArray 24 (0,0))
 o4:w.heap[p4]?=some (.cells #[.string nm,rv] 24 (0,0))
 row:∃ css:List (Cs 3),OwnE w w0.heap.size 60 3 Subtype.val rv css∧Mates 3 (EId w w0.heap.size) css done
section
variable {w0 W w:World} {p1 p2:Nat} {m:MapD} {d:DefD} {s:ByteArray} {rv mv:Value}
abbrev TrR (w0:World):Ending→World→Prop:=retR fun r w'=>r = .bool true∧Ext w0 w'
end
theorem append_nilE {P:Program} {QP:List PanicEntry→World→Prop} {w:World} {α:Type} {t ty T n m:Nat} {z:Value} {agg:Bool} {enc:α→List Value} {E:World→List Value→α→Prop} {v:Value} {l:List α} {k:Value→World→Prop}
 (ht:P.underlying t=some (.slice T)) (hT:TyInfo P T agg n m z) (hz:z.cells.size=n) (h0:0 < n) (hn:∀ x,(enc x).length=n) (h1:∀ x,∀ u∈enc x,u.oneCell'=true)
 (hs:SliceOf w n E v l) (hE:∀ cs x,E w cs x→cs=enc x) (hm:l.length*m≤140737488355328) (hb:l.length≤140737488355328)
 (hk:∀ v' w',OwnE w' w.heap.size T n enc v' l→Ext w w'→k v' w') :
 opV P (Builtin.append_ #[t,t] ty #[.slice none 0 0,v]) QP w k:=by
 obtain ⟨A,c,rfl,hlc,hcm,hlm,hel⟩:=SliceOf.open hs
 cases hl:l with
 | nil =>
  subst hl
  rw [List.length_nil,op_append0 ht hT none A 0 0 c (Nat.le_refl _)]
  exact hk _ _ (OwnE.nil _ _ _ _ _) (Ext.refl _)
 | cons x r =>
  obtain ⟨b,o,_,hA,_⟩:=hel 0 x (by rw [hl];rfl)
  subst hA
  rw [← hl]
  refine op_appendE (l:=([]:List α)) (l':=l) ht hT hz h0 hn (fun x _=>h1 x) (OwnE.nil w w.heap.size n T enc) (fun j y hy=>?_) (Nat.le_refl _) (by simpa using hm) (by simpa using hb) fun v' w' hO hg=>?_
  · obtain ⟨b',o',cs,hA',_,hA,hc⟩:=hel j y hy
    injection hA' with hA'
    injection hA' with g1 g2
    subst g1 g2
    rw [← hE _ _ hc]
    exact hA
  · rw [List.nil_append] at hO
    refine hk v' w' (by rw [hl] at hO ⊢;exact hO) ((Ext.refl w).grown hg fun b hb=>by cases hb)
theorem clone_by {QP:List PanicEntry→World→Prop} {w:World} {v:Value} {l:List UInt8} {k:Value→World→Prop} (hs:ByOf w v l) (hl:l.length≤1048576) (hk:∀ v' w',OwnE w' w.heap.size 5 1 byteEnc v' l→Ext w w'→k v' w') :
 opV Pg (Builtin.append_ #[40,40] 40 #[.slice none 0 0,v]) QP w k :=
 append_nilE Tryz.underlying40 ty5 rfl Qj (fun _=>rfl) (fun x u hu=>by simp at hu;subst hu;rfl) hs (fun _ _ h=>h) (Nat.le_trans (Nat.mul_le_mul hl by5) Qj) Qx hk
theorem clone_rows {QP:List PanicEntry→World→Prop} {w:World} {v:Value} {l:List RowD} {k:Value→World→Prop} (hs:RowsOf w v l) (hl:l.length≤1048576) (hk:∀ v' w',OwnE w' w.heap.size 78 3 rowCells v' l→Ext w w'→k v' w') :
 opV Pg (Builtin.append_ #[41,41] 41 #[.slice none 0 0,v]) QP w k :=
 append_nilE Tryz.underlying41 ty78 rfl Qj (fun _=>rfl) (fun x u hu=>by simp at hu;rcases hu with rfl | rfl | rfl<;>rfl) hs (fun _ _ h=>h) (Nat.le_trans (Nat.mul_le_mul hl by78) Qj) Qx hk
def Own7 (w:World) (b0:Nat) (fv:Value) (fs:List FrD):Prop:=∃ css:List (Cs 7),OwnE w b0 43 7 Subtype.val fv css∧Mates 7 (E7 w b0) css fs
theorem Own7.ext {w w':World} {b0:Nat} {fv:Value} {fs:List FrD} (h:Own7 w b0 fv fs) (e:Ext w w'):Own7 w' b0 fv fs:=by obtain ⟨css,h1,h2⟩:=h;exact ⟨css,h1.ext e,h2.imp fun _ _ q=>q.ext e⟩
theorem Own7.one {w:World} {b0:Nat} {fv:Value} {fs:List FrD} (h:Own7 w b0 fv fs):fv.oneCell'=true:=by
 obtain ⟨css,h1,_⟩:=h
 exact SliceOf.oneCell (h1.slice (E:=fun _ cs x=>cs=x.1) (fun x=>x.2) (fun _ _=>rfl))
section
variable {w0 w:World} {p8 k:Nat} {fv t6 bv tv:Value} {fs:List FrD} {x:FrD} {next2:Value→Value→World→Prop} {R:RT}
theorem own_add (h:Own7 w w0.heap.size fv fs) (e:Ext w0 w) (o8:w.heap[p8]?=some (.cells (frCells x bv tv).toArray 43 (0,0))) (hb:OwnE w w0.heap.size 5 1 byteEnc bv x.bytes) (ht:OwnE w w0.heap.size 78 3 rowCells tv x.table) (hl:fs.length≤1048576) (hk:k≤1000000000)
 (hN:∀ fv' w',Own7 w' w0.heap.size fv' (fs++[x])→Ext w0 w'→w.heap.size≤w'.heap.size→(∀ b,b < w.heap.size→fv.ownBlock≠some b→w'.heap[b]?=w.heap[b]?)→next2 fv' (.int .i64 ((k:Int)+1)) w') :
 n45c1 fv (.int .i64 k) (.pointer (some ⟨p8,0,none⟩)) next2 R w:=by
 have hwk:IntKind.i64.wrap ((k:Int)+1)=(k:Int)+1:=wrap_ok Qx Qx
 obtain ⟨css,hO,hM⟩:=h
 have u1:bv.oneCell'=true:=SliceOf.oneCell (own_by hb)
 have u2:tv.oneCell'=true:=SliceOf.oneCell (own_rows ht)
 have hml:css.length=fs.length:=hM.1
 unfold n45c1
 refine Qp (cells_of_heap o8).1 ?_
 have eV:Ext w (w.alloc (.cells (frCells x bv tv).toArray 43)):=(Ext.refl w).alloc _
 have oV:=heap_new w (frCells x bv tv).toArray 43
 change opV _ _ _ (w.alloc (.cells (frCells x bv tv).toArray 43)) _
 generalize (w.alloc (.cells (frCells x bv tv).toArray 43))=V at eV oV ⊢
 refine append_fr (x:=⟨frCells x bv tv,rfl⟩) (fun u hu=>?_) (hO.ext eV) oV (Nat.le_trans e.size eV.size) Qx ?_
 · simp only [List.mem_cons,List.not_mem_nil,or_false] at hu
   rcases hu with rfl | rfl | rfl | rfl | rfl | rfl | rfl<;>first | rfl | assumption
 intro v' w' hO' hg
 have hOV:=hO.ext eV
 refine Qp hwk ?_
 refine hN v' w' ⟨css++[⟨frCells x bv tv,rfl⟩],hO',mates_app (hM.imp fun _ _ q=>(q.ext eV).grow hOV hg Qj Qj) ⟨rfl,fun j y cs hx hcs=>?_⟩⟩ ((e.trans eV).grown hg fun b hb=>(World.ownsRow.lt hO b hb).1) (Nat.le_trans eV.size hg.size) fun b hb hne=>(hg.block b (Nat.lt_of_lt_of_le hb eV.size) fun h=>hne h.symm).trans (eV.block b hb)
 cases j with
 | succ j=>simp at hx
 | zero =>
  simp at hx hcs
  subst hx hcs
  have hE:E7 w w0.heap.size (frCells x bv tv) x:=⟨bv,tv,rfl,hb,ht⟩
  exact (hE.ext eV).grow hOV hg Qj Qj
theorem Own7.chg {w':World} {oc:Array Value} {f:Nat×Nat} {b0:Nat} (h:Own7 w b0 fv fs) (hc:Chg p8 w w') (ho:w.heap[p8]?=some (.cells oc 43 f)) (hne:fv.ownBlock≠some p8):Own7 w' b0 fv fs:=by
 obtain ⟨css,h1,h2⟩:=h
 exact ⟨css,own_chg h1 hc hne,h2.imp fun _ _ q=>q.chg hc ho Qj Qj⟩
theorem own_copy (h:Own7 w w0.heap.size fv fs) (e:Ext w0 w) (lp:w0.heap.size≤p8) (hne:fv.ownBlock≠some p8) (o8:w.heap[p8]?=some (.cells (frCells x bv tv).toArray 43 (0,0))) (hb:ByOf w bv x.bytes) (ht:RowsOf w tv x.table) (b1:x.bytes.length≤1048576) (b2:x.table.length≤1048576) (hl:fs.length≤1048576) (hk:k≤1000000000)
 (hN:∀ fv' w',Own7 w' w0.heap.size fv' (fs++[x])→Ext w0 w'→w.heap.size≤w'.heap.size→(∀ b,b < w.heap.size→b≠p8→fv.ownBlock≠some b→w'.heap[b]?=w.heap[b]?)→next2 fv' (.int .i64 ((k:Int)+1)) w') :
 drawK w fun C w=>n45c4 fv (.int .i64 k) (.pointer (some ⟨p8,0,none⟩)) C next2 R w:=by
 refine drawK_intro ?_
 have eD:Ext w (Sw.drew w):=(Ext.refl w).drew
 have hD:=h.ext eD
 have o8D:=eD.obj o8
 have hbD:=hb.ext eD
 have htD:=ht.ext eD
 have e0D:=e.trans eD
 have v1:bv.oneCell'=true:=SliceOf.oneCell hb
 have v2:tv.oneCell'=true:=SliceOf.oneCell ht
 have sD:w.heap.size≤(Sw.drew w).heap.size:=eD.size
 have kD:∀ b,b < w.heap.size→(Sw.drew w).heap[b]?=w.heap[b]?:=fun b hb=>eD.block b hb
 generalize (Sw.drew w)=D at hD o8D hbD htD e0D sD kD ⊢
 unfold n45c4
 refine Qp (cells_of_heap o8D).1 ?_
 refine clone_by hbD b1 fun bv' w1 hb' e1=>?_
 refine ⟨e1,?_⟩
 unfold n45c3
 refine Qf ?_
 refine clone_rows (htD.ext e1) b2 fun tv' w2 ht' e2=>?_
 have e12:=e1.trans e2
 refine ⟨e12,?_⟩
 have o82:=e12.obj o8D
 have h2:=hD.ext e12
 have hb2:=(hb'.ext e2).base e0D.size
 have ht2:=ht'.base (e0D.trans e1).size
 have u1:bv'.oneCell'=true:=SliceOf.oneCell (own_by hb2)
 have u2:tv'.oneCell'=true:=SliceOf.oneCell (own_rows ht2)
 unfold n45c2
 refine QJ (cells_of_heap o82).1 (cells_of_heap o82).2 ?_
 refine turnK_intro ?_
 have o83:=heap_set (o:=5) o82 bv'
 refine QJ (cells_of_heap o83).1 (cells_of_heap o83).2 ?_
 refine turnK_intro ?_
 have hc:Chg p8 w2 ((w2.setCell ⟨p8,5,none⟩ bv').setCell ⟨p8,6,none⟩ tv'):=⟨by rw [World.size_setCell,World.size_setCell];exact Nat.le_refl _,fun b _ hb=>(Only.setCell _ p8 6 _ b hb).trans (Only.setCell w2 p8 5 _ b hb)⟩
 have e4:Ext w0 ((w2.setCell ⟨p8,5,none⟩ bv').setCell ⟨p8,6,none⟩ tv'):=((e0D.trans e12).setCell (p:=⟨p8,5,none⟩) lp _).setCell (p:=⟨p8,6,none⟩) lp _
 have o84:((w2.setCell ⟨p8,5,none⟩ bv').setCell ⟨p8,6,none⟩ tv').heap[p8]?=some (.cells (frCells x bv' tv').toArray 43 (0,0)):=heap_set (o:=6) o83 tv'
 have s4:w2.heap.size≤((w2.setCell ⟨p8,5,none⟩ bv').setCell ⟨p8,6,none⟩ tv').heap.size:=hc.size
 refine own_add (h2.chg hc o82 hne) e4 o84 (own_chg hb2 hc (own_type hb2 o82 Qj)) (own_chg ht2 hc (own_type ht2 o82 Qj)) hl hk fun fv' w' g1 g2 g3 g4=>?_
 have s2:=e12.size
 refine hN fv' w' g1 g2 Qx fun b hb h8 hne'=>?_
 exact (g4 b Qx hne').trans ((hc.block b Qx h8).trans ((e12.block b Qx).trans (kD b hb)))
end
def EO (w:World) (lo:Nat) (cs:List Value) (r:MrD):Prop:=∃ fv,cs=mrCells r fv∧Own7 w lo fv r.fields
theorem EO.ext {w w':World} {lo:Nat} {cs:List Value} {r:MrD} (h:EO w lo cs r) (e:Ext w w'):EO w' lo cs r:=by obtain ⟨fv,h1,h2⟩:=h;exact ⟨fv,h1,h2.ext e⟩
theorem EO.mr {w:World} {lo:Nat} {cs:List Value} {r:MrD} (h:EO w lo cs r):EMr w cs r:=by
 obtain ⟨fv,h1,css,h2,h3⟩:=h
 exact ⟨fv,h1,h2.reads (h3.imp fun _ _ q=>q.fr)⟩
theorem EO.chg {w w':World} {lo g:Nat} {cs:List Value} {r:MrD} {oc:Array Value} {T:TypeId} {f:Nat×Nat} (h:EO w lo cs r) (hc:Chg g w w') (ho:w.heap[g]?=some (.cells oc T f)) (h1:5≠T) (h2:78≠T) (hT:43≠T):EO w' lo cs r:=by
 obtain ⟨fv,g1,css,g2,g3⟩:=h
 exact ⟨fv,g1,css,own_chg g2 hc (own_type g2 ho hT),g3.imp fun _ _ q=>q.chg hc ho h1 h2⟩
theorem EO.grow {α:Type} {w w':World} {lo lo2 n:Nat} {cs:List Value} {r:MrD} {v:Value} {l:List α} {enc:α→List Value} {T:TypeId} (h:EO w lo cs r) (hO:OwnE w lo2 T n enc v l) (hg:w.grownBy w' v.ownBlock) (h1:5≠T) (h2:78≠T) (hT:43≠T):EO w' lo cs r:=by
 rcases own_grow hO hg with e | ⟨g,oc,f,_,ho,hc⟩
 · exact h.ext e
 · exact h.chg hc ho h1 h2 hT
theorem E7.low {w:World} {lo lo':Nat} {cs:List Value} {x:FrD} (h:E7 w lo cs x) (hl:lo'≤lo):E7 w lo' cs x:=by
 obtain ⟨bv,tv,h1,h2,h3⟩:=h
 exact ⟨bv,tv,h1,h2.base hl,h3.base hl⟩
theorem Own7.low {w:World} {lo lo':Nat} {fv:Value} {fs:List FrD} (h:Own7 w lo fv fs) (hl:lo'≤lo):Own7 w lo' fv fs:=by
 obtain ⟨css,h1,h2⟩:=h
 exact ⟨css,h1.base hl,h2.imp fun _ _ q=>q.low hl⟩
section
variable {w0 w1 w:World} {p5 i:Nat} {fv rv:Value} {r:MrD} {next1:Value→Value→World→Prop} {R:RT}
theorem own_fields (e01:Ext w0 w1) (o5:w1.heap[p5]?=some (.cells (mrCells r fv).toArray 60 (0,0))) (hF:FrsOf w1 fv r.fields) (hl:r.fields.length≤1048576) (hb:∀ x∈r.fields,x.bytes.length≤1048576∧x.table.length≤1048576)
 (hK:∀ fv' w',Own7 w' w1.heap.size fv' r.fields→Ext w1 w'→n45c5 rv (.int .i64 i) (.pointer (some ⟨p5,0,none⟩)) fv' next1 R w') :
 loop2 (fun t6 t7 w next2=>n45c7 rv (.int .i64 i) (.pointer (some ⟨p5,0,none⟩)) t6 t7 next1 next2 R w) (.slice none 0 0) (.int .i64 0) w1:=by
 obtain ⟨A,c,rfl,hlc,hcm,hlm,hel⟩:=SliceOf.open hF
 refine loop2_intro (fun a b w=>∃ (k:Nat) (u:Value),a=u∧b = .int .i64 k∧k≤r.fields.length∧Own7 w w1.heap.size u (r.fields.take k)∧Ext w1 w) (fun _ b _=>r.fields.length - (intOf b).toNat) ⟨0,_,rfl,rfl,by omega,⟨[],OwnE.nil _ _ _ _ _,rfl,fun k x cs hx=>by simp at hx⟩,Ext.refl _⟩ ?_
 rintro u _ w ⟨k,_,rfl,rfl,hk,hO,e⟩
 have q:=(cells_of_heap (e.obj o5)).1
 unfold n45c7
 rcases drop_cases hk with ⟨x,hx,_,hlt,hdec⟩ | ⟨hke,_,hdec⟩
 · obtain ⟨b,o,cs,rfl,_,hA,bv,tv,rfl,hB,hT⟩:=hel k x hx
   have v1:=SliceOf.oneCell hB
   have v2:=SliceOf.oneCell hT
   have hq:=hA.c7 e
   obtain ⟨b1,b2⟩:=hb x (List.mem_of_getElem? hx)
   refine QJ q hdec ?_
   unfold n45c6
   refine QJ q hq ?_
   have eV:Ext w (w.alloc (.cells (frCells x bv tv).toArray 43)):=(Ext.refl w).alloc _
   have oV:=heap_new w (frCells x bv tv).toArray 43
   change drawK (w.alloc (.cells (frCells x bv tv).toArray 43)) _
   generalize (w.alloc (.cells (frCells x bv tv).toArray 43))=V at eV oV ⊢
   have hne:u.ownBlock≠some w.heap.size:=fun h=>by
    obtain ⟨css,h1,_⟩:=hO
    have:=(World.ownsRow.lt h1 _ h).2
    omega
   refine own_copy (hO.ext eV) (e.trans eV) e.size hne oV (hB.ext (e.trans eV)) (hT.ext (e.trans eV)) b1 b2 (by rw [List.length_take];omega) Qx fun fv' w' g1 g2 _ _=>?_
   exact ⟨⟨k+1,fv',rfl,rfl,hlt,by rw [take_snoc' hx];exact g1,g2⟩,meas_lt (kd := .i64) hlt⟩
 · rw [hke,List.take_length] at hO
   refine QJ q hdec ?_
   exact hK _ _ hO e
theorem own_rule {css:List (Cs 3)} {done:List MrD} (hO:OwnE w w0.heap.size 60 3 Subtype.val rv css) (hM:Mates 3 (EO w w0.heap.size) css done) (e:Ext w0 w) (lp:w0.heap.size≤p5) (hne:rv.ownBlock≠some p5) (o5:w.heap[p5]?=some (.cells (mrCells r fv).toArray 60 (0,0))) {fv':Value} (hF:Own7 w w0.heap.size fv' r.fields) (hl:done.length≤1048576) (hi:i≤1000000000)
 (hN:∀ rv' w' css',OwnE w' w0.heap.size 60 3 Subtype.val rv' css'→Mates 3 (EO w' w0.heap.size) css' (done++[r])→Ext w0 w'→w.heap.size≤w'.heap.size→(∀ b,b < w.heap.size→b≠p5→rv.ownBlock≠some b→w'.heap[b]?=w.heap[b]?)→next1 rv' (.int .i64 ((i:Int)+1)) w') :
 n45c5 rv (.int .i64 i) (.pointer (some ⟨p5,0,none⟩)) fv' next1 R w:=by
 have hwi:IntKind.i64.wrap ((i:Int)+1)=(i:Int)+1:=wrap_ok Qx Qx
 have u1:=hF.one
 have hml:css.length=done.length:=hM.1
 unfold n45c5
 refine QJ (cells_of_heap o5).1 (cells_of_heap o5).2 ?_
 have hc:Chg p5 w (w.setCell ⟨p5,2,none⟩ fv'):=⟨by rw [World.size_setCell];exact Nat.le_refl _,fun b _ hb=>Only.setCell _ p5 2 _ b hb⟩
 have eS:Ext w0 (w.setCell ⟨p5,2,none⟩ fv'):=e.setCell (p:=⟨p5,2,none⟩) lp _
 have oS:(w.setCell ⟨p5,2,none⟩ fv').heap[p5]?=some (.cells (mrCells r fv').toArray 60 (0,0)):=heap_set (o:=2) o5 fv'
 have hOS:=own_chg hO hc hne
 have hMS:=hM.imp fun _ _ q=>q.chg hc o5 Qj Qj Qj
 have hFS:EO (w.setCell ⟨p5,2,none⟩ fv') w0.heap.size (mrCells r fv') r:=EO.chg ⟨fv',rfl,hF⟩ hc o5 Qj Qj Qj
 have sS:(w.setCell ⟨p5,2,none⟩ fv').heap.size=w.heap.size:=World.size_setCell ..
 generalize (w.setCell ⟨p5,2,none⟩ fv')=S at hc eS oS hOS hMS hFS sS ⊢
 refine Qp (cells_of_heap oS).1 ?_
 rw [← sS]
 have eV:Ext S (S.alloc (.cells (mrCells r fv').toArray 60)):=(Ext.refl S).alloc _
 have oV:=heap_new S (mrCells r fv').toArray 60
 change opV _ _ _ (S.alloc (.cells (mrCells r fv').toArray 60)) _
 generalize (S.alloc (.cells (mrCells r fv').toArray 60))=V at eV oV ⊢
 refine append_mr (x:=⟨mrCells r fv',rfl⟩) (fun u hu=>?_) (hOS.ext eV) oV (Nat.le_trans eS.size eV.size) Qx ?_
 · simp only [List.mem_cons,List.not_mem_nil,or_false] at hu
   rcases hu with rfl | rfl | rfl<;>first | rfl | assumption
 intro v' w' hO' hg
 have hOV:=hOS.ext eV
 refine Qp hwi ?_
 have s1:=eV.size
 have s2:=hg.size
 refine hN v' w' (css++[⟨mrCells r fv',rfl⟩]) hO' (mates_app (hMS.imp fun _ _ q=>(q.ext eV).grow hOV hg Qj Qj Qj) ⟨rfl,fun j y cs hx hcs=>?_⟩) ((eS.trans eV).grown hg fun b hb=>(World.ownsRow.lt hO b hb).1) Qx fun b hb h5 hne'=>(hg.block b Qx fun h=>hne' h.symm).trans ((eV.block b Qx).trans (hc.block b hb h5))
 cases j with
 | succ j=>simp at hx
 | zero =>
  simp at hx hcs
  subst hx hcs
  exact (hFS.ext eV).grow hOV hg Qj Qj Qj
end
end Go.Proofs.YtgalpdihjbinjaaGreatDoor
