/-
  Lemmas for the claim.
-/
import Derived.Test.YtpgkjhikdhdffaaGreatDoorVd2
set_option linter.all false
set_option maxHeartbeats 4000000
set_option maxRecDepth 100000
namespace Go.Proofs.YtpgkjhikdhdffaaGreatDoor
open Sw
open Go.RowKit (intOf Below)
abbrev rangeVal (lo hi:Int):Value := .agg #[.int .i64 lo,.int .i64 hi]
theorem ETerm.one {w:World} {cs:List Value} {t:TermD} (h:ETerm w cs t):∀ u∈cs,u.oneCell'=true:=by
 have h:cs=termCells t:=h
 subst h
 intro u hu
 simp only [termCells,List.mem_cons,List.not_mem_nil,or_false] at hu
 rcases hu with rfl | rfl<;>rfl
theorem Clone_Term_ret (w0:World) (v:Value) (css:List (Cs 2)) (hs:SliceOf w0 2 (fun _ cs x=>cs=x.1) v css) (h1:∀ x∈css,∀ u∈x.1,u.oneCell'=true) (hb:css.length≤1048576) :
 Ret Pg 49 #[v] w0 fun r w'=>OwnE w' w0.heap.size 32 2 Subtype.val r css∧Ext w0 w':=by
 obtain ⟨A,c,rfl,hlc,hcm,hlm,hel⟩:=SliceOf.open hs
 refine n50s (R:=retR _) ?_;unfold n50
 simp (disch:=try exact DI) only [↓PR,QR,simprocAttr]
 cases A with
 | none =>
  have:css=[]:=by
   cases css with
   | nil=>rfl
   | cons x l=>obtain ⟨_,_,_,h,_⟩:=hel 0 x rfl;cases h
  subst this
  simp only [Option.isNone_none]
  simp (disch:=try exact DI) only [↓PR,QR,simprocAttr]
  exact ⟨OwnE.nil _ _ _ _ _,ee⟩
 | some a =>
  simp only [Option.isNone_some]
  simp (disch:=try exact DI) only [↓PR,QR,simprocAttr]
  have hO:=OwnE.new w0 32 2 (Subtype.val:Cs 2→List Value) [] (fun x=>x.2) (by simp)
  simp only [List.flatMap_nil,List.length_nil] at hO
  have eW:Ext w0 (w0.alloc (.cells #[] 32)):=ee
  have hsz:w0.heap.size≤(w0.alloc (.cells #[] 32)).heap.size:=eW.size
  generalize w0.alloc (.cells #[] 32)=W at hO eW hsz ⊢
  cases hcs:css with
  | nil =>
   subst hcs
   simp only [List.length_nil]
   rw [op_append0 Tryz.underlying22 ty32 _ _ _ _ _ (Nat.le_refl 0)]
   simp (disch:=try exact DI) only [↓PR,QR,simprocAttr]
   exact ⟨hO,eW⟩
  | cons x0 l0 =>
   obtain ⟨b,o,_,hA,_⟩:=hel 0 x0 (by rw [hcs];rfl)
   injection hA with hA
   subst hA
   rw [← hcs]
   refine op_appendE Tryz.underlying22 ty32 rfl (by decide) (fun x=>x.2) h1 hO (fun j x hx=>?_) hsz ?_ (by simp;omega) ?_
   · obtain ⟨b',o',cs,hA',hl',hE,rfl⟩:=hel j x hx
     injection hA' with hA'
     injection hA' with h3 h4
     subst h3 h4
     exact hE.ext eW
   · have:=by32
     rw [List.length_nil,Nat.zero_add]
     exact Nat.le_trans (Nat.mul_le_mul hb this) (by decide)
   · intro v' w' ho hg
     simp (disch:=try exact DI) only [↓PR,QR,simprocAttr]
     refine ⟨ho,eW.grown hg ?_⟩
     intro k hk
     have h:=hO.lt k hk
     exact h.1
theorem take_snoc {α:Type} {l:List α} {k:Nat} {x:α} (hx:l[k]?=some x):l.take (k+1)=l.take k++[x]:=by
 rw [List.take_add_one,hx];rfl
def TermsAt (w:World) (pb:Nat) (tv:Value) (ts:List TermD):Prop:=w.cell? ⟨pb,0,none⟩=some tv∧TermsOf w tv ts∧∀ A m c,tv = .slice (some A) m c→pb < A.block
theorem TermsAt.ext {w w':World} {pb:Nat} {tv:Value} {ts:List TermD} (h:TermsAt w pb tv ts) (e:Ext w w'):TermsAt w' pb tv ts:=⟨e.cell h.1,TermsOf.ext h.2.1 e,h.2.2⟩
theorem TermsAt.set {w:World} {pb:Nat} {tv:Value} {ts:List TermD} (h:TermsAt w pb tv ts) {b o:Nat} (hb:b < pb) (u:Value):TermsAt (w.setCell ⟨b,o,none⟩ u) pb tv ts :=
 ⟨by rw [cell_set_other (by omega)];exact h.1,SliceOf.setOther h.2.1 u (fun A m c e=>by have:=h.2.2 A m c e;omega) (fun _ _ h=>h),h.2.2⟩
theorem Names_ret (w0:World) (v:Value) (base:Int) (ts:List TermD) (hs:SizeVal w0 v base ts) (hb:ts.length≤1048576) :
 Ret Pg 14 #[v] w0 fun r w'=>∃ pb tv,r = .func (.func 50) #[] #[.pointer (some ⟨pb,0,none⟩)]∧TermsAt w' pb tv (if sizeB base ts then ts else [])∧w0.heap.size≤pb∧Ext w0 w':=by
 obtain ⟨tv,rfl,hT⟩:=hs
 have ht1:=SliceOf.oneCell hT
 refine n29s (R:=retR _) ?_;unfold n29
 simp (disch:=try exact DI) only [↓PR,QR,simprocAttr,↓n29c1]
 refine zcr (Valid_ret _ _ base ts ⟨tv,rfl,TermsOf.ext hT ee⟩) fun w1 e1=>?_
 have s1:=e1.size
 try simp only [World.size_alloc,World.size_setCell,World.size_drew,World.putObj_size,Sw.putW_size] at s1
 cases hv:sizeB base ts with
 | false =>
  simp (disch:=try exact DI) only [↓PR,QR,simprocAttr,↓n29c1]
  refine ⟨_,_,rfl,⟨e1.cell (by simp (disch:=try exact DI) only [↓PR,QR,simprocAttr]),SliceOf.nil _ _ _,fun A m c e=>by cases e⟩,by omega,ee⟩
 | true =>
  simp (disch:=try exact DI) only [↓PR,QR,simprocAttr,↓n29c1,e1.cellQ,e1.frozenQ]
  obtain ⟨cssT,hrawT,hmatesT⟩:=SliceOf.raw hT
  refine callK_ret (Clone_Term_ret _ tv cssT (hrawT.ext keptRaw ee) (fun y hy=>by obtain ⟨m,_,hm⟩:=hmatesT.mem hy;exact ETerm.one hm) (by rw [hmatesT.1];exact hb)) ?_
  rintro t8 w2 ⟨hO,e2⟩
  have s2:=e2.size
  have hO':=OwnE.mates hO (hmatesT.imp fun _ _ h=>h)
  have hS:=hO'.slice (E:=ETerm) (fun _=>rfl) (fun _ _=>rfl)
  have h8:=SliceOf.oneCell hS
  have hTy:TypeAt w2 (w0.heap.size+1) 22:=(TypeAt.ext (w:=(w0.alloc _).alloc (.cells #[.slice none 0 0] 22)) ⟨_,_,by have:=heap_new (w0.alloc (.cells #[.int .i64 base,tv] 24)) #[.slice none 0 0] 22;rw [World.size_alloc] at this;exact this⟩ (e1.trans e2))
  simp (disch:=try exact DI) only [↓PR,QR,simprocAttr,↓n29c1,e1.cellQ,e1.frozenQ,e2.cellQ,e2.frozenQ]
  have hS2:=((hO'.range.only (Only.setCell w2 (w0.heap.size+1) 0 t8) (.inr (.inl (by omega)))).1).slice (E:=ETerm) (fun _=>rfl) (fun _ _=>rfl)
  refine ⟨_,t8,rfl,⟨?_,hS2,fun A m c e=>by subst e;have:=hO'.lt A.block rfl;omega⟩,by omega,ee⟩
  simp (disch:=try exact DI) only [↓PR,QR,simprocAttr,e1.cellQ,e1.frozenQ,e2.cellQ,e2.frozenQ]
def namesX (ts:List TermD) (k:Nat):Value:=match ts[k]? with
 | some t => .string t.field
 | none=>undef
theorem Names_seq (pb:Nat) (tv:Value) (ts:List TermD):SeqIt Pg 50 #[.pointer (some ⟨pb,0,none⟩)] ts.length (namesX ts) (fun w=>TermsAt w pb tv ts):=by
 intro yv J Jx Jp w hFP hJe hJx hstep h0
 obtain ⟨hc,hT,_⟩:=hFP 0 w h0
 obtain ⟨A,c,rfl,hlc,hcm,hlm,hel⟩:=SliceOf.open hT
 refine n30s (t0:=yv) (t1 := .pointer (some ⟨pb,0,none⟩)) ?_
 unfold n30
 simp (disch:=try exact DI) only [↓PR,QR,simprocAttr,hc]
 refine loop1_intro (fun i w=>∃ k:Nat,i = .int .i64 k∧k≤ts.length∧J k w) (fun i _=>ts.length - (intOf i).toNat) ⟨0,rfl,by omega,h0⟩ ?_
 rintro i w' ⟨k,rfl,hk,hJ⟩
 rcases drop_cases hk with ⟨x,hx,hd,hlt,hdec⟩ | ⟨hk,hd,hdec⟩
 · obtain ⟨_,hT',_⟩:=hFP k w' hJ
   obtain ⟨A',c',hv,_,_,_,hel'⟩:=SliceOf.open hT'
   injection hv with hv _ hv'
   subst hv hv'
   obtain ⟨b,o,cs,rfl,hl,hA,rfl⟩:=hel' k x hx
   have er:=Ext.refl w'
   simp (disch:=try exact DI) only [↓PR,QR,simprocAttr,↓n30c1,↓n30c2,hdec,hA.c2]
   have hs:=hstep k hlt _ (hJe k w' _ hJ ((Ext.refl w').alloc (.cells #[.string x.field,.int .i64 x.factor] 32)))
   rw [show namesX ts k = .string x.field by unfold namesX;rw [hx]] at hs
   refine callV_mono hs (fun ch w h=>h) ?_
   rintro v w2 (⟨rfl,h2⟩ | ⟨rfl,h2⟩)
   · simp (disch:=try exact DI) only [↓PR,QR,simprocAttr,↓n30c1,↓n30c2]
     exact ⟨⟨k+1,rfl,by omega,h2⟩,meas_lt (kd := .i64) hlt⟩
   · simp (disch:=try exact DI) only [↓PR,QR,simprocAttr,↓n30c1,↓n30c2]
     exact .inr h2
 · subst hk
   simp (disch:=try exact DI) only [↓PR,QR,simprocAttr,↓n30c1,↓n30c2,hdec]
   exact .inl hJ
theorem TermsAt.lasts (B pb:Nat) (tv:Value) (ts:List TermD):Lasts B (fun w=>TermsAt w pb tv ts) :=
 Lasts.and (Lasts.cell B) (Lasts.and ⟨fun _ _ h e=>TermsOf.ext h e,fun _ _ _ _ _ h hl=>SliceOf.putLoop (fun _ _ h=>h) hl h⟩ (Lasts.const _ _))
def checkedF (but:ByteArray) (ps:List (ByteArray×Value)) (p:Value→Bool):List TermD→Bool→Int
 | [],no=>if no then 9 else 0
 | t::ts,no=>if t.field=but then checkedF but ps p ts no else match lastOf ps t.field with
  | none=>checkedF but ps p ts true
  | some v=>if p v then checkedF but ps p ts no else 2
theorem checked_Range_ret (w0:World) (v:Value) (base:Int) (ts:List TermD) (but:ByteArray) (m:Nat) (ps:List (ByteArray×Value)) (g:FuncId) (caps:Array Value) (p:Value→Bool) (hs:SizeVal w0 v base ts) (hb:ts.length≤1048576)
 (hm:MapOf w0 m ps) (hr:∀ k v,lastOf ps k=some v→∃ lo hi,v=rangeVal lo hi) (hg:Callable Pg g) (hc:∀ w lo hi,Ext w0 w→Ret Pg g (#[rangeVal lo hi]++caps) w fun r w'=>r = .bool (p (rangeVal lo hi))∧Ext w w') :
 Ret Pg 58 #[v,.string but,.map (some m),.func (.func g) #[] caps] w0 fun r w'=>r = .int .i64 (if sizeB base ts then checkedF but ps p ts false else 2)∧Ext w0 w':=by
 obtain ⟨tv,rfl,hT⟩:=hs
 have ht1:=SliceOf.oneCell hT
 have hmlt:=hm.lt
 refine n41s (R:=retR _) ?_;unfold n41
 simp (disch:=try exact DI) only [↓PR,QR,simprocAttr,↓n41c1,↓n41c2,↓n41c3,↓n41c4,↓n41c5,↓n41c6]
 refine zcr (Valid_ret _ _ base ts ⟨tv,rfl,TermsOf.ext hT ee⟩) fun w1 e1=>?_
 have s1:=e1.size
 try simp only [World.size_alloc,World.size_setCell,World.size_drew,World.putObj_size,Sw.putW_size] at s1
 cases hv:sizeB base ts with
 | false =>
  simp (disch:=try exact DI) only [↓PR,QR,simprocAttr,↓n41c1,↓n41c2,↓n41c3,↓n41c4,↓n41c5,↓n41c6,e1.cellQ,e1.frozenQ,outX_nil,retV,resOne]
  exact ⟨by first | trivial | rfl,ee⟩
 | true =>
  simp (disch:=try exact DI) only [↓PR,QR,simprocAttr,↓n41c1,↓n41c2,↓n41c3,↓n41c4,↓n41c5,↓n41c6,e1.cellQ,e1.frozenQ]
  refine callK_ret (Names_ret _ _ base ts ⟨tv,rfl,TermsOf.ext hT ee⟩ hb) ?_
  rintro _ w2 ⟨pb,tv2,rfl,hTA,hpb,e2⟩
  rw [hv] at hTA
  simp only [if_true] at hTA
  have s2:=e2.size
  simp only [World.size_alloc] at s2 hpb
  have o5:w2.heap[w0.heap.size+1]?=some (.cells #[.string but] 9 (0,0)):=by simp (disch:=try exact DI) only [↓PR,QR,simprocAttr,e1.heapQ,e2.heapQ]
  have o6:w2.heap[w0.heap.size+1+1]?=some (.cells #[.map (some m)] 46 (0,0)):=by simp (disch:=try exact DI) only [↓PR,QR,simprocAttr,e1.heapQ,e2.heapQ]
  have o7:w2.heap[w0.heap.size+1+1+1]?=some (.cells #[.func (.func g) #[] caps] 96 (0,0)):=by simp (disch:=try exact DI) only [↓PR,QR,simprocAttr,e1.heapQ,e2.heapQ]
  have o8:w2.heap[w0.heap.size+1+1+1+1]?=some (.cells #[.int .i64 0] 39 (0,0)):=by simp (disch:=try exact DI) only [↓PR,QR,simprocAttr,e1.heapQ,e2.heapQ]
  have o9:w2.heap[w1.heap.size]?=some (.cells #[.bool false] 4 (0,0)):=by simp (disch:=try exact DI) only [↓PR,QR,simprocAttr,e1.heapQ,e2.heapQ]
  have eW:Ext w0 w2:=ee
  simp only [World.size_alloc]
  unfold n41c4
  let I:Nat→World→Prop:=fun k w=>Ext w0 w∧w.heap[w0.heap.size+1]?=some (.cells #[.string but] 9 (0,0))∧w.heap[w0.heap.size+1+1]?=some (.cells #[.map (some m)] 46 (0,0)) ∧
   w.heap[w0.heap.size+1+1+1]?=some (.cells #[.func (.func g) #[] caps] 96 (0,0))∧TermsAt w pb tv2 ts ∧
   ∃ nb x,w.heap[w0.heap.size+1+1+1+1]?=some (.cells #[.int .i64 x] 39 (0,0))∧w.heap[w1.heap.size]?=some (.cells #[.bool nb] 4 (0,0))∧checkedF but ps p (ts.drop k) nb=checkedF but ps p ts false
  let Ix:Nat→World→Prop:=fun c w=>c=0∧Ext w0 w∧w.heap[w0.heap.size+1+1+1+1]?=some (.cells #[.int .i64 2] 39 (0,0))∧checkedF but ps p ts false=2
  have hLI:∀ k,Lasts w2.heap.size (I k):=fun k=>Lasts.and (Lasts.from (by omega)) (Lasts.and (Lasts.has _ (by simp)) (Lasts.and (Lasts.has _ (by simp)) (Lasts.and (Lasts.has _ (by simp)) (Lasts.and (TermsAt.lasts _ _ _ _)
   (Lasts.ex fun nb=>Lasts.ex fun x=>Lasts.and (Lasts.has _ (by simp)) (Lasts.and (Lasts.has _ (by simp)) (Lasts.const _ _)))))))
  have hLX:∀ k,Lasts w2.heap.size (Ix k):=fun k=>Lasts.and (Lasts.const _ _)<|Lasts.and (Lasts.from (by omega)) (Lasts.and (Lasts.has _ (by simp)) (Lasts.const _ _))
  refine ⟨_,_,ts.length,namesX ts,fun w=>TermsAt w pb tv2 ts,I,Ix,fun _ _=>False,rfl,c50,Names_seq pb tv2 ts,⟨eW,o5,o6,o7,hTA,false,0,o8,o9,rfl⟩,fun k w h=>h.2.2.2.2.1,hLI,hLX,?_,?_,?_,?_⟩
  · intro rec j w3 hj hI3 hrec hready
    refine ⟨hready,fun w4 hbz=>?_⟩
    have hrec4:=hrec.busied hbz
    have hI4:=(hLI j).busied hbz (Nat.le_succ _) hI3
    clear hI3 hrec hready hbz
    obtain ⟨e4,o5,o6,o7,hTA4,nb,x,o8,o9,hF⟩:=hI4
    obtain ⟨t,hx⟩:=getElem?_lt hj
    rw [show namesX ts j = .string t.field by unfold namesX;rw [hx]]
    have hd:ts.drop j=t::ts.drop (j+1):=by
     rw [List.drop_eq_getElem_cons hj]
     congr 1
     exact (List.getElem?_eq_some_iff.1 hx).2
    rw [hd] at hF
    simp only [checkedF] at hF
    have hm4:=hm.ext e4
    have s4:=e4.size
    have l9:w1.heap.size < w4.heap.size:=(Array.getElem?_eq_some_iff.1 o9).1
    have l8:w0.heap.size+1+1+1+1 < w4.heap.size:=(Array.getElem?_eq_some_iff.1 o8).1
    simp (disch:=try exact DI) only [↓PR,QR,simprocAttr,↓n41c1,↓n41c2,↓n41c3,↓n41c4,↓n41c5,↓n41c6,(cells_of_heap o5).1,(cells_of_heap o6).1]
    rw [op_lookupO Tryz.underlying46 Tryz.underlying9 ty51 hm4]
    have next:∀ nb' w5,Ext w4 w5→checkedF but ps p (ts.drop (j+1)) nb'=checkedF but ps p ts false→nb'=nb→I (j+1) w5:=fun nb' w5 e5 h hn=>(hLI (j+1)).ext _ _ ⟨e4,o5,o6,o7,hTA4,nb,x,o8,o9,hn ▸ h⟩ e5
    cases hl:lastOf ps t.field with
    | none =>
     rw [hl] at hF
     simp (disch:=try exact DI) only [↓PR,QR,simprocAttr,↓n41c1,↓n41c2,↓n41c3,↓n41c4,↓n41c5,↓n41c6,(cells_of_heap o5).1]
     by_cases hbut:t.field=but
     · rw [if_pos hbut] at hF
       simp only [hbut,decide_true]
       simp (disch:=try exact DI) only [↓PR,QR,simprocAttr]
       exact ⟨hrec4.alloc _,next nb _ ee hF rfl⟩
     · rw [if_neg hbut] at hF
       simp only [hbut,decide_false]
       simp (disch:=try exact DI) only [↓PR,QR,simprocAttr,↓n41c1,↓n41c2,↓n41c3,↓n41c4,↓n41c5,↓n41c6,(cells_of_heap o9).1,(cells_of_heap o9).2]
       refine ⟨(hrec4.setCell _ _).alloc _,ee,by simp (disch:=try exact DI) only [↓PR,QR,simprocAttr,o5],by simp (disch:=try exact DI) only [↓PR,QR,simprocAttr,o6],by simp (disch:=try exact DI) only [↓PR,QR,simprocAttr,o7],(hTA4.set (by omega) _).ext ((Ext.refl _).alloc _),true,x,by simp (disch:=try exact DI) only [↓PR,QR,simprocAttr,o8],?_,hF⟩
       have:=((Ext.refl _).alloc (.cells #[.int .i64 0,.int .i64 0] 51)).obj (heap_set (o:=0) o9 (.bool true))
       simpa using this
    | some v =>
     obtain ⟨lo,hi,rfl⟩:=hr _ _ hl
     rw [hl] at hF
     simp (disch:=try exact DI) only [↓PR,QR,simprocAttr,↓n41c1,↓n41c2,↓n41c3,↓n41c4,↓n41c5,↓n41c6,(cells_of_heap o5).1,rangeVal]
     by_cases hbut:t.field=but
     · rw [if_pos hbut] at hF
       simp only [hbut,decide_true]
       simp (disch:=try exact DI) only [↓PR,QR,simprocAttr]
       exact ⟨hrec4.alloc _,next nb _ ee hF rfl⟩
     · rw [if_neg hbut] at hF
       simp only [hbut,decide_false]
       simp (disch:=try exact DI) only [↓PR,QR,simprocAttr,↓n41c1,↓n41c2,↓n41c3,↓n41c4,↓n41c5,↓n41c6,(cells_of_heap o7).1]
       rw [callV_func hg]
       refine zcr (hc _ lo hi ee) fun w6 e6=>?_
       have s6:=e6.size
       simp only [World.size_alloc] at s6
       cases hp:p (rangeVal lo hi) with
       | true =>
        simp only [hp,if_true] at hF
        simp (disch:=try exact DI) only [↓PR,QR,simprocAttr,↓n41c1,↓n41c2,↓n41c3,↓n41c4,↓n41c5,↓n41c6]
        exact ⟨(hrec4.alloc _).ext e6,next nb _ ee hF rfl⟩
       | false =>
        simp only [hp,Bool.false_eq_true,if_false] at hF
        simp (disch:=try exact DI) only [↓PR,QR,simprocAttr,↓n41c1,↓n41c2,↓n41c3,↓n41c4,↓n41c5,↓n41c6,e6.cellQ,e6.frozenQ,(cells_of_heap o8).1,(cells_of_heap o8).2]
        refine ⟨((hrec4.alloc _).ext e6).setCell _ _,rfl,ee,?_,hF.symm⟩
        have:=heap_set (o:=0) ((((Ext.refl w4).alloc (.cells #[.int .i64 lo,.int .i64 hi] 51)).trans e6).obj o8) (.int .i64 2)
        simpa using this
  · rintro w3 ⟨e3,o5,o6,o7,hTA3,nb,x,o8,o9,hF⟩ hmk
    rw [List.drop_length] at hF
    simp only [checkedF] at hF
    have l2:w2.heap.size < w3.heap.size:=(Array.getElem?_eq_some_iff.1 hmk).1
    cases nb with
    | true =>
     simp (disch:=try exact DI) only [↓PR,QR,simprocAttr,↓n41c1,↓n41c2,↓n41c3,↓n41c4,↓n41c5,↓n41c6,(cells_of_heap o8).1,(cells_of_heap o8).2,(cells_of_heap o9).1]
     refine outX_mark (hmk.setCell _ _) ?_
     simp (disch:=try exact DI) only [↓PR,QR,simprocAttr,outX_nil,retV,resOne,cell_putMark (hmk.setCell _ _),(cells_of_heap o8).1]
     exact ⟨by rw [← hF];rfl,ee⟩
    | false =>
     simp (disch:=try exact DI) only [↓PR,QR,simprocAttr,↓n41c1,↓n41c2,↓n41c3,↓n41c4,↓n41c5,↓n41c6,(cells_of_heap o8).1,(cells_of_heap o8).2,(cells_of_heap o9).1]
     refine outX_mark (hmk.setCell _ _) ?_
     simp (disch:=try exact DI) only [↓PR,QR,simprocAttr,outX_nil,retV,resOne,cell_putMark (hmk.setCell _ _),(cells_of_heap o8).1]
     exact ⟨by rw [← hF];rfl,ee⟩
  · rintro c w3 ⟨rfl,e3,o8,hF⟩ hmk
    have l2:w2.heap.size < w3.heap.size:=(Array.getElem?_eq_some_iff.1 hmk).1
    show outX _ _ _ _ _
    refine outX_mark hmk ?_
    simp (disch:=try exact DI) only [↓PR,QR,simprocAttr,outX_nil,retV,resOne,cell_putMark hmk,(cells_of_heap o8).1]
    exact ⟨by rw [hF],ee⟩
  · rintro _ _ h
    exact h.elim
def n13c1 (t0 t5 t6:Value) (C4:World→Prop) (next1:KW) (R:RT) (w:World):Prop :=
 qV Pg C4 (Instr.indexAt 45 t0 t6) fun t28 =>
 qV Pg C4 (Instr.fieldAt 68 t28 0) fun t29 =>
 qV Pg C4 (Instr.loadAt 9 t29) fun t30 =>
 qV Pg C4 (Instr.indexAt 45 t0 t6) fun t33 =>
 qV Pg C4 (Instr.fieldAt 68 t33 1) fun t34 =>
 qV Pg C4 (Instr.fieldAt 51 t34 0) fun t35 =>
 qV Pg C4 (Instr.loadAt 3 t35) fun t36 =>
 qV Pg C4 (Instr.indexAt 45 t0 t6) fun t39 =>
 qV Pg C4 (Instr.fieldAt 68 t39 1) fun t40 =>
 qV Pg C4 (Instr.fieldAt 51 t40 1) fun t41 =>
 qV Pg C4 (Instr.loadAt 3 t41) fun t42 =>
 qV Pg C4 (Instr.build 95 #[(0,t30),(1,t36),(2,t42)]) fun t43 =>
 opV Pg (Instr.buildSlice 47 1 #[(0,t43)]) (panK R) w fun t44 w =>
 C4 w∧(
 opV Pg (Builtin.append_ #[47,47] 47 #[t5,t44]) (panK R) w fun t45 w =>
 C4 w∧(
 opV Pg (binS .add 3 true t6 (.int .i64 1)) (panK R) w fun t13 w =>
 next1 t45 t13 w))
def n13c2 (t0 t5 t6 t7:Value) (C2:World→Prop) (next1:KW) (R:RT) (w:World):Prop :=
 qV Pg C2 (Instr.indexAt 45 t0 t6) fun t17 =>
 qV Pg C2 (Instr.fieldAt 68 t17 0) fun t18 =>
 qV Pg C2 (Instr.loadAt 9 t18) fun t19 =>
 qV Pg C2 (Instr.indexAt 45 t0 t6) fun t22 =>
 qV Pg C2 (Instr.fieldAt 68 t22 1) fun t23 =>
 qV Pg C2 (Instr.loadAt 51 t23) fun t24 =>
 opU Pg (Instr.mapUpdate 46 t7 t19 t24) (panK R) w fun w =>
 turnK w fun C3 w =>
 drawK w fun C4 w =>
 n13c1 t0 t5 t6 C4 next1 R w
def n13c3 (t0 t5 t6 t7:Value) (next1:KW) (R:RT) (w:World):Prop :=
 opV Pg (Builtin.len_ #[45] 3 #[t0]) (panK R) w fun t10 w =>
 opV Pg (binS .lss 3 false t6 t10) (panK R) w fun t11 w =>
 condP t11 (
 drawK w fun C2 w =>
 n13c2 t0 t5 t6 t7 C2 next1 R w) (
 R (.returned (.tuple #[t7,t5])) w)
def n13 (t0:Value) (R:RT) (w:World):Prop :=
 opV Pg (Instr.makeMap 46 none) (panK R) w fun t7 w =>
 loop2 (fun t5 t6 w next1 =>
 n13c3 t0 t5 t6 t7 next1 R w) (Value.slice none 0 0) (.int .i64 0) w
theorem n13s {t0:Value} {R:RT} {w:World} (h:n13 t0 R w):Calls Pg 20 #[t0] w R:=by
 refine yD Tryz.func20 ?_
 refine zs<|zr<|zm<|zm<|zn<|zk<|zs<|zr<|yv h fun _ w h=>zm<|zn<|zk<|zs<|zr<|zm ?_
 refine zn<|zk<|zs<|zs<|zr<|zm<|zn<|zk<|sim_block<|yl2 [5,6,8,9,10,11,12,13,14,15,16,17,18,19,20,21,22,23,24,25,26,27,28,29,30,31,32,33,34,35,36,37,38,39,40,41,42,43,44,45] 5 6 h fun σ w next h=>zs<|zs<|zr<|zm<|zm ?_
 refine yx h fun _ w h=>yb h fun _ w h=>zn<|zk<|yC h (fun h=>?_) fun h=>?_
 · refine sim_skip<|zk<|zs<|sim_block<|zs<|yh [14,15,16,17,18,19,20,21,22,23,24] h fun C hC h=>yw 0 hC ?_
   refine yw 1 hC ?_
   refine yw 2 hC ?_
   refine ye 3 hC h fun _ h=>?_
   refine ye 4 hC h fun _ h=>?_
   refine ye 5 hC h fun _ h=>?_
   refine yw 6 hC ?_
   refine yw 7 hC ?_
   refine ye 8 hC h fun _ h=>?_
   refine ye 9 hC h fun _ h=>?_
   refine ye 10 hC h fun _ h=>?_
   refine yq 11 1 ?_
   refine yu h fun w h=>zn ?_
   obtain ⟨C3,hC,h⟩:=h
   refine ⟨C3,hC,?_⟩
   refine yz<|zk<|yh [5,25,26,27,28,29,30,31,32,33,34,35,36,37,38,39,40,41,42,43,44,45] h fun C hC h=>yw 0 hC ?_
   refine yw 1 hC ?_
   refine yw 2 hC ?_
   refine ye 3 hC h fun _ h=>?_
   refine ye 4 hC h fun _ h=>?_
   refine ye 5 hC h fun _ h=>?_
   refine yw 6 hC ?_
   refine yw 7 hC ?_
   refine ye 8 hC h fun _ h=>?_
   refine ye 9 hC h fun _ h=>?_
   refine ye 10 hC h fun _ h=>?_
   refine ye 11 hC h fun _ h=>?_
   refine yw 12 hC ?_
   refine yw 13 hC ?_
   refine ye 14 hC h fun _ h=>?_
   refine ye 15 hC h fun _ h=>?_
   refine ye 16 hC h fun _ h=>?_
   refine ye 17 hC h fun _ h=>?_
   refine ye 18 hC h fun _ h=>?_
   refine yo 19 ?_
   refine yS h fun _ w h=>zn ?_
   obtain ⟨hC,h⟩:=h
   refine ⟨hC,?_⟩
   refine yo 20 ?_
   refine yx h fun _ w h=>zn ?_
   obtain ⟨hC,h⟩:=h
   refine ⟨hC,?_⟩
   refine yw 21 hC ?_
   exact yz<|sim_block_normal<|zk<|zr<|zm<|yb h fun _ w h=>zm<|zn<|zk<|⟨rfl,h⟩
 exact sim_exit<|sim_then_exit<|sim_then_exit<|sim_block_hit<|zk<|zs<|zr<|zm<|zm<|zm<|zm<|zn<|zk<|sim_ret<|body_ret2 rfl rfl rfl h
def n22c1 (t4 t19 t21:Value) (R:RT) (w:World):Prop :=
 opV Pg (Instr.build 51 #[(0,t19),(1,t21)]) (panK R) w fun t22 w =>
 opU Pg (Instr.storeAt 51 t4 t22) (panK R) w fun w =>
 qW Pg 51 t4 w fun r0 =>
 R (.returned (.tuple #[r0,(.int .i64 0)])) w
def n22c2 (t2 t3 t4:Value) (R:RT) (w:World):Prop :=
 opV Pg (Instr.makeFunc (.func 59) #[] #[t2,t3]) (panK R) w fun t17 w =>
 callV Pg t17 #[(.bool true)] (panK R) w fun t19 w =>
 callV Pg t17 #[(.bool false)] (panK R) w fun t21 w =>
 n22c1 t4 t19 t21 R w
def n22c3 (t2 t3 t4 t12:Value) (R:RT) (w:World):Prop :=
 opV Pg (binS .neq 39 true t12 (.int .i64 0)) (panK R) w fun t14 w =>
 condP t14 (
 opV Pg (Instr.build 51 #[]) (panK R) w fun t15 w =>
 opU Pg (Instr.storeAt 51 t4 t15) (panK R) w fun w =>
 qW Pg 51 t4 w fun r0 =>
 R (.returned (.tuple #[r0,t12])) w) (
 n22c2 t2 t3 t4 R w)
def n22 (t0 t1:Value) (R:RT) (w:World):Prop :=
 opV Pg (Instr.box 24 t0) (panK R) w fun t2 w =>
 opV Pg (Instr.box 46 t1) (panK R) w fun t3 w =>
 opV Pg (Instr.alloc 51 true (.tuple #[])) (panK R) w fun t4 w =>
 opV Pg (Instr.loadAt 24 t2) (panK R) w fun t9 w =>
 opV Pg (Instr.loadAt 46 t3) (panK R) w fun t10 w =>
 callK Pg 58 #[t9,(.string { data := #[] }),t10,(.func (.func 57) #[] #[])] (panK R) w fun t12 w =>
 n22c3 t2 t3 t4 t12 R w
theorem n22s {t0 t1:Value} {R:RT} {w:World} (h:n22 t0 t1 R w):Calls Pg 21 #[t0,t1] w R:=by
 refine yD Tryz.func21 ?_
 refine zs<|zr<|yv h fun _ w h=>yv h fun _ w h=>yv h fun _ w h=>zm<|zn<|zk<|zs<|zr<|zm<|zn<|zk<|zs<|zs ?_
 refine zr<|yv h fun _ w h=>yv h fun _ w h=>zm<|yc h c58 fun _ w h=>zm<|zn<|zk<|zs<|zr<|zm<|yb h fun _ w h=>zn<|zk<|yC h (fun h=>zs<|zr<|yB h fun _ w h=>zm<|yu h fun w h=>zm<|zn<|zk<|sim_ret<|sim_then_ret<|body_retCT rfl rfl rfl h) fun h=>?_
 refine sim_skip<|zk<|zs<|zr<|yF h fun _ w h=>zm<|zn<|zk<|zs<|zr<|zm<|yV h fun _ w h=>zm<|yV h fun _ w h=>yB h fun _ w h=>?_
 exact yu h fun w h=>zm<|zn<|zk<|sim_ret<|body_retCT rfl rfl rfl h
def numW (base:Int) (vf:TermD→Int) (ts:List TermD):Int:=ts.foldl (fun n t=>IntKind.i64.wrap (n+IntKind.i64.wrap (t.factor*vf t))) base
theorem number_ret (w0:World) (v:Value) (base:Int) (ts:List TermD) (g:FuncId) (caps:Array Value) (vf:TermD→Int) (hs:SizeVal w0 v base ts) (hg:Callable Pg g)
 (hc:∀ w t,Ext w0 w→Ret Pg g (#[termVal t]++caps) w fun r w'=>r = .int .i64 (vf t)∧Ext w w') :
 Ret Pg 53 #[v,.func (.func g) #[] caps] w0 fun r w'=>r = .int .i64 (numW base vf ts)∧Ext w0 w':=by
 obtain ⟨tv,rfl,hT⟩:=hs
 obtain ⟨A,c,rfl,hlc,hcm,hlm,hel⟩:=SliceOf.open hT
 refine n45s (R:=retR _) ?_;unfold n45
 simp (disch:=try exact DI) only [↓PR,QR,simprocAttr,↓n45c1,↓n45c2,↓n45c3]
 refine loop2_intro (fun a0 a1 w=>∃ (k:Nat) (n:Int),a0 = .int .i64 n∧a1 = .int .i64 (k:Int)∧k≤ts.length∧Ext w0 w∧numW n vf (ts.drop k)=numW base vf ts) (fun a0 a1 _=>ts.length - (intOf a1).toNat) ⟨0,base,rfl,rfl,Nat.zero_le _,ee,rfl⟩ ?_
 rintro _ _ w ⟨k,n,rfl,rfl,hk,e,hI⟩
 have se:=e.size
 rcases drop_cases hk with ⟨x,hx,hd,hlt,hdec⟩ | ⟨hk,hd,hdec⟩
 · obtain ⟨b,o,cs,rfl,hl,hA,rfl⟩:=hel k x hx
   rw [hd] at hI
   simp (disch:=try exact DI) only [↓PR,QR,simprocAttr,↓n45c1,↓n45c2,↓n45c3,hdec,hA.c2]
   refine drawK_intro ?_
   simp (disch:=try exact DI) only [↓PR,QR,simprocAttr,↓n45c1,↓n45c2,↓n45c3]
   rw [callV_func hg]
   refine zcr (hc _ x ee) fun w1 e1=>?_
   refine ⟨e1,?_⟩
   simp (disch:=try exact DI) only [↓PR,QR,simprocAttr,↓n45c1,↓n45c2,↓n45c3]
   exact ⟨⟨k+1,_,rfl,rfl,by omega,ee,hI⟩,meas_lt (kd := .i64) hlt⟩
 · subst hk
   simp (disch:=try exact DI) only [↓PR,QR,simprocAttr,↓n45c1,↓n45c2,↓n45c3,hdec]
   rw [hd] at hI
   exact ⟨by rw [← hI];rfl,e⟩
def RP (rp:List (ByteArray×Int×Int)):List (ByteArray×Value):=rp.map fun p=>(p.1,rangeVal p.2.1 p.2.2)
def lastR (rp:List (ByteArray×Int×Int)) (s:ByteArray):Option (Int×Int):=(rp.reverse.find? (fun p=>decide (p.1=s))).map (·.2)
theorem lastOf_RP (rp:List (ByteArray×Int×Int)) (s:ByteArray):lastOf (RP rp) s=(lastR rp s).map fun q=>rangeVal q.1 q.2:=by
 unfold lastOf RP lastR
 rw [← List.map_reverse,List.find?_map]
 simp only [Option.map_map]
 rfl
def endF (rp:List (ByteArray×Int×Int)) (least:Bool) (t:TermD):Int:=match lastR rp t.field with
 | some (lo,hi)=>if least == decide (t.factor > 0) then lo else hi
 | none=>0
theorem end_ret (w0:World) (t:TermD) (pm pl m:Nat) (rp:List (ByteArray×Int×Int)) (least:Bool) (h1:w0.cell? ⟨pm,0,none⟩=some (.map (some m))) (h2:w0.cell? ⟨pl,0,none⟩=some (.bool least)) (hm:MapOf w0 m (RP rp)) :
 Ret Pg 60 #[termVal t,.pointer (some ⟨pm,0,none⟩),.pointer (some ⟨pl,0,none⟩)] w0 fun r w'=>r = .int .i64 (endF rp least t)∧Ext w0 w':=by
 have hb1:=World.block_lt_of_cell? w0 _ h1
 have hb2:=World.block_lt_of_cell? w0 _ h2
 simp only at hb1 hb2
 unfold termVal
 refine n25s (R:=retR _) ?_;unfold n25
 simp (disch:=try exact DI) only [↓PR,QR,simprocAttr,h1,h2]
 rw [op_lookup1O Tryz.underlying46 Tryz.underlying9 ty51 (hm.ext ee),lastOf_RP]
 unfold endF
 cases hl:lastR rp t.field with
 | none =>
  simp (disch:=try exact DI) only [↓PR,QR,simprocAttr,↓n25c1,h1,h2,Option.map_none]
  cases (least == decide (0 < t.factor)) with
  | true=>simp (disch:=try exact DI) only [↓PR,QR,simprocAttr,↓n25c1,h1,h2];exact ⟨by first | trivial | rfl,ee⟩
  | false =>
   simp (disch:=try exact DI) only [↓PR,QR,simprocAttr,↓n25c1,h1,h2]
   rw [op_lookup1O Tryz.underlying46 Tryz.underlying9 ty51 (hm.ext ee),lastOf_RP,hl]
   simp (disch:=try exact DI) only [↓PR,QR,simprocAttr,↓n25c1,Option.map_none]
   exact ⟨by first | trivial | rfl,ee⟩
 | some q =>
  obtain ⟨lo,hi⟩:=q
  simp (disch:=try exact DI) only [↓PR,QR,simprocAttr,↓n25c1,h1,h2,rangeVal]
  cases (least == decide (0 < t.factor)) with
  | true=>simp (disch:=try exact DI) only [↓PR,QR,simprocAttr,↓n25c1,h1,h2];exact ⟨by first | trivial | rfl,ee⟩
  | false =>
   simp (disch:=try exact DI) only [↓PR,QR,simprocAttr,↓n25c1,h1,h2]
   rw [op_lookup1O Tryz.underlying46 Tryz.underlying9 ty51 (hm.ext ee),lastOf_RP,hl]
   simp (disch:=try exact DI) only [↓PR,QR,simprocAttr,↓n25c1,rangeVal]
   exact ⟨by first | trivial | rfl,ee⟩
def wideB (lo hi:Int):Bool:=decide (0≤lo)&&decide (lo≤hi)&&decide (hi < 34359738368)
def wideV:Value→Bool
 | .agg a=>match a.toList with
  | [.int _ lo,.int _ hi]=>wideB lo hi
  | _=>false
 | _=>false
theorem fine_ret (w0:World) (lo hi:Int):Ret Pg 57 #[rangeVal lo hi] w0 fun r w'=>r = .bool (wideV (rangeVal lo hi))∧Ext w0 w':=by
 unfold rangeVal
 refine n23s (R:=retR _) ?_;unfold n23
 simp (disch:=try exact DI) only [↓PR,QR,simprocAttr,Sw.joinK_eq]
 refine zcr (all3_ret (by simp only [World.size_alloc]) _ _ _ _) fun w1 e1=>?_
 have s1:=e1.size
 try simp only [World.size_alloc,World.size_setCell,World.size_drew,World.putObj_size,Sw.putW_size] at s1
 simp (disch:=try exact DI) only [↓PR,QR,simprocAttr,Sw.joinK_eq]
 exact ⟨rfl,ee⟩
theorem ends_ret (w0:World) (pm ps m:Nat) (rp:List (ByteArray×Int×Int)) (least:Bool) (base:Int) (tv:Value) (ts:List TermD) (h0:w0.cell? ⟨ps,0,none⟩=some (.int .i64 base)) (h0':w0.cell? ⟨ps,1,none⟩=some tv) (hT:TermsOf w0 tv ts)
 (h1:w0.cell? ⟨pm,0,none⟩=some (.map (some m))) (hm:MapOf w0 m (RP rp)) :
 Ret Pg 59 #[.bool least,.pointer (some ⟨ps,0,none⟩),.pointer (some ⟨pm,0,none⟩)] w0 fun r w'=>r = .int .i64 (numW base (endF rp least) ts)∧Ext w0 w':=by
 have hb1:=World.block_lt_of_cell? w0 _ h0
 have hb2:=World.block_lt_of_cell? w0 _ h1
 simp only at hb1 hb2
 refine n24s (R:=retR _) ?_;unfold n24
 simp (disch:=try exact DI) only [↓PR,QR,simprocAttr,h0,h0']
 refine callK_ret (number_ret _ _ base ts _ _ (endF rp least) ⟨tv,rfl,TermsOf.ext hT ee⟩ c60 ?_) ?_
 · intro w t e
   exact end_ret w t pm w0.heap.size m rp least (((Ext.refl w0).alloc _).trans e |>.cell h1) (e.cell (by simp (disch:=try exact DI) only [↓PR,QR,simprocAttr])) (hm.ext (((Ext.refl w0).alloc _).trans e))
 rintro _ w1 ⟨rfl,e1⟩
 simp (disch:=try exact DI) only [↓PR,QR,simprocAttr,Sw.joinK_eq]
 exact ⟨by first | trivial | rfl,ee⟩
def intervalE (base:Int) (ts:List TermD) (rp:List (ByteArray×Int×Int)):Int:=if sizeB base ts then checkedF ByteArray.empty (RP rp) wideV ts false else 2
def intervalL (base:Int) (ts:List TermD) (rp:List (ByteArray×Int×Int)):Int:=if intervalE base ts rp=0 then numW base (endF rp true) ts else 0
def intervalH (base:Int) (ts:List TermD) (rp:List (ByteArray×Int×Int)):Int:=if intervalE base ts rp=0 then numW base (endF rp false) ts else 0
theorem Interval_ret (w0:World) (v:Value) (base:Int) (ts:List TermD) (m:Nat) (rp:List (ByteArray×Int×Int)) (hs:SizeVal w0 v base ts) (hb:ts.length≤1048576) (hm:MapOf w0 m (RP rp)) :
 Ret Pg 21 #[v,.map (some m)] w0 fun r w'=>r = .tuple #[rangeVal (intervalL base ts rp) (intervalH base ts rp),.int .i64 (intervalE base ts rp)]∧Ext w0 w':=by
 obtain ⟨tv,rfl,hT⟩:=hs
 have hT1:=SliceOf.oneCell hT
 have hmlt:=hm.lt
 refine n22s (R:=retR _) ?_;unfold n22
 simp (disch:=try exact DI) only [↓PR,QR,simprocAttr,↓n22c1,↓n22c2,↓n22c3]
 refine callK_ret (checked_Range_ret _ _ base ts ByteArray.empty m (RP rp) _ _ wideV ⟨tv,rfl,TermsOf.ext hT ee⟩ hb (hm.ext ee) (fun k v hv=>?_) c57 (fun w lo hi e=>by simpa using fine_ret w lo hi)) ?_
 · rw [lastOf_RP] at hv
   obtain ⟨q,_,rfl⟩:=Option.map_eq_some_iff.1 hv
   exact ⟨q.1,q.2,rfl⟩
 rintro _ w1 ⟨rfl,e1⟩
 have s1:=e1.size
 simp only [World.size_alloc] at s1
 show n22c3 _ _ _ (.int .i64 (intervalE base ts rp)) _ w1
 unfold intervalL intervalH
 by_cases hE:intervalE base ts rp=0
 · rw [hE]
   simp (disch:=try exact DI) only [↓PR,QR,simprocAttr,↓n22c1,↓n22c2,↓n22c3]
   have c0:w1.cell? ⟨w0.heap.size,0,none⟩=some (.int .i64 base):=by simp (disch:=try exact DI) only [↓PR,QR,simprocAttr,e1.cellQ]
   have c1:w1.cell? ⟨w0.heap.size,1,none⟩=some tv:=by simp (disch:=try exact DI) only [↓PR,QR,simprocAttr,e1.cellQ]
   have c2:w1.cell? ⟨w0.heap.size+1,0,none⟩=some (.map (some m)):=by simp (disch:=try exact DI) only [↓PR,QR,simprocAttr,e1.cellQ]
   have eW:Ext w0 w1:=ee
   rw [callV_func c59]
   refine zcr (ends_ret w1 _ _ m rp true base tv ts c0 c1 (hT.ext eW) c2 (hm.ext eW)) fun w2 e2=>?_
   have s2:=e2.size
   simp only [World.size_alloc]
   rw [callV_func c59]
   refine zcr (ends_ret w2 _ _ m rp false base tv ts (e2.cell c0) (e2.cell c1) ((TermsOf.ext hT eW).ext e2) (e2.cell c2) ((hm.ext eW).ext e2)) fun w3 e3=>?_
   have s3:=e3.size
   simp (disch:=try exact DI) only [↓PR,QR,simprocAttr,↓n22c1,↓n22c2,↓n22c3,e1.cellQ,e1.frozenQ,e2.cellQ,e2.frozenQ,e3.cellQ,e3.frozenQ]
   exact ⟨by first | trivial | rfl,ee⟩
 · have hne:(intervalE base ts rp != 0)=true:=by simpa using hE
   simp (disch:=try exact DI) only [↓PR,QR,simprocAttr,↓n22c1,↓n22c2,↓n22c3,hne,e1.cellQ,e1.frozenQ]
   simp only [hE,if_false]
   exact ⟨by first | trivial | rfl,ee⟩
def sumT (f:TermD→Int):List TermD→Int
 | []=>0
 | t::ts=>t.factor*f t+sumT f ts
section
variable {rp:List (ByteArray×Int×Int)}
theorem sumT_congr {ts:List TermD} {f g:TermD→Int} (h:∀ t∈ts,f t=g t):sumT f ts=sumT g ts:=by
 induction ts with
 | nil=>rfl
 | cons t ts ih =>
  simp only [sumT]
  rw [h t List.mem_cons_self,ih (fun t ht=>h t (List.mem_cons_of_mem _ ht))]
theorem mul_bound {a b:Int} (h1 : -1048576≤a) (h2:a≤1048576) (h3:0≤b) (h4:b≤34359738368) : -36028797018963968≤a*b∧a*b≤36028797018963968:=by
 have a1:a*b≤1048576*b:=Int.mul_le_mul_of_nonneg_right h2 h3
 have a2 : -1048576*b≤a*b:=Int.mul_le_mul_of_nonneg_right h1 h3
 omega
theorem numW_sum {f:TermD→Int}:∀ (ts:List TermD) (n:Int),(∀ t∈ts,-36028797018963968≤t.factor*f t∧t.factor*f t≤36028797018963968) → -4611686018427387904≤n - ts.length*36028797018963968→n+ts.length*36028797018963968≤4611686018427387904→numW n f ts=n+sumT f ts
 | [],n,_,_,_=>by simp [numW,sumT]
 | t::ts,n,h,h1,h2=>by
  have h3:=h t List.mem_cons_self
  simp only [List.length_cons] at h1 h2
  have e1:IntKind.i64.wrap (t.factor*f t)=t.factor*f t:=wrap_ok (by omega) (by omega)
  have e2:IntKind.i64.wrap (n+t.factor*f t)=n+t.factor*f t:=wrap_ok (by omega) (by omega)
  have ih:=numW_sum (f:=f) ts (n+t.factor*f t) (fun t ht=>h t (List.mem_cons_of_mem _ ht)) (by omega) (by omega)
  simp only [numW,List.foldl_cons,sumT] at ih ⊢
  rw [e1,e2,ih]
  omega
end
abbrev ranCells (p:ByteArray×Int×Int):List Value:=[.string p.1,.int .i64 p.2.1,.int .i64 p.2.2]
def ERan (_:World) (cs:List Value) (p:ByteArray×Int×Int):Prop:=cs=ranCells p
theorem keptRan:Kept ERan:=fun _ _ _ _ _ h=>h
def RansOf (w:World) (v:Value) (l:List (ByteArray×Int×Int)):Prop:=SliceOf w 3 ERan v l
theorem RansOf.ext {w w':World} {v:Value} {l:List (ByteArray×Int×Int)} (h:RansOf w v l) (e:Ext w w'):RansOf w' v l:=SliceOf.ext keptRan h e
def lastP {β:Type} (l:List (ByteArray×β)) (s:ByteArray):Option β:=(l.reverse.find? (fun p=>decide (p.1=s))).map (·.2)
theorem lastP_snoc {β:Type} (ps:List (ByteArray×β)) (p:ByteArray×β) (s:ByteArray):lastP (ps++[p]) s=if p.1=s then some p.2 else lastP ps s:=by
 unfold lastP
 rw [List.reverse_append,List.reverse_singleton,List.singleton_append,List.find?_cons]
 by_cases h:p.1=s<;>simp [h]
theorem checked_int_ret (w0:World) (v:Value) (base:Int) (ts:List TermD) (but:ByteArray) (m:Nat) (ps:List (ByteArray×Value)) (g:FuncId) (caps:Array Value) (p:Value→Bool) (hs:SizeVal w0 v base ts) (hb:ts.length≤1048576)
 (hm:MapOf w0 m ps) (hr:∀ k v,lastOf ps k=some v→∃ n,v = .int .i64 n) (hg:Callable Pg g) (hc:∀ w n,Ext w0 w→Ret Pg g (#[.int .i64 n]++caps) w fun r w'=>r = .bool (p (.int .i64 n))∧Ext w w') :
 Ret Pg 51 #[v,.string but,.map (some m),.func (.func g) #[] caps] w0 fun r w'=>r = .int .i64 (if sizeB base ts then checkedF but ps p ts false else 2)∧Ext w0 w':=by
 obtain ⟨tv,rfl,hT⟩:=hs
 have ht1:=SliceOf.oneCell hT
 have hmlt:=hm.lt
 refine n42s (R:=retR _) ?_;unfold n42
 simp (disch:=try exact DI) only [↓PR,QR,simprocAttr,↓n42c1,↓n42c2,↓n42c3,↓n42c4,↓n42c5,↓n42c6]
 refine zcr (Valid_ret _ _ base ts ⟨tv,rfl,TermsOf.ext hT ee⟩) fun w1 e1=>?_
 have s1:=e1.size
 try simp only [World.size_alloc,World.size_setCell,World.size_drew,World.putObj_size,Sw.putW_size] at s1
 cases hv:sizeB base ts with
 | false =>
  simp (disch:=try exact DI) only [↓PR,QR,simprocAttr,↓n42c1,↓n42c2,↓n42c3,↓n42c4,↓n42c5,↓n42c6,e1.cellQ,e1.frozenQ,outX_nil,retV,resOne]
  exact ⟨by first | trivial | rfl,ee⟩
 | true =>
  simp (disch:=try exact DI) only [↓PR,QR,simprocAttr,↓n42c1,↓n42c2,↓n42c3,↓n42c4,↓n42c5,↓n42c6,e1.cellQ,e1.frozenQ]
  refine callK_ret (Names_ret _ _ base ts ⟨tv,rfl,TermsOf.ext hT ee⟩ hb) ?_
  rintro _ w2 ⟨pb,tv2,rfl,hTA,hpb,e2⟩
  rw [hv] at hTA
  simp only [if_true] at hTA
  have s2:=e2.size
  simp only [World.size_alloc] at s2 hpb
  have o5:w2.heap[w0.heap.size+1]?=some (.cells #[.string but] 9 (0,0)):=by simp (disch:=try exact DI) only [↓PR,QR,simprocAttr,e1.heapQ,e2.heapQ]
  have o6:w2.heap[w0.heap.size+1+1]?=some (.cells #[.map (some m)] 35 (0,0)):=by simp (disch:=try exact DI) only [↓PR,QR,simprocAttr,e1.heapQ,e2.heapQ]
  have o7:w2.heap[w0.heap.size+1+1+1]?=some (.cells #[.func (.func g) #[] caps] 85 (0,0)):=by simp (disch:=try exact DI) only [↓PR,QR,simprocAttr,e1.heapQ,e2.heapQ]
  have o8:w2.heap[w0.heap.size+1+1+1+1]?=some (.cells #[.int .i64 0] 39 (0,0)):=by simp (disch:=try exact DI) only [↓PR,QR,simprocAttr,e1.heapQ,e2.heapQ]
  have o9:w2.heap[w1.heap.size]?=some (.cells #[.bool false] 4 (0,0)):=by simp (disch:=try exact DI) only [↓PR,QR,simprocAttr,e1.heapQ,e2.heapQ]
  have eW:Ext w0 w2:=ee
  simp only [World.size_alloc]
  unfold n42c4
  let I:Nat→World→Prop:=fun k w=>Ext w0 w∧w.heap[w0.heap.size+1]?=some (.cells #[.string but] 9 (0,0))∧w.heap[w0.heap.size+1+1]?=some (.cells #[.map (some m)] 35 (0,0)) ∧
   w.heap[w0.heap.size+1+1+1]?=some (.cells #[.func (.func g) #[] caps] 85 (0,0))∧TermsAt w pb tv2 ts ∧
   ∃ nb x,w.heap[w0.heap.size+1+1+1+1]?=some (.cells #[.int .i64 x] 39 (0,0))∧w.heap[w1.heap.size]?=some (.cells #[.bool nb] 4 (0,0))∧checkedF but ps p (ts.drop k) nb=checkedF but ps p ts false
  let Ix:Nat→World→Prop:=fun c w=>c=0∧Ext w0 w∧w.heap[w0.heap.size+1+1+1+1]?=some (.cells #[.int .i64 2] 39 (0,0))∧checkedF but ps p ts false=2
  have hLI:∀ k,Lasts w2.heap.size (I k):=fun k=>Lasts.and (Lasts.from (by omega)) (Lasts.and (Lasts.has _ (by simp)) (Lasts.and (Lasts.has _ (by simp)) (Lasts.and (Lasts.has _ (by simp)) (Lasts.and (TermsAt.lasts _ _ _ _)
   (Lasts.ex fun nb=>Lasts.ex fun x=>Lasts.and (Lasts.has _ (by simp)) (Lasts.and (Lasts.has _ (by simp)) (Lasts.const _ _)))))))
  have hLX:∀ k,Lasts w2.heap.size (Ix k):=fun k=>Lasts.and (Lasts.const _ _)<|Lasts.and (Lasts.from (by omega)) (Lasts.and (Lasts.has _ (by simp)) (Lasts.const _ _))
  refine ⟨_,_,ts.length,namesX ts,fun w=>TermsAt w pb tv2 ts,I,Ix,fun _ _=>False,rfl,c50,Names_seq pb tv2 ts,⟨eW,o5,o6,o7,hTA,false,0,o8,o9,rfl⟩,fun k w h=>h.2.2.2.2.1,hLI,hLX,?_,?_,?_,?_⟩
  · intro rec j w3 hj hI3 hrec hready
    refine ⟨hready,fun w4 hbz=>?_⟩
    have hrec4:=hrec.busied hbz
    have hI4:=(hLI j).busied hbz (Nat.le_succ _) hI3
    clear hI3 hrec hready hbz
    obtain ⟨e4,o5,o6,o7,hTA4,nb,x,o8,o9,hF⟩:=hI4
    obtain ⟨t,hx⟩:=getElem?_lt hj
    rw [show namesX ts j = .string t.field by unfold namesX;rw [hx]]
    have hd:ts.drop j=t::ts.drop (j+1):=by
     rw [List.drop_eq_getElem_cons hj]
     congr 1
     exact (List.getElem?_eq_some_iff.1 hx).2
    rw [hd] at hF
    simp only [checkedF] at hF
    have hm4:=hm.ext e4
    have s4:=e4.size
    have l9:w1.heap.size < w4.heap.size:=(Array.getElem?_eq_some_iff.1 o9).1
    have l8:w0.heap.size+1+1+1+1 < w4.heap.size:=(Array.getElem?_eq_some_iff.1 o8).1
    simp (disch:=try exact DI) only [↓PR,QR,simprocAttr,↓n42c1,↓n42c2,↓n42c3,↓n42c4,↓n42c5,↓n42c6,(cells_of_heap o5).1,(cells_of_heap o6).1]
    rw [op_lookupO Tryz.underlying35 Tryz.underlying9 ty3 hm4]
    have next:∀ nb' w5,Ext w4 w5→checkedF but ps p (ts.drop (j+1)) nb'=checkedF but ps p ts false→nb'=nb→I (j+1) w5:=fun nb' w5 e5 h hn=>(hLI (j+1)).ext _ _ ⟨e4,o5,o6,o7,hTA4,nb,x,o8,o9,hn ▸ h⟩ e5
    cases hl:lastOf ps t.field with
    | none =>
     rw [hl] at hF
     simp (disch:=try exact DI) only [↓PR,QR,simprocAttr,↓n42c1,↓n42c2,↓n42c3,↓n42c4,↓n42c5,↓n42c6,(cells_of_heap o5).1]
     by_cases hbut:t.field=but
     · rw [if_pos hbut] at hF
       simp only [hbut,decide_true]
       simp (disch:=try exact DI) only [↓PR,QR,simprocAttr]
       exact ⟨hrec4,next nb _ ee hF rfl⟩
     · rw [if_neg hbut] at hF
       simp only [hbut,decide_false]
       simp (disch:=try exact DI) only [↓PR,QR,simprocAttr,↓n42c1,↓n42c2,↓n42c3,↓n42c4,↓n42c5,↓n42c6,(cells_of_heap o9).1,(cells_of_heap o9).2]
       refine ⟨hrec4.setCell _ _,ee,by simp (disch:=try exact DI) only [↓PR,QR,simprocAttr,o5],by simp (disch:=try exact DI) only [↓PR,QR,simprocAttr,o6],by simp (disch:=try exact DI) only [↓PR,QR,simprocAttr,o7],hTA4.set (by omega) _,true,x,by simp (disch:=try exact DI) only [↓PR,QR,simprocAttr,o8],?_,hF⟩
       exact heap_set (o:=0) o9 (.bool true)
    | some v =>
     obtain ⟨n,rfl⟩:=hr _ _ hl
     rw [hl] at hF
     simp (disch:=try exact DI) only [↓PR,QR,simprocAttr,↓n42c1,↓n42c2,↓n42c3,↓n42c4,↓n42c5,↓n42c6,(cells_of_heap o5).1]
     by_cases hbut:t.field=but
     · rw [if_pos hbut] at hF
       simp only [hbut,decide_true]
       simp (disch:=try exact DI) only [↓PR,QR,simprocAttr]
       exact ⟨hrec4,next nb _ ee hF rfl⟩
     · rw [if_neg hbut] at hF
       simp only [hbut,decide_false]
       simp (disch:=try exact DI) only [↓PR,QR,simprocAttr,↓n42c1,↓n42c2,↓n42c3,↓n42c4,↓n42c5,↓n42c6,(cells_of_heap o7).1]
       rw [callV_func hg]
       refine zcr (hc _ n ee) fun w6 e6=>?_
       have s6:=e6.size
       cases hp:p (.int .i64 n) with
       | true =>
        simp only [hp,if_true] at hF
        simp (disch:=try exact DI) only [↓PR,QR,simprocAttr,↓n42c1,↓n42c2,↓n42c3,↓n42c4,↓n42c5,↓n42c6]
        exact ⟨hrec4.ext e6,next nb _ ee hF rfl⟩
       | false =>
        simp only [hp,Bool.false_eq_true,if_false] at hF
        simp (disch:=try exact DI) only [↓PR,QR,simprocAttr,↓n42c1,↓n42c2,↓n42c3,↓n42c4,↓n42c5,↓n42c6,e6.cellQ,e6.frozenQ,(cells_of_heap o8).1,(cells_of_heap o8).2]
        refine ⟨(hrec4.ext e6).setCell _ _,rfl,ee,?_,hF.symm⟩
        exact heap_set (o:=0) (e6.obj o8) (.int .i64 2)
  · rintro w3 ⟨e3,o5,o6,o7,hTA3,nb,x,o8,o9,hF⟩ hmk
    rw [List.drop_length] at hF
    simp only [checkedF] at hF
    have l2:w2.heap.size < w3.heap.size:=(Array.getElem?_eq_some_iff.1 hmk).1
    cases nb with
    | true =>
     simp (disch:=try exact DI) only [↓PR,QR,simprocAttr,↓n42c1,↓n42c2,↓n42c3,↓n42c4,↓n42c5,↓n42c6,(cells_of_heap o8).1,(cells_of_heap o8).2,(cells_of_heap o9).1]
     refine outX_mark (hmk.setCell _ _) ?_
     simp (disch:=try exact DI) only [↓PR,QR,simprocAttr,outX_nil,retV,resOne,cell_putMark (hmk.setCell _ _),(cells_of_heap o8).1]
     exact ⟨by rw [← hF];rfl,ee⟩
    | false =>
     simp (disch:=try exact DI) only [↓PR,QR,simprocAttr,↓n42c1,↓n42c2,↓n42c3,↓n42c4,↓n42c5,↓n42c6,(cells_of_heap o8).1,(cells_of_heap o8).2,(cells_of_heap o9).1]
     refine outX_mark (hmk.setCell _ _) ?_
     simp (disch:=try exact DI) only [↓PR,QR,simprocAttr,outX_nil,retV,resOne,cell_putMark (hmk.setCell _ _),(cells_of_heap o8).1]
     exact ⟨by rw [← hF];rfl,ee⟩
  · rintro c w3 ⟨rfl,e3,o8,hF⟩ hmk
    have l2:w2.heap.size < w3.heap.size:=(Array.getElem?_eq_some_iff.1 hmk).1
    show outX _ _ _ _ _
    refine outX_mark hmk ?_
    simp (disch:=try exact DI) only [↓PR,QR,simprocAttr,outX_nil,retV,resOne,cell_putMark hmk,(cells_of_heap o8).1]
    exact ⟨by rw [hF],ee⟩
  · rintro _ _ h
    exact h.elim
def IP (vp:List (ByteArray×Int)):List (ByteArray×Value):=vp.map fun p=>(p.1,.int .i64 p.2)
def lastI (vp:List (ByteArray×Int)) (s:ByteArray):Option Int:=(vp.reverse.find? (fun p=>decide (p.1=s))).map (·.2)
theorem lastOf_IP (vp:List (ByteArray×Int)) (s:ByteArray):lastOf (IP vp) s=(lastI vp s).map fun n => .int .i64 n:=by
 unfold lastOf IP lastI
 rw [← List.map_reverse,List.find?_map]
 simp only [Option.map_map]
 rfl
def valF (vp:List (ByteArray×Int)) (t:TermD):Int:=(lastI vp t.field).getD 0
def okV:Value→Bool
 | .int _ n=>decide (0≤n)&&decide (n < 34359738368)
 | _=>false
theorem allowed_ret (w0:World) (n:Int):Ret Pg 52 #[.int .i64 n] w0 fun r w'=>r = .bool (okV (.int .i64 n))∧Ext w0 w':=by
 refine n40s (R:=retR _) ?_;unfold n40
 simp (disch:=try exact DI) only [↓PR,QR,simprocAttr,Sw.joinK_eq]
 by_cases h:0≤n
 · simp (disch:=try exact DI) only [↓PR,QR,simprocAttr,Sw.joinK_eq,h,decide_true]
   exact ⟨by simp [okV,h],ee⟩
 · simp (disch:=try exact DI) only [↓PR,QR,simprocAttr,Sw.joinK_eq,h,decide_false]
   exact ⟨by simp [okV,h],ee⟩
theorem val_ret (w0:World) (t:TermD) (pm m:Nat) (vp:List (ByteArray×Int)) (h1:w0.cell? ⟨pm,0,none⟩=some (.map (some m))) (hm:MapOf w0 m (IP vp)) :
 Ret Pg 54 #[termVal t,.pointer (some ⟨pm,0,none⟩)] w0 fun r w'=>r = .int .i64 (valF vp t)∧Ext w0 w':=by
 have hb1:=World.block_lt_of_cell? w0 _ h1
 simp only at hb1
 unfold termVal
 refine n21s (R:=retR _) ?_;unfold n21
 simp (disch:=try exact DI) only [↓PR,QR,simprocAttr,h1]
 rw [op_lookup1O Tryz.underlying35 Tryz.underlying9 ty3 (hm.ext ee),lastOf_IP]
 unfold valF
 cases hl:lastI vp t.field with
 | none =>
  simp (disch:=try exact DI) only [↓PR,QR,simprocAttr,Sw.joinK_eq,h1,Option.map_none]
  exact ⟨by first | trivial | rfl,ee⟩
 | some q =>
  simp (disch:=try exact DI) only [↓PR,QR,simprocAttr,Sw.joinK_eq,h1,Option.map_some]
  exact ⟨by first | trivial | rfl,ee⟩
def evalE (base:Int) (ts:List TermD) (but:ByteArray) (vp:List (ByteArray×Int)):Int:=if sizeB base ts then checkedF but (IP vp) okV ts false else 2
def evalN (base:Int) (ts:List TermD) (vp:List (ByteArray×Int)):Int:=if evalE base ts ByteArray.empty vp=0 then numW base (valF vp) ts else 0
theorem checked_ret (w0:World) (v:Value) (base:Int) (ts:List TermD) (but:ByteArray) (m:Nat) (vp:List (ByteArray×Int)) (hs:SizeVal w0 v base ts) (hb:ts.length≤1048576) (hm:MapOf w0 m (IP vp)) :
 Ret Pg 51 #[v,.string but,.map (some m),.func (.func 52) #[] #[]] w0 fun r w'=>r = .int .i64 (evalE base ts but vp)∧Ext w0 w' :=
 checked_int_ret w0 v base ts but m (IP vp) _ _ okV hs hb hm (fun k v hv=>by
  rw [lastOf_IP] at hv
  obtain ⟨q,_,rfl⟩:=Option.map_eq_some_iff.1 hv
  exact ⟨q,rfl⟩) c52 (fun w n e=>by simpa using allowed_ret w n)
theorem Eval_ret (w0:World) (v:Value) (base:Int) (ts:List TermD) (m:Nat) (vp:List (ByteArray×Int)) (hs:SizeVal w0 v base ts) (hb:ts.length≤1048576) (hm:MapOf w0 m (IP vp)) :
 Ret Pg 16 #[v,.map (some m)] w0 fun r w'=>r = .tuple #[.int .i64 (evalN base ts vp),.int .i64 (evalE base ts ByteArray.empty vp)]∧Ext w0 w':=by
 obtain ⟨tv,rfl,hT⟩:=hs
 have hT1:=SliceOf.oneCell hT
 have hmlt:=hm.lt
 refine n20s (R:=retR _) ?_;unfold n20
 simp (disch:=try exact DI) only [↓PR,QR,simprocAttr,↓n20c1]
 refine zcr (checked_ret _ _ base ts ByteArray.empty m vp ⟨tv,rfl,TermsOf.ext hT ee⟩ hb (hm.ext ee)) fun w1 e1=>?_
 have s1:=e1.size
 simp only [World.size_alloc] at s1
 unfold evalN
 by_cases hE:evalE base ts ByteArray.empty vp=0
 · rw [hE]
   simp (disch:=try exact DI) only [↓PR,QR,simprocAttr,↓n20c1,e1.cellQ,e1.frozenQ]
   have c2:w1.cell? ⟨w0.heap.size+1,0,none⟩=some (.map (some m)):=by simp (disch:=try exact DI) only [↓PR,QR,simprocAttr,e1.cellQ]
   have eW:Ext w0 w1:=ee
   refine callK_ret (number_ret _ _ base ts _ _ (valF vp) ⟨tv,rfl,TermsOf.ext hT ee⟩ c54 (fun w t e=>?_)) ?_
   · exact val_ret w t _ m vp (e.cell c2) ((hm.ext eW).ext e)
   rintro _ w2 ⟨rfl,e2⟩
   simp (disch:=try exact DI) only [↓PR,QR,simprocAttr,↓n20c1]
   exact ⟨by first | trivial | rfl,ee⟩
 · have hne:(evalE base ts ByteArray.empty vp != 0)=true:=by simpa using hE
   simp (disch:=try exact DI) only [↓PR,QR,simprocAttr,↓n20c1,hne]
   simp only [hE,if_false]
   exact ⟨by first | trivial | rfl,ee⟩
def lenE (base:Int) (ts:List TermD) (vp:List (ByteArray×Int)):Int:=if evalE base ts ByteArray.empty vp=0 then (if evalN base ts vp < 0∨evalN base ts vp > 1048576 then 3 else 0) else evalE base ts ByteArray.empty vp
def lenN (base:Int) (ts:List TermD) (vp:List (ByteArray×Int)):Int:=if lenE base ts vp=0 then evalN base ts vp else 0
theorem Length_ret (w0:World) (v:Value) (base:Int) (ts:List TermD) (m:Nat) (vp:List (ByteArray×Int)) (hs:SizeVal w0 v base ts) (hb:ts.length≤1048576) (hm:MapOf w0 m (IP vp)) :
 Ret Pg 17 #[v,.map (some m)] w0 fun r w'=>r = .tuple #[.int .i64 (lenN base ts vp),.int .i64 (lenE base ts vp)]∧Ext w0 w':=by
 obtain ⟨tv,rfl,hT⟩:=hs
 have hT1:=SliceOf.oneCell hT
 have hmlt:=hm.lt
 refine n26s (R:=retR _) ?_;unfold n26
 simp (disch:=try exact DI) only [↓PR,QR,simprocAttr,↓n26c1,↓n26c2]
 refine zcr (Eval_ret _ _ base ts m vp ⟨tv,rfl,TermsOf.ext hT ee⟩ hb (hm.ext ee)) fun w1 e1=>?_
 have s1:=e1.size
 simp only [World.size_alloc] at s1
 unfold lenN lenE
 by_cases hE:evalE base ts ByteArray.empty vp=0
 · rw [hE]
   simp (disch:=try exact DI) only [↓PR,QR,simprocAttr,↓n26c1,↓n26c2]
   by_cases h1:evalN base ts vp < 0
   · simp (disch:=try exact DI) only [↓PR,QR,simprocAttr,↓n26c1,↓n26c2,h1,decide_true]
     simp only [h1,true_or,if_true]
     exact ⟨by first | trivial | rfl,ee⟩
   · by_cases h2:evalN base ts vp > 1048576
     · simp (disch:=try exact DI) only [↓PR,QR,simprocAttr,↓n26c1,↓n26c2,h1,h2,decide_true,decide_false]
       simp only [h1,h2,or_true,if_true]
       exact ⟨by first | trivial | rfl,ee⟩
     · simp (disch:=try exact DI) only [↓PR,QR,simprocAttr,↓n26c1,↓n26c2,h1,h2,decide_true,decide_false]
       simp only [h1,h2,or_self,if_false,if_true]
       exact ⟨by first | trivial | rfl,ee⟩
 · have hne:(evalE base ts ByteArray.empty vp != 0)=true:=by simpa using hE
   simp (disch:=try exact DI) only [↓PR,QR,simprocAttr,↓n26c1,↓n26c2,hne]
   simp only [hE,if_false]
   exact ⟨by first | trivial | rfl,ee⟩
theorem pGo_nil (f:Nat) (b:Int) (ts:List TermD):pGo f [] b ts=some (b,ts):=by
 cases f with
 | zero=>rfl
 | succ f=>rfl
def catT:Bool→List TermD→List UInt8
 | _,[]=>[]
 | first,t::ts=>partL t.factor t.field.data.toList first++catT false ts
structure TermOk (t:TermD):Prop where
 nm:NameOk t.field.data.toList
 ne:t.field.data.toList≠[]
 lo : -1048576≤t.factor
 hi:t.factor≤1048576
theorem part_ne {n:Int} {name:List UInt8} {first:Bool} (h:NameOk name):partL n name first≠[]:=by
 unfold partL
 have:=(body_words (m:=n.natAbs) h).2
 simp [this]
theorem part_sign {n:Int} {name:List UInt8} {R:List UInt8}:∀ c∈(partL n name false++R).head?,signB c=true:=by
 intro c hc
 unfold partL at hc
 by_cases hn:n < 0
 · rw [if_pos hn] at hc
   injection hc with hc
   subst hc
   rfl
 · rw [if_neg hn] at hc
   injection hc with hc
   subst hc
   rfl
theorem cat_head {ts:List TermD} {R:List UInt8} (hR:∀ c∈R.head?,signB c=true):∀ c∈(catT false ts++R).head?,signB c=true:=by
 cases ts with
 | nil=>exact hR
 | cons t ts =>
  show ∀ c∈((partL t.factor t.field.data.toList false++catT false ts)++R).head?,signB c=true
  rw [List.append_assoc]
  exact part_sign
theorem fold_cat:∀ (ts:List TermD) (out:List UInt8),(∀ t∈ts,TermOk t)→ts.foldl (fun out t=>addPart out t.factor t.field.data.toList) out=out++catT (decide (out=[])) ts
 | [],out,h=>by simp [catT]
 | t::ts,out,h=>by
  rw [List.foldl_cons,fold_cat ts _ fun x hx=>h x (List.mem_cons_of_mem _ hx)]
  have hp:=part_ne (n:=t.factor) (first:=decide (out=[])) (h t (List.mem_cons_self ..)).nm
  have hd:decide (addPart out t.factor t.field.data.toList=[])=false:=by
   refine decide_eq_false ?_
   unfold addPart
   simp [hp]
  rw [hd]
  show addPart out t.factor t.field.data.toList++catT false ts=out++(partL t.factor t.field.data.toList (decide (out=[]))++catT false ts)
  unfold addPart
  rw [List.append_assoc]
theorem go_cat:∀ (ts:List TermD) (first:Bool) (f:Nat) (R:List UInt8) (b:Int) (acc:List TermD),(∀ t∈ts,TermOk t)→(∀ c∈R.head?,signB c=true)→pGo (f+ts.length) (catT first ts++R) b acc=pGo f R b (acc++ts)
 | [],first,f,R,b,acc,h,hR=>by simp [catT]
 | t::ts,first,f,R,b,acc,h,hR=>by
  have ht:=h t (List.mem_cons_self ..)
  show pGo (f+ts.length+1) ((partL t.factor t.field.data.toList first++catT false ts)++R) b acc=_
  rw [List.append_assoc,go_part ht.nm ht.lo ht.hi (cat_head hR),if_neg ht.ne,go_cat ts false f R b _ (fun x hx=>h x (List.mem_cons_of_mem _ hx)) hR,mkB_to,List.append_assoc]
  rfl
theorem cat_len:∀ (ts:List TermD) (first:Bool),(∀ t∈ts,TermOk t)→ts.length≤(catT first ts).length
 | [],first,h=>Nat.zero_le _
 | t::ts,first,h=>by
  have:=cat_len ts false fun x hx=>h x (List.mem_cons_of_mem _ hx)
  have hp:=List.length_pos_iff.2 (part_ne (n:=t.factor) (first:=first) (h t (List.mem_cons_self ..)).nm)
  show ts.length+1≤(partL t.factor t.field.data.toList first++catT false ts).length
  rw [List.length_append]
  omega
theorem small_iff {v:Int}:smallB v=true ↔ -1048576≤v∧v≤1048576:=by
 unfold smallB
 simp
theorem name_ok {s:ByteArray} (h:nameB s=true):NameOk s.data.toList∧s.data.toList≠[]:=by
 unfold nameB at h
 simp only [Bool.and_eq_true] at h
 obtain ⟨⟨_,h1⟩,h2⟩:=h
 cases hd:s.data.toList with
 | nil=>rw [hd] at h1;cases h1
 | cons c l =>
  rw [hd] at h1 h2
  exact ⟨.inr ⟨⟨c,l,rfl,h1⟩,h2⟩,by simp⟩
theorem terms_all:∀ (ts:List TermD) (seen:List ByteArray),termsB seen ts=true→∀ t∈ts,termB t=true
 | [],seen,h,t,ht=>by cases ht
 | x::ts,seen,h,t,ht=>by
  unfold termsB at h
  simp only [Bool.and_eq_true] at h
  rcases List.mem_cons.1 ht with rfl | ht
  · exact h.1.2
  · exact terms_all ts _ h.2 t ht
theorem term_ok {t:TermD} (h:termB t=true):TermOk t:=by
 unfold termB at h
 simp only [Bool.and_eq_true] at h
 have hn:=name_ok h.1.1
 have hs:=small_iff.1 h.2
 exact ⟨hn.1,hn.2,hs.1,hs.2⟩
theorem size_ok {b:Int} {ts:List TermD} (h:sizeB b ts=true):(-1048576≤b∧b≤1048576)∧ts.length≤4∧∀ t∈ts,TermOk t:=by
 unfold sizeB at h
 simp only [Bool.and_eq_true,decide_eq_true_eq] at h
 exact ⟨small_iff.1 h.1.1,h.1.2,fun t ht=>term_ok (terms_all ts [] h.2 t ht)⟩
theorem termsL_cat {ts:List TermD} (h:∀ t∈ts,TermOk t):termsL ts=catT true ts:=by
 unfold termsL
 rw [fold_cat ts [] h]
 rfl
theorem pGo_size {b:Int} {ts:List TermD} (h:sizeB b ts=true) {f:Nat} (hf:(sizeL b ts).length≤f):pGo f (sizeL b ts) 0 []=some (b,ts):=by
 obtain ⟨⟨b1,b2⟩,_,ht⟩:=size_ok h
 have hl:=cat_len ts true ht
 have htl:=termsL_cat ht
 have nil:NameOk [] := .inl rfl
 unfold sizeL at hf ⊢
 by_cases hb:b≠0∨termsL ts=[]
 · rw [if_pos hb] at hf ⊢
   unfold addPart at hf ⊢
   rw [htl] at hf ⊢
   have hp:=List.length_pos_iff.2 (part_ne (n:=b) (first:=decide (catT true ts=[])) nil)
   rw [List.length_append] at hf
   obtain ⟨k,rfl⟩:∃ k,f=(k+1)+ts.length:=⟨f - 1 - ts.length,by omega⟩
   by_cases he:catT true ts=[]
   · have hts:ts=[]:=by
      rw [he] at hl
      exact List.eq_nil_of_length_eq_zero (by simpa using hl)
     subst hts
     have:=go_part (f:=k) (n:=b) (name:=[]) (R:=[]) (first:=true) (b:=0) (ts:=[]) nil b1 b2 (fun c hc=>by cases hc)
     rw [List.append_nil,if_pos rfl,pGo_nil] at this
     show pGo (k+1) (partL b [] true) 0 []=_
     rw [this,Int.zero_add,Sw.wrap_ok (by omega) (by omega)]
   · rw [decide_eq_false he,go_cat ts true (k+1) _ 0 [] ht (by
      have:=part_sign (n:=b) (name:=[]) (R:=[])
      rw [List.append_nil] at this
      exact this)]
     have:=go_part (f:=k) (n:=b) (name:=[]) (R:=[]) (first:=false) (b:=0) (ts:=[]++ts) nil b1 b2 (fun c hc=>by cases hc)
     rw [List.append_nil,if_pos rfl,pGo_nil] at this
     rw [this,Int.zero_add,Sw.wrap_ok (by omega) (by omega)]
     rfl
 · rw [if_neg hb] at hf ⊢
   rw [htl] at hf ⊢
   have hb0:b=0:=by
    rcases Int.lt_trichotomy b 0 with h | h | h
    · exact absurd (.inl (by omega)) hb
    · exact h
    · exact absurd (.inl (by omega)) hb
   obtain ⟨k,rfl⟩:∃ k,f=k+ts.length:=⟨f - ts.length,by omega⟩
   have:=go_cat ts true k [] 0 [] ht (fun c hc=>by cases hc)
   rw [List.append_nil,pGo_nil] at this
   rw [this,hb0]
   rfl
theorem parseZ_of {b:Int} {ts:List TermD} (h:sizeB b ts=true):parseZ (sizeT b ts)=(b,ts,0):=by
 unfold parseZ
 rw [show (sizeT b ts).data.toList=sizeL b ts from rfl,pGo_size h (show (sizeL b ts).length≤(sizeT b ts).size from Nat.le_of_eq (by unfold sizeT mkB ByteArray.size;simp))]
 simp only
 rw [if_pos ⟨h,trivial⟩]
def n33c1 (t39 t45 t49 t55:Value) (R:RT) (w:World):Prop :=
 pickK t49 (.bool true) t55 fun t56 =>
 condP t56 (
 R (.returned (.tuple #[(.int .i64 0),(.int .i64 9)])) w) (
 opV Pg (binS .quo 3 false t39 t45) (panK R) w fun t59 w =>
 R (.returned (.tuple #[t59,(.int .i64 0)])) w)
def n33c2 (t2 t4 t24 t38:Value) (R:RT) (w:World):Prop :=
 opV Pg (binS .sub 3 false t2 t38) (panK R) w fun t39 w =>
 opV Pg (Instr.fieldAt 24 t4 1) (panK R) w fun t40 w =>
 opV Pg (Instr.loadAt 22 t40) (panK R) w fun t41 w =>
 opV Pg (Instr.indexAt 22 t41 t24) (panK R) w fun t43 w =>
 opV Pg (Instr.fieldAt 32 t43 1) (panK R) w fun t44 w =>
 opV Pg (Instr.loadAt 3 t44) (panK R) w fun t45 w =>
 opV Pg (binS .rem 3 false t39 t45) (panK R) w fun t48 w =>
 opV Pg (binS .neq 3 true t48 (.int .i64 0)) (panK R) w fun t49 w =>
 joinK (fun (t55:Value) (w:World) =>
 n33c1 t39 t45 t49 t55 R w) fun K3 =>
 guardP t49 false (
 opV Pg (binS .quo 3 false t39 t45) (panK R) w fun t53 w =>
 callK Pg 52 #[t53] (panK R) w fun t54 w =>
 opV Pg (Op.unary .not t54) (panK R) w fun t55 w =>
 K3 t55 w) (
 K3 undef w)
def n33c3 (t2 t4 t5 t7 t24:Value) (R:RT) (w:World):Prop :=
 opV Pg (Instr.loadAt 24 t4) (panK R) w fun t36 w =>
 opV Pg (Instr.makeFunc (.func 71) #[] #[t5,t7]) (panK R) w fun t37 w =>
 callK Pg 53 #[t36,t37] (panK R) w fun t38 w =>
 n33c2 t2 t4 t24 t38 R w
def n33c4 (t2 t4 t5 t7 t24 t26 t29:Value) (R:RT) (w:World):Prop :=
 pickK t26 (.bool true) t29 fun t30 =>
 joinK (fun (t33:Value) (w:World) =>
 pickK t30 (.bool true) t33 fun t34 =>
 condP t34 (
 R (.returned (.tuple #[(.int .i64 0),(.int .i64 9)])) w) (
 n33c3 t2 t4 t5 t7 t24 R w)) fun K2 =>
 guardP t30 false (
 opV Pg (binS .lss 3 true t2 (.int .i64 (-1152921504606846976))) (panK R) w fun t33 w =>
 K2 t33 w) (
 K2 undef w)
def n33c5 (t2 t4 t5 t7 t24:Value) (R:RT) (w:World):Prop :=
 opV Pg (binS .lss 3 true t24 (.int .i64 0)) (panK R) w fun t26 w =>
 joinK (fun (t29:Value) (w:World) =>
 n33c4 t2 t4 t5 t7 t24 t26 t29 R w) fun K1 =>
 guardP t26 false (
 opV Pg (binS .gtr 3 true t2 (.int .i64 1152921504606846976)) (panK R) w fun t29 w =>
 K1 t29 w) (
 K1 undef w)
def n33c6 (t2 t4 t5 t7:Value) (R:RT) (w:World):Prop :=
 opV Pg (Instr.fieldAt 24 t4 1) (panK R) w fun t21 w =>
 opV Pg (Instr.loadAt 22 t21) (panK R) w fun t22 w =>
 opV Pg (Instr.makeFunc (.func 70) #[] #[t5]) (panK R) w fun t23 w =>
 callK Pg 69 #[t22,t23] (panK R) w fun t24 w =>
 n33c5 t2 t4 t5 t7 t24 R w
def n33 (t0 t1 t2 t3:Value) (R:RT) (w:World):Prop :=
 opV Pg (Instr.box 24 t0) (panK R) w fun t4 w =>
 opV Pg (Instr.box 9 t1) (panK R) w fun t5 w =>
 opV Pg (Instr.box 35 t3) (panK R) w fun t7 w =>
 opV Pg (Instr.loadAt 24 t4) (panK R) w fun t14 w =>
 opV Pg (Instr.loadAt 9 t5) (panK R) w fun t15 w =>
 opV Pg (Instr.loadAt 35 t7) (panK R) w fun t16 w =>
 callK Pg 51 #[t14,t15,t16,(.func (.func 52) #[] #[])] (panK R) w fun t17 w =>
 opV Pg (binS .neq 39 true t17 (.int .i64 0)) (panK R) w fun t19 w =>
 condP t19 (
 R (.returned (.tuple #[(.int .i64 0),t17])) w) (
 n33c6 t2 t4 t5 t7 R w)
theorem n33s {t0 t1 t2 t3:Value} {R:RT} {w:World} (h:n33 t0 t1 t2 t3 R w):Calls Pg 28 #[t0,t1,t2,t3] w R:=by
 refine yD Tryz.func28 ?_
 refine zs<|zr<|yv h fun _ w h=>yv h fun _ w h=>yv h fun _ w h=>zm<|zm<|zn<|zk<|zs<|zs<|zr<|yv h fun _ w h=>yv h fun _ w h=>yv h fun _ w h=>?_
 refine yc h c51 fun _ w h=>zm<|zn<|zk<|zs<|zr<|zm<|yb h fun _ w h=>zn<|zk<|yC h (fun h=>zs<|zr<|zm<|zm<|zm<|zn<|zk<|sim_ret<|sim_then_ret<|body_ret2 rfl rfl rfl h) fun h=>sim_skip<|zk<|zs ?_
 refine zr<|yv h fun _ w h=>yv h fun _ w h=>yF h fun _ w h=>yc h c69 fun _ w h=>zm<|zn<|zk<|zs<|zs<|sim_regionG<|yG 3<|zm<|yb h fun _ w h=>zm ?_
 refine zn<|yg1 2 2 false [28,29] 29 h (fun _ T hT h=>?_) fun σ w h=>?_
 · refine zm<|yb h fun _ w h=>zn ?_
   exact zt hT h
 refine yG 2<|yp h fun _ h=>zm<|zn<|yg1 2 6 false [32,33] 33 h (fun _ T hT h=>?_) fun σ w h=>?_
 · refine zm<|yb h fun _ w h=>zn ?_
   exact zt hT h
 refine yG 1<|yp h fun _ h=>zn<|sim_end<|zk<|yC h (fun h=>zs<|zr<|zm<|zm<|zn<|zk<|sim_ret<|sim_then_ret<|body_ret2 rfl rfl rfl h) fun h=>sim_skip<|zk<|zs<|zr<|zm<|yv h fun _ w h=>yF h fun _ w h=>yc h c53 fun _ w h=>?_
 refine yb h fun _ w h=>zm<|zn<|zk<|zs<|zr<|yv h fun _ w h=>yv h fun _ w h=>zm<|yv h fun _ w h=>yv h fun _ w h=>yv h fun _ w h=>zm<|zn<|zk ?_
 refine zs<|zs<|sim_regionG<|yG 5<|zm<|zm<|yb h fun _ w h=>yb h fun _ w h=>zm<|zn<|yg1 5 4 false [51,52,53,54,55] 55 h (fun _ T hT h=>?_) fun σ w h=>?_
 · refine zm<|zm<|yb h fun _ w h=>yc h c52 fun _ w h=>yv h fun _ w h=>zn ?_
   exact zt hT h
 refine yG 1<|yp h fun _ h=>zn<|sim_end<|zk<|yC h (fun h=>zs<|zr<|zm<|zm<|zn<|zk<|sim_ret<|sim_then_ret<|body_ret2 rfl rfl rfl h) fun h=>sim_skip<|zk<|zs<|zr<|zm<|zm<|yb h fun _ w h=>zm ?_
 exact zm<|zn<|zk<|sim_ret<|body_ret2 rfl rfl rfl h
def n18c1 (t8 t18:Value) (K3:World→Prop) (R:RT) (w:World):Prop :=
 opV Pg (Instr.fieldAt 32 t8 0) (panK R) w fun t43 w =>
 opV Pg (Instr.loadAt 9 t43) (panK R) w fun t44 w =>
 opV Pg (Builtin.delete_ #[35,9] 0 #[t18,t44]) (panK R) w fun _ w =>
 K3 w
def n18c2 (t4:Value) (R:RT) (w:World):Prop :=
 opV Pg (Instr.build 24 #[]) (panK R) w fun t70 w =>
 opU Pg (Instr.storeAt 24 t4 t70) (panK R) w fun w =>
 qW Pg 24 t4 w fun r0 =>
 R (.returned (.tuple #[r0,(.int .i64 7)])) w
def n18c3 (t4 t9:Value) (R:RT) (w:World):Prop :=
 opV Pg (Instr.loadAt 24 t9) (panK R) w fun t71 w =>
 opU Pg (Instr.storeAt 24 t4 t71) (panK R) w fun w =>
 qW Pg 24 t4 w fun r0 =>
 R (.returned (.tuple #[r0,(.int .i64 0)])) w
def n18c4 (t4:Value) (R:RT) (w:World):Prop :=
 opV Pg (Instr.build 24 #[]) (panK R) w fun t64 w =>
 opU Pg (Instr.storeAt 24 t4 t64) (panK R) w fun w =>
 qW Pg 24 t4 w fun r0 =>
 R (.returned (.tuple #[r0,(.int .i64 3)])) w
def n18c5 (t4 t9:Value) (R:RT) (w:World):Prop :=
 opV Pg (Instr.fieldAt 24 t9 1) (panK R) w fun t66 w =>
 opV Pg (Instr.loadAt 22 t66) (panK R) w fun t67 w =>
 opV Pg (Builtin.len_ #[22] 3 #[t67]) (panK R) w fun t68 w =>
 opV Pg (binS .gtr 3 true t68 (.int .i64 4)) (panK R) w fun t69 w =>
 condP t69 (
 n18c2 t4 R w) (
 n18c3 t4 t9 R w)
def n18c6 (t4 t9 t57:Value) (R:RT) (w:World):Prop :=
 opV Pg (Op.unary .not t57) (panK R) w fun t58 w =>
 joinK (fun (t62:Value) (w:World) =>
 pickK t58 (.bool true) t62 fun t63 =>
 condP t63 (
 n18c4 t4 R w) (
 n18c5 t4 t9 R w)) fun K6 =>
 guardP t58 false (
 opV Pg (Instr.fieldAt 24 t9 1) (panK R) w fun t60 w =>
 opV Pg (Instr.loadAt 22 t60) (panK R) w fun t61 w =>
 callK Pg 47 #[t61,(.func (.func 74) #[] #[])] (panK R) w fun t62 w =>
 K6 t62 w) (
 K6 undef w)
def n18c7 (t4 t9:Value) (R:RT) (w:World):Prop :=
 opV Pg (Instr.fieldAt 24 t9 0) (panK R) w fun t55 w =>
 opV Pg (Instr.loadAt 3 t55) (panK R) w fun t56 w =>
 callK Pg 46 #[t56] (panK R) w fun t57 w =>
 n18c6 t4 t9 t57 R w
def n18c8 (t50 t52:Value) (C4:World→Prop) (K5:KV) (R:RT) (w:World):Prop :=
 qV Pg C4 (Instr.build 24 #[(0,t50),(1,t52)]) fun t53 =>
 opV Pg (Instr.alloc 24 true (.tuple #[])) (panK R) w fun t9 w =>
 C4 w∧(
 opU Pg (Instr.storeAt 24 t9 t53) (panK R) w fun w =>
 turnK w fun C7 w =>
 K5 t9 w)
def n18c9 (t9 t18 t50:Value) (C4:World→Prop) (K5:KV) (R:RT) (w:World):Prop :=
 callK Pg 73 #[t18] (panK R) w fun t52 w =>
 C4 w∧(
 qV Pg C4 (Instr.build 24 #[(0,t50),(1,t52)]) fun t53 =>
 opU Pg (Instr.storeAt 24 t9 t53) (panK R) w fun w =>
 turnK w fun C8 w =>
 K5 t9 w)
def n18c10 (t2 t3 t4 t18:Value) (C4:World→Prop) (R:RT) (w:World):Prop :=
 qV Pg C4 (Instr.fieldAt 24 t2 0) fun t46 =>
 qV Pg C4 (Instr.loadAt 3 t46) fun t47 =>
 qV Pg C4 (Instr.fieldAt 24 t3 0) fun t48 =>
 qV Pg C4 (Instr.loadAt 3 t48) fun t49 =>
 qV Pg C4 (binS .add 3 false t47 t49) fun t50 =>
 joinK (fun (t9:Value) (w:World) =>
 n18c7 t4 t9 R w) fun K5 =>
 (
 callK Pg 73 #[t18] (panK R) w fun t52 w =>
 C4 w∧(
 n18c8 t50 t52 C4 K5 R w))∧(
 opV Pg (Instr.alloc 24 true (.tuple #[])) (panK R) w fun t9 w =>
 C4 w∧(
 n18c9 t9 t18 t50 C4 K5 R w))
def n18c11 (t18 t24 t26:Value) (next2:KV) (R:RT) (w:World):Prop :=
 opV Pg (Instr.indexAt 22 t24 t26) (panK R) w fun t28 w =>
 opV Pg (Instr.loadAt 32 t28) (panK R) w fun t29 w =>
 opV Pg (Instr.alloc 32 true (.tuple #[])) (panK R) w fun t8 w =>
 opU Pg (Instr.storeAt 32 t8 t29) (panK R) w fun w =>
 opV Pg (Instr.fieldAt 32 t8 0) (panK R) w fun t31 w =>
 opV Pg (Instr.loadAt 9 t31) (panK R) w fun t32 w =>
 opV Pg (Instr.lookup 35 t18 t32 false) (panK R) w fun t33 w =>
 opV Pg (Instr.fieldAt 32 t8 1) (panK R) w fun t34 w =>
 opV Pg (Instr.loadAt 3 t34) (panK R) w fun t35 w =>
 opV Pg (binS .add 3 false t33 t35) (panK R) w fun t36 w =>
 opU Pg (Instr.mapUpdate 35 t18 t32 t36) (panK R) w fun w =>
 opV Pg (Instr.fieldAt 32 t8 0) (panK R) w fun t38 w =>
 opV Pg (Instr.loadAt 9 t38) (panK R) w fun t39 w =>
 opV Pg (Instr.lookup 35 t18 t39 false) (panK R) w fun t40 w =>
 opV Pg (binS .eql 3 true t40 (.int .i64 0)) (panK R) w fun t41 w =>
 joinK (fun (w:World) =>
 opV Pg (binS .add 3 true t26 (.int .i64 1)) (panK R) w fun t45 w =>
 next2 t45 w) fun K3 =>
 condP t41 (
 n18c1 t8 t18 K3 R w) (
 K3 w)
def n18c12 (t2 t3 t4 t18 t24:Value) (R:RT) (w:World):Prop :=
 opV Pg (Builtin.len_ #[22] 3 #[t24]) (panK R) w fun t25 w =>
 loop1 (fun t26 w next2 =>
 opV Pg (binS .lss 3 false t26 t25) (panK R) w fun t27 w =>
 condP t27 (
 n18c11 t18 t24 t26 next2 R w) (
 drawK w fun C4 w =>
 n18c10 t2 t3 t4 t18 C4 R w)) (.int .i64 0) w
def n18c13 (t4:Value) (R:RT) (w:World):Prop :=
 opV Pg (Instr.build 24 #[]) (panK R) w fun t17 w =>
 opU Pg (Instr.storeAt 24 t4 t17) (panK R) w fun w =>
 qW Pg 24 t4 w fun r0 =>
 R (.returned (.tuple #[r0,(.int .i64 2)])) w
def n18c14 (t2 t3 t4:Value) (R:RT) (w:World):Prop :=
 opV Pg (Instr.makeMap 35 none) (panK R) w fun t18 w =>
 opV Pg (Instr.fieldAt 24 t2 1) (panK R) w fun t19 w =>
 opV Pg (Instr.loadAt 22 t19) (panK R) w fun t20 w =>
 opV Pg (Instr.fieldAt 24 t3 1) (panK R) w fun t21 w =>
 opV Pg (Instr.loadAt 22 t21) (panK R) w fun t22 w =>
 opV Pg (Instr.buildSlice 127 2 #[(0,t20),(1,t22)]) (panK R) w fun t23 w =>
 callK Pg 72 #[t23] (panK R) w fun t24 w =>
 n18c12 t2 t3 t4 t18 t24 R w
def n18c15 (t2 t3 t4 t11 t13:Value) (C1:World→Prop) (R:RT) (w:World):Prop :=
 opV Pg (Instr.buildSlice 116 2 #[(0,t11),(1,t13)]) (panK R) w fun t14 w =>
 C1 w∧(
 callK Pg 41 #[t14] (panK R) w fun t15 w =>
 C1 w∧(
 qV Pg C1 (Op.unary .not t15) fun t16 =>
 condP t16 (
 n18c13 t4 R w) (
 n18c14 t2 t3 t4 R w)))
def n18c16 (t2 t3 t4:Value) (C1:World→Prop) (R:RT) (w:World):Prop :=
 qV Pg C1 (Instr.loadAt 24 t2) fun t10 =>
 qV Pg C1 (Instr.loadAt 24 t3) fun t12 =>
 callK Pg 12 #[t10] (panK R) w fun t11 w =>
 C1 w∧(
 callK Pg 12 #[t12] (panK R) w fun t13 w =>
 C1 w∧(
 n18c15 t2 t3 t4 t11 t13 C1 R w))
def n18 (t0 t1:Value) (R:RT) (w:World):Prop :=
 opV Pg (Instr.box 24 t0) (panK R) w fun t2 w =>
 opV Pg (Instr.box 24 t1) (panK R) w fun t3 w =>
 opV Pg (Instr.alloc 24 true (.tuple #[])) (panK R) w fun t4 w =>
 drawK w fun C1 w =>
 n18c16 t2 t3 t4 C1 R w
set_option maxHeartbeats 40000000 in
theorem n18s {t0 t1:Value} {R:RT} {w:World} (h:n18 t0 t1 R w):Calls Pg 29 #[t0,t1] w R:=by
 refine yD Tryz.func29 ?_
 refine zs<|zr<|yv h fun _ w h=>yv h fun _ w h=>yv h fun _ w h=>zm<|zn<|zk<|zs<|zs<|yh [10,11,12,13,14,15,16] h fun C hC h=>ye 0 hC h fun _ h=>?_
 refine ye 2 hC h fun _ h=>?_
 refine yo 1 ?_
 refine yc h c12 fun _ w h=>zn ?_
 obtain ⟨hC,h⟩:=h
 refine ⟨hC,?_⟩
 refine yo 3 ?_
 refine yc h c12 fun _ w h=>zn ?_
 obtain ⟨hC,h⟩:=h
 refine ⟨hC,?_⟩
 refine yo 4 ?_
 refine yS h fun _ w h=>zn ?_
 obtain ⟨hC,h⟩:=h
 refine ⟨hC,?_⟩
 refine yo 5 ?_
 refine yc h c41 fun _ w h=>zn ?_
 obtain ⟨hC,h⟩:=h
 refine ⟨hC,?_⟩
 refine ye 6 hC h fun _ h=>?_
 refine yz<|zk<|yC h (fun h=>zs<|zr<|yB h fun _ w h=>yu h fun w h=>zm<|zn<|zk<|sim_ret<|sim_then_ret<|body_retCT rfl rfl rfl h) fun h=>sim_skip<|zk<|zs<|zr<|yv h fun _ w h=>zm<|zn<|zk<|zs<|zs<|zr ?_
 refine yv h fun _ w h=>yv h fun _ w h=>yv h fun _ w h=>yv h fun _ w h=>yS h fun _ w h=>yc h c72 fun _ w h=>yx h fun _ w h=>zm<|zn<|zk<|sim_block<|yl1 [8,26,27,28,29,30,31,32,33,34,35,36,37,38,39,40,41,42,43,44,45] 26 h fun σ w next h=>zs<|zr<|yb h fun _ w h=>?_
 refine zn<|zk<|zs<|yC h (fun h=>?_) fun h=>?_
 · refine sim_skip<|zk<|zs<|sim_block<|zs<|zr<|yv h fun _ w h=>yv h fun _ w h=>yv h fun _ w h=>yu h fun w h=>zn<|zk<|zs<|zr<|zm ?_
   refine yv h fun _ w h=>yv h fun _ w h=>yv h fun _ w h=>yv h fun _ w h=>yv h fun _ w h=>yb h fun _ w h=>yu h fun w h=>zn<|zk<|zs<|zr<|zm<|yv h fun _ w h=>yv h fun _ w h=>yv h fun _ w h=>?_
   refine yb h fun _ w h=>zn<|zk<|yJ0 [42,43,44] h (fun _ _ hkK3 h=>?_) fun σ w h=>?_
   · refine yC h (fun h=>?_) fun h=>?_
     · refine zr<|zm<|yv h fun _ w h=>yv h fun _ w h=>?_
       refine sim_val h rfl (by simp only [execOp,resolve,List.map_toArray];rfl) (fun _ _ h=>⟨rfl,h⟩) ?_;intro _ w h
       refine zn<|zk ?_
       exact zt hkK3 h
     refine sim_skip<|zk ?_
     exact zt hkK3 h
   exact sim_block_normal<|zk<|zr<|yb h fun _ w h=>zm<|zn<|zk<|⟨rfl,h⟩
 refine sim_exit<|sim_then_exit<|sim_then_exit<|sim_block_hit<|zk<|zs<|yh [9,46,47,48,49,50,51,52,53] h fun C hC h=>ye 0 hC h fun _ h=>?_
 refine ye 1 hC h fun _ h=>?_
 refine ye 2 hC h fun _ h=>?_
 refine ye 3 hC h fun _ h=>?_
 refine ye 4 hC h fun _ h=>?_
 refine yw 5 hC ?_
 refine joinK_elim h (fun K5 hK h=>?_)
 refine sim_dmeet [9,52,53] (fun ρ w=>K5 (ρ 9) w) (fun T hT=>?_) (fun σ w h=>?_)
 · obtain ⟨h0,h1⟩:=h
   refine sim_dloud2 6 8 rfl rfl (by kernel_rfl) (fun _ _=>rfl) (fun _ _=>rfl) ?_ ?_
   · have h:=h0
     refine yc h c73 fun _ w h=>zn ?_
     obtain ⟨hC,h⟩:=h
     refine ⟨_,fun _ h=>h,hC,?_⟩
     refine ye 7 hC h fun _ h=>?_
     refine yo 8 ?_
     refine yv h fun _ w h=>zn ?_
     obtain ⟨hC,h⟩:=h
     refine ⟨hC,?_⟩
     refine yq 9 1 ?_
     refine yu h fun w h=>zn ?_
     obtain ⟨C7,hC,h⟩:=h
     refine ⟨C7,hC,?_⟩
     refine yz ?_
     exact zt hT h
   have h:=h1
   refine yv h fun _ w h=>zn ?_
   obtain ⟨hC,h⟩:=h
   refine ⟨_,fun _ h=>h,hC,?_⟩
   refine yo 6 ?_
   refine yc h c73 fun _ w h=>zn ?_
   obtain ⟨hC,h⟩:=h
   refine ⟨hC,?_⟩
   refine ye 7 hC h fun _ h=>?_
   refine yq 9 1 ?_
   refine yu h fun w h=>zn ?_
   obtain ⟨C8,hC,h⟩:=h
   refine ⟨C8,hC,?_⟩
   refine yz ?_
   exact zt hT h
 subst hK
 refine zk<|zs<|sim_block<|zs<|sim_regionG<|yG 5<|yv h fun _ w h=>yv h fun _ w h=>yc h c46 fun _ w h=>yv h fun _ w h=>zm<|zn<|yg1 3 4 false [60,61,62] 62 h (fun _ T hT h=>?_) fun σ w h=>?_
 · refine yv h fun _ w h=>yv h fun _ w h=>yc h c47 fun _ w h=>zn ?_
   exact zt hT h
 refine yG 2<|yp h fun _ h=>zm<|zn<|sim_end<|zk<|yC h (fun h=>zs<|zr<|yB h fun _ w h=>yu h fun w h=>zm<|zn<|zk<|sim_ret<|sim_block_ret<|sim_then_ret<|body_retCT rfl rfl rfl h) fun h=>zs<|zr<|yv h fun _ w h=>yv h fun _ w h=>yx h fun _ w h=>yb h fun _ w h=>zm ?_
 refine zn<|zk<|yC h (fun h=>zs<|zr<|yB h fun _ w h=>yu h fun w h=>zm<|zn<|zk<|sim_ret<|sim_block_ret<|sim_then_ret<|body_retCT rfl rfl rfl h) fun h=>sim_skip<|sim_block_normal<|zk<|zs<|zr<|yv h fun _ w h=>yu h fun w h=>zm<|zn<|zk<|sim_ret ?_
 exact body_retCT rfl rfl rfl h
def solF (field:ByteArray) (vp:List (ByteArray×Int)) (t:TermD):Int:=if t.field=field then 0 else valF vp t
theorem solve1_ret (w0:World) (t:TermD) (pf:Nat) (field:ByteArray) (h1:w0.cell? ⟨pf,0,none⟩=some (.string field)) :
 Ret Pg 70 #[termVal t,.pointer (some ⟨pf,0,none⟩)] w0 fun r w'=>r = .bool (decide (t.field=field))∧Ext w0 w':=by
 have hb1:=World.block_lt_of_cell? w0 _ h1
 simp only at hb1
 unfold termVal
 refine n34s (R:=retR _) ?_;unfold n34
 simp (disch:=try exact DI) only [↓PR,QR,simprocAttr,h1]
 exact ⟨by first | trivial | rfl,ee⟩
theorem solve2_ret (w0:World) (t:TermD) (pf pm m:Nat) (field:ByteArray) (vp:List (ByteArray×Int)) (h0:w0.cell? ⟨pf,0,none⟩=some (.string field)) (h1:w0.cell? ⟨pm,0,none⟩=some (.map (some m))) (hm:MapOf w0 m (IP vp)) :
 Ret Pg 71 #[termVal t,.pointer (some ⟨pf,0,none⟩),.pointer (some ⟨pm,0,none⟩)] w0 fun r w'=>r = .int .i64 (solF field vp t)∧Ext w0 w':=by
 have hb0:=World.block_lt_of_cell? w0 _ h0
 have hb1:=World.block_lt_of_cell? w0 _ h1
 simp only at hb0 hb1
 unfold termVal
 refine n35s (R:=retR _) ?_;unfold n35
 simp (disch:=try exact DI) only [↓PR,QR,simprocAttr,h0,h1]
 unfold solF
 by_cases hf:t.field=field
 · simp only [hf,decide_true,if_true]
   simp (disch:=try exact DI) only [↓PR,QR,simprocAttr]
   exact ⟨by first | trivial | rfl,ee⟩
 · simp only [hf,decide_false,if_false]
   simp (disch:=try exact DI) only [↓PR,QR,simprocAttr,↓n35c1,h0,h1]
   rw [op_lookup1O Tryz.underlying35 Tryz.underlying9 ty3 (hm.ext ee),lastOf_IP]
   unfold valF
   cases hl:lastI vp t.field with
   | none =>
    simp (disch:=try exact DI) only [↓PR,QR,simprocAttr,↓n35c1,Option.map_none]
    exact ⟨by first | trivial | rfl,ee⟩
   | some q =>
    simp (disch:=try exact DI) only [↓PR,QR,simprocAttr,↓n35c1,Option.map_some]
    exact ⟨by first | trivial | rfl,ee⟩
theorem eval_size {base:Int} {ts:List TermD} {but:ByteArray} {vp:List (ByteArray×Int)} (h:evalE base ts but vp=0):sizeB base ts=true:=by
 unfold evalE at h
 cases hs:sizeB base ts with
 | true=>rfl
 | false=>rw [hs] at h;simp at h
theorem size_fac {base:Int} {ts:List TermD} (h:sizeB base ts=true):∀ t∈ts,t.factor≠0:=by
 unfold sizeB at h
 simp only [Bool.and_eq_true,decide_eq_true_eq] at h
 intro t ht h0
 have:=terms_all ts [] h.2 t ht
 unfold termB at this
 simp [h0] at this
def factorOf (ts:List TermD) (field:ByteArray):Option Int:=(ts.find? fun t=>decide (t.field=field)).map (·.factor)
def solveR (base:Int) (ts:List TermD) (field:ByteArray) (n:Int) (vp:List (ByteArray×Int)):Int×Int :=
 match factorOf ts field with
 | none=>(0,9)
 | some f=>if n > 1152921504606846976∨n < -1152921504606846976 then (0,9) else
  if (IntKind.i64.wrap (n - numW base (solF field vp) ts)).tmod f≠0∨okV (.int .i64 (IntKind.i64.wrap ((IntKind.i64.wrap (n - numW base (solF field vp) ts)).tdiv f)))=false then (0,9) else (IntKind.i64.wrap ((IntKind.i64.wrap (n - numW base (solF field vp) ts)).tdiv f),0)
def solveP (base:Int) (ts:List TermD) (field:ByteArray) (n:Int) (vp:List (ByteArray×Int)):Int×Int :=
 if evalE base ts field vp=0 then solveR base ts field n vp else (0,evalE base ts field vp)
theorem Solve_ret (w0:World) (v:Value) (base:Int) (ts:List TermD) (field:ByteArray) (n:Int) (m:Nat) (vp:List (ByteArray×Int)) (hs:SizeVal w0 v base ts) (hb:ts.length≤1048576) (hm:MapOf w0 m (IP vp)) :
 Ret Pg 28 #[v,.string field,.int .i64 n,.map (some m)] w0 fun r w'=>r = .tuple #[.int .i64 (solveP base ts field n vp).1,.int .i64 (solveP base ts field n vp).2]∧Ext w0 w':=by
 obtain ⟨tv,rfl,hT⟩:=hs
 have hT1:=SliceOf.oneCell hT
 have hmlt:=hm.lt
 refine n33s (R:=retR _) ?_;unfold n33
 simp (disch:=try exact DI) only [↓PR,QR,simprocAttr,↓n33c1,↓n33c2,↓n33c3,↓n33c4,↓n33c5,↓n33c6]
 refine zcr (checked_ret _ _ base ts field m vp ⟨tv,rfl,TermsOf.ext hT ee⟩ hb (hm.ext ee)) fun w1 e1=>?_
 have s1:=e1.size
 simp only [World.size_alloc] at s1
 unfold solveP
 by_cases hE:evalE base ts field vp=0
 · rw [hE]
   simp (disch:=try exact DI) only [↓PR,QR,simprocAttr,↓n33c1,↓n33c2,↓n33c3,↓n33c4,↓n33c5,↓n33c6,e1.cellQ,e1.frozenQ]
   have c1:w1.cell? ⟨w0.heap.size+1,0,none⟩=some (.string field):=by simp (disch:=try exact DI) only [↓PR,QR,simprocAttr,e1.cellQ]
   have c2:w1.cell? ⟨w0.heap.size+1+1,0,none⟩=some (.map (some m)):=by simp (disch:=try exact DI) only [↓PR,QR,simprocAttr,e1.cellQ]
   have eW:Ext w0 w1:=ee
   refine zcr (IndexFunc_Term_ret w1 tv ts _ _ (fun t=>decide (t.field=field)) (hT.ext eW) c70 (fun w _ t _ e hv=>by subst hv;exact solve1_ret w t _ field (e.cell c1))) fun w2 e2=>?_
   have s2:=e2.size
   have hz:=size_fac (eval_size hE)
   simp only [if_true]
   unfold solveR factorOf
   obtain ⟨A,c,htv,hlc,hcm,hlm,hel⟩:=SliceOf.open (hT.ext eW)
   cases hf:ts.findIdx? (fun t=>decide (t.field=field)) with
   | none =>
    have hn:ts.find? (fun t=>decide (t.field=field))=none:=by
     rw [List.find?_eq_none]
     rw [List.findIdx?_eq_none_iff] at hf
     intro x hx
     rw [hf x hx];simp
    rw [hn,show idx (fun t=>decide (t.field=field)) ts = -1 by unfold idx;rw [hf]]
    simp (disch:=try exact DI) only [↓PR,QR,simprocAttr,↓n33c1,↓n33c2,↓n33c3,↓n33c4,↓n33c5,↓n33c6,Option.map_none]
    exact ⟨by first | trivial | rfl,ee⟩
   | some i =>
    obtain ⟨hi,hp,hmin⟩:=List.findIdx?_eq_some_iff_getElem.1 hf
    have hn:ts.find? (fun t=>decide (t.field=field))=some ts[i]:=by
     rw [List.find?_eq_some_iff_getElem]
     refine ⟨hp,i,hi,rfl,fun j hj=>?_⟩
     have:=hmin j hj
     simpa using this
    have hx:ts[i]?=some ts[i]:=List.getElem?_eq_getElem hi
    rw [hn,show idx (fun t=>decide (t.field=field)) ts=(i:Int) by unfold idx;rw [hf]]
    have hfi:=hz _ (List.mem_of_getElem? hx)
    generalize ts[i]=t at hx hfi
    have hd0:decide ((i:Int) < 0)=false:=by simp
    by_cases h1:n > 1152921504606846976
    · simp (disch:=try exact DI) only [↓PR,QR,simprocAttr,↓n33c1,↓n33c2,↓n33c3,↓n33c4,↓n33c5,↓n33c6,Option.map_some,h1,hd0,decide_true]
      simp only [h1,true_or,if_true]
      exact ⟨by first | trivial | rfl,ee⟩
    by_cases h2:n < -1152921504606846976
    · simp (disch:=try exact DI) only [↓PR,QR,simprocAttr,↓n33c1,↓n33c2,↓n33c3,↓n33c4,↓n33c5,↓n33c6,Option.map_some,h1,h2,hd0,decide_true,decide_false]
      simp only [h2,or_true,if_true]
      exact ⟨by first | trivial | rfl,ee⟩
    simp (disch:=try exact DI) only [↓PR,QR,simprocAttr,↓n33c1,↓n33c2,↓n33c3,↓n33c4,↓n33c5,↓n33c6,Option.map_some,h1,h2,hd0,decide_false,e1.cellQ,e1.frozenQ,e2.cellQ,e2.frozenQ]
    simp only [h1,h2,or_self,if_false,Option.map_some]
    have eV:Ext w0 w2:=ee
    refine callK_ret (number_ret _ _ base ts _ _ (solF field vp) ⟨tv,rfl,TermsOf.ext hT ee⟩ c71 (fun w t e=>?_)) ?_
    · exact solve2_ret w t _ _ m field vp (e.cell (e2.cell c1)) (e.cell (e2.cell c2)) ((hm.ext eV).ext e)
    rintro _ w3 ⟨rfl,e3⟩
    simp (disch:=try exact DI) only [↓PR,QR,simprocAttr,↓n33c1,↓n33c2,↓n33c3,↓n33c4,↓n33c5,↓n33c6,e1.cellQ,e1.frozenQ,e2.cellQ,e2.frozenQ,e3.cellQ,e3.frozenQ]
    have e13:Ext w1 w3:=ee
    have eU:Ext w0 w3:=ee
    clear e2 e3 hlm
    subst htv
    obtain ⟨b,o,cs,rfl,hl,hA,rfl⟩:=hel i t hx
    generalize IntKind.i64.wrap (n - numW base (solF field vp) ts)=d
    have hdi:decide ((i:Int) < (ts.length:Int))=true:=by simpa using hi
    simp (disch:=try exact DI) only [↓PR,QR,simprocAttr,↓n33c1,↓n33c2,↓n33c3,↓n33c4,↓n33c5,↓n33c6,hdi,hA.c2,op_rem _ _ _ _ _ hfi]
    by_cases hr:d.tmod t.factor=0
    · have hrn:(d.tmod t.factor != 0)=false:=by simpa using hr
      simp (disch:=try exact DI) only [↓PR,QR,simprocAttr,↓n33c1,↓n33c2,↓n33c3,↓n33c4,↓n33c5,↓n33c6,hrn,op_quo _ _ _ _ _ hfi]
      refine zcr (allowed_ret w3 _) fun w4 e4=>?_
      cases ho:okV (.int .i64 (IntKind.i64.wrap (d.tdiv t.factor))) with
      | true =>
       simp (disch:=try exact DI) only [↓PR,QR,simprocAttr,↓n33c1,↓n33c2,↓n33c3,↓n33c4,↓n33c5,↓n33c6,hrn,op_quo _ _ _ _ _ hfi]
       exact ⟨by simp [hr],ee⟩
      | false =>
       simp (disch:=try exact DI) only [↓PR,QR,simprocAttr,↓n33c1,↓n33c2,↓n33c3,↓n33c4,↓n33c5,↓n33c6,hrn,op_quo _ _ _ _ _ hfi]
       exact ⟨by simp,ee⟩
    · have hrn:(d.tmod t.factor != 0)=true:=by simpa using hr
      simp (disch:=try exact DI) only [↓PR,QR,simprocAttr,↓n33c1,↓n33c2,↓n33c3,↓n33c4,↓n33c5,↓n33c6,hrn]
      exact ⟨by simp [hr],ee⟩
 · have hne:(evalE base ts field vp != 0)=true:=by simpa using hE
   simp (disch:=try exact DI) only [↓PR,QR,simprocAttr,↓n33c1,↓n33c2,↓n33c3,↓n33c4,↓n33c5,↓n33c6,hne]
   simp only [hE,if_false]
   exact ⟨by first | trivial | rfl,ee⟩
abbrev valCells (p:ByteArray×Int):List Value:=[.string p.1,.int .i64 p.2]
def EVal (_:World) (cs:List Value) (p:ByteArray×Int):Prop:=cs=valCells p
def ValsOf (w:World) (v:Value) (l:List (ByteArray×Int)):Prop:=SliceOf w 2 EVal v l
theorem lastI_snoc (ps:List (ByteArray×Int)) (p:ByteArray×Int) (s:ByteArray):lastI (ps++[p]) s=if p.1=s then some p.2 else lastI ps s:=lastP_snoc ps p s
def n36c1 (t1 t4:Value) (K3:KV) (R:RT) (w:World):Prop :=
 opV Pg (Instr.fieldAt 24 t1 0) (panK R) w fun t35 w =>
 opV Pg (Instr.loadAt 3 t35) (panK R) w fun t36 w =>
 opV Pg (binS .eql 9 true t4 (.string { data := #[] })) (panK R) w fun t38 w =>
 callK Pg 62 #[t36,(.string { data := #[] }),t38] (panK R) w fun t39 w =>
 opV Pg (binS .add 9 false t4 t39) (panK R) w fun t40 w =>
 K3 t40 w
def n36c2 (t1 t4:Value) (R:RT) (w:World):Prop :=
 opV Pg (Instr.fieldAt 24 t1 0) (panK R) w fun t27 w =>
 opV Pg (Instr.loadAt 3 t27) (panK R) w fun t28 w =>
 opV Pg (binS .neq 3 true t28 (.int .i64 0)) (panK R) w fun t29 w =>
 joinK (fun (t32:Value) (w:World) =>
 pickK t29 (.bool true) t32 fun t33 =>
 joinK (fun (t4:Value) (w:World) =>
 R (.returned (.tuple #[t4,(.int .i64 0)])) w) fun K3 =>
 condP t33 (
 n36c1 t1 t4 K3 R w) (
 K3 t4 w)) fun K2 =>
 guardP t29 false (
 opV Pg (binS .eql 9 true t4 (.string { data := #[] })) (panK R) w fun t32 w =>
 K2 t32 w) (
 K2 undef w)
def n36c3 (t4 t11 t13:Value) (next1:KW) (R:RT) (w:World):Prop :=
 opV Pg (Instr.indexAt 22 t11 t13) (panK R) w fun t15 w =>
 opV Pg (Instr.loadAt 32 t15) (panK R) w fun t16 w =>
 opV Pg (Instr.alloc 32 true (.tuple #[])) (panK R) w fun t6 w =>
 opU Pg (Instr.storeAt 32 t6 t16) (panK R) w fun w =>
 opV Pg (Instr.fieldAt 32 t6 1) (panK R) w fun t18 w =>
 opV Pg (Instr.loadAt 3 t18) (panK R) w fun t19 w =>
 opV Pg (Instr.fieldAt 32 t6 0) (panK R) w fun t20 w =>
 opV Pg (Instr.loadAt 9 t20) (panK R) w fun t21 w =>
 opV Pg (binS .eql 9 true t4 (.string { data := #[] })) (panK R) w fun t23 w =>
 callK Pg 62 #[t19,t21,t23] (panK R) w fun t24 w =>
 opV Pg (binS .add 9 false t4 t24) (panK R) w fun t25 w =>
 opV Pg (binS .add 3 true t13 (.int .i64 1)) (panK R) w fun t26 w =>
 next1 t25 t26 w
def n36c4 (t1:Value) (R:RT) (w:World):Prop :=
 opV Pg (Instr.fieldAt 24 t1 1) (panK R) w fun t10 w =>
 opV Pg (Instr.loadAt 22 t10) (panK R) w fun t11 w =>
 opV Pg (Builtin.len_ #[22] 3 #[t11]) (panK R) w fun t12 w =>
 loop2 (fun t4 t13 w next1 =>
 opV Pg (binS .lss 3 false t13 t12) (panK R) w fun t14 w =>
 condP t14 (
 n36c3 t4 t11 t13 next1 R w) (
 n36c2 t1 t4 R w)) (.string { data := #[] }) (.int .i64 0) w
def n36 (t0:Value) (R:RT) (w:World):Prop :=
 opV Pg (Instr.box 24 t0) (panK R) w fun t1 w =>
 opV Pg (Instr.loadAt 24 t1) (panK R) w fun t7 w =>
 callK Pg 12 #[t7] (panK R) w fun t8 w =>
 opV Pg (Op.unary .not t8) (panK R) w fun t9 w =>
 condP t9 (
 R (.returned (.tuple #[(.string { data := #[] }),(.int .i64 2)])) w) (
 n36c4 t1 R w)
theorem n36s {t0:Value} {R:RT} {w:World} (h:n36 t0 R w):Calls Pg 23 #[t0] w R:=by
 refine yD Tryz.func23 ?_
 refine zs<|zr<|yv h fun _ w h=>zm<|zm<|zn<|zk<|zs<|zs<|zr<|yv h fun _ w h=>yc h c12 fun _ w h=>yv h fun _ w h=>zn<|zk ?_
 refine yC h (fun h=>zs<|zr<|zm<|zm<|zn<|zk<|sim_ret<|sim_then_ret<|body_ret2 rfl rfl rfl h) fun h=>sim_skip<|zk<|zs<|zr<|zm<|zn<|zk<|zs<|zs<|zr<|yv h fun _ w h=>yv h fun _ w h=>yx h fun _ w h=>?_
 refine zm<|zn<|zk<|sim_block<|yl2 [4,6,13,14,15,16,17,18,19,20,21,22,23,24,25,26] 4 13 h fun σ w next h=>zs<|zr<|yb h fun _ w h=>zn<|zk<|zs<|yC h (fun h=>?_) fun h=>?_
 · refine sim_skip<|zk<|zs<|sim_block<|zs<|zr<|yv h fun _ w h=>yv h fun _ w h=>yv h fun _ w h=>yu h fun w h=>zn<|zk<|zr<|zm<|yv h fun _ w h=>?_
   refine yv h fun _ w h=>yv h fun _ w h=>yv h fun _ w h=>zm<|yb h fun _ w h=>yc h c62 fun _ w h=>yb h fun _ w h=>zm<|zn<|sim_block_normal<|zk<|zr<|yb h fun _ w h=>zm<|zn ?_
   exact zk<|⟨rfl,h⟩
 refine sim_exit<|sim_then_exit<|sim_then_exit<|sim_block_hit<|zk<|zs<|zs<|sim_regionG<|yG 4<|yv h fun _ w h=>yv h fun _ w h=>yb h fun _ w h=>zm<|zn<|yg1 2 3 false [31,32] 32 h (fun _ T hT h=>?_) fun σ w h=>?_
 · refine zm<|yb h fun _ w h=>zn ?_
   exact zt hT h
 refine yG 1<|yp h fun _ h=>zn<|sim_end<|zk<|yJ1 [4,34,35,36,37,38,39,40] 4 h (fun _ _ hkK3 h=>?_) fun σ w h=>?_
 · refine yC h (fun h=>?_) fun h=>?_
   · refine zr<|zm<|yv h fun _ w h=>yv h fun _ w h=>zm<|yb h fun _ w h=>yc h c62 fun _ w h=>yb h fun _ w h=>zm<|zn<|zk ?_
     exact zt hkK3 h
   refine sim_skip<|zk ?_
   exact zt hkK3 h
 exact zk<|zs<|zr<|zm<|zm<|zm<|zn<|zk<|sim_ret<|body_ret2 rfl rfl rfl h
def n31c1 (t2:Value) (R:RT) (w:World):Prop :=
 opV Pg (Instr.build 24 #[]) (panK R) w fun t107 w =>
 opU Pg (Instr.storeAt 24 t2 t107) (panK R) w fun w =>
 qW Pg 24 t2 w fun r0 =>
 R (.returned (.tuple #[r0,(.int .i64 6)])) w
def n31c2 (t2 t4:Value) (R:RT) (w:World):Prop :=
 opV Pg (Instr.loadAt 24 t4) (panK R) w fun t108 w =>
 opU Pg (Instr.storeAt 24 t2 t108) (panK R) w fun w =>
 qW Pg 24 t2 w fun r0 =>
 R (.returned (.tuple #[r0,(.int .i64 0)])) w
def n31c3 (t0 t2 t4 t97:Value) (R:RT) (w:World):Prop :=
 opV Pg (Instr.extract t97 0) (panK R) w fun t98 w =>
 opV Pg (Instr.extract t97 1) (panK R) w fun t99 w =>
 opV Pg (binS .neq 39 true t99 (.int .i64 0)) (panK R) w fun t101 w =>
 joinK (fun (t105:Value) (w:World) =>
 pickK t101 (.bool true) t105 fun t106 =>
 condP t106 (
 n31c1 t2 R w) (
 n31c2 t2 t4 R w)) fun K2 =>
 guardP t101 false (
 opV Pg (binS .neq 9 false t98 t0) (panK R) w fun t105 w =>
 K2 t105 w) (
 K2 undef w)
def n31c4 (t4 t13:Value) (K10:World→Prop) (R:RT) (w:World):Prop :=
 opV Pg (Instr.fieldAt 24 t4 0) (panK R) w fun t82 w =>
 opV Pg (Instr.loadAt 3 t82) (panK R) w fun t83 w =>
 opV Pg (binS .add 3 false t83 t13) (panK R) w fun t85 w =>
 opV Pg (Instr.fieldAt 24 t4 0) (panK R) w fun t86 w =>
 opU Pg (Instr.storeAt 3 t86 t85) (panK R) w fun w =>
 K10 w
def n31c5 (t4 t11 t13:Value) (K10:World→Prop) (R:RT) (w:World):Prop :=
 opV Pg (Instr.fieldAt 24 t4 1) (panK R) w fun t87 w =>
 opV Pg (Instr.loadAt 22 t87) (panK R) w fun t88 w =>
 opV Pg (Instr.build 32 #[(0,t11),(1,t13)]) (panK R) w fun t91 w =>
 opV Pg (Instr.buildSlice 22 1 #[(0,t91)]) (panK R) w fun t92 w =>
 opV Pg (Builtin.append_ #[22,22] 22 #[t88,t92]) (panK R) w fun t93 w =>
 opV Pg (Instr.fieldAt 24 t4 1) (panK R) w fun t94 w =>
 opU Pg (Instr.storeAt 22 t94 t93) (panK R) w fun w =>
 K10 w
def n31c6 (t4 t11 t13 t44:Value) (next3:KV) (R:RT) (w:World):Prop :=
 opV Pg (binS .eql 9 true t11 (.string { data := #[] })) (panK R) w fun t81 w =>
 joinK (fun (w:World) =>
 next3 t44 w) fun K10 =>
 condP t81 (
 n31c4 t4 t13 K10 R w) (
 n31c5 t4 t11 t13 K10 R w)
def n31c7 (t2:Value) (R:RT) (w:World):Prop :=
 opV Pg (Instr.build 24 #[]) (panK R) w fun t74 w =>
 opU Pg (Instr.storeAt 24 t2 t74) (panK R) w fun w =>
 qW Pg 24 t2 w fun r0 =>
 R (.returned (.tuple #[r0,(.int .i64 6)])) w
def n31c8 (t4 t11 t37 t44 t63:Value) (next3:KV) (R:RT) (w:World):Prop :=
 opV Pg (binS .eql 9 true t37 (.string { data := #[45] })) (panK R) w fun t77 w =>
 joinK (fun (t13:Value) (w:World) =>
 n31c6 t4 t11 t13 t44 next3 R w) fun K9 =>
 condP t77 (
 opV Pg (Op.unary .neg t63) (panK R) w fun t79 w =>
 K9 t79 w) (
 K9 t63 w)
def n31c9 (t2 t4 t10 t11 t37 t44 t62:Value) (next3:KV) (R:RT) (w:World):Prop :=
 opV Pg (Instr.extract t62 0) (panK R) w fun t63 w =>
 opV Pg (Instr.extract t62 1) (panK R) w fun t64 w =>
 opV Pg (binS .neq 107 true t64 .nilIface) (panK R) w fun t67 w =>
 joinK (fun (t72:Value) (w:World) =>
 pickK t67 (.bool true) t72 fun t73 =>
 condP t73 (
 n31c7 t2 R w) (
 n31c8 t4 t11 t37 t44 t63 next3 R w)) fun K8 =>
 guardP t67 false (
 opV Pg (Instr.index 9 t10 (.int .i64 0)) (panK R) w fun t70 w =>
 callK Pg 40 #[t70] (panK R) w fun t71 w =>
 opV Pg (Op.unary .not t71) (panK R) w fun t72 w =>
 K8 t72 w) (
 K8 undef w)
def n31c10 (t2 t4 t37 t41 t44 t48 t49 t52 t57:Value) (next3:KV) (R:RT) (w:World):Prop :=
 pickK t52 t57 (.bool false) fun t58 =>
 joinK (fun (t10:Value) (t11:Value) (w:World) =>
 callK Pg 67 #[t10] (panK R) w fun t62 w =>
 n31c9 t2 t4 t10 t11 t37 t44 t62 next3 R w) fun K7 =>
 condP t58 (
 K7 (.string { data := #[49] }) t41 w) (
 K7 t48 t49 w)
def n31c11 (t2 t4 t37 t41 t44 t47:Value) (next3:KV) (R:RT) (w:World):Prop :=
 opV Pg (Instr.extract t47 0) (panK R) w fun t48 w =>
 opV Pg (Instr.extract t47 1) (panK R) w fun t49 w =>
 opV Pg (Instr.extract t47 2) (panK R) w fun t50 w =>
 opV Pg (Op.unary .not t50) (panK R) w fun t52 w =>
 joinK (fun (t57:Value) (w:World) =>
 n31c10 t2 t4 t37 t41 t44 t48 t49 t52 t57 next3 R w) fun K6 =>
 guardP t52 true (
 opV Pg (Instr.index 9 t41 (.int .i64 0)) (panK R) w fun t55 w =>
 callK Pg 40 #[t55] (panK R) w fun t56 w =>
 opV Pg (Op.unary .not t56) (panK R) w fun t57 w =>
 K6 t57 w) (
 K6 undef w)
def n31c12 (t2 t4 t5 t21 t34:Value) (C5:World→Prop) (next3:KV) (R:RT) (w:World):Prop :=
 qV Pg C5 (Instr.sliceAt 9 t5 none (some t21) none) fun t37 =>
 qV Pg C5 (Instr.sliceAt 9 t5 (some t21) (some t34) none) fun t41 =>
 opV Pg (Instr.sliceAt 9 t5 (some t34) none none) (panK R) w fun t44 w =>
 callK Pg 66 #[t41,(.string { data := #[42] })] (panK R) w fun t47 w =>
 n31c11 t2 t4 t37 t41 t44 t47 next3 R w
def n31c13 (t2 t4 t5 t21:Value) (next3:KV) (R:RT) (w:World):Prop :=
 opV Pg (Instr.sliceAt 9 t5 (some t21) none none) (panK R) w fun t31 w =>
 opV Pg (binS .add 9 true t31 (.string { data := #[43] })) (panK R) w fun t32 w =>
 callK Pg 65 #[t32,(.string { data := #[43,45] })] (panK R) w fun t33 w =>
 opV Pg (binS .add 3 false t21 t33) (panK R) w fun t34 w =>
 drawK w fun C5 w =>
 n31c12 t2 t4 t5 t21 t34 C5 next3 R w
def n31c14 (t2 t4 t5 t21:Value) (K1:World→Prop) (next3:KV) (R:RT) (w:World):Prop :=
 opV Pg (binS .lss 3 true t21 (.int .i64 0)) (panK R) w fun t23 w =>
 joinK (fun (t26:Value) (w:World) =>
 pickK t23 (.bool true) t26 fun t27 =>
 condP t27 (
 K1 w) (
 n31c13 t2 t4 t5 t21 next3 R w)) fun K4 =>
 guardP t23 false (
 opV Pg (binS .gtr 3 true t21 (.int .i64 1)) (panK R) w fun t26 w =>
 K4 t26 w) (
 K4 undef w)
def n31c15 (t2 t4 t5:Value) (K1:World→Prop) (next3:KV) (R:RT) (w:World):Prop :=
 opV Pg (binS .neq 9 true t5 (.string { data := #[] })) (panK R) w fun t19 w =>
 condP t19 (
 callK Pg 63 #[t5,(.func (.func 64) #[] #[])] (panK R) w fun t21 w =>
 n31c14 t2 t4 t5 t21 K1 next3 R w) (
 K1 w)
def n31 (t0:Value) (R:RT) (w:World):Prop :=
 opV Pg (Instr.alloc 24 true (.tuple #[])) (panK R) w fun t2 w =>
 opV Pg (Instr.alloc 24 true (.tuple #[])) (panK R) w fun t4 w =>
 joinK (fun (w:World) =>
 opV Pg (Instr.loadAt 24 t4) (panK R) w fun t96 w =>
 callK Pg 23 #[t96] (panK R) w fun t97 w =>
 n31c3 t0 t2 t4 t97 R w) fun K1 =>
 loop1 (fun t5 w next3 =>
 n31c15 t2 t4 t5 K1 next3 R w) t0 w
set_option maxHeartbeats 40000000 in
theorem n31s {t0:Value} {R:RT} {w:World} (h:n31 t0 R w):Calls Pg 24 #[t0] w R:=by
 refine yD Tryz.func24 ?_
 refine zs<|zr<|yv h fun _ w h=>zm<|zn<|zk<|sim_scope<|zs<|zr<|yv h fun _ w h=>zn<|zk<|zs<|zr<|zm ?_
 refine zm<|zn<|zk<|zs<|sim_label<|zk<|zs<|yJ0 [3,5,6,7,8,9,10,11,12,13,14,18,19,20,21,22,23,24,25,26,27,28,29,30,31,32,33,34,35,36,37,38,39,40,41,42,43,44,45,46,47,48,49,50,51,52,53,54,55,56,57,58,59,60,61,62,63,64,65,66,67,68,69,70,71,72,73,74,75,76,77,78,79,80,81,82,83,84,85,86,87,88,89,90,91,92,93,94] h (fun _ _ hkK1 h=>?_) fun σ w h=>?_
 · refine sim_block<|yl1 [3,5,6,7,8,9,10,11,12,13,14,18,19,20,21,22,23,24,25,26,27,28,29,30,31,32,33,34,35,36,37,38,39,40,41,42,43,44,45,46,47,48,49,50,51,52,53,54,55,56,57,58,59,60,61,62,63,64,65,66,67,68,69,70,71,72,73,74,75,76,77,78,79,80,81,82,83,84,85,86,87,88,89,90,91,92,93,94] 5 h fun σ w next h=>zs<|zs<|zr<|zm<|yb h fun _ w h=>zn<|zk<|yC h (fun h=>?_) fun h=>?_
   · refine sim_skip<|zk<|sim_block<|zs<|zr<|zm<|yc h c63 fun _ w h=>zm<|zn<|zk<|zs<|zs<|sim_regionG<|yG 3<|zm ?_
     refine yb h fun _ w h=>zm<|zn<|yg1 2 2 false [25,26] 26 h (fun _ T hT h=>?_) fun σ w h=>?_
     · refine zm<|yb h fun _ w h=>zn ?_
       exact zt hT h
     refine yG 1<|yp h fun _ h=>zn<|sim_end<|zk<|yC h (fun h=>?_) fun h=>?_
     · refine sim_exit<|sim_then_exit<|sim_block_miss rfl<|sim_then_exit<|sim_block_hit<|zk ?_
       exact zt hkK1 h
     refine sim_skip<|zk<|zs<|zr<|zm<|zm<|zm<|yv h fun _ w h=>yb h fun _ w h=>yc h c65 fun _ w h=>yb h fun _ w h=>zm<|zn<|zk<|zs ?_
     refine yh [8,9,35,36,37,38,39,40,41] h fun C hC h=>yw 0 hC ?_
     refine yw 1 hC ?_
     refine ye 2 hC h fun _ h=>?_
     refine yw 3 hC ?_
     refine yw 4 hC ?_
     refine yw 5 hC ?_
     refine ye 6 hC h fun _ h=>?_
     refine yw 7 hC ?_
     refine yw 8 hC ?_
     refine yz<|zk<|zs<|zr<|zm<|zm<|yv h fun _ w h=>zm<|zn<|zk<|zs<|zr<|zm<|yc h c66 fun _ w h=>zm ?_
     refine yv h fun _ w h=>yv h fun _ w h=>yv h fun _ w h=>zm<|zm<|zm<|zn<|zk<|zs<|zs<|sim_regionG<|yG 3<|zm<|yv h fun _ w h=>zm ?_
     refine zn<|yg1 4 2 true [54,55,56,57] 57 h (fun _ T hT h=>?_) fun σ w h=>?_
     · refine zm<|yv h fun _ w h=>yc h c40 fun _ w h=>yv h fun _ w h=>zn ?_
       exact zt hT h
     refine yG 1<|yp h fun _ h=>zn<|sim_end<|zk<|yJ2 [10,11,59] 10 11 h (fun _ _ hkK7 h=>?_) fun σ w h=>?_
     · refine yC h (fun h=>?_) fun h=>?_
       · refine zr<|zm<|zm<|zm<|zn<|zk ?_
         exact zt hkK7 h
       refine sim_skip<|zk ?_
       exact zt hkK7 h
     refine zk<|zs<|zr<|zm<|yc h c67 fun _ w h=>zm<|yv h fun _ w h=>yv h fun _ w h=>zm<|zm<|zn<|zk<|zs<|sim_block<|zs ?_
     refine sim_regionG<|yG 3<|zm<|yb h fun _ w h=>zm<|zn<|yg1 4 2 false [69,70,71,72] 72 h (fun _ T hT h=>?_) fun σ w h=>?_
     · refine zm<|yv h fun _ w h=>yc h c40 fun _ w h=>yv h fun _ w h=>zn ?_
       exact zt hT h
     refine yG 2<|yp h fun _ h=>zm<|zn<|sim_end<|zk<|yC h (fun h=>?_) fun h=>?_
     · refine zs<|zr<|yB h fun _ w h=>yu h fun w h=>zm<|zn<|zk<|sim_ret<|sim_block_ret<|sim_then_ret<|sim_block_ret<|sim_then_ret<|sim_block_ret<|sim_then_ret<|sim_then_ret ?_
       exact body_retCT rfl rfl rfl h
     refine zs<|zr<|zm<|yb h fun _ w h=>zm<|zn<|zk<|yJ1 [13,78,79] 13 h (fun _ _ hkK9 h=>?_) fun σ w h=>?_
     · refine yC h (fun h=>?_) fun h=>?_
       · refine zr<|zm<|yv h fun _ w h=>zm<|zn<|zk ?_
         exact zt hkK9 h
       refine sim_skip<|zk ?_
       exact zt hkK9 h
     refine sim_block_normal<|zk<|zs<|zr<|zm<|yb h fun _ w h=>zn<|zk<|yJ0 [82,83,84,85,86,87,88,89,90,91,92,93,94] h (fun _ _ hkK10 h=>?_) fun σ w h=>?_
     · refine yC h (fun h=>?_) fun h=>?_
       · refine zr<|yv h fun _ w h=>yv h fun _ w h=>zm<|yb h fun _ w h=>yv h fun _ w h=>yu h fun w h=>zn<|zk ?_
         exact zt hkK10 h
       refine zr<|yv h fun _ w h=>yv h fun _ w h=>zm<|zm<|yB h fun _ w h=>yS h fun _ w h=>yx h fun _ w h=>yv h fun _ w h=>yu h fun w h=>zn<|zk ?_
       exact zt hkK10 h
     exact sim_block_normal<|zk<|⟨rfl,h⟩
   refine sim_exit<|sim_then_exit<|sim_then_exit<|sim_block_hit<|zk ?_
   exact zt hkK1 h
 refine zk<|zs<|zs<|zr<|yv h fun _ w h=>yc h c23 fun _ w h=>zm<|yv h fun _ w h=>yv h fun _ w h=>zm<|zm<|zn<|zk<|zs<|sim_regionG ?_
 refine yG 3<|zm<|yb h fun _ w h=>zm<|zn<|yg1 3 2 false [103,104,105] 105 h (fun _ T hT h=>?_) fun σ w h=>?_
 · refine zm<|zm<|yb h fun _ w h=>zn ?_
   exact zt hT h
 refine yG 1<|yp h fun _ h=>zn<|sim_end<|zk<|yC h (fun h=>zs<|zr<|yB h fun _ w h=>yu h fun w h=>zm<|zn<|zk<|sim_ret<|sim_then_ret<|body_retCT rfl rfl rfl h) fun h=>sim_skip<|zk<|zs<|zr<|yv h fun _ w h=>yu h fun w h=>zm<|zn ?_
 exact zk<|sim_ret<|body_retCT rfl rfl rfl h
theorem mkB_app (a b:List UInt8):mkB a++mkB b=mkB (a++b):=bytes_ext (by simp [mkB])
theorem mkB_size (a:List UInt8):(mkB a).size=a.length:=by unfold mkB;simp [ByteArray.size]
theorem mkB_inj {a b:List UInt8} (h:mkB a=mkB b):a=b:=by
 have:=congrArg (fun x=>x.data.toList) h
 simpa [mkB] using this
theorem decB_nat (m:Nat):decB (m:Int)=mkB (Go.Lib.decDigits m):=by
 unfold decB
 rw [itoa_pos (by omega)]
 rfl
theorem part_c3 {w0:World} (hT:TabOK w0) (n:Int) (name sg:ByteArray) (h0 : -1048576≤n) (h1:n≤1048576) (hn:name.size≤1000) (hs:sg.size≤1) :
 n46c3 (.int .i64 n) (.string name) (.string sg) (retR fun r w'=>r = .string (sg++mkB (bodyL n.natAbs name.data.toList))∧Ext w0 w') w0:=by
 have i1:Szb name 1000:=⟨hn⟩
 have i2:Szb sg 1:=⟨hs⟩
 have i3:Szb (decB (n.natAbs:Int)) 21:=⟨decB_size (by omega) (by omega)⟩
 have hm:(if IntKind.i64.wrap (0 - n) > n then IntKind.i64.wrap (0 - n) else n)=(n.natAbs:Int):=by
  rw [wrap_ok (by omega) (by omega)]
  split<;>omega
 unfold n46c3
 rw [op_neg,op_max,hm]
 simp (disch:=try exact DI) only [↓PR,QR,simprocAttr]
 unfold bodyL
 by_cases he:name=⟨#[]⟩
 · subst he
   simp (disch:=try exact DI) only [↓PR,QR,simprocAttr]
   refine zcr (Itoa_ret hT _ (by omega) (by omega)) fun w1 e1=>?_
   rw [op_saddB _ _ _ _ rfl]
   simp (disch:=try exact DI) only [↓PR,QR,simprocAttr]
   exact ⟨by rw [decB_nat],e1⟩
 · have hne:name.data.toList≠[]:=fun h=>he (bytes_ext h)
   have hd:decide (name=⟨#[]⟩)=false:=decide_eq_false he
   simp (disch:=try exact DI) only [↓PR,QR,simprocAttr,↓n46c1,↓n46c2,↓n46c3,hd]
   rw [if_neg hne]
   by_cases h:n.natAbs=1
   · rw [h]
     simp (disch:=try exact DI) only [↓PR,QR,simprocAttr,↓n46c1,↓n46c2,↓n46c3]
     rw [op_saddB _ _ _ _ rfl]
     simp (disch:=try exact DI) only [↓PR,QR,simprocAttr]
     exact ⟨by rfl,Ext.refl _⟩
   · have hd1:((n.natAbs:Int) == 1)=false:=by simp;omega
     simp (disch:=try exact DI) only [↓PR,QR,simprocAttr,↓n46c1,↓n46c2,↓n46c3,hd1]
     refine zcr (Itoa_ret hT _ (by omega) (by omega)) fun w1 e1=>?_
     unfold n46c1
     rw [op_saddB _ _ _ _ rfl,op_saddB _ _ _ _ rfl,op_saddB _ _ _ _ rfl]
     simp (disch:=try exact DI) only [↓PR,QR,simprocAttr]
     refine ⟨?_,e1⟩
     rw [decB_nat,if_neg h,app_assoc,app_assoc]
     rfl
theorem part_ret {w0:World} (hT:TabOK w0) (n:Int) (name:ByteArray) (first:Bool) (h0 : -1048576≤n) (h1:n≤1048576) (hn:name.size≤1000) :
 Ret Pg 62 #[.int .i64 n,.string name,.bool first] w0 fun r w'=>r = .string (mkB (partL n name.data.toList first))∧Ext w0 w':=by
 refine n46s (R:=retR _) ?_;unfold n46
 unfold partL
 by_cases h:n < 0
 · simp only [h,if_true]
   simp (disch:=try exact DI) only [↓PR,QR,simprocAttr,h,decide_true]
   exact part_c3 hT n name _ h0 h1 hn (by decide)
 · simp only [h,if_false]
   simp (disch:=try exact DI) only [↓PR,QR,simprocAttr,h,decide_false]
   cases first with
   | true =>
    simp (disch:=try exact DI) only [↓PR,QR,simprocAttr]
    exact part_c3 hT n name _ h0 h1 hn (by decide)
   | false =>
    simp (disch:=try exact DI) only [↓PR,QR,simprocAttr]
    exact part_c3 hT n name _ h0 h1 hn (by decide)
theorem name_size {s:ByteArray} (h:nameB s=true):s.size≤32:=by
 unfold nameB at h
 simp only [Bool.and_eq_true,decide_eq_true_eq] at h
 omega
theorem body_len {m:Nat} {l:List UInt8} (hm:m≤1048576):(bodyL m l).length≤8+l.length:=by
 have:=decD_len hm
 unfold bodyL
 split
 · omega
 · split
   · omega
   · simp;omega
theorem part_len {n:Int} {l:List UInt8} {first:Bool} (h0 : -1048576≤n) (h1:n≤1048576):(partL n l first).length≤9+l.length:=by
 have:=body_len (m:=n.natAbs) (l:=l) (by omega)
 unfold partL
 split
 · simp;omega
 · split
   · simp;omega
   · simp;omega
theorem Text_ret {w0:World} (hE:TabOK w0) (v:Value) (base:Int) (ts:List TermD) (hs:SizeVal w0 v base ts) :
 Ret Pg 23 #[v] w0 fun r w'=>r = .tuple #[.string (if sizeB base ts then sizeT base ts else ⟨#[]⟩),.int .i64 (if sizeB base ts then 0 else 2)]∧Ext w0 w':=by
 obtain ⟨tv,rfl,hT⟩:=hs
 have hT1:=SliceOf.oneCell hT
 obtain ⟨A,c,rfl,hlc,hcm,hlm,hel⟩:=SliceOf.open hT
 refine n36s (R:=retR _) ?_;unfold n36
 simp (disch:=try exact DI) only [↓PR,QR,simprocAttr,↓n36c1,↓n36c2,↓n36c3,↓n36c4]
 refine zcr (Valid_ret _ _ base ts ⟨_,rfl,TermsOf.ext hT ee⟩) fun w1 e1=>?_
 cases hv:sizeB base ts with
 | false =>
  simp (disch:=try exact DI) only [↓PR,QR,simprocAttr,↓n36c1,↓n36c2,↓n36c3,↓n36c4]
  exact ⟨by first | trivial | rfl,ee⟩
 | true =>
  obtain ⟨⟨b0,b1⟩,hl4,hok⟩:=size_ok hv
  have hnm:∀ t∈ts,t.field.size≤32:=by
   unfold sizeB at hv
   simp only [Bool.and_eq_true,decide_eq_true_eq] at hv
   intro t ht
   have:=terms_all ts [] hv.2 t ht
   unfold termB at this
   simp only [Bool.and_eq_true] at this
   exact name_size this.1.1
  have s1:=e1.size
  simp only [World.size_alloc] at s1
  simp only [if_true]
  simp (disch:=try exact DI) only [↓PR,QR,simprocAttr,↓n36c1,↓n36c2,↓n36c3,↓n36c4,e1.cellQ,e1.frozenQ]
  have eW:Ext w0 w1:=ee
  have c0:w1.cell? ⟨w0.heap.size,0,none⟩=some (.int .i64 base):=by simp (disch:=try exact DI) only [↓PR,QR,simprocAttr,e1.cellQ]
  refine loop2_intro (fun a0 a1 w=>∃ (k:Nat) (out:ByteArray),a0 = .string out∧a1 = .int .i64 (k:Int)∧k≤ts.length∧Ext w1 w∧∃ l,out=mkB l∧l.length≤41*k∧(ts.drop k).foldl (fun out t=>addPart out t.factor t.field.data.toList) l=termsL ts) (fun a0 a1 _=>ts.length - (intOf a1).toNat) ⟨0,⟨#[]⟩,rfl,rfl,Nat.zero_le _,ee,⟨[],rfl,by simp,rfl⟩⟩ ?_
  rintro _ _ w ⟨k,out,rfl,rfl,hk,e,hI⟩
  have se:=e.size
  rcases drop_cases hk with ⟨x,hx,hd,hlt,hdec⟩ | ⟨hk,hd,hdec⟩
  · obtain ⟨l,rfl,hll,hI⟩:=hI
    obtain ⟨b,o,cs,rfl,hl,hA,rfl⟩:=hel k x hx
    rw [hd,List.foldl_cons] at hI
    have hkl:k < ts.length:=(List.getElem?_eq_some_iff.1 hx).1
    have hok':=hok x (List.mem_of_getElem? hx)
    have hnx:=hnm x (List.mem_of_getElem? hx)
    have hpl:=part_len (n:=x.factor) (l:=x.field.data.toList) (first:=decide (l=[])) hok'.lo hok'.hi
    have hfl:x.field.data.toList.length=x.field.size:=rfl
    have i1:Szb (mkB l) 1000:=⟨by rw [mkB_size];omega⟩
    have i2:Szb (mkB (partL x.factor x.field.data.toList (decide (l=[])))) 1000:=⟨by rw [mkB_size];omega⟩
    have hf:decide (mkB l=⟨#[]⟩)=decide (l=[]):=decide_eq_decide.2 ⟨fun h=>mkB_inj (b:=[]) h,fun h=>by rw [h];rfl⟩
    simp (disch:=try exact DI) only [↓PR,QR,simprocAttr,↓n36c1,↓n36c2,↓n36c3,↓n36c4,hdec,hA.c2 (eW.trans e)]
    rw [hf]
    refine zcr (part_ret (hE.ext ee) _ _ _ hok'.lo hok'.hi (by omega)) fun w3 e3=>?_
    rw [op_saddB _ _ _ _ rfl,mkB_app]
    simp (disch:=try exact DI) only [↓PR,QR,simprocAttr]
    have hnext:∃ l',mkB (l++partL x.factor x.field.data.toList (decide (l=[])))=mkB l'∧l'.length≤41*(k+1)∧(ts.drop (k+1)).foldl (fun out t=>addPart out t.factor t.field.data.toList) l'=termsL ts:=⟨_,rfl,by rw [List.length_append];omega,hI⟩
    exact ⟨⟨k+1,_,rfl,rfl,by omega,ee,hnext⟩,meas_lt (kd := .i64) hlt⟩
  · subst hk
    obtain ⟨l,rfl,hll,hI⟩:=hI
    rw [List.drop_length] at hI
    simp only [List.foldl_nil] at hI
    subst hI
    have hf:decide (mkB (termsL ts)=⟨#[]⟩)=decide (termsL ts=[]):=decide_eq_decide.2 ⟨fun h=>mkB_inj (b:=[]) h,fun h=>by rw [h];rfl⟩
    have hpl:=part_len (n:=base) (l:=[]) (first:=decide (termsL ts=[])) b0 b1
    have i1:Szb (mkB (termsL ts)) 1000:=⟨by rw [mkB_size];omega⟩
    have i2:Szb (mkB (partL base [] (decide (termsL ts=[])))) 1000:=⟨by rw [mkB_size];simp at hpl ⊢;omega⟩
    unfold sizeT sizeL
    have add:∀ (K:Value→World→Prop) (R:RT),(∀ w',Ext w0 w'→K (.string (mkB (addPart (termsL ts) base []))) w')→n36c1 (.pointer (some ⟨w0.heap.size,0,none⟩)) (.string (mkB (termsL ts))) K R w:=by
     intro K R hK
     unfold n36c1
     simp (disch:=try exact DI) only [↓PR,QR,simprocAttr,e.cell c0]
     rw [hf]
     refine zcr (part_ret (name:=⟨#[]⟩) (hE.ext ee) _ _ b0 b1 (by decide)) fun w3 e3=>?_
     rw [show (⟨#[]⟩:ByteArray).data.toList=[] from rfl,op_saddB _ _ _ _ rfl,mkB_app]
     exact hK _ ee
    have cB:w.cell? ⟨w0.heap.size,0,none⟩=some (.int .i64 base):=e.cell c0
    by_cases hb:base=0
    · have hbn:(base != 0)=false:=by simpa using hb
      by_cases hl0:termsL ts=[]
      · have hfd:decide (mkB (termsL ts)=⟨#[]⟩)=true:=by rw [hf];exact decide_eq_true hl0
        simp (disch:=try exact DI) only [↓PR,QR,simprocAttr,hdec,cB,↓n36c2,hbn,hfd]
        exact add _ _ fun w' e'=>⟨by rw [if_pos (.inr hl0)],e'⟩
      · have hfd:decide (mkB (termsL ts)=⟨#[]⟩)=false:=by rw [hf];exact decide_eq_false hl0
        simp (disch:=try exact DI) only [↓PR,QR,simprocAttr,hdec,cB,↓n36c2,hbn,hfd]
        exact ⟨by rw [if_neg (by simp [hb,hl0])],ee⟩
    · have hbn:(base != 0)=true:=by simpa using hb
      simp (disch:=try exact DI) only [↓PR,QR,simprocAttr,hdec,cB,↓n36c2,hbn]
      exact add _ _ fun w' e'=>⟨by rw [if_pos (.inl hb)],e'⟩
open Go.Shelf Go.RowKit Go.Lib
set_option maxRecDepth 1000000
section
variable {P:Program} {ρ:Ren}
theorem sgn_valid (L:Lays.n152 P ρ) (r:Int) (w:World) (h0:128≤r) (hr:r≠65533) (hv:Lib.validRune r=true) :
 Calls P (ρ.f 152) #[.string ⟨#[43,45]⟩,.int .i32 r] w fun e w'=>e = .returned (.int .i64 (-1))∧∃ n,w'=w.drewN n:=by
 have hvv:Utf8.valid r=true:=by rw [validRune_eq];exact hv
 obtain ⟨z1,z2,z3⟩:=encode_facts r hvv h0
 have mixed:=L.mixed
 have t3:=L.t3;have a3:=L.a3;have z3':=L.z3;have v3:=L.v3
 have t4:=L.t4;have a4:=L.a4;have z4:=L.z4;have v4:=L.v4
 have t5:=L.t5;have a5:=L.a5;have z5:=L.z5;have v5:=L.v5
 have t9:=L.t9;have a9:=L.a9;have z9:=L.z9;have v9:=L.v9
 have t21:=L.t21;have a21:=L.a21;have z21:=L.z21;have v21:=L.v21
 have e137:∀ args w,(callFunc (ρ.f 137) args).run P w = .ok (.enter (ρ.f 137) args) w:=enters_of L.f137 (by kernel_rfl) rfl
 have e119:∀ args w,(callFunc (ρ.f 119) args).run P w = .ok (.enter (ρ.f 119) args) w:=enters_of L.f119 (by kernel_rfl) rfl
 go_enter L.f152,Body.n152_ntmps ρ
 go_wp2_with (first
  | (go_at_fn (ρ.f 119);refine (Any.utf8_ValidRune { L with } _ _).mono ?_;rintro e w' ⟨rfl,hw⟩;rw [hw,hv])
  | (go_at_fn (ρ.f 137);refine (Any.strings_IndexByte { L with } _ _ _).mono ?_;rintro e w' ⟨rfl,hw⟩;rw [hw]))
 subst hw
 have hcv:=fun (w:World)=>run_convert_int_string (P:=P) w (ρ.t 21) (ρ.t 9) .i32 r (by rw [L.t21];rfl) L.t9
 go_step3
 go_wp2
 generalize Utf8.encode r=rs at *
 go_loopg [9,10] 1 (fun _ s9 _ wx=>s9 = .int .i64 ((rs.size:Int) - 1)∧wx=w')
 case atStart=>exact ⟨rfl,rfl⟩
 case round =>
  obtain ⟨rfl,rfl⟩:=hrel
  by_cases h2:rs.size=2
  · obtain ⟨a,c,rfl⟩:∃ a c:UInt8,rs=⟨#[a,c]⟩:=by
     obtain ⟨⟨l⟩⟩:=rs
     match l,h2 with
     | [a,c],_=>exact ⟨a,c,rfl⟩
    have hc:128≤c.toNat:=z3 (show 1 < 2 by decide)
    have hc45:((45:Int) == (c.toNat:Int))=false:=by
     rw [beq_eq_false_iff_ne]
     omega
    have h1:((⟨#[a,c]⟩:ByteArray).size:Int) - 1=1:=rfl
    rw [h1]
    go_wp2
    go_step3
    go_wp2
    have hi1:(1:Nat) < (⟨#[43,45]⟩:ByteArray).size:=by decide
    have hi2:(1:Nat) < (⟨#[a,c]⟩:ByteArray).size:=show 1 < 2 by decide
    go_region_o
    have hne:((((⟨#[43,45]⟩:ByteArray)[1]'hi1).toNat:Int) != (((⟨#[a,c]⟩:ByteArray)[1]'hi2).toNat:Int))=true:=by
     show ((45:Int) != (c.toNat:Int))=true
     rw [bne,hc45];rfl
    rw [hne]
    go_wp2
    have hw2:IntKind.i64.wrap 2=2:=rfl
    have hsz:(⟨#[43,45]⟩:ByteArray).size=2:=rfl
    have hex:(⟨#[43,45]⟩:ByteArray).extract 2 2=⟨#[]⟩:=by decide
    go_quiet_o (first | (go_at_fn (ρ.f 137);refine (Any.strings_IndexByte { L with } _ _ _).mono ?_;rintro e w' ⟨rfl,rfl⟩;exact ⟨rfl,_,rfl⟩))
    have hib:∀ x:UInt8,Lib.indexByte [] x = -1:=fun _=>rfl
    rw [hib]
    go_wp2
    rw [Exit.noGoto_ret]
    simp only [go_sem]
    go_ret
    exact ⟨rfl,_,rfl⟩
  · have h3:¬ ((rs.size:Int) - 1 < 2):=by omega
    go_wp2
    go_ret
    exact ⟨rfl,0,rfl⟩
theorem sgn_invalid (L:Lays.n152 P ρ) (r:Int) (w:World) (h0:128≤r) (hr:r≠65533) (hv:Lib.validRune r=false) :
 Calls P (ρ.f 152) #[.string ⟨#[43,45]⟩,.int .i32 r] w fun e w'=>e = .returned (.int .i64 (-1))∧w'=w:=by
 have mixed:=L.mixed
 have t3:=L.t3;have a3:=L.a3;have z3':=L.z3;have v3:=L.v3
 have t4:=L.t4;have a4:=L.a4;have z4:=L.z4;have v4:=L.v4
 have t5:=L.t5;have a5:=L.a5;have z5:=L.z5;have v5:=L.v5
 have t9:=L.t9;have a9:=L.a9;have z9:=L.z9;have v9:=L.v9
 have t21:=L.t21;have a21:=L.a21;have z21:=L.z21;have v21:=L.v21
 have e137:∀ args w,(callFunc (ρ.f 137) args).run P w = .ok (.enter (ρ.f 137) args) w:=enters_of L.f137 (by kernel_rfl) rfl
 have e119:∀ args w,(callFunc (ρ.f 119) args).run P w = .ok (.enter (ρ.f 119) args) w:=enters_of L.f119 (by kernel_rfl) rfl
 go_enter L.f152,Body.n152_ntmps ρ
 go_wp2_with (first
  | (go_at_fn (ρ.f 119);refine (Any.utf8_ValidRune { L with } _ _).mono ?_;rintro e w' ⟨rfl,hw⟩;rw [hw,hv]))
 go_ret
 exact ⟨rfl,rfl⟩
theorem sgn_err (L:Lays.n152 P ρ) (w:World) :
 Calls P (ρ.f 152) #[.string ⟨#[43,45]⟩,.int .i32 65533] w fun e w'=>e = .returned (.int .i64 (-1))∧∃ pos,w'=w.iter ⟨#[43,45]⟩ pos:=by
 have mixed:=L.mixed
 have t3:=L.t3;have a3:=L.a3;have z3':=L.z3;have v3:=L.v3
 have t4:=L.t4;have a4:=L.a4;have z4:=L.z4;have v4:=L.v4
 have t5:=L.t5;have a5:=L.a5;have z5:=L.z5;have v5:=L.v5
 have t9:=L.t9;have a9:=L.a9;have z9:=L.z9;have v9:=L.v9
 have t21:=L.t21;have a21:=L.a21;have z21:=L.z21;have v21:=L.v21
 have e137:∀ args w,(callFunc (ρ.f 137) args).run P w = .ok (.enter (ρ.f 137) args) w:=enters_of L.f137 (by kernel_rfl) rfl
 have e119:∀ args w,(callFunc (ρ.f 119) args).run P w = .ok (.enter (ρ.f 119) args) w:=enters_of L.f119 (by kernel_rfl) rfl
 go_enter L.f152,Body.n152_ntmps ρ
 go_wp2
 go_loopg [5,6] 2 (fun g _ _ wx=>∃ i:Nat,i+g=2∧wx=w.iter ⟨#[43,45]⟩ i)
 case atStart=>exact ⟨0,rfl,rfl⟩
 case round =>
  obtain ⟨i,hig,rfl⟩:=hrel
  cases gk with
  | zero =>
   obtain rfl:i=2:=by omega
   have hnx:=run_next_end (P:=P) w ⟨#[43,45]⟩ 2
   go_wp2
   go_ret
   exact ⟨rfl,_,rfl⟩
  | succ g =>
   have hi:i=0∨i=1:=by omega
   rcases hi with rfl | rfl
   · have hnx:=fun ty=>run_next_ascii (P:=P) w ⟨#[43,45]⟩ 0 ty (by decide) (by decide)
     have hx:(((⟨#[43,45]⟩:ByteArray)[0]'(by decide)).toNat:Int)=43:=rfl
     go_wp2
     go_roundg g
     case measure=>omega
     case rel=>exact ⟨1,by omega,rfl⟩
   · have hnx:=fun ty=>run_next_ascii (P:=P) w ⟨#[43,45]⟩ 1 ty (by decide) (by decide)
     have hx:(((⟨#[43,45]⟩:ByteArray)[1]'(by decide)).toNat:Int)=45:=rfl
     go_wp2
     go_roundg g
     case measure=>omega
     case rel=>exact ⟨2,by omega,rfl⟩
end
theorem getb {s:ByteArray} {k:Nat} {b:UInt8} (h:s.data.toList[k]?=some b):k < s.size∧s.get! k=b:=by
 obtain ⟨h1,h2⟩:=List.getElem?_eq_some_iff.1 h
 have h3:k < s.size:=h1
 refine ⟨h3,?_⟩
 rw [← h2]
 have:=Go.get_at s k h3
 rw [Nat.add_zero] at this
 rw [this]
 rfl
theorem decode_cont (s:ByteArray) (pos:Nat) (h:pos < s.size) (ha:128≤(s[pos]'h).toNat):∀ j,j < (Utf8.decode s pos).2→∀ b,s.data.toList[pos+j]?=some b→128≤b.toNat:=by
 intro j hj b hb
 by_cases h0:j=0
 · subst h0
   have h1:=(getb hb).2
   have h2:=Go.get_at s pos h
   rw [Nat.add_zero] at h1 h2
   rw [← h1,h2]
   exact ha
 · have hat:(s.get! (pos+j))=b:=(getb hb).2
   have h0':(s.get! (pos+0)).toNat=(s[pos]'h).toNat:=by rw [Go.get_at s pos h]
   have key:∀ k,j=k→(s.get! (pos+k)).toNat / 64=2→128≤b.toNat:=by
    rintro k rfl hk
    rw [hat] at hk
    omega
   simp only [Utf8.decode] at hj
   have hlt:¬ (s.get! (pos+0)).toNat < 128:=by omega
   rw [if_neg hlt] at hj
   by_cases c2:((s.get! (pos+0)).toNat / 32 == 6&&(decide (pos+1 < s.size)&&(s.get! (pos+1)).toNat / 64 == 2))=true
   · rw [if_pos c2] at hj
     simp only [Bool.and_eq_true,beq_iff_eq] at c2
     have:j < 2:=by
      split at hj
      · exact hj
      · simp only at hj;omega
     exact key 1 (by omega) c2.2.2
   · rw [if_neg c2] at hj
     by_cases c3:((s.get! (pos+0)).toNat / 16 == 14&&(decide (pos+1 < s.size)&&(s.get! (pos+1)).toNat / 64 == 2)&&(decide (pos+2 < s.size)&&(s.get! (pos+2)).toNat / 64 == 2))=true
     · rw [if_pos c3] at hj
       simp only [Bool.and_eq_true,beq_iff_eq] at c3
       have:j < 3:=by
        split at hj
        · exact hj
        · simp only at hj;omega
       have h12:j=1∨j=2:=by omega
       rcases h12 with h12 | h12
       · exact key 1 h12 c3.1.2.2
       · exact key 2 h12 c3.2.2
     · rw [if_neg c3] at hj
       by_cases c4:((s.get! (pos+0)).toNat / 8 == 30&&(decide (pos+1 < s.size)&&(s.get! (pos+1)).toNat / 64 == 2)&&(decide (pos+2 < s.size)&&(s.get! (pos+2)).toNat / 64 == 2)&&(decide (pos+3 < s.size)&&(s.get! (pos+3)).toNat / 64 == 2))=true
       · rw [if_pos c4] at hj
         simp only [Bool.and_eq_true,beq_iff_eq] at c4
         have:j < 4:=by
          split at hj
          · exact hj
          · simp only at hj;omega
         have h123:j=1∨j=2∨j=3:=by omega
         rcases h123 with h1 | h1 | h1
         · exact key 1 h1 c4.1.1.2.2
         · exact key 2 h1 c4.1.2.2
         · exact key 3 h1 c4.2.2
       · rw [if_neg c4] at hj
         simp only at hj
         omega
section
variable {P:Program} {ρ:Ren}
theorem below_drewN {B:Nat} {a w:World} (h:Below B a w) (n:Nat):Below B a (w.drewN n):=⟨h.os,h.tape,h.output,h.size,h.block⟩
theorem sgn_high (L:Lays.n152 P ρ) (r:Int) (w:World) (h0:128≤r):Calls P (ρ.f 152) #[.string ⟨#[43,45]⟩,.int .i32 r] w fun e w'=>e = .returned (.int .i64 (-1))∧Below w.heap.size w w':=by
 by_cases hr:r=65533
 · subst hr
   refine (sgn_err L w).mono fun e w' ⟨h1,pos,h2⟩=>⟨h1,?_⟩
   rw [h2]
   exact (Below.refl _ _).alloc (Nat.le_refl _) _
 · cases hv:Lib.validRune r with
   | true=>exact (sgn_valid L r w h0 hr hv).mono fun e w' ⟨h1,n,h2⟩=>⟨h1,by rw [h2];exact below_drewN (Below.refl _ _) n⟩
   | false=>exact (sgn_invalid L r w h0 hr hv).mono fun e w' ⟨h1,h2⟩=>⟨h1,h2 ▸ Below.refl _ _⟩
def turnW (W:World) (b:Nat) (o:Obj):World:={ W with heap:=W.heap.setIfInBounds b o }
theorem turnW_at {W:World} {b:Nat} (h:b < W.heap.size) (o:Obj):(turnW W b o).heap[b]?=some o:=by
 show (W.heap.setIfInBounds b o)[b]?=_
 rw [Array.getElem?_setIfInBounds_self_of_lt h]
theorem turnW_size (W:World) (b:Nat) (o:Obj):(turnW W b o).heap.size=W.heap.size:=by
 show (W.heap.setIfInBounds b o).size=_
 simp
theorem turnW_below {B:Nat} {a W:World} {b:Nat} (h:Below B a W) (hb:B≤b) (o:Obj):Below B a (turnW W b o):=by
 refine ⟨h.os,h.tape,h.output,?_,fun k hk=>?_⟩
 · rw [turnW_size];exact h.size
 · refine Eq.trans ?_ (h.block k hk)
   show (W.heap.setIfInBounds b o)[k]?=_
   rw [Array.getElem?_setIfInBounds_ne (by omega)]
theorem next_more {W:World} {b:Nat} {s:ByteArray} {pos:Nat} (hb:W.heap[b]?=some (.stringIter s pos)) (h:pos < s.size) (ty:TypeId):(Instr.next (.pointer (some ⟨b,0,none⟩)) true ty).run P W =
 .ok (.tuple #[.bool true,.int .i64 pos,.int .i32 (Utf8.decode s pos).1]) (turnW W b (.stringIter s (pos+(Utf8.decode s pos).2))):=by
 simp only [Instr.next,getObj,setObj,Sem.run_bind,Sem.run,hb,Result.andThen,h,if_true]
 simp [goInt,turnW]
theorem next_end {W:World} {b:Nat} {s:ByteArray} {pos:Nat} (hb:W.heap[b]?=some (.stringIter s pos)) (h:¬ pos < s.size) (ty:TypeId):(Instr.next (.pointer (some ⟨b,0,none⟩)) true ty).run P W = .ok (.tuple #[.bool false]) W:=by
 simp [Instr.next,getObj,Sem.run,hb,h]
theorem sgn_short (L:Lays.n153 P ρ) (s:ByteArray) (w:World) (h8:s.size≤8) :
 Calls P (ρ.f 153) #[.string s,.string ⟨#[43,45]⟩] w fun e w'=>e = .returned (.int .i64 (Lib.indexAny s.data.toList [43,45]))∧Below w.heap.size w w':=by
 have h8z:decide ((8:Int) < (s.size:Int))=false:=decide_eq_false (by omega)
 have mixed:=L.mixed
 have t3:=L.t3;have a3:=L.a3;have z3:=L.z3;have v3:=L.v3
 have t4:=L.t4;have a4:=L.a4;have z4:=L.z4;have v4:=L.v4
 have t5:=L.t5;have a5:=L.a5;have z5:=L.z5;have v5:=L.v5
 have t9:=L.t9;have a9:=L.a9;have z9:=L.z9;have v9:=L.v9
 have t21:=L.t21;have a21:=L.a21;have z21:=L.z21;have v21:=L.v21
 have e152:∀ args w,(callFunc (ρ.f 152) args).run P w = .ok (.enter (ρ.f 152) args) w:=enters_of L.f152 (by kernel_rfl) rfl
 have e226:∀ args w,(callFunc (ρ.f 226) args).run P w = .ok (.enter (ρ.f 226) args) w:=enters_of L.f226 (by kernel_rfl) rfl
 go_enter L.f153,Body.n153_ntmps ρ
 go_wp2_with (go_at_fn (ρ.f 226);refine (Any.strings_shouldUseASCIISet { L with } _ _).mono ?_;rintro e w' ⟨rfl,hw⟩;rw [hw,h8z])
 go_loopg [9,10] s.size (fun g _ _ wx=>∃ i:Nat,s.size≤i+g∧wx.heap[w.heap.size]?=some (.stringIter s i)∧Below w.heap.size w wx∧Lib.NoAny s.data.toList [43,45] i)
 case atStart=>exact ⟨0,by omega,World.iter_heap w s 0,(Below.refl _ _).alloc (Nat.le_refl _) _,Lib.NoAny.zero _ _⟩
 case round =>
  obtain ⟨i,hig,hit,hbl,hno⟩:=hrel
  have HN:Aside (Lib.NoAny s.data.toList [43,45] i∧Below w.heap.size w wr∧wr.heap[w.heap.size]?=some (.stringIter s i)):=⟨hno,hbl,hit⟩
  by_cases hi:i < s.size
  · obtain ⟨x,hx⟩:∃ x:UInt8,s[i]'hi=x:=⟨_,rfl⟩
    have hxl:s.data.toList[i]?=some x:=by rw [← hx];exact Lib.data_getElem? s i hi
    have hnx:=fun ty=>next_more (P:=P) hit hi ty
    have hlb:=(Array.getElem?_eq_some_iff.1 hit).1
    have hW1:=turnW_at hlb (.stringIter s (i+(Utf8.decode s i).2))
    have hW2:=turnW_below hbl (Nat.le_refl _) (.stringIter s (i+(Utf8.decode s i).2))
    clear hit hbl hno
    by_cases ha:x.toNat < 128
    · have hde:=Go.decode_ascii s i hi (by rw [hx];exact ha)
      rw [hde] at hnx hW1 hW2
      rw [hx] at hnx
      have Hx:Aside (s.data.toList[i]?=some x):=hxl
      clear hxl hx hde
      generalize turnW wr w.heap.size (.stringIter s (i+1))=w2 at *
      have HW:Aside (w2.heap[w.heap.size]?=some (.stringIter s (i+1))∧Below w.heap.size w w2):=⟨hW1,hW2⟩
      clear hW1 hW2
      have hcon:=Lib.contains_iff_indexByte [43,45] x
      have hback:((x.toNat:Int)).toNat.toUInt8=x:=by simp
      cases hin:([43,45]:List UInt8).contains x
      · rw [hin] at hcon
        have hlt:¬ ((0:Int)≤Lib.indexByte [43,45] x):=of_decide_eq_false hcon.symm
        clear hcon
        go_wp2_with (go_at_fn (ρ.f 152);refine (Any.strings_IndexRune_ascii { L with } _ _ _ (by omega) (by omega)).mono ?_;rintro e w' ⟨rfl,hw⟩;rw [hw,hback])
        go_roundg (s.size - i - 1)
        case measure=>omega
        case rel=>exact ⟨i+1,by omega,HW.out.1,HW.out.2,HN.out.1.succ Hx.out hin⟩
      · rw [hin] at hcon
        have hge:(0:Int)≤Lib.indexByte [43,45] x:=of_decide_eq_true hcon.symm
        clear hcon
        go_wp2_with (go_at_fn (ρ.f 152);refine (Any.strings_IndexRune_ascii { L with } _ _ _ (by omega) (by omega)).mono ?_;rintro e w' ⟨rfl,hw⟩;rw [hw,hback])
        go_ret
        exact ⟨by rw [Lib.indexAny_hit HN.out.1 Hx.out hin];rfl,HW.out.2⟩
    · have hdh:=Go.decode_high s i hi (by rw [hx];omega)
      have hdc:=decode_cont s i hi (by rw [hx];omega)
      generalize Utf8.decode s i=de at *
      have HD:Aside ((128≤de.1∧1≤de.2)∧∀ j,j < de.2→∀ b,s.data.toList[i+j]?=some b→128≤b.toNat):=⟨hdh,hdc⟩
      clear hdc hxl hx
      generalize turnW wr w.heap.size (.stringIter s (i+de.2))=w2 at *
      have HW:Aside (w2.heap[w.heap.size]?=some (.stringIter s (i+de.2))∧Below w.heap.size w w2):=⟨hW1,hW2⟩
      clear hW1 hW2
      go_wp2_with (go_at_fn (ρ.f 152);refine (sgn_high { L with } _ _ (by omega)).mono ?_;rintro e w' ⟨rfl,hw⟩;have HE:Aside (Below w2.heap.size w2 w'):=hw;clear hw)
      go_roundg (s.size - i - 1)
      case measure=>omega
      case rel =>
       obtain ⟨hno,_,_⟩:=HN.out
       obtain ⟨h1,h2⟩:=HW.out
       have h3:Below w2.heap.size w2 w':=HE
       obtain ⟨⟨h4,h5⟩,h6⟩:=HD.out
       have h7:=(Array.getElem?_eq_some_iff.1 h1).1
       refine ⟨i+de.2,by omega,(h3.block _ h7).trans h1,h2.trans (h3.mono h2.size),fun j b hj hb=>?_⟩
       by_cases hji:j < i
       · exact hno j b hji hb
       · have:=h6 (j - i) (by omega) b (by rw [show i+(j - i)=j by omega];exact hb)
         cases hcc:([43,45]:List UInt8).contains b with
         | false=>rfl
         | true =>
          simp [List.contains_cons] at hcc
          rcases hcc with rfl | rfl
          · exact absurd this (by decide)
          · exact absurd this (by decide)
  · have hnx:=fun ty=>next_end (P:=P) hit hi ty
    clear hit hbl hno
    go_wp2
    go_ret
    obtain ⟨hno,hbl,hit⟩:=HN.out
    refine ⟨?_,hbl⟩
    rw [Lib.indexAny_none (fun j b hj hb=>hno j b (by have:=(List.getElem?_eq_some_iff.1 hb).1;rw [← Lib.size_eq] at this;omega) hb)]
    rfl
end
theorem drewN_ext (w:World) (n:Nat):Ext w (w.drewN n):=⟨rfl,rfl,rfl,Nat.le_refl _,fun _ _=>rfl⟩
def runeP (r:Nat):Bool:=decide (r≠43)&&decide (r≠45)
theorem parse1_ret (W:World) (r:Nat):FnGives Pg 64 #[] #[encR r] (.bool (runeP r)) W:=by
 unfold FnGives
 refine Calls.mono (show Ret Pg 64 #[encR r] W fun v w'=>v = .bool (runeP r)∧w'=W from ?_) ?_
 · unfold encR runeP
   refine n32s (R:=retR _) ?_;unfold n32
   simp (disch:=try exact DI) only [↓PR,QR,simprocAttr,Sw.joinK_eq]
   have e1:((r:Int) != 43)=decide (r≠43):=by
    rw [Bool.eq_iff_iff]
    simp only [bne_iff_ne,decide_eq_true_eq]
    omega
   have e2:((r:Int) != 45)=decide (r≠45):=by
    rw [Bool.eq_iff_iff]
    simp only [bne_iff_ne,decide_eq_true_eq]
    omega
   rw [e1,e2]
   exact ⟨rfl,trivial⟩
 · rintro e w' ⟨v,rfl,rfl,rfl⟩
   exact ⟨rfl,0,rfl⟩
theorem sign_iff {c:UInt8}:signB c=true↔c.toNat=43∨c.toNat=45:=by
 unfold signB
 simp only [Bool.or_eq_true,decide_eq_true_eq]
 rw [← UInt8.toNat_inj,← UInt8.toNat_inj]
 rfl
theorem idxFrom (s:ByteArray):∀ (f pos:Nat),s.size - pos≤f→Go.Lib.idxFuncFrom runeP true s f pos=if (s.data.toList.drop pos).all signB=true then -1 else ((pos+((s.data.toList.drop pos).takeWhile signB).length:Nat):Int)
 | f,pos,hf=>by
  have hlen:s.data.toList.length=s.size:=rfl
  by_cases hp:pos < s.size
  · cases f with
    | zero=>omega
    | succ f =>
     have hd:s.data.toList.drop pos=s[pos]::s.data.toList.drop (pos+1):=by
      rw [List.drop_eq_getElem_cons (by omega)]
      rfl
     show (if pos < s.size then (if runeP (Utf8.decode s pos).1=true then (pos:Int) else Go.Lib.idxFuncFrom runeP true s f (pos+(Utf8.decode s pos).2)) else -1)=_
     rw [if_pos hp,hd]
     cases hs:signB s[pos] with
     | true =>
      have h43:=sign_iff.1 hs
      rw [decode_ascii s pos hp (by omega)]
      have hr:¬ runeP s[pos].toNat=true:=by
       unfold runeP
       rcases h43 with h | h<;>rw [h]<;>decide
      rw [if_neg hr,idxFrom s f (pos+1) (by omega),List.all_cons,hs,Bool.true_and,List.takeWhile_cons,hs]
      simp only [if_true,List.length_cons]
      split
      · rfl
      · congr 1
        omega
     | false =>
      have hn:¬ (s[pos].toNat=43∨s[pos].toNat=45):=fun h=>by rw [sign_iff.2 h] at hs;cases hs
      have hr:runeP (Utf8.decode s pos).1=true:=by
       unfold runeP
       by_cases ha:s[pos].toNat < 128
       · rw [decode_ascii s pos hp ha]
         simp only [Bool.and_eq_true,decide_eq_true_eq]
         omega
       · have:=(decode_high s pos hp (by omega)).1
         simp only [Bool.and_eq_true,decide_eq_true_eq]
         omega
      rw [if_pos hr,List.all_cons,hs,List.takeWhile_cons,hs]
      simp
  · have hd:s.data.toList.drop pos=[]:=List.drop_eq_nil_of_le (by omega)
    rw [Go.Lib.idxFuncFrom_end _ _ _ _ _ hp,hd]
    rfl
theorem Signs_ret (w:World) (s:ByteArray):Ret Pg 63 #[.string s,.func (.func 64) #[] #[]] w fun r w'=>r = .int .i64 (if s.data.toList.all signB=true then -1 else ((s.data.toList.takeWhile signB).length:Int))∧Ext w w':=by
 refine Calls.mono (sh_strings_IndexFunc _ #[] (fun a w=>callFunc_run c64 a w) runeP s w (fun W x _=>parse1_ret W x)) ?_
 rintro e w' ⟨rfl,hb⟩
 refine ⟨_,rfl,?_,Ext.of_below hb⟩
 unfold Go.Lib.idxFunc
 rw [idxFrom s s.size 0 (by omega),List.drop_zero,Nat.zero_add]
theorem indexAny_sign:∀ (l:List UInt8),Go.Lib.indexAny (l++[43]) [43,45]=((l.takeWhile fun c=>!signB c).length:Int)
 | []=>rfl
 | b::l=>by
  have hc:([43,45]:List UInt8).contains b=signB b:=by
   unfold signB
   simp [List.contains_cons]
  rw [List.cons_append]
  show (if ([43,45]:List UInt8).contains b then (0:Int) else if Go.Lib.indexAny (l++[43]) [43,45] == -1 then -1 else Go.Lib.indexAny (l++[43]) [43,45]+1)=_
  rw [hc,List.takeWhile_cons,indexAny_sign l]
  cases signB b with
  | true=>rfl
  | false =>
   have:(((l.takeWhile fun c=>!signB c).length:Int) == -1)=false:=by
    rw [beq_eq_false_iff_ne]
    omega
   rw [this]
   simp
theorem Next_ret (w:World) (l:List UInt8) (hl:l.length≤100000):Ret Pg 65 #[.string (mkB (l++[43])),.string ⟨#[43,45]⟩] w fun r w'=>r = .int .i64 ((l.takeWhile fun c=>!signB c).length:Int)∧Ext w w':=by
 have hsz:(mkB (l++[43])).size=l.length+1:=by rw [mkB_size];simp
 by_cases h8:(mkB (l++[43])).size≤8
 · refine Calls.mono (sgn_short sh_lays153 (mkB (l++[43])) w h8) ?_
   rintro e w' ⟨rfl,hb⟩
   exact ⟨_,rfl,congrArg _ (indexAny_sign l),Ext.of_below hb⟩
 · refine Calls.mono (sh_strings_IndexAny_long (zero_of_info (n:=256) (by kernel_rfl)).1 (mkB (l++[43])) ⟨#[43,45]⟩ w (by decide) (by omega) (by omega) (by decide) (fun j b hb=>?_)) ?_
   · have:=List.mem_of_getElem? hb
     simp at this
     rcases this with rfl | rfl<;>decide
   · rintro e w' ⟨rfl,rfl⟩
     exact ⟨_,rfl,congrArg _ (indexAny_sign l),((Ext.refl w).alloc _).alloc _⟩
theorem index_star:∀ (l:List UInt8),Go.Lib.index l [42]=if l.all starF=true then -1 else ((l.takeWhile starF).length:Int)
 | []=>rfl
 | b::l=>by
  have hp:([42]:List UInt8).isPrefixOf (b::l)=!starF b:=by
   unfold starF
   simp [List.isPrefixOf]
   rw [Bool.eq_iff_iff]
   simp only [beq_iff_eq,decide_eq_true_eq]
   exact eq_comm
  show (if ([42]:List UInt8).isPrefixOf (b::l) then (0:Int) else if Go.Lib.index l [42] == -1 then -1 else Go.Lib.index l [42]+1)=_
  rw [hp,index_star l,List.all_cons,List.takeWhile_cons]
  cases starF b with
  | false=>rfl
  | true =>
   simp only [Bool.not_true,Bool.false_eq_true,if_false,Bool.true_and,if_true,List.length_cons]
   by_cases h:l.all starF=true
   · rw [if_pos h,if_pos h];rfl
   · rw [if_neg h,if_neg h]
     have:(((l.takeWhile starF).length:Int) == -1)=false:=by
      rw [beq_eq_false_iff_ne]
      omega
     rw [this]
     simp
theorem cut_star (l:List UInt8):Go.Lib.cut l [42]=if l.all starF=true then (l,[],false) else (l.takeWhile starF,(l.dropWhile starF).tail,true):=by
 unfold Go.Lib.cut
 rw [index_star l]
 by_cases h:l.all starF=true
 · rw [if_pos h,if_pos h,if_neg (by omega)]
 · rw [if_neg h,if_neg h,if_pos (by omega),Int.toNat_natCast]
   have h1:l.take (l.takeWhile starF).length=l.takeWhile starF:=by
    conv=>lhs;arg 2;rw [← List.takeWhile_append_dropWhile (p:=starF) (l:=l)]
    rw [List.take_left]
   have h2:l.drop ((l.takeWhile starF).length+[42].length)=(l.dropWhile starF).tail:=by
    rw [← List.drop_drop]
    conv=>lhs;arg 2;arg 2;rw [← List.takeWhile_append_dropWhile (p:=starF) (l:=l)]
    rw [List.drop_left]
    cases l.dropWhile starF<;>rfl
   rw [h1]
   exact congrArg (fun x=>(l.takeWhile starF,x,true)) h2
theorem CutStar_ret {w:World} (hE:EnvOK w) (l:List UInt8) (hl:l.length≤100000):Ret Pg 66 #[.string (mkB l),.string ⟨#[42]⟩] w fun r w'=>r=(if l.all starF=true then .tuple #[.string (mkB l),.string (mkB []),.bool false] else .tuple #[.string (mkB (l.takeWhile starF)),.string (mkB (l.dropWhile starF).tail),.bool true])∧Ext w w':=by
 obtain ⟨m,hm⟩:=hE.len
 refine Calls.mono (sh_strings_Cut (mkB l) ⟨#[42]⟩ m w (by rw [mkB_size];omega) hm) ?_
 rintro e w' ⟨rfl,n,rfl⟩
 refine ⟨_,rfl,?_,drewN_ext w n⟩
 rw [show (mkB l).data.toList=l by simp [mkB],show (⟨#[42]⟩:ByteArray).data.toList=[42] from rfl,cut_star]
 split<;>rfl
end Go.Proofs.YtpgkjhikdhdffaaGreatDoor
namespace Go.Sw
open Go.RowKit (intOf Below)
section
variable {P:Program} {QP:List PanicEntry→World→Prop} {k:Value→World→Prop} {w:World}
theorem op_subM {t:TypeId} (hu:P.underlying t=some .string) (l:List UInt8) (a b:Nat) (h1:a≤b) (h2:b≤l.length):opV P (Instr.sliceAt t (.string ⟨l.toArray⟩) (some (.int .i64 (a:Int))) (some (.int .i64 (b:Int))) none) QP w k=k (.string ⟨((l.drop a).take (b - a)).toArray⟩) w:=by
 have g1:(a:Int)≤(b:Int):=by omega
 have g2:(b:Int)≤((⟨l.toArray⟩:ByteArray).size:Int):=by simp [ByteArray.size];omega
 have g3:(⟨l.toArray⟩:ByteArray).extract a b=⟨((l.drop a).take (b - a)).toArray⟩:=by
  apply ByteArray.ext
  simp [List.take_drop]
 refine opV_ok ?_
 simp [Instr.sliceAt,run_underlying hu,Instr.slice,Instr.sliceBounds,run_sliceBound,g1,g2,g3]
theorem op_subF {t:TypeId} (hu:P.underlying t=some .string) (l:List UInt8) (a:Nat) (h1:a≤l.length):opV P (Instr.sliceAt t (.string ⟨l.toArray⟩) (some (.int .i64 (a:Int))) none none) QP w k=k (.string ⟨(l.drop a).toArray⟩) w:=by
 have g2:(a:Int)≤((⟨l.toArray⟩:ByteArray).size:Int):=by simp [ByteArray.size];omega
 have g3:(⟨l.toArray⟩:ByteArray).extract a (⟨l.toArray⟩:ByteArray).size=⟨(l.drop a).toArray⟩:=by
  apply ByteArray.ext
  simp [ByteArray.size,List.take_drop]
  rw [List.take_of_length_le (by omega)]
 refine opV_ok ?_
 simp [Instr.sliceAt,run_underlying hu,Instr.slice,Instr.sliceBounds,run_sliceBound,g2,g3]
theorem op_subH {t:TypeId} (hu:P.underlying t=some .string) (l:List UInt8) (b:Nat) (h2:b≤l.length):opV P (Instr.sliceAt t (.string ⟨l.toArray⟩) none (some (.int .i64 (b:Int))) none) QP w k=k (.string ⟨(l.take b).toArray⟩) w:=by
 have g2:(b:Int)≤((⟨l.toArray⟩:ByteArray).size:Int):=by simp [ByteArray.size];omega
 have g3:(⟨l.toArray⟩:ByteArray).extract 0 b=⟨(l.take b).toArray⟩:=by
  apply ByteArray.ext
  simp [List.take_drop]
 refine opV_ok ?_
 simp [Instr.sliceAt,run_underlying hu,Instr.slice,Instr.sliceBounds,run_sliceBound,g2,g3]
end
end Go.Sw
namespace Go.Proofs.YtpgkjhikdhdffaaGreatDoor
open Sw
open Go.RowKit (intOf Below)
theorem OwnE.keep {α:Type} {w w':World} {base n:Nat} {T:TypeId} {enc:α→List Value} {v:Value} {l:List α} (h:OwnE w base T n enc v l) (hk:∀ b,v.ownBlock=some b→w'.heap[b]?=w.heap[b]?):OwnE w' base T n enc v l:=by
 obtain ⟨h1,h2⟩:=h
 refine ⟨h1,?_⟩
 rcases h2 with h2 | ⟨g,cap,cur,hv,a1,a2,a3⟩
 · exact .inl h2
 · exact .inr ⟨g,cap,cur,hv,a1,by rw [hk g (by rw [hv];rfl)];exact a2,a3⟩
abbrev TSz:TypeId:=24
abbrev TTm:TypeId:=32
structure PZ (w0 w:World) (p2 p4:Nat) (b:Int) (ts:List TermD) (tv:Value):Prop where
 e:Ext w0 w
 h2:w.heap[p2]?=some (.cells #[.int .i64 0,.slice none 0 0] TSz (0,0))
 h4:w.heap[p4]?=some (.cells #[.int .i64 b,tv] TSz (0,0))
 ot:OwnE w (p4+1) TTm 2 termCells tv ts
 l2:w0.heap.size≤p2
 lt:p2 < p4
theorem PZ.ext {w0 w w':World} {p2 p4:Nat} {b:Int} {ts:List TermD} {tv:Value} (h:PZ w0 w p2 p4 b ts tv) (e:Ext w w'):PZ w0 w' p2 p4 b ts tv :=
 { h with e:=h.e.trans e,h2:=e.obj h.h2,h4:=e.obj h.h4,ot:=h.ot.ext e }
theorem PZ.base {w0 w:World} {p2 p4:Nat} {b:Int} {ts:List TermD} {tv:Value} (h:PZ w0 w p2 p4 b ts tv) (n:Int):PZ w0 (w.setCell ⟨p4,0,none⟩ (.int .i64 n)) p2 p4 n ts tv:=by
 have h2:=h.l2
 have h3:=h.lt
 refine ⟨h.e.setCell (p:=⟨p4,0,none⟩) (by simp;omega) _,?_,?_,OwnE.keep h.ot fun b hb=>?_,h2,h3⟩
 · rw [Only.setCell _ p4 _ _ p2 (by omega)]
   exact h.h2
 · exact heap_set (o:=0) h.h4 (.int .i64 n)
 · have:=(World.ownsRow.lt h.ot b hb).1
   rw [Only.setCell _ p4 _ _ b (by omega)]
theorem PZ.push {w0 w w':World} {p2 p4:Nat} {b:Int} {ts ts':List TermD} {tv tv':Value} (h:PZ w0 w p2 p4 b ts tv) (hg:w.grownBy w' tv.ownBlock) (ho:OwnE w' (p4+1) TTm 2 termCells tv' ts'):PZ w0 (w'.setCell ⟨p4,1,none⟩ tv') p2 p4 b ts' tv':=by
 have h2:=h.l2
 have h3:=h.lt
 have z2:=(Array.getElem?_eq_some_iff.1 h.h2).1
 have z4:=(Array.getElem?_eq_some_iff.1 h.h4).1
 have hr:∀ k,tv.ownBlock=some k→p4+1≤k:=fun k hk=>(World.ownsRow.lt h.ot k hk).1
 refine ⟨(h.e.grown hg fun k hk=>by have:=hr k hk;omega).setCell (p:=⟨p4,1,none⟩) (by simp;omega) _,?_,?_,OwnE.keep ho fun b hb=>?_,h2,h3⟩
 · rw [Only.setCell _ p4 _ _ p2 (by omega)]
   exact (hg.block p2 z2 fun e=>by have:=hr p2 e.symm;omega).trans h.h2
 · exact heap_set (o:=1) ((hg.block p4 z4 fun e=>by have:=hr p4 e.symm;omega).trans h.h4) tv'
 · have:=(World.ownsRow.lt ho b hb).1
   rw [Only.setCell _ p4 _ _ b (by omega)]
theorem append1_term {w:World} {QP:List PanicEntry→World→Prop} {k:Value→World→Prop} {base:Nat} {v:Value} {l:List TermD} (x:TermD) {b:Nat} (hown:OwnE w base TTm 2 termCells v l) (hc:w.heap[b]?=some (.cells (termCells x).toArray TTm (0,0))) (hbase:base≤w.heap.size) (hl:l.length≤1048576)
 (hk:∀ v' w',OwnE w' base TTm 2 termCells v' (l++[x])→w.grownBy w' v.ownBlock→k v' w') :
 opV Pg (Builtin.append_ #[22,22] 22 #[v,.slice (some ⟨b,0,none⟩) 1 1]) QP w k:=by
 have hby:=by32
 refine op_appendE (l':=[x]) Tryz.underlying22 ty32 rfl (by decide) (fun _=>rfl) (fun x _=>ETerm.one (w:=w) (t:=x) rfl) hown (fun j y hy=>?_) hbase ?_ (by simp;omega) hk
 · cases j with
   | zero =>
    simp at hy;subst hy
    intro j v hv
    rw [(cells_of_heap hc).1]
    simpa using hv
   | succ j=>simp at hy
 · simp only [List.length_cons,List.length_nil]
   exact Nat.le_trans (Nat.mul_le_mul (Nat.add_le_add_right hl 1) hby) (by decide)
theorem own_terms {w:World} {B:Nat} {tv:Value} {ts:List TermD} (h:OwnE w B TTm 2 termCells tv ts):TermsOf w tv ts:=h.slice (fun _=>rfl) (fun _ _=>rfl)
abbrev PRt (w0:World) (text:ByteArray):Ending→World→Prop:=retR fun u w'=>(∃ x,u = .tuple #[x,.int .i64 (parseZ text).2.2]∧SizeVal w' x (parseZ text).1 (parseZ text).2.1)∧Ext w0 w'
theorem parse_wrong {w0 w:World} {p2 p4:Nat} {b:Int} {ts:List TermD} {tv:Value} {text:ByteArray} (h:PZ w0 w p2 p4 b ts tv) (hp:parseZ text=(0,[],6)):n31c7 (.pointer (some ⟨p2,0,none⟩)) (PRt w0 text) w:=by
 have hh:=(cells_of_heap h.h2)
 have l2:=h.l2
 unfold n31c7
 simp (disch:=try exact DI) only [↓PR,QR,simprocAttr,hh.1,hh.2]
 rw [hp]
 exact ⟨⟨_,rfl,_,rfl,SliceOf.nil _ _ _⟩,(h.e.setCell (p:=⟨p2,0,none⟩) l2 _).setCell (p:=⟨p2,1,none⟩) l2 _⟩
theorem parse_wrong1 {w0 w:World} {p2 p4:Nat} {b:Int} {ts:List TermD} {tv:Value} {text:ByteArray} (h:PZ w0 w p2 p4 b ts tv) (hp:parseZ text=(0,[],6)):n31c1 (.pointer (some ⟨p2,0,none⟩)) (PRt w0 text) w:=by
 have hh:=(cells_of_heap h.h2)
 have l2:=h.l2
 unfold n31c1
 simp (disch:=try exact DI) only [↓PR,QR,simprocAttr,hh.1,hh.2]
 rw [hp]
 exact ⟨⟨_,rfl,_,rfl,SliceOf.nil _ _ _⟩,(h.e.setCell (p:=⟨p2,0,none⟩) l2 _).setCell (p:=⟨p2,1,none⟩) l2 _⟩
theorem parse_end {w0 w:World} {p2 p4:Nat} {b:Int} {ts:List TermD} {tv:Value} {text:ByteArray} (hT:TabOK w0) (h:PZ w0 w p2 p4 b ts tv) (hp:pGo text.size text.data.toList 0 []=some (b,ts)) :
 opV Pg (Instr.loadAt TSz (.pointer (some ⟨p4,0,none⟩))) (panK (PRt w0 text)) w fun t96 w=>callK Pg 23 #[t96] (panK (PRt w0 text)) w fun t97 w=>n31c3 (.string text) (.pointer (some ⟨p2,0,none⟩)) (.pointer (some ⟨p4,0,none⟩)) t97 (PRt w0 text) w:=by
 have hh:=(cells_of_heap h.h4)
 simp (disch:=try exact DI) only [↓PR,QR,simprocAttr,hh.1,hh.2]
 refine zcr (Text_ret (hT.ext h.e) _ b ts ⟨tv,rfl,own_terms h.ot⟩) fun w1 e1=>?_
 have h1:=h.ext e1
 have hz:parseZ text=if sizeB b ts=true∧sizeT b ts=text then (b,ts,0) else (0,[],6):=by
  unfold parseZ
  rw [hp]
 have g2:=(cells_of_heap h1.h2)
 have g4:=(cells_of_heap h1.h4)
 have ht1:=SliceOf.oneCell (own_terms h1.ot)
 have l2:=h.l2
 cases hs:sizeB b ts with
 | false =>
  rw [hs,if_neg (by simp)] at hz
  simp (disch:=try exact DI) only [↓PR,QR,simprocAttr,↓n31c3]
  exact parse_wrong1 h1 hz
 | true =>
  rw [hs] at hz
  by_cases he:sizeT b ts=text
  · rw [if_pos ⟨rfl,he⟩] at hz
    have hd:decide (sizeT b ts=text)=true:=decide_eq_true he
    simp (disch:=try exact DI) only [↓PR,QR,simprocAttr,↓n31c3,↓n31c2,hd,g2.1,g2.2,g4.1,g4.2]
    rw [hz]
    refine ⟨⟨_,rfl,tv,rfl,own_terms (OwnE.keep h1.ot fun b hb=>?_)⟩,(h1.e.setCell (p:=⟨p2,0,none⟩) l2 _).setCell (p:=⟨p2,1,none⟩) l2 _⟩
    have:=(World.ownsRow.lt h1.ot b hb).1
    have:=h.lt
    rw [Only.setCell _ p2 _ _ b (by omega),Only.setCell _ p2 _ _ b (by omega)]
  · rw [if_neg (by simp [he])] at hz
    have hd:decide (sizeT b ts=text)=false:=decide_eq_false he
    simp (disch:=try exact DI) only [↓PR,QR,simprocAttr,↓n31c3,hd]
    exact parse_wrong1 h1 hz
theorem one_part (S p F Nm:List UInt8) (h:(p.all starF=true→digitB (p.headD 0)=false→F=[49]∧Nm=p)∧(¬ (p.all starF=true∧digitB (p.headD 0)=false)→F=p.takeWhile starF∧Nm=(p.dropWhile starF).tail)) :
 onePart S p=match Go.Lib.atoiAll F with
  | .ok n=>if digitB (F.headD 0) then some (if S=[45] then IntKind.i64.wrap (-n) else n,Nm) else none
  | _=>none:=by
 unfold onePart
 by_cases hc:p.all starF=true∧digitB (p.headD 0)=false
 · obtain ⟨rfl,rfl⟩:=h.1 hc.1 hc.2
   rw [if_neg (by rw [hc.1,hc.2];simp),show Go.Lib.atoiAll [49] = .ok 1 by decide +kernel]
   simp only
   rw [show digitB (([49]:List UInt8).headD 0)=true by decide,if_pos rfl]
 · obtain ⟨rfl,rfl⟩:=h.2 hc
   have:(!p.all starF||digitB (p.headD 0))=true:=by
    cases h1:p.all starF<;>cases h2:digitB (p.headD 0)<;>simp_all
   rw [if_pos this]
   cases Go.Lib.atoiAll (p.takeWhile starF)<;>rfl
theorem parse_tail {w0 w:World} {p2 p4:Nat} {b:Int} {ts:List TermD} {tv:Value} {text:ByteArray} {S F Nm R:List UInt8} {q:Option (Int×List UInt8)} {next:Value→World→Prop} (hE:EnvOK w0) (h:PZ w0 w p2 p4 b ts tv) (hts:ts.length≤1048576) (hF:F.length≤100000)
 (hq:q=match Go.Lib.atoiAll F with
  | .ok n=>if digitB (F.headD 0) then some (if S=[45] then IntKind.i64.wrap (-n) else n,Nm) else none
  | _=>none)
 (hX:q=none→parseZ text=(0,[],6))
 (hN:∀ n,q=some (n,Nm)→∀ w' tv',PZ w0 w' p2 p4 (if Nm=[] then IntKind.i64.wrap (b+n) else b) (if Nm=[] then ts else ts++[⟨mkB Nm,n⟩]) tv'→next (.string (mkB R)) w') :
 callK Pg 67 #[.string (mkB F)] (panK (PRt w0 text)) w fun t62 w=>n31c9 (.pointer (some ⟨p2,0,none⟩)) (.pointer (some ⟨p4,0,none⟩)) (.string (mkB F)) (.string (mkB Nm)) (.string (mkB S)) (.string (mkB R)) t62 next (PRt w0 text) w:=by
 have hl:=h.lt
 refine callK_ret (Atoi_ret (hE.ext h.e) (mkB F) (by rw [mkB_size];exact hF)) ?_
 rintro _ w1 ⟨e1,n,ev,rfl,hr⟩
 have h1:=h.ext e1
 rw [show (mkB F).data.toList=F by simp [mkB]] at hr
 rcases hr with ⟨ha,rfl⟩ | ⟨ha,T,x,rfl⟩
 · rw [ha] at hq
   simp only at hq
   have hF0:F≠[]:=by
    rintro rfl
    have h0:Go.Lib.atoiAll []=Go.Lib.NumEnd.syntax:=by decide +kernel
    rw [h0] at ha
    cases ha
   obtain ⟨c,F',rfl⟩:=List.exists_cons_of_ne_nil hF0
   have hidx:(mkB (c::F')).data.toList[0]?=some c:=by simp [mkB]
   simp (disch:=try exact DI) only [↓PR,QR,simprocAttr,↓n31c9]
   rw [op_indexS0 Tryz.underlying9 (mkB (c::F')) .i64 hidx]
   refine zcr (digit_ret _ c) fun w2 e2=>?_
   have h2:=h1.ext e2
   rw [List.headD_cons] at hq
   cases hd:digitB c with
   | false =>
    rw [hd] at hq
    simp (disch:=try exact DI) only [↓PR,QR,simprocAttr]
    exact parse_wrong h2 (hX hq)
   | true =>
    rw [hd,if_pos rfl] at hq
    have hN:=hN _ hq
    have g4:=(cells_of_heap h2.h4)
    have hS:decide (mkB S=⟨#[45]⟩)=decide (S=[45]):=decide_eq_decide.2 ⟨fun h=>mkB_inj (b:=[45]) h,fun h=>by rw [h];rfl⟩
    have hNm:decide (mkB Nm=⟨#[]⟩)=decide (Nm=[]):=decide_eq_decide.2 ⟨fun h=>mkB_inj (b:=[]) h,fun h=>by rw [h];rfl⟩
    have key:∀ n,(∀ w' tv',PZ w0 w' p2 p4 (if Nm=[] then IntKind.i64.wrap (b+n) else b) (if Nm=[] then ts else ts++[⟨mkB Nm,n⟩]) tv'→next (.string (mkB R)) w') →
     n31c6 (.pointer (some ⟨p4,0,none⟩)) (.string (mkB Nm)) (.int .i64 n) (.string (mkB R)) next (PRt w0 text) w2:=by
     intro n hN
     by_cases hn0:Nm=[]
     · have hd0:decide (mkB Nm=⟨#[]⟩)=true:=by rw [hNm];exact decide_eq_true hn0
       rw [if_pos hn0,if_pos hn0] at hN
       simp (disch:=try exact DI) only [↓PR,QR,simprocAttr,↓n31c1,↓n31c2,↓n31c3,↓n31c4,↓n31c5,↓n31c6,↓n31c7,↓n31c8,↓n31c9,↓n31c10,↓n31c11,↓n31c12,↓n31c13,↓n31c14,↓n31c15,hd0,g4.1,g4.2]
       exact hN _ _ (h2.base _)
     · have hd0:decide (mkB Nm=⟨#[]⟩)=false:=by rw [hNm];exact decide_eq_false hn0
       rw [if_neg hn0,if_neg hn0] at hN
       simp (disch:=try exact DI) only [↓PR,QR,simprocAttr,↓n31c1,↓n31c2,↓n31c3,↓n31c4,↓n31c5,↓n31c6,↓n31c7,↓n31c8,↓n31c9,↓n31c10,↓n31c11,↓n31c12,↓n31c13,↓n31c14,↓n31c15,hd0,g4.1,g4.2]
       have hz:=(Array.getElem?_eq_some_iff.1 h2.h4).1
       have h3:=h2.ext ((Ext.refl w2).alloc (.cells #[.string (mkB Nm),.int .i64 n] TTm))
       refine append1_term ⟨mkB Nm,n⟩ (b:=w2.heap.size) h3.ot (World.alloc_heap_new w2 _) (by simp only [World.size_alloc];omega) hts ?_
       intro v' w' hO hg
       have h4:=h3.push hg hO
       have g5:w'.heap[p4]?=some (.cells #[.int .i64 b,tv] TSz (0,0)):=(hg.block p4 (Array.getElem?_eq_some_iff.1 h3.h4).1 fun e=>by have:=(World.ownsRow.lt h3.ot p4 e.symm).1;omega).trans h3.h4
       have ht1:=SliceOf.oneCell (own_terms hO)
       simp (disch:=try exact DI) only [↓PR,QR,simprocAttr,(cells_of_heap g5).1,(cells_of_heap g5).2]
       exact hN _ _ h4
    by_cases hs:S=[45]
    · have hs':decide (mkB S=⟨#[45]⟩)=true:=by rw [hS];exact decide_eq_true hs
      rw [if_pos hs] at hN
      simp (disch:=try exact DI) only [↓PR,QR,simprocAttr,↓n31c8,hs']
      exact key _ (by simpa using hN)
    · have hs':decide (mkB S=⟨#[45]⟩)=false:=by rw [hS];exact decide_eq_false hs
      rw [if_neg hs] at hN
      simp (disch:=try exact DI) only [↓PR,QR,simprocAttr,↓n31c8,hs']
      exact key _ hN
 · have hn:q=none:=by
    rw [hq]
    cases hat:Go.Lib.atoiAll F with
    | ok v=>exact absurd hat (ha v)
    | _=>rfl
   simp (disch:=try exact DI) only [↓PR,QR,simprocAttr,↓n31c9]
   exact parse_wrong h1 (hX hn)
abbrev TVl:TypeId:=89
theorem one_val (p:ByteArray×Int):∀ u∈valCells p,u.oneCell'=true:=by
 intro u hu
 simp only [List.mem_cons,List.not_mem_nil,or_false] at hu
 rcases hu with rfl | rfl<;>rfl
theorem append1_val {w:World} {QP:List PanicEntry→World→Prop} {k:Value→World→Prop} {base:Nat} {v:Value} {l:List (ByteArray×Int)} (x:ByteArray×Int) {b:Nat} (hown:OwnE w base TVl 2 valCells v l) (hc:w.heap[b]?=some (.cells (valCells x).toArray TVl (0,0))) (hbase:base≤w.heap.size) (hl:l.length≤1048576)
 (hk:∀ v' w',OwnE w' base TVl 2 valCells v' (l++[x])→w.grownBy w' v.ownBlock→k v' w') :
 opV Pg (Builtin.append_ #[36,36] 36 #[v,.slice (some ⟨b,0,none⟩) 1 1]) QP w k:=by
 have hby:=by89
 refine op_appendE (l':=[x]) Tryz.underlying36 ty89 rfl (by decide) (fun _=>rfl) (fun x _=>one_val x) hown (fun j y hy=>?_) hbase ?_ (by simp;omega) hk
 · cases j with
   | zero =>
    simp at hy;subst hy
    intro j v hv
    rw [(cells_of_heap hc).1]
    simpa using hv
   | succ j=>simp at hy
 · simp only [List.length_cons,List.length_nil]
   exact Nat.le_trans (Nat.mul_le_mul (Nat.add_le_add_right hl 1) hby) (by decide)
theorem values_ret (w0:World) (v:Value) (vp:List (ByteArray×Int)) (hV:ValsOf w0 v vp) (hl:vp.length≤1048576) :
 Ret Pg 15 #[v] w0 fun r w'=>(∃ m rv,r = .tuple #[.map (some m),rv]∧MapOf w' m (IP vp)∧ValsOf w' rv vp)∧Ext w0 w':=by
 obtain ⟨A,c,rfl,hlc,hcm,hlm,hel⟩:=SliceOf.open hV
 refine n16s (R:=retR _) ?_;unfold n16
 rw [op_makeMap]
 have eM:Ext w0 (w0.alloc (.map #[] 0)):=(Ext.refl _).alloc _
 have hm0:MapOf (w0.alloc (.map #[] 0)) w0.heap.size []:=MapOf.new w0
 have hz0:w0.heap.size+1≤(w0.alloc (.map #[] 0)).heap.size:=by simp
 generalize w0.alloc (.map #[] 0)=W at *
 refine loop2_intro (fun x i w'=>∃ (tv:Value) (k:Nat),x=tv∧i = .int .i64 k∧k≤vp.length∧Ext w0 w'∧w0.heap.size+1≤w'.heap.size∧MapOf w' w0.heap.size (IP (vp.take k))∧OwnE w' (w0.heap.size+1) TVl 2 valCells tv (vp.take k)) (fun _ i _=>vp.length - (intOf i).toNat) ⟨_,0,rfl,rfl,by omega,eM,hz0,hm0,OwnE.nil _ _ _ _ _⟩ ?_
 rintro tv _ w ⟨_,k,rfl,rfl,hk,E,hz,hM,hO⟩
 unfold n16c3
 by_cases hlt:k < vp.length
 · obtain ⟨x,hx⟩:=getElem?_lt hlt
   obtain ⟨b,o,cs,rfl,hlA,hA,rfl⟩:=hel k x hx
   have hdec:decide ((k:Int) < (vp.length:Int))=true:=by simp;omega
   simp (disch:=try exact DI) only [↓PR,QR,simprocAttr,hdec]
   refine drawK_introE E ?_
   unfold n16c2
   simp (disch:=try exact DI) only [↓PR,QR,simprocAttr,hdec,(hA.c2 (Ext.refl w0)).1,(hA.c2 (Ext.refl w0)).2,(hA.c2 E).1,(hA.c2 E).2]
   have eD:Ext w w.drew:=(Ext.refl w).drew
   have hM1:=(hM.ext eD).put x.1 (.int .i64 x.2)
   have E1:Ext w0 (putW w.drew w0.heap.size (IP (vp.take k)) x.1 (.int .i64 x.2)):=(E.trans eD).putW (Nat.le_refl _) _ _
   have hO1:OwnE (putW w.drew w0.heap.size (IP (vp.take k)) x.1 (.int .i64 x.2)) (w0.heap.size+1) TVl 2 valCells tv (vp.take k):=OwnE.keep (hO.ext eD) fun b hb=>putW_heap (by have:=(World.ownsRow.lt hO b hb).1;omega)
   have hz1:w0.heap.size+1≤(putW w.drew w0.heap.size (IP (vp.take k)) x.1 (.int .i64 x.2)).heap.size:=by rw [putW_size];exact Nat.le_trans hz eD.size
   rw [op_updateO Tryz.underlying35 Tryz.underlying9 (hM.ext eD) x.1]
   generalize putW w.drew w0.heap.size (IP (vp.take k)) x.1 (.int .i64 x.2)=W1 at *
   refine turnK_introE E1 (drawK_introE E1 ?_)
   have eD1:Ext W1 W1.drew:=(Ext.refl W1).drew
   have E2:=E1.trans eD1
   have hM2:=hM1.ext eD1
   have hO2:=hO1.ext eD1
   have hz2:w0.heap.size+1≤W1.drew.heap.size:=Nat.le_trans hz1 eD1.size
   unfold n16c1
   simp (disch:=try exact DI) only [↓PR,QR,simprocAttr,hdec,(hA.c2 (Ext.refl w0)).1,(hA.c2 (Ext.refl w0)).2]
   have eA:Ext W1.drew (W1.drew.alloc (.cells #[.string x.1,.int .i64 x.2] TVl)):=(Ext.refl _).alloc _
   have hO3:=hO2.ext eA
   have hM3:MapOf _ w0.heap.size _:=hM2.ext eA
   have hz3:=Nat.le_trans hz2 eA.size
   have hn3:(W1.drew.alloc (.cells #[.string x.1,.int .i64 x.2] TVl)).heap[W1.heap.size]?=some (.cells #[.string x.1,.int .i64 x.2] TVl (0,0)):=World.alloc_heap_new W1.drew _
   have E3:=E2.trans eA
   refine ⟨E3,append1_val x (b:=W1.heap.size) hO3 hn3 hz3 (by rw [List.length_take];omega) ?_⟩
   clear hn3 eA hO2 hM2 hz2 E2 eD1 hO1 hM1 hz1 E1
   generalize W1.drew.alloc (.cells #[.string x.1,.int .i64 x.2] TVl)=W2 at *
   intro v' w' hO' hg
   have hlt2:w0.heap.size < W2.heap.size:=by omega
   have hr:∀ g,tv.ownBlock=some g→w0.heap.size+1≤g:=fun g hb=>(World.ownsRow.lt hO3 g hb).1
   have hM4:MapOf w' w0.heap.size _:=MapB.of_obj hM3 (hg.block w0.heap.size hlt2 fun e=>by have:=hr _ e.symm;omega)
   have E4:Ext w0 w':=E3.grown hg fun b hb=>by have:=hr b hb;omega
   refine ⟨E4,?_⟩
   simp (disch:=try exact DI) only [↓PR,QR,simprocAttr]
   refine ⟨⟨v',k+1,rfl,rfl,hlt,E4,Nat.le_trans hz3 hg.size,?_,?_⟩,meas_lt (kd := .i64) hlt⟩
   · rw [take_snoc hx]
     unfold IP at hM4 ⊢
     rw [List.map_append]
     exact hM4
   · rw [take_snoc hx]
     exact hO'
 · have hk':k=vp.length:=by omega
   subst hk'
   rw [List.take_length] at hM hO
   have hdec:decide ((vp.length:Int) < (vp.length:Int))=false:=by simp
   simp (disch:=try exact DI) only [↓PR,QR,simprocAttr,hdec]
   exact ⟨⟨_,_,rfl,hM,hO.slice (fun _=>rfl) (fun _ _=>rfl)⟩,E⟩
abbrev TRn:TypeId:=95
theorem one_ran (p:ByteArray×Int×Int):∀ u∈ranCells p,u.oneCell'=true:=by
 intro u hu
 simp only [List.mem_cons,List.not_mem_nil,or_false] at hu
 rcases hu with rfl | rfl | rfl<;>rfl
theorem append1_ran {w:World} {QP:List PanicEntry→World→Prop} {k:Value→World→Prop} {base:Nat} {v:Value} {l:List (ByteArray×Int×Int)} (x:ByteArray×Int×Int) {b:Nat} (hown:OwnE w base TRn 3 ranCells v l) (hc:w.heap[b]?=some (.cells (ranCells x).toArray TRn (0,0))) (hbase:base≤w.heap.size) (hl:l.length≤1048576)
 (hk:∀ v' w',OwnE w' base TRn 3 ranCells v' (l++[x])→w.grownBy w' v.ownBlock→k v' w') :
 opV Pg (Builtin.append_ #[47,47] 47 #[v,.slice (some ⟨b,0,none⟩) 1 1]) QP w k:=by
 have hby:=by95
 refine op_appendE (l':=[x]) Tryz.underlying47 ty95 rfl (by decide) (fun _=>rfl) (fun x _=>one_ran x) hown (fun j y hy=>?_) hbase ?_ (by simp;omega) hk
 · cases j with
   | zero =>
    simp at hy;subst hy
    intro j v hv
    rw [(cells_of_heap hc).1]
    simpa using hv
   | succ j=>simp at hy
 · simp only [List.length_cons,List.length_nil]
   exact Nat.le_trans (Nat.mul_le_mul (Nat.add_le_add_right hl 1) hby) (by decide)
theorem ranges_ret (w0:World) (v:Value) (vp:List (ByteArray×Int×Int)) (hV:RansOf w0 v vp) (hl:vp.length≤1048576) :
 Ret Pg 20 #[v] w0 fun r w'=>(∃ m rv,r = .tuple #[.map (some m),rv]∧MapOf w' m (RP vp)∧RansOf w' rv vp)∧Ext w0 w':=by
 obtain ⟨A,c,rfl,hlc,hcm,hlm,hel⟩:=SliceOf.open hV
 refine n13s (R:=retR _) ?_;unfold n13
 rw [op_makeMap]
 have eM:Ext w0 (w0.alloc (.map #[] 0)):=(Ext.refl _).alloc _
 have hm0:MapOf (w0.alloc (.map #[] 0)) w0.heap.size []:=MapOf.new w0
 have hz0:w0.heap.size+1≤(w0.alloc (.map #[] 0)).heap.size:=by simp
 generalize w0.alloc (.map #[] 0)=W at *
 refine loop2_intro (fun x i w'=>∃ (tv:Value) (k:Nat),x=tv∧i = .int .i64 k∧k≤vp.length∧Ext w0 w'∧w0.heap.size+1≤w'.heap.size∧MapOf w' w0.heap.size (RP (vp.take k))∧OwnE w' (w0.heap.size+1) TRn 3 ranCells tv (vp.take k)) (fun _ i _=>vp.length - (intOf i).toNat) ⟨_,0,rfl,rfl,by omega,eM,hz0,hm0,OwnE.nil _ _ _ _ _⟩ ?_
 rintro tv _ w ⟨_,k,rfl,rfl,hk,E,hz,hM,hO⟩
 unfold n13c3
 by_cases hlt:k < vp.length
 · obtain ⟨x,hx⟩:=getElem?_lt hlt
   obtain ⟨b,o,cs,rfl,hlA,hA,rfl⟩:=hel k x hx
   have hdec:decide ((k:Int) < (vp.length:Int))=true:=by simp;omega
   simp (disch:=try exact DI) only [↓PR,QR,simprocAttr,hdec]
   refine drawK_introE E ?_
   unfold n13c2
   simp (disch:=try exact DI) only [↓PR,QR,simprocAttr,hdec,(hA.c3 (Ext.refl w0)).1,(hA.c3 (Ext.refl w0)).2,(hA.c3 E).1,(hA.c3 E).2]
   have eD:Ext w w.drew:=(Ext.refl w).drew
   have hM1:=(hM.ext eD).put x.1 (rangeVal x.2.1 x.2.2)
   have E1:Ext w0 (putW w.drew w0.heap.size (RP (vp.take k)) x.1 (rangeVal x.2.1 x.2.2)):=(E.trans eD).putW (Nat.le_refl _) _ _
   have hO1:OwnE (putW w.drew w0.heap.size (RP (vp.take k)) x.1 (rangeVal x.2.1 x.2.2)) (w0.heap.size+1) TRn 3 ranCells tv (vp.take k):=OwnE.keep (hO.ext eD) fun b hb=>putW_heap (by have:=(World.ownsRow.lt hO b hb).1;omega)
   have hz1:w0.heap.size+1≤(putW w.drew w0.heap.size (RP (vp.take k)) x.1 (rangeVal x.2.1 x.2.2)).heap.size:=by rw [putW_size];exact Nat.le_trans hz eD.size
   rw [op_updateO Tryz.underlying46 Tryz.underlying9 (hM.ext eD) x.1]
   generalize putW w.drew w0.heap.size (RP (vp.take k)) x.1 (rangeVal x.2.1 x.2.2)=W1 at *
   refine turnK_introE E1 (drawK_introE E1 ?_)
   have eD1:Ext W1 W1.drew:=(Ext.refl W1).drew
   have E2:=E1.trans eD1
   have hM2:=hM1.ext eD1
   have hO2:=hO1.ext eD1
   have hz2:w0.heap.size+1≤W1.drew.heap.size:=Nat.le_trans hz1 eD1.size
   unfold n13c1
   simp (disch:=try exact DI) only [↓PR,QR,simprocAttr,hdec,(hA.c3 (Ext.refl w0)).1,(hA.c3 (Ext.refl w0)).2]
   have eA:Ext W1.drew (W1.drew.alloc (.cells #[.string x.1,.int .i64 x.2.1,.int .i64 x.2.2] TRn)):=(Ext.refl _).alloc _
   have hO3:=hO2.ext eA
   have hM3:MapOf _ w0.heap.size _:=hM2.ext eA
   have hz3:=Nat.le_trans hz2 eA.size
   have hn3:(W1.drew.alloc (.cells #[.string x.1,.int .i64 x.2.1,.int .i64 x.2.2] TRn)).heap[W1.heap.size]?=some (.cells #[.string x.1,.int .i64 x.2.1,.int .i64 x.2.2] TRn (0,0)):=World.alloc_heap_new W1.drew _
   have E3:=E2.trans eA
   refine ⟨E3,append1_ran x (b:=W1.heap.size) hO3 hn3 hz3 (by rw [List.length_take];omega) ?_⟩
   clear hn3 eA hO2 hM2 hz2 E2 eD1 hO1 hM1 hz1 E1
   generalize W1.drew.alloc (.cells #[.string x.1,.int .i64 x.2.1,.int .i64 x.2.2] TRn)=W2 at *
   intro v' w' hO' hg
   have hlt2:w0.heap.size < W2.heap.size:=by omega
   have hr:∀ g,tv.ownBlock=some g→w0.heap.size+1≤g:=fun g hb=>(World.ownsRow.lt hO3 g hb).1
   have hM4:MapOf w' w0.heap.size _:=MapB.of_obj hM3 (hg.block w0.heap.size hlt2 fun e=>by have:=hr _ e.symm;omega)
   have E4:Ext w0 w':=E3.grown hg fun b hb=>by have:=hr b hb;omega
   refine ⟨E4,?_⟩
   simp (disch:=try exact DI) only [↓PR,QR,simprocAttr]
   refine ⟨⟨v',k+1,rfl,rfl,hlt,E4,Nat.le_trans hz3 hg.size,?_,?_⟩,meas_lt (kd := .i64) hlt⟩
   · rw [take_snoc hx]
     unfold RP at hM4 ⊢
     rw [List.map_append]
     exact hM4
   · rw [take_snoc hx]
     exact hO'
 · have hk':k=vp.length:=by omega
   subst hk'
   rw [List.take_length] at hM hO
   have hdec:decide ((vp.length:Int) < (vp.length:Int))=false:=by simp
   simp (disch:=try exact DI) only [↓PR,QR,simprocAttr,hdec]
   exact ⟨⟨_,_,rfl,hM,hO.slice (fun _=>rfl) (fun _ _=>rfl)⟩,E⟩
def n17c1 (t2 t3 t5:Value) (C3:World→Prop) (next2:KV) (R:RT) (w:World):Prop :=
 qV Pg C3 (Instr.fieldAt 24 t2 1) fun t27 =>
 qV Pg C3 (Instr.loadAt 22 t27) fun t28 =>
 qV Pg C3 (Instr.indexAt 22 t28 t5) fun t30 =>
 qV Pg C3 (Instr.loadAt 32 t30) fun t31 =>
 qV Pg C3 (Instr.fieldAt 24 t3 1) fun t32 =>
 qV Pg C3 (Instr.loadAt 22 t32) fun t33 =>
 qV Pg C3 (Instr.indexAt 22 t33 t5) fun t35 =>
 qV Pg C3 (Instr.loadAt 32 t35) fun t36 =>
 qV Pg C3 (binS .neq 32 false t31 t36) fun t37 =>
 condP t37 (
 R (.returned (.bool false)) w) (
 opV Pg (binS .add 3 true t5 (.int .i64 1)) (panK R) w fun t26 w =>
 next2 t26 w)
def n17c2 (t2 t3 t5:Value) (next2:KV) (R:RT) (w:World):Prop :=
 opV Pg (Instr.fieldAt 24 t2 1) (panK R) w fun t21 w =>
 opV Pg (Instr.loadAt 22 t21) (panK R) w fun t22 w =>
 opV Pg (Builtin.len_ #[22] 3 #[t22]) (panK R) w fun t23 w =>
 opV Pg (binS .lss 3 false t5 t23) (panK R) w fun t24 w =>
 condP t24 (
 drawK w fun C3 w =>
 n17c1 t2 t3 t5 C3 next2 R w) (
 R (.returned (.bool true)) w)
def n17 (t0 t1:Value) (R:RT) (w:World):Prop :=
 opV Pg (Instr.box 24 t0) (panK R) w fun t2 w =>
 opV Pg (Instr.box 24 t1) (panK R) w fun t3 w =>
 opV Pg (Instr.fieldAt 24 t2 0) (panK R) w fun t6 w =>
 opV Pg (Instr.loadAt 3 t6) (panK R) w fun t7 w =>
 opV Pg (Instr.fieldAt 24 t3 0) (panK R) w fun t8 w =>
 opV Pg (Instr.loadAt 3 t8) (panK R) w fun t9 w =>
 opV Pg (binS .neq 3 false t7 t9) (panK R) w fun t10 w =>
 joinK (fun (t18:Value) (w:World) =>
 pickK t10 (.bool true) t18 fun t19 =>
 condP t19 (
 R (.returned (.bool false)) w) (
 loop1 (fun t5 w next2 =>
 n17c2 t2 t3 t5 next2 R w) (.int .i64 0) w)) fun K1 =>
 guardP t10 false (
 opV Pg (Instr.fieldAt 24 t2 1) (panK R) w fun t12 w =>
 opV Pg (Instr.loadAt 22 t12) (panK R) w fun t13 w =>
 opV Pg (Builtin.len_ #[22] 3 #[t13]) (panK R) w fun t14 w =>
 opV Pg (Instr.fieldAt 24 t3 1) (panK R) w fun t15 w =>
 opV Pg (Instr.loadAt 22 t15) (panK R) w fun t16 w =>
 opV Pg (Builtin.len_ #[22] 3 #[t16]) (panK R) w fun t17 w =>
 opV Pg (binS .neq 3 false t14 t17) (panK R) w fun t18 w =>
 K1 t18 w) (
 K1 undef w)
theorem n17s {t0 t1:Value} {R:RT} {w:World} (h:n17 t0 t1 R w):Calls Pg 26 #[t0,t1] w R:=by
 refine yD Tryz.func26 ?_
 refine zs<|zr<|yv h fun _ w h=>yv h fun _ w h=>zm<|zn<|zk<|zs<|zs<|sim_regionG<|yG 6<|yv h fun _ w h=>yv h fun _ w h=>yv h fun _ w h=>yv h fun _ w h=>?_
 refine yb h fun _ w h=>zm<|zn<|yg1 7 5 false [12,13,14,15,16,17,18] 18 h (fun _ T hT h=>?_) fun σ w h=>?_
 · refine yv h fun _ w h=>yv h fun _ w h=>yx h fun _ w h=>yv h fun _ w h=>yv h fun _ w h=>yx h fun _ w h=>yb h fun _ w h=>zn ?_
   exact zt hT h
 refine yG 1<|yp h fun _ h=>zn<|sim_end<|zk<|yC h (fun h=>zs<|zr<|zm<|zn<|zk<|sim_ret<|sim_then_ret<|body_ret1 rfl rfl h) fun h=>sim_skip<|zk<|zs<|zs<|zr<|zm<|zn<|zk ?_
 refine sim_block<|yl1 [4,5,20,21,22,23,24,25,26,27,28,29,30,31,32,33,34,35,36,37] 5 h fun σ w next h=>zs<|zs<|zr<|zm<|yv h fun _ w h=>yv h fun _ w h=>yx h fun _ w h=>yb h fun _ w h=>zn<|zk<|yC h (fun h=>?_) fun h=>?_
 · refine sim_skip<|zk<|zs<|sim_block<|zs<|yh [27,28,29,30,31,32,33,34,35,36,37] h fun C hC h=>ye 0 hC h fun _ h=>?_
   refine ye 1 hC h fun _ h=>?_
   refine yw 2 hC ?_
   refine ye 3 hC h fun _ h=>?_
   refine ye 4 hC h fun _ h=>?_
   refine ye 5 hC h fun _ h=>?_
   refine ye 6 hC h fun _ h=>?_
   refine yw 7 hC ?_
   refine ye 8 hC h fun _ h=>?_
   refine ye 9 hC h fun _ h=>?_
   refine ye 10 hC h fun _ h=>?_
   exact yz<|zk<|yC h (fun h=>zs<|zr<|zm<|zn<|zk<|sim_ret<|sim_block_ret<|sim_then_ret<|sim_then_ret<|sim_block_ret<|sim_then_ret<|body_ret1 rfl rfl h) fun h=>sim_skip<|sim_block_normal<|zk<|zr<|zm<|yb h fun _ w h=>zm<|zn<|zk<|⟨rfl,h⟩
 exact sim_exit<|sim_then_exit<|sim_then_exit<|sim_block_hit<|zk<|zs<|zr<|zm<|zn<|zk<|sim_ret<|body_ret1 rfl rfl h
theorem eq_Term (x y:TermD):(decide (x.field=y.field)&&decide (x.factor=y.factor))=decide (x=y):=by
 cases x;cases y
 rw [Bool.eq_iff_iff]
 simp
theorem rSame_ret (w0:World) (v u:Value) (p q:Int) (l m:List TermD) (hl:SizeVal w0 v p l) (hm:SizeVal w0 u q m) :
 Ret Pg 26 #[v,u] w0 fun r w'=>r = .bool (decide (p=q∧l=m))∧Ext w0 w':=by
 obtain ⟨tv,rfl,hT⟩:=hl
 obtain ⟨sv,rfl,hS⟩:=hm
 obtain ⟨A,c,rfl,hlc,hcm,hlm,hel⟩:=SliceOf.open hT
 obtain ⟨A',c',rfl,hlc',hcm',hlm',hel'⟩:=SliceOf.open hS
 refine n17s (R:=retR _) ?_;unfold n17
 simp (disch:=try exact DI) only [↓PR,QR,simprocAttr]
 by_cases hpq:p=q∧l.length=m.length
 · obtain ⟨h1,hlen⟩:=hpq
   have hn1:(p != q)=false:=by simp [h1]
   have hn2:((l.length:Int) != (m.length:Int))=false:=by simp [hlen]
   simp (disch:=try exact DI) only [↓PR,QR,simprocAttr,hn1,hn2]
   generalize hW:World.alloc (World.alloc w0 _) _=W
   have e0:Ext w0 W:=by rw [← hW];exact ee
   have o3:W.heap[w0.heap.size]?=some (.cells #[.int .i64 p,.slice A l.length c] 24 (0,0)):=by rw [← hW];simp (disch:=try exact DI) only [↓PR,QR,simprocAttr]
   have o4:W.heap[w0.heap.size+1]?=some (.cells #[.int .i64 q,.slice A' m.length c'] 24 (0,0)):=by rw [← hW];simp (disch:=try exact DI) only [↓PR,QR,simprocAttr]
   clear hW
   refine loop1_intro (fun a0 w=>∃ (k:Nat) , a0 = .int .i64 (k:Int)∧k≤l.length∧Ext W w∧l.take k=m.take k) (fun a0 _=>l.length - (intOf a0).toNat) ⟨0,rfl,Nat.zero_le _,ee,rfl⟩ ?_
   rintro _ w ⟨k,rfl,hk,e,hI⟩
   have se:=e.size
   rcases drop_cases hk with ⟨x,hx,hd,hlt,hdec⟩ | ⟨hk,hd,hdec⟩
   · obtain ⟨b,o,cs,rfl,_,hA,rfl⟩:=hel k x hx
     obtain ⟨y,hy⟩:=getElem?_lt (l:=m) (k:=k) (by omega)
     obtain ⟨b',o',cs',rfl,_,hA',rfl⟩:=hel' k y hy
     have hlt':k < m.length:=by omega
     have e1:=e0.trans e
     have eD:Ext w0 w.drew:=e1.wdrew
     simp (disch:=try exact DI) only [↓PR,QR,simprocAttr,↓n17c1,↓n17c2,hdec,(cells_of_heap (e.obj o3)).1]
     refine drawK_intro ?_
     simp (disch:=try exact DI) only [↓PR,QR,simprocAttr,↓n17c1,↓n17c2,(cells_of_heap (e.obj o3)).1,(cells_of_heap (e.obj o4)).1,hA.c2,hA'.c2]
     rw [eq_Term]
     by_cases hxy:x=y
     · subst hxy
       simp only [decide_true,Bool.not_true]
       simp (disch:=try exact DI) only [↓PR,QR,simprocAttr,↓n17c1,↓n17c2]
       exact ⟨⟨k+1,rfl,by omega,ee,by rw [List.take_add_one,List.take_add_one,hx,hy,hI]⟩,meas_lt (kd := .i64) hlt⟩
     · simp only [hxy,decide_false,Bool.not_false]
       simp (disch:=try exact DI) only [↓PR,QR,simprocAttr,↓n17c1,↓n17c2]
       have hne':¬ l=m:=by
        rintro rfl
        rw [hx] at hy
        injection hy with hy
        exact hxy hy
       exact ⟨by simp [hne'],eD⟩
   · subst hk
     simp (disch:=try exact DI) only [↓PR,QR,simprocAttr,↓n17c1,↓n17c2,hdec,(cells_of_heap (e.obj o3)).1]
     rw [List.take_length,hlen,List.take_length] at hI
     exact ⟨by simp [hI,h1],e0.trans e⟩
 · have hf:((p != q)||((l.length:Int) != (m.length:Int)))=true:=by
    by_cases h:p=q
    · simp [h];intro h2;exact hpq ⟨h,by omega⟩
    · simp [h]
   have hne':¬ (p=q∧l=m):=by rintro ⟨h1,rfl⟩;exact hpq ⟨h1,rfl⟩
   simp only [hf]
   simp (disch:=try exact DI) only [↓PR,QR,simprocAttr]
   exact ⟨by simp [hne'],ee⟩
def givenT:List TermD:=[⟨⟨#[110]⟩,2⟩,⟨⟨#[109]⟩,-1⟩]
theorem given_ret (w0:World):Ret Pg 36 #[] w0 fun r w'=>SizeVal w' r 4 givenT∧Ext w0 w':=by
 refine n11s (R:=retR _) ?_;unfold n11
 simp (disch:=try exact DI) only [↓PR,QR,simprocAttr]
 have h:=OwnE.new (w0.alloc (.cells #[.int .i64 4,.slice (some ⟨w0.heap.size+1,0,none⟩) 2 2] TSz)) TTm 2 termCells givenT (fun _=>rfl) (by decide)
 rw [World.size_alloc] at h
 exact ⟨⟨_,rfl,own_terms h⟩,ee⟩
theorem evals_ret (w0:World) (g:FuncId) (hg:Callable Pg g) (N E:List (ByteArray×Int)→Int)
 (hf:∀ w v m vp,SizeVal w v 4 givenT→MapOf w m (IP vp)→Ret Pg g #[v,.map (some m)] w fun r w'=>r = .tuple #[.int .i64 (N vp),.int .i64 (E vp)]∧Ext w w')
 (want no:Int) (lv:Value) (vp:List (ByteArray×Int)) (hV:ValsOf w0 lv vp) (hl:vp.length≤1048576) :
 Ret Pg 35 #[.func (.func g) #[] #[],.int .i64 want,.int .i64 no,lv] w0 fun r w'=>r = .bool (decide (N vp=want∧E vp=no))∧Ext w0 w':=by
 refine n10s (R:=retR _) ?_;unfold n10
 refine callK_ret (values_ret w0 lv vp hV hl) ?_
 rintro _ w1 ⟨⟨m,rv,rfl,hm,_⟩,e1⟩
 simp (disch:=try exact DI) only [↓PR,QR,simprocAttr,↓n10c1,↓n10c2]
 refine callK_ret (given_ret w1) ?_
 rintro r2 w2 ⟨hs,e2⟩
 rw [callV_func hg]
 refine zcr (by simpa using hf w2 r2 m vp hs (hm.ext e2)) fun w3 e3=>?_
 simp (disch:=try exact DI) only [↓PR,QR,simprocAttr,↓n10c1,↓n10c2]
 by_cases h:N vp=want
 · have hd:(N vp == want)=true:=by simpa using h
   simp (disch:=try exact DI) only [↓PR,QR,simprocAttr,↓n10c1,↓n10c2,hd]
   exact ⟨by simp [h];rw [Bool.eq_iff_iff];simp,ee⟩
 · have hd:(N vp == want)=false:=by simpa using h
   simp (disch:=try exact DI) only [↓PR,QR,simprocAttr,↓n10c1,↓n10c2,hd]
   exact ⟨by simp [h],ee⟩
theorem evals_Eval (w0:World) (want no:Int) (lv:Value) (vp:List (ByteArray×Int)) (hV:ValsOf w0 lv vp) (hl:vp.length≤1048576) :
 Ret Pg 35 #[.func (.func 16) #[] #[],.int .i64 want,.int .i64 no,lv] w0 fun r w'=>r = .bool (decide (evalN 4 givenT vp=want∧evalE 4 givenT ByteArray.empty vp=no))∧Ext w0 w' :=
 evals_ret w0 _ c16 (evalN 4 givenT) (evalE 4 givenT ByteArray.empty) (fun w v m vp hs hm=>Eval_ret w v 4 givenT m vp hs (by decide) hm) want no lv vp hV hl
theorem evals_Length (w0:World) (want no:Int) (lv:Value) (vp:List (ByteArray×Int)) (hV:ValsOf w0 lv vp) (hl:vp.length≤1048576) :
 Ret Pg 35 #[.func (.func 17) #[] #[],.int .i64 want,.int .i64 no,lv] w0 fun r w'=>r = .bool (decide (lenN 4 givenT vp=want∧lenE 4 givenT vp=no))∧Ext w0 w' :=
 evals_ret w0 _ c17 (lenN 4 givenT) (lenE 4 givenT) (fun w v m vp hs hm=>Length_ret w v 4 givenT m vp hs (by decide) hm) want no lv vp hV hl
def MapAt (pb m:Nat) (L:List (ByteArray×Value×Nat)) (c:Nat) (w:World):Prop:=w.heap[pb]?=some (.cells #[.map (some m)] 35 (0,0))∧MapS w m L c
def NextK (L:List (ByteArray×Value×Nat)) (seen:List Value) (v:Value):Prop:=∃ x∈L,v = .string x.1∧v ∉ seen
def AllK (L:List (ByteArray×Value×Nat)) (seen:List Value):Prop:=seen.Perm (L.map fun x => .string x.1)
theorem next_lw {B p:Nat} {w w':World} {o:Obj} (hB:B≤p) (ho:w.heap[p]?=some o) (hs:softO o=true) (hE:∀ a,Ext a w→a.heap.size≤p→Ext a w') (hb:∀ b,b≠p→w'.heap[b]?=w.heap[b]?) (hz:w'.heap.size=w.heap.size):LW6 B w w':=by
 have e:=hE { w with heap := #[] } ⟨rfl,rfl,rfl,Nat.zero_le _,fun b hb=>absurd hb (Nat.not_lt_zero _)⟩ (Nat.zero_le _)
 refine ⟨e.os,e.tape,e.output,by omega,fun b _=>?_⟩
 by_cases h:b=p
 · subst h
   exact .inr ⟨hB,o,ho,hs⟩
 · exact .inl (hb b h)
theorem eq_keyL {L:List (ByteArray×Value×Nat)} (h:L.Pairwise (fun x y=>x.1≠y.1)) {x y:ByteArray×Value×Nat} (hx:x∈L) (hy:y∈L) (he:x.1=y.1):x=y:=by
 induction L with
 | nil=>cases hx
 | cons a l ih =>
  rw [List.pairwise_cons] at h
  rcases List.mem_cons.1 hx with e1 | h1<;>rcases List.mem_cons.1 hy with e2 | h2
  · rw [e1,e2]
  · rw [e1] at he
    exact absurd he (h.1 y h2)
  · rw [e2] at he
    exact absurd he.symm (h.1 x h1)
  · exact ih h.2 h1 h2
theorem perm_births:∀ {xs L:List (ByteArray×Value×Nat)},xs.Pairwise (fun x y=>x.2.2≠y.2.2)→L.Pairwise (fun x y=>x.2.2≠y.2.2)→(∀ x∈xs,x∈L)→(∀ x∈L,∃ y∈xs,y.2.2=x.2.2)→xs.Perm L
 | [],L,_,_,_,h=>by
  cases L with
  | nil=>exact .nil
  | cons a l=>obtain ⟨y,hy,_⟩:=h a List.mem_cons_self;cases hy
 | x::xs,L,hn,hL,hs,h=>by
  rw [List.pairwise_cons] at hn
  have hxL:=hs x List.mem_cons_self
  obtain ⟨l1,l2,rfl⟩:=List.append_of_mem hxL
  have hp:(l1++x::l2).Perm (x::(l1++l2)):=List.perm_middle
  have hL2:(x::(l1++l2)).Pairwise (fun x y=>x.2.2≠y.2.2):=(hp.pairwise_iff (fun h=>Ne.symm h)).1 hL
  rw [List.pairwise_cons] at hL2
  refine (List.Perm.cons x (perm_births hn.2 hL2.2 (fun y hy=>?_) (fun y hy=>?_))).trans hp.symm
  · have h1:=hp.mem_iff.1 (hs y (List.mem_cons_of_mem _ hy))
    rcases List.mem_cons.1 h1 with rfl | h1
    · exact absurd rfl (hn.1 y hy)
    · exact h1
  · obtain ⟨z,hz,he⟩:=h y (hp.mem_iff.2 (List.mem_cons_of_mem _ hy))
    rcases List.mem_cons.1 hz with rfl | hz
    · exact absurd he (hL2.1 y hy)
    · exact ⟨z,hz,he⟩
theorem Keys_seq (pb m:Nat) (L:List (ByteArray×Value×Nat)) (c:Nat):SeqIt6 Pg 105 #[.pointer (some ⟨pb,0,none⟩)] (NextK L) (AllK L) (MapAt pb m L c):=by
 intro yv J Jx Jp w hy hFP hJ hJx hJp hround h0
 obtain ⟨hc,hm⟩:=hFP _ _ h0
 refine n8s (t0:=yv) (t1 := .pointer (some ⟨pb,0,none⟩)) ?_
 unfold n8
 simp (disch:=try exact DI) only [↓PR,QR,simprocAttr,(cells_of_heap hc).1]
 rw [op_rangeMap Tryz.underlying35 hm]
 have eA:Ext w (w.alloc (.mapIter (some m) c #[] c)):=(Ext.refl _).alloc _
 refine loop0_intro (fun w'=>∃ (xs:List (ByteArray×Value×Nat)),(∀ x∈xs,x∈L)∧xs.Pairwise (fun x y=>x.2.2≠y.2.2)∧J (xs.map fun x => .string x.1) w'∧IterAt w' w.heap.size m c (xs.map (·.2.2)).toArray∧w.heap.size < w'.heap.size) (fun w'=>iterLeft (fun s:ByteArray=>Value.string s) L w.heap.size w')
  ⟨[],by simp,List.Pairwise.nil,(hJ []).ext h0 eA,iter_new w m c,by simp⟩ ?_
 rintro w1 ⟨xs,hxs,hnd,hJ1,hI,hlt⟩
 obtain ⟨_,hm1⟩:=hFP _ _ hJ1
 unfold n8c2
 refine op_nextMap hm1 hI (fun hz=>?_) (fun x w2 hx hns hE hm2 hI2 hoth hsz hdec=>?_)
 · simp (disch:=try exact DI) only [↓PR,QR,simprocAttr]
   refine .inl ⟨_,?_,hJ1⟩
   unfold AllK
   refine List.Perm.map _ (perm_births hnd hm1.births hxs fun x hx=>?_)
   have:=iterLeft_zero hm1 hz hx
   rw [IterAt.seenEq hI] at this
   simp only [List.contains_toArray,List.contains_eq_mem,List.mem_map,decide_eq_true_eq] at this
   exact this
 · simp (disch:=try exact DI) only [↓PR,QR,simprocAttr]
   have hlw:LW6 w.heap.size w1 w2:=next_lw (Nat.le_refl _) hI rfl hE hoth hsz
   have hJ2:=hJ _ _ _ hlw hJ1
   unfold n8c1
   rw [op_entryMap hm2 hx hI2]
   simp (disch:=try exact DI) only [↓PR,QR,simprocAttr]
   have hnew:Value.string x.1 ∉ xs.map fun x=>Value.string x.1:=by
    intro h
    simp only [List.mem_map] at h
    obtain ⟨y,hy,he⟩:=h
    injection he with he
    have:=eq_keyL hm1.keys (hxs y hy) hx he
    subst this
    refine absurd hns ?_
    simp only [List.contains_toArray,List.contains_eq_mem,List.mem_map,decide_eq_false_iff_not,Classical.not_not]
    exact ⟨y,hy,rfl⟩
   refine callV_mono (hround _ _ ⟨x,hx,rfl,hnew⟩ _ (Firm6.keep (b:=w.heap.size) (o := .mapIter (some m) c ((xs.map fun y:ByteArray×Value×Nat=>y.2.2).toArray.push x.2.2) c) rfl) w2 hJ2 hI2) (fun ch w h=>h.2) ?_
   rintro v w3 ⟨hI3,(⟨rfl,h2⟩ | ⟨rfl,h2⟩)⟩
   · simp (disch:=try exact DI) only [↓PR,QR,simprocAttr]
     refine ⟨⟨xs++[x],?_,?_,?_,?_,(Array.getElem?_eq_some_iff.1 hI3).1⟩,?_⟩
     · intro y hy
       rcases List.mem_append.1 hy with hy | hy
       · exact hxs y hy
       · rw [List.mem_singleton.1 hy];exact hx
     · rw [List.pairwise_append]
       refine ⟨hnd,List.pairwise_singleton ..,fun y hy z hz=>?_⟩
       rw [List.mem_singleton.1 hz]
       intro he
       refine absurd hns ?_
       simp only [List.contains_toArray,List.contains_eq_mem,List.mem_map,decide_eq_false_iff_not,Classical.not_not]
       exact ⟨y,hy,he⟩
     · rw [List.map_append]
       exact h2
     · unfold IterAt
       rw [hI3,List.map_append]
       simp
     · unfold iterLeft at hdec ⊢
       rw [IterAt.seenEq hI2] at hdec
       rw [IterAt.seenEq hI3]
       exact hdec
   · simp (disch:=try exact DI) only [↓PR,QR,simprocAttr]
     exact .inr h2
theorem nodup_len {α:Type}:∀ {a b:List α},a.Nodup→(∀ x∈a,x∈b)→a.length≤b.length
 | [],_,_,_=>Nat.zero_le _
 | x::a,b,hn,hs=>by
  rw [List.nodup_cons] at hn
  obtain ⟨l1,l2,rfl⟩:=List.append_of_mem (hs x List.mem_cons_self)
  have:=nodup_len (b:=l1++l2) hn.2 fun y hy=>by
   have h1:=hs y (List.mem_cons_of_mem _ hy)
   rw [List.mem_append,List.mem_cons] at h1
   rw [List.mem_append]
   rcases h1 with h1 | rfl | h1
   · exact .inl h1
   · exact absurd hy hn.1
   · exact .inr h1
  simp only [List.length_cons,List.length_append] at this ⊢
  omega
abbrev strEnc (s:ByteArray):List Value:=[.string s]
theorem append1_str {w:World} {QP:List PanicEntry→World→Prop} {k:Value→World→Prop} {base:Nat} {v:Value} {l:List ByteArray} (s:ByteArray) {b:Nat} (hown:OwnE w base 9 1 strEnc v l) (hc:w.heap[b]?=some (.cells #[.string s] 9 (0,0))) (hbase:base≤w.heap.size) (hl:l.length≤1048576)
 (hk:∀ v' w',OwnE w' base 9 1 strEnc v' (l++[s])→w.grownBy w' v.ownBlock→k v' w') :
 opV Pg (Builtin.append_ #[129,129] 129 #[v,.slice (some ⟨b,0,none⟩) 1 1]) QP w k:=by
 have hby:=by9
 refine op_appendE (l':=[s]) Tryz.underlying129 ty9 rfl (by decide) (fun _=>rfl) (fun x _ u hu=>by simp at hu;subst hu;rfl) hown (fun j y hy=>?_) hbase ?_ (by simp;omega) hk
 · cases j with
   | zero =>
    simp at hy;subst hy
    intro j v hv
    rw [(cells_of_heap hc).1]
    simpa using hv
   | succ j=>simp at hy
 · simp only [List.length_cons,List.length_nil]
   exact Nat.le_trans (Nat.mul_le_mul (Nat.add_le_add_right hl 1) hby) (by decide)
theorem MapAt.lasts (B pb m:Nat) (L:List (ByteArray×Value×Nat)) (c:Nat):Lasts6 B (MapAt pb m L c) :=
 Lasts6.and (Lasts6.has B rfl) fun w w' hl h=>MapB.of_obj h ((Lasts6.has B (o := .map _ _) rfl w w' hl h.obj).trans h.obj.symm)
theorem OwnE.cellsAt {α:Type} {w:World} {base n:Nat} {T:TypeId} {enc:α→List Value} {v:Value} {l:List α} (h:OwnE w base T n enc v l) (g:Nat) (hg:v.ownBlock=some g):∃ cs T f,w.heap[g]?=some (.cells cs T f):=by
 rcases h.2 with ⟨rfl,h0⟩ | ⟨g',cap,cur,rfl,hb,hg',hc,hm,hs,ht⟩
 · cases hg
 · have:g'=g:=by simpa [Value.ownBlock] using hg
   subst this
   exact ⟨_,_,_,hg'⟩
def unStr:Value→ByteArray
 | .string s=>s
 | _=>ByteArray.empty
theorem perm_strs {ss ks:List ByteArray} (h:(ss.map Value.string).Perm (ks.map Value.string)):ss.Perm ks:=by
 have:=h.map unStr
 rw [List.map_map,List.map_map,show unStr ∘ Value.string=id from rfl,List.map_id,List.map_id] at this
 exact this
theorem AppendSeq_keys (w0:World) (pb m:Nat) (L:List (ByteArray×Value×Nat)) (c:Nat) (hK:MapAt pb m L c w0) (hL:L.length≤1048576) :
 Ret Pg 112 #[.slice none 0 0,.func (.func 105) #[] #[.pointer (some ⟨pb,0,none⟩)]] w0 fun r w'=>(∃ ss:List ByteArray,ss.Perm (L.map (·.1))∧OwnE w' w0.heap.size 9 1 strEnc r ss)∧Ext w0 w':=by
 have hpb:=(Array.getElem?_eq_some_iff.1 hK.1).1
 have hml:=(Array.getElem?_eq_some_iff.1 hK.2.obj).1
 refine n49s (R:=retR _) ?_;unfold n49
 simp (disch:=try exact DI) only [↓PR,QR,simprocAttr]
 let I:List Value→World→Prop:=fun seen w=>Ext w0 w∧MapAt pb m L c w∧∃ (ss:List ByteArray) (tv:Value),seen=ss.map Value.string∧(∀ v∈seen,v∈L.map fun x=>Value.string x.1)∧seen.Nodup∧w.heap[w0.heap.size]?=some (.cells #[tv] 129 (0,0))∧OwnE w (w0.heap.size+1) 9 1 strEnc tv ss
 have hLI:∀ B,w0.heap.size≤B→∀ k,Lasts6 B (I k):=fun B hB k=>Lasts6.and (Lasts6.from hB) (Lasts6.and (MapAt.lasts B pb m L c) (Lasts6.ex fun ss=>Lasts6.ex fun tv=>Lasts6.and (Lasts6.const _ _) (Lasts6.and (Lasts6.const _ _) (Lasts6.and (Lasts6.const _ _) (Lasts6.and (Lasts6.has B rfl) Lasts6.own)))))
 refine ⟨_,_,NextK L,AllK L,MapAt pb m L c,I,fun _ _=>False,fun _ _=>False,rfl,c105,Keys_seq pb m L c,?_,fun k w h=>h.2.1,fun k=>hLI _ (by simp) k,fun _=>Lasts6.const _ _,fun _=>Lasts6.const _ _,?_,?_,?_,?_⟩
 · refine ⟨ee,⟨?_,hK.2.ext ee⟩,[],.slice none 0 0,rfl,by simp,List.nodup_nil,?_,OwnE.nil _ _ _ _ _⟩
   · simp (disch:=try exact DI) only [↓PR,QR,simprocAttr,hK.1]
   · simp (disch:=try exact DI) only [↓PR,QR,simprocAttr]
 · intro Rk hF seen x w1 hal hI1 hR1 hlt1 hready
   refine ⟨hready,fun w4 hbz=>?_⟩
   have hR4:=hF _ _ (KR6.busied hbz) hR1
   have hI4:=(hLI (w0.alloc (.cells #[.slice none 0 0] 129)).heap.size (by simp) seen).busied hbz (Nat.le_succ _) hI1
   clear hI1 hR1 hready hbz hlt1
   obtain ⟨x0,hx0,rfl,hnew⟩:=hal
   obtain ⟨e4,_,ss,tv,rfl,hsub,hnd,h24,hO⟩:=hI4
   have hlen:ss.length≤1048576:=by
    have:=nodup_len hnd hsub
    rw [List.length_map,List.length_map] at this
    omega
   have z2:=(Array.getElem?_eq_some_iff.1 h24).1
   have hr:∀ g,tv.ownBlock=some g→w0.heap.size+1≤g:=fun g hb=>(World.ownsRow.lt hO g hb).1
   have eA:Ext w4 (w4.alloc (.cells #[.string x0.1] 9)):=(Ext.refl _).alloc _
   unfold n49c1
   simp (disch:=try exact DI) only [↓PR,QR,simprocAttr,(cells_of_heap h24).1]
   refine append1_str x0.1 (b:=w4.heap.size) (hO.ext eA) (World.alloc_heap_new w4 _) (by have:=eA.size;omega) hlen ?_
   intro v' w' hO' hg
   have h2':w'.heap[w0.heap.size]?=some (.cells #[tv] 129 (0,0)):=(hg.block w0.heap.size (by have:=eA.size;omega) fun e=>by have:=hr _ e.symm;omega).trans (eA.obj h24)
   have ht1:v'.oneCell'=true:=SliceOf.oneCell (OwnE.slice (E:=fun _ cs s=>cs=strEnc s) hO' (fun _=>rfl) (fun _ _=>rfl))
   simp (disch:=try exact DI) only [↓PR,QR,simprocAttr,(cells_of_heap h2').1,(cells_of_heap h2').2]
   have hE5:Ext w0 (w'.setCell ⟨w0.heap.size,0,none⟩ v'):=((e4.trans eA).grown hg fun g hb=>by have:=hr g hb;omega).setCell (p:=⟨w0.heap.size,0,none⟩) (Nat.le_refl _) _
   refine ⟨hF _ _ ((((KR6.refl _ w4).ext eA).grown hg fun g hb=>OwnE.cellsAt (hO.ext eA) g hb).cell h2' 0 v') hR4,hE5,⟨hE5.obj hK.1,hK.2.ext hE5⟩,ss++[x0.1],v',by simp,?_,?_,heap_set (o:=0) h2' v',OwnE.keep hO' fun g hb=>?_⟩
   · intro v hv
     rcases List.mem_append.1 hv with hv | hv
     · exact hsub v hv
     · rw [List.mem_singleton.1 hv]
       exact List.mem_map.2 ⟨x0,hx0,rfl⟩
   · rw [List.nodup_append]
     refine ⟨hnd,by simp,fun a ha b hb=>?_⟩
     rw [List.mem_singleton.1 hb]
     rintro rfl
     exact hnew ha
   · have:=(World.ownsRow.lt hO' g hb).1
     rw [Only.setCell _ w0.heap.size _ _ g (by omega)]
 · intro seen w1 hfin hI1 hmk
   obtain ⟨e1,_,ss,tv,rfl,_,_,h24,hO⟩:=hI1
   have hz:(w0.alloc (.cells #[.slice none 0 0] 129)).heap.size=w0.heap.size+1:=by simp
   rw [hz] at hmk ⊢
   show onCell _ _ _
   rw [(cells_of_heap h24).1]
   show outX _ _ _ _ _
   refine outX_mark hmk ?_
   simp (disch:=try exact DI) only [↓PR,QR,simprocAttr,outX_nil,retV,resOne]
   refine ⟨⟨ss,perm_strs (by have:=hfin;unfold AllK at this;rw [List.map_map];exact this),(OwnE.keep hO fun g hb=>?_).base (Nat.le_succ _)⟩,e1.putObj (Nat.le_succ _) _⟩
   have hne:g≠w0.heap.size+1:=by
    rintro rfl
    obtain ⟨cs,T,f,hc⟩:=OwnE.cellsAt hO _ hb
    have:w1.heap[w0.heap.size+1]?=some (.deferred (some [])):=hmk
    rw [hc] at this
    cases this
   exact World.putObj_heap_other hne
 · exact fun _ _ h=>h.elim
 · exact fun _ _ h=>h.elim
abbrev OwnS (w:World) (base:Nat) (v:Value) (l:List ByteArray):Prop:=OwnE w base 9 1 strEnc v l
def sortB (l:List ByteArray):List ByteArray:=((l.map (·.data.toList)).mergeSort fun x y=>decide (x≤y)).map mkB
theorem flat_strEnc (l:List ByteArray):l.flatMap strEnc=l.map fun s=>Value.string s:=by
 induction l with
 | nil=>rfl
 | cons x l ih=>rw [List.flatMap_cons,ih];rfl
theorem strs_of {w:World} {b n c:Nat} {l:List ByteArray} (hn:n=l.length) (h1:l.length≤c) (h2:c≤9223372036854775807) (hc:∀ k x,l[k]?=some x→w.cell? ⟨b,k,none⟩=some (.string x)):SliceOf w 1 EStr (.slice (some ⟨b,0,none⟩) n c) l:=by
 subst hn
 refine ⟨_,_,rfl,h1,h2,fun _=>⟨_,_,rfl,fun k x hx=>⟨[.string x],rfl,fun j v hv=>?_,rfl⟩⟩⟩
 cases j with
 | zero=>injection hv with hv;subst hv;simpa using hc k x hx
 | succ j=>cases hv
theorem Sort_ret {w:World} {base:Nat} {v:Value} {l:List ByteArray} (h:OwnS w base v l) (hl:l.length≤1048576):Ret Pg 104 #[v] w fun r w'=>r = .tuple #[]∧(SliceOf w' 1 EStr v (sortB l)∧∀ A n c,v = .slice (some A) n c→base≤A.block∧A.block < w'.heap.size)∧w.heap.size≤w'.heap.size∧∀ a,Ext a w→a.heap.size≤base→Ext a w':=by
 rcases h.2 with ⟨rfl,h0⟩ | ⟨g,cap,cur,rfl,hb,hg,hc,hm,hs,ht⟩
 · obtain rfl:l=[]:=List.eq_nil_of_length_eq_zero h0
   refine Calls.mono (sh_slices_Sort_string_none none 0 w) ?_
   rintro e w' ⟨rfl,rfl⟩
   exact ⟨_,rfl,rfl,⟨by rw [show sortB []=[] by simp [sortB]];exact SliceOf.nil _ _ _,fun A n c h=>by cases h⟩,Nat.le_refl _,fun a e _=>e⟩
 · have hlt:=(Array.getElem?_eq_some_iff.1 hg).1
   rw [flat_strEnc,Nat.mul_one] at ht
   have hH:Sort.Holds encStr w g 0 (l.map (·.data.toList)).toArray:=fun j hj=>by
    have hj':j < l.length:=by simpa using hj
    refine ⟨?_,(cells_of_heap hg).2 _⟩
    rw [(cells_of_heap hg).1,Nat.zero_add,getElem!_pos _ j hj]
    have:=congrArg (fun x:List Value=>x[j]?) ht
    rw [List.getElem?_take,if_pos hj',List.getElem?_map,List.getElem?_eq_getElem hj',Array.getElem?_toList] at this
    simpa using this
   have hcall:=sh_slices_Sort_string g 0 cap (l.map (·.data.toList)) w hH hlt (by rw [List.length_map];omega)
   rw [List.length_map] at hcall
   refine Calls.mono hcall ?_
   rintro e w' ⟨rfl,n,os,rfl⟩
   generalize hL:((l.map (·.data.toList)).mergeSort fun x y=>decide (x≤y))=L
   have hLl:L.length=l.length:=by rw [← hL,List.length_mergeSort,List.length_map]
   have hsb:sortB l=L.map mkB:=by unfold sortB;rw [hL]
   rw [hsb]
   have hkeep:∀ k,k < w.heap.size→k≠g→(Sort.grow (Sort.putRow encStr (Sort.ahead w n) g 0 L.toArray) os).heap[k]?=w.heap[k]?:=by
    intro k hk hne
    unfold Sort.grow Sort.putRow Sort.mapBlock Sort.ahead
    dsimp only
    rw [Array.getElem?_append_left (by simpa using hk),Array.getElem?_modify,if_neg (Ne.symm hne)]
   have hrow:(Sort.grow (Sort.putRow encStr (Sort.ahead w n) g 0 L.toArray) os).heap[g]?=some (.cells (Sort.putCells encStr 0 L.toArray cur) 9 (0,0)):=by
    unfold Sort.grow Sort.putRow Sort.mapBlock Sort.ahead
    dsimp only
    rw [Array.getElem?_append_left (by simpa using hlt),Array.getElem?_modify,if_pos rfl,hg]
    rfl
   have hsz:w.heap.size≤(Sort.grow (Sort.putRow encStr (Sort.ahead w n) g 0 L.toArray) os).heap.size:=by
    unfold Sort.grow Sort.putRow Sort.mapBlock Sort.ahead
    simp
   refine ⟨_,rfl,rfl,⟨?_,fun A n c h=>by injection h with h;injection h with h;subst h;exact ⟨hb,Nat.lt_of_lt_of_le hlt hsz⟩⟩,hsz,fun a e ha=>⟨e.os,e.tape,e.output,Nat.le_trans e.size hsz,fun k hk=>(hkeep k (Nat.lt_of_lt_of_le hk e.size) (by omega)).trans (e.block k hk)⟩⟩
   refine strs_of (by rw [List.length_map,hLl]) (by rw [List.length_map,hLl];exact hc) (by simp only [maxLen] at hm;omega) fun k x hx=>?_
   rw [(cells_of_heap hrow).1]
   have hkl:=(List.getElem?_eq_some_iff.1 hx).1
   rw [List.length_map] at hkl
   have hkc:k < cur.size:=by rw [hs,Nat.mul_one];omega
   unfold Sort.putCells
   rw [Array.getElem?_mapIdx,Array.getElem?_eq_getElem hkc]
   simp only [Option.map_some,List.size_toArray]
   rw [if_pos ⟨Nat.zero_le _,by omega⟩,Nat.sub_zero,getElem!_pos _ k (by simpa using hkl)]
   rw [List.getElem?_map,List.getElem?_eq_getElem hkl] at hx
   injection hx with hx
   subst hx
   simp [mkB]
theorem mem_sortB {l:List ByteArray} {x:ByteArray}:x∈sortB l↔x∈l:=by
 unfold sortB
 constructor
 · intro h
   obtain ⟨y,hy,rfl⟩:=List.mem_map.1 h
   obtain ⟨z,hz,rfl⟩:=List.mem_map.1 ((List.mergeSort_perm _ _).mem_iff.1 hy)
   exact hz
 · intro h
   exact List.mem_map.2 ⟨x.data.toList,(List.mergeSort_perm _ _).mem_iff.2 (List.mem_map.2 ⟨x,h,rfl⟩),rfl⟩
theorem sortB_len (l:List ByteArray):(sortB l).length=l.length:=by
 unfold sortB
 rw [List.length_map,List.length_mergeSort,List.length_map]
theorem sortB_strict {l:List ByteArray} (hn:l.Nodup):(sortB l).Pairwise fun a b=>a.data.toList < b.data.toList:=by
 unfold sortB
 rw [List.pairwise_map]
 have hp:=List.pairwise_mergeSort (le:=fun x y:List UInt8=>decide (x≤y)) (fun a b c h1 h2=>decide_eq_true (List.le_trans (of_decide_eq_true h1) (of_decide_eq_true h2))) (fun a b=>by
  rw [Bool.or_eq_true]
  exact (List.le_total a b).imp decide_eq_true decide_eq_true) (l.map (·.data.toList))
 have hd:((l.map (·.data.toList)).mergeSort fun x y=>decide (x≤y)).Nodup:=(List.mergeSort_perm _ _).nodup_iff.2 (by
  rw [List.Nodup,List.pairwise_map]
  exact hn.imp fun h e=>h (bytes_ext e))
 refine (List.Pairwise.and hp hd).imp fun {a b} ⟨h1,h2⟩=>?_
 show a < b
 rcases List.le_iff_lt_or_eq.1 (of_decide_eq_true h1) with h | h
 · exact h
 · exact absurd h h2
theorem Collect_keys (w0:World) (pb m:Nat) (L:List (ByteArray×Value×Nat)) (c:Nat) (hK:MapAt pb m L c w0) (hL:L.length≤1048576) :
 Ret Pg 103 #[.func (.func 105) #[] #[.pointer (some ⟨pb,0,none⟩)]] w0 fun r w'=>(∃ ss:List ByteArray,ss.Perm (L.map (·.1))∧OwnS w' w0.heap.size r ss)∧Ext w0 w':=by
 refine n51s (R:=retR _) ?_;unfold n51
 refine callK_ret (AppendSeq_keys w0 pb m L c hK hL) ?_
 rintro v w1 ⟨h,e1⟩
 simp (disch:=try exact DI) only [↓PR,QR,simprocAttr]
 exact ⟨h,e1⟩
theorem strict_ext:∀ {a b:List ByteArray},a.Pairwise (fun x y=>x.data.toList < y.data.toList)→b.Pairwise (fun x y=>x.data.toList < y.data.toList)→(∀ x,x∈a↔x∈b)→a=b
 | [],[],_,_,_=>rfl
 | [],y::b,_,_,h=>absurd ((h y).2 List.mem_cons_self) (by simp)
 | x::a,[],_,_,h=>absurd ((h x).1 List.mem_cons_self) (by simp)
 | x::a,y::b,ha,hb,h=>by
  rw [List.pairwise_cons] at ha hb
  have hxy:x=y:=by
   rcases List.mem_cons.1 ((h x).1 List.mem_cons_self) with h1 | h1
   · exact h1
   rcases List.mem_cons.1 ((h y).2 List.mem_cons_self) with h2 | h2
   · exact h2.symm
   exact absurd (List.lt_trans (hb.1 x h1) (ha.1 y h2)) (List.lt_irrefl _)
  subst hxy
  congr 1
  refine strict_ext ha.2 hb.2 fun z=>⟨fun hz=>?_,fun hz=>?_⟩
  · rcases List.mem_cons.1 ((h z).1 (List.mem_cons_of_mem _ hz)) with rfl | h1
    · exact absurd (ha.1 z hz) (List.lt_irrefl _)
    · exact h1
  · rcases List.mem_cons.1 ((h z).2 (List.mem_cons_of_mem _ hz)) with rfl | h1
    · exact absurd (hb.1 z hz) (List.lt_irrefl _)
    · exact h1
theorem sort_perm {a b:List ByteArray} (h:a.Perm b) (hn:b.Nodup):sortB a=sortB b :=
 strict_ext (sortB_strict (h.nodup_iff.2 hn)) (sortB_strict hn) fun x=>by rw [mem_sortB,mem_sortB,h.mem_iff]
theorem keys_nodup {w:World} {m:Nat} {L:List (ByteArray×Value×Nat)} {c:Nat} (h:MapS w m L c):(L.map (·.1)).Nodup:=by
 have:=h.keys
 clear h
 unfold List.Nodup
 rw [List.pairwise_map]
 exact this
theorem Sorted_keys (w0:World) (pb m:Nat) (L:List (ByteArray×Value×Nat)) (c:Nat) (hK:MapAt pb m L c w0) (hL:L.length≤1048576) :
 Ret Pg 89 #[.func (.func 105) #[] #[.pointer (some ⟨pb,0,none⟩)]] w0 fun r w'=>SliceOf w' 1 EStr r (sortB (L.map (·.1)))∧Ext w0 w':=by
 refine n60s (R:=retR _) ?_;unfold n60
 refine callK_ret (Collect_keys w0 pb m L c hK hL) ?_
 rintro v w1 ⟨⟨ss,hp,hO⟩,e1⟩
 refine callK_ret (Sort_ret hO (by rw [hp.length_eq,List.length_map];exact hL)) ?_
 rintro _ w2 ⟨rfl,⟨hs,_⟩,hz,hk⟩
 simp (disch:=try exact DI) only [↓PR,QR,simprocAttr]
 rw [sort_perm hp (keys_nodup hK.2)] at hs
 exact ⟨hs,hk w0 e1 (Nat.le_refl _)⟩
def facOf (L:List (ByteArray×Value×Nat)) (s:ByteArray):Int:=match Go.Sw.look L s with
 | some (.int _ n)=>n
 | _=>0
def termsM (L:List (ByteArray×Value×Nat)):List TermD:=(sortB (L.map (·.1))).map fun s=>⟨s,facOf L s⟩
def IntsL (L:List (ByteArray×Value×Nat)):Prop:=∀ x∈L,∃ n,x.2.1 = .int .i64 n
theorem look_fac {L:List (ByteArray×Value×Nat)} (hi:IntsL L) {s:ByteArray} (hs:s∈L.map (·.1)):Go.Sw.look L s=some (.int .i64 (facOf L s)):=by
 unfold facOf
 cases h:Go.Sw.look L s with
 | none =>
  exfalso
  obtain ⟨x,hx,rfl⟩:=List.mem_map.1 hs
  unfold Go.Sw.look at h
  rw [Option.map_eq_none_iff,List.find?_eq_none] at h
  exact h x hx (decide_eq_true rfl)
 | some v =>
  obtain ⟨x,hx,_,rfl⟩:=look_has h
  obtain ⟨n,hn⟩:=hi x hx
  rw [hn]
theorem Keys_ret (w0:World) (m:Nat) (L:List (ByteArray×Value×Nat)) (c:Nat) (hm:MapS w0 m L c) :
 Ret Pg 90 #[.map (some m)] w0 fun r w'=>r = .func (.func 105) #[] #[.pointer (some ⟨w0.heap.size,0,none⟩)]∧MapAt w0.heap.size m L c w'∧Ext w0 w':=by
 refine n7s (R:=retR _) ?_;unfold n7
 simp (disch:=try exact DI) only [↓PR,QR,simprocAttr]
 exact ⟨trivial,⟨World.alloc_heap_new w0 _,hm.ext ee⟩,ee⟩
theorem sorted_ret (w0:World) (m:Nat) (L:List (ByteArray×Value×Nat)) (c:Nat) (hm:MapS w0 m L c) (hi:IntsL L) (hL:L.length≤1048576) :
 Ret Pg 73 #[.map (some m)] w0 fun r w'=>OwnE w' w0.heap.size TTm 2 termCells r (termsM L)∧Ext w0 w':=by
 refine n48s (R:=retR _) ?_;unfold n48
 refine callK_ret (Keys_ret w0 m L c hm) ?_
 rintro _ w1 ⟨rfl,hK,e1⟩
 refine callK_ret (Sorted_keys w1 _ m L c hK hL) ?_
 rintro kv w2 ⟨hs,e2⟩
 have E2:=e1.trans e2
 have hm2:=hm.ext E2
 obtain ⟨A,cp,rfl,hlc,hcm,hlm,hel⟩:=SliceOf.open hs
 have hlen:(sortB (L.map (·.1))).length≤1048576:=by rw [sortB_len,List.length_map];exact hL
 have htm:termsM L=(sortB (L.map (·.1))).map fun s=>⟨s,facOf L s⟩:=rfl
 have hmem:∀ s∈sortB (L.map (·.1)),Go.Sw.look L s=some (.int .i64 (facOf L s)):=fun s h=>look_fac hi (mem_sortB.1 h)
 generalize sortB (L.map (·.1))=ks at *
 unfold n48c2
 simp (disch:=try exact DI) only [↓PR,QR,simprocAttr]
 refine loop2_intro (fun x i w'=>∃ k:Nat,i = .int .i64 k∧k≤ks.length∧Ext w2 w'∧OwnE w' w2.heap.size TTm 2 termCells x ((termsM L).take k)) (fun _ i _=>ks.length - (intOf i).toNat) ⟨0,rfl,by omega,Ext.refl _,OwnE.nil _ _ _ _ _⟩ ?_
 rintro tv _ w ⟨k,rfl,hk,e,hO⟩
 by_cases hlt:k < ks.length
 · obtain ⟨x,hx⟩:=getElem?_lt hlt
   obtain ⟨b,o,cs,rfl,hlA,hA,rfl⟩:=hel k x hx
   have hdec:decide ((k:Int) < (ks.length:Int))=true:=by simp;omega
   have htk:(termsM L)[k]?=some ⟨x,facOf L x⟩:=by rw [htm,List.getElem?_map,hx];rfl
   have hz:=e.size
   simp (disch:=try exact DI) only [↓PR,QR,simprocAttr,hdec]
   unfold n48c1
   simp (disch:=try exact DI) only [↓PR,QR,simprocAttr,hdec,hA.c1 e]
   rw [op_lookup1S Tryz.underlying35 Tryz.underlying9 ty3 (hm2.ext e),hmem x (List.mem_of_getElem? hx)]
   simp (disch:=try exact DI) only [↓PR,QR,simprocAttr]
   have eA:Ext w (w.alloc (.cells #[.string x,.int .i64 (facOf L x)] TTm)):=(Ext.refl _).alloc _
   refine append1_term ⟨x,facOf L x⟩ (b:=w.heap.size) (hO.ext eA) (World.alloc_heap_new w _) (Nat.le_trans hz eA.size) (by rw [List.length_take];omega) ?_
   intro v' w' hO' hg
   have hr:∀ g,tv.ownBlock=some g→w2.heap.size≤g:=fun g hb=>(World.ownsRow.lt hO g hb).1
   simp (disch:=try exact DI) only [↓PR,QR,simprocAttr]
   exact ⟨⟨k+1,rfl,hlt,(e.trans eA).grown hg hr,by rw [take_snoc htk];exact hO'⟩,meas_lt (kd := .i64) hlt⟩
 · have hk':k=ks.length:=by omega
   subst hk'
   have hdec:decide ((ks.length:Int) < (ks.length:Int))=false:=by simp
   simp (disch:=try exact DI) only [↓PR,QR,simprocAttr,hdec]
   rw [show (termsM L).take ks.length=termsM L by rw [htm,List.take_of_length_le (by rw [List.length_map];exact Nat.le_refl _)]] at hO
   exact ⟨hO.base E2.size,E2.trans e⟩
theorem op_capS {P:Program} {QP:List PanicEntry→World→Prop} {w:World} {k:Value→World→Prop} {t e:TypeId} (hu:P.underlying t=some (.slice e)) (ty:TypeId) (B:Option Addr) (n c:Nat):opV P (Builtin.cap_ #[t] ty #[.slice B n c]) QP w k=k (.int .i64 c) w:=opV_ok (by simp [Builtin.cap_,run_underlying hu];rfl)
theorem op_sliceNil {P:Program} {QP:List PanicEntry→World→Prop} {w:World} {k:Value→World→Prop} {t e:TypeId} {agg:Bool} {n m:Nat} {z:Value} (hu:P.underlying t=some (.slice e)) (ht:TyInfo P e agg n m z):opV P (Instr.sliceAt t (.slice none 0 0) none (some (.int .i64 0)) none) QP w k=k (.slice none 0 0) w:=opV_ok (by
 simp [Instr.sliceAt,run_underlying hu,Instr.slice,Instr.sliceBounds,run_sliceBound,Go.Sw.run_sizeOf ht])
theorem op_zeros {P:Program} {QP:List PanicEntry→World→Prop} {w:World} {k:Value→World→Prop} {t tn ty e:TypeId} {agg:Bool} {n m:Nat} {z:Value} (hu:P.underlying t=some (.slice e)) (hn:P.underlying tn=some (.int .i64)) (ht:TyInfo P e agg n m z) (h0:0 < n) (hz:z.cells.size=n) {q:Nat} (hq:0 < q) (hb:q*m≤140737488355328)
 (h63:q≤140737488355328) (hk:∀ c w',q≤c→c≤9223372036854775807→Ext w w'→(∃ cur:Array Value,cur.size=c*n∧w'.heap[w.heap.size]?=some (.cells cur e (0,0)))→k (.slice (some ⟨w.heap.size,0,none⟩) q c) w'):opV P (Builtin.append_ #[t,tn] ty #[.slice none 0 0,.int .i64 (q:Int)]) QP w k:=by
 obtain ⟨⟨i,hi,hs,hby,hzz⟩,_⟩:=ht
 rw [opV_ok (Go.Lib.run_append_nil_zeros w t tn ty e i z .i64 .i64 hu hn hi hzz q hq (by omega) (by omega) (by rw [hby];omega))]
 have hge:=grownCap_ge w q 0 e
 have hle:=grownCap_le_maxLen w q 0 e (by simp only [maxLen];omega)
 simp only [maxLen] at hle
 refine hk _ _ hge (by omega) ((Ext.refl w).drew.alloc _) ⟨_,?_,World.alloc_heap_new w.drew _⟩
 rw [Array.size_append,size_zeroCells,size_zeroCells,hz,← Nat.add_mul]
 congr 1
 omega
theorem Grow_ret (w0:World) (n:Nat) (hn:n≤1000000):Ret Pg 88 #[.slice none 0 0,.int .i64 n] w0 fun r w'=>OwnE w' w0.heap.size TTm 2 termCells r []∧Ext w0 w':=by
 have hby:=by32
 refine n56s (R:=retR _) ?_;unfold n56
 have d0:decide ((n:Int) < 0)=false:=by simp
 have w1:IntKind.i64.wrap ((n:Int) - 0)=n:=by rw [Int.sub_zero];exact wrap_ok (by omega) (by omega)
 have hc:∀ (QP:List PanicEntry→World→Prop) (w:World) (k:Value→World→Prop),opV Pg (Builtin.cap_ #[22] 3 #[.slice none 0 0]) QP w k=k (.int .i64 0) w:=fun QP w k=>op_capS Tryz.underlying22 3 none 0 0
 have hln:∀ (QP:List PanicEntry→World→Prop) (w:World) (k:Value→World→Prop),opV Pg (Builtin.len_ #[22] 3 #[.slice none 0 0]) QP w k=k (.int .i64 0) w:=fun QP w k=>by simp (disch:=try exact DI) only [↓PR,QR,simprocAttr]
 have w00:IntKind.i64.wrap (0 - 0)=0:=by decide
 simp (disch:=try exact DI) only [↓PR,QR,simprocAttr,d0]
 unfold n56c3
 rw [hc,hln,op_sub,w00,op_sub,w1,op_gtr]
 by_cases h0:n=0
 · subst h0
   simp (disch:=try exact DI) only [↓PR,QR,simprocAttr]
   exact ⟨OwnE.nil _ _ _ _ _,Ext.refl _⟩
 · have d1:decide ((n:Int) > 0)=true:=decide_eq_true (by omega)
   rw [d1]
   simp (disch:=try exact DI) only [↓PR,QR,simprocAttr]
   unfold n56c1
   rw [hc,op_sliceNil Tryz.underlying22 ty32]
   refine op_zeros Tryz.underlying22 Tryz.underlying3 ty32 (by decide) rfl (q:=n) (by omega) (Nat.le_trans (Nat.mul_le_mul hn hby) (by decide)) (by omega) ?_
   intro c w' h1 h2 e ⟨cur,h3,h4⟩
   rw [hln]
   have hsl:=fun {QP:List PanicEntry→World→Prop} {w:World} {k:Value→World→Prop}=>op_sliceTo (P:=Pg) (QP:=QP) (w:=w) (k:=k) Tryz.underlying22 ty32 w0.heap.size 0 n c .i64 0 (Nat.zero_le _)
   rw [show ((0:Nat):Int)=0 from rfl] at hsl
   rw [hsl]
   simp (disch:=try exact DI) only [↓PR,QR,simprocAttr]
   exact ⟨⟨rfl,.inr ⟨_,_,cur,rfl,Nat.le_refl _,h4,Nat.zero_le _,h2,h3,by simp⟩⟩,e⟩
theorem append_terms {w:World} {QP:List PanicEntry→World→Prop} {k:Value→World→Prop} {base:Nat} {v u:Value} {l l':List TermD} (hown:OwnE w base TTm 2 termCells v l) (hs:TermsOf w u l') (hbase:base≤w.heap.size) (h1:l.length≤100000) (h2:l'.length≤100000)
 (hk:∀ v' w',OwnE w' base TTm 2 termCells v' (l++l')→w.grownBy w' v.ownBlock→k v' w') :
 opV Pg (Builtin.append_ #[22,22] 22 #[v,u]) QP w k:=by
 have hby:=by32
 obtain ⟨A,c,rfl,hlc,hcm,hlm,hel⟩:=SliceOf.open hs
 cases hl:l' with
 | nil =>
  subst hl
  have hv:∃ B cap,v = .slice B l.length cap∧l.length≤cap:=by
   obtain ⟨B,cap,h1,h2,_⟩:=own_terms hown
   exact ⟨B,cap,h1,h2⟩
  obtain ⟨B,cap,rfl,hc2⟩:=hv
  rw [List.length_nil,op_append0 Tryz.underlying22 ty32 _ _ _ _ _ hc2]
  exact hk _ _ (by rw [List.append_nil];exact hown) ⟨rfl,rfl,rfl,Nat.le_refl _,fun _ _ _=>rfl⟩
 | cons x0 l0 =>
  obtain ⟨b,o,_,hA0,_⟩:=hel 0 x0 (by rw [hl];rfl)
  subst hA0
  rw [← hl]
  refine op_appendE (l':=l') Tryz.underlying22 ty32 rfl (by decide) (fun _=>rfl) (fun x _=>ETerm.one (w:=w) (t:=x) rfl) hown (fun j y hy=>?_) hbase ?_ (by omega) hk
  · obtain ⟨b',o',cs,e1,_,hA,e2⟩:=hel j y hy
    injection e1 with e1
    injection e1 with e1 e3
    subst e1 e3 e2
    exact hA
  · exact Nat.le_trans (Nat.mul_le_mul (Nat.add_le_add h1 h2) hby) (by decide)
def sum2 (a b:List TermD) (k:Nat):Nat:=(if 0 < k then a.length else 0)+(if 1 < k then b.length else 0)
def cat2 (a b:List TermD) (k:Nat):List TermD:=(if 0 < k then a else [])++(if 1 < k then b else [])
theorem Concat_ret (w0:World) (g:Nat) (va vb:Value) (a b:List TermD) (ha:TermsOf w0 va a) (hb:TermsOf w0 vb b) (hg:w0.heap[g]?=some (.cells #[va,vb] 22 (0,0))) (hla:a.length≤1000) (hlb:b.length≤1000) :
 Ret Pg 72 #[.slice (some ⟨g,0,none⟩) 2 2] w0 fun r w'=>OwnE w' w0.heap.size TTm 2 termCells r (a++b)∧Ext w0 w':=by
 have ha':=ha
 have hb':=hb
 obtain ⟨A,ca,rfl,_,_,_,_⟩:=SliceOf.open ha
 obtain ⟨B,cb,rfl,_,_,_,_⟩:=SliceOf.open hb
 refine n52s (R:=retR _) ?_;unfold n52
 simp (disch:=try exact DI) only [↓PR,QR,simprocAttr]
 have hk2:∀ k:Nat,k < 2→∃ D cd l,w0.cell? ⟨g,k*1,none⟩=some (.slice D l.length cd)∧l.length≤1000∧TermsOf w0 (.slice D l.length cd) l∧sum2 a b (k+1)=sum2 a b k+l.length∧cat2 a b (k+1)=cat2 a b k++l:=by
  intro k hk
  obtain rfl | rfl:k=0∨k=1:=by omega
  · exact ⟨A,ca,a,(cells_of_heap hg).1 _,hla,ha',by simp [sum2],by simp [cat2]⟩
  · exact ⟨B,cb,b,(cells_of_heap hg).1 _,hlb,hb',by simp [sum2],by simp [cat2]⟩
 have hs2:∀ k,sum2 a b k≤2000:=fun k=>by unfold sum2;split<;>split<;>omega
 have hc2:∀ k,(cat2 a b k).length≤2000:=fun k=>by unfold cat2;split<;>split<;>simp<;>omega
 refine loop2_intro (fun x i w=>∃ k:Nat,i = .int .i64 k∧k≤2∧x = .int .i64 (sum2 a b k)∧w=w0) (fun _ i _=>2 - (intOf i).toNat) ⟨0,rfl,by omega,rfl,rfl⟩ ?_
 rintro _ _ w ⟨k,rfl,hk,rfl,rfl⟩
 unfold n52c5
 by_cases hlt:k < 2
 · obtain ⟨D,cd,l,h1,h2,_,h4,_⟩:=hk2 k hlt
   have hdec:decide ((k:Int) < 2)=true:=decide_eq_true (by omega)
   have hw:IntKind.i64.wrap ((sum2 a b k:Int)+(l.length:Int))=((sum2 a b (k+1):Nat):Int):=by
    have:=hs2 k
    rw [wrap_ok (by omega) (by omega),h4]
    omega
   have d0:decide (IntKind.i64.wrap ((sum2 a b k:Int)+(l.length:Int)) < 0)=false:=by rw [hw];simp
   simp (disch:=try exact DI) only [↓PR,QR,simprocAttr,hdec]
   unfold n52c4
   simp (disch:=try exact DI) only [↓PR,QR,simprocAttr,hdec,h1,d0]
   exact ⟨⟨k+1,rfl,hlt,by rw [hw],trivial⟩,meas_lt (kd := .i64) hlt⟩
 · have:k=2:=by omega
   subst this
   simp (disch:=try exact DI) only [↓PR,QR,simprocAttr]
   refine callK_ret (Grow_ret w (sum2 a b 2) (Nat.le_trans (hs2 2) (by decide))) ?_
   rintro gv w1 ⟨hO1,e1⟩
   unfold n52c3
   simp (disch:=try exact DI) only [↓PR,QR,simprocAttr]
   refine loop2_intro (fun x i w'=>∃ k:Nat,i = .int .i64 k∧k≤2∧Ext w w'∧OwnE w' w.heap.size TTm 2 termCells x (cat2 a b k)) (fun _ i _=>2 - (intOf i).toNat) ⟨0,rfl,by omega,e1,hO1⟩ ?_
   rintro tv _ w2 ⟨k,rfl,hk,e2,hO2⟩
   by_cases hlt:k < 2
   · obtain ⟨D,cd,l,h1,h2,hT,_,h5⟩:=hk2 k hlt
     have hdec:decide ((k:Int) < 2)=true:=decide_eq_true (by omega)
     simp (disch:=try exact DI) only [↓PR,QR,simprocAttr,hdec]
     unfold n52c2
     simp (disch:=try exact DI) only [↓PR,QR,simprocAttr,hdec,e2.cell h1]
     refine append_terms hO2 (hT.ext e2) e2.size (by have:=hc2 k;omega) (by omega) ?_
     intro v' w' hO' hg'
     have hr:∀ g,tv.ownBlock=some g→w.heap.size≤g:=fun g hb=>(World.ownsRow.lt hO2 g hb).1
     simp (disch:=try exact DI) only [↓PR,QR,simprocAttr]
     exact ⟨⟨k+1,rfl,hlt,e2.grown hg' hr,by rw [h5];exact hO'⟩,meas_lt (kd := .i64) hlt⟩
   · have:k=2:=by omega
     subst this
     simp (disch:=try exact DI) only [↓PR,QR,simprocAttr]
     exact ⟨hO2,e2⟩
def delL (L:List (ByteArray×Value×Nat)) (k:ByteArray):List (ByteArray×Value×Nat):=L.filter fun x=>decide (x.1≠k)
theorem erase_del:∀ (L:List (ByteArray×Value×Nat)) (k:ByteArray) (j:Nat) (x:ByteArray×Value×Nat),L.Pairwise (fun x y=>x.1≠y.1)→L[j]?=some x→x.1=k→L.eraseIdx j=delL L k
 | [],_,_,_,_,h,_=>by simp at h
 | y::L,k,0,x,hp,h,hk=>by
  simp only [List.getElem?_cons_zero,Option.some.injEq] at h
  subst h
  rw [List.pairwise_cons] at hp
  unfold delL
  rw [List.eraseIdx_cons_zero,List.filter_cons,if_neg (by simp [hk])]
  refine (List.filter_eq_self.2 fun z hz=>?_).symm
  have:=hp.1 z hz
  rw [hk] at this
  exact decide_eq_true (Ne.symm this)
 | y::L,k,j+1,x,hp,h,hk=>by
  rw [List.getElem?_cons_succ] at h
  rw [List.pairwise_cons] at hp
  have hy:y.1≠k:=by
   rw [← hk]
   exact hp.1 x (List.mem_of_getElem? h)
  have ih:=erase_del L k j x hp.2 h hk
  unfold delL at ih ⊢
  rw [List.eraseIdx_cons_succ,ih,List.filter_cons,if_pos (by simp [hy])]
theorem del_none {L:List (ByteArray×Value×Nat)} {k:ByteArray} (h:Go.Sw.look L k=none):delL L k=L:=by
 refine List.filter_eq_self.2 fun z hz=>?_
 unfold Go.Sw.look at h
 rw [Option.map_eq_none_iff,List.find?_eq_none] at h
 exact decide_eq_true fun e=>h z hz (decide_eq_true e)
theorem look_del (L:List (ByteArray×Value×Nat)) (k k':ByteArray):Go.Sw.look (delL L k) k'=if k'=k then none else Go.Sw.look L k':=by
 induction L with
 | nil=>unfold delL Go.Sw.look;simp
 | cons x L ih =>
  unfold delL at ih ⊢
  rw [List.filter_cons]
  by_cases hx:x.1=k
  · rw [if_neg (by simp [hx]),ih,look_cons]
    by_cases hk:k'=k
    · rw [if_pos hk,if_pos hk]
    · rw [if_neg hk,if_neg hk,if_neg (by rw [hx];exact fun e=>hk e.symm)]
  · rw [if_pos (by simp [hx]),look_cons,look_cons,ih]
    by_cases hk:k'=k
    · rw [if_pos hk,if_pos hk,if_neg (by rw [hk];exact hx)]
    · rw [if_neg hk,if_neg hk]
theorem MapS.del {w:World} {r:Nat} {L:List (ByteArray×Value×Nat)} {c:Nat} (h:MapS w r L c) (k:ByteArray):MapS (w.putObj r (mapObjS (delL L k) c)) r (delL L k) c :=
 ⟨World.putObj_heap_same (Array.getElem?_eq_some_iff.1 h.obj).1,fun x hx=>h.lt x (List.mem_filter.1 hx).1,h.births.filter _,h.keys.filter _⟩
theorem erase_map {α β:Type} (f:α→β):∀ (l:List α) (j:Nat),(l.map f).eraseIdx j=(l.eraseIdx j).map f
 | [],_=>rfl
 | _::_,0=>rfl
 | x::l,j+1=>by
  rw [List.map_cons,List.eraseIdx_cons_succ,List.eraseIdx_cons_succ,List.map_cons,erase_map f l j]
theorem op_deleteS {P:Program} {QP:List PanicEntry→World→Prop} {w:World} {k':Value→World→Prop} {mt kt et ty:TypeId} {r:Nat} {L:List (ByteArray×Value×Nat)} {c:Nat} (hm:P.underlying mt=some (.map kt et)) (hk:P.underlying kt=some .string) (h:MapS w r L c) (k:ByteArray) :
 opV P (Builtin.delete_ #[mt,kt] ty #[.map (some r),.string k]) QP w k'=k' (.tuple #[]) (w.putObj r (mapObjS (delL L k) c)):=by
 refine opV_ok ?_
 unfold Builtin.delete_
 have K:=KeyOK.string (P:=P) hk
 have hck:=K.check
 have hset:∀ o,(setObj r o).run P w = .ok () (w.putObj r o):=fun o=>by simp [setObj,Sem.run,h.obj,World.putObj]
 rcases run_findKey (P:=P) (w:=w) K k L with ⟨j,x,h1,h2,h3,h4,h5,h6⟩ | ⟨h1,h2,h3⟩
 · have he:(L.map (mkE fun s:ByteArray=>Value.string s)).eraseIdx j=(delL L k).map (mkE fun s:ByteArray=>Value.string s):=by
    rw [erase_map,erase_del L k j x h.keys h1 h2]
   simp [run_underlying hm,run_getMap h,hck,h6,hset,he,mapObj]
 · simp [run_underlying hm,run_getMap h,hck,h3,hset,mapObj,del_none h2]
def addF (s:ByteArray) (l:List TermD):Int:=l.foldl (fun n t=>if t.field=s then IntKind.i64.wrap (n+t.factor) else n) 0
theorem addF_snoc (s:ByteArray) (l:List TermD) (t:TermD):addF s (l++[t])=if t.field=s then IntKind.i64.wrap (addF s l+t.factor) else addF s l:=by
 unfold addF
 rw [List.foldl_append]
 rfl
def SumL (L:List (ByteArray×Value×Nat)) (l:List TermD):Prop:=∀ s,Go.Sw.look L s=if addF s l=0 then none else some (.int .i64 (addF s l))
theorem SumL.nil:SumL [] []:=fun s=>rfl
theorem SumL.get {L:List (ByteArray×Value×Nat)} {l:List TermD} (h:SumL L l) (s:ByteArray):(Go.Sw.look L s).getD (.int .i64 0) = .int .i64 (addF s l):=by
 rw [h s]
 split
 · rename_i h0
   rw [h0]
   rfl
 · rfl
theorem SumL.put {L:List (ByteArray×Value×Nat)} {l:List TermD} (h:SumL L l) (t:TermD) (c:Nat) (h0:addF t.field (l++[t])≠0):SumL (putL L c t.field (.int .i64 (addF t.field (l++[t])))) (l++[t]):=fun s=>by
 rw [look_put]
 by_cases hs:s=t.field
 · rw [if_pos hs,hs,if_neg h0]
 · have hs':¬ t.field=s:=fun e=>hs e.symm
   rw [if_neg hs,h s,addF_snoc]
   simp only [hs',if_false]
theorem SumL.del {L:List (ByteArray×Value×Nat)} {l:List TermD} (h:SumL L l) (t:TermD) (c:Nat) (v:Value) (h0:addF t.field (l++[t])=0):SumL (delL (putL L c t.field v) t.field) (l++[t]):=fun s=>by
 rw [look_del]
 by_cases hs:s=t.field
 · rw [if_pos hs,hs,if_pos h0]
 · have hs':¬ t.field=s:=fun e=>hs e.symm
   rw [if_neg hs,look_put,if_neg hs,h s,addF_snoc]
   simp only [hs',if_false]
theorem add_loop {W w1:World} {m base:Nat} {all:List TermD} {tv t2 t3 t4:Value} {c0:Nat} {R:RT} (hW:W.heap.size≤m) (e1:Ext W w1) (hm:MapS w1 m [] c0) (hO:OwnE w1 base TTm 2 termCells tv all) (hbm:m < base)
 (hK:∀ w' L c,Ext W w'→MapS w' m L c→SumL L all→drawK w' fun C4 w=>n18c10 t2 t3 t4 (.map (some m)) C4 R w) :
 n18c12 t2 t3 t4 (.map (some m)) tv R w1:=by
 obtain ⟨A,ca,htv,_,_,_,_⟩:=SliceOf.open (own_terms hO)
 subst htv
 unfold n18c12
 simp (disch:=try exact DI) only [↓PR,QR,simprocAttr]
 refine loop1_intro (fun i w=>∃ (k:Nat) (L:List (ByteArray×Value×Nat)) (c:Nat),i = .int .i64 k∧k≤all.length∧Ext W w∧MapS w m L c∧SumL L (all.take k)∧OwnE w base TTm 2 termCells (.slice A all.length ca) all) (fun i _=>all.length - (intOf i).toNat) ⟨0,[],c0,rfl,by omega,e1,hm,SumL.nil,hO⟩ ?_
 rintro _ w ⟨k,L,c,rfl,hk,e,hM,hS,hO⟩
 by_cases hlt:k < all.length
 · obtain ⟨x,hx⟩:=getElem?_lt hlt
   obtain ⟨A',ca',hv,_,_,_,hel⟩:=SliceOf.open (own_terms hO)
   injection hv with hv _ hv'
   subst hv hv'
   obtain ⟨b,o,cs,rfl,hl,hA,rfl⟩:=hel k x hx
   have hdec:decide ((k:Int) < (all.length:Int))=true:=by simp;omega
   have er:=Ext.refl w
   simp (disch:=try exact DI) only [↓PR,QR,simprocAttr,hdec]
   unfold n18c11
   simp (disch:=try exact DI) only [↓PR,QR,simprocAttr,hdec,(hA.c2 er).1,(hA.c2 er).2]
   have eA:Ext w (w.alloc (.cells #[.string x.field,.int .i64 x.factor] TTm)):=(Ext.refl _).alloc _
   have oX:(w.alloc (.cells #[.string x.field,.int .i64 x.factor] TTm)).heap[w.heap.size]?=some (.cells #[.string x.field,.int .i64 x.factor] TTm (0,0)):=World.alloc_heap_new w _
   have hml:m < w.heap.size:=(Array.getElem?_eq_some_iff.1 hM.obj).1
   have hO2:=hO.ext eA
   have hM2:MapS _ m L c:=hM.ext eA
   have e2:=e.trans eA
   generalize w.alloc (.cells #[.string x.field,.int .i64 x.factor] TTm)=w2 at *
   have hnm:w.heap.size≠m:=by omega
   generalize w.heap.size=p at *
   have hv:IntKind.i64.wrap (addF x.field (all.take k)+x.factor)=addF x.field (all.take k++[x]):=by rw [addF_snoc,if_pos rfl]
   rw [op_lookup1S Tryz.underlying35 Tryz.underlying9 ty3 hM2,hS.get]
   simp (disch:=try exact DI) only [↓PR,QR,simprocAttr,(cells_of_heap oX).1]
   rw [op_mapUpdateS Tryz.underlying35 Tryz.underlying9 hM2,hv]
   have hM3:=hM2.put x.field (.int .i64 (addF x.field (all.take k++[x])))
   have oX3:(w2.putObj m (mapObjS (putL L c x.field (.int .i64 (addF x.field (all.take k++[x])))) (putC L c x.field))).heap[p]?=some (.cells #[.string x.field,.int .i64 x.factor] TTm (0,0)):=(World.putObj_heap_other hnm).trans oX
   have e3:Ext W (w2.putObj m (mapObjS (putL L c x.field (.int .i64 (addF x.field (all.take k++[x])))) (putC L c x.field))):=e2.putObj hW _
   have hO3:OwnE (w2.putObj m (mapObjS (putL L c x.field (.int .i64 (addF x.field (all.take k++[x])))) (putC L c x.field))) base TTm 2 termCells (.slice (some ⟨b,o,none⟩) all.length ca) all:=OwnE.keep hO2 fun g hg=>World.putObj_heap_other (by have:=(World.ownsRow.lt hO2 g hg).1;omega)
   change MapS (w2.putObj m (mapObjS (putL L c x.field (.int .i64 (addF x.field (all.take k++[x])))) (putC L c x.field))) m _ _ at hM3
   generalize w2.putObj m (mapObjS (putL L c x.field (.int .i64 (addF x.field (all.take k++[x])))) (putC L c x.field))=w3 at *
   simp (disch:=try exact DI) only [↓PR,QR,simprocAttr,(cells_of_heap oX3).1]
   rw [op_lookup1S Tryz.underlying35 Tryz.underlying9 ty3 hM3,look_put,if_pos rfl,Option.getD_some]
   have hts:all.take (k+1)=all.take k++[x]:=take_snoc hx
   by_cases h0:addF x.field (all.take k++[x])=0
   · have hd0:(addF x.field (all.take k++[x]) == 0)=true:=by simpa using h0
     simp (disch:=try exact DI) only [↓PR,QR,simprocAttr,hd0]
     unfold n18c1
     simp (disch:=try exact DI) only [↓PR,QR,simprocAttr,(cells_of_heap oX3).1]
     rw [op_deleteS Tryz.underlying35 Tryz.underlying9 hM3]
     simp (disch:=try exact DI) only [↓PR,QR,simprocAttr]
     exact ⟨⟨k+1,_,_,rfl,hlt,e3.putObj hW _,MapS.del hM3 x.field,by rw [hts];exact hS.del x c _ h0,OwnE.keep hO3 fun g hg=>World.putObj_heap_other (by have:=(World.ownsRow.lt hO3 g hg).1;omega)⟩,meas_lt (kd := .i64) hlt⟩
   · have hd0:(addF x.field (all.take k++[x]) == 0)=false:=by simpa using h0
     simp (disch:=try exact DI) only [↓PR,QR,simprocAttr,hd0]
     exact ⟨⟨k+1,_,_,rfl,hlt,e3,hM3,by rw [hts];exact hS.put x c h0,hO3⟩,meas_lt (kd := .i64) hlt⟩
 · have hk':k=all.length:=by omega
   subst hk'
   have hdec:decide ((all.length:Int) < (all.length:Int))=false:=by simp
   rw [List.take_length] at hS
   simp (disch:=try exact DI) only [↓PR,QR,simprocAttr,hdec]
   exact hK w L c e hM hS
def dedupB:List ByteArray→List ByteArray
 | []=>[]
 | x::l=>if l.any (fun y=>decide (y=x)) then dedupB l else x::dedupB l
theorem any_memB {x:ByteArray} {l:List ByteArray}:l.any (fun y=>decide (y=x))=true↔x∈l:=by
 rw [List.any_eq_true]
 constructor
 · rintro ⟨y,hy,h⟩
   rw [← of_decide_eq_true h];exact hy
 · intro h
   exact ⟨x,h,decide_eq_true rfl⟩
theorem mem_dedupB {s:ByteArray}:∀ {l:List ByteArray},s∈dedupB l↔s∈l
 | []=>Iff.rfl
 | x::l=>by
  unfold dedupB
  by_cases h:x∈l
  · rw [if_pos (any_memB.2 h),mem_dedupB,List.mem_cons]
    exact ⟨.inr,fun h1=>h1.elim (fun e=>by rw [e];exact h) id⟩
  · rw [if_neg (fun e=>h (any_memB.1 e)),List.mem_cons,List.mem_cons,mem_dedupB]
theorem nodup_dedupB:∀ (l:List ByteArray),(dedupB l).Nodup
 | []=>List.nodup_nil
 | x::l=>by
  unfold dedupB
  by_cases h:x∈l
  · rw [if_pos (any_memB.2 h)];exact nodup_dedupB l
  · rw [if_neg (fun e=>h (any_memB.1 e)),List.nodup_cons,mem_dedupB]
    exact ⟨h,nodup_dedupB l⟩
def sumT1 (l:List TermD):List TermD:=(sortB ((dedupB (l.map (·.field))).filter fun s=>decide (addF s l≠0))).map fun s=>⟨s,addF s l⟩
theorem addF_mem {s:ByteArray}:∀ {l:List TermD},addF s l≠0→s∈l.map (·.field):=by
 intro l h
 refine Classical.byContradiction fun hn=>h ?_
 have:∀ (l:List TermD) (n:Int),s ∉ l.map (·.field)→l.foldl (fun n t=>if t.field=s then IntKind.i64.wrap (n+t.factor) else n) n=n:=by
  intro l
  induction l with
  | nil=>intro n _;rfl
  | cons t l ih =>
   intro n hn
   rw [List.map_cons,List.mem_cons] at hn
   rw [List.foldl_cons,if_neg (fun e=>hn (.inl e.symm))]
   exact ih n fun h=>hn (.inr h)
 exact this l 0 hn
theorem SumL.keys {L:List (ByteArray×Value×Nat)} {l:List TermD} (h:SumL L l) (s:ByteArray):s∈L.map (·.1)↔addF s l≠0:=by
 constructor
 · intro hs h0
   obtain ⟨x,hx,rfl⟩:=List.mem_map.1 hs
   have:=h x.1
   rw [if_pos h0] at this
   unfold Go.Sw.look at this
   rw [Option.map_eq_none_iff,List.find?_eq_none] at this
   exact this x hx (decide_eq_true rfl)
 · intro h0
   have:=h s
   rw [if_neg h0] at this
   obtain ⟨x,hx,he,_⟩:=look_has this
   exact List.mem_map.2 ⟨x,hx,he⟩
theorem SumL.ints {w:World} {m:Nat} {L:List (ByteArray×Value×Nat)} {c:Nat} {l:List TermD} (h:SumL L l) (hm:MapS w m L c):IntsL L:=fun x hx=>by
 have h1:=look_mem hm hx
 rw [h x.1] at h1
 split at h1
 · cases h1
 · injection h1 with h1
   exact ⟨_,h1.symm⟩
theorem SumL.terms {w:World} {m:Nat} {L:List (ByteArray×Value×Nat)} {c:Nat} {l:List TermD} (h:SumL L l) (hm:MapS w m L c):termsM L=sumT1 l:=by
 have hk:sortB (L.map (·.1))=sortB ((dedupB (l.map (·.field))).filter fun s=>decide (addF s l≠0)):=by
  refine strict_ext (sortB_strict (keys_nodup hm)) (sortB_strict ((nodup_dedupB _).filter _)) fun s=>?_
  rw [mem_sortB,mem_sortB,h.keys,List.mem_filter,mem_dedupB,decide_eq_true_eq]
  exact ⟨fun h0=>⟨addF_mem h0,h0⟩,fun h0=>h0.2⟩
 unfold termsM sumT1
 rw [hk]
 refine List.map_congr_left fun s hs=>?_
 rw [mem_sortB,List.mem_filter,decide_eq_true_eq] at hs
 unfold facOf
 rw [h s,if_neg hs.2]
theorem SumL.len {w:World} {m:Nat} {L:List (ByteArray×Value×Nat)} {c:Nat} {l:List TermD} (h:SumL L l) (hm:MapS w m L c):L.length≤l.length:=by
 have:=nodup_len (b:=l.map (·.field)) (keys_nodup hm) fun s hs=>addF_mem ((h.keys s).1 hs)
 rwa [List.length_map,List.length_map] at this
theorem add1_ret (w0:World) (t:TermD):Ret Pg 74 #[termVal t] w0 fun r w'=>r = .bool (!smallB t.factor)∧Ext w0 w':=by
 unfold termVal
 refine n19s (R:=retR _) ?_;unfold n19
 simp (disch:=try exact DI) only [↓PR,QR,simprocAttr]
 refine zcr (small_ret _ t.factor) fun w1 e1=>?_
 simp (disch:=try exact DI) only [↓PR,QR,simprocAttr]
 exact ⟨by first | trivial | rfl,ee⟩
def addP (ba:Int) (ta:List TermD) (bb:Int) (tb:List TermD):Int×List TermD×Int :=
 if sizeB ba ta&&sizeB bb tb then
  (if !smallB (IntKind.i64.wrap (ba+bb))||(sumT1 (ta++tb)).any (fun t=>!smallB t.factor) then (0,[],3)
  else if (sumT1 (ta++tb)).length > 4 then (0,[],7) else (IntKind.i64.wrap (ba+bb),sumT1 (ta++tb),0))
 else (0,[],2)
theorem Contains_Term_ret (w0:World) (v:Value) (l:List TermD) (g:FuncId) (caps:Array Value) (p:TermD→Bool) (hs:TermsOf w0 v l) (hg:Callable Pg g) (hc:Tests w0 (fun _ v x=>v=termVal x) g caps p l) :
 Ret Pg 47 #[v,.func (.func g) #[] caps] w0 fun r w'=>r = .bool (l.any p)∧Ext w0 w':=by
 refine n53s (R:=retR _) ?_;unfold n53
 refine zcr (IndexFunc_Term_ret w0 v l g caps p hs hg hc) fun w1 e1=>?_
 simp (disch:=try exact DI) only [↓PR,QR,simprocAttr]
 rw [← idx_neg]
 exact ⟨by trivial,e1⟩
abbrev AddR (w0:World) (q:Int×List TermD×Int):Ending→World→Prop:=retR fun u w'=>(∃ tv,u = .tuple #[.agg #[.int .i64 q.1,tv],.int .i64 q.2.2]∧OwnE w' w0.heap.size TTm 2 termCells tv q.2.1)∧Ext w0 w'
theorem add_wrong7 {w0 w:World} {p4:Nat} {q:Int×List TermD×Int} (e:Ext w0 w) (h4:w.heap[p4]?=some (.cells #[.int .i64 0,.slice none 0 0] TSz (0,0))) (l4:w0.heap.size≤p4) (hq:q=(0,[],7)):n18c2 (.pointer (some ⟨p4,0,none⟩)) (AddR w0 q) w:=by
 have hh:=(cells_of_heap h4)
 unfold n18c2
 simp (disch:=try exact DI) only [↓PR,QR,simprocAttr,hh.1,hh.2]
 rw [hq]
 exact ⟨⟨_,rfl,OwnE.nil _ _ _ _ _⟩,(e.setCell (p:=⟨p4,0,none⟩) l4 _).setCell (p:=⟨p4,1,none⟩) l4 _⟩
theorem add_wrong3 {w0 w:World} {p4:Nat} {q:Int×List TermD×Int} (e:Ext w0 w) (h4:w.heap[p4]?=some (.cells #[.int .i64 0,.slice none 0 0] TSz (0,0))) (l4:w0.heap.size≤p4) (hq:q=(0,[],3)):n18c4 (.pointer (some ⟨p4,0,none⟩)) (AddR w0 q) w:=by
 have hh:=(cells_of_heap h4)
 unfold n18c4
 simp (disch:=try exact DI) only [↓PR,QR,simprocAttr,hh.1,hh.2]
 rw [hq]
 exact ⟨⟨_,rfl,OwnE.nil _ _ _ _ _⟩,(e.setCell (p:=⟨p4,0,none⟩) l4 _).setCell (p:=⟨p4,1,none⟩) l4 _⟩
theorem add_wrong2 {w0 w:World} {p4:Nat} {q:Int×List TermD×Int} (e:Ext w0 w) (h4:w.heap[p4]?=some (.cells #[.int .i64 0,.slice none 0 0] TSz (0,0))) (l4:w0.heap.size≤p4) (hq:q=(0,[],2)):n18c13 (.pointer (some ⟨p4,0,none⟩)) (AddR w0 q) w:=by
 have hh:=(cells_of_heap h4)
 unfold n18c13
 simp (disch:=try exact DI) only [↓PR,QR,simprocAttr,hh.1,hh.2]
 rw [hq]
 exact ⟨⟨_,rfl,OwnE.nil _ _ _ _ _⟩,(e.setCell (p:=⟨p4,0,none⟩) l4 _).setCell (p:=⟨p4,1,none⟩) l4 _⟩
theorem add_tail {w0 w:World} {p4 p9 B:Nat} {b:Int} {ts:List TermD} {tv:Value} {q:Int×List TermD×Int} (e:Ext w0 w) (h4:w.heap[p4]?=some (.cells #[.int .i64 0,.slice none 0 0] TSz (0,0))) (h9:w.heap[p9]?=some (.cells #[.int .i64 b,tv] TSz (0,0))) (hO:OwnE w B TTm 2 termCells tv ts) (l4:w0.heap.size≤p4) (hB:p4 < B)
 (hq:q=if !smallB b||ts.any (fun t=>!smallB t.factor) then (0,[],3) else if ts.length > 4 then (0,[],7) else (b,ts,0)) :
 n18c7 (.pointer (some ⟨p4,0,none⟩)) (.pointer (some ⟨p9,0,none⟩)) (AddR w0 q) w:=by
 unfold n18c7
 simp (disch:=try exact DI) only [↓PR,QR,simprocAttr,(cells_of_heap h9).1]
 refine zcr (small_ret w b) fun w1 e1=>?_
 unfold n18c6
 cases hb:smallB b with
 | false =>
  rw [hb] at hq
  simp (disch:=try exact DI) only [↓PR,QR,simprocAttr]
  exact add_wrong3 (e.trans e1) (e1.obj h4) l4 hq
 | true =>
  rw [hb] at hq
  simp (disch:=try exact DI) only [↓PR,QR,simprocAttr,(cells_of_heap (e1.obj h9)).1]
  refine zcr (Contains_Term_ret w1 tv ts _ _ (fun t=>!smallB t.factor) ((own_terms hO).ext e1) c74 (fun w t _ _ _ hv=>by subst hv;simpa using add1_ret w _)) fun w2 e2=>?_
  have e12:=e1.trans e2
  cases hany:ts.any (fun t=>!smallB t.factor) with
  | true =>
   rw [hany] at hq
   simp (disch:=try exact DI) only [↓PR,QR,simprocAttr]
   exact add_wrong3 (e.trans e12) (e12.obj h4) l4 hq
  | false =>
   rw [hany] at hq
   simp only [Bool.not_true,Bool.or_self,Bool.false_eq_true,if_false] at hq
   have g9:=(cells_of_heap (e12.obj h9))
   have g4:=(cells_of_heap (e12.obj h4))
   have hO2:=hO.ext e12
   have ht1:=SliceOf.oneCell (own_terms hO2)
   obtain ⟨A,c,htv,_,_,_,_⟩:=SliceOf.open (own_terms hO2)
   subst htv
   simp (disch:=try exact DI) only [↓PR,QR,simprocAttr]
   unfold n18c5
   by_cases hl:ts.length > 4
   · have hd:decide ((ts.length:Int) > 4)=true:=decide_eq_true (by omega)
     rw [if_pos hl] at hq
     simp (disch:=try exact DI) only [↓PR,QR,simprocAttr,g9.1,hd]
     exact add_wrong7 (e.trans e12) (e12.obj h4) l4 hq
   · have hd:decide ((ts.length:Int) > 4)=false:=decide_eq_false (by omega)
     rw [if_neg hl] at hq
     simp (disch:=try exact DI) only [↓PR,QR,simprocAttr,g9.1,hd]
     unfold n18c3
     simp (disch:=try exact DI) only [↓PR,QR,simprocAttr,g9.1,g4.1,g4.2]
     rw [hq]
     refine ⟨⟨_,rfl,OwnE.base (OwnE.keep hO2 fun g hg=>?_) (by omega)⟩,((e.trans e12).setCell (p:=⟨p4,0,none⟩) l4 _).setCell (p:=⟨p4,1,none⟩) l4 _⟩
     have:=(World.ownsRow.lt hO2 g hg).1
     rw [Only.setCell _ p4 _ _ g (by omega),Only.setCell _ p4 _ _ g (by omega)]
theorem add_mid {w0 w:World} {p2 p3 p4 m c:Nat} {ba bb:Int} {tva tvb:Value} {L:List (ByteArray×Value×Nat)} {all:List TermD} {q:Int×List TermD×Int} (e:Ext w0 w) (o2:w.heap[p2]?=some (.cells #[.int .i64 ba,tva] TSz (0,0))) (o3:w.heap[p3]?=some (.cells #[.int .i64 bb,tvb] TSz (0,0)))
 (h4:w.heap[p4]?=some (.cells #[.int .i64 0,.slice none 0 0] TSz (0,0))) (hM:MapS w m L c) (hS:SumL L all) (hl:all.length≤1000) (l4:w0.heap.size≤p4)
 (hq:q=if !smallB (IntKind.i64.wrap (ba+bb))||(sumT1 all).any (fun t=>!smallB t.factor) then (0,[],3) else if (sumT1 all).length > 4 then (0,[],7) else (IntKind.i64.wrap (ba+bb),sumT1 all,0)) :
 drawK w fun C4 w=>n18c10 (.pointer (some ⟨p2,0,none⟩)) (.pointer (some ⟨p3,0,none⟩)) (.pointer (some ⟨p4,0,none⟩)) (.map (some m)) C4 (AddR w0 q) w:=by
 have hpl:=(Array.getElem?_eq_some_iff.1 h4).1
 refine drawK_intro ?_
 have eD:Ext w w.drew:=(Ext.refl w).drew
 have i2:=(cells_of_heap (eD.obj o2)).1
 have i3:=(cells_of_heap (eD.obj o3)).1
 have E:=e.trans eD
 have g4:=eD.obj h4
 have hM1:MapS w.drew m L c:=hM.ext eD
 have hlL:L.length≤1048576:=by have:=hS.len hM;omega
 have hz:p4 < w.drew.heap.size:=Nat.lt_of_lt_of_le hpl eD.size
 change n18c10 _ _ _ _ (EC w.drew) _ w.drew
 generalize w.drew=D at *
 unfold n18c10
 simp (disch:=try exact DI) only [↓PR,QR,simprocAttr,i2,i3]
 refine ⟨?_,?_⟩
 · refine callK_ret (sorted_ret D m L c hM1 (hS.ints hM1) hlL) ?_
   rintro tv w1 ⟨hO,e1⟩
   rw [hS.terms hM1] at hO
   refine ⟨e1,?_⟩
   unfold n18c8
   have ht1:=SliceOf.oneCell (own_terms hO)
   simp (disch:=try exact DI) only [↓PR,QR,simprocAttr]
   have eA:Ext w1 (w1.alloc (.cells #[.int .i64 (IntKind.i64.wrap (ba+bb)),tv] TSz)):=(Ext.refl _).alloc _
   refine ⟨e1.trans ((Ext.refl _).alloc _),turnK_intro ?_⟩
   exact add_tail (B:=D.heap.size) ((E.trans e1).trans eA) (eA.obj (e1.obj g4)) (World.alloc_heap_new w1 _) (hO.ext eA) l4 hz hq
 · have eA:Ext D (D.alloc (.cells #[.int .i64 0,.slice none 0 0] TSz)):=(Ext.refl _).alloc _
   refine ⟨eA,?_⟩
   unfold n18c9
   have hn9:(D.alloc (.cells #[.int .i64 0,.slice none 0 0] TSz)).heap[D.heap.size]?=some (.cells #[.int .i64 0,.slice none 0 0] TSz (0,0)):=World.alloc_heap_new D _
   have hzA:(D.alloc (.cells #[.int .i64 0,.slice none 0 0] TSz)).heap.size=D.heap.size+1:=by simp
   have hMA:MapS (D.alloc (.cells #[.int .i64 0,.slice none 0 0] TSz)) m L c:=hM1.ext eA
   change callK _ _ _ _ (D.alloc (.cells #[.int .i64 0,.slice none 0 0] TSz)) _
   generalize D.alloc (.cells #[.int .i64 0,.slice none 0 0] TSz)=D2 at *
   refine callK_ret (sorted_ret D2 m L c hMA (hS.ints hMA) hlL) ?_
   rintro tv w1 ⟨hO,e1⟩
   rw [hS.terms hMA] at hO
   have ht1:=SliceOf.oneCell (own_terms hO)
   have h9:=e1.obj hn9
   refine ⟨eA.trans e1,?_⟩
   simp (disch:=try exact DI) only [↓PR,QR,simprocAttr,(cells_of_heap h9).1,(cells_of_heap h9).2]
   refine turnK_intro ?_
   have hs0:=heap_set (o:=0) h9 (.int .i64 (IntKind.i64.wrap (ba+bb)))
   have hs1:=heap_set (o:=1) hs0 tv
   have hk:∀ g,g≠D.heap.size→((w1.setCell ⟨D.heap.size,0,none⟩ (.int .i64 (IntKind.i64.wrap (ba+bb)))).setCell ⟨D.heap.size,1,none⟩ tv).heap[g]?=w1.heap[g]?:=fun g hg=>by
    rw [Only.setCell _ D.heap.size _ _ g hg,Only.setCell _ D.heap.size _ _ g hg]
   have eF:Ext D ((w1.setCell ⟨D.heap.size,0,none⟩ (.int .i64 (IntKind.i64.wrap (ba+bb)))).setCell ⟨D.heap.size,1,none⟩ tv):=((eA.trans e1).setCell (p:=⟨D.heap.size,0,none⟩) (Nat.le_refl _) _).setCell (p:=⟨D.heap.size,1,none⟩) (Nat.le_refl _) _
   exact add_tail (B:=D2.heap.size) (E.trans eF) (eF.obj g4) hs1 (OwnE.keep hO fun g hg=>hk g (by have:=(World.ownsRow.lt hO g hg).1;omega)) l4 (by omega) hq
theorem Add_ret (w0:World) (va vb:Value) (ba bb:Int) (ta tb:List TermD) (ha:SizeVal w0 va ba ta) (hb:SizeVal w0 vb bb tb) (hla:ta.length≤400) (hlb:tb.length≤400) :
 Ret Pg 29 #[va,vb] w0 fun u w'=>(∃ tv,u = .tuple #[.agg #[.int .i64 (addP ba ta bb tb).1,tv],.int .i64 (addP ba ta bb tb).2.2]∧OwnE w' w0.heap.size TTm 2 termCells tv (addP ba ta bb tb).2.1)∧Ext w0 w':=by
 obtain ⟨tva,rfl,hTa⟩:=ha
 obtain ⟨tvb,rfl,hTb⟩:=hb
 have h1:=SliceOf.oneCell hTa
 have h2:=SliceOf.oneCell hTb
 show Calls _ _ _ _ (AddR w0 (addP ba ta bb tb))
 refine n18s ?_
 unfold n18
 simp (disch:=try exact DI) only [↓PR,QR,simprocAttr]
 generalize hW:World.alloc (World.alloc (World.alloc w0 _) _) _=W
 have e0:Ext w0 W:=by rw [← hW];exact ee
 have o2:W.heap[w0.heap.size]?=some (.cells #[.int .i64 ba,tva] TSz (0,0)):=by rw [← hW];simp (disch:=try exact DI) only [↓PR,QR,simprocAttr]
 have o3:W.heap[w0.heap.size+1]?=some (.cells #[.int .i64 bb,tvb] TSz (0,0)):=by rw [← hW];simp (disch:=try exact DI) only [↓PR,QR,simprocAttr]
 have o4:W.heap[w0.heap.size+1+1]?=some (.cells #[.int .i64 0,.slice none 0 0] TSz (0,0)):=by rw [← hW];simp (disch:=try exact DI) only [↓PR,QR,simprocAttr]
 clear hW
 refine drawK_intro ?_
 have eD:Ext W W.drew:=(Ext.refl W).drew
 have E:=e0.trans eD
 have g2:=eD.obj o2
 have g3:=eD.obj o3
 have g4:=eD.obj o4
 change n18c16 _ _ _ (EC W.drew) _ W.drew
 generalize W.drew=D at *
 unfold n18c16
 simp (disch:=try exact DI) only [↓PR,QR,simprocAttr,(cells_of_heap g2).1,(cells_of_heap g3).1]
 refine zcr (Valid_ret D _ ba ta ⟨tva,rfl,TermsOf.ext hTa E⟩) fun w1 e1=>?_
 refine ⟨e1,callK_ret (Valid_ret w1 _ bb tb ⟨tvb,rfl,(TermsOf.ext hTb E).ext e1⟩) ?_⟩
 rintro _ w2 ⟨rfl,e2⟩
 have e12:=e1.trans e2
 refine ⟨e12,?_⟩
 unfold n18c15
 simp (disch:=try exact DI) only [↓PR,QR,simprocAttr]
 have eY:Ext w2 (w2.alloc (.cells #[.bool (sizeB ba ta),.bool (sizeB bb tb)] 4)):=(Ext.refl _).alloc _
 refine ⟨e12.trans eY,callK_ret (all2_ret rfl _ _ _) ?_⟩
 rintro _ w3 ⟨rfl,e3⟩
 have eX:=(e12.trans eY).trans e3
 refine ⟨eX,?_⟩
 simp only [World.size_alloc]
 cases hv:(sizeB ba ta&&sizeB bb tb) with
 | false =>
  simp (disch:=try exact DI) only [↓PR,QR,simprocAttr]
  exact add_wrong2 (E.trans eX) (eX.obj g4) (by omega) (by unfold addP;rw [hv];rfl)
 | true =>
  simp (disch:=try exact DI) only [↓PR,QR,simprocAttr]
  have EX:=E.trans eX
  have k2:=eX.obj g2
  have k3:=eX.obj g3
  have k4:=eX.obj g4
  have hTa3:=TermsOf.ext hTa EX
  have hTb3:=TermsOf.ext hTb EX
  clear e1 e2 e12 eY e3 eX g2 g3 g4 o2 o3 o4 e0 eD E
  unfold n18c14
  rw [op_makeMap]
  have hm0:MapS (w3.alloc (.map #[] 0)) w3.heap.size [] 0:=MapS.new w3
  have eM:Ext w3 (w3.alloc (.map #[] 0)):=(Ext.refl _).alloc _
  have hzM:(w3.alloc (.map #[] 0)).heap.size=w3.heap.size+1:=by simp
  have i2:=(cells_of_heap (eM.obj k2)).1
  have i3:=(cells_of_heap (eM.obj k3)).1
  generalize w3.alloc (.map #[] 0)=w4 at *
  simp (disch:=try exact DI) only [↓PR,QR,simprocAttr,i2,i3]
  have eC:Ext w4 (w4.alloc (.cells #[tva,tvb] 22)):=(Ext.refl _).alloc _
  have hzC:(w4.alloc (.cells #[tva,tvb] 22)).heap.size=w4.heap.size+1:=by simp
  refine callK_ret (Concat_ret (w4.alloc (.cells #[tva,tvb] 22)) w4.heap.size tva tvb ta tb (hTa3.ext (eM.trans eC)) (hTb3.ext (eM.trans eC)) (World.alloc_heap_new w4 _) (by omega) (by omega)) ?_
  rintro tv w5 ⟨hO,e5⟩
  refine add_loop (W:=w3) (base:=(w4.alloc (.cells #[tva,tvb] 22)).heap.size) (Nat.le_refl _) (eM.trans (eC.trans e5)) (MapB.ext hm0 (eC.trans e5)) hO (by omega) (fun w' L c e hM hS=>?_)
  refine add_mid (EX.trans e) (e.obj k2) (e.obj k3) (e.obj k4) hM hS (by rw [List.length_append];omega) (by omega) ?_
  unfold addP
  rw [hv,if_pos rfl]
section
variable {QP:List PanicEntry→World→Prop} {k:Value→World→Prop} {w:World}
theorem subF (l:List UInt8) (a:Nat) (h:a≤l.length):opV Pg (Instr.sliceAt 9 (.string (mkB l)) (some (.int .i64 (a:Int))) none none) QP w k=k (.string (mkB (l.drop a))) w:=op_subF Tryz.underlying9 l a h
theorem subH (l:List UInt8) (a:Nat) (h:a≤l.length):opV Pg (Instr.sliceAt 9 (.string (mkB l)) none (some (.int .i64 (a:Int))) none) QP w k=k (.string (mkB (l.take a))) w:=op_subH Tryz.underlying9 l a h
theorem subM (l:List UInt8) (a b:Nat) (h:a≤b) (h2:b≤l.length):opV Pg (Instr.sliceAt 9 (.string (mkB l)) (some (.int .i64 (a:Int))) (some (.int .i64 (b:Int))) none) QP w k=k (.string (mkB ((l.drop a).take (b - a)))) w:=op_subM Tryz.underlying9 l a b h h2
end
theorem parse_round {w0 w:World} {p2 p4:Nat} {b:Int} {ts:List TermD} {tv:Value} {text:ByteArray} {l:List UInt8} {f:Nat} {K1:World→Prop} {next:Value→World→Prop} (hE:EnvOK w0) (h:PZ w0 w p2 p4 b ts tv) (hts:ts.length≤1048576) (hl:l.length≤100000)
 (hK:pGo (f+1) l b ts=some (b,ts)→∀ w',PZ w0 w' p2 p4 b ts tv→K1 w') (hX:pGo (f+1) l b ts=none→parseZ text=(0,[],6))
 (hN:∀ l' b' ts' tv' w',l'.length < l.length→pGo (f+1) l b ts=pGo f l' b' ts'→ts'.length≤ts.length+1→PZ w0 w' p2 p4 b' ts' tv'→next (.string (mkB l')) w') :
 n31c15 (.pointer (some ⟨p2,0,none⟩)) (.pointer (some ⟨p4,0,none⟩)) (.string (mkB l)) K1 next (PRt w0 text) w:=by
 have hp:pGo (f+1) l b ts=if l=[] then some (b,ts) else if l.all signB=true∨1 < (l.takeWhile signB).length then some (b,ts) else
  match onePart (l.takeWhile signB) ((l.dropWhile signB).takeWhile fun c=>!signB c) with
  | none=>none
  | some q=>if q.2=[] then pGo f ((l.dropWhile signB).dropWhile fun c=>!signB c) (IntKind.i64.wrap (b+q.1)) ts else pGo f ((l.dropWhile signB).dropWhile fun c=>!signB c) b (ts++[⟨mkB q.2,q.1⟩]):=rfl
 unfold n31c15
 have hd:decide (mkB l=⟨#[]⟩)=decide (l=[]):=decide_eq_decide.2 ⟨fun h=>mkB_inj (b:=[]) h,fun h=>by rw [h];rfl⟩
 by_cases hl0:l=[]
 · rw [if_pos hl0] at hp
   simp (disch:=try exact DI) only [↓PR,QR,simprocAttr,hd,hl0]
   exact hK hp _ h
 · rw [if_neg hl0] at hp
   have hd0:decide (mkB l=⟨#[]⟩)=false:=by rw [hd];exact decide_eq_false hl0
   simp (disch:=try exact DI) only [↓PR,QR,simprocAttr,hd0]
   refine zcr (Signs_ret w (mkB l)) fun w1 e1=>?_
   have h1:=h.ext e1
   rw [show (mkB l).data.toList=l by simp [mkB]]
   by_cases hall:l.all signB=true
   · rw [if_pos (.inl hall)] at hp
     rw [if_pos hall]
     simp (disch:=try exact DI) only [↓PR,QR,simprocAttr,↓n31c14]
     exact hK hp _ h1
   rw [if_neg hall]
   by_cases hone:1 < (l.takeWhile signB).length
   · rw [if_pos (.inr hone)] at hp
     have g0:decide (((l.takeWhile signB).length:Int) < 0)=false:=by simp
     have g1:decide (((l.takeWhile signB).length:Int) > 1)=true:=decide_eq_true (by omega)
     have g1':decide (1 < ((l.takeWhile signB).length:Int))=true:=decide_eq_true (by omega)
     simp (disch:=try exact DI) only [↓PR,QR,simprocAttr,↓n31c14,g0,g1,g1']
     exact hK hp _ h1
   rw [if_neg (by simp only [hall,hone,or_self];simp)] at hp
   have hSD:l.takeWhile signB++l.dropWhile signB=l:=List.takeWhile_append_dropWhile
   have hpr:(l.dropWhile signB).takeWhile (fun c=>!signB c)++(l.dropWhile signB).dropWhile (fun c=>!signB c)=l.dropWhile signB:=List.takeWhile_append_dropWhile
   have hD0:l.dropWhile signB≠[]:=by
    intro h0
    rw [h0,List.append_nil] at hSD
    refine hall ?_
    rw [← hSD]
    exact List.all_takeWhile
   have hp0:(l.dropWhile signB).takeWhile (fun c=>!signB c)≠[]:=by
    obtain ⟨c,D',hc⟩:=List.exists_cons_of_ne_nil hD0
    have hcs:signB c=false:=by
     have:=List.head_dropWhile_not signB hD0
     simp only [hc,List.head_cons] at this
     simpa using this
    rw [hc,List.takeWhile_cons,hcs]
    simp
   generalize l.takeWhile signB=S at *
   generalize l.dropWhile signB=D at *
   have d1:l.drop S.length=D:=by rw [← hSD,List.drop_left]
   have t1:l.take S.length=S:=by rw [← hSD,List.take_left]
   have lenl:l.length=S.length+D.length:=by rw [← hSD,List.length_append]
   have g0:decide ((S.length:Int) < 0)=false:=by simp
   have g1:decide ((S.length:Int) > 1)=false:=by simp;omega
   have g1':decide (1 < (S.length:Int))=false:=by simp;omega
   have i1:Szb (mkB D) 100000:=⟨by rw [mkB_size];omega⟩
   simp (disch:=try exact DI) only [↓PR,QR,simprocAttr,↓n31c14,g0,g1,g1']
   unfold n31c13
   rw [subF l S.length (by omega),d1,op_saddB _ _ _ _ rfl,show mkB D++⟨#[43]⟩=mkB (D++[43]) from mkB_app D [43]]
   refine zcr (Next_ret w1 D (by omega)) fun w2 e2=>?_
   have h2:=h1.ext e2
   generalize (D.takeWhile fun c=>!signB c)=p at *
   generalize (D.dropWhile fun c=>!signB c)=r at *
   have lenD:D.length=p.length+r.length:=by rw [← hpr,List.length_append]
   have d2:l.drop (S.length+p.length)=r:=by rw [← hSD,← hpr,← List.append_assoc,← List.length_append,List.drop_left]
   have d3:(l.drop S.length).take (S.length+p.length - S.length)=p:=by rw [d1,← hpr,Nat.add_sub_cancel_left,List.take_left]
   rw [op_add]
   refine drawK_intro ?_
   have hw:IntKind.i64.wrap ((S.length:Int)+(p.length:Int))=((S.length+p.length:Nat):Int):=by
    rw [wrap_ok (by omega) (by omega)]
    omega
   have hq1:∀ K:Value→Prop,qV Pg (EC (drew w2)) (Instr.sliceAt 9 (.string (mkB l)) none (some (.int .i64 (S.length:Int))) none) K=K (.string (mkB S)):=fun K=>qV_of fun QP w k=>(subH l S.length (by omega)).trans (by rw [t1])
   have hq2:∀ K:Value→Prop,qV Pg (EC (drew w2)) (Instr.sliceAt 9 (.string (mkB l)) (some (.int .i64 (S.length:Int))) (some (.int .i64 ((S.length+p.length:Nat):Int))) none) K=K (.string (mkB p)):=fun K=>qV_of fun QP w k=>(subM l S.length (S.length+p.length) (by omega) (by omega)).trans (by rw [d3])
   unfold n31c12
   rw [hw,hq1,hq2,subF l (S.length+p.length) (by omega),d2]
   have h3:=h2.ext ((Ext.refl w2).drew)
   have hp1:p.length≤100000:=by omega
   refine zcr (CutStar_ret (hE.ext h3.e) p hp1) fun w3 e3=>?_
   have h4:=h3.ext e3
   have final:∀ (F Nm:List UInt8) (w':World),PZ w0 w' p2 p4 b ts tv→F.length≤100000→((p.all starF=true→digitB (p.headD 0)=false→F=[49]∧Nm=p)∧(¬ (p.all starF=true∧digitB (p.headD 0)=false)→F=p.takeWhile starF∧Nm=(p.dropWhile starF).tail)) →
    callK Pg 67 #[.string (mkB F)] (panK (PRt w0 text)) w' fun t62 w=>n31c9 (.pointer (some ⟨p2,0,none⟩)) (.pointer (some ⟨p4,0,none⟩)) (.string (mkB F)) (.string (mkB Nm)) (.string (mkB S)) (.string (mkB r)) t62 next (PRt w0 text) w:=by
    intro F Nm w' h' hF hc
    refine parse_tail (q:=onePart S p) hE h' hts hF (one_part S p F Nm hc) (fun hn=>hX (by rw [hp,hn])) (fun n hn w'' tv' h''=>?_)
    rw [hn] at hp
    simp only at hp
    have hrl:r.length < l.length:=by
     have:p.length≠0:=fun h=>hp0 (List.eq_nil_of_length_eq_zero h)
     omega
    refine hN r _ _ tv' w'' hrl ?_ ?_ h''
    · rw [hp]
      by_cases hz:Nm=[]<;>simp only [hz,if_true,if_false]
    · split
      · omega
      · simp
   obtain ⟨c,p',rfl⟩:=List.exists_cons_of_ne_nil hp0
   have hidx:(mkB (c::p')).data.toList[0]?=some c:=by simp [mkB]
   by_cases hs:(c::p').all starF=true
   · rw [if_pos hs]
     simp (disch:=try exact DI) only [↓PR,QR,simprocAttr,↓n31c11]
     rw [op_indexS0 Tryz.underlying9 (mkB (c::p')) .i64 hidx]
     refine zcr (digit_ret _ c) fun w4 e4=>?_
     have h5:=h4.ext e4
     cases hdg:digitB c with
     | true =>
      simp (disch:=try exact DI) only [↓PR,QR,simprocAttr,↓n31c10]
      obtain ⟨k1,k2⟩:=take_all (p:=starF) (a:=c::p') (b:=[]) hs (fun c hc=>by cases hc)
      rw [List.append_nil] at k1 k2
      exact final (c::p') [] w4 h5 hp1 ⟨fun _ h=>(by rw [List.headD_cons,hdg] at h;cases h),fun _=>⟨k1.symm,(by rw [k2];rfl)⟩⟩
     | false =>
      simp (disch:=try exact DI) only [↓PR,QR,simprocAttr,↓n31c10]
      exact final [49] (c::p') w4 h5 (by decide) ⟨fun _ _=>⟨rfl,rfl⟩,fun h=>absurd ⟨hs,hdg⟩ h⟩
   · rw [if_neg hs]
     simp (disch:=try exact DI) only [↓PR,QR,simprocAttr,↓n31c11,↓n31c10]
     exact final _ _ w3 h4 (Nat.le_trans (List.takeWhile_sublist _).length_le hp1) ⟨fun h=>absurd h hs,fun _=>⟨rfl,rfl⟩⟩
theorem Parse_ret {w0:World} (hE:EnvOK w0) (text:ByteArray) (hz:text.size≤100000) :
 Ret Pg 24 #[.string text] w0 fun u w'=>(∃ x,u = .tuple #[x,.int .i64 (parseZ text).2.2]∧SizeVal w' x (parseZ text).1 (parseZ text).2.1)∧Ext w0 w':=by
 have hsz:text.data.toList.length=text.size:=by rw [Array.length_toList];rfl
 refine n31s (R:=retR _) ?_;unfold n31
 simp (disch:=try exact DI) only [↓PR,QR,simprocAttr]
 have hsp:(w0.alloc (Obj.cells (Value.agg #[Value.int IntKind.i64 0,Value.slice none 0 0]).cells 24)).heap.size=w0.heap.size+1:=by simp
 rw [hsp]
 have hP0:PZ w0 ((w0.alloc (.cells #[.int .i64 0,.slice none 0 0] TSz)).alloc (.cells #[.int .i64 0,.slice none 0 0] TSz)) w0.heap.size (w0.heap.size+1) 0 [] (.slice none 0 0):=by
  refine ⟨ee,?_,?_,OwnE.nil _ _ _ _ _,Nat.le_refl _,Nat.lt_succ_self _⟩
  · simp (disch:=try exact DI) only [↓PR,QR,simprocAttr]
  · have:=World.alloc_heap_new (w0.alloc (.cells #[.int .i64 0,.slice none 0 0] TSz)) (.cells #[.int .i64 0,.slice none 0 0] TSz)
    rwa [World.size_alloc] at this
 refine loop1_intro (fun v w=>∃ (f:Nat) (l:List UInt8) (b:Int) (ts:List TermD) (tv:Value),v = .string (mkB l)∧l.length≤f∧l.length≤text.size∧ts.length+l.length≤text.size∧pGo f l b ts=pGo text.size text.data.toList 0 []∧PZ w0 w w0.heap.size (w0.heap.size+1) b ts tv)
  (fun v _=>match v with | .string s=>s.size | _=>0) ⟨text.size,text.data.toList,0,[],_,by rw [mkB_to],by omega,by omega,by simp,rfl,hP0⟩ ?_
 rintro _ w ⟨f,l,b,ts,tv,rfl,hlf,hlt,htl,hI,hP⟩
 have hf:∃ f',pGo (f'+1) l b ts=pGo f l b ts∧l.length≤f'+1:=by
  cases f with
  | zero =>
   have:l=[]:=List.eq_nil_of_length_eq_zero (by omega)
   subst this
   exact ⟨0,by rw [pGo_nil,pGo_nil],by simp⟩
  | succ f=>exact ⟨f,rfl,hlf⟩
 obtain ⟨f',hf1,hf2⟩:=hf
 refine parse_round (f:=f') hE hP (by omega) (by omega) (fun hk w' hP'=>?_) (fun hx=>?_) (fun l' b' ts' tv' w' hll hgo htl' hP'=>?_)
 · exact parse_end hE.tab hP' (by rw [← hI,← hf1,hk])
 · unfold parseZ
   rw [← hI,← hf1,hx]
 · refine ⟨⟨f',l',b',ts',tv',rfl,by omega,by omega,by omega,by rw [← hgo,hf1,hI],hP'⟩,?_⟩
   show (mkB l').size < (mkB l).size
   rw [mkB_size,mkB_size]
   exact hll
theorem says_ret {w0:World} (hE:EnvOK w0) (v:Value) (base:Int) (ts:List TermD) (want:ByteArray) (hs:SizeVal w0 v base ts) (hv:sizeB base ts=true) (hw:want=sizeT base ts) (hz:want.size≤100000) :
 Ret Pg 37 #[v,.string want] w0 fun r w'=>r = .bool true∧Ext w0 w':=by
 obtain ⟨tv,rfl,hT⟩:=hs
 have h1:=SliceOf.oneCell hT
 refine n14s (R:=retR _) ?_;unfold n14
 simp (disch:=try exact DI) only [↓PR,QR,simprocAttr]
 generalize hW:World.alloc w0 _=W
 have e0:Ext w0 W:=by rw [← hW];exact ee
 have o2:W.heap[w0.heap.size]?=some (.cells #[.int .i64 base,tv] TSz (0,0)):=by rw [← hW];simp (disch:=try exact DI) only [↓PR,QR,simprocAttr]
 clear hW
 refine zcr (Text_ret (hE.tab.ext e0) _ base ts ⟨tv,rfl,TermsOf.ext hT e0⟩) fun w1 e1=>?_
 rw [hv,if_pos rfl,if_pos rfl,← hw]
 unfold n14c4
 simp (disch:=try exact DI) only [↓PR,QR,simprocAttr]
 refine callK_ret (Parse_ret (hE.ext (e0.trans e1)) want hz) ?_
 rintro _ w2 ⟨⟨x,rfl,hx⟩,e2⟩
 have hp:parseZ want=(base,ts,0):=by rw [hw];exact parseZ_of hv
 rw [hp] at hx ⊢
 obtain ⟨tv2,rfl,hT2⟩:=hx
 have h2:=SliceOf.oneCell hT2
 unfold n14c3
 simp (disch:=try exact DI) only [↓PR,QR,simprocAttr]
 have e12:=e1.trans e2
 have eA:Ext w2 (w2.alloc (.cells #[.int .i64 base,tv2] TSz)):=(Ext.refl _).alloc _
 have oA:(w2.alloc (.cells #[.int .i64 base,tv2] TSz)).heap[w2.heap.size]?=some (.cells #[.int .i64 base,tv2] TSz (0,0)):=World.alloc_heap_new w2 _
 have E3:Ext w0 (w2.alloc (.cells #[.int .i64 base,tv2] TSz)):=(e0.trans e12).trans eA
 have o3:=(e12.trans eA).obj o2
 have hT3:=TermsOf.ext hT E3
 have hT4:=TermsOf.ext hT2 eA
 generalize w2.alloc (.cells #[.int .i64 base,tv2] TSz)=w3 at *
 simp (disch:=try exact DI) only [↓PR,QR,simprocAttr,↓n14c1,↓n14c2,↓n14c3,↓n14c4,(cells_of_heap oA).1,(cells_of_heap o3).1]
 refine zcr (rSame_ret w3 _ _ base base ts ts ⟨tv2,rfl,hT4⟩ ⟨tv,rfl,hT3⟩) fun w4 e4=>?_
 have h00:((0:Int) == 0)=true:=rfl
 rw [h00]
 simp (disch:=try exact DI) only [↓PR,QR,simprocAttr]
 exact ⟨by simp,E3.trans e4⟩
def sN:ByteArray:=⟨#[110]⟩
def sM:ByteArray:=⟨#[109]⟩
def sA:ByteArray:=⟨#[97]⟩
theorem ex1:evalN 4 givenT [(sN,5),(sM,3)]=11∧evalE 4 givenT ByteArray.empty [(sN,5),(sM,3)]=0:=by decide +kernel
theorem ex2:evalN 4 givenT [(sN,5)]=0∧evalE 4 givenT ByteArray.empty [(sN,5)]=9:=by decide +kernel
theorem ex3:evalN 4 givenT [(sN,-1),(sM,0)]=0∧evalE 4 givenT ByteArray.empty [(sN,-1),(sM,0)]=2:=by decide +kernel
theorem ex4:lenN 4 givenT [(sN,0),(sM,5)]=0∧lenE 4 givenT [(sN,0),(sM,5)]=3:=by decide +kernel
theorem ex5:intervalL 4 givenT [(sN,0,10),(sM,1,4)]=0∧intervalH 4 givenT [(sN,0,10),(sM,1,4)]=23∧intervalE 4 givenT [(sN,0,10),(sM,1,4)]=0:=by decide +kernel
theorem ex6:solveP 4 givenT sN 11 [(sM,3)]=(5,0)∧solveP 4 givenT sN 12 [(sM,3)]=(0,9):=by decide +kernel
theorem ex7:(parseZ ⟨#[110,42,50]⟩).2.2=6:=by decide +kernel
theorem ex8a:sortB [sN,sA]=[sA,sN] :=
 strict_ext (sortB_strict (by decide +kernel)) (by
  refine List.pairwise_pair.2 ?_
  decide +kernel) fun s=>by
  rw [mem_sortB]
  simp only [List.mem_cons,List.not_mem_nil,or_false]
  exact Or.comm
theorem ex8b:sumT1 (givenT++[⟨sM,1⟩,⟨sA,3⟩])=[⟨sA,3⟩,⟨sN,2⟩]:=by
 unfold sumT1
 have hX:(dedupB ((givenT++[⟨sM,1⟩,⟨sA,3⟩]:List TermD).map fun t=>t.field)).filter (fun s=>decide (addF s (givenT++[⟨sM,1⟩,⟨sA,3⟩])≠0))=[sN,sA]:=by decide +kernel
 rw [hX,ex8a]
 decide +kernel
theorem ex8:addP 4 givenT (-4) [⟨sM,1⟩,⟨sA,3⟩]=(0,[⟨sA,3⟩,⟨sN,2⟩],0):=by
 unfold addP
 rw [ex8b]
 decide +kernel
theorem ex9:sizeT 4 givenT=⟨#[50,42,110,45,109,43,52]⟩∧sizeT 0 []=⟨#[48]⟩∧sizeT (-8) [⟨sN,1⟩]=⟨#[110,45,56]⟩∧sizeT 3 [⟨sN,-1⟩]=⟨#[45,110,43,51]⟩:=by decide +kernel
theorem ex10:sizeB 4 givenT=true∧sizeB 0 []=true∧sizeB (-8) [⟨sN,1⟩]=true∧sizeB 3 [⟨sN,-1⟩]=true:=by decide +kernel
theorem vals_new (w:World) (T:TypeId) (l:List (ByteArray×Int)) (hl:l.length≤9223372036854775807):ValsOf (w.alloc (.cells (l.flatMap valCells).toArray T)) (.slice (some ⟨w.heap.size,0,none⟩) l.length l.length) l :=
 (OwnE.new w T 2 valCells l (fun _=>rfl) hl).slice (fun _=>rfl) (fun _ _=>rfl)
theorem terms_new (w:World) (T:TypeId) (l:List TermD) (hl:l.length≤9223372036854775807):TermsOf (w.alloc (.cells (l.flatMap termCells).toArray T)) (.slice (some ⟨w.heap.size,0,none⟩) l.length l.length) l :=
 (OwnE.new w T 2 termCells l (fun _=>rfl) hl).slice (fun _=>rfl) (fun _ _=>rfl)
theorem known_c4 {w0 w:World} (hE:EnvOK w0) (e:Ext w0 w):n12c4 (retR fun r w'=>r = .bool true∧Ext w0 w') w:=by
 unfold n12c4
 refine callK_ret (given_ret w) ?_
 rintro v1 w1 ⟨hs1,e1⟩
 refine zcr (says_ret (hE.ext (e.trans e1)) v1 4 givenT _ hs1 ex10.1 ex9.1.symm (by decide)) fun w2 e2=>?_
 have E2:=(e.trans e1).trans e2
 unfold n12c3
 simp (disch:=try exact DI) only [↓PR,QR,simprocAttr]
 refine zcr (says_ret (hE.ext E2) _ 0 [] _ ⟨_,rfl,SliceOf.nil _ _ _⟩ ex10.2.1 ex9.2.1.symm (by decide)) fun w3 e3=>?_
 have E3:=E2.trans e3
 unfold n12c2
 simp (disch:=try exact DI) only [↓PR,QR,simprocAttr]
 have eA:Ext w3 (w3.alloc (.cells ([(⟨sN,1⟩:TermD)].flatMap termCells).toArray 32)):=(Ext.refl _).alloc _
 refine zcr (says_ret (hE.ext (E3.trans eA)) _ (-8) [⟨sN,1⟩] _ ⟨_,rfl,terms_new w3 32 [⟨sN,1⟩] (by decide)⟩ ex10.2.2.1 ex9.2.2.1.symm (by decide)) fun w4 e4=>?_
 have E4:=(E3.trans eA).trans e4
 unfold n12c1
 simp (disch:=try exact DI) only [↓PR,QR,simprocAttr]
 have eB:Ext w4 (w4.alloc (.cells ([(⟨sN,-1⟩:TermD)].flatMap termCells).toArray 32)):=(Ext.refl _).alloc _
 refine zcr (says_ret (hE.ext (E4.trans eB)) _ 3 [⟨sN,-1⟩] _ ⟨_,rfl,terms_new w4 32 [⟨sN,-1⟩] (by decide)⟩ ex10.2.2.2 ex9.2.2.2.symm (by decide)) fun w5 e5=>?_
 simp (disch:=try exact DI) only [↓PR,QR,simprocAttr]
 exact ⟨trivial,(E4.trans eB).trans e5⟩
abbrev VT:TypeId:=78
abbrev allocV (w:World) (l:List (ByteArray×Int)):World:=w.alloc (.cells (l.flatMap valCells).toArray VT)
theorem allocV_ext (w:World) (l:List (ByteArray×Int)):Ext w (allocV w l):=(Ext.refl _).alloc _
theorem solve_step {w:World} (n:Int) {v:Value} (hs:SizeVal w v 4 givenT) {K:Value→World→Prop} {R:RT} (hK:∀ w',Ext w w'→K (.tuple #[.int .i64 (solveP 4 givenT sN n [(sM,3)]).1,.int .i64 (solveP 4 givenT sN n [(sM,3)]).2]) w') :
 opV Pg (Instr.makeMap 35 none) (panK R) w fun t47 w=>opU Pg (Instr.mapUpdate 35 t47 (.string ⟨#[109]⟩) (.int .i64 3)) (panK R) w fun w=>callK Pg 28 #[v,.string ⟨#[110]⟩,.int .i64 n,t47] (panK R) w K:=by
 rw [op_makeMap]
 have eM:Ext w (w.alloc (.map #[] 0)):=(Ext.refl _).alloc _
 have hm0:MapOf (w.alloc (.map #[] 0)) w.heap.size []:=MapOf.new w
 generalize w.alloc (.map #[] 0)=W at *
 rw [op_updateO Tryz.underlying35 Tryz.underlying9 hm0 ⟨#[109]⟩]
 have eP:=eM.putW (ps:=[]) (Nat.le_refl _) ⟨#[109]⟩ (.int .i64 3)
 have hm1:=hm0.put ⟨#[109]⟩ (.int .i64 3)
 generalize putW W w.heap.size [] ⟨#[109]⟩ (.int .i64 3)=W1 at *
 refine zcr (Solve_ret W1 v 4 givenT sN n w.heap.size [(sM,3)] (hs.ext eP) (by decide) hm1) fun w2 e2=>?_
 exact hK w2 (eP.trans e2)
theorem known_c20 {w0 w5:World} {v5:Value} (hE:EnvOK w0) (E5:Ext w0 w5) (hs5:SizeVal w5 v5 4 givenT):n12c20 v5 (retR fun r w'=>r = .bool true∧Ext w0 w') w5:=by
 unfold n12c20
 rw [op_makeMap]
 have eM:Ext w5 (w5.alloc (.map #[] 0)):=(Ext.refl _).alloc _
 have hm0:MapOf (w5.alloc (.map #[] 0)) w5.heap.size []:=MapOf.new w5
 generalize w5.alloc (.map #[] 0)=W at *
 simp (disch:=try exact DI) only [↓PR,QR,simprocAttr]
 rw [op_updateO Tryz.underlying46 Tryz.underlying9 hm0 ⟨#[110]⟩]
 have eP:=eM.putW (ps:=[]) (Nat.le_refl _) ⟨#[110]⟩ (.agg #[.int .i64 0,.int .i64 10])
 have hm1:=hm0.put ⟨#[110]⟩ (.agg #[.int .i64 0,.int .i64 10])
 generalize putW W w5.heap.size [] ⟨#[110]⟩ (.agg #[.int .i64 0,.int .i64 10])=W1 at *
 simp (disch:=try exact DI) only [↓PR,QR,simprocAttr]
 rw [op_updateO Tryz.underlying46 Tryz.underlying9 hm1 ⟨#[109]⟩]
 have eQ:=eP.putW (ps:=[]++[(⟨#[110]⟩,(.agg #[.int .i64 0,.int .i64 10]))]) (Nat.le_refl _) ⟨#[109]⟩ (.agg #[.int .i64 1,.int .i64 4])
 have hm2:=hm1.put ⟨#[109]⟩ (.agg #[.int .i64 1,.int .i64 4])
 generalize putW W1 w5.heap.size ([]++[(⟨#[110]⟩,(.agg #[.int .i64 0,.int .i64 10]))]) ⟨#[109]⟩ (.agg #[.int .i64 1,.int .i64 4])=W2 at *
 refine zcr (Interval_ret W2 v5 4 givenT w5.heap.size [(sN,0,10),(sM,1,4)] (hs5.ext eQ) (by decide) hm2) fun w6 e6=>?_
 rw [ex5.1,ex5.2.1,ex5.2.2]
 have E6:=(E5.trans eQ).trans e6
 clear hm0 hm1 hm2 eM eP eQ e6 E5 hs5 W W1 W2
 unfold n12c19 rangeVal
 simp (disch:=try exact DI) only [↓PR,QR,simprocAttr]
 have oP:(w6.alloc (.cells #[.int .i64 0,.int .i64 23] 51)).heap[w6.heap.size]?=some (.cells #[.int .i64 0,.int .i64 23] 51 (0,0)):=World.alloc_heap_new w6 _
 have E7:=E6.trans ((Ext.refl w6).alloc (.cells #[.int .i64 0,.int .i64 23] 51))
 generalize w6.alloc (.cells #[.int .i64 0,.int .i64 23] 51)=w7 at *
 generalize w6.heap.size=p1 at *
 refine callK_ret (given_ret w7) ?_
 rintro v8 w8 ⟨hs8,e8⟩
 have oP8:=e8.obj oP
 have E8:=E7.trans e8
 clear e8 E7 oP E6
 unfold n12c18
 refine solve_step 11 hs8 fun w9 e9=>?_
 rw [ex6.1]
 have oP9:=e9.obj oP8
 have E9:=E8.trans e9
 clear e9 E8 oP8 hs8
 unfold n12c17
 simp (disch:=try exact DI) only [↓PR,QR,simprocAttr]
 refine callK_ret (given_ret w9) ?_
 rintro v10 w10 ⟨hs10,e10⟩
 unfold n12c16
 refine solve_step 12 hs10 fun w11 e11=>?_
 rw [ex6.2]
 have oP11:=e11.obj (e10.obj oP9)
 have E11:=(E9.trans e10).trans e11
 clear e10 e11 E9 oP9 hs10
 unfold n12c15
 simp (disch:=try exact DI) only [↓PR,QR,simprocAttr]
 refine callK_ret (Parse_ret (hE.ext E11) ⟨#[110,42,50]⟩ (by decide)) ?_
 rintro _ w12 ⟨⟨x12,rfl,hx12⟩,e12⟩
 rw [ex7]
 obtain ⟨tv12,rfl,hT12⟩:=hx12
 have h12:=SliceOf.oneCell hT12
 have oP12:=e12.obj oP11
 have E12:=E11.trans e12
 clear e12 E11 oP11
 unfold n12c14
 simp (disch:=try exact DI) only [↓PR,QR,simprocAttr]
 have eA:Ext w12 (w12.alloc (.cells #[.int .i64 (parseZ ⟨#[110,42,50]⟩).1,tv12] TSz)):=(Ext.refl _).alloc _
 refine callK_ret (given_ret (w12.alloc (.cells #[.int .i64 (parseZ ⟨#[110,42,50]⟩).1,tv12] TSz))) ?_
 rintro v13 w13 ⟨hs13,e13⟩
 have oP13:=e13.obj (eA.obj oP12)
 have E13:=(E12.trans eA).trans e13
 clear e13 eA E12 oP12 hT12 h12
 unfold n12c13
 simp (disch:=try exact DI) only [↓PR,QR,simprocAttr]
 have eB:Ext w13 (w13.alloc (.cells ([(⟨sM,1⟩:TermD),⟨sA,3⟩].flatMap termCells).toArray TTm)):=(Ext.refl _).alloc _
 refine callK_ret (Add_ret (w13.alloc (.cells ([(⟨sM,1⟩:TermD),⟨sA,3⟩].flatMap termCells).toArray TTm)) v13 _ 4 (-4) givenT [⟨sM,1⟩,⟨sA,3⟩] (hs13.ext eB) ⟨_,rfl,terms_new w13 TTm [⟨sM,1⟩,⟨sA,3⟩] (by decide)⟩ (by decide) (by decide)) ?_
 rintro _ w14 ⟨⟨tv14,rfl,hx14⟩,e14⟩
 rw [ex8] at hx14 ⊢
 have hT14:=own_terms hx14
 have h14:=SliceOf.oneCell hT14
 have oP14:=e14.obj (eB.obj oP13)
 have E14:=(E13.trans eB).trans e14
 clear e14 eB E13 oP13 hs13
 unfold n12c12
 have eC:Ext w14 (w14.alloc (.cells #[.int .i64 0,tv14] TSz)):=(Ext.refl _).alloc _
 have oC:(w14.alloc (.cells #[.int .i64 0,tv14] TSz)).heap[w14.heap.size]?=some (.cells #[.int .i64 0,tv14] TSz (0,0)):=World.alloc_heap_new w14 _
 simp (disch:=try exact DI) only [↓PR,QR,simprocAttr,(cells_of_heap (eC.obj oP14)).1,(cells_of_heap oC).1]
 have E15:=E14.trans eC
 have hT15:=TermsOf.ext hT14 eC
 generalize w14.alloc (.cells #[.int .i64 0,tv14] TSz)=w15 at *
 generalize w14.heap.size=p9 at *
 clear eC oP14 E14 hT14
 simp (disch:=try exact DI) only [↓PR,QR,simprocAttr,↓n12c11,↓n12c10,↓n12c9,↓n12c8,↓n12c7,↓n12c6,↓n12c5,(cells_of_heap oC).1]
 have eD:Ext w15 (w15.alloc (.cells ([(⟨sA,3⟩:TermD),⟨sN,2⟩].flatMap termCells).toArray TTm)):=(Ext.refl _).alloc _
 refine zcr (rSame_ret (w15.alloc (.cells ([(⟨sA,3⟩:TermD),⟨sN,2⟩].flatMap termCells).toArray TTm)) _ _ 0 0 [⟨sA,3⟩,⟨sN,2⟩] [⟨sA,3⟩,⟨sN,2⟩] ⟨tv14,rfl,TermsOf.ext hT15 eD⟩ ⟨_,rfl,terms_new w15 TTm [⟨sA,3⟩,⟨sN,2⟩] (by decide)⟩) fun w16 e16=>?_
 rw [decide_eq_true (p:=(0:Int)=0∧[(⟨sA,3⟩:TermD),⟨sN,2⟩]=[⟨sA,3⟩,⟨sN,2⟩]) ⟨rfl,rfl⟩,show ((0:Int) != 0)=false from rfl]
 simp (disch:=try exact DI) only [↓PR,QR,simprocAttr]
 exact known_c4 hE ((E15.trans eD).trans e16)
theorem known_ret {w0:World} (hE:EnvOK w0):Ret Pg 9 #[] w0 fun r w'=>r = .bool true∧Ext w0 w':=by
 refine n12s (R:=retR _) ?_;unfold n12
 simp (disch:=try exact DI) only [↓PR,QR,simprocAttr]
 refine zcr (evals_Eval (allocV w0 [(sN,5),(sM,3)]) 11 0 _ [(sN,5),(sM,3)] (vals_new w0 VT _ (by decide)) (by decide)) fun w1 e1=>?_
 rw [decide_eq_true ex1]
 have E1:=(allocV_ext w0 [(sN,5),(sM,3)]).trans e1
 clear e1
 unfold n12c25
 simp (disch:=try exact DI) only [↓PR,QR,simprocAttr]
 refine zcr (evals_Eval (allocV w1 [(sN,5)]) 0 9 _ [(sN,5)] (vals_new w1 VT _ (by decide)) (by decide)) fun w2 e2=>?_
 rw [decide_eq_true ex2]
 have E2:=(E1.trans (allocV_ext w1 [(sN,5)])).trans e2
 clear e2 E1
 simp (disch:=try exact DI) only [↓PR,QR,simprocAttr,↓n12c24,↓n12c23]
 refine zcr (evals_Eval (allocV w2 [(sN,-1),(sM,0)]) 0 2 _ [(sN,-1),(sM,0)] (vals_new w2 VT _ (by decide)) (by decide)) fun w3 e3=>?_
 rw [decide_eq_true ex3]
 have E3:=(E2.trans (allocV_ext w2 [(sN,-1),(sM,0)])).trans e3
 clear e3 E2
 simp (disch:=try exact DI) only [↓PR,QR,simprocAttr,↓n12c22,↓n12c21]
 refine zcr (evals_Length (allocV w3 [(sN,0),(sM,5)]) 0 3 _ [(sN,0),(sM,5)] (vals_new w3 VT _ (by decide)) (by decide)) fun w4 e4=>?_
 rw [decide_eq_true ex4]
 have E4:=(E3.trans (allocV_ext w3 [(sN,0),(sM,5)])).trans e4
 clear e4 E3
 simp (disch:=try exact DI) only [↓PR,QR,simprocAttr]
 refine callK_ret (given_ret w4) ?_
 rintro v5 w5 ⟨hs5,e5⟩
 have E5:=E4.trans e5
 clear e5 E4
 exact known_c20 hE E5 hs5
end Go.Proofs.YtpgkjhikdhdffaaGreatDoor
