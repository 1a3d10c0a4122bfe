/-
  phrasebooklaw04.SizeExact returns true for all sizes, ranges and numbers, and leaves its arguments as they were; no condition is asked but that the tables of the library lie as the program lays them (the card ties them).
-/
import Derived.Test.YtpgkjhikdhdffaaGreatDoorVd3
set_option linter.all false
set_option maxHeartbeats 4000000
set_option maxRecDepth 100000
namespace Go.Sw
open Go.ChangeShapes Go.WideShapes Go.RowKit Go.ChangeAt Go.Deep
theorem list_of {α:Type} {p:Nat→α→Prop}:∀ (n:Nat),(∀ i,i < n→∃ x,p i x)→∃ l:List α,l.length=n∧∀ k x,l[k]?=some x→p k x
 | 0,_=>⟨[],rfl,fun k x h=>by simp at h⟩
 | n+1,h=>by
  obtain ⟨l,hl,hp⟩:=list_of n (fun i hi=>h i (by omega))
  obtain ⟨x,hx⟩:=h n (by omega)
  refine ⟨l++[x],by simp [hl],fun k y hy=>?_⟩
  rw [List.getElem?_append] at hy
  split at hy
  · exact hp k y hy
  · have hk:k=n:=by
     have:=(List.getElem?_eq_some_iff.1 hy).1
     simp at this
     omega
    subst hk
    simp [hl] at hy
    subst hy
    exact hx
section
variable {H:Type} {enc:TypeId×Value→H} {P:Program} {w:World} {base:Nat} {spare:Nat→Bool} {held:Bool}
theorem weightsAll_mem {e:TypeId} {m:Nat} {d:DataW H}:∀ {l:List (DataW H)},d∈l→m∈d.weights P e→m∈DataW.weightsAll P e l
 | [],h,_=>by cases h
 | a::l,h,hm=>by
  rw [DataW.weightsAll,List.mem_append]
  rcases List.mem_cons.1 h with rfl | h
  · exact .inl hm
  · exact .inr (weightsAll_mem h hm)
def Reached (P:Program) (t:TypeId) (d:DataW H):Prop:=∀ m∈d.weights P t,m≤reachBytes
theorem reached_of {ts:List TypeId} {ds:List (DataW H)} (h:(DataW.weightsEach P ts ds).all (· ≤ reachBytes)=true) {j:Nat} {t:TypeId} {d:DataW H} (ht:ts[j]?=some t) (hd:ds[j]?=some d):Reached P t d:=fun m hm=>by
 have:=List.all_eq_true.1 h _ (DataW.weights_mem_each ht hd m hm)
 simpa using this
theorem slice_of_trod {α:Type} {E:World→List Value→α→Prop} {Q:α→Prop} {t e:TypeId} {n fuel:Nat} {cs:List Value} {x:DataW H×List MemPlace} (ht:P.underlying t=some (.slice e)) (hn:P.cellsOf e=n) (hb1:1≤P.bytesOf e) (h0:0 < n)
 (hE:∀ m cs' y,DataW.trod enc P w base spare held m e cs'=some y→Reached P e y.1→∃ x,E w cs' x∧Q x) (h:DataW.trod enc P w base spare held fuel t cs=some x) (hr:Reached P t x.1):∃ v l,cs=[v]∧SliceOf w n E v l∧(∀ x∈l,Q x)∧l.length≤140737488355328:=by
 rcases open_slice ht h with ⟨rfl,_⟩ | ⟨a,len,cap,m,k,D,Pl,rfl,hb,hl,hm,hmm,hx,hel⟩
 · exact ⟨_,[],rfl,SliceOf.nil _ _ _,fun x hx=>by (cases hx),Nat.zero_le _⟩
 · have hlm:len≤m:=by rw [hmm];split<;>omega
   subst hx
   have hw0:=hr ((len+(m - len))*P.bytesOf e) (by simp only [DataW.weights,ht];simp)
   have hlen:len≤140737488355328:=by
    have:len*1≤(len+(m - len))*P.bytesOf e:=Nat.mul_le_mul (by omega) hb1
    simp only [reachBytes] at hw0
    omega
   have hD:∀ i,i < len→Reached P e (D i):=fun i hi q hq=>hr q (by
    simp only [DataW.weights,ht,List.mem_cons,List.mem_append]
    exact .inr (.inl (weightsAll_mem (List.mem_map.2 ⟨i,List.mem_range.2 hi,rfl⟩) hq)))
   obtain ⟨l,hll,hp⟩:=list_of (p:=fun i (x:α)=>∃ cs',w.cells? base (a.add (i*n)) n=some cs'∧E w cs' x∧Q x) len (fun i hi=>by
    obtain ⟨cs',h1,h2⟩:=hel i (by omega)
    rw [hn] at h1
    obtain ⟨x,hx⟩:=hE _ _ _ h2 (hD i hi)
    exact ⟨x,cs',h1,hx⟩)
   refine ⟨_,l,rfl,⟨some a,cap,by rw [hll],by rw [hll];exact hl,by simp only [maxLen] at hm;omega,fun hne=>?_⟩,fun x hx=>?_,by omega⟩
   · obtain ⟨b,o,spot⟩:=a
     have hspot:spot=none:=by
      have:0 < l.length:=List.length_pos_iff.2 hne
      obtain ⟨y,hy⟩:=getElem?_lt this
      obtain ⟨cs',h1,_⟩:=hp 0 y hy
      obtain ⟨_,h2,h3⟩:=World.cells?_some h1
      have h4:=h3 0 h0
      rw [List.getElem?_eq_getElem (by omega)] at h4
      simpa [Addr.add] using World.cell?_spot h4
     subst hspot
     refine ⟨b,o,rfl,fun k x hx=>?_⟩
     obtain ⟨cs',h1,h2,_⟩:=hp k x hx
     obtain ⟨_,h3,h4⟩:=World.cells?_some h1
     refine ⟨cs',h3,fun j v hv=>?_,h2⟩
     have h5:=h4 j (by have:=(List.getElem?_eq_some_iff.1 hv).1;omega)
     rw [hv] at h5
     simpa [Addr.add_lit] using h5
   · obtain ⟨k,hk⟩:=List.getElem?_of_mem hx
     obtain ⟨_,_,_,hq⟩:=hp k x hk
     exact hq
theorem struct_of_trod {fs:Array Field} {t:TypeId} {n fuel:Nat} {cs:List Value} {x:DataW H×List MemPlace} (ht:P.underlying t=some (.struct fs)) (hn:P.cellsOf t=n) (h:DataW.trod enc P w base spare held fuel t cs=some x) (hr:Reached P t x.1) :
 cs.length=n∧∃ m,∀ (i:Nat) (ty off k:Nat),(fs[i]?).map (fun f=>(f.type,f.offset))=some (ty,off)→P.cellsOf ty=k→∃ y,DataW.trod enc P w base spare held m ty ((cs.drop off).take k)=some y∧Reached P ty y.1:=by
 obtain ⟨xs,m,_,rfl,hl,hlen,hf⟩:=DataW.trod_struct ht h
 refine ⟨hl.trans hn,m,fun i ty off k hi hk=>?_⟩
 obtain ⟨f,hfi,he⟩:=Option.map_eq_some_iff.1 hi
 injection he with h1 h2
 subst h1 h2 hk
 have hil:i < xs.length:=by rw [hlen];exact (Array.getElem?_eq_some_iff.1 hfi).1
 refine ⟨xs[i],(hf i f hfi).trans (List.getElem?_eq_getElem hil),fun q hq=>hr q ?_⟩
 simp only [DataW.weights,ht]
 refine DataW.weights_mem_each (j:=i) (t:=f.type) (d:=xs[i].1) ?_ ?_ q hq
 · rw [List.getElem?_map,Array.getElem?_toList,hfi];rfl
 · rw [List.getElem?_map,List.getElem?_eq_getElem hil];rfl
theorem trodAll_stays (hl:laidOutB P=true) {W W':World} (he:Ext W W'):∀ {ts:List TypeId} {vs:List Value} {ds:List (DataW H)} {ps:List MemPlace},(∀ t∈ts,P.readableRec t=true∧t < P.types.size)→(∀ x∈ps,x.block < W.heap.size) →
 DataW.TrodAll enc P W 0 (fun _=>true) true ts vs ds ps→DataW.TrodAll enc P W' 0 (fun b=>decide (b < W.heap.size)) true ts vs ds ps
 | [],_,_,_,_,_,h=>by obtain ⟨rfl,rfl,rfl⟩:=trodAll_nil h;exact trodAll_mk0
 | t::ts,_,_,_,hr,hlt,h=>by
  obtain ⟨v,vs1,d,ds1,a,b,rfl,rfl,rfl,h1,h2⟩:=trodAll_cons h
  refine ⟨a,b,?_,trodAll_stays hl he (fun t ht=>hr t (List.mem_cons_of_mem _ ht)) (fun x hx=>hlt x (List.mem_append_right _ hx)) h2,rfl⟩
  exact Below.trod hl (hr t (List.mem_cons_self ..)).1 (hr t (List.mem_cons_self ..)).2 h1 ⟨he.os,he.tape,he.output,he.size,he.block⟩ (fun x hx=>hlt x (List.mem_append_left _ hx))
theorem law_post {f:Func} {s:ChangeSpec} {W W':World} {args:Array Value} {ds gs:List (DataW H)} {before:List MemPlace} {tb:TypeId} (hl:laidOutB P=true) (hr:∀ t∈f.params.toList,P.readableRec t=true∧t < P.types.size) (hs:s.vars=[])
 (hW:DataW.Whole enc P f.params.toList s.vars false W args.toList ds gs before) (he:Ext W W') (hres:f.resultTypes = #[tb]) (htb:P.underlying tb=some .bool) (hfn:(s.fn H ds).results=[.lit (.bool true)]) (hargs:(s.fn H ds).args=ds) (hvars:(s.fn H ds).vars=[]) :
 s.post enc P f false true false false W args (.bool true) W':=by
 have hW':=hW
 obtain ⟨p,q,hA,hV,rfl,_,_⟩:=hW
 rw [hs] at hV
 obtain ⟨rfl,rfl⟩:=trodVars_none hV
 have hlt:∀ x∈p,x.block < W.heap.size:=fun x hx=>hW'.lt x (by simpa using hx)
 rw [List.append_nil] at hW'
 refine ⟨ds,[],p,[],p,[],hW',?_,?_,?_,Below.frame ⟨he.os,he.tape,he.output,he.size,he.block⟩ _,fun h=>by cases h⟩
 · rw [List.append_nil,hfn,hres]
   exact trodAll_mk1 (shut_bool htb _)
 · rw [List.append_nil,hargs]
   exact trodAll_stays hl he hr hlt hA
 · rw [List.append_nil,hvars,hs]
   exact rfl
end
end Go.Sw
namespace Go.Proofs.YtpgkjhikdhdffaaGreatDoor
open Sw
open Go.RowKit Go.Deep
def role_laid:List (String×DataW Unit):=[("math/bits.deBruijn32tab", Rows.laid_math_bits_deBruijn32tab),("math/bits.deBruijn64tab", Rows.laid_math_bits_deBruijn64tab),("internal/strconv.uint64pow10", Rows.laid_internal_strconv_uint64pow10),("strconv.ErrRange", Rows.laid_strconv_ErrRange),("strconv.ErrSyntax", Rows.laid_strconv_ErrSyntax)]
theorem role_own:ownKnob Pg.godebug=none:=by kernel_rfl
theorem role_laidOut:laidOutB Pg=true:=by kernel_rfl
theorem role_met (os:Os) (args:Array Value):laidMetH Pg role_laid ((World.laidAll Pg os role_laid).forCall (fun _ _=>0) ⟨#[],args,[]⟩).memory:=by
 rw [MakeChecks.laidMetH_plain _ _ _ (by kernel_rfl)]
 exact laidMet_laidAll _ (by kernel_rfl) (by kernel_rfl)
theorem role_tab {W:World} (h:laidMetH Pg role_laid W):TabOK W:=by
 rw [MakeChecks.laidMetH_plain _ _ _ (by kernel_rfl)] at h
 have h3:=laidMet.tail (laidMet.tail h)
 have he:(Rows.laid_internal_strconv_uint64pow10:DataW Unit)=Go.Lib.tabData .u64 Go.Lib.pow10Tab:=by kernel_rfl
 rw [he] at h3
 obtain ⟨g,hg⟩:=Option.isSome_iff_exists.1 gPow
 have hty:(Pg.globals[g]?).map (·.type)=some 178:=by
  have h1:(Pg.globalNamed "internal/strconv.uint64pow10").bind (fun g=>(Pg.globals[g]?).map (·.type))=some 178:=by kernel_rfl
  rw [hg] at h1
  exact h1
 exact Go.Lib.tabIs_of_head hg hty Tryz.underlying178 Tryz.underlying146 (by kernel_rfl) (by kernel_rfl) h3
theorem role_star : "*" ++ "errors.errorString" = "*errors.errorString" := by decide
theorem role_rowErr (u:TypeId) (h:Pg.typeName? 3 u=some "*errors.errorString"):u=166 :=
 typeName_ptr_named (nm := "errors.errorString") (by rw [role_star];kernel_rfl) (by kernel_rfl) (by decide) u (by rw [role_star];exact h)
theorem role_env {W:World} (hs:W.ShapedOpen Pg) (h:laidMetH Pg role_laid W):EnvOK W:=by
 refine ⟨role_tab h,Go.Proofs.cell_of_shapedOpen_int (k := .i64) hs (of_decide_eq_true (by kernel_rfl)) (zero := #[.int .i64 0]) (t:=3) (by kernel_rfl) rfl (by kernel_rfl) (by kernel_rfl) Tryz.underlying3,?_,?_⟩
 · rw [MakeChecks.laidMetH_plain _ _ _ (by kernel_rfl)] at h
   have h5:=h.tail.tail.tail.tail
   obtain ⟨a,s,hv,_⟩:=laid_sentinel (g:=1) h5 (by kernel_rfl) (by kernel_rfl) Tryz.underlying107 role_rowErr Tryz.underlying166 Tryz.underlying168 rfl rfl Tryz.underlying9 (by kernel_rfl) (by kernel_rfl)
   refine ⟨_,by rw [World.var?_cell (show Pg.globalNamed "strconv.ErrSyntax" = some 1 by kernel_rfl) hv 0];rfl,.inr ⟨_,_,rfl⟩⟩
 · rw [MakeChecks.laidMetH_plain _ _ _ (by kernel_rfl)] at h
   have h5:=h.tail.tail.tail
   obtain ⟨a,s,hv,_⟩:=laid_sentinel (g:=2) h5 (by kernel_rfl) (by kernel_rfl) Tryz.underlying107 role_rowErr Tryz.underlying166 Tryz.underlying168 rfl rfl Tryz.underlying9 (by kernel_rfl) (by kernel_rfl)
   refine ⟨_,by rw [World.var?_cell (show Pg.globalNamed "strconv.ErrRange" = some 2 by kernel_rfl) hv 0];rfl,.inr ⟨_,_,rfl⟩⟩
theorem handed_and {H:Type} {enc:TypeId×Value→H} {a:Assume} {C:Checked} {os:Os} {f:FuncId} {fn:Func} {s:ChangeSpec} {conds:List PathCond} {apart fresh handsOn again:Bool} {X:World→Array Value→Prop}
 (hX:∀ (w w':World) (args:Array Value),w.heap=w'.heap→X w args→X w' args)
 (own:ownKnob C.prog.godebug=none) (started:os.Started) (noInit:C.prog.inits.idxOf? f=none) (hfn:C.prog.funcs[f]?=some fn)
 (witness:∃ (w:World) (tape:Tape) (i:Input),w.os=os∧(w.forCall tape i).Shaped C.prog∧i.vars=[]∧Input.okWide C.prog (w.forCall tape i) .any w.heap.size f i ∧
  ((s.pre enc C.prog fn conds apart (w.forCall tape i).memory i.args∧X (w.forCall tape i).memory i.args)∧sizedMet enc C.prog fn (OpenSpec.ofChange s) apart (w.forCall tape i).memory i.args)∧a.holds C.prog (lone (Frame.enter C.prog f i.args .normal) [] (w.forCall tape i)))
 (contract:∀ (W:World) (base:Nat) (args:Array Value) (ds gs:List (DataW H)) (before:List MemPlace),
  (∀ (j:Nat) t v,fn.params[j]?=some t→args[j]?=some v→Value.okWide C.prog W .any base t v) →
  DataW.Whole enc C.prog fn.params.toList s.vars apart W args.toList ds gs before →
  conds.all (PathCond.test C.prog ⟨fn.params.toList,ds,s.plain.varTypes C.prog,gs⟩)=true →
  (DataW.weightsEach C.prog (fn.params.toList++s.plain.varTypes C.prog) (ds++gs)).all (· ≤ reachBytes)=true→X W args→W.ShapedOpen C.prog →
  a.holds C.prog (lone (Frame.enter C.prog f args .normal) [] W) →
  Calls C.prog f args W fun e W'=>∃ v,e = .returned v∧s.post enc C.prog fn apart fresh handsOn again W args v W') :
 ReturnsInHanded a C os f .any (fun w args=>(s.pre enc C.prog fn conds apart w args∧X w args)∧sizedMet enc C.prog fn (OpenSpec.ofChange s) apart w args) (s.post enc C.prog fn apart fresh handsOn again):=by
 refine returnsInHanded_of_calls own started noInit witness ?_
 intro w tape i _ hsh _ hok hpre hholds
 obtain ⟨_,_,_,fn',hfn',_,_,_,_,hval⟩:=hok
 have e:fn'=fn:=Option.some.inj (hfn'.symm.trans hfn)
 subst e
 obtain ⟨⟨⟨ds,gs,before,hw,hc⟩,hx⟩,hz⟩:=hpre
 have hw':=DataW.Whole.of_heap (w':=w.forCall tape i) (by rfl) hw
 refine (contract (w.forCall tape i) w.heap.size i.args ds gs before hval hw' hc (hz.weights hw) (hX _ _ _ (by rfl) hx) hsh hholds).mono fun e W' ⟨v,he,hp⟩=>?_
 subst he
 exact ChangeSpec.post_blind hp
open Go.ChangeShapes Go.WideShapes Go.ChangeAt
theorem cellsTerm:Pg.cellsOf 32=2:=by kernel_rfl
theorem cellsSize:Pg.cellsOf 24=2:=by kernel_rfl
theorem cellsString:Pg.cellsOf 9=1:=by kernel_rfl
theorem cellsInt:Pg.cellsOf 3=1:=by kernel_rfl
theorem cellsTerms:Pg.cellsOf 22=1:=by kernel_rfl
theorem bytesTerm:1≤Pg.bytesOf 32:=Nat.le_of_ble_eq_true (by kernel_rfl)
section
variable {H:Type} {enc:TypeId×Value→H} {w:World} {base:Nat} {spare:Nat→Bool} {held:Bool}
theorem term_of {m:Nat} {cs:List Value} {y:DataW H×List MemPlace} (h:DataW.trod enc Pg w base spare held m 32 cs=some y) (hr:Reached Pg 32 y.1):∃ x,ETerm w cs x:=by
 obtain ⟨hl,n,hf⟩:=struct_of_trod Tryz.underlying32 cellsTerm h hr
 obtain ⟨y0,h0,r0⟩:=hf 0 9 0 1 rfl cellsString
 obtain ⟨y1,h1,r1⟩:=hf 1 3 1 1 rfl cellsInt
 match cs,hl with
 | [c0,c1],_ =>
  obtain ⟨s,e0,_⟩:=DataW.trod_string Tryz.underlying9 h0
  obtain ⟨k,e1,_⟩:=DataW.trod_int Tryz.underlying3 h1
  simp at e0 e1
  subst e0 e1
  exact ⟨⟨s,k⟩,rfl⟩
theorem size_of {m:Nat} {cs:List Value} {y:DataW H×List MemPlace} (h:DataW.trod enc Pg w base spare held m 24 cs=some y) (hr:Reached Pg 24 y.1):∃ b tv ts,cs=[.int .i64 b,tv]∧TermsOf w tv ts∧ts.length≤140737488355328:=by
 obtain ⟨hl,n,hf⟩:=struct_of_trod Tryz.underlying24 cellsSize h hr
 obtain ⟨y0,h0,r0⟩:=hf 0 3 0 1 rfl cellsInt
 obtain ⟨y1,h1,r1⟩:=hf 1 22 1 1 rfl cellsTerms
 match cs,hl with
 | [c0,c1],_ =>
  obtain ⟨a,e0,_⟩:=DataW.trod_int Tryz.underlying3 h0
  obtain ⟨v,l,e1,hS,_,hL⟩:=slice_of_trod (E:=ETerm) (Q:=fun _=>True) Tryz.underlying22 cellsTerm bytesTerm (by decide) (fun _ _ _ h hr=>let ⟨x,hx⟩:=term_of h hr; ⟨x,hx,trivial⟩) h1 r1
  simp at e0 e1
  subst e0 e1
  exact ⟨a,_,l,rfl,hS,hL⟩
theorem siz_val {r:Reach} {b0:Nat} {v:Value} {d:DataW H} {ps:List MemPlace} (hval:Value.okWide Pg w r b0 24 v) (h:DataW.Trod enc Pg w base spare held 24 v d ps) (hr:Reached Pg 24 d):∃ f:Int×List TermD,SizeVal w v f.1 f.2∧True:=by
 obtain ⟨cs,rfl,_⟩:=okWide_struct Tryz.underlying24 hval
 obtain ⟨fuel,hf⟩:=h
 obtain ⟨b,tv,ts,h1,h2,_⟩:=size_of hf hr
 exact ⟨(b,ts),⟨tv,congrArg Value.agg (by rw [← Array.toArray_toList (xs := #[.int .i64 b,tv]),← h1,cells_agg]),h2⟩,trivial⟩
end
end Go.Proofs.YtpgkjhikdhdffaaGreatDoor
namespace Go.Proofs.YtpgkjhikdhdffaaGreatDoor
open Sw
open Go.RowKit Go.Deep
open Go.ChangeShapes Go.WideShapes Go.ChangeAt
theorem cellsRng:Pg.cellsOf 51=2:=by kernel_rfl
theorem cellsRan:Pg.cellsOf 68=3:=by kernel_rfl
theorem bytesRan:1≤Pg.bytesOf 68:=Nat.le_of_ble_eq_true (by kernel_rfl)
section
variable {H:Type} {enc:TypeId×Value→H} {w:World} {base:Nat} {spare:Nat→Bool} {held:Bool}
theorem rng_of {m:Nat} {cs:List Value} {y:DataW H×List MemPlace} (h:DataW.trod enc Pg w base spare held m 51 cs=some y) (hr:Reached Pg 51 y.1):∃ a b,cs=[.int .i64 a,.int .i64 b]:=by
 obtain ⟨hl,n,hf⟩:=struct_of_trod Tryz.underlying51 cellsRng h hr
 obtain ⟨y0,h0,r0⟩:=hf 0 3 0 1 rfl cellsInt
 obtain ⟨y1,h1,r1⟩:=hf 1 3 1 1 rfl cellsInt
 match cs,hl with
 | [c0,c1],_ =>
  obtain ⟨s,e0,_⟩:=DataW.trod_int Tryz.underlying3 h0
  obtain ⟨k,e1,_⟩:=DataW.trod_int Tryz.underlying3 h1
  simp at e0 e1
  subst e0 e1
  exact ⟨s,k,rfl⟩
theorem ran_of {m:Nat} {cs:List Value} {y:DataW H×List MemPlace} (h:DataW.trod enc Pg w base spare held m 68 cs=some y) (hr:Reached Pg 68 y.1):∃ x,ERan w cs x:=by
 obtain ⟨hl,n,hf⟩:=struct_of_trod Tryz.underlying68 cellsRan h hr
 obtain ⟨y0,h0,r0⟩:=hf 0 9 0 1 rfl cellsString
 obtain ⟨y1,h1,r1⟩:=hf 1 51 1 2 rfl cellsRng
 match cs,hl with
 | [c0,c1,c2],_ =>
  obtain ⟨s,e0,_⟩:=DataW.trod_string Tryz.underlying9 h0
  obtain ⟨a,b,e1⟩:=rng_of h1 r1
  simp at e0 e1
  obtain ⟨e1,e2⟩:=e1
  subst e0 e1 e2
  exact ⟨(s,a,b),rfl⟩
theorem rans_val {r:Reach} {b0:Nat} {v:Value} {d:DataW H} {ps:List MemPlace} (hval:Value.okWide Pg w r b0 45 v) (h:DataW.Trod enc Pg w base spare held 45 v d ps) (hr:Reached Pg 45 d):∃ f:List (ByteArray×Int×Int),RansOf w v f∧True:=by
 obtain ⟨a,len,cap,rfl⟩:=okWide_slice Tryz.underlying45 hval
 obtain ⟨fuel,hf⟩:=h
 obtain ⟨v',l,e1,hS,_,_⟩:=slice_of_trod (E:=ERan) (Q:=fun _=>True) Tryz.underlying45 cellsRan bytesRan (by decide) (fun _ _ _ h hr=>let ⟨x,hx⟩:=ran_of h hr; ⟨x,hx,trivial⟩) hf hr
 have e2:[Value.slice a len cap]=[v']:=e1
 injection e2 with e2 _
 subst e2
 exact ⟨l,hS,trivial⟩
end
end Go.Proofs.YtpgkjhikdhdffaaGreatDoor
namespace Go.Proofs.YtpgkjhikdhdffaaGreatDoor
open Sw
open Go.RowKit (intOf Below)
def lessT (x y:TermD):Bool:=decide (y.field.data.toList < x.field.data.toList)
def insT (x:TermD) (l:List TermD):List TermD:=l.takeWhile (lessT x)++x::l.dropWhile (lessT x)
def normR (ts:List TermD):List TermD:=ts.foldl (fun acc t=>insT t acc) []
structure NorS (w0 w:World) (p1 p2 p3:Nat) (base:Int) (tv0 tv:Value) (ts acc:List TermD):Prop where
 e:Ext w0 w
 l1:w0.heap.size≤p1
 l2:p1 < p2
 l3:p2 < p3
 h1:w.heap[p1]?=some (.cells #[.int .i64 base,tv0] TSz (0,0))
 h2:w.heap[p2]?=some (.cells #[.int .i64 0,.slice none 0 0] TSz (0,0))
 h3:w.heap[p3]?=some (.cells #[.int .i64 base,tv] TSz (0,0))
 hT:TermsOf w0 tv0 ts
 hO:OwnE w (p3+1) TTm 2 termCells tv acc
def addW (n:Int) (s:ByteArray) (l:List TermD):Int:=l.foldl (fun n t=>if t.field=s then IntKind.i64.wrap (n+t.factor) else n) n
theorem addW_snoc (n:Int) (s:ByteArray) (l:List TermD) (t:TermD):addW n s (l++[t])=if t.field=s then IntKind.i64.wrap (addW n s l+t.factor) else addW n s l:=by
 unfold addW
 rw [List.foldl_append]
 rfl
def pfT (l:List TermD) (x:TermD):TermD:=⟨x.field,addW x.factor x.field l⟩
def inA (a:List TermD) (t:TermD):Bool:=a.any fun x=>decide (x.field=t.field)
def postA (a l:List TermD):List TermD:=l.filter fun t=>!inA a t
def allR (a l:List TermD):List TermD:=a.map (pfT l)++postA a l
structure RAd (w0 w:World) (p2 p3 p4 p6 g cap lo:Nat) (ba bb bs:Int) (tva tvb:Value) (all:List TermD):Prop where
 e:Ext w0 w
 l2:p2 < lo
 l3:p3 < lo
 l4:p4 < lo
 lo0:w0.heap.size≤lo
 l4':w0.heap.size≤p4
 l6:lo≤p6
 ng:g≠p6
 h2:w.heap[p2]?=some (.cells #[.int .i64 ba,tva] TSz (0,0))
 h3:w.heap[p3]?=some (.cells #[.int .i64 bb,tvb] TSz (0,0))
 h4:w.heap[p4]?=some (.cells #[.int .i64 0,.slice none 0 0] TSz (0,0))
 h6:w.heap[p6]?=some (.cells #[.int .i64 bs,.slice (some ⟨g,0,none⟩) all.length cap] TSz (0,0))
 hO:OwnE w lo TTm 2 termCells (.slice (some ⟨g,0,none⟩) all.length cap) all
structure RAo (A w:World) (p10:Nat) (bs:Int) (tvo:Value) (out:List TermD):Prop where
 e:Ext A w
 l:A.heap.size≤p10
 h:w.heap[p10]?=some (.cells #[.int .i64 bs,tvo] TSz (0,0))
 hO:OwnE w (p10+1) TTm 2 termCells tvo out
def nz (t:TermD):Bool:=decide (t.factor≠0)
abbrev fieldsL (l:List TermD):List ByteArray:=l.map (·.field)
def ltT (x y:TermD):Prop:=x.field.data.toList < y.field.data.toList
theorem insT_perm (x:TermD) (l:List TermD):(insT x l).Perm (x::l):=by
 unfold insT
 refine List.perm_middle.trans (List.Perm.cons x ?_)
 rw [List.takeWhile_append_dropWhile]
theorem normR_perm:∀ (ts acc:List TermD),(ts.foldl (fun acc t=>insT t acc) acc).Perm (ts++acc)
 | [],acc=>List.Perm.refl _
 | t::ts,acc=>by
  rw [List.foldl_cons,List.cons_append]
  refine (normR_perm ts _).trans ?_
  refine ((insT_perm t acc).append_left ts).trans ?_
  exact List.perm_middle
theorem lt_of_ne {x y:TermD} (h:lessT x y=false) (hne:x.field≠y.field):ltT x y:=by
 unfold lessT at h
 have h1:¬ y.field.data.toList < x.field.data.toList:=of_decide_eq_false h
 refine Classical.byContradiction fun h2=>hne (bytes_ext (List.le_antisymm (List.not_lt.1 h1) (List.not_lt.1 h2)))
theorem insT_sorted {x:TermD} {l:List TermD} (hs:l.Pairwise ltT) (hn:x.field ∉ fieldsL l):(insT x l).Pairwise ltT:=by
 have hl:l.takeWhile (lessT x)++l.dropWhile (lessT x)=l:=List.takeWhile_append_dropWhile
 have h1:∀ y∈l.takeWhile (lessT x),ltT y x:=fun y hy=>by
  have h0:lessT x y=true:=List.all_eq_true.1 (List.all_takeWhile (p:=lessT x) (l:=l)) y hy
  unfold lessT at h0
  exact (decide_eq_true_iff (p:=y.field.data.toList < x.field.data.toList)).1 h0
 unfold insT
 rw [← hl] at hs
 obtain ⟨a1,a2,a3⟩:=List.pairwise_append.1 hs
 have h2:∀ z∈l.dropWhile (lessT x),ltT x z:=by
  intro z hz
  have hzl:z∈l:=by rw [← hl];exact List.mem_append_right _ hz
  cases hd:l.dropWhile (lessT x) with
  | nil=>rw [hd] at hz;cases hz
  | cons d r =>
   have hdl:d∈l:=by rw [← hl,hd];exact List.mem_append_right _ List.mem_cons_self
   have hnd:lessT x d=false:=by
    have:=List.head_dropWhile_not (lessT x) (l:=l) (by rw [hd];exact List.cons_ne_nil _ _)
    simp only [hd,List.head_cons] at this
    simpa using this
   have hxd:ltT x d:=lt_of_ne hnd fun e=>hn (by rw [e];exact List.mem_map_of_mem hdl)
   rw [hd] at hz a2
   rcases List.mem_cons.1 hz with rfl | hz
   · exact hxd
   · exact List.lt_trans hxd ((List.pairwise_cons.1 a2).1 z hz)
 refine List.pairwise_append.2 ⟨a1,List.pairwise_cons.2 ⟨h2,a2⟩,fun y hy z hz=>?_⟩
 rcases List.mem_cons.1 hz with rfl | hz
 · exact h1 y hy
 · exact a3 y hy z hz
theorem normR_sorted:∀ (ts acc:List TermD),acc.Pairwise ltT→(fieldsL ts).Nodup→(∀ t∈ts,t.field ∉ fieldsL acc)→(ts.foldl (fun acc t=>insT t acc) acc).Pairwise ltT
 | [],acc,h,_,_=>h
 | t::ts,acc,h,hn,hd=>by
  rw [List.foldl_cons]
  obtain ⟨h1,h2⟩:=List.nodup_cons.1 hn
  refine normR_sorted ts _ (insT_sorted h (hd t List.mem_cons_self)) h2 fun u hu hm=>?_
  have:=((insT_perm t acc).map (·.field)).mem_iff.1 hm
  rw [List.map_cons,List.mem_cons] at this
  rcases this with h3 | h3
  · have h4:t.field=u.field:=h3.symm
    exact h1 (List.mem_map.2 ⟨u,hu,h4.symm⟩)
  · exact hd u (List.mem_cons_of_mem _ hu) h3
theorem normR_mem {ts:List TermD} {t:TermD}:t∈normR ts↔t∈ts:=by
 have:=(normR_perm ts []).mem_iff (a:=t)
 rwa [List.append_nil] at this
theorem sumT1_eq {l out:List TermD} (hn:(fieldsL out).Nodup) (h1:∀ t∈out,t.factor=addF t.field l∧addF t.field l≠0) (h2:∀ s,addF s l≠0→s∈fieldsL out):sumT1 l=normR out:=by
 have hs:(fieldsL (normR out)).Pairwise (fun x y=>x.data.toList < y.data.toList):=by
  rw [List.pairwise_map]
  exact normR_sorted out [] List.Pairwise.nil hn fun _ _ h=>by cases h
 have hf:fieldsL (normR out)=sortB ((dedupB (l.map (·.field))).filter fun s=>decide (addF s l≠0)):=by
  refine strict_ext hs (sortB_strict ((nodup_dedupB _).filter _)) fun s=>?_
  rw [mem_sortB,List.mem_filter,mem_dedupB,decide_eq_true_eq]
  constructor
  · intro h
    obtain ⟨t,ht,rfl⟩:=List.mem_map.1 h
    have:=(h1 t (normR_mem.1 ht)).2
    exact ⟨addF_mem this,this⟩
  · rintro ⟨_,h⟩
    obtain ⟨t,ht,rfl⟩:=List.mem_map.1 (h2 s h)
    exact List.mem_map_of_mem (normR_mem.2 ht)
 unfold sumT1
 rw [← hf,List.map_map]
 refine (List.map_congr_left fun t ht=>?_).trans (List.map_id _)
 obtain ⟨h3,_⟩:=h1 t (normR_mem.1 ht)
 simp only [Function.comp,id]
 rw [← h3]
theorem addW_out {s:ByteArray}:∀ (l:List TermD) (n:Int),s ∉ fieldsL l→addW n s l=n
 | [],n,_=>rfl
 | t::l,n,h=>by
  have h:¬ (s=t.field∨s∈fieldsL l):=fun e=>h (List.mem_cons.2 e)
  have:addW n s (t::l)=addW (if t.field=s then IntKind.i64.wrap (n+t.factor) else n) s l:=rfl
  rw [this,if_neg (fun e=>h (.inl e.symm)),addW_out l n fun e=>h (.inr e)]
theorem addW_in:∀ (l:List TermD) (n:Int) (x:TermD),x∈l→(fieldsL l).Nodup→addW n x.field l=IntKind.i64.wrap (n+x.factor)
 | [],_,_,h,_=>by cases h
 | t::l,n,x,h,hn=>by
  obtain ⟨h1,h2⟩:=List.nodup_cons.1 hn
  have he:addW n x.field (t::l)=addW (if t.field=x.field then IntKind.i64.wrap (n+t.factor) else n) x.field l:=rfl
  rw [he]
  rcases List.mem_cons.1 h with rfl | h
  · rw [if_pos rfl,addW_out l _ h1]
  · have hne:¬ t.field=x.field:=fun e=>h1 (List.mem_map.2 ⟨x,h,e.symm⟩)
    rw [if_neg hne,addW_in l n x h h2]
theorem addF_app (s:ByteArray) (a b:List TermD):addF s (a++b)=addW (addF s a) s b:=by
 unfold addF addW
 rw [List.foldl_append]
theorem addF_in {l:List TermD} {x:TermD} (h:x∈l) (hn:(fieldsL l).Nodup) (hs:smallB x.factor=true):addF x.field l=x.factor:=by
 have:=addW_in l 0 x h hn
 have h2:=small_iff.1 hs
 rw [Int.zero_add,wrap_ok (by omega) (by omega)] at this
 exact this
theorem addF_out {l:List TermD} {s:ByteArray} (h:s ∉ fieldsL l):addF s l=0:=addW_out l 0 h
theorem terms_nodup:∀ (ts:List TermD) (seen:List ByteArray),termsB seen ts=true→(fieldsL ts).Nodup∧∀ t∈ts,t.field ∉ seen
 | [],seen,_=>⟨List.nodup_nil,fun _ h=>by cases h⟩
 | t::ts,seen,h=>by
  simp only [termsB,Bool.and_eq_true,Bool.not_eq_true'] at h
  obtain ⟨⟨h1,_⟩,h3⟩:=h
  obtain ⟨h4,h5⟩:=terms_nodup ts _ h3
  have h6:t.field ∉ seen:=fun hm=>by
   have:memB seen t.field=true:=by
    unfold memB
    simpa using hm
   rw [h1] at this
   cases this
  refine ⟨List.nodup_cons.2 ⟨fun hm=>?_,h4⟩,fun u hu=>?_⟩
  · obtain ⟨u,hu,he⟩:=List.mem_map.1 hm
    exact h5 u hu (by rw [he];simp)
  · rcases List.mem_cons.1 hu with rfl | hu
    · exact h6
    · exact fun hm=>h5 u hu (List.mem_append_left _ hm)
structure Fine (ts:List TermD):Prop where
 nd:(fieldsL ts).Nodup
 sm:∀ t∈ts,smallB t.factor=true
 nz:∀ t∈ts,t.factor≠0
 len:ts.length≤4
theorem size_fine {b:Int} {ts:List TermD} (h:sizeB b ts=true):Fine ts∧smallB b=true:=by
 unfold sizeB at h
 simp only [Bool.and_eq_true,decide_eq_true_eq] at h
 have h1:=terms_all ts [] h.2
 refine ⟨⟨(terms_nodup ts [] h.2).1,fun t ht=>?_,fun t ht=>?_,h.1.2⟩,h.1.1⟩
 · have:=h1 t ht
   unfold termB at this
   simp only [Bool.and_eq_true] at this
   exact this.2
 · have:=h1 t ht
   unfold termB at this
   simp only [Bool.and_eq_true,bne_iff_ne] at this
   exact this.1.2
theorem inA_iff {a:List TermD} {t:TermD}:inA a t=true↔t.field∈fieldsL a:=by
 unfold inA
 rw [List.any_eq_true,List.mem_map]
 constructor
 · rintro ⟨x,hx,h⟩
   exact ⟨x,hx,of_decide_eq_true h⟩
 · rintro ⟨x,hx,h⟩
   exact ⟨x,hx,decide_eq_true h⟩
theorem allR_fac {a b:List TermD} (ha:Fine a) (hb:Fine b) {t:TermD} (h:t∈allR a b):t.factor=addF t.field (a++b):=by
 unfold allR at h
 rw [addF_app]
 rcases List.mem_append.1 h with h | h
 · obtain ⟨x,hx,rfl⟩:=List.mem_map.1 h
   show addW x.factor x.field b=addW (addF x.field a) x.field b
   rw [addF_in hx ha.nd (ha.sm x hx)]
 · unfold postA at h
   rw [List.mem_filter] at h
   obtain ⟨h1,h2⟩:=h
   have h3:t.field ∉ fieldsL a:=fun hm=>by rw [inA_iff.2 hm] at h2;cases h2
   rw [addF_out h3]
   exact (addF_in h1 hb.nd (hb.sm t h1)).symm
theorem allR_fields (a b:List TermD):fieldsL (allR a b)=fieldsL a++fieldsL (postA a b):=by
 unfold allR fieldsL
 rw [List.map_append,List.map_map]
 rfl
theorem allR_nodup {a b:List TermD} (ha:Fine a) (hb:Fine b):(fieldsL (allR a b)).Nodup:=by
 rw [allR_fields]
 refine List.nodup_append.2 ⟨ha.nd,hb.nd.sublist ((List.filter_sublist).map _),fun x hx y hy e=>?_⟩
 subst e
 obtain ⟨t,ht,rfl⟩:=List.mem_map.1 hy
 unfold postA at ht
 rw [List.mem_filter] at ht
 rw [inA_iff.2 hx] at ht
 exact absurd ht.2 (by decide)
theorem allR_has {a b:List TermD} {s:ByteArray} (h:s∈fieldsL (a++b)):s∈fieldsL (allR a b):=by
 rw [allR_fields]
 have h:s∈fieldsL a++fieldsL b:=by unfold fieldsL at *;rwa [List.map_append] at h
 by_cases hm:s∈fieldsL a
 · exact List.mem_append_left _ hm
 · rcases List.mem_append.1 h with h | h
   · exact absurd h hm
   · obtain ⟨t,ht,rfl⟩:=List.mem_map.1 h
     refine List.mem_append_right _ (List.mem_map_of_mem (List.mem_filter.2 ⟨ht,?_⟩))
     cases hc:inA a t with
     | false=>rfl
     | true=>exact absurd (inA_iff.1 hc) hm
theorem sum_left {a b:List TermD} (ha:Fine a) (hb:Fine b):sumT1 (a++b)=normR ((allR a b).filter nz):=by
 refine sumT1_eq ((allR_nodup ha hb).sublist ((List.filter_sublist).map _)) (fun t ht=>?_) (fun s hs=>?_)
 · rw [List.mem_filter] at ht
   have:=allR_fac ha hb ht.1
   exact ⟨this,by rw [← this];exact of_decide_eq_true ht.2⟩
 · obtain ⟨t,ht,rfl⟩:=List.mem_map.1 (allR_has (addF_mem hs))
   refine List.mem_map_of_mem (List.mem_filter.2 ⟨ht,?_⟩)
   rw [← allR_fac ha hb ht] at hs
   exact decide_eq_true hs
theorem checked_ok {but:ByteArray} {ps:List (ByteArray×Value)} {p:Value→Bool}:∀ {ts:List TermD},(∀ t∈ts,t.field≠but→∃ v,lastOf ps t.field=some v∧p v=true)→checkedF but ps p ts false=0
 | [],_=>rfl
 | t::ts,h=>by
  have ih:=checked_ok (ts:=ts) fun u hu=>h u (List.mem_cons_of_mem _ hu)
  unfold checkedF
  by_cases he:t.field=but
  · rw [if_pos he];exact ih
  · obtain ⟨v,h1,h2⟩:=h t List.mem_cons_self he
    rw [if_neg he,h1]
    simp only [h2,if_true]
    exact ih
theorem checked_09 {but:ByteArray} {ps:List (ByteArray×Value)} {p:Value→Bool}:∀ {ts:List TermD} {no:Bool},(∀ t∈ts,∀ v,lastOf ps t.field=some v→p v=true)→checkedF but ps p ts no=0∨checkedF but ps p ts no=9
 | [],no,_=>by cases no<;>simp [checkedF]
 | t::ts,no,h=>by
  have ih:=fun no=>checked_09 (but:=but) (ts:=ts) (no:=no) fun u hu=>h u (List.mem_cons_of_mem _ hu)
  unfold checkedF
  split
  · exact ih no
  · split
    · exact ih true
    · rename_i v hv
      rw [if_pos (h t List.mem_cons_self v hv)]
      exact ih no
theorem checked_no {but:ByteArray} {ps:List (ByteArray×Value)} {p:Value→Bool}:∀ {ts:List TermD},checkedF but ps p ts true≠0
 | []=>by simp [checkedF]
 | t::ts=>by
  have ih:=checked_no (but:=but) (ps:=ps) (p:=p) (ts:=ts)
  unfold checkedF
  split
  · exact ih
  · split
    · exact ih
    · split
      · exact ih
      · decide
theorem checked_known {but:ByteArray} {ps:List (ByteArray×Value)} {p:Value→Bool}:∀ {ts:List TermD},checkedF but ps p ts false=0→∀ t∈ts,t.field≠but→∃ v,lastOf ps t.field=some v∧p v=true
 | [],_,t,ht,_=>by cases ht
 | u::ts,h,t,ht,he=>by
  unfold checkedF at h
  by_cases hu:u.field=but
  · rw [if_pos hu] at h
    rcases List.mem_cons.1 ht with rfl | ht
    · exact absurd hu he
    · exact checked_known h t ht he
  · rw [if_neg hu] at h
    cases hl:lastOf ps u.field with
    | none=>rw [hl] at h;exact absurd h checked_no
    | some v =>
     rw [hl] at h
     simp only at h
     cases hp:p v with
     | false=>rw [hp] at h;simp at h
     | true =>
      rw [hp,if_pos rfl] at h
      rcases List.mem_cons.1 ht with rfl | ht
      · exact ⟨v,hl,hp⟩
      · exact checked_known h t ht he
theorem okV_iff {n:Int}:okV (.int .i64 n)=true↔0≤n∧n < 34359738368:=by
 unfold okV
 simp
theorem sumT_perm {f:TermD→Int} {a b:List TermD} (h:a.Perm b):sumT f a=sumT f b:=by
 induction h with
 | nil=>rfl
 | cons x _ ih=>simp only [sumT];rw [ih]
 | swap x y l=>simp only [sumT];omega
 | trans _ _ h1 h2=>rw [h1,h2]
theorem sumT_app {f:TermD→Int}:∀ (a b:List TermD),sumT f (a++b)=sumT f a+sumT f b
 | [],b=>by simp [sumT]
 | x::a,b=>by
  have:=sumT_app (f:=f) a b
  simp only [List.cons_append,sumT]
  omega
theorem sumT_nz {f:TermD→Int}:∀ (l:List TermD),sumT f (l.filter nz)=sumT f l
 | []=>rfl
 | x::l=>by
  have ih:=sumT_nz (f:=f) l
  cases h:nz x with
  | true =>
   rw [List.filter_cons_of_pos h]
   simp only [sumT]
   rw [ih]
  | false =>
   have hz:x.factor=0:=by
    unfold nz at h
    simpa using h
   rw [List.filter_cons_of_neg (by simp [h])]
   simp only [sumT]
   rw [ih,hz]
   omega
theorem sum_pf {g:ByteArray→Int} {t:TermD} {l:List TermD} (hl:(fieldsL (l++[t])).Nodup) (ht:smallB t.factor=true):∀ (a:List TermD),(fieldsL a).Nodup→(∀ x∈a,smallB x.factor=true) →
 sumT (fun t=>g t.field) (a.map (pfT (l++[t])))=sumT (fun t=>g t.field) (a.map (pfT l))+(if inA a t then t.factor*g t.field else 0)
 | [],_,_=>by simp [sumT,inA]
 | x::a,hn,hs=>by
  obtain ⟨h1,h2⟩:=List.nodup_cons.1 hn
  have ih:=sum_pf (g:=g) hl ht a h2 fun y hy=>hs y (List.mem_cons_of_mem _ hy)
  have htl:t.field ∉ fieldsL l:=by
   have:(fieldsL l++[t.field]).Nodup:=by
    have:=hl
    unfold fieldsL at this ⊢
    rwa [List.map_append] at this
   have:=(List.nodup_append.1 this).2.2
   exact fun hm=>this _ hm _ List.mem_cons_self rfl
  have hsx:=small_iff.1 (hs x List.mem_cons_self)
  have hst:=small_iff.1 ht
  have hin:inA (x::a) t=(decide (x.field=t.field)||inA a t):=rfl
  simp only [List.map_cons,sumT]
  rw [ih,hin]
  by_cases he:x.field=t.field
  · have hna:inA a t=false:=by
     cases hc:inA a t with
     | false=>rfl
     | true =>
      have hm:x.field∈fieldsL a:=by rw [he];exact inA_iff.1 hc
      exact absurd hm h1
    have hpf:(pfT (l++[t]) x).factor=(pfT l x).factor+t.factor:=by
     unfold pfT
     simp only
     rw [addW_snoc,if_pos he.symm,addW_out l _ (by rw [he];exact htl),wrap_ok (by omega) (by omega)]
    have hd:decide (x.field=t.field)=true:=decide_eq_true he
    have hfx:(pfT (l++[t]) x).field=x.field:=rfl
    have hfx2:(pfT l x).field=x.field:=rfl
    rw [hna,hd,Bool.true_or,if_pos rfl,if_neg (by decide),hpf,hfx,hfx2,he,Int.add_mul]
    omega
  · have hpf:pfT (l++[t]) x=pfT l x:=by
     unfold pfT
     rw [addW_snoc,if_neg (fun e=>he e.symm)]
    have hd:decide (x.field=t.field)=false:=decide_eq_false he
    rw [hpf,hd,Bool.false_or]
    omega
theorem postA_snoc (a l:List TermD) (t:TermD):postA a (l++[t])=if inA a t then postA a l else postA a l++[t]:=by
 unfold postA
 rw [List.filter_append]
 cases h:inA a t<;>simp [h]
theorem sum_allR {g:ByteArray→Int} {a:List TermD} (ha:Fine a):∀ (k:Nat) (l:List TermD),l.length=k→(fieldsL l).Nodup→(∀ t∈l,smallB t.factor=true)→sumT (fun t=>g t.field) (allR a l)=sumT (fun t=>g t.field) a+sumT (fun t=>g t.field) l
 | 0,l,hk,_,_=>by
  obtain rfl:l=[]:=List.eq_nil_of_length_eq_zero hk
  have:allR a []=a:=by
   unfold allR postA
   rw [List.filter_nil,List.append_nil]
   exact List.map_id'' (fun x=>rfl) a
  rw [this]
  simp [sumT]
 | k+1,l,hk,hn,hs=>by
  obtain ⟨l',t,rfl⟩:∃ l' t,l=l'++[t]:=by
   rcases List.eq_nil_or_concat l with h | ⟨l',t,h⟩
   · rw [h] at hk;simp at hk
   · exact ⟨l',t,by rw [h,List.concat_eq_append]⟩
  have hk':l'.length=k:=by rw [List.length_append] at hk;simpa using hk
  have hn':(fieldsL l').Nodup:=by
   have:=hn
   unfold fieldsL at this ⊢
   rw [List.map_append] at this
   exact (List.nodup_append.1 this).1
  have ih:=sum_allR (g:=g) ha k l' hk' hn' fun u hu=>hs u (List.mem_append_left _ hu)
  have hp:=sum_pf (g:=g) hn (hs t (List.mem_append_right _ List.mem_cons_self)) a ha.nd ha.sm
  unfold allR at ih ⊢
  rw [sumT_app] at ih ⊢
  rw [hp,postA_snoc,sumT_app l' [t]]
  have h1:sumT (fun t=>g t.field) [t]=t.factor*g t.field:=by simp [sumT]
  rw [h1]
  cases hin:inA a t with
  | true =>
   simp only [if_true]
   omega
  | false =>
   simp only [Bool.false_eq_true,if_false]
   rw [sumT_app,h1]
   omega
structure AtOk (rp:List (ByteArray×Int×Int)) (vp:List (ByteArray×Int)):Prop where
 ok:∀ s v,lastI vp s=some v→∃ lo hi,lastR rp s=some (lo,hi)∧0≤lo∧lo≤v∧v≤hi∧hi≤17179869184
 has:∀ s,(lastR rp s).isSome=true→(lastI vp s).isSome=true
def KnownT (rp:List (ByteArray×Int×Int)) (ts:List TermD):Prop:=∀ t∈ts,(lastR rp t.field).isSome=true
section
variable {rp:List (ByteArray×Int×Int)} {vp vl vh:List (ByteArray×Int)} {base:Int} {ts:List TermD}
theorem at_val (h:AtOk rp vp) (hk:KnownT rp ts) {t:TermD} (ht:t∈ts):∃ lo hi,lastR rp t.field=some (lo,hi)∧lastI vp t.field=some (valF vp t)∧0≤lo∧lo≤valF vp t∧valF vp t≤hi∧hi≤17179869184:=by
 obtain ⟨v,hv⟩:=Option.isSome_iff_exists.1 (h.has _ (hk t ht))
 obtain ⟨lo,hi,h1,h2,h3,h4,h5⟩:=h.ok _ _ hv
 have:valF vp t=v:=by unfold valF;rw [hv];rfl
 rw [this]
 exact ⟨lo,hi,h1,hv,h2,h3,h4,h5⟩
theorem eval_of (hs:sizeB base ts=true) {but:ByteArray} (hv:∀ t∈ts,t.field≠but→∃ v,lastI vp t.field=some v∧0≤v∧v≤17179869184):evalE base ts but vp=0:=by
 unfold evalE
 rw [hs,if_pos rfl]
 refine checked_ok fun t ht hne=>?_
 obtain ⟨v,h1,h2,h3⟩:=hv t ht hne
 exact ⟨.int .i64 v,by rw [lastOf_IP,h1];rfl,okV_iff.2 ⟨h2,by omega⟩⟩
theorem num_of (hs:sizeB base ts=true) {f:TermD→Int} (hf:∀ t∈ts,0≤f t∧f t≤17179869184):numW base f ts=base+sumT f ts ∧ -1152921504606846976≤base+sumT f ts∧base+sumT f ts≤1152921504606846976:=by
 obtain ⟨hf4,hb⟩:=size_fine hs
 have hb:=small_iff.1 hb
 have hl:=hf4.len
 have hm:∀ t∈ts,-36028797018963968≤t.factor*f t∧t.factor*f t≤36028797018963968:=fun t ht=>by
  have h1:=small_iff.1 (hf4.sm t ht)
  have h2:=hf t ht
  exact mul_bound h1.1 h1.2 h2.1 (by omega)
 have hsum:∀ l:List TermD,(∀ t∈l,-36028797018963968≤t.factor*f t∧t.factor*f t≤36028797018963968) → -(l.length*36028797018963968)≤sumT f l∧sumT f l≤l.length*36028797018963968:=by
  intro l
  induction l with
  | nil=>intro _;simp [sumT]
  | cons x l ih =>
   intro h
   have h1:=h x List.mem_cons_self
   have h2:=ih fun t ht=>h t (List.mem_cons_of_mem _ ht)
   simp only [sumT,List.length_cons]
   omega
 have h3:=hsum ts hm
 refine ⟨numW_sum ts base hm (by omega) (by omega),by omega,by omega⟩
theorem eval_num (hs:sizeB base ts=true) (hv:∀ t∈ts,∃ v,lastI vp t.field=some v∧0≤v∧v≤17179869184):evalE base ts ByteArray.empty vp=0∧evalN base ts vp=base+sumT (valF vp) ts:=by
 have he:=eval_of (but:=ByteArray.empty) hs fun t ht _=>hv t ht
 refine ⟨he,?_⟩
 unfold evalN
 rw [if_pos he]
 refine (num_of hs fun t ht=>?_).1
 obtain ⟨v,h1,h2,h3⟩:=hv t ht
 have:valF vp t=v:=by unfold valF;rw [h1];rfl
 rw [this]
 exact ⟨h2,h3⟩
theorem at_known (h:AtOk rp vp) (hk:KnownT rp ts):∀ t∈ts,∃ v,lastI vp t.field=some v∧0≤v∧v≤17179869184:=fun t ht=>by
 obtain ⟨lo,hi,_,h1,h2,h3,h4,h5⟩:=at_val h hk ht
 exact ⟨_,h1,by omega,by omega⟩
theorem end_rng (h:AtOk rp vp) (hk:KnownT rp ts) (least:Bool):∀ t∈ts,0≤endF rp least t∧endF rp least t≤17179869184:=fun t ht=>by
 obtain ⟨lo,hi,h1,_,h2,h3,h4,h5⟩:=at_val h hk ht
 unfold endF
 rw [h1]
 simp only
 split<;>omega
theorem interval_of (hs:sizeB base ts=true) (h:AtOk rp vp) (hk:KnownT rp ts):intervalE base ts rp=0∧intervalL base ts rp=base+sumT (endF rp true) ts∧intervalH base ts rp=base+sumT (endF rp false) ts:=by
 have he:intervalE base ts rp=0:=by
  unfold intervalE
  rw [hs,if_pos rfl]
  refine checked_ok fun t ht _=>?_
  obtain ⟨lo,hi,h1,_,h2,h3,h4,h5⟩:=at_val h hk ht
  refine ⟨rangeVal lo hi,by rw [lastOf_RP,h1];rfl,?_⟩
  unfold rangeVal wideV wideB
  simp only [Bool.and_eq_true,decide_eq_true_eq]
  omega
 refine ⟨he,?_,?_⟩
 · unfold intervalL
   rw [if_pos he]
   exact (num_of hs (end_rng h hk true)).1
 · unfold intervalH
   rw [if_pos he]
   exact (num_of hs (end_rng h hk false)).1
theorem sumT_le {f g:TermD→Int}:∀ {l:List TermD},(∀ t∈l,t.factor*f t≤t.factor*g t)→sumT f l≤sumT g l
 | [],_=>Int.le_refl _
 | x::l,h=>by
  have h1:=h x List.mem_cons_self
  have h2:=sumT_le (f:=f) (g:=g) (l:=l) fun t ht=>h t (List.mem_cons_of_mem _ ht)
  simp only [sumT]
  omega
theorem num_in (h:AtOk rp vp) (hk:KnownT rp ts):sumT (endF rp true) ts≤sumT (valF vp) ts∧sumT (valF vp) ts≤sumT (endF rp false) ts:=by
 refine ⟨sumT_le fun t ht=>?_,sumT_le fun t ht=>?_⟩ <;>
 · obtain ⟨lo,hi,h1,_,h2,h3,h4,h5⟩:=at_val h hk ht
   unfold endF
   rw [h1]
   by_cases hp:t.factor > 0
   · simp only [hp,decide_true,BEq.rfl,if_true,Bool.false_eq_true,beq_true,if_false]
     exact Int.mul_le_mul_of_nonneg_left (by omega) (by omega)
   · simp only [hp,decide_false,Bool.true_eq_false,beq_false,Bool.not_true,if_false,Bool.not_false,if_true,Bool.false_eq_true]
     exact Int.mul_le_mul_of_nonpos_left (by omega) (by omega)
structure EndOk (rp:List (ByteArray×Int×Int)) (ts:List TermD) (least:Bool) (vp:List (ByteArray×Int)):Prop where
 ok:∀ t∈ts,lastI vp t.field=some (endF rp least t)
theorem end_num {least:Bool} (hs:sizeB base ts=true) (h:AtOk rp vp) (hk:KnownT rp ts) (he:EndOk rp ts least vl):evalE base ts ByteArray.empty vl=0∧evalN base ts vl=base+sumT (endF rp least) ts:=by
 obtain ⟨h1,h2⟩:=eval_num (vp:=vl) hs fun t ht=>⟨_,he.ok t ht,end_rng h hk least t ht⟩
 refine ⟨h1,?_⟩
 rw [h2]
 congr 1
 exact sumT_congr fun t ht=>by unfold valF;rw [he.ok t ht];rfl
end
section
variable {rp:List (ByteArray×Int×Int)} {vp:List (ByteArray×Int)} {base ba bb:Int} {ts ta tb:List TermD}
theorem sol_out {s:ByteArray}:∀ {l:List TermD},s ∉ fieldsL l→sumT (solF s vp) l=sumT (valF vp) l
 | [],_=>rfl
 | x::l,h=>by
  have h1:¬ x.field=s:=fun e=>h (List.mem_cons.2 (.inl e.symm))
  have h2:=sol_out (l:=l) fun e=>h (List.mem_cons.2 (.inr e))
  simp only [sumT]
  rw [h2]
  unfold solF
  rw [if_neg h1]
theorem sol_in {t:TermD}:∀ {l:List TermD},t∈l→(fieldsL l).Nodup→sumT (valF vp) l=sumT (solF t.field vp) l+t.factor*valF vp t
 | [],h,_=>by cases h
 | x::l,h,hn=>by
  obtain ⟨h1,h2⟩:=List.nodup_cons.1 hn
  simp only [sumT]
  rcases List.mem_cons.1 h with rfl | h
  · have:=sol_out (vp:=vp) h1
    rw [this]
    unfold solF
    rw [if_pos rfl]
    omega
  · have ih:=sol_in h h2
    have hne:¬ x.field=t.field:=fun e=>h1 (List.mem_map.2 ⟨t,h,e.symm⟩)
    rw [ih]
    have:solF t.field vp x=valF vp x:=by unfold solF;rw [if_neg hne]
    rw [this]
    omega
theorem factor_in {t:TermD}:∀ {l:List TermD},t∈l→(fieldsL l).Nodup→factorOf l t.field=some t.factor
 | [],h,_=>by cases h
 | x::l,h,hn=>by
  obtain ⟨h1,h2⟩:=List.nodup_cons.1 hn
  unfold factorOf
  rcases List.mem_cons.1 h with rfl | h
  · simp
  · have ih:=factor_in h h2
    have hne:¬ x.field=t.field:=fun e=>h1 (List.mem_map.2 ⟨t,h,e.symm⟩)
    unfold factorOf at ih
    rw [List.find?_cons]
    simp only [hne,decide_false]
    exact ih
theorem solve_at (hs:sizeB base ts=true) (h:AtOk rp vp) (hk:KnownT rp ts) {t:TermD} (ht:t∈ts):solveP base ts t.field (base+sumT (valF vp) ts) vp=(valF vp t,0):=by
 obtain ⟨hf,_⟩:=size_fine hs
 have hkn:=at_known h hk
 have he:=eval_of (but:=t.field) hs fun u hu _=>hkn u hu
 have hn:=num_of (f:=valF vp) hs fun u hu=>by
  obtain ⟨lo,hi,_,_,h2,h3,h4,h5⟩:=at_val h hk hu
  omega
 have hn2:=num_of (f:=solF t.field vp) hs fun u hu=>by
  obtain ⟨lo,hi,_,_,h2,h3,h4,h5⟩:=at_val h hk hu
  unfold solF
  split<;>omega
 obtain ⟨lo,hi,_,_,h2,h3,h4,h5⟩:=at_val h hk ht
 have hsum:=sol_in (vp:=vp) ht hf.nd
 have hfac:=small_iff.1 (hf.sm t ht)
 have hnz:=hf.nz t ht
 have hm:=mul_bound hfac.1 hfac.2 (show 0≤valF vp t by omega) (show valF vp t≤34359738368 by omega)
 unfold solveP
 rw [if_pos he]
 unfold solveR
 rw [factor_in ht hf.nd]
 simp only
 rw [if_neg (by omega),hn2.1]
 have hd:base+sumT (valF vp) ts - (base+sumT (solF t.field vp) ts)=t.factor*valF vp t:=by omega
 rw [hd,wrap_ok (x:=t.factor*valF vp t) (by omega) (by omega),Int.mul_tmod_right,Int.mul_tdiv_cancel_left _ hnz,wrap_ok (x:=valF vp t) (by omega) (by omega)]
 rw [if_neg]
 rintro (hc | hc)
 · exact hc rfl
 · rw [okV_iff.2 ⟨by omega,by omega⟩] at hc
   cases hc
theorem eval_09 (hs:sizeB base ts=true) (h:AtOk rp vp):evalE base ts ByteArray.empty vp=0∨evalE base ts ByteArray.empty vp=9:=by
 unfold evalE
 rw [hs,if_pos rfl]
 refine checked_09 fun t ht v hv=>?_
 rw [lastOf_IP] at hv
 obtain ⟨n,hn,rfl⟩:=Option.map_eq_some_iff.1 hv
 obtain ⟨lo,hi,_,h2,h3,h4,h5⟩:=h.ok _ _ hn
 exact okV_iff.2 ⟨by omega,by omega⟩
theorem add_err (ha:sizeB ba ta=true) (hb:sizeB bb tb=true):(addP ba ta bb tb).2.2=0∨(addP ba ta bb tb).2.2=3∨(addP ba ta bb tb).2.2=7:=by
 unfold addP
 rw [ha,hb,Bool.and_self,if_pos rfl]
 split
 · exact .inr (.inl rfl)
 · split
   · exact .inr (.inr rfl)
   · exact .inl rfl
theorem term_ne (hs:sizeB base ts=true) {t:TermD} (ht:t∈ts):t.field≠ByteArray.empty:=by
 have h:=(size_ok hs).2.2 t ht
 intro e
 refine h.ne ?_
 rw [e]
 rfl
theorem term_name (hs:sizeB base ts=true) {t:TermD} (ht:t∈ts):nameB t.field=true:=by
 unfold sizeB at hs
 simp only [Bool.and_eq_true,decide_eq_true_eq] at hs
 have:=terms_all ts [] hs.2 t ht
 unfold termB at this
 simp only [Bool.and_eq_true] at this
 exact this.1.1
theorem known_of_eval (hs:sizeB base ts=true) (h:AtOk rp vp) (he:evalE base ts ByteArray.empty vp=0):KnownT rp ts:=by
 intro t ht
 unfold evalE at he
 rw [hs,if_pos rfl] at he
 obtain ⟨v,h1,_⟩:=checked_known he t ht (term_ne hs ht)
 rw [lastOf_IP] at h1
 obtain ⟨n,hn,_⟩:=Option.map_eq_some_iff.1 h1
 obtain ⟨lo,hi,h2,_⟩:=h.ok _ _ hn
 rw [h2]
 rfl
theorem add_at (ha:sizeB ba ta=true) (hb:sizeB bb tb=true) (h:AtOk rp vp) (hka:KnownT rp ta) (ho:(addP ba ta bb tb).2.2=0) (hp:evalE bb tb ByteArray.empty vp=0) :
 evalE (addP ba ta bb tb).1 (addP ba ta bb tb).2.1 ByteArray.empty vp=0∧evalN (addP ba ta bb tb).1 (addP ba ta bb tb).2.1 vp=evalN ba ta vp+evalN bb tb vp∧(-4611686018427387904≤evalN ba ta vp+evalN bb tb vp∧evalN ba ta vp+evalN bb tb vp≤4611686018427387904):=by
 have hkb:=known_of_eval hb h hp
 obtain ⟨hfa,hba⟩:=size_fine ha
 obtain ⟨hfb,hbb⟩:=size_fine hb
 have hba:=small_iff.1 hba
 have hbb:=small_iff.1 hbb
 have hw:IntKind.i64.wrap (ba+bb)=ba+bb:=wrap_ok (by omega) (by omega)
 unfold addP at ho
 rw [ha,hb,Bool.and_self,if_pos rfl,hw] at ho
 have hq:addP ba ta bb tb=(ba+bb,sumT1 (ta++tb),0)∧smallB (ba+bb)=true∧(∀ t∈sumT1 (ta++tb),smallB t.factor=true)∧(sumT1 (ta++tb)).length≤4:=by
  unfold addP
  rw [ha,hb,Bool.and_self,if_pos rfl,hw]
  by_cases hc:(!smallB (ba+bb)||(sumT1 (ta++tb)).any fun t=>!smallB t.factor)=true
  · rw [if_pos hc] at ho;simp at ho
  · rw [if_neg hc] at ho ⊢
    by_cases hl:(sumT1 (ta++tb)).length > 4
    · rw [if_pos hl] at ho;simp at ho
    · rw [if_neg hl]
      simp only [Bool.or_eq_true,not_or,Bool.not_eq_true,Bool.not_eq_false',List.any_eq_false] at hc
      refine ⟨rfl,hc.1,fun t ht=>?_,by omega⟩
      have:=hc.2 t ht
      simpa using this
 obtain ⟨hq,h1,h2,h3⟩:=hq
 rw [hq]
 simp only
 have hsl:=sum_left hfa hfb
 have hmem:∀ t∈sumT1 (ta++tb),t.field∈fieldsL (ta++tb)∧t.factor≠0:=by
  intro t ht
  unfold sumT1 at ht
  obtain ⟨s,hs,rfl⟩:=List.mem_map.1 ht
  rw [mem_sortB,List.mem_filter,mem_dedupB,decide_eq_true_eq] at hs
  exact hs
 have hnd:(fieldsL (sumT1 (ta++tb))).Nodup:=by
  unfold sumT1 fieldsL
  rw [List.map_map]
  have:(sortB ((dedupB ((ta++tb).map (·.field))).filter fun s=>decide (addF s (ta++tb)≠0))).Nodup:=by
   have:=sortB_strict (((nodup_dedupB ((ta++tb).map (·.field))).filter fun s=>decide (addF s (ta++tb)≠0)))
   exact this.imp fun hlt e=>by subst e;exact List.lt_irrefl _ hlt
  rw [show (fun x:TermD=>x.field) ∘ (fun s=>(⟨s,addF s (ta++tb)⟩:TermD))=id from rfl,List.map_id]
  exact this
 have hall:∀ t∈sumT1 (ta++tb),nameB t.field=true∧(lastR rp t.field).isSome=true:=by
  intro t ht
  obtain ⟨u,hu,he⟩:=List.mem_map.1 (hmem t ht).1
  have he:u.field=t.field:=he
  rw [← he]
  rcases List.mem_append.1 hu with hu | hu
  · exact ⟨term_name ha hu,hka u hu⟩
  · exact ⟨term_name hb hu,hkb u hu⟩
 have hsz:sizeB (ba+bb) (sumT1 (ta++tb))=true:=by
  unfold sizeB
  rw [h1,decide_eq_true h3,(termsB_iff _ []).2]
  · rfl
  · intro k x hx
    have hxm:=List.mem_of_getElem? hx
    have ht:termB x=true:=by
     unfold termB
     rw [(hall x hxm).1,h2 x hxm]
     have:=(hmem x hxm).2
     simpa using this
    rw [ht,List.nil_append]
    simp only [Bool.not_true,Bool.or_false]
    unfold memB
    rw [List.any_eq_false]
    intro s hs
    have hnd':=hnd
    obtain ⟨hk,rfl⟩:=List.getElem?_eq_some_iff.1 hx
    obtain ⟨u,hu,rfl⟩:=List.mem_map.1 hs
    obtain ⟨j,hj,rfl⟩:=List.mem_iff_getElem.1 hu
    rw [List.length_take] at hj
    rw [List.getElem_take]
    intro hd
    have hd:=of_decide_eq_true hd
    have hp:=List.pairwise_iff_getElem.1 hnd j k (by rw [List.length_map];omega) (by rw [List.length_map];omega) (by omega)
    rw [List.getElem_map,List.getElem_map] at hp
    exact hp hd
 have hk3:KnownT rp (sumT1 (ta++tb)):=fun t ht=>(hall t ht).2
 obtain ⟨e1,n1⟩:=eval_num (vp:=vp) hsz (at_known h hk3)
 obtain ⟨e2,n2⟩:=eval_num (vp:=vp) ha (at_known h hka)
 obtain ⟨e3,n3⟩:=eval_num (vp:=vp) hb (at_known h hkb)
 have b2:=num_of (f:=valF vp) ha fun u hu=>by
  obtain ⟨lo,hi,_,_,h2,h3,h4,h5⟩:=at_val h hka hu
  omega
 have b3:=num_of (f:=valF vp) hb fun u hu=>by
  obtain ⟨lo,hi,_,_,h2,h3,h4,h5⟩:=at_val h hkb hu
  omega
 refine ⟨e1,?_,by rw [n2,n3];omega⟩
 rw [n1,n2,n3]
 have hsum:sumT (valF vp) (sumT1 (ta++tb))=sumT (valF vp) ta+sumT (valF vp) tb:=by
  rw [hsl]
  have hp:=normR_perm ((allR ta tb).filter nz) []
  rw [List.append_nil] at hp
  have h1:=sumT_perm (f:=valF vp) hp
  unfold normR
  rw [h1,sumT_nz]
  exact sum_allR (g:=fun s=>(lastI vp s).getD 0) hfa _ tb rfl hfb.nd hfb.sm
 rw [hsum]
 omega
end
abbrev TMI:TypeId:=35
theorem mapof_same {w w':World} {m:Nat} {ps:List (ByteArray×Value)} (h:MapOf w m ps) (hb:w'.heap[m]?=w.heap[m]?):MapOf w' m ps:={ h with obj:=hb.trans h.obj }
theorem IP_snoc (vp:List (ByteArray×Int)) (k:ByteArray) (n:Int):IP (vp++[(k,n)])=IP vp++[(k,.int .i64 n)]:=by unfold IP;rw [List.map_append];rfl
structure OnlyM (m:Nat) (w w':World):Prop where
 os:∀ a,Ext a w→a.heap.size≤m→Ext a w'
 size:w'.heap.size=w.heap.size
 block:∀ b,b≠m→w'.heap[b]?=w.heap[b]?
theorem OnlyM.put {w:World} {m:Nat} (o:Obj):OnlyM m w (w.putObj m o):=⟨fun _ e h=>e.putObj h _,World.putObj_size,fun _ hb=>World.putObj_heap_other hb⟩
theorem update_IP {w:World} {m:Nat} {vp:List (ByteArray×Int)} (h:MapOf w m (IP vp)) (k:ByteArray) (n:Int) {QP:List PanicEntry→World→Prop} {ku:World→Prop} (hk:∀ w',MapOf w' m (IP (vp++[(k,n)]))→OnlyM m w w'→ku w') :
 opU Pg (Instr.mapUpdate TMI (.map (some m)) (.string k) (.int .i64 n)) QP w ku:=by
 rw [op_updateO Tryz.underlying35 Tryz.underlying9 h k]
 refine hk _ ?_ (OnlyM.put _)
 rw [IP_snoc]
 exact h.put k _
theorem entry_IP {w:World} {m:Nat} {vp:List (ByteArray×Int)} (h:MapOf w m (IP vp)) (k:ByteArray) {QP:List PanicEntry→World→Prop} {kk:Value→World→Prop}
 (hk:∀ (w1:World) (z st:Value),OnlyM m w w1→(∀ (n:Int) (QP:List PanicEntry→World→Prop) (ku:World→Prop),(∀ w2,MapOf w2 m (IP (vp++[(k,n)]))→OnlyM m w w2→ku w2)→opU Pg (Instr.entryStore TMI (.map (some m)) st (.int .i64 n)) QP w1 ku)→kk (.tuple #[z,st]) w1) :
 opV Pg (Instr.mapEntry TMI (.map (some m)) (.string k)) QP w kk:=by
 rw [op_mapEntryS Tryz.underlying35 Tryz.underlying9 ty3 h k]
 refine hk _ _ _ (OnlyM.put _) fun n QP ku hku=>?_
 rw [op_entryStore (MapB.ent h k _) (hasK_ent _ _),ent_put,putObj_putObj]
 have hw1:w.putObj m (mapObj (fun s:ByteArray=>Value.string s) (putL (bld (IP vp)).1 (bld (IP vp)).2 k (.int .i64 n)) (putC (bld (IP vp)).1 (bld (IP vp)).2 k))=putW w m (IP vp) k (.int .i64 n):=by
  unfold putW;rw [bld_snoc]
 rw [hw1]
 refine hku _ ?_ (OnlyM.put _)
 rw [IP_snoc]
 exact h.put k _
structure SX (w0 w:World) (p4 p5 m mA mL mH:Nat) (ba bb:Int) (tva tvb:Value) (rp:List (ByteArray×Int×Int)) (vA vL vH:List (ByteArray×Int)):Prop where
 e:Ext w0 w
 h4:w.heap[p4]?=some (.cells #[.int .i64 ba,tva] TSz (0,0))
 h5:w.heap[p5]?=some (.cells #[.int .i64 bb,tvb] TSz (0,0))
 hm:MapOf w m (RP rp)
 hA:MapOf w mA (IP vA)
 hL:MapOf w mL (IP vL)
 hH:MapOf w mH (IP vH)
 l4:p4 < mA
 l5:p5 < mA
 lm:m < mA
 lA:w0.heap.size≤mA
 AL:mA < mL
 LH:mL < mH
section
variable {w0 w w':World} {p4 p5 m mA mL mH:Nat} {ba bb:Int} {tva tvb:Value} {rp:List (ByteArray×Int×Int)} {vA vL vH:List (ByteArray×Int)}
theorem SX.ext (h:SX w0 w p4 p5 m mA mL mH ba bb tva tvb rp vA vL vH) (e:Ext w w'):SX w0 w' p4 p5 m mA mL mH ba bb tva tvb rp vA vL vH :=
 { h with e:=h.e.trans e,h4:=e.obj h.h4,h5:=e.obj h.h5,hm:=h.hm.ext e,hA:=h.hA.ext e,hL:=h.hL.ext e,hH:=h.hH.ext e }
theorem SX.putA (h:SX w0 w p4 p5 m mA mL mH ba bb tva tvb rp vA vL vH) {vA':List (ByteArray×Int)} (o:OnlyM mA w w') (hA':MapOf w' mA (IP vA')):SX w0 w' p4 p5 m mA mL mH ba bb tva tvb rp vA' vL vH:=by
 have:=h.l4;have:=h.l5;have:=h.lm;have:=h.AL;have:=h.LH
 exact { h with e:=o.os _ h.e h.lA,h4:=(o.block _ (by omega)).trans h.h4,h5:=(o.block _ (by omega)).trans h.h5,hm:=mapof_same h.hm (o.block _ (by omega)),hA:=hA',hL:=mapof_same h.hL (o.block _ (by omega)),hH:=mapof_same h.hH (o.block _ (by omega)) }
theorem SX.putL (h:SX w0 w p4 p5 m mA mL mH ba bb tva tvb rp vA vL vH) {vL':List (ByteArray×Int)} (o:OnlyM mL w w') (hL':MapOf w' mL (IP vL')):SX w0 w' p4 p5 m mA mL mH ba bb tva tvb rp vA vL' vH:=by
 have:=h.l4;have:=h.l5;have:=h.lm;have:=h.AL;have:=h.LH;have:=h.lA
 exact { h with e:=o.os _ h.e (by omega),h4:=(o.block _ (by omega)).trans h.h4,h5:=(o.block _ (by omega)).trans h.h5,hm:=mapof_same h.hm (o.block _ (by omega)),hA:=mapof_same h.hA (o.block _ (by omega)),hL:=hL',hH:=mapof_same h.hH (o.block _ (by omega)) }
theorem SX.putH (h:SX w0 w p4 p5 m mA mL mH ba bb tva tvb rp vA vL vH) {vH':List (ByteArray×Int)} (o:OnlyM mH w w') (hH':MapOf w' mH (IP vH')):SX w0 w' p4 p5 m mA mL mH ba bb tva tvb rp vA vL vH':=by
 have:=h.l4;have:=h.l5;have:=h.lm;have:=h.AL;have:=h.LH;have:=h.lA
 exact { h with e:=o.os _ h.e (by omega),h4:=(o.block _ (by omega)).trans h.h4,h5:=(o.block _ (by omega)).trans h.h5,hm:=mapof_same h.hm (o.block _ (by omega)),hA:=mapof_same h.hA (o.block _ (by omega)),hL:=mapof_same h.hL (o.block _ (by omega)),hH:=hH' }
end
def n9c1 (t2 t14 t15 t65 t103:Value) (C7:World→Prop) (next4:KV) (R:RT) (w:World):Prop :=
 qV Pg C7 (Instr.indexAt 45 t2 t14) fun t107 =>
 qV Pg C7 (Instr.fieldAt 68 t107 0) fun t108 =>
 qV Pg C7 (Instr.loadAt 9 t108) fun t109 =>
 qV Pg C7 (Instr.fieldAt 51 t15 0) fun t110 =>
 qV Pg C7 (Instr.loadAt 3 t110) fun t111 =>
 qV Pg C7 (Instr.fieldAt 51 t15 1) fun t113 =>
 qV Pg C7 (Instr.loadAt 3 t113) fun t114 =>
 qV Pg C7 (Instr.fieldAt 51 t15 0) fun t115 =>
 qV Pg C7 (Instr.loadAt 3 t115) fun t116 =>
 qV Pg C7 (binS .sub 3 false t114 t116) fun t117 =>
 qV Pg C7 (binS .add 3 true t117 (.int .i64 1)) fun t118 =>
 qV Pg C7 (binS .rem 3 false t103 t118) fun t119 =>
 qV Pg C7 (Instr.fieldAt 51 t15 1) fun t120 =>
 qV Pg C7 (Instr.loadAt 3 t120) fun t121 =>
 qV Pg C7 (binS .add 3 false t119 t121) fun t122 =>
 qV Pg C7 (Instr.fieldAt 51 t15 0) fun t123 =>
 qV Pg C7 (Instr.loadAt 3 t123) fun t124 =>
 qV Pg C7 (binS .sub 3 false t122 t124) fun t125 =>
 qV Pg C7 (binS .add 3 true t125 (.int .i64 1)) fun t126 =>
 qV Pg C7 (Instr.fieldAt 51 t15 1) fun t127 =>
 qV Pg C7 (Instr.loadAt 3 t127) fun t128 =>
 qV Pg C7 (Instr.fieldAt 51 t15 0) fun t129 =>
 qV Pg C7 (Instr.loadAt 3 t129) fun t130 =>
 qV Pg C7 (binS .sub 3 false t128 t130) fun t131 =>
 qV Pg C7 (binS .add 3 true t131 (.int .i64 1)) fun t132 =>
 qV Pg C7 (binS .rem 3 false t126 t132) fun t133 =>
 qV Pg C7 (binS .add 3 false t111 t133) fun t134 =>
 opU Pg (Instr.mapUpdate 35 t65 t109 t134) (panK R) w fun w =>
 turnK w fun C8 w =>
 opV Pg (binS .add 3 true t14 (.int .i64 1)) (panK R) w fun t73 w =>
 next4 t73 w
def n9c2 (t2 t3 t14 t15 t65:Value) (next4:KV) (R:RT) (w:World):Prop :=
 opV Pg (Builtin.len_ #[66] 3 #[t3]) (panK R) w fun t100 w =>
 opV Pg (binS .rem 3 false t14 t100) (panK R) w fun t101 w =>
 opV Pg (Instr.indexAt 66 t3 t101) (panK R) w fun t102 w =>
 opV Pg (Instr.loadAt 3 t102) (panK R) w fun t103 w =>
 drawK w fun C7 w =>
 n9c1 t2 t14 t15 t65 t103 C7 next4 R w
def n9c3 (t2 t3 t14 t15 t65 t83 t89:Value) (next4:KV) (R:RT) (w:World):Prop :=
 pickK t83 (.bool true) t89 fun t90 =>
 joinK (fun (t94:Value) (w:World) =>
 pickK t90 (.bool true) t94 fun t95 =>
 condP t95 (
 callK Pg 9 #[] (panK R) w fun t96 w =>
 R (.returned t96) w) (
 n9c2 t2 t3 t14 t15 t65 next4 R w)) fun K6 =>
 guardP t90 false (
 opV Pg (Instr.fieldAt 51 t15 1) (panK R) w fun t92 w =>
 opV Pg (Instr.loadAt 3 t92) (panK R) w fun t93 w =>
 opV Pg (binS .gtr 3 true t93 (.int .i64 17179869184)) (panK R) w fun t94 w =>
 K6 t94 w) (
 K6 undef w)
def n9c4 (t67 t198 t202:Value) (C13:World→Prop) (K12:World→Prop) (R:RT) (w:World):Prop :=
 opV Pg (Instr.mapEntry 35 t67 t198) (panK R) w fun t205 w =>
 C13 w∧(
 qV Pg C13 (Instr.extract t205 1) fun t206 =>
 opU Pg (Instr.entryStore 35 t67 t206 t202) (panK R) w fun w =>
 turnK w fun C14 w =>
 K12 w)
def n9c5 (t4 t17 t18 t66 t67:Value) (C13:World→Prop) (K12:World→Prop) (R:RT) (w:World):Prop :=
 qV Pg C13 (Instr.fieldAt 24 t4 1) fun t186 =>
 qV Pg C13 (Instr.loadAt 22 t186) fun t187 =>
 qV Pg C13 (Instr.indexAt 22 t187 t17) fun t189 =>
 qV Pg C13 (Instr.fieldAt 32 t189 0) fun t190 =>
 qV Pg C13 (Instr.loadAt 9 t190) fun t191 =>
 qV Pg C13 (Instr.fieldAt 24 t4 1) fun t193 =>
 qV Pg C13 (Instr.loadAt 22 t193) fun t194 =>
 qV Pg C13 (Instr.indexAt 22 t194 t17) fun t196 =>
 qV Pg C13 (Instr.fieldAt 32 t196 0) fun t197 =>
 qV Pg C13 (Instr.loadAt 9 t197) fun t198 =>
 qV Pg C13 (Instr.fieldAt 51 t18 1) fun t199 =>
 qV Pg C13 (Instr.loadAt 3 t199) fun t200 =>
 qV Pg C13 (Instr.fieldAt 51 t18 0) fun t201 =>
 qV Pg C13 (Instr.loadAt 3 t201) fun t202 =>
 opV Pg (Instr.mapEntry 35 t66 t191) (panK R) w fun t203 w =>
 C13 w∧(
 qV Pg C13 (Instr.extract t203 1) fun t204 =>
 opU Pg (Instr.entryStore 35 t66 t204 t200) (panK R) w fun w =>
 C13 w∧(
 n9c4 t67 t198 t202 C13 K12 R w))
def n9c6 (t4 t17 t18 t66 t67:Value) (next9:KV) (R:RT) (w:World):Prop :=
 opV Pg (Instr.fieldAt 24 t4 1) (panK R) w fun t178 w =>
 opV Pg (Instr.loadAt 22 t178) (panK R) w fun t179 w =>
 opV Pg (Instr.indexAt 22 t179 t17) (panK R) w fun t181 w =>
 opV Pg (Instr.fieldAt 32 t181 1) (panK R) w fun t182 w =>
 opV Pg (Instr.loadAt 3 t182) (panK R) w fun t183 w =>
 opV Pg (binS .lss 3 true t183 (.int .i64 0)) (panK R) w fun t184 w =>
 joinK (fun (w:World) =>
 opV Pg (binS .add 3 true t17 (.int .i64 1)) (panK R) w fun t141 w =>
 next9 t141 w) fun K12 =>
 condP t184 (
 drawK w fun C13 w =>
 n9c5 t4 t17 t18 t66 t67 C13 K12 R w) (
 K12 w)
def n9c7 (t4 t17 t18 t66 t67 t173 t176:Value) (C10:World→Prop) (next9:KV) (R:RT) (w:World):Prop :=
 qV Pg C10 (Instr.extract t176 1) fun t177 =>
 opU Pg (Instr.entryStore 35 t67 t177 t173) (panK R) w fun w =>
 turnK w fun C11 w =>
 n9c6 t4 t17 t18 t66 t67 next9 R w
def n9c8 (t4 t17 t18 t66 t67 t169 t171 t173 t174:Value) (C10:World→Prop) (next9:KV) (R:RT) (w:World):Prop :=
 qV Pg C10 (Instr.extract t174 1) fun t175 =>
 opU Pg (Instr.entryStore 35 t66 t175 t171) (panK R) w fun w =>
 C10 w∧(
 opV Pg (Instr.mapEntry 35 t67 t169) (panK R) w fun t176 w =>
 C10 w∧(
 n9c7 t4 t17 t18 t66 t67 t173 t176 C10 next9 R w))
def n9c9 (t4 t17 t18 t66 t67:Value) (C10:World→Prop) (next9:KV) (R:RT) (w:World):Prop :=
 qV Pg C10 (Instr.fieldAt 24 t4 1) fun t157 =>
 qV Pg C10 (Instr.loadAt 22 t157) fun t158 =>
 qV Pg C10 (Instr.indexAt 22 t158 t17) fun t160 =>
 qV Pg C10 (Instr.fieldAt 32 t160 0) fun t161 =>
 qV Pg C10 (Instr.loadAt 9 t161) fun t162 =>
 qV Pg C10 (Instr.fieldAt 24 t4 1) fun t164 =>
 qV Pg C10 (Instr.loadAt 22 t164) fun t165 =>
 qV Pg C10 (Instr.indexAt 22 t165 t17) fun t167 =>
 qV Pg C10 (Instr.fieldAt 32 t167 0) fun t168 =>
 qV Pg C10 (Instr.loadAt 9 t168) fun t169 =>
 qV Pg C10 (Instr.fieldAt 51 t18 0) fun t170 =>
 qV Pg C10 (Instr.loadAt 3 t170) fun t171 =>
 qV Pg C10 (Instr.fieldAt 51 t18 1) fun t172 =>
 qV Pg C10 (Instr.loadAt 3 t172) fun t173 =>
 opV Pg (Instr.mapEntry 35 t66 t162) (panK R) w fun t174 w =>
 C10 w∧(
 n9c8 t4 t17 t18 t66 t67 t169 t171 t173 t174 C10 next9 R w)
def n9c10 (t4 t32 t65 t309:Value) (K26:KV) (R:RT) (w:World):Prop :=
 opV Pg (Instr.fieldAt 24 t4 1) (panK R) w fun t316 w =>
 opV Pg (Instr.loadAt 22 t316) (panK R) w fun t317 w =>
 opV Pg (Instr.indexAt 22 t317 t32) (panK R) w fun t319 w =>
 opV Pg (Instr.fieldAt 32 t319 0) (panK R) w fun t320 w =>
 opV Pg (Instr.loadAt 9 t320) (panK R) w fun t321 w =>
 opV Pg (Instr.lookup 35 t65 t321 false) (panK R) w fun t322 w =>
 opV Pg (binS .neq 3 false t309 t322) (panK R) w fun t323 w =>
 K26 t323 w
def n9c11 (t4 t32 t65 t308:Value) (C25:World→Prop) (next24:KV) (R:RT) (w:World):Prop :=
 qV Pg C25 (Instr.extract t308 0) fun t309 =>
 qV Pg C25 (Instr.extract t308 1) fun t310 =>
 opV Pg (binS .neq 39 true t310 (.int .i64 0)) (panK R) w fun t312 w =>
 joinK (fun (t323:Value) (w:World) =>
 pickK t312 (.bool true) t323 fun t324 =>
 condP t324 (
 R (.returned (.bool false)) w) (
 opV Pg (binS .add 3 true t32 (.int .i64 1)) (panK R) w fun t297 w =>
 next24 t297 w)) fun K26 =>
 guardP t312 false (
 n9c10 t4 t32 t65 t309 K26 R w) (
 K26 undef w)
def n9c12 (t4 t32 t65 t211:Value) (C25:World→Prop) (next24:KV) (R:RT) (w:World):Prop :=
 qV Pg C25 (Instr.loadAt 24 t4) fun t299 =>
 qV Pg C25 (Instr.fieldAt 24 t4 1) fun t300 =>
 qV Pg C25 (Instr.loadAt 22 t300) fun t301 =>
 qV Pg C25 (Instr.indexAt 22 t301 t32) fun t303 =>
 qV Pg C25 (Instr.fieldAt 32 t303 0) fun t304 =>
 qV Pg C25 (Instr.loadAt 9 t304) fun t305 =>
 callK Pg 28 #[t299,t305,t211,t65] (panK R) w fun t308 w =>
 C25 w∧(
 n9c11 t4 t32 t65 t308 C25 next24 R w)
def n9c13 (t352 t359:Value) (R:RT) (w:World):Prop :=
 pickK t352 t359 (.bool false) fun t360 =>
 joinK (fun (t362:Value) (w:World) =>
 pickK t360 t362 (.bool false) fun t363 =>
 R (.returned t363) w) fun K33 =>
 guardP t360 true (
 callK Pg 9 #[] (panK R) w fun t362 w =>
 K33 t362 w) (
 K33 undef w)
def n9c14 (t336 t352 t356:Value) (R:RT) (w:World):Prop :=
 joinK (fun (t358:Value) (w:World) =>
 joinK (fun (t359:Value) (w:World) =>
 n9c13 t352 t359 R w) fun K32 =>
 guardP t352 true (
 pickK t356 (.bool true) t358 fun t359 =>
 K32 t359 w) (
 K32 undef w)) fun K31 =>
 guardP t356 false (
 opV Pg (binS .eql 39 true t336 (.int .i64 9)) (panK R) w fun t358 w =>
 K31 t358 w) (
 K31 undef w)
def n9c15 (t336 t348 t351:Value) (R:RT) (w:World):Prop :=
 pickK t348 (.bool true) t351 fun t352 =>
 joinK (fun (t356:Value) (w:World) =>
 n9c14 t336 t352 t356 R w) fun K30 =>
 guardP t352 true (
 opV Pg (binS .eql 39 true t336 (.int .i64 0)) (panK R) w fun t355 w =>
 K30 t355 w) (
 K30 undef w)
def n9c16 (t330 t336 t344 t347:Value) (R:RT) (w:World):Prop :=
 pickK t344 (.bool true) t347 fun t348 =>
 joinK (fun (t351:Value) (w:World) =>
 n9c15 t336 t348 t351 R w) fun K29 =>
 guardP t348 false (
 opV Pg (binS .eql 39 true t330 (.int .i64 7)) (panK R) w fun t351 w =>
 K29 t351 w) (
 K29 undef w)
def n9c17 (t371 t377:Value) (R:RT) (w:World):Prop :=
 pickK t371 t377 (.bool false) fun t378 =>
 joinK (fun (t380:Value) (w:World) =>
 pickK t378 t380 (.bool false) fun t381 =>
 R (.returned t381) w) fun K35 =>
 guardP t378 true (
 callK Pg 9 #[] (panK R) w fun t380 w =>
 K35 t380 w) (
 K35 undef w)
def n9c18 (t211 t335 t367:Value) (R:RT) (w:World):Prop :=
 opV Pg (Instr.extract t367 0) (panK R) w fun t368 w =>
 opV Pg (Instr.extract t367 1) (panK R) w fun t369 w =>
 opV Pg (binS .eql 39 true t369 (.int .i64 0)) (panK R) w fun t371 w =>
 joinK (fun (t377:Value) (w:World) =>
 n9c17 t371 t377 R w) fun K34 =>
 guardP t371 true (
 opV Pg (binS .add 3 false t211 t335) (panK R) w fun t376 w =>
 opV Pg (binS .eql 3 false t368 t376) (panK R) w fun t377 w =>
 K34 t377 w) (
 K34 undef w)
def n9c19 (t330 t336:Value) (R:RT) (w:World):Prop :=
 opV Pg (binS .eql 39 true t330 (.int .i64 0)) (panK R) w fun t344 w =>
 joinK (fun (t347:Value) (w:World) =>
 n9c16 t330 t336 t344 t347 R w) fun K28 =>
 guardP t344 false (
 opV Pg (binS .eql 39 true t330 (.int .i64 3)) (panK R) w fun t347 w =>
 K28 t347 w) (
 K28 undef w)
def n9c20 (t35 t65 t211 t330 t335 t336 t338 t341:Value) (R:RT) (w:World):Prop :=
 pickK t338 (.bool true) t341 fun t342 =>
 condP t342 (
 n9c19 t330 t336 R w) (
 opV Pg (Instr.loadAt 24 t35) (panK R) w fun t365 w =>
 callK Pg 16 #[t365,t65] (panK R) w fun t367 w =>
 n9c18 t211 t335 t367 R w)
def n9c21 (t35 t65 t211 t330 t334:Value) (R:RT) (w:World):Prop :=
 opV Pg (Instr.extract t334 0) (panK R) w fun t335 w =>
 opV Pg (Instr.extract t334 1) (panK R) w fun t336 w =>
 opV Pg (binS .neq 39 true t330 (.int .i64 0)) (panK R) w fun t338 w =>
 joinK (fun (t341:Value) (w:World) =>
 n9c20 t35 t65 t211 t330 t335 t336 t338 t341 R w) fun K27 =>
 guardP t338 false (
 opV Pg (binS .neq 39 true t336 (.int .i64 0)) (panK R) w fun t341 w =>
 K27 t341 w) (
 K27 undef w)
def n9c22 (t5 t65 t211 t328:Value) (R:RT) (w:World):Prop :=
 opV Pg (Instr.extract t328 0) (panK R) w fun t329 w =>
 opV Pg (Instr.extract t328 1) (panK R) w fun t330 w =>
 opV Pg (Instr.alloc 24 true (.tuple #[])) (panK R) w fun t35 w =>
 opU Pg (Instr.storeAt 24 t35 t329) (panK R) w fun w =>
 opV Pg (Instr.loadAt 24 t5) (panK R) w fun t332 w =>
 callK Pg 16 #[t332,t65] (panK R) w fun t334 w =>
 n9c21 t35 t65 t211 t330 t334 R w
def n9c23 (t4 t5 t65 t211:Value) (R:RT) (w:World):Prop :=
 opV Pg (Instr.loadAt 24 t4) (panK R) w fun t326 w =>
 opV Pg (Instr.loadAt 24 t5) (panK R) w fun t327 w =>
 callK Pg 29 #[t326,t327] (panK R) w fun t328 w =>
 n9c22 t5 t65 t211 t328 R w
def n9c24 (t4 t5 t32 t65 t211:Value) (next24:KV) (R:RT) (w:World):Prop :=
 opV Pg (Instr.fieldAt 24 t4 1) (panK R) w fun t292 w =>
 opV Pg (Instr.loadAt 22 t292) (panK R) w fun t293 w =>
 opV Pg (Builtin.len_ #[22] 3 #[t293]) (panK R) w fun t294 w =>
 opV Pg (binS .lss 3 false t32 t294) (panK R) w fun t295 w =>
 condP t295 (
 drawK w fun C25 w =>
 n9c12 t4 t32 t65 t211 C25 next24 R w) (
 n9c23 t4 t5 t65 t211 R w)
def n9c25 (t4 t5 t65 t211 t284 t289:Value) (R:RT) (w:World):Prop :=
 pickK t284 (.bool true) t289 fun t290 =>
 condP t290 (
 R (.returned (.bool false)) w) (
 loop1 (fun t32 w next24 =>
 n9c24 t4 t5 t32 t65 t211 next24 R w) (.int .i64 0) w)
def n9c26 (t4 t5 t30 t65 t211 t280 t283:Value) (R:RT) (w:World):Prop :=
 pickK t280 (.bool true) t283 fun t284 =>
 joinK (fun (t289:Value) (w:World) =>
 n9c25 t4 t5 t65 t211 t284 t289 R w) fun K23 =>
 guardP t284 false (
 opV Pg (Instr.loadAt 24 t30) (panK R) w fun t286 w =>
 opV Pg (Instr.loadAt 24 t4) (panK R) w fun t287 w =>
 callK Pg 26 #[t286,t287] (panK R) w fun t288 w =>
 opV Pg (Op.unary .not t288) (panK R) w fun t289 w =>
 K23 t289 w) (
 K23 undef w)
def n9c27 (t4 t5 t65 t211 t273 t276:Value) (R:RT) (w:World):Prop :=
 opV Pg (Instr.extract t276 0) (panK R) w fun t277 w =>
 opV Pg (Instr.extract t276 1) (panK R) w fun t278 w =>
 opV Pg (Instr.alloc 24 true (.tuple #[])) (panK R) w fun t30 w =>
 opU Pg (Instr.storeAt 24 t30 t277) (panK R) w fun w =>
 opV Pg (binS .neq 39 true t273 (.int .i64 0)) (panK R) w fun t280 w =>
 joinK (fun (t283:Value) (w:World) =>
 n9c26 t4 t5 t30 t65 t211 t280 t283 R w) fun K22 =>
 guardP t280 false (
 opV Pg (binS .neq 39 true t278 (.int .i64 0)) (panK R) w fun t283 w =>
 K22 t283 w) (
 K22 undef w)
def n9c28 (t4 t5 t65 t211 t271:Value) (R:RT) (w:World):Prop :=
 opV Pg (Instr.extract t271 0) (panK R) w fun t272 w =>
 opV Pg (Instr.extract t271 1) (panK R) w fun t273 w =>
 callK Pg 24 #[t272] (panK R) w fun t276 w =>
 n9c27 t4 t5 t65 t211 t273 t276 R w
def n9c29 (t4 t5 t65 t211 t262 t267:Value) (R:RT) (w:World):Prop :=
 pickK t262 (.bool true) t267 fun t268 =>
 condP t268 (
 R (.returned (.bool false)) w) (
 opV Pg (Instr.loadAt 24 t4) (panK R) w fun t270 w =>
 callK Pg 23 #[t270] (panK R) w fun t271 w =>
 n9c28 t4 t5 t65 t211 t271 R w)
def n9c30 (t4 t5 t22 t65 t211 t229 t256 t261:Value) (R:RT) (w:World):Prop :=
 pickK t256 (.bool true) t261 fun t262 =>
 joinK (fun (t267:Value) (w:World) =>
 n9c29 t4 t5 t65 t211 t262 t267 R w) fun K21 =>
 guardP t262 false (
 opV Pg (Instr.fieldAt 51 t22 1) (panK R) w fun t265 w =>
 opV Pg (Instr.loadAt 3 t265) (panK R) w fun t266 w =>
 opV Pg (binS .neq 3 false t229 t266) (panK R) w fun t267 w =>
 K21 t267 w) (
 K21 undef w)
def n9c31 (t4 t5 t22 t65 t211 t223 t229 t250 t255:Value) (R:RT) (w:World):Prop :=
 pickK t250 (.bool true) t255 fun t256 =>
 joinK (fun (t261:Value) (w:World) =>
 n9c30 t4 t5 t22 t65 t211 t229 t256 t261 R w) fun K20 =>
 guardP t256 false (
 opV Pg (Instr.fieldAt 51 t22 0) (panK R) w fun t259 w =>
 opV Pg (Instr.loadAt 3 t259) (panK R) w fun t260 w =>
 opV Pg (binS .neq 3 false t223 t260) (panK R) w fun t261 w =>
 K20 t261 w) (
 K20 undef w)
def n9c32 (t4 t5 t22 t65 t211 t223 t229 t244 t249:Value) (R:RT) (w:World):Prop :=
 pickK t244 (.bool true) t249 fun t250 =>
 joinK (fun (t255:Value) (w:World) =>
 n9c31 t4 t5 t22 t65 t211 t223 t229 t250 t255 R w) fun K19 =>
 guardP t250 false (
 opV Pg (Instr.fieldAt 51 t22 1) (panK R) w fun t253 w =>
 opV Pg (Instr.loadAt 3 t253) (panK R) w fun t254 w =>
 opV Pg (binS .gtr 3 false t211 t254) (panK R) w fun t255 w =>
 K19 t255 w) (
 K19 undef w)
def n9c33 (t4 t5 t22 t65 t211 t223 t229 t240 t243:Value) (R:RT) (w:World):Prop :=
 pickK t240 (.bool true) t243 fun t244 =>
 joinK (fun (t249:Value) (w:World) =>
 n9c32 t4 t5 t22 t65 t211 t223 t229 t244 t249 R w) fun K18 =>
 guardP t244 false (
 opV Pg (Instr.fieldAt 51 t22 0) (panK R) w fun t247 w =>
 opV Pg (Instr.loadAt 3 t247) (panK R) w fun t248 w =>
 opV Pg (binS .lss 3 false t211 t248) (panK R) w fun t249 w =>
 K18 t249 w) (
 K18 undef w)
def n9c34 (t4 t5 t22 t65 t211 t223 t229 t230 t236 t239:Value) (R:RT) (w:World):Prop :=
 pickK t236 (.bool true) t239 fun t240 =>
 joinK (fun (t243:Value) (w:World) =>
 n9c33 t4 t5 t22 t65 t211 t223 t229 t240 t243 R w) fun K17 =>
 guardP t240 false (
 opV Pg (binS .neq 39 true t230 (.int .i64 0)) (panK R) w fun t243 w =>
 K17 t243 w) (
 K17 undef w)
def n9c35 (t4 t5 t22 t65 t211 t223 t224 t229 t230 t232 t235:Value) (R:RT) (w:World):Prop :=
 pickK t232 (.bool true) t235 fun t236 =>
 joinK (fun (t239:Value) (w:World) =>
 n9c34 t4 t5 t22 t65 t211 t223 t229 t230 t236 t239 R w) fun K16 =>
 guardP t236 false (
 opV Pg (binS .neq 39 true t224 (.int .i64 0)) (panK R) w fun t239 w =>
 K16 t239 w) (
 K16 undef w)
def n9c36 (t4 t5 t22 t65 t211 t212 t218 t223 t224 t228:Value) (R:RT) (w:World):Prop :=
 opV Pg (Instr.extract t228 0) (panK R) w fun t229 w =>
 opV Pg (Instr.extract t228 1) (panK R) w fun t230 w =>
 opV Pg (binS .neq 39 true t212 (.int .i64 0)) (panK R) w fun t232 w =>
 joinK (fun (t235:Value) (w:World) =>
 n9c35 t4 t5 t22 t65 t211 t223 t224 t229 t230 t232 t235 R w) fun K15 =>
 guardP t232 false (
 opV Pg (binS .neq 39 true t218 (.int .i64 0)) (panK R) w fun t235 w =>
 K15 t235 w) (
 K15 undef w)
def n9c37 (t4 t5 t22 t65 t67 t211 t212 t218 t222:Value) (R:RT) (w:World):Prop :=
 opV Pg (Instr.extract t222 0) (panK R) w fun t223 w =>
 opV Pg (Instr.extract t222 1) (panK R) w fun t224 w =>
 opV Pg (Instr.loadAt 24 t4) (panK R) w fun t226 w =>
 callK Pg 16 #[t226,t67] (panK R) w fun t228 w =>
 n9c36 t4 t5 t22 t65 t211 t212 t218 t223 t224 t228 R w
def n9c38 (t4 t5 t65 t66 t67 t211 t212 t216:Value) (R:RT) (w:World):Prop :=
 opV Pg (Instr.extract t216 0) (panK R) w fun t217 w =>
 opV Pg (Instr.extract t216 1) (panK R) w fun t218 w =>
 opV Pg (Instr.alloc 51 true (.tuple #[])) (panK R) w fun t22 w =>
 opU Pg (Instr.storeAt 51 t22 t217) (panK R) w fun w =>
 opV Pg (Instr.loadAt 24 t4) (panK R) w fun t220 w =>
 callK Pg 16 #[t220,t66] (panK R) w fun t222 w =>
 n9c37 t4 t5 t22 t65 t67 t211 t212 t218 t222 R w
def n9c39 (t4 t5 t63 t65 t66 t67 t210:Value) (R:RT) (w:World):Prop :=
 opV Pg (Instr.extract t210 0) (panK R) w fun t211 w =>
 opV Pg (Instr.extract t210 1) (panK R) w fun t212 w =>
 opV Pg (Instr.loadAt 24 t4) (panK R) w fun t214 w =>
 callK Pg 21 #[t214,t63] (panK R) w fun t216 w =>
 n9c38 t4 t5 t65 t66 t67 t211 t212 t216 R w
def n9c40 (t4 t17 t63 t66 t67:Value) (next9:KV) (R:RT) (w:World):Prop :=
 opV Pg (Instr.fieldAt 24 t4 1) (panK R) w fun t144 w =>
 opV Pg (Instr.loadAt 22 t144) (panK R) w fun t145 w =>
 opV Pg (Instr.indexAt 22 t145 t17) (panK R) w fun t147 w =>
 opV Pg (Instr.fieldAt 32 t147 0) (panK R) w fun t148 w =>
 opV Pg (Instr.loadAt 9 t148) (panK R) w fun t149 w =>
 opV Pg (Instr.lookup 46 t63 t149 true) (panK R) w fun t150 w =>
 opV Pg (Instr.extract t150 0) (panK R) w fun t151 w =>
 opV Pg (Instr.extract t150 1) (panK R) w fun t152 w =>
 opV Pg (Instr.alloc 51 true (.tuple #[])) (panK R) w fun t18 w =>
 opU Pg (Instr.storeAt 51 t18 t151) (panK R) w fun w =>
 opV Pg (Op.unary .not t152) (panK R) w fun t154 w =>
 condP t154 (
 callK Pg 9 #[] (panK R) w fun t155 w =>
 R (.returned t155) w) (
 drawK w fun C10 w =>
 n9c9 t4 t17 t18 t66 t67 C10 next9 R w)
def n9c41 (t4 t5 t17 t63 t65 t66 t67:Value) (next9:KV) (R:RT) (w:World):Prop :=
 opV Pg (Instr.fieldAt 24 t4 1) (panK R) w fun t136 w =>
 opV Pg (Instr.loadAt 22 t136) (panK R) w fun t137 w =>
 opV Pg (Builtin.len_ #[22] 3 #[t137]) (panK R) w fun t138 w =>
 opV Pg (binS .lss 3 false t17 t138) (panK R) w fun t139 w =>
 condP t139 (
 n9c40 t4 t17 t63 t66 t67 next9 R w) (
 opV Pg (Instr.loadAt 24 t4) (panK R) w fun t208 w =>
 callK Pg 16 #[t208,t65] (panK R) w fun t210 w =>
 n9c39 t4 t5 t63 t65 t66 t67 t210 R w)
def n9c42 (t2 t3 t14 t63 t65:Value) (next4:KV) (R:RT) (w:World):Prop :=
 opV Pg (Instr.indexAt 45 t2 t14) (panK R) w fun t77 w =>
 opV Pg (Instr.fieldAt 68 t77 0) (panK R) w fun t78 w =>
 opV Pg (Instr.loadAt 9 t78) (panK R) w fun t79 w =>
 opV Pg (Instr.lookup 46 t63 t79 false) (panK R) w fun t80 w =>
 opV Pg (Instr.alloc 51 true (.tuple #[])) (panK R) w fun t15 w =>
 opU Pg (Instr.storeAt 51 t15 t80) (panK R) w fun w =>
 opV Pg (Instr.fieldAt 51 t15 0) (panK R) w fun t81 w =>
 opV Pg (Instr.loadAt 3 t81) (panK R) w fun t82 w =>
 opV Pg (binS .lss 3 true t82 (.int .i64 0)) (panK R) w fun t83 w =>
 joinK (fun (t89:Value) (w:World) =>
 n9c3 t2 t3 t14 t15 t65 t83 t89 next4 R w) fun K5 =>
 guardP t83 false (
 opV Pg (Instr.fieldAt 51 t15 0) (panK R) w fun t85 w =>
 opV Pg (Instr.loadAt 3 t85) (panK R) w fun t86 w =>
 opV Pg (Instr.fieldAt 51 t15 1) (panK R) w fun t87 w =>
 opV Pg (Instr.loadAt 3 t87) (panK R) w fun t88 w =>
 opV Pg (binS .gtr 3 false t86 t88) (panK R) w fun t89 w =>
 K5 t89 w) (
 K5 undef w)
def n9c43 (t2 t3 t4 t5 t14 t63 t65 t66 t67:Value) (next4:KV) (R:RT) (w:World):Prop :=
 opV Pg (Builtin.len_ #[45] 3 #[t2]) (panK R) w fun t70 w =>
 opV Pg (binS .lss 3 false t14 t70) (panK R) w fun t71 w =>
 condP t71 (
 n9c42 t2 t3 t14 t63 t65 next4 R w) (
 loop1 (fun t17 w next9 =>
 n9c41 t4 t5 t17 t63 t65 t66 t67 next9 R w) (.int .i64 0) w)
def n9c44 (t2 t3 t4 t5 t62:Value) (R:RT) (w:World):Prop :=
 opV Pg (Instr.extract t62 0) (panK R) w fun t63 w =>
 opV Pg (Instr.extract t62 1) (panK R) w fun t64 w =>
 opV Pg (Instr.makeMap 35 none) (panK R) w fun t65 w =>
 opV Pg (Instr.makeMap 35 none) (panK R) w fun t66 w =>
 opV Pg (Instr.makeMap 35 none) (panK R) w fun t67 w =>
 loop1 (fun t14 w next4 =>
 n9c43 t2 t3 t4 t5 t14 t63 t65 t66 t67 next4 R w) (.int .i64 0) w
def n9c45 (t2 t3 t4 t5 t53 t57:Value) (R:RT) (w:World):Prop :=
 pickK t53 (.bool true) t57 fun t58 =>
 condP t58 (
 callK Pg 9 #[] (panK R) w fun t59 w =>
 R (.returned t59) w) (
 callK Pg 20 #[t2] (panK R) w fun t62 w =>
 n9c44 t2 t3 t4 t5 t62 R w)
def n9c46 (t2 t3 t4 t5 t48 t52:Value) (R:RT) (w:World):Prop :=
 pickK t48 (.bool true) t52 fun t53 =>
 joinK (fun (t57:Value) (w:World) =>
 n9c45 t2 t3 t4 t5 t53 t57 R w) fun K3 =>
 guardP t53 false (
 opV Pg (Instr.loadAt 24 t5) (panK R) w fun t55 w =>
 callK Pg 12 #[t55] (panK R) w fun t56 w =>
 opV Pg (Op.unary .not t56) (panK R) w fun t57 w =>
 K3 t57 w) (
 K3 undef w)
def n9c47 (t2 t3 t4 t5 t43 t47:Value) (R:RT) (w:World):Prop :=
 pickK t43 (.bool true) t47 fun t48 =>
 joinK (fun (t52:Value) (w:World) =>
 n9c46 t2 t3 t4 t5 t48 t52 R w) fun K2 =>
 guardP t48 false (
 opV Pg (Instr.loadAt 24 t4) (panK R) w fun t50 w =>
 callK Pg 12 #[t50] (panK R) w fun t51 w =>
 opV Pg (Op.unary .not t51) (panK R) w fun t52 w =>
 K2 t52 w) (
 K2 undef w)
def n9 (t0 t1 t2 t3:Value) (R:RT) (w:World):Prop :=
 opV Pg (Instr.box 24 t0) (panK R) w fun t4 w =>
 opV Pg (Instr.box 24 t1) (panK R) w fun t5 w =>
 opV Pg (Builtin.len_ #[45] 3 #[t2]) (panK R) w fun t42 w =>
 opV Pg (binS .gtr 3 true t42 (.int .i64 12)) (panK R) w fun t43 w =>
 joinK (fun (t47:Value) (w:World) =>
 n9c47 t2 t3 t4 t5 t43 t47 R w) fun K1 =>
 guardP t43 false (
 opV Pg (Builtin.len_ #[66] 3 #[t3]) (panK R) w fun t46 w =>
 opV Pg (binS .eql 3 true t46 (.int .i64 0)) (panK R) w fun t47 w =>
 K1 t47 w) (
 K1 undef w)
set_option maxHeartbeats 40000000 in
theorem n9s {t0 t1 t2 t3:Value} {R:RT} {w:World} (h:n9 t0 t1 t2 t3 R w):Calls Pg 7 #[t0,t1,t2,t3] w R:=by
 refine yD Tryz.func7 ?_
 refine zs<|zr<|yv h fun _ w h=>yv h fun _ w h=>zm<|zn<|zk<|zs<|zs<|sim_regionG<|yG 4<|zm<|yx h fun _ w h=>yb h fun _ w h=>zm ?_
 refine zn<|yg1 3 3 false [45,46,47] 47 h (fun _ T hT h=>?_) fun σ w h=>?_
 · refine zm<|yx h fun _ w h=>yb h fun _ w h=>zn ?_
   exact zt hT h
 refine yG 2<|yp h fun _ h=>zm<|zn<|yg1 3 8 false [50,51,52] 52 h (fun _ T hT h=>?_) fun σ w h=>?_
 · refine yv h fun _ w h=>yc h c12 fun _ w h=>yv h fun _ w h=>zn ?_
   exact zt hT h
 refine yG 2<|yp h fun _ h=>zm<|zn<|yg1 3 13 false [55,56,57] 57 h (fun _ T hT h=>?_) fun σ w h=>?_
 · refine yv h fun _ w h=>yc h c12 fun _ w h=>yv h fun _ w h=>zn ?_
   exact zt hT h
 refine yG 1<|yp h fun _ h=>zn<|sim_end<|zk<|yC h (fun h=>zs<|zr<|yc h c9 fun _ w h=>zm<|zn<|zk<|sim_ret<|sim_then_ret<|body_ret1 rfl rfl h) fun h=>sim_skip<|zk<|zs<|zr<|zm<|yc h c20 fun _ w h=>zm<|yv h fun _ w h=>?_
 refine yv h fun _ w h=>zm<|zm<|zn<|zk<|zs<|zr<|yv h fun _ w h=>yv h fun _ w h=>yv h fun _ w h=>zm<|zm<|zm<|zn<|zk ?_
 refine zs<|zs<|zr<|zm<|zn<|zk<|sim_block<|yl1 [8,14,15,16,68,69,70,71,72,73,74,75,76,77,78,79,80,81,82,83,84,85,86,87,88,89,90,91,92,93,94,95,96,97,98,99,100,101,102,103,104,105,106,107,108,109,110,111,112,113,114,115,116,117,118,119,120,121,122,123,124,125,126,127,128,129,130,131,132,133,134] 14 h fun σ w next h=>zs<|zs<|zr<|zm<|zm<|yx h fun _ w h=>yb h fun _ w h=>?_
 refine zn<|zk<|yC h (fun h=>?_) fun h=>?_
 · refine sim_skip<|zk<|zs<|sim_block<|zs<|zr<|zm<|zm<|zm<|yv h fun _ w h=>yv h fun _ w h=>yv h fun _ w h=>yv h fun _ w h=>yv h fun _ w h=>yu h fun w h=>?_
   refine zn<|zk<|zs<|zs<|sim_regionG<|yG 4<|yv h fun _ w h=>yv h fun _ w h=>yb h fun _ w h=>zm<|zn<|yg1 5 3 false [85,86,87,88,89] 89 h (fun _ T hT h=>?_) fun σ w h=>?_
   · refine yv h fun _ w h=>yv h fun _ w h=>yv h fun _ w h=>yv h fun _ w h=>yb h fun _ w h=>zn ?_
     exact zt hT h
   refine yG 2<|yp h fun _ h=>zm<|zn<|yg1 3 10 false [92,93,94] 94 h (fun _ T hT h=>?_) fun σ w h=>?_
   · refine yv h fun _ w h=>yv h fun _ w h=>yb h fun _ w h=>zn ?_
     exact zt hT h
   refine yG 1<|yp h fun _ h=>zn<|sim_end<|zk<|yC h (fun h=>zs<|zr<|yc h c9 fun _ w h=>zm<|zn<|zk<|sim_ret<|sim_then_ret<|sim_block_ret<|sim_then_ret<|sim_then_ret<|sim_block_ret<|sim_then_ret<|body_ret1 rfl rfl h) fun h=>sim_skip<|zk<|zs<|zr<|zm<|zm<|zm<|yx h fun _ w h=>?_
   refine yb h fun _ w h=>yv h fun _ w h=>yv h fun _ w h=>zm<|zn<|zk<|yh [104,105,106,107,108,109,110,111,112,113,114,115,116,117,118,119,120,121,122,123,124,125,126,127,128,129,130,131,132,133,134] h fun C hC h=>yw 0 hC ?_
   refine yw 1 hC ?_
   refine yw 2 hC ?_
   refine ye 3 hC h fun _ h=>?_
   refine ye 4 hC h fun _ h=>?_
   refine ye 5 hC h fun _ h=>?_
   refine ye 6 hC h fun _ h=>?_
   refine ye 7 hC h fun _ h=>?_
   refine yw 8 hC ?_
   refine ye 9 hC h fun _ h=>?_
   refine ye 10 hC h fun _ h=>?_
   refine ye 11 hC h fun _ h=>?_
   refine ye 12 hC h fun _ h=>?_
   refine ye 13 hC h fun _ h=>?_
   refine ye 14 hC h fun _ h=>?_
   refine ye 15 hC h fun _ h=>?_
   refine ye 16 hC h fun _ h=>?_
   refine ye 17 hC h fun _ h=>?_
   refine ye 18 hC h fun _ h=>?_
   refine ye 19 hC h fun _ h=>?_
   refine ye 20 hC h fun _ h=>?_
   refine ye 21 hC h fun _ h=>?_
   refine ye 22 hC h fun _ h=>?_
   refine ye 23 hC h fun _ h=>?_
   refine ye 24 hC h fun _ h=>?_
   refine ye 25 hC h fun _ h=>?_
   refine ye 26 hC h fun _ h=>?_
   refine ye 27 hC h fun _ h=>?_
   refine ye 28 hC h fun _ h=>?_
   refine ye 29 hC h fun _ h=>?_
   refine ye 30 hC h fun _ h=>?_
   refine yq 31 1 ?_
   refine yu h fun w h=>zn ?_
   obtain ⟨C8,hC,h⟩:=h
   refine ⟨C8,hC,?_⟩
   exact yz<|sim_block_normal<|zk<|zr<|zm<|yb h fun _ w h=>zm<|zn<|zk<|⟨rfl,h⟩
 refine sim_exit<|sim_then_exit<|sim_then_exit<|sim_block_hit<|zk<|zs<|zs<|zr<|zm<|zn<|zk<|sim_block<|yl1 [8,17,18,19,135,136,137,138,139,140,141,142,143,144,145,146,147,148,149,150,151,152,153,154,155,156,157,158,159,160,161,162,163,164,165,166,167,168,169,170,171,172,173,174,175,176,177,178,179,180,181,182,183,184,185,186,187,188,189,190,191,192,193,194,195,196,197,198,199,200,201,202,203,204,205,206] 17 h fun σ w next h=>zs<|zs ?_
 refine zr<|zm<|yv h fun _ w h=>yv h fun _ w h=>yx h fun _ w h=>yb h fun _ w h=>zn<|zk<|yC h (fun h=>?_) fun h=>?_
 · refine sim_skip<|zk<|zs<|sim_block<|zs<|zr<|zm<|yv h fun _ w h=>yv h fun _ w h=>zm<|yv h fun _ w h=>yv h fun _ w h=>yv h fun _ w h=>yv h fun _ w h=>zm ?_
   refine yv h fun _ w h=>yv h fun _ w h=>yv h fun _ w h=>yu h fun w h=>zm<|zn<|zk<|zs<|zs<|zr<|zm<|yv h fun _ w h=>zn<|zk<|yC h (fun h=>zs<|zr<|yc h c9 fun _ w h=>zm<|zn<|zk<|sim_ret<|sim_then_ret<|sim_block_ret<|sim_then_ret<|sim_then_ret<|sim_block_ret<|sim_then_ret<|body_ret1 rfl rfl h) fun h=>?_
   refine sim_skip<|zk<|zs<|yh [156,157,158,159,160,161,162,163,164,165,166,167,168,169,170,171,172,173,174,175,176,177] h fun C hC h=>yw 0 hC ?_
   refine ye 1 hC h fun _ h=>?_
   refine ye 2 hC h fun _ h=>?_
   refine yw 3 hC ?_
   refine ye 4 hC h fun _ h=>?_
   refine ye 5 hC h fun _ h=>?_
   refine ye 6 hC h fun _ h=>?_
   refine yw 7 hC ?_
   refine ye 8 hC h fun _ h=>?_
   refine ye 9 hC h fun _ h=>?_
   refine yw 10 hC ?_
   refine ye 11 hC h fun _ h=>?_
   refine ye 12 hC h fun _ h=>?_
   refine ye 13 hC h fun _ h=>?_
   refine ye 14 hC h fun _ h=>?_
   refine ye 15 hC h fun _ h=>?_
   refine ye 16 hC h fun _ h=>?_
   refine ye 17 hC h fun _ h=>?_
   refine yo 18 ?_
   refine yv h fun _ w h=>zn ?_
   obtain ⟨hC,h⟩:=h
   refine ⟨hC,?_⟩
   refine ye 19 hC h fun _ h=>?_
   refine yo 20 ?_
   refine yu h fun w h=>zn ?_
   obtain ⟨hC,h⟩:=h
   refine ⟨hC,?_⟩
   refine yo 21 ?_
   refine yv h fun _ w h=>zn ?_
   obtain ⟨hC,h⟩:=h
   refine ⟨hC,?_⟩
   refine ye 22 hC h fun _ h=>?_
   refine yq 23 1 ?_
   refine yu h fun w h=>zn ?_
   obtain ⟨C11,hC,h⟩:=h
   refine ⟨C11,hC,?_⟩
   refine yz<|zk<|zs<|zr<|yv h fun _ w h=>yv h fun _ w h=>zm<|yv h fun _ w h=>yv h fun _ w h=>yv h fun _ w h=>yb h fun _ w h=>zn<|zk<|yJ0 [185,186,187,188,189,190,191,192,193,194,195,196,197,198,199,200,201,202,203,204,205,206] h (fun _ _ hkK12 h=>?_) fun σ w h=>?_
   · refine yC h (fun h=>?_) fun h=>?_
     · refine yh [185,186,187,188,189,190,191,192,193,194,195,196,197,198,199,200,201,202,203,204,205,206] h fun C hC h=>yw 0 hC ?_
       refine ye 1 hC h fun _ h=>?_
       refine ye 2 hC h fun _ h=>?_
       refine yw 3 hC ?_
       refine ye 4 hC h fun _ h=>?_
       refine ye 5 hC h fun _ h=>?_
       refine ye 6 hC h fun _ h=>?_
       refine yw 7 hC ?_
       refine ye 8 hC h fun _ h=>?_
       refine ye 9 hC h fun _ h=>?_
       refine yw 10 hC ?_
       refine ye 11 hC h fun _ h=>?_
       refine ye 12 hC h fun _ h=>?_
       refine ye 13 hC h fun _ h=>?_
       refine ye 14 hC h fun _ h=>?_
       refine ye 15 hC h fun _ h=>?_
       refine ye 16 hC h fun _ h=>?_
       refine ye 17 hC h fun _ h=>?_
       refine yo 18 ?_
       refine yv h fun _ w h=>zn ?_
       obtain ⟨hC,h⟩:=h
       refine ⟨hC,?_⟩
       refine ye 19 hC h fun _ h=>?_
       refine yo 20 ?_
       refine yu h fun w h=>zn ?_
       obtain ⟨hC,h⟩:=h
       refine ⟨hC,?_⟩
       refine yo 21 ?_
       refine yv h fun _ w h=>zn ?_
       obtain ⟨hC,h⟩:=h
       refine ⟨hC,?_⟩
       refine ye 22 hC h fun _ h=>?_
       refine yq 23 1 ?_
       refine yu h fun w h=>zn ?_
       obtain ⟨C14,hC,h⟩:=h
       refine ⟨C14,hC,?_⟩
       refine yz<|zk ?_
       exact zt hkK12 h
     refine sim_skip<|zk ?_
     exact zt hkK12 h
   exact sim_block_normal<|zk<|zr<|zm<|yb h fun _ w h=>zm<|zn<|zk<|⟨rfl,h⟩
 refine sim_exit<|sim_then_exit<|sim_then_exit<|sim_block_hit<|zk<|zs<|zr<|yv h fun _ w h=>zm<|yc h c16 fun _ w h=>zm<|yv h fun _ w h=>yv h fun _ w h=>zm<|zm ?_
 refine zn<|zk<|zs<|zr<|yv h fun _ w h=>zm<|yc h c21 fun _ w h=>zm<|yv h fun _ w h=>yv h fun _ w h=>yv h fun _ w h=>yu h fun w h=>zm<|zn<|zk ?_
 refine zs<|zr<|yv h fun _ w h=>zm<|yc h c16 fun _ w h=>zm<|yv h fun _ w h=>yv h fun _ w h=>zm<|zm<|zn<|zk<|zs<|zr<|yv h fun _ w h=>?_
 refine zm<|yc h c16 fun _ w h=>zm<|yv h fun _ w h=>yv h fun _ w h=>zm<|zm<|zn<|zk<|zs<|zs<|sim_regionG<|yG 3<|zm<|yb h fun _ w h=>?_
 refine zm<|zn<|yg1 2 2 false [234,235] 235 h (fun _ T hT h=>?_) fun σ w h=>?_
 · refine zm<|yb h fun _ w h=>zn ?_
   exact zt hT h
 refine yG 2<|yp h fun _ h=>zm<|zn<|yg1 2 6 false [238,239] 239 h (fun _ T hT h=>?_) fun σ w h=>?_
 · refine zm<|yb h fun _ w h=>zn ?_
   exact zt hT h
 refine yG 2<|yp h fun _ h=>zm<|zn<|yg1 2 10 false [242,243] 243 h (fun _ T hT h=>?_) fun σ w h=>?_
 · refine zm<|yb h fun _ w h=>zn ?_
   exact zt hT h
 refine yG 2<|yp h fun _ h=>zm<|zn<|yg1 4 14 false [246,247,248,249] 249 h (fun _ T hT h=>?_) fun σ w h=>?_
 · refine zm<|yv h fun _ w h=>yv h fun _ w h=>yb h fun _ w h=>zn ?_
   exact zt hT h
 refine yG 2<|yp h fun _ h=>zm<|zn<|yg1 4 20 false [252,253,254,255] 255 h (fun _ T hT h=>?_) fun σ w h=>?_
 · refine zm<|yv h fun _ w h=>yv h fun _ w h=>yb h fun _ w h=>zn ?_
   exact zt hT h
 refine yG 2<|yp h fun _ h=>zm<|zn<|yg1 4 26 false [258,259,260,261] 261 h (fun _ T hT h=>?_) fun σ w h=>?_
 · refine zm<|yv h fun _ w h=>yv h fun _ w h=>yb h fun _ w h=>zn ?_
   exact zt hT h
 refine yG 2<|yp h fun _ h=>zm<|zn<|yg1 4 32 false [264,265,266,267] 267 h (fun _ T hT h=>?_) fun σ w h=>?_
 · refine zm<|yv h fun _ w h=>yv h fun _ w h=>yb h fun _ w h=>zn ?_
   exact zt hT h
 refine yG 1<|yp h fun _ h=>zn<|sim_end<|zk<|yC h (fun h=>zs<|zr<|zm<|zn<|zk<|sim_ret<|sim_then_ret<|body_ret1 rfl rfl h) fun h=>sim_skip<|zk<|zs<|zr<|yv h fun _ w h=>yc h c23 fun _ w h=>zm<|yv h fun _ w h=>?_
 refine yv h fun _ w h=>zm<|zm<|zn<|zk<|zs<|zr<|zm<|yc h c24 fun _ w h=>zm<|yv h fun _ w h=>yv h fun _ w h=>yv h fun _ w h=>yu h fun w h=>zm ?_
 refine zn<|zk<|zs<|zs<|sim_regionG<|yG 3<|zm<|yb h fun _ w h=>zm<|zn<|yg1 2 2 false [282,283] 283 h (fun _ T hT h=>?_) fun σ w h=>?_
 · refine zm<|yb h fun _ w h=>zn ?_
   exact zt hT h
 refine yG 2<|yp h fun _ h=>zm<|zn<|yg1 4 6 false [286,287,288,289] 289 h (fun _ T hT h=>?_) fun σ w h=>?_
 · refine yv h fun _ w h=>yv h fun _ w h=>yc h c26 fun _ w h=>yv h fun _ w h=>zn ?_
   exact zt hT h
 refine yG 1<|yp h fun _ h=>zn<|sim_end<|zk<|yC h (fun h=>zs<|zr<|zm<|zn<|zk<|sim_ret<|sim_then_ret<|body_ret1 rfl rfl h) fun h=>sim_skip<|zk<|zs<|zs<|zr<|zm<|zn<|zk ?_
 refine sim_block<|yl1 [8,32,33,34,291,292,293,294,295,296,297,298,299,300,301,302,303,304,305,306,307,308,309,310,311,312,313,314,315,316,317,318,319,320,321,322,323,324] 32 h fun σ w next h=>zs<|zs<|zr<|zm<|yv h fun _ w h=>yv h fun _ w h=>yx h fun _ w h=>yb h fun _ w h=>zn<|zk<|yC h (fun h=>?_) fun h=>?_
 · refine sim_skip<|zk<|zs<|sim_block<|zs<|yh [33,34,298,299,300,301,302,303,304,305,306,307,308,309,310] h fun C hC h=>ye 0 hC h fun _ h=>?_
   refine ye 1 hC h fun _ h=>?_
   refine ye 2 hC h fun _ h=>?_
   refine yw 3 hC ?_
   refine ye 4 hC h fun _ h=>?_
   refine ye 5 hC h fun _ h=>?_
   refine ye 6 hC h fun _ h=>?_
   refine yw 7 hC ?_
   refine yw 8 hC ?_
   refine yo 9 ?_
   refine yc h c28 fun _ w h=>zn ?_
   obtain ⟨hC,h⟩:=h
   refine ⟨hC,?_⟩
   refine yw 10 hC ?_
   refine ye 11 hC h fun _ h=>?_
   refine ye 12 hC h fun _ h=>?_
   refine yw 13 hC ?_
   refine yw 14 hC ?_
   refine yz<|zk<|zs<|sim_regionG<|yG 3<|zm<|yb h fun _ w h=>zm<|zn<|yg1 10 2 false [314,315,316,317,318,319,320,321,322,323] 323 h (fun _ T hT h=>?_) fun σ w h=>?_
   · refine zm<|zm<|yv h fun _ w h=>yv h fun _ w h=>zm<|yv h fun _ w h=>yv h fun _ w h=>yv h fun _ w h=>yv h fun _ w h=>yb h fun _ w h=>zn ?_
     exact zt hT h
   refine yG 1<|yp h fun _ h=>zn<|sim_end<|zk<|yC h (fun h=>zs<|zr<|zm<|zn<|zk<|sim_ret<|sim_block_ret<|sim_then_ret<|sim_then_ret<|sim_block_ret<|sim_then_ret<|body_ret1 rfl rfl h) fun h=>sim_skip<|sim_block_normal<|zk<|zr<|zm<|yb h fun _ w h=>zm<|zn ?_
   exact zk<|⟨rfl,h⟩
 refine sim_exit<|sim_then_exit<|sim_then_exit<|sim_block_hit<|zk<|zs<|zr<|yv h fun _ w h=>yv h fun _ w h=>yc h c29 fun _ w h=>zm<|yv h fun _ w h=>yv h fun _ w h=>yv h fun _ w h=>yu h fun w h=>?_
 refine zm<|zn<|zk<|zs<|zr<|yv h fun _ w h=>zm<|yc h c16 fun _ w h=>zm<|yv h fun _ w h=>yv h fun _ w h=>zm<|zm<|zn<|zk ?_
 refine zs<|zs<|sim_regionG<|yG 3<|zm<|yb h fun _ w h=>zm<|zn<|yg1 2 2 false [340,341] 341 h (fun _ T hT h=>?_) fun σ w h=>?_
 · refine zm<|yb h fun _ w h=>zn ?_
   exact zt hT h
 refine yG 1<|yp h fun _ h=>zn<|sim_end<|zk<|yC h (fun h=>?_) fun h=>?_
 · refine zs<|sim_regionG<|yG 3<|zm<|yb h fun _ w h=>zm<|zn<|yg1 2 2 false [346,347] 347 h (fun _ T hT h=>?_) fun σ w h=>?_
   · refine zm<|yb h fun _ w h=>zn ?_
     exact zt hT h
   refine yG 2<|yp h fun _ h=>zm<|zn<|yg1 2 6 false [350,351] 351 h (fun _ T hT h=>?_) fun σ w h=>?_
   · refine zm<|yb h fun _ w h=>zn ?_
     exact zt hT h
   refine yG 2<|yp h fun _ h=>zm<|zn<|yg1 3 10 true [354,355,356] 356 h (fun _ T hT h=>?_) fun σ w h=>?_
   · refine zm<|yb h fun _ w h=>zm<|zn ?_
     exact zt hT h
   refine yg1 2 13 false [357,358] 358 h (fun _ T hT h=>?_) fun σ w h=>?_
   · refine zm<|yb h fun _ w h=>zn ?_
     exact zt hT h
   refine yg1 1 10 true [359] 359 h (fun _ T hT h=>?_) fun σ w h=>?_
   · refine yp h fun _ h=>zn ?_
     exact zt hT h
   refine yG 2<|yp h fun _ h=>zm<|zn<|yg1 1 18 true [362] 362 h (fun _ T hT h=>?_) fun σ w h=>?_
   · refine yc h c9 fun _ w h=>zn ?_
     exact zt hT h
   exact yG 2<|yp h fun _ h=>zm<|zn<|sim_end<|zk<|sim_ret<|sim_then_ret<|body_ret1 rfl rfl h
 refine sim_skip<|zk<|zs<|zr<|yv h fun _ w h=>zm<|yc h c16 fun _ w h=>zm<|yv h fun _ w h=>yv h fun _ w h=>zm<|zm<|zn<|zk<|zs ?_
 refine sim_regionG<|yG 3<|zm<|yb h fun _ w h=>zm<|zn<|yg1 5 2 true [373,374,375,376,377] 377 h (fun _ T hT h=>?_) fun σ w h=>?_
 · refine zm<|zm<|zm<|yb h fun _ w h=>yb h fun _ w h=>zn ?_
   exact zt hT h
 refine yG 2<|yp h fun _ h=>zm<|zn<|yg1 1 9 true [380] 380 h (fun _ T hT h=>?_) fun σ w h=>?_
 · refine yc h c9 fun _ w h=>zn ?_
   exact zt hT h
 exact yG 2<|yp h fun _ h=>zm<|zn<|sim_end<|zk<|sim_ret<|body_ret1 rfl rfl h
def pickV (x lo hi:Int):Int:=lo+(x.tmod (hi - lo+1)+(hi - lo+1)).tmod (hi - lo+1)
theorem tmod_in (x:Int) {d:Int} (hd:0 < d) : -d < x.tmod d∧x.tmod d < d:=by
 have h1:=Int.tmod_lt_of_pos x hd
 refine ⟨?_,h1⟩
 have h2:=Int.tmod_lt_of_pos (-x) hd
 rw [Int.neg_tmod] at h2
 omega
theorem pick_in {x lo hi:Int} (h1:lo≤hi):lo≤pickV x lo hi∧pickV x lo hi≤hi:=by
 have hd:0 < hi - lo+1:=by omega
 have h2:=tmod_in x hd
 have h3:=Int.tmod_nonneg (hi - lo+1) (a:=x.tmod (hi - lo+1)+(hi - lo+1)) (by omega)
 have h4:=Int.tmod_lt_of_pos (x.tmod (hi - lo+1)+(hi - lo+1)) hd
 unfold pickV
 omega
theorem lastR_mem {rp:List (ByteArray×Int×Int)} {s:ByteArray} {q:Int×Int} (h:lastR rp s=some q):(s,q)∈rp:=by
 unfold lastR at h
 obtain ⟨x,hx,rfl⟩:=Option.map_eq_some_iff.1 h
 have h1:=List.find?_some hx
 have h2:=List.mem_of_find?_eq_some hx
 rw [List.mem_reverse] at h2
 have:x.1=s:=of_decide_eq_true h1
 rw [← this]
 exact h2
theorem lastR_some {rp:List (ByteArray×Int×Int)} {x:ByteArray×Int×Int} (h:x∈rp):(lastR rp x.1).isSome=true:=by
 unfold lastR
 rw [Option.isSome_map,List.find?_isSome]
 exact ⟨x,List.mem_reverse.2 h,decide_eq_true rfl⟩
structure AtK (rp:List (ByteArray×Int×Int)) (k:Nat) (vp:List (ByteArray×Int)):Prop where
 ok:∀ s v,lastI vp s=some v→∃ lo hi,lastR rp s=some (lo,hi)∧0≤lo∧lo≤v∧v≤hi∧hi≤17179869184
 has:∀ x∈rp.take k,(lastI vp x.1).isSome=true
theorem AtK.zero (rp:List (ByteArray×Int×Int)):AtK rp 0 []:=⟨fun s v h=>(by cases h),fun x h=>(by simp at h)⟩
theorem AtK.all {rp:List (ByteArray×Int×Int)} {vp:List (ByteArray×Int)} (h:AtK rp rp.length vp):AtOk rp vp:=⟨h.ok,fun s hs=>by
 obtain ⟨q,hq⟩:=Option.isSome_iff_exists.1 hs
 exact h.has (s,q) (by rw [List.take_length];exact lastR_mem hq)⟩
theorem AtK.step {rp:List (ByteArray×Int×Int)} {k:Nat} {vp:List (ByteArray×Int)} (h:AtK rp k vp) {x:ByteArray×Int×Int} (hx:rp[k]?=some x) {lo hi v:Int} (hr:lastR rp x.1=some (lo,hi)) (h0:0≤lo) (h1:lo≤v) (h2:v≤hi) (h3:hi≤17179869184):AtK rp (k+1) (vp++[(x.1,v)]):=by
 refine ⟨fun s u hu=>?_,fun y hy=>?_⟩
 · rw [lastI_snoc] at hu
   by_cases he:x.1=s
   · rw [if_pos he] at hu
     injection hu with hu
     subst hu
     exact ⟨lo,hi,by rw [← he];exact hr,h0,h1,h2,h3⟩
   · rw [if_neg he] at hu
     exact h.ok s u hu
 · rw [lastI_snoc]
   by_cases he:x.1=y.1
   · rw [if_pos he];rfl
   · rw [if_neg he]
     have hts:rp.take (k+1)=rp.take k++[x]:=by rw [List.take_add_one,hx];rfl
     rw [hts,List.mem_append,List.mem_singleton] at hy
     rcases hy with hy | hy
     · exact h.has y hy
     · exact absurd (by rw [hy]) he
section
variable {w0 w:World} {p4 p5 m mA mL mH:Nat} {ba bb:Int} {tva tvb v2 v3:Value} {rp:List (ByteArray×Int×Int)} {mx:List Int} {vA vL vH:List (ByteArray×Int)}
theorem sx_put (h:SX w0 w p4 p5 m mA mL mH ba bb tva tvb rp vA vL vH) (hV:RansOf w0 v2 rp) (hM:SliceOf w0 1 EInt v3 mx) (hmx:0 < mx.length) (hl:rp.length≤100) {k:Nat} {x:ByteArray×Int×Int} (hx:rp[k]?=some x) {lo hi:Int} (h0:0≤lo) (h1:lo≤hi) (h2:hi≤17179869184) {p15:Nat} (o15:w.heap[p15]?=some (.cells #[.int .i64 lo,.int .i64 hi] 51 (0,0))) {R:RT} {next4:Value→World→Prop}
 (hn:∀ w' v,lo≤v→v≤hi→SX w0 w' p4 p5 m mA mL mH ba bb tva tvb rp (vA++[(x.1,v)]) vL vH→next4 (.int .i64 ((k+1:Nat):Int)) w') :
 n9c2 v2 v3 (.int .i64 (k:Int)) (.pointer (some ⟨p15,0,none⟩)) (.map (some mA)) next4 R w:=by
 have hlt:=(List.getElem?_eq_some_iff.1 hx).1
 obtain ⟨A2,c2,rfl,_,_,_,hel2⟩:=SliceOf.open hV
 obtain ⟨A3,c3,rfl,_,_,hm3,hel3⟩:=SliceOf.open hM
 obtain ⟨b2,o2,cs2,rfl,_,hE2,rfl⟩:=hel2 k x hx
 have hkm:k % mx.length < mx.length:=Nat.mod_lt _ hmx
 obtain ⟨y,hy⟩:=getElem?_lt hkm
 obtain ⟨b3,o3,cs3,rfl,_,hE3,rfl⟩:=hel3 _ y hy
 have hne:(mx.length:Int)≠0:=by omega
 have hrem:(k:Int).tmod (mx.length:Int)=((k % mx.length:Nat):Int):=by rw [Int.tmod_eq_emod_of_nonneg (by omega)];rfl
 have dk:(k:Int) < (rp.length:Int):=by omega
 have dm:((k % mx.length:Nat):Int) < (mx.length:Int):=by omega
 unfold n9c2
 simp (disch:=try exact DI) only [↓PR,QR,simprocAttr]
 rw [hrem]
 simp (disch:=try exact DI) only [↓PR,QR,simprocAttr,dm,hE3.c1 h.e]
 refine drawK_intro ?_
 have eD:Ext w w.drew:=(Ext.refl w).drew
 change n9c1 _ _ _ _ _ (EC w.drew) _ _ w.drew
 replace h:=h.ext eD
 replace o15:=eD.obj o15
 generalize w.drew=D at *
 have hd:0 < hi - lo+1:=by omega
 have hdz:hi - lo+1≠0:=by omega
 have t1:=tmod_in y hd
 have w1:IntKind.i64.wrap (hi - lo)=hi - lo:=wrap_ok (by omega) (by omega)
 have w2:IntKind.i64.wrap (hi - lo+1)=hi - lo+1:=wrap_ok (by omega) (by omega)
 have hq1:∀ K:Value→Prop,qV Pg (EC D) (binS .rem 3 false (.int .i64 y) (.int .i64 (hi - lo+1))) K=K (.int .i64 (y.tmod (hi - lo+1))):=fun K=>qV_rem _ _ _ _ _ hdz
 have w3:IntKind.i64.wrap (y.tmod (hi - lo+1)+hi)=y.tmod (hi - lo+1)+hi:=wrap_ok (by omega) (by omega)
 have w4:IntKind.i64.wrap (y.tmod (hi - lo+1)+hi - lo)=y.tmod (hi - lo+1)+hi - lo:=wrap_ok (by omega) (by omega)
 have w5:IntKind.i64.wrap (y.tmod (hi - lo+1)+hi - lo+1)=y.tmod (hi - lo+1)+(hi - lo+1):=by rw [wrap_ok (by omega) (by omega)];omega
 have hq2:∀ K:Value→Prop,qV Pg (EC D) (binS .rem 3 false (.int .i64 (y.tmod (hi - lo+1)+(hi - lo+1))) (.int .i64 (hi - lo+1))) K=K (.int .i64 ((y.tmod (hi - lo+1)+(hi - lo+1)).tmod (hi - lo+1))):=fun K=>qV_rem _ _ _ _ _ hdz
 have hpv:=pick_in (x:=y) h1
 have w6:IntKind.i64.wrap (lo+(y.tmod (hi - lo+1)+(hi - lo+1)).tmod (hi - lo+1))=pickV y lo hi:=by
  have:lo+(y.tmod (hi - lo+1)+(hi - lo+1)).tmod (hi - lo+1)=pickV y lo hi:=rfl
  rw [this,wrap_ok (by omega) (by omega)]
 have hwk:IntKind.i64.wrap ((k:Int)+1)=((k+1:Nat):Int):=by rw [wrap_ok (by omega) (by omega)];omega
 unfold n9c1
 simp (disch:=try exact DI) only [↓PR,QR,simprocAttr,dk,hE2.c3 h.e,(cells_of_heap o15).1,w1,w2,hq1,w3,w4,w5,hq2,w6]
 refine update_IP h.hA x.1 _ fun w' hA' ho=>turnK_intro ?_
 simp (disch:=try exact DI) only [↓PR,QR,simprocAttr,hwk]
 exact hn w' _ hpv.1 hpv.2 (h.putA ho hA')
end
section
variable {w0 w:World} {p4 p5 m mA mL mH:Nat} {ba bb:Int} {tva tvb v2 v3:Value} {rp:List (ByteArray×Int×Int)} {mx:List Int} {vA vL vH:List (ByteArray×Int)}
abbrev LawT (w0:World):Ending→World→Prop:=retR fun r w'=>r = .bool true∧Ext w0 w'
theorem sx_known (hE:EnvOK w0) (e:Ext w0 w):callK Pg 9 #[] (panK (LawT w0)) w fun t w=>LawT w0 (.returned t) w:=by
 refine zcr (known_ret (hE.ext e)) fun w1 e1=>?_
 exact ⟨_,rfl,rfl,e.trans e1⟩
theorem sx_ranges (hE:EnvOK w0) (h:SX w0 w p4 p5 m mA mL mH ba bb tva tvb rp [] [] []) (hV:RansOf w0 v2 rp) (hM:SliceOf w0 1 EInt v3 mx) (hmx:0 < mx.length) (hl:rp.length≤100)
 (hK:∀ w' vA',SX w0 w' p4 p5 m mA mL mH ba bb tva tvb rp vA' [] []→AtOk rp vA'→loop1 (fun t17 w next9=>n9c41 (.pointer (some ⟨p4,0,none⟩)) (.pointer (some ⟨p5,0,none⟩)) t17 (.map (some m)) (.map (some mA)) (.map (some mL)) (.map (some mH)) next9 (LawT w0) w) (.int .i64 0) w') :
 loop1 (fun t14 w next4=>n9c43 v2 v3 (.pointer (some ⟨p4,0,none⟩)) (.pointer (some ⟨p5,0,none⟩)) t14 (.map (some m)) (.map (some mA)) (.map (some mL)) (.map (some mH)) next4 (LawT w0) w) (.int .i64 0) w:=by
 refine loop1_intro (fun a w=>∃ (k:Nat) (vA:List (ByteArray×Int)),a = .int .i64 (k:Int)∧k≤rp.length∧SX w0 w p4 p5 m mA mL mH ba bb tva tvb rp vA [] []∧AtK rp k vA) (fun a _=>rp.length - (intOf a).toNat) ⟨0,[],rfl,by omega,h,AtK.zero rp⟩ ?_
 clear h
 rintro _ w ⟨k,vA,rfl,hk,h,hA⟩
 unfold n9c43
 by_cases hlt:k < rp.length
 · obtain ⟨x,hx⟩:=getElem?_lt hlt
   obtain ⟨A2,c2,hv2,_,_,_,hel2⟩:=SliceOf.open hV
   obtain ⟨b2,o2,cs2,hA2,_,hE2,rfl⟩:=hel2 k x hx
   subst hA2
   have hV':=hV
   rw [hv2] at hV'
   subst hv2
   have dk:(k:Int) < (rp.length:Int):=by omega
   have d1:decide ((k:Int) < (rp.length:Int))=true:=decide_eq_true dk
   obtain ⟨⟨lo,hi⟩,hr⟩:=Option.isSome_iff_exists.1 (lastR_some (List.mem_of_getElem? hx))
   unfold n9c42
   simp (disch:=try exact DI) only [↓PR,QR,simprocAttr,d1,dk,hE2.c3 h.e]
   rw [op_lookup1O Tryz.underlying46 Tryz.underlying9 ty51 h.hm,lastOf_RP,hr]
   simp only [Option.map_some,Option.getD_some]
   simp (disch:=try exact DI) only [↓PR,QR,simprocAttr]
   have eA:Ext w (w.alloc (.cells #[.int .i64 lo,.int .i64 hi] 51)):=(Ext.refl _).alloc _
   have oA:=heap_new w #[.int .i64 lo,.int .i64 hi] 51
   replace h:=h.ext eA
   clear hE2
   by_cases h0:lo < 0
   · have d2:decide (lo < 0)=true:=decide_eq_true h0
     simp (disch:=try exact DI) only [↓PR,QR,simprocAttr,d2,↓n9c3]
     exact sx_known hE h.e
   have d2:decide (lo < 0)=false:=decide_eq_false h0
   by_cases h1:lo > hi
   · have d3:decide (lo > hi)=true:=decide_eq_true h1
     simp (disch:=try exact DI) only [↓PR,QR,simprocAttr,d2,d3,↓n9c3]
     exact sx_known hE h.e
   have d3:decide (lo > hi)=false:=decide_eq_false h1
   by_cases h2:hi > 17179869184
   · have d4:decide (hi > 17179869184)=true:=decide_eq_true h2
     simp (disch:=try exact DI) only [↓PR,QR,simprocAttr,d2,d3,d4,↓n9c3]
     exact sx_known hE h.e
   have d4:decide (hi > 17179869184)=false:=decide_eq_false h2
   simp (disch:=try exact DI) only [↓PR,QR,simprocAttr,d2,d3,d4,↓n9c3]
   refine sx_put h hV' hM hmx hl hx (lo:=lo) (hi:=hi) (by omega) (by omega) (by omega) oA fun w' v hv1 hv2 h'=>?_
   exact ⟨⟨k+1,_,rfl,hlt,h',hA.step hx hr (by omega) hv1 hv2 (by omega)⟩,meas_lt (kd := .i64) hlt⟩
 · obtain rfl:k=rp.length:=by omega
   obtain ⟨A2,c2,hv2,_,_,_,hel2⟩:=SliceOf.open hV
   have d1:decide ((rp.length:Int) < (rp.length:Int))=false:=decide_eq_false (by omega)
   subst hv2
   simp (disch:=try exact DI) only [↓PR,QR,simprocAttr,d1]
   exact hK w vA h hA.all
end
structure EndK (rp:List (ByteArray×Int×Int)) (ts:List TermD) (k:Nat) (vL vH:List (ByteArray×Int)):Prop where
 kn:∀ t∈ts.take k,(lastR rp t.field).isSome=true
 lo:∀ t∈ts.take k,lastI vL t.field=some (endF rp true t)
 hi:∀ t∈ts.take k,lastI vH t.field=some (endF rp false t)
theorem EndK.step {rp:List (ByteArray×Int×Int)} {ts:List TermD} {k:Nat} {vL vH vL' vH':List (ByteArray×Int)} {t:TermD} (h:EndK rp ts k vL vH) (hn:(fieldsL ts).Nodup) (ht:ts[k]?=some t) (hr:(lastR rp t.field).isSome=true)
 (h1:∀ s,s≠t.field→lastI vL' s=lastI vL s) (h2:∀ s,s≠t.field→lastI vH' s=lastI vH s) (h3:lastI vL' t.field=some (endF rp true t)) (h4:lastI vH' t.field=some (endF rp false t)):EndK rp ts (k+1) vL' vH':=by
 have hne:∀ u∈ts.take k,u.field≠t.field:=by
  intro u hu e
  obtain ⟨j,hj,rfl⟩:=List.mem_iff_getElem.1 hu
  rw [List.length_take] at hj
  rw [List.getElem_take] at e
  obtain ⟨hk,rfl⟩:=List.getElem?_eq_some_iff.1 ht
  have hp:=List.pairwise_iff_getElem.1 hn j k (by rw [List.length_map];omega) (by rw [List.length_map];omega) (by omega)
  rw [List.getElem_map,List.getElem_map] at hp
  exact hp e
 have hts:=take_snoc ht
 refine ⟨fun u hu=>?_,fun u hu=>?_,fun u hu=>?_⟩<;>rw [hts,List.mem_append,List.mem_singleton] at hu<;>rcases hu with hu | rfl
 · exact h.kn u hu
 · exact hr
 · rw [h1 _ (hne u hu)];exact h.lo u hu
 · exact h3
 · rw [h2 _ (hne u hu)];exact h.hi u hu
 · exact h4
section
variable {w0 w:World} {p4 p5 m mA mL mH:Nat} {ba bb:Int} {tva tvb:Value} {ta:List TermD} {rp:List (ByteArray×Int×Int)} {vA vL vH:List (ByteArray×Int)}
theorem sx_two1 (h:SX w0 w p4 p5 m mA mL mH ba bb tva tvb rp vA vL vH) (hTa:TermsOf w0 tva ta) (hl:ta.length≤100) {k:Nat} {t:TermD} (ht:ta[k]?=some t) {lo hi:Int} {p18:Nat} (o18:w.heap[p18]?=some (.cells #[.int .i64 lo,.int .i64 hi] 51 (0,0))) (h18:p18≠mL∧p18≠mH) {next9:Value→World→Prop} {R:RT}
 (hn:∀ w',SX w0 w' p4 p5 m mA mL mH ba bb tva tvb rp vA (vL++[(t.field,lo)]) (vH++[(t.field,hi)])→w'.heap[p18]?=some (.cells #[.int .i64 lo,.int .i64 hi] 51 (0,0))→n9c6 (.pointer (some ⟨p4,0,none⟩)) (.int .i64 (k:Int)) (.pointer (some ⟨p18,0,none⟩)) (.map (some mL)) (.map (some mH)) next9 R w') :
 drawK w fun C10 w=>n9c9 (.pointer (some ⟨p4,0,none⟩)) (.int .i64 (k:Int)) (.pointer (some ⟨p18,0,none⟩)) (.map (some mL)) (.map (some mH)) C10 next9 R w:=by
 have hlt:=(List.getElem?_eq_some_iff.1 ht).1
 have q4:=h.l4
 have qA:=h.AL
 have qL:=h.LH
 have q0:=h.lA
 obtain ⟨A,c,rfl,_,_,_,hel⟩:=SliceOf.open hTa
 obtain ⟨b,o,cs,rfl,_,hE,rfl⟩:=hel k t ht
 have hb:b < w0.heap.size:=World.block_lt_of_cell? w0 _ (hE 0 _ rfl)
 have hEw:=hE.ext h.e
 have n1:p4≠mL:=by omega
 have n2:p4≠mH:=by omega
 have n3:b≠mL:=by omega
 have n4:b≠mH:=by omega
 obtain ⟨n5,n6⟩:=h18
 have dk:(k:Int) < (ta.length:Int):=by omega
 refine drawK_introB (w1:=w) mL mH (fun _ _ _ _=>rfl) ?_
 have eD:Ext w w.drew:=(Ext.refl w).drew
 have hD:=h.ext eD
 have o18D:=eD.obj o18
 have hsD:w.drew.heap.size=w.heap.size:=rfl
 have hbD:∀ b:Nat,w.drew.heap[b]?=w.heap[b]?:=fun b=>rfl
 unfold n9c9
 simp (disch:=try exact DI) only [↓PR,QR,simprocAttr,(cells_of_heap h.h4).1,(cells_of_heap o18).1,dk,(hEw.c2 (Ext.refl w)).1]
 generalize w.drew=D at *
 refine entry_IP hD.hL t.field fun w1 z st o1 hst=>⟨fun b _ h1 _=>(o1.block b h1).trans (hbD b),?_⟩
 unfold n9c8
 simp (disch:=try exact DI) only [↓PR,QR,simprocAttr]
 refine hst lo _ _ fun w2 hL2 o2=>?_
 have h2:=hD.putL o2 hL2
 refine ⟨fun b _ h1 _=>(o2.block b h1).trans (hbD b),?_⟩
 refine entry_IP h2.hH t.field fun w3 z3 st3 o3 hst3=>⟨fun b _ h1 h2=>(o3.block b h2).trans ((o2.block b h1).trans (hbD b)),?_⟩
 unfold n9c7
 simp (disch:=try exact DI) only [↓PR,QR,simprocAttr]
 refine hst3 hi _ _ fun w4 hH4 o4=>turnK_intro ?_
 exact hn w4 (h2.putH o4 hH4) ((o4.block _ n6).trans ((o2.block _ n5).trans o18D))
theorem sx_two2 (h:SX w0 w p4 p5 m mA mL mH ba bb tva tvb rp vA vL vH) (hTa:TermsOf w0 tva ta) (hl:ta.length≤100) {k:Nat} {t:TermD} (ht:ta[k]?=some t) {lo hi:Int} {p18:Nat} (o18:w.heap[p18]?=some (.cells #[.int .i64 lo,.int .i64 hi] 51 (0,0))) (h18:p18≠mL∧p18≠mH) {K12:World→Prop} {R:RT}
 (hn:∀ w',SX w0 w' p4 p5 m mA mL mH ba bb tva tvb rp vA (vL++[(t.field,hi)]) (vH++[(t.field,lo)])→K12 w') :
 drawK w fun C13 w=>n9c5 (.pointer (some ⟨p4,0,none⟩)) (.int .i64 (k:Int)) (.pointer (some ⟨p18,0,none⟩)) (.map (some mL)) (.map (some mH)) C13 K12 R w:=by
 have hlt:=(List.getElem?_eq_some_iff.1 ht).1
 have q4:=h.l4
 have qA:=h.AL
 have qL:=h.LH
 have q0:=h.lA
 obtain ⟨A,c,rfl,_,_,_,hel⟩:=SliceOf.open hTa
 obtain ⟨b,o,cs,rfl,_,hE,rfl⟩:=hel k t ht
 have hb:b < w0.heap.size:=World.block_lt_of_cell? w0 _ (hE 0 _ rfl)
 have hEw:=hE.ext h.e
 have n1:p4≠mL:=by omega
 have n2:p4≠mH:=by omega
 have n3:b≠mL:=by omega
 have n4:b≠mH:=by omega
 obtain ⟨n5,n6⟩:=h18
 have dk:(k:Int) < (ta.length:Int):=by omega
 refine drawK_introB (w1:=w) mL mH (fun _ _ _ _=>rfl) ?_
 have eD:Ext w w.drew:=(Ext.refl w).drew
 have hD:=h.ext eD
 have hbD:∀ b:Nat,w.drew.heap[b]?=w.heap[b]?:=fun b=>rfl
 unfold n9c5
 simp (disch:=try exact DI) only [↓PR,QR,simprocAttr,(cells_of_heap h.h4).1,(cells_of_heap o18).1,dk,(hEw.c2 (Ext.refl w)).1]
 generalize w.drew=D at *
 refine entry_IP hD.hL t.field fun w1 z st o1 hst=>⟨fun b _ h1 _=>(o1.block b h1).trans (hbD b),?_⟩
 simp (disch:=try exact DI) only [↓PR,QR,simprocAttr]
 refine hst hi _ _ fun w2 hL2 o2=>?_
 have h2:=hD.putL o2 hL2
 refine ⟨fun b _ h1 _=>(o2.block b h1).trans (hbD b),?_⟩
 unfold n9c4
 refine entry_IP h2.hH t.field fun w3 z3 st3 o3 hst3=>⟨fun b _ h1 h2=>(o3.block b h2).trans ((o2.block b h1).trans (hbD b)),?_⟩
 simp (disch:=try exact DI) only [↓PR,QR,simprocAttr]
 refine hst3 lo _ _ fun w4 hH4 o4=>turnK_intro ?_
 exact hn w4 (h2.putH o4 hH4)
end
section
variable {w0 w:World} {p4 p5 m mA mL mH:Nat} {ba bb:Int} {tva tvb:Value} {ta:List TermD} {rp:List (ByteArray×Int×Int)} {vA vL vH:List (ByteArray×Int)}
theorem sx_ends (hE:EnvOK w0) (h:SX w0 w p4 p5 m mA mL mH ba bb tva tvb rp vA [] []) (hs:sizeB ba ta=true) (hTa:TermsOf w0 tva ta)
 (hK:∀ w' vL vH,SX w0 w' p4 p5 m mA mL mH ba bb tva tvb rp vA vL vH→KnownT rp ta→EndOk rp ta true vL→EndOk rp ta false vH →
  callK Pg 16 #[.agg #[.int .i64 ba,tva],.map (some mA)] (panK (LawT w0)) w' fun t210 w=>n9c39 (.pointer (some ⟨p4,0,none⟩)) (.pointer (some ⟨p5,0,none⟩)) (.map (some m)) (.map (some mA)) (.map (some mL)) (.map (some mH)) t210 (LawT w0) w) :
 loop1 (fun t17 w next9=>n9c41 (.pointer (some ⟨p4,0,none⟩)) (.pointer (some ⟨p5,0,none⟩)) t17 (.map (some m)) (.map (some mA)) (.map (some mL)) (.map (some mH)) next9 (LawT w0) w) (.int .i64 0) w:=by
 obtain ⟨hf,_⟩:=size_fine hs
 have hl:=hf.len
 refine loop1_intro (fun a w=>∃ (k:Nat) (vL vH:List (ByteArray×Int)),a = .int .i64 (k:Int)∧k≤ta.length∧SX w0 w p4 p5 m mA mL mH ba bb tva tvb rp vA vL vH∧EndK rp ta k vL vH) (fun a _=>ta.length - (intOf a).toNat) ⟨0,[],[],rfl,by omega,h,⟨fun x h=>(by simp at h),fun x h=>(by simp at h),fun x h=>(by simp at h)⟩⟩ ?_
 clear h
 rintro _ w ⟨k,vL,vH,rfl,hk,h,hEn⟩
 have hwk:IntKind.i64.wrap ((k:Int)+1)=((k+1:Nat):Int):=by rw [wrap_ok (by omega) (by omega)];omega
 obtain ⟨A,c,hv,_,_,_,hel⟩:=SliceOf.open (TermsOf.ext hTa h.e)
 have o4:=h.h4
 rw [hv] at o4
 unfold n9c41
 by_cases hlt:k < ta.length
 · obtain ⟨t,ht⟩:=getElem?_lt hlt
   obtain ⟨b,o,cs,hA,_,hE1,rfl⟩:=hel k t ht
   subst hA
   have dk:(k:Int) < (ta.length:Int):=by omega
   have d1:decide ((k:Int) < (ta.length:Int))=true:=decide_eq_true dk
   unfold n9c40
   simp (disch:=try exact DI) only [↓PR,QR,simprocAttr,(cells_of_heap o4).1,d1,dk,(hE1.c2 (Ext.refl w)).1]
   rw [op_lookupO Tryz.underlying46 Tryz.underlying9 ty51 h.hm,lastOf_RP]
   cases hr:lastR rp t.field with
   | none =>
    simp only [Option.map_none,Option.getD_none,Option.isSome_none]
    simp (disch:=try exact DI) only [↓PR,QR,simprocAttr,Bool.not_false]
    exact sx_known hE (h.e.trans ((Ext.refl _).alloc _))
   | some q =>
    obtain ⟨lo,hi⟩:=q
    simp only [Option.map_some,Option.getD_some,Option.isSome_some]
    simp (disch:=try exact DI) only [↓PR,QR,simprocAttr,Bool.not_true]
    have eA:Ext w (w.alloc (.cells #[.int .i64 lo,.int .i64 hi] 51)):=(Ext.refl _).alloc _
    have oA:=heap_new w #[.int .i64 lo,.int .i64 hi] 51
    have hLl:=h.hL.lt
    have hHl:=h.hH.lt
    have h':=h.ext eA
    change drawK (w.alloc (.cells #[.int .i64 lo,.int .i64 hi] 51)) _
    generalize w.alloc (.cells #[.int .i64 lo,.int .i64 hi] 51)=w1 at *
    refine sx_two1 h' hTa (by omega) ht oA ⟨by omega,by omega⟩ fun w2 h2 o2=>?_
    have o42:=h2.h4
    obtain ⟨A2,c2,hv2,_,_,_,hel2⟩:=SliceOf.open (TermsOf.ext hTa h2.e)
    obtain ⟨b2,o2',cs2,hA2,_,hE2,rfl⟩:=hel2 k t ht
    subst hA2
    rw [hv2] at o42
    have hnz:=hf.nz t (List.mem_of_getElem? ht)
    have hend:∀ least,endF rp least t=if least == decide (t.factor > 0) then lo else hi:=fun least=>by unfold endF;rw [hr]
    unfold n9c6
    by_cases hneg:t.factor < 0
    · have d2:decide (t.factor < 0)=true:=decide_eq_true hneg
      have d3:decide (t.factor > 0)=false:=decide_eq_false (by omega)
      rw [d3] at hend
      simp (disch:=try exact DI) only [↓PR,QR,simprocAttr,(cells_of_heap o42).1,dk,(hE2.c2 (Ext.refl w2)).1,(hE2.c2 (Ext.refl w2)).2,d2]
      refine sx_two2 h2 hTa (by omega) ht o2 ⟨by omega,by omega⟩ fun w3 h3=>?_
      simp (disch:=try exact DI) only [↓PR,QR,simprocAttr,hwk]
      refine ⟨⟨k+1,_,_,rfl,hlt,h3,hEn.step hf.nd ht (by rw [hr];rfl) (fun s hs=>?_) (fun s hs=>?_) ?_ ?_⟩,meas_lt (kd := .i64) hlt⟩
      · rw [lastI_snoc,if_neg (fun e=>hs e.symm),lastI_snoc,if_neg (fun e=>hs e.symm)]
      · rw [lastI_snoc,if_neg (fun e=>hs e.symm),lastI_snoc,if_neg (fun e=>hs e.symm)]
      · rw [lastI_snoc,if_pos rfl,hend];rfl
      · rw [lastI_snoc,if_pos rfl,hend];rfl
    · have d2:decide (t.factor < 0)=false:=decide_eq_false hneg
      have d3:decide (t.factor > 0)=true:=decide_eq_true (by omega)
      rw [d3] at hend
      simp (disch:=try exact DI) only [↓PR,QR,simprocAttr,(cells_of_heap o42).1,dk,(hE2.c2 (Ext.refl w2)).1,(hE2.c2 (Ext.refl w2)).2,d2,hwk]
      refine ⟨⟨k+1,_,_,rfl,hlt,h2,hEn.step hf.nd ht (by rw [hr];rfl) (fun s hs=>?_) (fun s hs=>?_) ?_ ?_⟩,meas_lt (kd := .i64) hlt⟩
      · rw [lastI_snoc,if_neg (fun e=>hs e.symm)]
      · rw [lastI_snoc,if_neg (fun e=>hs e.symm)]
      · rw [lastI_snoc,if_pos rfl,hend];rfl
      · rw [lastI_snoc,if_pos rfl,hend];rfl
 · obtain rfl:k=ta.length:=by omega
   have d1:decide ((ta.length:Int) < (ta.length:Int))=false:=decide_eq_false (by omega)
   obtain ⟨h1,h2,h3⟩:=hEn
   rw [List.take_length] at h1 h2 h3
   have:=hK w vL vH h h1 ⟨h2⟩ ⟨h3⟩
   rw [hv] at this
   simp (disch:=try exact DI) only [↓PR,QR,simprocAttr,(cells_of_heap o4).1,d1]
   exact this
end
theorem nbi (n:Int):(n != n)=false:=by simp
theorem nbe (n:Int):(n == n)=true:=by simp
section
variable {w0 w:World} {p4 p5 m mA mL mH:Nat} {ba bb:Int} {tva tvb:Value} {ta tb:List TermD} {rp:List (ByteArray×Int×Int)} {vA vL vH:List (ByteArray×Int)}
theorem sx_add (hE:EnvOK w0) (h:SX w0 w p4 p5 m mA mL mH ba bb tva tvb rp vA vL vH) (hTa:TermsOf w0 tva ta) (hTb:TermsOf w0 tvb tb) (ha:sizeB ba ta=true) (hb:sizeB bb tb=true) (hA:AtOk rp vA) (hk:KnownT rp ta) :
 n9c23 (.pointer (some ⟨p4,0,none⟩)) (.pointer (some ⟨p5,0,none⟩)) (.map (some mA)) (.int .i64 (evalN ba ta vA)) (LawT w0) w:=by
 have h1:=SliceOf.oneCell hTa
 have h2:=SliceOf.oneCell hTb
 have hla:=(size_fine ha).1.len
 have hlb:=(size_fine hb).1.len
 unfold n9c23
 simp (disch:=try exact DI) only [↓PR,QR,simprocAttr,(cells_of_heap h.h4).1,(cells_of_heap h.h5).1]
 refine callK_ret (Add_ret w _ _ ba bb ta tb ⟨tva,rfl,TermsOf.ext hTa h.e⟩ ⟨tvb,rfl,TermsOf.ext hTb h.e⟩ (by omega) (by omega)) ?_
 rintro _ w1 ⟨⟨s,rfl,hs⟩,e1⟩
 have hs1:=SliceOf.oneCell (own_terms hs)
 have hadd:=add_at ha hb hA hk
 have herr:=add_err ha hb
 have hb9:=eval_09 hb hA
 generalize addP ba ta bb tb=q at *
 unfold n9c22
 have eA:Ext w1 (w1.alloc (.cells #[.int .i64 q.1,s] TSz)):=(Ext.refl _).alloc _
 have oA:=heap_new w1 #[.int .i64 q.1,s] TSz
 have h3:=(h.ext e1).ext eA
 simp (disch:=try exact DI) only [↓PR,QR,simprocAttr,(cells_of_heap h3.h5).1]
 have hsA:=(own_terms hs).ext eA
 change callK _ _ _ _ (w1.alloc (.cells #[.int .i64 q.1,s] TSz)) _
 generalize w1.alloc (.cells #[.int .i64 q.1,s] TSz)=w2 at *
 refine zcr (Eval_ret w2 _ bb tb mA vA ⟨tvb,rfl,TermsOf.ext hTb h3.e⟩ (by omega) h3.hA) fun w3 e3=>?_
 have h4:=h3.ext e3
 have oA3:=e3.obj oA
 have hs3:=TermsOf.ext hsA e3
 unfold n9c21
 have z1:((0:Int) == 0)=true:=rfl
 have z2:((3:Int) == 0)=false:=rfl
 have z3:((3:Int) == 3)=true:=rfl
 have z4:((7:Int) == 0)=false:=rfl
 have z5:((7:Int) == 3)=false:=rfl
 have z6:((7:Int) == 7)=true:=rfl
 have z7:((9:Int) == 0)=false:=rfl
 have z8:((9:Int) == 9)=true:=rfl
 have y1:((0:Int) != 0)=false:=rfl
 have y2:((3:Int) != 0)=true:=rfl
 have y3:((7:Int) != 0)=true:=rfl
 have y4:((9:Int) != 0)=true:=rfl
 have bad:∀ (eo eb:Int),(eo=0∨eo=3∨eo=7)→(eb=0∨eb=9)→n9c19 (.int .i64 eo) (.int .i64 eb) (LawT w0) w3:=by
  rintro eo eb (rfl | rfl | rfl) (rfl | rfl) <;>
  · simp (disch:=try exact DI) only [↓PR,QR,simprocAttr,z1,z2,z3,z4,z5,z6,z7,z8,↓n9c19,↓n9c16,↓n9c15,↓n9c14,↓n9c13]
    refine zcr (known_ret (hE.ext h4.e)) fun w4 e4=>?_
    simp (disch:=try exact DI) only [↓PR,QR,simprocAttr]
    exact ⟨trivial,h4.e.trans e4⟩
 generalize hev:evalE bb tb ByteArray.empty vA=ev at *
 by_cases hq0:q.2.2=0
 · rcases hb9 with rfl | rfl
   · obtain ⟨g1,g2,g3,g4⟩:=hadd hq0 rfl
     rw [hq0]
     simp (disch:=try exact DI) only [↓PR,QR,simprocAttr,y1,↓n9c20,(cells_of_heap oA3).1]
     have hql:q.2.1.length≤1048576:=by
      have:=(size_fine (eval_size g1)).1.len
      omega
     refine zcr (Eval_ret w3 _ q.1 q.2.1 mA vA ⟨s,rfl,hs3⟩ hql h4.hA) fun w5 e5=>?_
     rw [g1,g2]
     have hw:IntKind.i64.wrap (evalN ba ta vA+evalN bb tb vA)=evalN ba ta vA+evalN bb tb vA:=wrap_ok (by omega) (by omega)
     unfold n9c18
     simp (disch:=try exact DI) only [↓PR,QR,simprocAttr,z1,hw,nbe,↓n9c17]
     have e05:=h4.e.trans e5
     refine zcr (known_ret (hE.ext e05)) fun w6 e6=>?_
     simp (disch:=try exact DI) only [↓PR,QR,simprocAttr]
     exact ⟨trivial,e05.trans e6⟩
   · rw [hq0]
     simp (disch:=try exact DI) only [↓PR,QR,simprocAttr,y1,y4,↓n9c20]
     exact bad 0 9 (.inl rfl) (.inr rfl)
 · have hne:(q.2.2 != 0)=true:=by simpa using hq0
   simp (disch:=try exact DI) only [↓PR,QR,simprocAttr,hne,↓n9c20]
   exact bad _ _ herr hb9
end
theorem fold_len:∀ (ts:List TermD) (out:List UInt8),(∀ t∈ts,TermOk t∧t.field.size≤32)→(ts.foldl (fun out t=>addPart out t.factor t.field.data.toList) out).length≤out.length+41*ts.length
 | [],out,_=>by simp
 | t::ts,out,h=>by
  have h1:=h t List.mem_cons_self
  have hp:=part_len (n:=t.factor) (l:=t.field.data.toList) (first:=decide (out=[])) h1.1.lo h1.1.hi
  have hfl:t.field.data.toList.length=t.field.size:=rfl
  have ih:=fold_len ts (addPart out t.factor t.field.data.toList) fun u hu=>h u (List.mem_cons_of_mem _ hu)
  have he:(addPart out t.factor t.field.data.toList).length=out.length+(partL t.factor t.field.data.toList (decide (out=[]))).length:=by unfold addPart;rw [List.length_append]
  have:=h1.2
  rw [List.foldl_cons,List.length_cons]
  omega
theorem sizeT_size {base:Int} {ts:List TermD} (h:sizeB base ts=true):(sizeT base ts).size≤1000:=by
 obtain ⟨⟨b0,b1⟩,hl,hok⟩:=size_ok h
 have h1:=fold_len ts [] fun t ht=>⟨hok t ht,name_size (term_name h ht)⟩
 have hp:=part_len (n:=base) (l:=[]) (first:=decide (termsL ts=[])) b0 b1
 unfold sizeT
 rw [mkB_size]
 unfold sizeL
 split
 · unfold addPart
   rw [List.length_append]
   unfold termsL at hp ⊢
   simp only [List.length_nil] at h1 hp
   omega
 · unfold termsL
   simp only [List.length_nil] at h1
   omega
section
variable {w0 w:World} {p4 p5 m mA mL mH:Nat} {ba bb:Int} {tva tvb:Value} {ta tb:List TermD} {rp:List (ByteArray×Int×Int)} {vA vL vH:List (ByteArray×Int)}
theorem sx_solve (hE:EnvOK w0) (h:SX w0 w p4 p5 m mA mL mH ba bb tva tvb rp vA vL vH) (hTa:TermsOf w0 tva ta) (hTb:TermsOf w0 tvb tb) (ha:sizeB ba ta=true) (hb:sizeB bb tb=true) (hA:AtOk rp vA) (hk:KnownT rp ta) :
 loop1 (fun t32 w next24=>n9c24 (.pointer (some ⟨p4,0,none⟩)) (.pointer (some ⟨p5,0,none⟩)) t32 (.map (some mA)) (.int .i64 (evalN ba ta vA)) next24 (LawT w0) w) (.int .i64 0) w:=by
 have hla:=(size_fine ha).1.len
 have hN:=(eval_num (vp:=vA) ha (at_known hA hk)).2
 refine loop1_intro (fun a w=>∃ k:Nat,a = .int .i64 (k:Int)∧k≤ta.length∧SX w0 w p4 p5 m mA mL mH ba bb tva tvb rp vA vL vH) (fun a _=>ta.length - (intOf a).toNat) ⟨0,rfl,by omega,h⟩ ?_
 clear h
 rintro _ w ⟨k,rfl,hkl,h⟩
 have hwk:IntKind.i64.wrap ((k:Int)+1)=((k+1:Nat):Int):=by rw [wrap_ok (by omega) (by omega)];omega
 obtain ⟨A,c,hv,_,_,_,_⟩:=SliceOf.open (TermsOf.ext hTa h.e)
 have o4:=h.h4
 rw [hv] at o4
 unfold n9c24
 by_cases hlt:k < ta.length
 · obtain ⟨t,ht⟩:=getElem?_lt hlt
   have dk:(k:Int) < (ta.length:Int):=by omega
   have d1:decide ((k:Int) < (ta.length:Int))=true:=decide_eq_true dk
   simp (disch:=try exact DI) only [↓PR,QR,simprocAttr,(cells_of_heap o4).1,d1]
   refine drawK_intro ?_
   have eD:Ext w w.drew:=(Ext.refl w).drew
   change n9c12 _ _ _ _ (EC w.drew) _ _ w.drew
   replace h:=h.ext eD
   replace o4:=eD.obj o4
   generalize w.drew=D at *
   obtain ⟨A',c',hv',_,_,_,hel⟩:=SliceOf.open (TermsOf.ext hTa h.e)
   rw [hv] at hv'
   injection hv' with hv' _ hv''
   subst hv' hv''
   obtain ⟨b,o,cs,hA1,_,hE1,rfl⟩:=hel k t ht
   subst hA1
   unfold n9c12
   simp (disch:=try exact DI) only [↓PR,QR,simprocAttr,(cells_of_heap o4).1,dk,(hE1.c2 (Ext.refl D)).1]
   rw [← hv]
   refine zcr (Solve_ret D _ ba ta t.field (evalN ba ta vA) mA vA ⟨tva,rfl,TermsOf.ext hTa h.e⟩ (by omega) h.hA) fun w1 e1=>?_
   rw [hN,solve_at ha hA hk (List.mem_of_getElem? ht)]
   have h1:=h.ext e1
   have o41:=e1.obj o4
   have y1:((0:Int) != 0)=false:=rfl
   have hE2:=hE1.ext e1
   refine ⟨e1,?_⟩
   unfold n9c11
   simp (disch:=try exact DI) only [↓PR,QR,simprocAttr,y1,↓n9c10,(cells_of_heap o41).1,dk,(hE2.c2 (Ext.refl w1)).1]
   rw [op_lookup1O Tryz.underlying35 Tryz.underlying9 ty3 h1.hA,lastOf_IP]
   obtain ⟨lo,hi,_,hl,_⟩:=at_val hA hk (List.mem_of_getElem? ht)
   rw [hl]
   simp only [Option.map_some,Option.getD_some]
   simp (disch:=try exact DI) only [↓PR,QR,simprocAttr,nbi,hwk]
   exact ⟨⟨k+1,rfl,hlt,h1⟩,meas_lt (kd := .i64) hlt⟩
 · obtain rfl:k=ta.length:=by omega
   have d1:decide ((ta.length:Int) < (ta.length:Int))=false:=decide_eq_false (by omega)
   simp (disch:=try exact DI) only [↓PR,QR,simprocAttr,(cells_of_heap o4).1,d1]
   exact sx_add hE h hTa hTb ha hb hA hk
theorem sx_text (hE:EnvOK w0) (h:SX w0 w p4 p5 m mA mL mH ba bb tva tvb rp vA vL vH) (hTa:TermsOf w0 tva ta) (hTb:TermsOf w0 tvb tb) (ha:sizeB ba ta=true) (hb:sizeB bb tb=true) (hA:AtOk rp vA) (hk:KnownT rp ta) :
 n9c29 (.pointer (some ⟨p4,0,none⟩)) (.pointer (some ⟨p5,0,none⟩)) (.map (some mA)) (.int .i64 (evalN ba ta vA)) (.bool false) (.bool false) (LawT w0) w:=by
 have h1:=SliceOf.oneCell hTa
 have y1:((0:Int) != 0)=false:=rfl
 unfold n9c29
 simp (disch:=try exact DI) only [↓PR,QR,simprocAttr,(cells_of_heap h.h4).1]
 refine zcr (Text_ret (hE.tab.ext h.e) _ ba ta ⟨tva,rfl,TermsOf.ext hTa h.e⟩) fun w1 e1=>?_
 rw [ha,if_pos rfl,if_pos rfl]
 replace h:=h.ext e1
 unfold n9c28
 simp (disch:=try exact DI) only [↓PR,QR,simprocAttr]
 refine callK_ret (Parse_ret (hE.ext h.e) (sizeT ba ta) (by have:=sizeT_size ha;omega)) ?_
 rintro _ w2 ⟨⟨_,rfl,x,rfl,hx⟩,e2⟩
 rw [parseZ_of ha] at hx ⊢
 have hx1:=SliceOf.oneCell hx
 unfold n9c27
 have eA:Ext w2 (w2.alloc (.cells #[.int .i64 ba,x] TSz)):=(Ext.refl _).alloc _
 have oA:=heap_new w2 #[.int .i64 ba,x] TSz
 replace h:=(h.ext e2).ext eA
 have hxA:=TermsOf.ext hx eA
 simp (disch:=try exact DI) only [↓PR,QR,simprocAttr,y1,↓n9c26,(cells_of_heap oA).1,(cells_of_heap h.h4).1]
 change callK _ _ _ _ (w2.alloc (.cells #[.int .i64 ba,x] TSz)) _
 generalize w2.alloc (.cells #[.int .i64 ba,x] TSz)=w3 at *
 refine zcr (rSame_ret w3 _ _ ba ba ta ta ⟨x,rfl,hxA⟩ ⟨tva,rfl,TermsOf.ext hTa h.e⟩) fun w4 e4=>?_
 have dd:decide (ba=ba∧ta=ta)=true:=decide_eq_true ⟨rfl,rfl⟩
 rw [dd]
 simp (disch:=try exact DI) only [↓PR,QR,simprocAttr,y1,Bool.not_true,↓n9c25]
 exact sx_solve hE (h.ext e4) hTa hTb ha hb hA hk
theorem sx_all (hE:EnvOK w0) (h:SX w0 w p4 p5 m mA mL mH ba bb tva tvb rp vA vL vH) (hTa:TermsOf w0 tva ta) (hTb:TermsOf w0 tvb tb) (ha:sizeB ba ta=true) (hb:sizeB bb tb=true) (hA:AtOk rp vA) (hk:KnownT rp ta) (hL:EndOk rp ta true vL) (hH:EndOk rp ta false vH) :
 callK Pg 16 #[.agg #[.int .i64 ba,tva],.map (some mA)] (panK (LawT w0)) w fun t210 w=>n9c39 (.pointer (some ⟨p4,0,none⟩)) (.pointer (some ⟨p5,0,none⟩)) (.map (some m)) (.map (some mA)) (.map (some mL)) (.map (some mH)) t210 (LawT w0) w:=by
 have h1:=SliceOf.oneCell hTa
 have hla:=(size_fine ha).1.len
 obtain ⟨eA,nA⟩:=eval_num (vp:=vA) ha (at_known hA hk)
 obtain ⟨eL,nL⟩:=end_num ha hA hk hL
 obtain ⟨eH,nH⟩:=end_num ha hA hk hH
 obtain ⟨eI,iL,iH⟩:=interval_of ha hA hk
 obtain ⟨n1,n2⟩:=num_in hA hk
 have y1:((0:Int) != 0)=false:=rfl
 refine zcr (Eval_ret w _ ba ta mA vA ⟨tva,rfl,TermsOf.ext hTa h.e⟩ (by omega) h.hA) fun w1 e1=>?_
 rw [eA]
 replace h:=h.ext e1
 unfold n9c39
 simp (disch:=try exact DI) only [↓PR,QR,simprocAttr,(cells_of_heap h.h4).1]
 refine zcr (Interval_ret w1 _ ba ta m rp ⟨tva,rfl,TermsOf.ext hTa h.e⟩ (by omega) h.hm) fun w2 e2=>?_
 rw [eI]
 replace h:=h.ext e2
 unfold n9c38 rangeVal
 have eX:Ext w2 (w2.alloc (.cells #[.int .i64 (intervalL ba ta rp),.int .i64 (intervalH ba ta rp)] 51)):=(Ext.refl _).alloc _
 have oX:=heap_new w2 #[.int .i64 (intervalL ba ta rp),.int .i64 (intervalH ba ta rp)] 51
 replace h:=h.ext eX
 simp (disch:=try exact DI) only [↓PR,QR,simprocAttr,(cells_of_heap h.h4).1]
 change callK _ _ _ _ (w2.alloc (.cells #[.int .i64 (intervalL ba ta rp),.int .i64 (intervalH ba ta rp)] 51)) _
 generalize w2.alloc (.cells #[.int .i64 (intervalL ba ta rp),.int .i64 (intervalH ba ta rp)] 51)=w3 at *
 generalize w2.heap.size=p22 at *
 refine zcr (Eval_ret w3 _ ba ta mL vL ⟨tva,rfl,TermsOf.ext hTa h.e⟩ (by omega) h.hL) fun w4 e4=>?_
 rw [eL]
 replace h:=h.ext e4
 unfold n9c37
 simp (disch:=try exact DI) only [↓PR,QR,simprocAttr,(cells_of_heap h.h4).1]
 refine zcr (Eval_ret w4 _ ba ta mH vH ⟨tva,rfl,TermsOf.ext hTa h.e⟩ (by omega) h.hH) fun w5 e5=>?_
 rw [eH]
 replace h:=h.ext e5
 have o22:=(e4.trans e5).obj oX
 have d1:decide (evalN ba ta vA < intervalL ba ta rp)=false:=decide_eq_false (by omega)
 have d2:decide (evalN ba ta vA > intervalH ba ta rp)=false:=decide_eq_false (by omega)
 have d3:(evalN ba ta vL != intervalL ba ta rp)=false:=by rw [nL,iL];exact nbi _
 have d4:(evalN ba ta vH != intervalH ba ta rp)=false:=by rw [nH,iH];exact nbi _
 unfold n9c36
 simp (disch:=try exact DI) only [↓PR,QR,simprocAttr,y1,↓n9c35,↓n9c34,↓n9c33,↓n9c32,↓n9c31,↓n9c30,(cells_of_heap o22).1,d1,d2,d3,d4]
 exact sx_text hE h hTa hTb ha hb hA hk
end
theorem SizeExact_ret (w0:World) (va vb v2 v3:Value) (ba bb:Int) (ta tb:List TermD) (rp:List (ByteArray×Int×Int)) (mx:List Int) (hsa:SizeVal w0 va ba ta) (hsb:SizeVal w0 vb bb tb) (hV:RansOf w0 v2 rp) (hM:SliceOf w0 1 EInt v3 mx) (hE:EnvOK w0) :
 Ret Pg 7 #[va,vb,v2,v3] w0 fun r w'=>r = .bool true∧Ext w0 w':=by
 obtain ⟨tva,rfl,hTa⟩:=hsa
 obtain ⟨tvb,rfl,hTb⟩:=hsb
 have h1:=SliceOf.oneCell hTa
 have h2:=SliceOf.oneCell hTb
 have hV0:=hV
 have hM0:=hM
 obtain ⟨A2,c2,rfl,_,_,_,_⟩:=SliceOf.open hV
 obtain ⟨A3,c3,rfl,_,_,_,_⟩:=SliceOf.open hM
 refine n9s (R:=retR _) ?_;unfold n9
 simp (disch:=try exact DI) only [↓PR,QR,simprocAttr]
 generalize hW:World.alloc (World.alloc w0 _) _=W
 have e0:Ext w0 W:=by rw [← hW];exact ee
 have o4:W.heap[w0.heap.size]?=some (.cells #[.int .i64 ba,tva] TSz (0,0)):=by rw [← hW];simp (disch:=try exact DI) only [↓PR,QR,simprocAttr]
 have o5:W.heap[w0.heap.size+1]?=some (.cells #[.int .i64 bb,tvb] TSz (0,0)):=by rw [← hW];simp (disch:=try exact DI) only [↓PR,QR,simprocAttr]
 clear hW
 by_cases g1:rp.length > 12
 · have d1:decide ((rp.length:Int) > 12)=true:=decide_eq_true (by omega)
   simp (disch:=try exact DI) only [↓PR,QR,simprocAttr,d1,↓n9c47,↓n9c46,↓n9c45]
   exact sx_known hE e0
 have d1:decide ((rp.length:Int) > 12)=false:=decide_eq_false (by omega)
 by_cases g2:mx.length=0
 · have d2:((mx.length:Int) == 0)=true:=by simp [g2]
   simp (disch:=try exact DI) only [↓PR,QR,simprocAttr,d1,d2,↓n9c47,↓n9c46,↓n9c45]
   exact sx_known hE e0
 have d2:((mx.length:Int) == 0)=false:=by rw [beq_eq_false_iff_ne];omega
 simp (disch:=try exact DI) only [↓PR,QR,simprocAttr,d1,d2,↓n9c47,(cells_of_heap o4).1]
 refine zcr (Valid_ret W _ ba ta ⟨tva,rfl,TermsOf.ext hTa e0⟩) fun w1 e1=>?_
 have e01:=e0.trans e1
 cases ha:sizeB ba ta with
 | false =>
  simp (disch:=try exact DI) only [↓PR,QR,simprocAttr,Bool.not_false,↓n9c46,↓n9c45]
  exact sx_known hE e01
 | true =>
 simp (disch:=try exact DI) only [↓PR,QR,simprocAttr,Bool.not_true,↓n9c46,(cells_of_heap (e1.obj o5)).1]
 refine zcr (Valid_ret w1 _ bb tb ⟨tvb,rfl,TermsOf.ext hTb e01⟩) fun w2 e2=>?_
 have e02:=e01.trans e2
 cases hb:sizeB bb tb with
 | false =>
  simp (disch:=try exact DI) only [↓PR,QR,simprocAttr,Bool.not_false,↓n9c45]
  exact sx_known hE e02
 | true =>
 simp (disch:=try exact DI) only [↓PR,QR,simprocAttr,Bool.not_true,↓n9c45]
 refine callK_ret (ranges_ret w2 _ rp (RansOf.ext hV0 e02) (by omega)) ?_
 rintro _ w3 ⟨⟨m,rv,rfl,hm,_⟩,e3⟩
 have e03:=e02.trans e3
 have e13:=(e1.trans e2).trans e3
 have o43:=e13.obj o4
 have o53:=e13.obj o5
 unfold n9c44
 simp (disch:=try exact DI) only [↓PR,QR,simprocAttr]
 have eA:Ext w3 (w3.alloc (.map #[] 0)):=(Ext.refl _).alloc _
 have hA:MapOf (w3.alloc (.map #[] 0)) w3.heap.size []:=MapOf.new w3
 have zA:(w3.alloc (.map #[] 0)).heap.size=w3.heap.size+1:=World.size_alloc ..
 have lm:=hm.lt
 have l4:=(Array.getElem?_eq_some_iff.1 o43).1
 have l5:=(Array.getElem?_eq_some_iff.1 o53).1
 have hmA:=hm.ext eA
 have o4A:=eA.obj o43
 have o5A:=eA.obj o53
 have e0A:=e03.trans eA
 have s0:=e03.size
 generalize w3.alloc (.map #[] 0)=wA at *
 generalize w3.heap.size=mA at *
 have eB:Ext wA (wA.alloc (.map #[] 0)):=(Ext.refl _).alloc _
 have hB:MapOf (wA.alloc (.map #[] 0)) wA.heap.size []:=MapOf.new wA
 have zB:(wA.alloc (.map #[] 0)).heap.size=wA.heap.size+1:=World.size_alloc ..
 have hmB:=hmA.ext eB
 have hAB:=hA.ext eB
 have o4B:=eB.obj o4A
 have o5B:=eB.obj o5A
 have e0B:=e0A.trans eB
 generalize wA.alloc (.map #[] 0)=wB at *
 generalize wA.heap.size=mL at *
 have eC:Ext wB (wB.alloc (.map #[] 0)):=(Ext.refl _).alloc _
 have hC:MapOf (wB.alloc (.map #[] 0)) wB.heap.size []:=MapOf.new wB
 have hmC:=hmB.ext eC
 have hAC:=hAB.ext eC
 have hBC:=hB.ext eC
 have o4C:=eC.obj o4B
 have o5C:=eC.obj o5B
 have e0C:=e0B.trans eC
 generalize wB.alloc (.map #[] 0)=wC at *
 generalize wB.heap.size=mH at *
 refine sx_ranges hE ⟨e0C,o4C,o5C,hmC,hAC,hBC,hC,l4,l5,lm,s0,by omega,by omega⟩ hV0 hM0 (by omega) (by omega) fun w' vA h' hAt=>?_
 exact sx_ends hE h' ha hTa fun w'' vL vH h'' hk hL hH=>sx_all hE h'' hTa hTb ha hb hAt hk hL hH
end Go.Proofs.YtpgkjhikdhdffaaGreatDoor
namespace Go.Proofs.YtpgkjhikdhdffaaGreatDoor
open Sw
open Go.RowKit Go.Deep
open Go.ChangeShapes Go.WideShapes Go.ChangeAt
theorem bytesInt:1≤Pg.bytesOf 3:=Nat.le_of_ble_eq_true (by kernel_rfl)
section
variable {H:Type} {enc:TypeId×Value→H} {w:World} {base:Nat} {spare:Nat→Bool} {held:Bool}
theorem int_of {m:Nat} {cs:List Value} {y:DataW H×List MemPlace} (h:DataW.trod enc Pg w base spare held m 3 cs=some y):∃ x,EInt w cs x:=by
 obtain ⟨k,e1,_⟩:=DataW.trod_int Tryz.underlying3 h
 exact ⟨k,e1⟩
theorem ints_val {r:Reach} {b0:Nat} {v:Value} {d:DataW H} {ps:List MemPlace} (hval:Value.okWide Pg w r b0 66 v) (h:DataW.Trod enc Pg w base spare held 66 v d ps) (hr:Reached Pg 66 d):∃ f:List Int,SliceOf w 1 EInt v f∧True:=by
 obtain ⟨a,len,cap,rfl⟩:=okWide_slice Tryz.underlying66 hval
 obtain ⟨fuel,hf⟩:=h
 obtain ⟨v',l,e1,hS,_,_⟩:=slice_of_trod (E:=EInt) (Q:=fun _=>True) Tryz.underlying66 cellsInt bytesInt (by decide) (fun _ _ _ h hr=>let ⟨x,hx⟩:=int_of h; ⟨x,hx,trivial⟩) hf hr
 have e2:[Value.slice a len cap]=[v']:=e1
 injection e2 with e2 _
 subst e2
 exact ⟨l,hS,trivial⟩
end
theorem SizeExact_at (W:World) (v0:Value) (f0:Int×List TermD) (v1:Value) (f1:Int×List TermD) (v2:Value) (f2:List (ByteArray×Int×Int)) (v3:Value) (f3:List Int) (h0:SizeVal W v0 f0.1 f0.2) (_:True) (h1:SizeVal W v1 f1.1 f1.2) (_:True) (h2:RansOf W v2 f2) (_:True) (h3:SliceOf W 1 EInt v3 f3) (_:True) (hE:EnvOK W):Ret Pg 7 #[v0,v1,v2,v3] W fun r w'=>r = .bool true∧Ext W w':=SizeExact_ret W v0 v1 v2 v3 f0.1 f1.1 f0.2 f1.2 f2 f3 h0 h1 h2 h3 hE
end Go.Proofs.YtpgkjhikdhdffaaGreatDoor
namespace Go.Proofs.YtpgkjhikdhdffaaGreatDoor
open Sw
open Go.ChangeShapes Go.WideShapes Go.RowKit Go.ChangeAt Go.Deep
theorem zexact_lifted (os:Os) (started:os.Started) (H:Type) (enc:TypeId×Value→H) :
 ReturnsInHanded {} Tryz.checked os 7 .any (fun w args=>(Rows.sizeExactSpec.pre enc Pg Tryz.f7 Rows.sizeExactRow.domain false w args∧laidMetH Pg role_laid w)∧sizedMet enc Pg Tryz.f7 (OpenSpec.ofChange Rows.sizeExactSpec) false w args) (Rows.sizeExactSpec.post enc Pg Tryz.f7 false true false false):=by
 refine handed_and (C:=Tryz.checked) (X:=fun w _=>laidMetH Pg role_laid w) (fun _ _ _ hh h=>h.of_heap hh) role_own started (by kernel_rfl) Tryz.func7
  (ChangeSpec.witness_shaped (enc:=enc) (C:=Tryz.checked) (os:=os) (X:=fun w _=>laidMetH Pg role_laid w) false (World.laidAll Pg os role_laid) #[.agg #[.int .i64 0,.slice none 0 0],.agg #[.int .i64 0,.slice none 0 0],.slice none 0 0,.slice none 0 0] 8 (World.laidAll_os _ _ _) (World.shaped_of_ZipB (by kernel_rfl) (by kernel_rfl)) (by kernel_rfl) (by kernel_rfl) (by kernel_rfl) (role_met os _)) ?_
 intro W base args ds gs before hval hW _ hsz hL hsh _
 have hW':=hW
 obtain ⟨p,q,hA0,hV,rfl,_,_⟩:=hW
 have hA:DataW.TrodAll enc Pg W 0 (fun _=>true) true Tryz.f7.params.toList args.toList ds p:=hA0
 rw [Tryz.params7] at hA hval hsz
 obtain ⟨v0,vs0,d0,ds0,p0,q0,ha0,rfl,rfl,h0,r0⟩:=trodAll_cons hA
 obtain ⟨v1,vs1,d1,ds1,p1,q1,ha1,rfl,rfl,h1,r1⟩:=trodAll_cons r0
 obtain ⟨v2,vs2,d2,ds2,p2,q2,ha2,rfl,rfl,h2,r2⟩:=trodAll_cons r1
 obtain ⟨v3,vs3,d3,ds3,p3,q3,ha3,rfl,rfl,h3,r3⟩:=trodAll_cons r2
 obtain ⟨rfl,rfl,rfl⟩:=trodAll_nil r3
 subst ha3 ha2 ha1
 obtain rfl:args = #[v0,v1,v2,v3]:=by cases args;simp_all
 obtain ⟨f0,hf0,hs0⟩:=siz_val (hval 0 _ v0 rfl rfl) h0 (reached_of (j:=0) hsz rfl rfl)
 obtain ⟨f1,hf1,hs1⟩:=siz_val (hval 1 _ v1 rfl rfl) h1 (reached_of (j:=1) hsz rfl rfl)
 obtain ⟨f2,hf2,hs2⟩:=rans_val (hval 2 _ v2 rfl rfl) h2 (reached_of (j:=2) hsz rfl rfl)
 obtain ⟨f3,hf3,hs3⟩:=ints_val (hval 3 _ v3 rfl rfl) h3 (reached_of (j:=3) hsz rfl rfl)
 refine Calls.mono (SizeExact_at W v0 f0 v1 f1 v2 f2 v3 f3 hf0 hs0 hf1 hs1 hf2 hs2 hf3 hs3 (role_env hsh hL)) fun e W' ⟨v,he,hv,hx⟩=>?_
 subst he hv
 exact ⟨_,rfl,law_post role_laidOut (by decide +kernel) rfl hW' hx rfl Tryz.underlying4 rfl rfl rfl⟩
theorem zexact_holds:Rows.SizeExactSaid :=
 OpenClaim.holds_of_wide 7 Tryz.f7 rfl rfl rfl rfl rfl rfl rfl ⟨rfl,rfl,rfl,rfl,rfl⟩ rfl rfl rfl rfl rfl (by kernel_rfl) Tryz.func7 (by kernel_rfl)
  (of_decide_eq_true (by kernel_rfl)) (by unfold Func.isWrapper;first | (rw [if_pos (by decide +kernel)];kernel_rfl) | (rw [if_neg (by decide +kernel)];exact ⟨rfl,rfl⟩))
  (fun os started H enc _=>zexact_lifted os started H enc)
theorem zexact_card:Rows.SizeExactCardSaid :=
 Claim7.holds_tied_plain_at .later [] [.data,.data,.data,.sentinel,.sentinel] true (true, "b28e11fa6ee41b26e56fb3f3301f1cebdb04d4d8f758d2c888fe09ee37c1016c") true
  zexact_holds (fun _ h=>by cases h) (by kernel_rfl) (fun _ h=>by cases h) sizeExact_row_tie rfl ⟨rfl,rfl⟩ (by kernel_rfl) rfl
  (fun f fn hf hfn=>by
   obtain rfl:f=7:=Option.some.inj ((show Pg.funcNamed "phrasebook/phrasebooklaw04.SizeExact" = some 7 by kernel_rfl).symm.trans hf) |>.symm
   obtain rfl:fn=Tryz.f7:=(Option.some.inj (Tryz.func7.symm.trans hfn)).symm
   exact ⟨by kernel_rfl,fun j t ht=>by
    rw [Tryz.params7] at ht
    have hm:t∈[24,24,45,66]:=by simpa using Array.mem_of_getElem? ht
    have hall:([24,24,45,66].all fun u=>!Pg.wantsStandIn u)=true:=by kernel_rfl
    exact (show Pg.wantsStandIn t=false by simpa using List.all_eq_true.1 hall t hm)⟩)
  (by kernel_rfl)
end Go.Proofs.YtpgkjhikdhdffaaGreatDoor
