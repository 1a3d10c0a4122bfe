/-
  phrasebooklaw04.SizeAdds returns true for every two sizes, and leaves its arguments as they were; no condition is asked but that the tables of the library lie as the program lays them (the card ties them).
-/
import Derived.Test.YtpgkjhikdhdffaaGreatDoorVb3
set_option linter.all false
set_option maxHeartbeats 4000000
set_option maxRecDepth 100000
namespace Go.Sw
open Go.ChangeShapes Go.WideShapes Go.RowKit Go.ChangeAt Go.Deep
theorem list_of {α:Type} {p:Nat→α→Prop}:∀ (n:Nat),(∀ i,i < n→∃ x,p i x)→∃ l:List α,l.length=n∧∀ k x,l[k]?=some x→p k x
 | 0,_=>⟨[],rfl,fun k x h=>by simp at h⟩
 | n+1,h=>by
  obtain ⟨l,hl,hp⟩:=list_of n (fun i hi=>h i (by omega))
  obtain ⟨x,hx⟩:=h n (by omega)
  refine ⟨l++[x],by simp [hl],fun k y hy=>?_⟩
  rw [List.getElem?_append] at hy
  split at hy
  · exact hp k y hy
  · have hk:k=n:=by
     have:=(List.getElem?_eq_some_iff.1 hy).1
     simp at this
     omega
    subst hk
    simp [hl] at hy
    subst hy
    exact hx
section
variable {H:Type} {enc:TypeId×Value→H} {P:Program} {w:World} {base:Nat} {spare:Nat→Bool} {held:Bool}
theorem weightsAll_mem {e:TypeId} {m:Nat} {d:DataW H}:∀ {l:List (DataW H)},d∈l→m∈d.weights P e→m∈DataW.weightsAll P e l
 | [],h,_=>by cases h
 | a::l,h,hm=>by
  rw [DataW.weightsAll,List.mem_append]
  rcases List.mem_cons.1 h with rfl | h
  · exact .inl hm
  · exact .inr (weightsAll_mem h hm)
def Reached (P:Program) (t:TypeId) (d:DataW H):Prop:=∀ m∈d.weights P t,m≤reachBytes
theorem reached_of {ts:List TypeId} {ds:List (DataW H)} (h:(DataW.weightsEach P ts ds).all (· ≤ reachBytes)=true) {j:Nat} {t:TypeId} {d:DataW H} (ht:ts[j]?=some t) (hd:ds[j]?=some d):Reached P t d:=fun m hm=>by
 have:=List.all_eq_true.1 h _ (DataW.weights_mem_each ht hd m hm)
 simpa using this
theorem slice_of_trod {α:Type} {E:World→List Value→α→Prop} {Q:α→Prop} {t e:TypeId} {n fuel:Nat} {cs:List Value} {x:DataW H×List MemPlace} (ht:P.underlying t=some (.slice e)) (hn:P.cellsOf e=n) (hb1:1≤P.bytesOf e) (h0:0 < n)
 (hE:∀ m cs' y,DataW.trod enc P w base spare held m e cs'=some y→Reached P e y.1→∃ x,E w cs' x∧Q x) (h:DataW.trod enc P w base spare held fuel t cs=some x) (hr:Reached P t x.1):∃ v l,cs=[v]∧SliceOf w n E v l∧(∀ x∈l,Q x)∧l.length≤140737488355328:=by
 rcases open_slice ht h with ⟨rfl,_⟩ | ⟨a,len,cap,m,k,D,Pl,rfl,hb,hl,hm,hmm,hx,hel⟩
 · exact ⟨_,[],rfl,SliceOf.nil _ _ _,fun x hx=>by (cases hx),Nat.zero_le _⟩
 · have hlm:len≤m:=by rw [hmm];split<;>omega
   subst hx
   have hw0:=hr ((len+(m - len))*P.bytesOf e) (by simp only [DataW.weights,ht];simp)
   have hlen:len≤140737488355328:=by
    have:len*1≤(len+(m - len))*P.bytesOf e:=Nat.mul_le_mul (by omega) hb1
    simp only [reachBytes] at hw0
    omega
   have hD:∀ i,i < len→Reached P e (D i):=fun i hi q hq=>hr q (by
    simp only [DataW.weights,ht,List.mem_cons,List.mem_append]
    exact .inr (.inl (weightsAll_mem (List.mem_map.2 ⟨i,List.mem_range.2 hi,rfl⟩) hq)))
   obtain ⟨l,hll,hp⟩:=list_of (p:=fun i (x:α)=>∃ cs',w.cells? base (a.add (i*n)) n=some cs'∧E w cs' x∧Q x) len (fun i hi=>by
    obtain ⟨cs',h1,h2⟩:=hel i (by omega)
    rw [hn] at h1
    obtain ⟨x,hx⟩:=hE _ _ _ h2 (hD i hi)
    exact ⟨x,cs',h1,hx⟩)
   refine ⟨_,l,rfl,⟨some a,cap,by rw [hll],by rw [hll];exact hl,by simp only [maxLen] at hm;omega,fun hne=>?_⟩,fun x hx=>?_,by omega⟩
   · obtain ⟨b,o,spot⟩:=a
     have hspot:spot=none:=by
      have:0 < l.length:=List.length_pos_iff.2 hne
      obtain ⟨y,hy⟩:=getElem?_lt this
      obtain ⟨cs',h1,_⟩:=hp 0 y hy
      obtain ⟨_,h2,h3⟩:=World.cells?_some h1
      have h4:=h3 0 h0
      rw [List.getElem?_eq_getElem (by omega)] at h4
      simpa [Addr.add] using World.cell?_spot h4
     subst hspot
     refine ⟨b,o,rfl,fun k x hx=>?_⟩
     obtain ⟨cs',h1,h2,_⟩:=hp k x hx
     obtain ⟨_,h3,h4⟩:=World.cells?_some h1
     refine ⟨cs',h3,fun j v hv=>?_,h2⟩
     have h5:=h4 j (by have:=(List.getElem?_eq_some_iff.1 hv).1;omega)
     rw [hv] at h5
     simpa [Addr.add_lit] using h5
   · obtain ⟨k,hk⟩:=List.getElem?_of_mem hx
     obtain ⟨_,_,_,hq⟩:=hp k x hk
     exact hq
theorem struct_of_trod {fs:Array Field} {t:TypeId} {n fuel:Nat} {cs:List Value} {x:DataW H×List MemPlace} (ht:P.underlying t=some (.struct fs)) (hn:P.cellsOf t=n) (h:DataW.trod enc P w base spare held fuel t cs=some x) (hr:Reached P t x.1) :
 cs.length=n∧∃ m,∀ (i:Nat) (ty off k:Nat),(fs[i]?).map (fun f=>(f.type,f.offset))=some (ty,off)→P.cellsOf ty=k→∃ y,DataW.trod enc P w base spare held m ty ((cs.drop off).take k)=some y∧Reached P ty y.1:=by
 obtain ⟨xs,m,_,rfl,hl,hlen,hf⟩:=DataW.trod_struct ht h
 refine ⟨hl.trans hn,m,fun i ty off k hi hk=>?_⟩
 obtain ⟨f,hfi,he⟩:=Option.map_eq_some_iff.1 hi
 injection he with h1 h2
 subst h1 h2 hk
 have hil:i < xs.length:=by rw [hlen];exact (Array.getElem?_eq_some_iff.1 hfi).1
 refine ⟨xs[i],(hf i f hfi).trans (List.getElem?_eq_getElem hil),fun q hq=>hr q ?_⟩
 simp only [DataW.weights,ht]
 refine DataW.weights_mem_each (j:=i) (t:=f.type) (d:=xs[i].1) ?_ ?_ q hq
 · rw [List.getElem?_map,Array.getElem?_toList,hfi];rfl
 · rw [List.getElem?_map,List.getElem?_eq_getElem hil];rfl
theorem trodAll_stays (hl:laidOutB P=true) {W W':World} (he:Ext W W'):∀ {ts:List TypeId} {vs:List Value} {ds:List (DataW H)} {ps:List MemPlace},(∀ t∈ts,P.readableRec t=true∧t < P.types.size)→(∀ x∈ps,x.block < W.heap.size) →
 DataW.TrodAll enc P W 0 (fun _=>true) true ts vs ds ps→DataW.TrodAll enc P W' 0 (fun b=>decide (b < W.heap.size)) true ts vs ds ps
 | [],_,_,_,_,_,h=>by obtain ⟨rfl,rfl,rfl⟩:=trodAll_nil h;exact trodAll_mk0
 | t::ts,_,_,_,hr,hlt,h=>by
  obtain ⟨v,vs1,d,ds1,a,b,rfl,rfl,rfl,h1,h2⟩:=trodAll_cons h
  refine ⟨a,b,?_,trodAll_stays hl he (fun t ht=>hr t (List.mem_cons_of_mem _ ht)) (fun x hx=>hlt x (List.mem_append_right _ hx)) h2,rfl⟩
  exact Below.trod hl (hr t (List.mem_cons_self ..)).1 (hr t (List.mem_cons_self ..)).2 h1 ⟨he.os,he.tape,he.output,he.size,he.block⟩ (fun x hx=>hlt x (List.mem_append_left _ hx))
theorem law_post {f:Func} {s:ChangeSpec} {W W':World} {args:Array Value} {ds gs:List (DataW H)} {before:List MemPlace} {tb:TypeId} (hl:laidOutB P=true) (hr:∀ t∈f.params.toList,P.readableRec t=true∧t < P.types.size) (hs:s.vars=[])
 (hW:DataW.Whole enc P f.params.toList s.vars false W args.toList ds gs before) (he:Ext W W') (hres:f.resultTypes = #[tb]) (htb:P.underlying tb=some .bool) (hfn:(s.fn H ds).results=[.lit (.bool true)]) (hargs:(s.fn H ds).args=ds) (hvars:(s.fn H ds).vars=[]) :
 s.post enc P f false true false false W args (.bool true) W':=by
 have hW':=hW
 obtain ⟨p,q,hA,hV,rfl,_,_⟩:=hW
 rw [hs] at hV
 obtain ⟨rfl,rfl⟩:=trodVars_none hV
 have hlt:∀ x∈p,x.block < W.heap.size:=fun x hx=>hW'.lt x (by simpa using hx)
 rw [List.append_nil] at hW'
 refine ⟨ds,[],p,[],p,[],hW',?_,?_,?_,Below.frame ⟨he.os,he.tape,he.output,he.size,he.block⟩ _,fun h=>by cases h⟩
 · rw [List.append_nil,hfn,hres]
   exact trodAll_mk1 (shut_bool htb _)
 · rw [List.append_nil,hargs]
   exact trodAll_stays hl he hr hlt hA
 · rw [List.append_nil,hvars,hs]
   exact rfl
end
end Go.Sw
namespace Go.Proofs.YtpgkjhikdhdffaaGreatDoor
open Sw
open Go.RowKit Go.Deep
def role_laid:List (String×DataW Unit):=[("math/bits.deBruijn32tab", Rows.laid_math_bits_deBruijn32tab),("math/bits.deBruijn64tab", Rows.laid_math_bits_deBruijn64tab),("internal/strconv.uint64pow10", Rows.laid_internal_strconv_uint64pow10),("strconv.ErrRange", Rows.laid_strconv_ErrRange),("strconv.ErrSyntax", Rows.laid_strconv_ErrSyntax)]
theorem role_own:ownKnob Pg.godebug=none:=by kernel_rfl
theorem role_laidOut:laidOutB Pg=true:=by kernel_rfl
theorem role_met (os:Os) (args:Array Value):laidMetH Pg role_laid ((World.laidAll Pg os role_laid).forCall (fun _ _=>0) ⟨#[],args,[]⟩).memory:=by
 rw [MakeChecks.laidMetH_plain _ _ _ (by kernel_rfl)]
 exact laidMet_laidAll _ (by kernel_rfl) (by kernel_rfl)
theorem role_tab {W:World} (h:laidMetH Pg role_laid W):TabOK W:=by
 rw [MakeChecks.laidMetH_plain _ _ _ (by kernel_rfl)] at h
 have h3:=laidMet.tail (laidMet.tail h)
 have he:(Rows.laid_internal_strconv_uint64pow10:DataW Unit)=Go.Lib.tabData .u64 Go.Lib.pow10Tab:=by kernel_rfl
 rw [he] at h3
 obtain ⟨g,hg⟩:=Option.isSome_iff_exists.1 gPow
 have hty:(Pg.globals[g]?).map (·.type)=some 178:=by
  have h1:(Pg.globalNamed "internal/strconv.uint64pow10").bind (fun g=>(Pg.globals[g]?).map (·.type))=some 178:=by kernel_rfl
  rw [hg] at h1
  exact h1
 exact Go.Lib.tabIs_of_head hg hty Tryz.underlying178 Tryz.underlying146 (by kernel_rfl) (by kernel_rfl) h3
theorem role_star : "*" ++ "errors.errorString" = "*errors.errorString" := by decide
theorem role_rowErr (u:TypeId) (h:Pg.typeName? 3 u=some "*errors.errorString"):u=166 :=
 typeName_ptr_named (nm := "errors.errorString") (by rw [role_star];kernel_rfl) (by kernel_rfl) (by decide) u (by rw [role_star];exact h)
theorem role_env {W:World} (hs:W.ShapedOpen Pg) (h:laidMetH Pg role_laid W):EnvOK W:=by
 refine ⟨role_tab h,Go.Proofs.cell_of_shapedOpen_int (k := .i64) hs (of_decide_eq_true (by kernel_rfl)) (zero := #[.int .i64 0]) (t:=3) (by kernel_rfl) rfl (by kernel_rfl) (by kernel_rfl) Tryz.underlying3,?_,?_⟩
 · rw [MakeChecks.laidMetH_plain _ _ _ (by kernel_rfl)] at h
   have h5:=h.tail.tail.tail.tail
   obtain ⟨a,s,hv,_⟩:=laid_sentinel (g:=1) h5 (by kernel_rfl) (by kernel_rfl) Tryz.underlying107 role_rowErr Tryz.underlying166 Tryz.underlying168 rfl rfl Tryz.underlying9 (by kernel_rfl) (by kernel_rfl)
   refine ⟨_,by rw [World.var?_cell (show Pg.globalNamed "strconv.ErrSyntax" = some 1 by kernel_rfl) hv 0];rfl,.inr ⟨_,_,rfl⟩⟩
 · rw [MakeChecks.laidMetH_plain _ _ _ (by kernel_rfl)] at h
   have h5:=h.tail.tail.tail
   obtain ⟨a,s,hv,_⟩:=laid_sentinel (g:=2) h5 (by kernel_rfl) (by kernel_rfl) Tryz.underlying107 role_rowErr Tryz.underlying166 Tryz.underlying168 rfl rfl Tryz.underlying9 (by kernel_rfl) (by kernel_rfl)
   refine ⟨_,by rw [World.var?_cell (show Pg.globalNamed "strconv.ErrRange" = some 2 by kernel_rfl) hv 0];rfl,.inr ⟨_,_,rfl⟩⟩
theorem handed_and {H:Type} {enc:TypeId×Value→H} {a:Assume} {C:Checked} {os:Os} {f:FuncId} {fn:Func} {s:ChangeSpec} {conds:List PathCond} {apart fresh handsOn again:Bool} {X:World→Array Value→Prop}
 (hX:∀ (w w':World) (args:Array Value),w.heap=w'.heap→X w args→X w' args)
 (own:ownKnob C.prog.godebug=none) (started:os.Started) (noInit:C.prog.inits.idxOf? f=none) (hfn:C.prog.funcs[f]?=some fn)
 (witness:∃ (w:World) (tape:Tape) (i:Input),w.os=os∧(w.forCall tape i).Shaped C.prog∧i.vars=[]∧Input.okWide C.prog (w.forCall tape i) .any w.heap.size f i ∧
  ((s.pre enc C.prog fn conds apart (w.forCall tape i).memory i.args∧X (w.forCall tape i).memory i.args)∧sizedMet enc C.prog fn (OpenSpec.ofChange s) apart (w.forCall tape i).memory i.args)∧a.holds C.prog (lone (Frame.enter C.prog f i.args .normal) [] (w.forCall tape i)))
 (contract:∀ (W:World) (base:Nat) (args:Array Value) (ds gs:List (DataW H)) (before:List MemPlace),
  (∀ (j:Nat) t v,fn.params[j]?=some t→args[j]?=some v→Value.okWide C.prog W .any base t v) →
  DataW.Whole enc C.prog fn.params.toList s.vars apart W args.toList ds gs before →
  conds.all (PathCond.test C.prog ⟨fn.params.toList,ds,s.plain.varTypes C.prog,gs⟩)=true →
  (DataW.weightsEach C.prog (fn.params.toList++s.plain.varTypes C.prog) (ds++gs)).all (· ≤ reachBytes)=true→X W args→W.ShapedOpen C.prog →
  a.holds C.prog (lone (Frame.enter C.prog f args .normal) [] W) →
  Calls C.prog f args W fun e W'=>∃ v,e = .returned v∧s.post enc C.prog fn apart fresh handsOn again W args v W') :
 ReturnsInHanded a C os f .any (fun w args=>(s.pre enc C.prog fn conds apart w args∧X w args)∧sizedMet enc C.prog fn (OpenSpec.ofChange s) apart w args) (s.post enc C.prog fn apart fresh handsOn again):=by
 refine returnsInHanded_of_calls own started noInit witness ?_
 intro w tape i _ hsh _ hok hpre hholds
 obtain ⟨_,_,_,fn',hfn',_,_,_,_,hval⟩:=hok
 have e:fn'=fn:=Option.some.inj (hfn'.symm.trans hfn)
 subst e
 obtain ⟨⟨⟨ds,gs,before,hw,hc⟩,hx⟩,hz⟩:=hpre
 have hw':=DataW.Whole.of_heap (w':=w.forCall tape i) (by rfl) hw
 refine (contract (w.forCall tape i) w.heap.size i.args ds gs before hval hw' hc (hz.weights hw) (hX _ _ _ (by rfl) hx) hsh hholds).mono fun e W' ⟨v,he,hp⟩=>?_
 subst he
 exact ChangeSpec.post_blind hp
open Go.ChangeShapes Go.WideShapes Go.ChangeAt
theorem cellsTerm:Pg.cellsOf 32=2:=by kernel_rfl
theorem cellsSize:Pg.cellsOf 24=2:=by kernel_rfl
theorem cellsString:Pg.cellsOf 9=1:=by kernel_rfl
theorem cellsInt:Pg.cellsOf 3=1:=by kernel_rfl
theorem cellsTerms:Pg.cellsOf 22=1:=by kernel_rfl
theorem bytesTerm:1≤Pg.bytesOf 32:=Nat.le_of_ble_eq_true (by kernel_rfl)
section
variable {H:Type} {enc:TypeId×Value→H} {w:World} {base:Nat} {spare:Nat→Bool} {held:Bool}
theorem term_of {m:Nat} {cs:List Value} {y:DataW H×List MemPlace} (h:DataW.trod enc Pg w base spare held m 32 cs=some y) (hr:Reached Pg 32 y.1):∃ x,ETerm w cs x:=by
 obtain ⟨hl,n,hf⟩:=struct_of_trod Tryz.underlying32 cellsTerm h hr
 obtain ⟨y0,h0,r0⟩:=hf 0 9 0 1 rfl cellsString
 obtain ⟨y1,h1,r1⟩:=hf 1 3 1 1 rfl cellsInt
 match cs,hl with
 | [c0,c1],_ =>
  obtain ⟨s,e0,_⟩:=DataW.trod_string Tryz.underlying9 h0
  obtain ⟨k,e1,_⟩:=DataW.trod_int Tryz.underlying3 h1
  simp at e0 e1
  subst e0 e1
  exact ⟨⟨s,k⟩,rfl⟩
theorem size_of {m:Nat} {cs:List Value} {y:DataW H×List MemPlace} (h:DataW.trod enc Pg w base spare held m 24 cs=some y) (hr:Reached Pg 24 y.1):∃ b tv ts,cs=[.int .i64 b,tv]∧TermsOf w tv ts∧ts.length≤140737488355328:=by
 obtain ⟨hl,n,hf⟩:=struct_of_trod Tryz.underlying24 cellsSize h hr
 obtain ⟨y0,h0,r0⟩:=hf 0 3 0 1 rfl cellsInt
 obtain ⟨y1,h1,r1⟩:=hf 1 22 1 1 rfl cellsTerms
 match cs,hl with
 | [c0,c1],_ =>
  obtain ⟨a,e0,_⟩:=DataW.trod_int Tryz.underlying3 h0
  obtain ⟨v,l,e1,hS,_,hL⟩:=slice_of_trod (E:=ETerm) (Q:=fun _=>True) Tryz.underlying22 cellsTerm bytesTerm (by decide) (fun _ _ _ h hr=>let ⟨x,hx⟩:=term_of h hr; ⟨x,hx,trivial⟩) h1 r1
  simp at e0 e1
  subst e0 e1
  exact ⟨a,_,l,rfl,hS,hL⟩
theorem siz_val {r:Reach} {b0:Nat} {v:Value} {d:DataW H} {ps:List MemPlace} (hval:Value.okWide Pg w r b0 24 v) (h:DataW.Trod enc Pg w base spare held 24 v d ps) (hr:Reached Pg 24 d):∃ f:Int×List TermD,SizeVal w v f.1 f.2∧True:=by
 obtain ⟨cs,rfl,_⟩:=okWide_struct Tryz.underlying24 hval
 obtain ⟨fuel,hf⟩:=h
 obtain ⟨b,tv,ts,h1,h2,_⟩:=size_of hf hr
 exact ⟨(b,ts),⟨tv,congrArg Value.agg (by rw [← Array.toArray_toList (xs := #[.int .i64 b,tv]),← h1,cells_agg]),h2⟩,trivial⟩
end
end Go.Proofs.YtpgkjhikdhdffaaGreatDoor
namespace Go.Proofs.YtpgkjhikdhdffaaGreatDoor
open Sw
open Go.RowKit (intOf Below)
def normP (base:Int) (ts:List TermD):Int×List TermD×Int:=addP base ts 0 []
theorem Normal_ret (w0:World) (v:Value) (base:Int) (ts:List TermD) (hs:SizeVal w0 v base ts) (hl:ts.length≤400) :
 Ret Pg 30 #[v] w0 fun u w'=>(∃ tv,u = .tuple #[.agg #[.int .i64 (normP base ts).1,tv],.int .i64 (normP base ts).2.2]∧OwnE w' w0.heap.size TTm 2 termCells tv (normP base ts).2.1)∧Ext w0 w':=by
 obtain ⟨tv,rfl,hT⟩:=hs
 have h1:=SliceOf.oneCell hT
 show Calls _ _ _ _ (AddR w0 (normP base ts))
 refine n39s ?_
 unfold n39
 simp (disch:=try exact DI) only [↓PR,QR,simprocAttr]
 generalize hW:World.alloc (World.alloc w0 _) _=W
 have e0:Ext w0 W:=by rw [← hW];exact ee
 have o3:W.heap[w0.heap.size+1]?=some (.cells #[.int .i64 0,.slice none 0 0] TSz (0,0)):=by rw [← hW];simp (disch:=try exact DI) only [↓PR,QR,simprocAttr]
 have hz:W.heap.size=w0.heap.size+1+1:=by rw [← hW];simp
 clear hW
 refine callK_ret (Add_ret W _ _ base 0 ts [] ⟨_,rfl,TermsOf.ext hT e0⟩ ⟨_,rfl,SliceOf.nil _ _ _⟩ hl (by decide)) ?_
 rintro _ w1 ⟨⟨tx,rfl,hx⟩,e1⟩
 have o4:=e1.obj o3
 have h2:=SliceOf.oneCell (own_terms hx)
 unfold n39c1
 simp (disch:=try exact DI) only [↓PR,QR,simprocAttr,(cells_of_heap o4).1,(cells_of_heap o4).2]
 refine ⟨⟨_,rfl,OwnE.base (OwnE.keep hx fun g hg=>?_) (by omega)⟩,((e0.trans e1).setCell (p:=⟨w0.heap.size+1,0,none⟩) (Nat.le_succ _) _).setCell (p:=⟨w0.heap.size+1,1,none⟩) (Nat.le_succ _) _⟩
 have:=(World.ownsRow.lt hx g hg).1
 rw [Only.setCell _ (w0.heap.size+1) _ _ g (by omega),Only.setCell _ (w0.heap.size+1) _ _ g (by omega)]
def n16c1 (t3 t6 t7 t9:Value) (C8:World→Prop) (K7:KV) (R:RT) (w:World):Prop :=
 qV Pg C8 (Instr.fieldAt 24 t6 1) fun t59 =>
 qV Pg C8 (Instr.loadAt 22 t59) fun t60 =>
 qV Pg C8 (Instr.fieldAt 24 t6 1) fun t62 =>
 qV Pg C8 (Instr.loadAt 22 t62) fun t63 =>
 qV Pg C8 (Instr.indexAt 22 t63 t9) fun t65 =>
 qV Pg C8 (Instr.fieldAt 32 t65 1) fun t66 =>
 qV Pg C8 (Instr.loadAt 3 t66) fun t67 =>
 qV Pg C8 (Instr.fieldAt 24 t3 1) fun t68 =>
 qV Pg C8 (Instr.loadAt 22 t68) fun t69 =>
 qV Pg C8 (Instr.indexAt 22 t69 t7) fun t71 =>
 qV Pg C8 (Instr.fieldAt 32 t71 1) fun t72 =>
 qV Pg C8 (Instr.loadAt 3 t72) fun t73 =>
 qV Pg C8 (binS .add 3 false t67 t73) fun t74 =>
 qV Pg C8 (Instr.indexAt 22 t60 t9) fun t75 =>
 qV Pg C8 (Instr.fieldAt 32 t75 1) fun t76 =>
 opU Pg (Instr.storeAt 3 t76 t74) (panK R) w fun w =>
 turnK w fun C9 w =>
 K7 (.bool true) w
def n16c2 (t2 t3 t6 t7 t8 t9:Value) (C6:World→Prop) (next5:KW) (R:RT) (w:World):Prop :=
 qV Pg C6 (Instr.fieldAt 24 t2 1) fun t46 =>
 qV Pg C6 (Instr.loadAt 22 t46) fun t47 =>
 qV Pg C6 (Instr.indexAt 22 t47 t9) fun t49 =>
 qV Pg C6 (Instr.fieldAt 32 t49 0) fun t50 =>
 qV Pg C6 (Instr.loadAt 9 t50) fun t51 =>
 qV Pg C6 (Instr.fieldAt 24 t3 1) fun t52 =>
 qV Pg C6 (Instr.loadAt 22 t52) fun t53 =>
 qV Pg C6 (Instr.indexAt 22 t53 t7) fun t55 =>
 qV Pg C6 (Instr.fieldAt 32 t55 0) fun t56 =>
 qV Pg C6 (Instr.loadAt 9 t56) fun t57 =>
 qV Pg C6 (binS .eql 9 false t51 t57) fun t58 =>
 joinK (fun (t8:Value) (w:World) =>
 opV Pg (binS .add 3 true t9 (.int .i64 1)) (panK R) w fun t45 w =>
 next5 t8 t45 w) fun K7 =>
 condP t58 (
 drawK w fun C8 w =>
 n16c1 t3 t6 t7 t9 C8 K7 R w) (
 K7 t8 w)
def n16c3 (t6 t80 t86:Value) (C11:World→Prop) (K10:World→Prop) (R:RT) (w:World):Prop :=
 opV Pg (Builtin.append_ #[22,22] 22 #[t80,t86]) (panK R) w fun t87 w =>
 C11 w∧(
 qV Pg C11 (Instr.fieldAt 24 t6 1) fun t88 =>
 opU Pg (Instr.storeAt 22 t88 t87) (panK R) w fun w =>
 turnK w fun C12 w =>
 K10 w)
def n16c4 (t3 t6 t7:Value) (C11:World→Prop) (K10:World→Prop) (R:RT) (w:World):Prop :=
 qV Pg C11 (Instr.fieldAt 24 t6 1) fun t79 =>
 qV Pg C11 (Instr.loadAt 22 t79) fun t80 =>
 qV Pg C11 (Instr.fieldAt 24 t3 1) fun t81 =>
 qV Pg C11 (Instr.loadAt 22 t81) fun t82 =>
 qV Pg C11 (Instr.indexAt 22 t82 t7) fun t84 =>
 qV Pg C11 (Instr.loadAt 32 t84) fun t85 =>
 opV Pg (Instr.buildSlice 22 1 #[(0,t85)]) (panK R) w fun t86 w =>
 C11 w∧(
 n16c3 t6 t80 t86 C11 K10 R w)
def n16c5 (t3 t6 t7 t8:Value) (next4:KV) (R:RT) (w:World):Prop :=
 opV Pg (Op.unary .not t8) (panK R) w fun t78 w =>
 joinK (fun (w:World) =>
 opV Pg (binS .add 3 true t7 (.int .i64 1)) (panK R) w fun t38 w =>
 next4 t38 w) fun K10 =>
 condP t78 (
 drawK w fun C11 w =>
 n16c4 t3 t6 t7 C11 K10 R w) (
 K10 w)
def n16c6 (t2 t3 t6 t7 t8 t9:Value) (next4:KV) (next5:KW) (R:RT) (w:World):Prop :=
 opV Pg (Instr.fieldAt 24 t2 1) (panK R) w fun t40 w =>
 opV Pg (Instr.loadAt 22 t40) (panK R) w fun t41 w =>
 opV Pg (Builtin.len_ #[22] 3 #[t41]) (panK R) w fun t42 w =>
 opV Pg (binS .lss 3 false t9 t42) (panK R) w fun t43 w =>
 condP t43 (
 drawK w fun C6 w =>
 n16c2 t2 t3 t6 t7 t8 t9 C6 next5 R w) (
 n16c5 t3 t6 t7 t8 next4 R w)
def n16c7 (t6 t11 t12:Value) (next13:KW) (R:RT) (w:World):Prop :=
 joinK (fun (t129:Value) (w:World) =>
 pickK t11 (.bool true) t129 fun t130 =>
 opV Pg (binS .add 3 true t12 (.int .i64 1)) (panK R) w fun t102 w =>
 next13 t130 t102 w) fun K15 =>
 guardP t11 false (
 opV Pg (Instr.fieldAt 24 t6 1) (panK R) w fun t122 w =>
 opV Pg (Instr.loadAt 22 t122) (panK R) w fun t123 w =>
 opV Pg (Instr.indexAt 22 t123 t12) (panK R) w fun t125 w =>
 opV Pg (Instr.fieldAt 32 t125 1) (panK R) w fun t126 w =>
 opV Pg (Instr.loadAt 3 t126) (panK R) w fun t127 w =>
 callK Pg 48 #[t127] (panK R) w fun t128 w =>
 opV Pg (Op.unary .not t128) (panK R) w fun t129 w =>
 K15 t129 w) (
 K15 undef w)
def n16c8 (t10 t111 t117:Value) (C16:World→Prop) (K14:World→Prop) (R:RT) (w:World):Prop :=
 opV Pg (Builtin.append_ #[22,22] 22 #[t111,t117]) (panK R) w fun t118 w =>
 C16 w∧(
 qV Pg C16 (Instr.fieldAt 24 t10 1) fun t119 =>
 opU Pg (Instr.storeAt 22 t119 t118) (panK R) w fun w =>
 turnK w fun C17 w =>
 K14 w)
def n16c9 (t6 t10 t12:Value) (C16:World→Prop) (K14:World→Prop) (R:RT) (w:World):Prop :=
 qV Pg C16 (Instr.fieldAt 24 t10 1) fun t110 =>
 qV Pg C16 (Instr.loadAt 22 t110) fun t111 =>
 qV Pg C16 (Instr.fieldAt 24 t6 1) fun t112 =>
 qV Pg C16 (Instr.loadAt 22 t112) fun t113 =>
 qV Pg C16 (Instr.indexAt 22 t113 t12) fun t115 =>
 qV Pg C16 (Instr.loadAt 32 t115) fun t116 =>
 opV Pg (Instr.buildSlice 22 1 #[(0,t116)]) (panK R) w fun t117 w =>
 C16 w∧(
 n16c8 t10 t111 t117 C16 K14 R w)
def n16c10 (t4:Value) (R:RT) (w:World):Prop :=
 opV Pg (Instr.build 24 #[]) (panK R) w fun t137 w =>
 opU Pg (Instr.storeAt 24 t4 t137) (panK R) w fun w =>
 qW Pg 24 t4 w fun r0 =>
 R (.returned (.tuple #[r0,(.int .i64 7)])) w
def n16c11 (t4 t10:Value) (R:RT) (w:World):Prop :=
 opV Pg (Instr.loadAt 24 t10) (panK R) w fun t138 w =>
 callK Pg 34 #[t138] (panK R) w fun t139 w =>
 opU Pg (Instr.storeAt 24 t4 t139) (panK R) w fun w =>
 qW Pg 24 t4 w fun r0 =>
 R (.returned (.tuple #[r0,(.int .i64 0)])) w
def n16c12 (t4:Value) (R:RT) (w:World):Prop :=
 opV Pg (Instr.build 24 #[]) (panK R) w fun t132 w =>
 opU Pg (Instr.storeAt 24 t4 t132) (panK R) w fun w =>
 qW Pg 24 t4 w fun r0 =>
 R (.returned (.tuple #[r0,(.int .i64 3)])) w
def n16c13 (t4 t10:Value) (R:RT) (w:World):Prop :=
 opV Pg (Instr.fieldAt 24 t10 1) (panK R) w fun t133 w =>
 opV Pg (Instr.loadAt 22 t133) (panK R) w fun t134 w =>
 opV Pg (Builtin.len_ #[22] 3 #[t134]) (panK R) w fun t135 w =>
 opV Pg (binS .gtr 3 true t135 (.int .i64 4)) (panK R) w fun t136 w =>
 condP t136 (
 n16c10 t4 R w) (
 n16c11 t4 t10 R w)
def n16c14 (t6 t10 t11 t12:Value) (next13:KW) (R:RT) (w:World):Prop :=
 opV Pg (Instr.fieldAt 24 t6 1) (panK R) w fun t103 w =>
 opV Pg (Instr.loadAt 22 t103) (panK R) w fun t104 w =>
 opV Pg (Instr.indexAt 22 t104 t12) (panK R) w fun t106 w =>
 opV Pg (Instr.fieldAt 32 t106 1) (panK R) w fun t107 w =>
 opV Pg (Instr.loadAt 3 t107) (panK R) w fun t108 w =>
 opV Pg (binS .neq 3 true t108 (.int .i64 0)) (panK R) w fun t109 w =>
 joinK (fun (w:World) =>
 n16c7 t6 t11 t12 next13 R w) fun K14 =>
 condP t109 (
 drawK w fun C16 w =>
 n16c9 t6 t10 t12 C16 K14 R w) (
 K14 w)
def n16c15 (t4 t6 t10 t11 t12:Value) (next13:KW) (R:RT) (w:World):Prop :=
 opV Pg (Instr.fieldAt 24 t6 1) (panK R) w fun t97 w =>
 opV Pg (Instr.loadAt 22 t97) (panK R) w fun t98 w =>
 opV Pg (Builtin.len_ #[22] 3 #[t98]) (panK R) w fun t99 w =>
 opV Pg (binS .lss 3 false t12 t99) (panK R) w fun t100 w =>
 condP t100 (
 n16c14 t6 t10 t11 t12 next13 R w) (
 condP t11 (
 n16c12 t4 R w) (
 n16c13 t4 t10 R w))
def n16c16 (t4 t6:Value) (R:RT) (w:World):Prop :=
 opV Pg (Instr.fieldAt 24 t6 0) (panK R) w fun t89 w =>
 opV Pg (Instr.loadAt 3 t89) (panK R) w fun t90 w =>
 opV Pg (Instr.build 24 #[(0,t90)]) (panK R) w fun t91 w =>
 opV Pg (Instr.alloc 24 true (.tuple #[])) (panK R) w fun t10 w =>
 opU Pg (Instr.storeAt 24 t10 t91) (panK R) w fun w =>
 opV Pg (Instr.fieldAt 24 t6 0) (panK R) w fun t92 w =>
 opV Pg (Instr.loadAt 3 t92) (panK R) w fun t93 w =>
 callK Pg 48 #[t93] (panK R) w fun t94 w =>
 opV Pg (Op.unary .not t94) (panK R) w fun t95 w =>
 loop2 (fun t11 t12 w next13 =>
 n16c15 t4 t6 t10 t11 t12 next13 R w) t95 (.int .i64 0) w
def n16c17 (t2 t3 t4 t6 t7:Value) (next4:KV) (R:RT) (w:World):Prop :=
 opV Pg (Instr.fieldAt 24 t3 1) (panK R) w fun t33 w =>
 opV Pg (Instr.loadAt 22 t33) (panK R) w fun t34 w =>
 opV Pg (Builtin.len_ #[22] 3 #[t34]) (panK R) w fun t35 w =>
 opV Pg (binS .lss 3 false t7 t35) (panK R) w fun t36 w =>
 condP t36 (
 loop2 (fun t8 t9 w next5 =>
 n16c6 t2 t3 t6 t7 t8 t9 next4 next5 R w) (.bool false) (.int .i64 0) w) (
 n16c16 t4 t6 R w)
def n16c18 (t26 t30:Value) (C2:World→Prop) (K3:KV) (R:RT) (w:World):Prop :=
 qV Pg C2 (Instr.build 24 #[(0,t26),(1,t30)]) fun t31 =>
 opV Pg (Instr.alloc 24 true (.tuple #[])) (panK R) w fun t6 w =>
 C2 w∧(
 opU Pg (Instr.storeAt 24 t6 t31) (panK R) w fun w =>
 turnK w fun C18 w =>
 K3 t6 w)
def n16c19 (t6 t26 t27 t29:Value) (C2:World→Prop) (K3:KV) (R:RT) (w:World):Prop :=
 opV Pg (Builtin.append_ #[22,22] 22 #[t27,t29]) (panK R) w fun t30 w =>
 C2 w∧(
 qV Pg C2 (Instr.build 24 #[(0,t26),(1,t30)]) fun t31 =>
 opU Pg (Instr.storeAt 24 t6 t31) (panK R) w fun w =>
 turnK w fun C19 w =>
 K3 t6 w)
def n16c20 (t26 t27 t29:Value) (C2:World→Prop) (K3:KV) (R:RT) (w:World):Prop :=
 (
 opV Pg (Builtin.append_ #[22,22] 22 #[t27,t29]) (panK R) w fun t30 w =>
 C2 w∧(
 n16c18 t26 t30 C2 K3 R w))∧(
 opV Pg (Instr.alloc 24 true (.tuple #[])) (panK R) w fun t6 w =>
 C2 w∧(
 n16c19 t6 t26 t27 t29 C2 K3 R w))
def n16c21 (t6 t26 t27 t29:Value) (C2:World→Prop) (K3:KV) (R:RT) (w:World):Prop :=
 opV Pg (Builtin.append_ #[22,22] 22 #[t27,t29]) (panK R) w fun t30 w =>
 C2 w∧(
 qV Pg C2 (Instr.build 24 #[(0,t26),(1,t30)]) fun t31 =>
 opU Pg (Instr.storeAt 24 t6 t31) (panK R) w fun w =>
 turnK w fun C20 w =>
 K3 t6 w)
def n16c22 (t2 t3 t4:Value) (C2:World→Prop) (R:RT) (w:World):Prop :=
 qV Pg C2 (Instr.fieldAt 24 t2 0) fun t22 =>
 qV Pg C2 (Instr.loadAt 3 t22) fun t23 =>
 qV Pg C2 (Instr.fieldAt 24 t3 0) fun t24 =>
 qV Pg C2 (Instr.loadAt 3 t24) fun t25 =>
 qV Pg C2 (binS .add 3 false t23 t25) fun t26 =>
 qV Pg C2 (Instr.fieldAt 24 t2 1) fun t28 =>
 qV Pg C2 (Instr.loadAt 22 t28) fun t29 =>
 joinK (fun (t6:Value) (w:World) =>
 loop1 (fun t7 w next4 =>
 n16c17 t2 t3 t4 t6 t7 next4 R w) (.int .i64 0) w) fun K3 =>
 (
 opV Pg (Instr.buildSlice 22 0 #[]) (panK R) w fun t27 w =>
 C2 w∧(
 n16c20 t26 t27 t29 C2 K3 R w))∧(
 opV Pg (Instr.alloc 24 true (.tuple #[])) (panK R) w fun t6 w =>
 C2 w∧(
 opV Pg (Instr.buildSlice 22 0 #[]) (panK R) w fun t27 w =>
 C2 w∧(
 n16c21 t6 t26 t27 t29 C2 K3 R w)))
def n16c23 (t4:Value) (R:RT) (w:World):Prop :=
 opV Pg (Instr.build 24 #[]) (panK R) w fun t21 w =>
 opU Pg (Instr.storeAt 24 t4 t21) (panK R) w fun w =>
 qW Pg 24 t4 w fun r0 =>
 R (.returned (.tuple #[r0,(.int .i64 2)])) w
def n16c24 (t2 t3 t4 t14:Value) (R:RT) (w:World):Prop :=
 opV Pg (Op.unary .not t14) (panK R) w fun t15 w =>
 joinK (fun (t19:Value) (w:World) =>
 pickK t15 (.bool true) t19 fun t20 =>
 condP t20 (
 n16c23 t4 R w) (
 drawK w fun C2 w =>
 n16c22 t2 t3 t4 C2 R w)) fun K1 =>
 guardP t15 false (
 opV Pg (Instr.loadAt 24 t3) (panK R) w fun t17 w =>
 callK Pg 13 #[t17] (panK R) w fun t18 w =>
 opV Pg (Op.unary .not t18) (panK R) w fun t19 w =>
 K1 t19 w) (
 K1 undef w)
def n16 (t0 t1:Value) (R:RT) (w:World):Prop :=
 opV Pg (Instr.box 24 t0) (panK R) w fun t2 w =>
 opV Pg (Instr.box 24 t1) (panK R) w fun t3 w =>
 opV Pg (Instr.alloc 24 true (.tuple #[])) (panK R) w fun t4 w =>
 opV Pg (Instr.loadAt 24 t2) (panK R) w fun t13 w =>
 callK Pg 13 #[t13] (panK R) w fun t14 w =>
 n16c24 t2 t3 t4 t14 R w
set_option maxHeartbeats 40000000 in
theorem n16s {t0 t1:Value} {R:RT} {w:World} (h:n16 t0 t1 R w):Calls Pg 31 #[t0,t1] w R:=by
 refine yD Tryz.func31 ?_
 refine zs<|zr<|yv h fun _ w h=>yv h fun _ w h=>yv h fun _ w h=>zm<|zn<|zk<|zs<|zs<|sim_regionG<|yG 4<|yv h fun _ w h=>yc h c13 fun _ w h=>yv h fun _ w h=>?_
 refine zm<|zn<|yg1 3 3 false [17,18,19] 19 h (fun _ T hT h=>?_) fun σ w h=>?_
 · refine yv h fun _ w h=>yc h c13 fun _ w h=>yv h fun _ w h=>zn ?_
   exact zt hT h
 refine yG 1<|yp h fun _ h=>zn<|sim_end<|zk<|yC h (fun h=>zs<|zr<|yB h fun _ w h=>yu h fun w h=>zm<|zn<|zk<|sim_ret<|sim_then_ret<|body_retCT rfl rfl rfl h) fun h=>sim_skip<|zk<|zs<|yh [6,22,23,24,25,26,27,28,29,30,31] h fun C hC h=>ye 0 hC h fun _ h=>?_
 refine ye 1 hC h fun _ h=>?_
 refine ye 2 hC h fun _ h=>?_
 refine ye 3 hC h fun _ h=>?_
 refine ye 4 hC h fun _ h=>?_
 refine ye 6 hC h fun _ h=>?_
 refine ye 7 hC h fun _ h=>?_
 refine joinK_elim h (fun K3 hK h=>?_)
 refine sim_dmeet [6,27,30,31] (fun ρ w=>K3 (ρ 6) w) (fun T hT=>?_) (fun σ w h=>?_)
 · obtain ⟨h0,h1⟩:=h
   refine sim_dloud2 5 10 rfl rfl (by kernel_rfl) (fun _ _=>rfl) (fun _ _=>rfl) ?_ ?_
   · have h:=h0
     refine yS h fun _ w h=>zn ?_
     obtain ⟨hC,h⟩:=h
     refine ⟨_,fun _ h=>h,hC,?_⟩
     obtain ⟨h0,h1⟩:=h
     refine sim_dloud2 8 10 rfl rfl (by kernel_rfl) (fun _ _=>rfl) (fun _ _=>rfl) ?_ ?_
     · have h:=h0
       refine yx h fun _ w h=>zn ?_
       obtain ⟨hC,h⟩:=h
       refine ⟨_,fun _ h=>h,hC,?_⟩
       refine ye 9 hC h fun _ h=>?_
       refine yo 10 ?_
       refine yv h fun _ w h=>zn ?_
       obtain ⟨hC,h⟩:=h
       refine ⟨hC,?_⟩
       refine yq 11 1 ?_
       refine yu h fun w h=>zn ?_
       obtain ⟨C18,hC,h⟩:=h
       refine ⟨C18,hC,?_⟩
       refine yz ?_
       exact zt hT h
     have h:=h1
     refine yv h fun _ w h=>zn ?_
     obtain ⟨hC,h⟩:=h
     refine ⟨_,fun _ h=>h,hC,?_⟩
     refine yo 8 ?_
     refine yx h fun _ w h=>zn ?_
     obtain ⟨hC,h⟩:=h
     refine ⟨hC,?_⟩
     refine ye 9 hC h fun _ h=>?_
     refine yq 11 1 ?_
     refine yu h fun w h=>zn ?_
     obtain ⟨C19,hC,h⟩:=h
     refine ⟨C19,hC,?_⟩
     refine yz ?_
     exact zt hT h
   have h:=h1
   refine yv h fun _ w h=>zn ?_
   obtain ⟨hC,h⟩:=h
   refine ⟨_,fun _ h=>h,hC,?_⟩
   refine yo 5 ?_
   refine yS h fun _ w h=>zn ?_
   obtain ⟨hC,h⟩:=h
   refine ⟨hC,?_⟩
   refine yo 8 ?_
   refine yx h fun _ w h=>zn ?_
   obtain ⟨hC,h⟩:=h
   refine ⟨hC,?_⟩
   refine ye 9 hC h fun _ h=>?_
   refine yq 11 1 ?_
   refine yu h fun w h=>zn ?_
   obtain ⟨C20,hC,h⟩:=h
   refine ⟨C20,hC,?_⟩
   refine yz ?_
   exact zt hT h
 subst hK
 refine zk<|zs<|zs<|zr<|zm<|zn<|zk<|sim_block<|yl1 [7,8,9,32,33,34,35,36,37,38,39,40,41,42,43,44,45,46,47,48,49,50,51,52,53,54,55,56,57,58,59,60,61,62,63,64,65,66,67,68,69,70,71,72,73,74,75,76,77,78,79,80,81,82,83,84,85,86,87,88] 7 h fun σ w next h=>zs<|zs<|zr<|zm<|yv h fun _ w h=>yv h fun _ w h=>?_
 refine yx h fun _ w h=>yb h fun _ w h=>zn<|zk<|yC h (fun h=>?_) fun h=>?_
 · refine sim_skip<|zk<|zs<|sim_block<|zs<|zr<|zm<|zn<|zk<|zs<|zs<|zr<|zm<|zn<|zk ?_
   refine sim_block<|yl2 [8,9,39,40,41,42,43,44,45,46,47,48,49,50,51,52,53,54,55,56,57,58,59,60,61,62,63,64,65,66,67,68,69,70,71,72,73,74,75,76] 8 9 h fun σ w next h=>zs<|zs<|zr<|zm<|yv h fun _ w h=>yv h fun _ w h=>yx h fun _ w h=>yb h fun _ w h=>zn<|zk<|yC h (fun h=>?_) fun h=>?_
   · refine sim_skip<|zk<|zs<|sim_block<|zs<|yh [46,47,48,49,50,51,52,53,54,55,56,57,58] h fun C hC h=>ye 0 hC h fun _ h=>?_
     refine ye 1 hC h fun _ h=>?_
     refine yw 2 hC ?_
     refine ye 3 hC h fun _ h=>?_
     refine ye 4 hC h fun _ h=>?_
     refine ye 5 hC h fun _ h=>?_
     refine ye 6 hC h fun _ h=>?_
     refine ye 7 hC h fun _ h=>?_
     refine yw 8 hC ?_
     refine ye 9 hC h fun _ h=>?_
     refine ye 10 hC h fun _ h=>?_
     refine ye 11 hC h fun _ h=>?_
     refine ye 12 hC h fun _ h=>?_
     refine yz<|zk<|yJ1 [8,59,60,61,62,63,64,65,66,67,68,69,70,71,72,73,74,75,76] 8 h (fun _ _ hkK7 h=>?_) fun σ w h=>?_
     · refine yC h (fun h=>?_) fun h=>?_
       · refine zs<|yh [59,60,61,62,63,64,65,66,67,68,69,70,71,72,73,74,75,76] h fun C hC h=>ye 0 hC h fun _ h=>?_
         refine ye 1 hC h fun _ h=>?_
         refine yw 2 hC ?_
         refine ye 3 hC h fun _ h=>?_
         refine ye 4 hC h fun _ h=>?_
         refine yw 5 hC ?_
         refine ye 6 hC h fun _ h=>?_
         refine ye 7 hC h fun _ h=>?_
         refine ye 8 hC h fun _ h=>?_
         refine ye 9 hC h fun _ h=>?_
         refine ye 10 hC h fun _ h=>?_
         refine yw 11 hC ?_
         refine ye 12 hC h fun _ h=>?_
         refine ye 13 hC h fun _ h=>?_
         refine ye 14 hC h fun _ h=>?_
         refine ye 15 hC h fun _ h=>?_
         refine ye 16 hC h fun _ h=>?_
         refine ye 17 hC h fun _ h=>?_
         refine yq 18 2 ?_
         refine yu h fun w h=>zn ?_
         obtain ⟨C9,hC,h⟩:=h
         refine ⟨C9,hC,?_⟩
         refine yz<|zk<|zr<|zm<|zn<|zk ?_
         exact zt hkK7 h
       refine sim_skip<|zk ?_
       exact zt hkK7 h
     exact sim_block_normal<|zk<|zr<|zm<|yb h fun _ w h=>zm<|zn<|zk<|⟨rfl,h⟩
   refine sim_exit<|sim_then_exit<|sim_then_exit<|sim_block_hit<|zk<|zs<|zr<|zm<|yv h fun _ w h=>zn<|zk<|yJ0 [79,80,81,82,83,84,85,86,87,88] h (fun _ _ hkK10 h=>?_) fun σ w h=>?_
   · refine yC h (fun h=>?_) fun h=>?_
     · refine yh [79,80,81,82,83,84,85,86,87,88] h fun C hC h=>ye 0 hC h fun _ h=>?_
       refine ye 1 hC h fun _ h=>?_
       refine ye 2 hC h fun _ h=>?_
       refine ye 3 hC h fun _ h=>?_
       refine yw 4 hC ?_
       refine ye 5 hC h fun _ h=>?_
       refine ye 6 hC h fun _ h=>?_
       refine yo 7 ?_
       refine yS h fun _ w h=>zn ?_
       obtain ⟨hC,h⟩:=h
       refine ⟨hC,?_⟩
       refine yo 8 ?_
       refine yx h fun _ w h=>zn ?_
       obtain ⟨hC,h⟩:=h
       refine ⟨hC,?_⟩
       refine ye 9 hC h fun _ h=>?_
       refine yq 10 1 ?_
       refine yu h fun w h=>zn ?_
       obtain ⟨C12,hC,h⟩:=h
       refine ⟨C12,hC,?_⟩
       refine yz<|zk ?_
       exact zt hkK10 h
     refine sim_skip<|zk ?_
     exact zt hkK10 h
   exact sim_block_normal<|zk<|zr<|zm<|yb h fun _ w h=>zm<|zn<|zk<|⟨rfl,h⟩
 refine sim_exit<|sim_then_exit<|sim_then_exit<|sim_block_hit<|zk<|zs<|zr<|yv h fun _ w h=>yv h fun _ w h=>yB h fun _ w h=>yv h fun _ w h=>yu h fun w h=>zn<|zk<|zs ?_
 refine zr<|yv h fun _ w h=>yv h fun _ w h=>yc h c48 fun _ w h=>yv h fun _ w h=>zm<|zn<|zk<|zs<|zs<|zr<|zm<|zn<|zk<|sim_block ?_
 refine yl2 [11,12,96,97,98,99,100,101,102,103,104,105,106,107,108,109,110,111,112,113,114,115,116,117,118,119,120,121,122,123,124,125,126,127,128,129,130] 11 12 h fun σ w next h=>zs<|zs<|zr<|zm<|yv h fun _ w h=>yv h fun _ w h=>yx h fun _ w h=>yb h fun _ w h=>zn<|zk<|yC h (fun h=>?_) fun h=>?_
 · refine sim_skip<|zk<|zs<|sim_block<|zs<|zs<|zr<|yv h fun _ w h=>yv h fun _ w h=>zm<|yv h fun _ w h=>yv h fun _ w h=>yv h fun _ w h=>yb h fun _ w h=>zn ?_
   refine zk<|yJ0 [110,111,112,113,114,115,116,117,118,119] h (fun _ _ hkK14 h=>?_) fun σ w h=>?_
   · refine yC h (fun h=>?_) fun h=>?_
     · refine yh [110,111,112,113,114,115,116,117,118,119] h fun C hC h=>ye 0 hC h fun _ h=>?_
       refine ye 1 hC h fun _ h=>?_
       refine ye 2 hC h fun _ h=>?_
       refine ye 3 hC h fun _ h=>?_
       refine yw 4 hC ?_
       refine ye 5 hC h fun _ h=>?_
       refine ye 6 hC h fun _ h=>?_
       refine yo 7 ?_
       refine yS h fun _ w h=>zn ?_
       obtain ⟨hC,h⟩:=h
       refine ⟨hC,?_⟩
       refine yo 8 ?_
       refine yx h fun _ w h=>zn ?_
       obtain ⟨hC,h⟩:=h
       refine ⟨hC,?_⟩
       refine ye 9 hC h fun _ h=>?_
       refine yq 10 1 ?_
       refine yu h fun w h=>zn ?_
       obtain ⟨C17,hC,h⟩:=h
       refine ⟨C17,hC,?_⟩
       refine yz<|zk ?_
       exact zt hkK14 h
     refine sim_skip<|zk ?_
     exact zt hkK14 h
   refine zk<|sim_regionG<|yG 2<|zm<|zm<|zn<|yg1 8 1 false [122,123,124,125,126,127,128,129] 129 h (fun _ T hT h=>?_) fun σ w h=>?_
   · refine yv h fun _ w h=>yv h fun _ w h=>zm<|yv h fun _ w h=>yv h fun _ w h=>yv h fun _ w h=>yc h c48 fun _ w h=>yv h fun _ w h=>zn ?_
     exact zt hT h
   exact yG 2<|yp h fun _ h=>zm<|zn<|sim_end<|sim_block_normal<|zk<|zr<|zm<|yb h fun _ w h=>zm<|zn<|zk<|⟨rfl,h⟩
 refine sim_exit<|sim_then_exit<|sim_then_exit<|sim_block_hit<|zk<|zs<|zs<|zr<|zm<|zn<|zk<|yC h (fun h=>zs<|zr<|yB h fun _ w h=>yu h fun w h=>zm<|zn<|zk<|sim_ret<|sim_then_ret<|body_retCT rfl rfl rfl h) fun h=>sim_skip<|zk ?_
 refine zs<|zs<|zr<|yv h fun _ w h=>yv h fun _ w h=>yx h fun _ w h=>yb h fun _ w h=>zn<|zk<|yC h (fun h=>zs<|zr<|yB h fun _ w h=>yu h fun w h=>zm<|zn<|zk<|sim_ret<|sim_then_ret<|body_retCT rfl rfl rfl h) fun h=>sim_skip<|zk<|zs<|zr ?_
 exact yv h fun _ w h=>yc h c34 fun _ w h=>yu h fun w h=>zm<|zn<|zk<|sim_ret<|body_retCT rfl rfl rfl h
def n27c1 (t5 t7 t23 t29:Value) (R:RT) (w:World):Prop :=
 pickK t23 t29 (.bool false) fun t30 =>
 joinK (fun (t36:Value) (w:World) =>
 pickK t30 t36 (.bool false) fun t37 =>
 R (.returned t37) w) fun K2 =>
 guardP t30 true (
 opV Pg (Instr.fieldAt 24 t5 1) (panK R) w fun t32 w =>
 opV Pg (Instr.loadAt 22 t32) (panK R) w fun t33 w =>
 opV Pg (Instr.fieldAt 24 t7 1) (panK R) w fun t34 w =>
 opV Pg (Instr.loadAt 22 t34) (panK R) w fun t35 w =>
 callK Pg 76 #[t33,t35] (panK R) w fun t36 w =>
 K2 t36 w) (
 K2 undef w)
def n27c2 (t5 t7 t22:Value) (R:RT) (w:World):Prop :=
 opV Pg (binS .eql 39 true t22 (.int .i64 0)) (panK R) w fun t23 w =>
 joinK (fun (t29:Value) (w:World) =>
 n27c1 t5 t7 t23 t29 R w) fun K1 =>
 guardP t23 true (
 opV Pg (Instr.fieldAt 24 t5 0) (panK R) w fun t25 w =>
 opV Pg (Instr.loadAt 3 t25) (panK R) w fun t26 w =>
 opV Pg (Instr.fieldAt 24 t7 0) (panK R) w fun t27 w =>
 opV Pg (Instr.loadAt 3 t27) (panK R) w fun t28 w =>
 opV Pg (binS .eql 3 false t26 t28) (panK R) w fun t29 w =>
 K1 t29 w) (
 K1 undef w)
def n27c3 (t5 t13 t16:Value) (R:RT) (w:World):Prop :=
 opV Pg (Instr.extract t16 0) (panK R) w fun t17 w =>
 opV Pg (Instr.extract t16 1) (panK R) w fun t18 w =>
 opV Pg (Instr.alloc 24 true (.tuple #[])) (panK R) w fun t7 w =>
 opU Pg (Instr.storeAt 24 t7 t17) (panK R) w fun w =>
 opV Pg (Instr.buildSlice 132 2 #[(0,t13),(1,t18)]) (panK R) w fun t21 w =>
 callK Pg 75 #[t21] (panK R) w fun t22 w =>
 n27c2 t5 t7 t22 R w
def n27c4 (t3 t11:Value) (R:RT) (w:World):Prop :=
 opV Pg (Instr.extract t11 0) (panK R) w fun t12 w =>
 opV Pg (Instr.extract t11 1) (panK R) w fun t13 w =>
 opV Pg (Instr.alloc 24 true (.tuple #[])) (panK R) w fun t5 w =>
 opU Pg (Instr.storeAt 24 t5 t12) (panK R) w fun w =>
 opV Pg (Instr.loadAt 24 t3) (panK R) w fun t15 w =>
 callK Pg 30 #[t15] (panK R) w fun t16 w =>
 n27c3 t5 t13 t16 R w
def n27 (t0 t1:Value) (R:RT) (w:World):Prop :=
 opV Pg (Instr.box 24 t0) (panK R) w fun t2 w =>
 opV Pg (Instr.box 24 t1) (panK R) w fun t3 w =>
 opV Pg (Instr.loadAt 24 t2) (panK R) w fun t10 w =>
 callK Pg 30 #[t10] (panK R) w fun t11 w =>
 n27c4 t3 t11 R w
theorem n27s {t0 t1:Value} {R:RT} {w:World} (h:n27 t0 t1 R w):Calls Pg 32 #[t0,t1] w R:=by
 refine yD Tryz.func32 ?_
 refine zs<|zr<|yv h fun _ w h=>yv h fun _ w h=>zm<|zn<|zk<|zs<|zr<|yv h fun _ w h=>yc h c30 fun _ w h=>zm<|yv h fun _ w h=>yv h fun _ w h=>yv h fun _ w h=>?_
 refine yu h fun w h=>zm<|zn<|zk<|zs<|zr<|yv h fun _ w h=>yc h c30 fun _ w h=>zm<|yv h fun _ w h=>yv h fun _ w h=>yv h fun _ w h=>yu h fun w h=>zm<|zn ?_
 refine zk<|zs<|sim_regionG<|yG 6<|zm<|zm<|yS h fun _ w h=>yc h c75 fun _ w h=>yb h fun _ w h=>zm<|zn<|yg1 5 5 true [25,26,27,28,29] 29 h (fun _ T hT h=>?_) fun σ w h=>?_
 · refine yv h fun _ w h=>yv h fun _ w h=>yv h fun _ w h=>yv h fun _ w h=>yb h fun _ w h=>zn ?_
   exact zt hT h
 refine yG 2<|yp h fun _ h=>zm<|zn<|yg1 5 12 true [32,33,34,35,36] 36 h (fun _ T hT h=>?_) fun σ w h=>?_
 · refine yv h fun _ w h=>yv h fun _ w h=>yv h fun _ w h=>yv h fun _ w h=>yc h c76 fun _ w h=>zn ?_
   exact zt hT h
 exact yG 2<|yp h fun _ h=>zm<|zn<|sim_end<|zk<|sim_ret<|body_ret1 rfl rfl h
def n17c1 (t2 t3 t6 t9:Value) (C1:World→Prop) (R:RT) (w:World):Prop :=
 pickK t6 t9 (.bool false) fun t10 =>
 joinK (fun (t16:Value) (w:World) =>
 pickK t10 t16 (.bool false) fun t17 =>
 R (.returned t17) w) fun K3 =>
 guardP t10 true (
 qV Pg C1 (Instr.loadAt 24 t2) fun t12 =>
 qV Pg C1 (Instr.loadAt 24 t3) fun t14 =>
 callK Pg 34 #[t12] (panK R) w fun t13 w =>
 C1 w∧(
 callK Pg 34 #[t14] (panK R) w fun t15 w =>
 C1 w∧(
 callK Pg 26 #[t13,t15] (panK R) w fun t16 w =>
 C1 w∧(
 K3 t16 w)))) (
 K3 undef w)
def n17c2 (t2 t3 t6:Value) (C1:World→Prop) (R:RT) (w:World):Prop :=
 joinK (fun (t9:Value) (w:World) =>
 n17c1 t2 t3 t6 t9 C1 R w) fun K2 =>
 guardP t6 true (
 qV Pg C1 (Instr.loadAt 24 t3) fun t8 =>
 callK Pg 13 #[t8] (panK R) w fun t9 w =>
 C1 w∧(
 K2 t9 w)) (
 K2 undef w)
def n17 (t0 t1:Value) (R:RT) (w:World):Prop :=
 opV Pg (Instr.box 24 t0) (panK R) w fun t2 w =>
 opV Pg (Instr.box 24 t1) (panK R) w fun t3 w =>
 drawK w fun C1 w =>
 qV Pg C1 (Instr.loadAt 24 t2) fun t5 =>
 callK Pg 13 #[t5] (panK R) w fun t6 w =>
 C1 w∧(
 n17c2 t2 t3 t6 C1 R w)
theorem n17s {t0 t1:Value} {R:RT} {w:World} (h:n17 t0 t1 R w):Calls Pg 33 #[t0,t1] w R:=by
 refine yD Tryz.func33 ?_
 refine zs<|zr<|yv h fun _ w h=>yv h fun _ w h=>zm<|zn<|zk<|zs<|yh [4,5,6,7,8,9,10,11,12,13,14,15,16,17] h fun C hC h=>ye 0 hC h fun _ h=>?_
 refine yo 1 ?_
 refine yc h c13 fun _ w h=>zn ?_
 obtain ⟨hC,h⟩:=h
 refine ⟨hC,?_⟩
 refine yw 2 hC ?_
 refine yj1 9 [4,3,2,1,0] [8,9] 9 h (fun _ hT hb h=>?_) (fun _ hT hb h=>?_) fun σ w hC h=>?_
 · refine ye 3 hC h fun _ h=>?_
   refine yo 4 ?_
   refine yc h c13 fun _ w h=>zn ?_
   obtain ⟨hC,h⟩:=h
   refine ⟨hC,?_⟩
   exact yt hT hC h
 · refine yi 3 hC ?_
   refine yi 4 hC ?_
   exact yt hT hC h
 refine yP 5 hC h fun _ h=>?_
 refine yw 6 hC ?_
 refine yj1 2 [11,10,8,9,7,6,5,4,3,2,1,0] [12,13,14,15,16] 16 h (fun _ hT hb h=>?_) (fun _ hT hb h=>?_) fun σ w hC h=>?_
 · refine ye 7 hC h fun _ h=>?_
   refine ye 9 hC h fun _ h=>?_
   refine yo 8 ?_
   refine yc h c34 fun _ w h=>zn ?_
   obtain ⟨hC,h⟩:=h
   refine ⟨hC,?_⟩
   refine yo 10 ?_
   refine yc h c34 fun _ w h=>zn ?_
   obtain ⟨hC,h⟩:=h
   refine ⟨hC,?_⟩
   refine yo 11 ?_
   refine yc h c26 fun _ w h=>zn ?_
   obtain ⟨hC,h⟩:=h
   refine ⟨hC,?_⟩
   exact yt hT hC h
 · refine yi 7 hC ?_
   refine yi 9 hC ?_
   refine yi 8 hC ?_
   refine yi 10 hC ?_
   refine yi 11 hC ?_
   exact yt hT hC h
 refine yP 12 hC h fun _ h=>?_
 refine yw 13 hC ?_
 exact yz<|zk<|sim_ret<|body_ret1 rfl rfl h
theorem or_ret (w0:World) (g:Nat) (e f:Int) (hg:w0.heap[g]?=some (.cells #[.int .i64 e,.int .i64 f] 39 (0,0))) :
 Ret Pg 75 #[.slice (some ⟨g,0,none⟩) 2 2] w0 fun r w'=>r = .int .i64 (if e=0 then f else e)∧Ext w0 w':=by
 refine n4s (R:=retR _) ?_;unfold n4
 simp (disch:=try exact DI) only [↓PR,QR,simprocAttr]
 refine loop1_intro (fun a w=>∃ k:Nat,a = .int .i64 (k:Int)∧k≤2∧Ext w0 w∧(0 < k→e=0)∧(1 < k→f=0)) (fun a _=>2 - (intOf a).toNat) ⟨0,rfl,by omega,Ext.refl _,by omega,by omega⟩ ?_
 rintro _ w ⟨k,rfl,hk,ex,h0,h1⟩
 have hw:IntKind.i64.wrap ((k:Int)+1)=((k+1:Nat):Int):=by rw [wrap_ok (by omega) (by omega)];omega
 by_cases hlt:k < 2
 · have d1:decide ((k:Int) < 2)=true:=decide_eq_true (by omega)
   have dk:(k:Int) < 2:=by omega
   have hx:w.cell? ⟨g,k,none⟩=some (.int .i64 (if k=0 then e else f)):=by
    rw [(cells_of_heap (ex.obj hg)).1]
    have:k=0∨k=1:=by omega
    rcases this with rfl | rfl<;>rfl
   simp (disch:=try exact DI) only [↓PR,QR,simprocAttr,↓n4c1,d1,dk,Nat.zero_add,Nat.mul_one,hx,hw]
   by_cases hz:(if k=0 then e else f)=0
   · have hne:((if k=0 then e else f) != 0)=false:=by rw [hz];rfl
     simp (disch:=try exact DI) only [↓PR,QR,simprocAttr,hne,hw]
     refine ⟨⟨k+1,rfl,by omega,ex,fun _=>?_,fun _=>?_⟩,by simp only [intOf,Int.toNat_natCast];omega⟩
     · by_cases hk0:k=0
       · rwa [if_pos hk0] at hz
       · exact h0 (by omega)
     · rwa [if_neg (by omega)] at hz
   · have hne:((if k=0 then e else f) != 0)=true:=by simpa using hz
     simp (disch:=try exact DI) only [↓PR,QR,simprocAttr,hne]
     refine ⟨?_,ex⟩
     by_cases hk0:k=0
     · rw [if_pos hk0] at hz ⊢
       rw [if_neg hz]
     · rw [if_neg hk0,if_pos (h0 (by omega))]
 · obtain rfl:k=2:=by omega
   have d1:decide (((2:Nat):Int) < 2)=false:=rfl
   simp (disch:=try exact DI) only [↓PR,QR,simprocAttr,d1]
   refine ⟨?_,ex⟩
   rw [if_pos (h0 (by omega)),h1 (by omega)]
def equalP (ba:Int) (ta:List TermD) (bb:Int) (tb:List TermD):Bool :=
 decide ((if (normP ba ta).2.2=0 then (normP bb tb).2.2 else (normP ba ta).2.2)=0)&&decide ((normP ba ta).1=(normP bb tb).1)&&decide ((normP ba ta).2.1=(normP bb tb).2.1)
theorem SEqual_ret (w0:World) (va vb:Value) (ba bb:Int) (ta tb:List TermD) (ha:SizeVal w0 va ba ta) (hb:SizeVal w0 vb bb tb) (hla:ta.length≤400) (hlb:tb.length≤400) :
 Ret Pg 32 #[va,vb] w0 fun u w'=>u = .bool (equalP ba ta bb tb)∧Ext w0 w':=by
 obtain ⟨tva,rfl,hTa⟩:=ha
 obtain ⟨tvb,rfl,hTb⟩:=hb
 have h1:=SliceOf.oneCell hTa
 have h2:=SliceOf.oneCell hTb
 unfold equalP
 generalize hna:normP ba ta=na
 generalize hnb:normP bb tb=nb
 refine n27s (R:=retR _) ?_;unfold n27
 simp (disch:=try exact DI) only [↓PR,QR,simprocAttr]
 simp only [World.size_alloc]
 generalize hW:World.alloc (World.alloc w0 _) _=W
 have e0:Ext w0 W:=by rw [← hW];exact ee
 have o3:W.heap[w0.heap.size+1]?=some (.cells #[.int .i64 bb,tvb] TSz (0,0)):=by rw [← hW];simp (disch:=try exact DI) only [↓PR,QR,simprocAttr]
 clear hW
 refine callK_ret (Normal_ret W _ ba ta ⟨tva,rfl,TermsOf.ext hTa e0⟩ hla) ?_
 rintro _ w1 ⟨⟨tx,rfl,hx⟩,e1⟩
 rw [hna] at hx ⊢
 have hx1:=SliceOf.oneCell (own_terms hx)
 unfold n27c4
 have eA:Ext w1 (w1.alloc (.cells #[.int .i64 na.1,tx] TSz)):=(Ext.refl _).alloc _
 have oA:=heap_new w1 #[.int .i64 na.1,tx] TSz
 simp (disch:=try exact DI) only [↓PR,QR,simprocAttr,(cells_of_heap (eA.obj (e1.obj o3))).1]
 have E2:=(e0.trans e1).trans eA
 generalize w1.alloc (.cells #[.int .i64 na.1,tx] TSz)=w2 at *
 generalize w1.heap.size=p5 at *
 refine callK_ret (Normal_ret w2 _ bb tb ⟨tvb,rfl,TermsOf.ext hTb E2⟩ hlb) ?_
 rintro _ w3 ⟨⟨ty,rfl,hy⟩,e3⟩
 rw [hnb] at hy ⊢
 have hy1:=SliceOf.oneCell (own_terms hy)
 unfold n27c3
 have oA3:=e3.obj oA
 have hx3:=(own_terms (hx.ext eA)).ext e3
 have hy3:=own_terms hy
 have E3:=E2.trans e3
 clear e1 hx hy eA e0 o3
 have eB:Ext w3 ((w3.alloc (.cells #[.int .i64 nb.1,ty] TSz)).alloc (.cells #[.int .i64 na.2.2,.int .i64 nb.2.2] 39)):=ee
 have oB:((w3.alloc (.cells #[.int .i64 nb.1,ty] TSz)).alloc (.cells #[.int .i64 na.2.2,.int .i64 nb.2.2] 39)).heap[w3.heap.size]?=some (.cells #[.int .i64 nb.1,ty] TSz (0,0)):=by simp (disch:=try exact DI) only [↓PR,QR,simprocAttr]
 have oC:((w3.alloc (.cells #[.int .i64 nb.1,ty] TSz)).alloc (.cells #[.int .i64 na.2.2,.int .i64 nb.2.2] 39)).heap[w3.heap.size+1]?=some (.cells #[.int .i64 na.2.2,.int .i64 nb.2.2] 39 (0,0)):=by simp (disch:=try exact DI) only [↓PR,QR,simprocAttr]
 simp (disch:=try exact DI) only [↓PR,QR,simprocAttr]
 generalize (w3.alloc (.cells #[.int .i64 nb.1,ty] TSz)).alloc (.cells #[.int .i64 na.2.2,.int .i64 nb.2.2] 39)=w4 at *
 refine zcr (or_ret w4 _ _ _ oC) fun w5 e5=>?_
 have e35:=eB.trans e5
 unfold n27c2
 generalize (if na.2.2=0 then nb.2.2 else na.2.2)=er
 by_cases hz:er=0
 · have d0:(er == 0)=true:=by simpa using hz
   have d0':decide (er=0)=true:=by simpa using hz
   rw [d0']
   simp (disch:=try exact DI) only [↓PR,QR,simprocAttr,d0,(cells_of_heap (e35.obj oA3)).1,(cells_of_heap (e5.obj oB)).1]
   by_cases hbb:na.1=nb.1
   · have d1:(na.1 == nb.1)=true:=by simpa using hbb
     have d1':decide (na.1=nb.1)=true:=by simpa using hbb
     rw [d1']
     simp (disch:=try exact DI) only [↓PR,QR,simprocAttr,d1,↓n27c1,(cells_of_heap (e35.obj oA3)).1,(cells_of_heap (e5.obj oB)).1]
     refine zcr (Equal_Term_ret w5 _ _ _ _ (hx3.ext e35) (hy3.ext e35)) fun w6 e6=>?_
     simp (disch:=try exact DI) only [↓PR,QR,simprocAttr,d1]
     exact ⟨trivial,(E3.trans e35).trans e6⟩
   · have d1:(na.1 == nb.1)=false:=by simpa using hbb
     have d1':decide (na.1=nb.1)=false:=by simpa using hbb
     rw [d1']
     simp (disch:=try exact DI) only [↓PR,QR,simprocAttr,d1,↓n27c1]
     exact ⟨trivial,E3.trans e35⟩
 · have d0:(er == 0)=false:=by simpa using hz
   have d0':decide (er=0)=false:=by simpa using hz
   rw [d0']
   simp (disch:=try exact DI) only [↓PR,QR,simprocAttr,d0,↓n27c1]
   exact ⟨trivial,E3.trans e35⟩
end Go.Proofs.YtpgkjhikdhdffaaGreatDoor
namespace Go.Sw
open Go.RowKit (intOf Below)
section
variable {P:Program} {QP:List PanicEntry→World→Prop} {w:World} {k:Value→World→Prop}
theorem op_slss (t:TypeId) (c:Bool) (a b:ByteArray):opV P (binS .lss t c (.string a) (.string b)) QP w k=k (.bool (decide (a.data.toList < b.data.toList))) w:=opV_ok (by simp [binS,binOp,Op.stringOp,Go.Proofs.bytesLess_eq,ByteArray.toList_eq])
theorem q_slss {C:World→Prop} [ClassNe C] {k:Value→Prop} (t:TypeId) (c:Bool) (a b:ByteArray):qV P C (binS .lss t c (.string a) (.string b)) k=k (.bool (decide (a.data.toList < b.data.toList))):=qV_of fun QP w kk=>op_slss t c a b
theorem op_slice3 {t e:TypeId} {agg:Bool} {n m:Nat} {z:Value} (hu:P.underlying t=some (.slice e)) (ht:TyInfo P e agg n m z) (b o len cap:Nat) (h:Nat) (hc:h≤cap) :
 opV P (Instr.sliceAt t (.slice (some ⟨b,o,none⟩) len cap) none (some (.int .i64 (h:Int))) (some (.int .i64 (h:Int)))) QP w k=k (.slice (some ⟨b,o,none⟩) h h) w:=by
 refine opV_ok ?_
 have h2:(h:Int)≤(cap:Int):=by omega
 have h3:(0:Int)≤(h:Int):=by omega
 simp [Instr.sliceAt,run_underlying hu,Instr.slice,Instr.sliceBounds,run_sliceBound,h2,h3,Sw.run_sizeOf ht,Addr.add_lit]
theorem op_slice3N {t e:TypeId} {agg:Bool} {n m:Nat} {z:Value} (hu:P.underlying t=some (.slice e)) (ht:TyInfo P e agg n m z) :
 opV P (Instr.sliceAt t (.slice none 0 0) none (some (.int .i64 0)) (some (.int .i64 0))) QP w k=k (.slice none 0 0) w:=opV_ok (by
 simp [Instr.sliceAt,run_underlying hu,Instr.slice,Instr.sliceBounds,run_sliceBound,Go.Sw.run_sizeOf ht])
theorem op_sliceLow {t e:TypeId} {agg:Bool} {n m:Nat} {z:Value} (hu:P.underlying t=some (.slice e)) (ht:TyInfo P e agg n m z) (b o len cap:Nat) (l:Nat) (hl:l≤len) (hc:len≤cap) :
 opV P (Instr.sliceAt t (.slice (some ⟨b,o,none⟩) len cap) (some (.int .i64 (l:Int))) none none) QP w k=k (.slice (some ⟨b,if cap=l then o else o+l*n,none⟩) (len - l) (cap - l)) w:=by
 refine opV_ok ?_
 have h2:(l:Int)≤(len:Int):=by omega
 have h3:(0:Int)≤(l:Int):=by omega
 by_cases h:cap=l
 · simp [Instr.sliceAt,run_underlying hu,Instr.slice,Instr.sliceBounds,run_sliceBound,h2,h3,h,Sw.run_sizeOf ht,Addr.add_lit]
 · simp [Instr.sliceAt,run_underlying hu,Instr.slice,Instr.sliceBounds,run_sliceBound,h2,h3,h,Sw.run_sizeOf ht,Addr.add_lit]
theorem op_sliceLowN {t e:TypeId} {agg:Bool} {n m:Nat} {z:Value} (hu:P.underlying t=some (.slice e)) (ht:TyInfo P e agg n m z) :
 opV P (Instr.sliceAt t (.slice none 0 0) (some (.int .i64 0)) none none) QP w k=k (.slice none 0 0) w:=opV_ok (by
 simp [Instr.sliceAt,run_underlying hu,Instr.slice,Instr.sliceBounds,run_sliceBound,Go.Sw.run_sizeOf ht])
end
end Go.Sw
namespace Go.Proofs.YtpgkjhikdhdffaaGreatDoor
open Sw
open Go.RowKit (intOf Below)
theorem flat_len:∀ (l:List TermD),(l.flatMap termCells).length=l.length*2
 | []=>rfl
 | x::l=>by
  have h1:(termCells x).length=2:=rfl
  rw [List.flatMap_cons,List.length_append,flat_len l,h1,List.length_cons]
  omega
theorem append_clip {w:World} {QP:List PanicEntry→World→Prop} {k:Value→World→Prop} {base g o:Nat} {u:Value} {l l':List TermD} (hs:∀ j x,l[j]?=some x→ElemAt w g (o+j*2) (termCells x)) (hu:TermsOf w u l') (hne:l'≠[]) (h1:l.length≤100000) (h2:l'.length≤100000)
 (hk:∀ v' w',OwnE w' w.heap.size TTm 2 termCells v' (l++l')→Ext w w'→k v' w') :
 opV Pg (Builtin.append_ #[22,22] 22 #[.slice (some ⟨g,o,none⟩) l.length l.length,u]) QP w k:=by
 obtain ⟨⟨i,hi,hsz,hby,hzz⟩,_⟩:=ty32
 have hb4:=by32
 obtain ⟨A,c,rfl,hlc,hcm,hlm,hel⟩:=SliceOf.open hu
 obtain ⟨x0,l0,rfl⟩:=List.exists_cons_of_ne_nil hne
 obtain ⟨b,o',_,rfl,_⟩:=hel 0 x0 rfl
 have hcells:∀ (ll:List TermD) (B O:Nat),(∀ j x,ll[j]?=some x→ElemAt w B (O+j*2) (termCells x))→∀ j v,(ll.flatMap termCells)[j]?=some v→w.cell? ((⟨B,O,none⟩:Addr).add j)=some v:=by
  intro ll B O hh j v hv
  have hfl:(ll.flatMap termCells).length=ll.length*2:=flat_len ll
  have hj:j < ll.length*2:=by have:=(List.getElem?_eq_some_iff.1 hv).1;rwa [hfl] at this
  have hq:j / 2 < ll.length:=by omega
  obtain ⟨x,hx⟩:=getElem?_lt hq
  have hjn:j % 2 < (termCells x).length:=by show j % 2 < 2;omega
  have hg:=flatMap_get (enc:=termCells) (n:=2) (fun _=>rfl) ll (j / 2) x (j % 2) _ hx (List.getElem?_eq_getElem hjn)
  rw [show j / 2*2+j % 2=j by omega,hv] at hg
  injection hg with hg
  rw [Addr.add_lit]
  have:=hh _ _ hx (j % 2) _ (List.getElem?_eq_getElem hjn)
  rw [hg,← this]
  congr 2;omega
 obtain ⟨v',w',hr,ho,hg⟩:=run_append_arg_grows (P:=Pg) w 22 22 TTm i _ 2 _ Tryz.underlying22 hi hzz hsz hby rfl (by decide) ⟨g,o,none⟩ l.length l.length (l.flatMap termCells) (flat_len l) (hcells l g o hs)
  ⟨b,o',none⟩ (x0::l0).length c ((x0::l0).flatMap termCells) (flat_len _) (hcells _ b o' fun j x hx=>by
   obtain ⟨b2,o2,cs,e1,_,hA,e2⟩:=hel j x hx
   injection e1 with e1
   injection e1 with e1 e3
   subst e1 e3 e2
   exact hA) (by simp) (by simp only [maxLen];omega) (Nat.le_trans (Nat.mul_le_mul (Nat.add_le_add h1 h2) hb4) (by decide))
 rw [opV_ok hr]
 refine hk v' w' ?_ ((Ext.refl w).grown hg fun k hk=>by cases hk)
 unfold OwnE
 rw [List.flatMap_append,List.length_append];exact ho
def lessT (x y:TermD):Bool:=decide (y.field.data.toList < x.field.data.toList)
def insT (x:TermD) (l:List TermD):List TermD:=l.takeWhile (lessT x)++x::l.dropWhile (lessT x)
def normR (ts:List TermD):List TermD:=ts.foldl (fun acc t=>insT t acc) []
theorem insT_len (x:TermD) (l:List TermD):(insT x l).length=l.length+1:=by
 have:(l.takeWhile (lessT x)++l.dropWhile (lessT x)).length=l.length:=by rw [List.takeWhile_append_dropWhile]
 unfold insT
 rw [List.length_append] at this ⊢
 rw [List.length_cons]
 omega
theorem normR_len:∀ (ts acc:List TermD),(ts.foldl (fun acc t=>insT t acc) acc).length=acc.length+ts.length
 | [],acc=>rfl
 | t::ts,acc=>by rw [List.foldl_cons,normR_len ts,insT_len,List.length_cons];omega
theorem normR_snoc {ts:List TermD} {k:Nat} {x:TermD} (hx:ts[k]?=some x):normR (ts.take (k+1))=insT x (normR (ts.take k)):=by
 unfold normR
 rw [take_snoc hx,List.foldl_append]
 rfl
theorem tw_at {α:Type} {p:α→Bool}:∀ {l:List α} {a:Nat},(∀ j y,j < a→l[j]?=some y→p y=true)→(∀ y,l[a]?=some y→p y=false)→l.takeWhile p=l.take a∧l.dropWhile p=l.drop a
 | [],a,_,_=>by simp
 | y::l,0,_,h=>by
  have:=h y rfl
  rw [List.takeWhile_cons,List.dropWhile_cons,this]
  exact ⟨rfl,rfl⟩
 | y::l,a+1,h1,h2=>by
  have:=h1 0 y (by omega) rfl
  obtain ⟨e1,e2⟩:=tw_at (l:=l) (a:=a) (fun j z hj hz=>h1 (j+1) z (by omega) hz) (fun z hz=>h2 z hz)
  rw [List.takeWhile_cons,List.dropWhile_cons,this,if_pos rfl,if_pos rfl,e1,e2]
  exact ⟨rfl,rfl⟩
structure NorS (w0 w:World) (p1 p2 p3:Nat) (base:Int) (tv0 tv:Value) (ts acc:List TermD):Prop where
 e:Ext w0 w
 l1:w0.heap.size≤p1
 l2:p1 < p2
 l3:p2 < p3
 h1:w.heap[p1]?=some (.cells #[.int .i64 base,tv0] TSz (0,0))
 h2:w.heap[p2]?=some (.cells #[.int .i64 0,.slice none 0 0] TSz (0,0))
 h3:w.heap[p3]?=some (.cells #[.int .i64 base,tv] TSz (0,0))
 hT:TermsOf w0 tv0 ts
 hO:OwnE w (p3+1) TTm 2 termCells tv acc
theorem NorS.ext {w0 w w':World} {p1 p2 p3:Nat} {base:Int} {tv0 tv:Value} {ts acc:List TermD} (h:NorS w0 w p1 p2 p3 base tv0 tv ts acc) (e:Ext w w'):NorS w0 w' p1 p2 p3 base tv0 tv ts acc :=
 { h with e:=h.e.trans e,h1:=e.obj h.h1,h2:=e.obj h.h2,h3:=e.obj h.h3,hO:=h.hO.ext e }
section
variable {w0 D:World} {p1 p2 p3:Nat} {base:Int} {tv0 tv:Value} {ts acc:List TermD} {R:RT}
theorem rn_insert (h:NorS w0 D p1 p2 p3 base tv0 tv ts acc) {k at':Nat} {x:TermD} (hx:ts[k]?=some x) (hat:at'≤acc.length) (hacc:acc.length≤1000) (hts:ts.length≤1000) {next1:Value→World→Prop}
 (hn:∀ w' tv',NorS w0 w' p1 p2 p3 base tv0 tv' ts (acc.take at'++x::acc.drop at')→next1 (.int .i64 ((k+1:Nat):Int)) w') :
 n19c3 (.pointer (some ⟨p1,0,none⟩)) (.pointer (some ⟨p3,0,none⟩)) (.int .i64 (k:Int)) (.int .i64 (at':Int)) (EC D) next1 R D:=by
 have hlt:=(List.getElem?_eq_some_iff.1 hx).1
 have hwk:IntKind.i64.wrap ((k:Int)+1)=((k+1:Nat):Int):=by rw [wrap_ok (by omega) (by omega)];omega
 obtain ⟨A0,c0,rfl,_,_,_,hel0⟩:=SliceOf.open (TermsOf.ext h.hT h.e)
 obtain ⟨b0,o0,cs0,rfl,_,hA0,rfl⟩:=hel0 k x hx
 have dk:(k:Int) < (ts.length:Int):=by omega
 have l3:p3 < D.heap.size:=(Array.getElem?_eq_some_iff.1 h.h3).1
 have eR:=Ext.refl D
 have key:∀ (u v:Value),(∀ w,Ext D w→TermsOf w v (acc.drop at'))→(∀ w z,Ext D w→TermsOf w z (x::acc.drop at')→∀ (QP:List PanicEntry→World→Prop) (K:Value→World→Prop),(∀ v' w',OwnE w' w.heap.size TTm 2 termCells v' (acc.take at'++x::acc.drop at')→Ext w w'→K v' w')→opV Pg (Builtin.append_ #[22,22] 22 #[u,z]) QP w K) →
  EC D (D.alloc (.cells #[.string x.field,.int .i64 x.factor] TTm))∧(n19c2 (.pointer (some ⟨p3,0,none⟩)) (.int .i64 (k:Int)) u (.slice (some ⟨D.heap.size,0,none⟩) 1 1) v (EC D) next1 R (D.alloc (.cells #[.string x.field,.int .i64 x.factor] TTm))):=by
  intro u v hv hu
  have eB:Ext D (D.alloc (.cells #[.string x.field,.int .i64 x.factor] TTm)):=(Ext.refl _).alloc _
  have hB:OwnE (D.alloc (.cells #[.string x.field,.int .i64 x.factor] TTm)) D.heap.size TTm 2 termCells (.slice (some ⟨D.heap.size,0,none⟩) 1 1) [x]:=OwnE.new D TTm 2 termCells [x] (fun _=>rfl) (by rw [List.length_singleton];decide)
  refine ⟨eB,?_⟩
  change n19c2 _ _ _ _ _ _ _ _ (D.alloc (.cells #[.string x.field,.int .i64 x.factor] TTm))
  have hzB:(D.alloc (.cells #[.string x.field,.int .i64 x.factor] TTm)).heap.size=D.heap.size+1:=World.size_alloc ..
  generalize D.alloc (.cells #[.string x.field,.int .i64 x.factor] TTm)=w1 at *
  unfold n19c2
  refine append_terms hB (hv _ eB) (by omega) (by simp) (by rw [List.length_drop];omega) fun z w2 hz hg=>?_
  have e2:Ext D w2:=eB.grown hg fun q hq=>by
   have:D.heap.size=q:=Option.some.inj hq
   omega
  refine ⟨e2,hu w2 z e2 (own_terms hz) _ _ fun v' w3 hO3 e23=>?_⟩
  have e3:=e2.trans e23
  refine ⟨e3,?_⟩
  have ht1:=SliceOf.oneCell (own_terms hO3)
  have hs3:=h.ext e3
  unfold n19c1
  simp (disch:=try exact DI) only [↓PR,QR,simprocAttr,(cells_of_heap hs3.h3).1,(cells_of_heap hs3.h3).2]
  refine turnK_intro ?_
  simp (disch:=try exact DI) only [↓PR,QR,simprocAttr,hwk]
  have hz2:=e2.size
  have hk3:∀ b,b≠p3→(w3.setCell ⟨p3,1,none⟩ v').heap[b]?=w3.heap[b]?:=fun b hb=>Only.setCell _ p3 _ _ b hb
  have q1:=h.l1
  have q2:=h.l2
  have q3:=h.l3
  exact hn _ v' { hs3 with
   e:=hs3.e.setCell (p:=⟨p3,1,none⟩) (by show w0.heap.size≤p3;omega) _
   h1:=(hk3 p1 (by omega)).trans hs3.h1
   h2:=(hk3 p2 (by omega)).trans hs3.h2
   h3:=heap_set (o:=1) hs3.h3 v'
   hO:=OwnE.base (OwnE.keep hO3 fun b hb=>hk3 b (by have:=(World.ownsRow.lt hO3 b hb).1;omega)) (by omega) }
 unfold n19c3
 rcases h.hO.2 with ⟨hv,hn0⟩ | ⟨g,cap,cur,hv,hg0,hg,hcap,hcm,hcs,hcc⟩
 · subst hv
   obtain rfl:acc=[]:=List.eq_nil_of_length_eq_zero hn0
   obtain rfl:at'=0:=by simpa using hat
   have hq1:∀ K:Value→Prop,qV Pg (EC D) (Instr.sliceAt 22 (.slice none 0 0) none (some (.int .i64 0)) (some (.int .i64 0))) K=K (.slice none 0 0):=fun K=>qV_of fun QP w k=>op_slice3N Tryz.underlying22 ty32
   have hq2:∀ K:Value→Prop,qV Pg (EC D) (Instr.sliceAt 22 (.slice none 0 0) (some (.int .i64 0)) none none) K=K (.slice none 0 0):=fun K=>qV_of fun QP w k=>op_sliceLowN Tryz.underlying22 ty32
   simp (disch:=try exact DI) only [↓PR,QR,simprocAttr,(cells_of_heap h.h3).1,(cells_of_heap h.h1).1,Int.ofNat_zero,hq1,hq2,dk,hA0.c2 eR,Nat.zero_add]
   refine key (.slice none 0 0) (.slice none 0 0) (fun w _=>SliceOf.nil _ _ _) fun w z ew hz QP K hK=>?_
   exact append_terms (l:=[]) (OwnE.nil w w.heap.size 2 TTm termCells) hz (Nat.le_refl _) (by simp) (by simp) fun v' w' hO hg=>hK v' w' hO ((Ext.refl w).grown hg fun q hq=>by cases hq)
 · subst hv
   have hq1:∀ K:Value→Prop,qV Pg (EC D) (Instr.sliceAt 22 (.slice (some ⟨g,0,none⟩) acc.length cap) none (some (.int .i64 (at':Int))) (some (.int .i64 (at':Int)))) K=K (.slice (some ⟨g,0,none⟩) at' at'):=fun K=>qV_of fun QP w k=>op_slice3 Tryz.underlying22 ty32 g 0 _ cap at' (by omega)
   have hq2:∀ K:Value→Prop,qV Pg (EC D) (Instr.sliceAt 22 (.slice (some ⟨g,0,none⟩) acc.length cap) (some (.int .i64 (at':Int))) none none) K=K (.slice (some ⟨g,if cap=at' then 0 else 0+at'*2,none⟩) (acc.length - at') (cap - at')):=fun K=>qV_of fun QP w k=>op_sliceLow Tryz.underlying22 ty32 g 0 _ cap at' (by omega) hcap
   have hel1:=fun j y=>(SliceOf.open (own_terms h.hO)).choose_spec.choose_spec.2.2.2.2 j y
   have hv1:=(SliceOf.open (own_terms h.hO)).choose_spec.choose_spec.1
   injection hv1 with hv1 _ hv2
   rw [← hv1] at hel1
   clear hv1 hv2
   generalize hV2:(Value.slice (some ⟨g,if cap=at' then 0 else 0+at'*2,none⟩) (acc.length - at') (cap - at'))=V2 at hq2
   simp (disch:=try exact DI) only [↓PR,QR,simprocAttr,(cells_of_heap h.h3).1,(cells_of_heap h.h1).1,hq1,hq2,dk,hA0.c2 eR]
   refine key (.slice (some ⟨g,0,none⟩) at' at') V2 (fun w ew=>?_) fun w z ew hz QP K hK=>?_
   · rw [← hV2]
     refine ⟨_,cap - at',by rw [List.length_drop],by rw [List.length_drop];omega,by simp only [maxLen] at hcm;omega,fun hne=>⟨g,at'*2,?_,fun j y hy=>?_⟩⟩
     · have:at' < acc.length:=by
        refine Classical.byContradiction fun hh=>hne (List.drop_eq_nil_of_le (by omega))
       rw [if_neg (by omega),Nat.zero_add]
     · rw [List.getElem?_drop] at hy
       obtain ⟨b1,o1,cs1,e1,hl1,hA1,he1⟩:=hel1 _ y hy
       injection e1 with e1
       injection e1 with e1 e2
       subst e1 e2
       refine ⟨cs1,hl1,?_,he1⟩
       have:=hA1.ext ew
       rwa [show at'*2+j*2=0+(at'+j)*2 by omega]
   · have hlt':(acc.take at').length=at':=by rw [List.length_take];omega
     have:=append_clip (QP:=QP) (k:=K) (w:=w) (base:=0) (g:=g) (o:=0) (u:=z) (l:=acc.take at') (l':=x::acc.drop at') (fun j y hy=>by
      rw [List.getElem?_take] at hy
      split at hy
      · obtain ⟨b1,o1,cs1,e1,hl1,hA1,he1⟩:=hel1 _ y hy
        injection e1 with e1
        injection e1 with e1 e2
        subst e1 e2
        rw [← he1]
        exact hA1.ext ew
      · cases hy) hz (by simp) (by omega) (by rw [List.length_cons,List.length_drop];omega) hK
     rwa [hlt'] at this
end
theorem rn_search {w0 W:World} {p1 p2 p3:Nat} {base:Int} {tv0 tv:Value} {ts acc:List TermD} {R:RT} (h:NorS w0 W p1 p2 p3 base tv0 tv ts acc) {k:Nat} {x:TermD} (hx:ts[k]?=some x) (hacc:acc.length≤1000) (hts:ts.length≤1000) {next1:Value→World→Prop}
 (hn:∀ w' tv',NorS w0 w' p1 p2 p3 base tv0 tv' ts (insT x acc)→next1 (.int .i64 ((k+1:Nat):Int)) w') :
 loop1 (fun t5 w next2=>drawK w fun C3 w=>n19c6 (.pointer (some ⟨p1,0,none⟩)) (.pointer (some ⟨p3,0,none⟩)) (.int .i64 (k:Int)) t5 C3 next1 next2 R w) (.int .i64 0) W:=by
 have hlt:=(List.getElem?_eq_some_iff.1 hx).1
 refine loop1_intro (fun a w=>∃ j:Nat,a = .int .i64 (j:Int)∧j≤acc.length∧Ext W w∧∀ i y,i < j→acc[i]?=some y→lessT x y=true) (fun a _=>acc.length - (intOf a).toNat) ⟨0,rfl,by omega,Ext.refl _,by intro i y h;omega⟩ ?_
 rintro _ w ⟨j,rfl,hj,e,hI⟩
 refine drawK_intro ?_
 have eD:Ext w w.drew:=(Ext.refl w).drew
 change n19c6 _ _ _ _ (EC w.drew) _ _ _ w.drew
 have E:=e.trans eD
 have hD:=h.ext E
 generalize w.drew=D at *
 have hwj:IntKind.i64.wrap ((j:Int)+1)=((j+1:Nat):Int):=by rw [wrap_ok (by omega) (by omega)];omega
 have eR:=Ext.refl D
 obtain ⟨A0,c0,rfl,_,_,_,hel0⟩:=SliceOf.open (TermsOf.ext hD.hT hD.e)
 obtain ⟨b0,o0,cs0,rfl,_,hA0,rfl⟩:=hel0 k x hx
 have dk:(k:Int) < (ts.length:Int):=by omega
 obtain ⟨A1,c1,rfl,_,_,_,hel1⟩:=SliceOf.open (own_terms hD.hO)
 have fin:(∀ y,acc[j]?=some y→lessT x y=false)→drawK D fun C5 w=>n19c3 (.pointer (some ⟨p1,0,none⟩)) (.pointer (some ⟨p3,0,none⟩)) (.int .i64 (k:Int)) (.int .i64 (j:Int)) C5 next1 R w:=by
  intro hnl
  refine drawK_intro ?_
  have eF:Ext D D.drew:=(Ext.refl D).drew
  change n19c3 _ _ _ _ (EC D.drew) _ _ D.drew
  obtain ⟨t1,t2⟩:=tw_at hI hnl
  refine rn_insert (hD.ext eF) hx hj hacc hts fun w' tv' hw=>hn w' tv' ?_
  unfold insT
  rw [t1,t2]
  exact hw
 unfold n19c6
 by_cases hlj:j < acc.length
 · obtain ⟨y,hy⟩:=getElem?_lt hlj
   obtain ⟨b1,o1,cs1,rfl,_,hA1,rfl⟩:=hel1 j y hy
   have dj:(j:Int) < (acc.length:Int):=by omega
   have d1:decide ((j:Int) < (acc.length:Int))=true:=decide_eq_true dj
   have hl:decide (y.field.data.toList < x.field.data.toList)=lessT x y:=rfl
   cases hb:lessT x y with
   | true =>
    rw [hb] at hl
    simp (disch:=try exact DI) only [↓PR,QR,simprocAttr,(cells_of_heap hD.h3).1,(cells_of_heap hD.h1).1,d1,dj,dk,↓n19c5,hA0.c2 eR,hA1.c2 eR,q_slss,hl,↓n19c4,hwj]
    refine ⟨⟨j+1,rfl,hlj,E,fun i z hi hz=>?_⟩,meas_lt (kd := .i64) hlj⟩
    by_cases hij:i=j
    · rw [hij,hy] at hz
      injection hz with hz
      rw [← hz];exact hb
    · exact hI i z (by omega) hz
   | false =>
    rw [hb] at hl
    simp (disch:=try exact DI) only [↓PR,QR,simprocAttr,(cells_of_heap hD.h3).1,(cells_of_heap hD.h1).1,d1,dj,dk,↓n19c5,hA0.c2 eR,hA1.c2 eR,q_slss,hl,↓n19c4]
    exact fin fun z hz=>by rw [hy] at hz;injection hz with hz;rw [← hz];exact hb
 · obtain rfl:j=acc.length:=by omega
   have d1:decide ((acc.length:Int) < (acc.length:Int))=false:=decide_eq_false (by omega)
   simp (disch:=try exact DI) only [↓PR,QR,simprocAttr,(cells_of_heap hD.h3).1,d1,↓n19c4]
   exact fin fun z hz=>by rw [List.getElem?_eq_none (Nat.le_refl _)] at hz;cases hz
theorem rNormal_ret (w0:World) (v:Value) (base:Int) (ts:List TermD) (hs:SizeVal w0 v base ts) (hl:ts.length≤400) :
 Ret Pg 34 #[v] w0 fun u w'=>(∃ tv,u = .agg #[.int .i64 base,tv]∧OwnE w' w0.heap.size TTm 2 termCells tv (normR ts))∧Ext w0 w':=by
 obtain ⟨tv0,rfl,hT⟩:=hs
 have h1:=SliceOf.oneCell hT
 refine n19s (R:=retR _) ?_;unfold n19
 simp (disch:=try exact DI) only [↓PR,QR,simprocAttr]
 simp only [World.size_alloc]
 generalize hW:World.alloc (World.alloc (World.alloc w0 _) _) _=W
 have e0:Ext w0 W:=by rw [← hW];exact ee
 have o1:W.heap[w0.heap.size]?=some (.cells #[.int .i64 base,tv0] TSz (0,0)):=by rw [← hW];simp (disch:=try exact DI) only [↓PR,QR,simprocAttr]
 have o2:W.heap[w0.heap.size+1]?=some (.cells #[.int .i64 0,.slice none 0 0] TSz (0,0)):=by rw [← hW];simp (disch:=try exact DI) only [↓PR,QR,simprocAttr]
 have o3:W.heap[w0.heap.size+1+1]?=some (.cells #[.int .i64 base,.slice none 0 0] TSz (0,0)):=by rw [← hW];simp (disch:=try exact DI) only [↓PR,QR,simprocAttr]
 clear hW
 refine loop1_intro (fun a w=>∃ (k:Nat) (tv:Value),a = .int .i64 (k:Int)∧k≤ts.length∧NorS w0 w w0.heap.size (w0.heap.size+1) (w0.heap.size+1+1) base tv0 tv ts (normR (ts.take k))) (fun a _=>ts.length - (intOf a).toNat)
  ⟨0,_,rfl,by omega,⟨e0,Nat.le_refl _,Nat.lt_succ_self _,Nat.lt_succ_self _,o1,o2,o3,hT,OwnE.nil _ _ _ _ _⟩⟩ ?_
 clear o1 o2 o3
 rintro _ w ⟨k,tv,rfl,hk,h⟩
 obtain ⟨A0,c0,rfl,_,_,_,hel0⟩:=SliceOf.open (TermsOf.ext h.hT h.e)
 unfold n19c7
 by_cases hlt:k < ts.length
 · obtain ⟨x,hx⟩:=getElem?_lt hlt
   have d1:decide ((k:Int) < (ts.length:Int))=true:=decide_eq_true (by omega)
   simp (disch:=try exact DI) only [↓PR,QR,simprocAttr,(cells_of_heap h.h1).1,d1]
   refine rn_search h hx ?_ (by omega) fun w' tv' hw=>⟨⟨k+1,tv',rfl,hlt,?_⟩,meas_lt (kd := .i64) hlt⟩
   · unfold normR
     rw [normR_len,List.length_take]
     simp only [List.length_nil]
     omega
   · rw [normR_snoc hx]
     exact hw
 · obtain rfl:k=ts.length:=by omega
   have d1:decide ((ts.length:Int) < (ts.length:Int))=false:=decide_eq_false (by omega)
   have ht1:=SliceOf.oneCell (own_terms h.hO)
   have hO:=h.hO
   rw [List.take_length] at hO
   simp (disch:=try exact DI) only [↓PR,QR,simprocAttr,(cells_of_heap h.h1).1,d1,(cells_of_heap h.h3).1,(cells_of_heap h.h2).1,(cells_of_heap h.h2).2]
   refine ⟨⟨tv,rfl,OwnE.base (OwnE.keep hO fun g hg=>?_) (by omega)⟩,(h.e.setCell (p:=⟨w0.heap.size+1,0,none⟩) (Nat.le_succ _) _).setCell (p:=⟨w0.heap.size+1,1,none⟩) (Nat.le_succ _) _⟩
   have:=(World.ownsRow.lt hO g hg).1
   rw [Only.setCell _ (w0.heap.size+1) _ _ g (by omega),Only.setCell _ (w0.heap.size+1) _ _ g (by omega)]
theorem appendL_term {a w:World} {QP:List PanicEntry→World→Prop} {k:Value→World→Prop} {base N:Nat} {v:Value} {l:List TermD} (hO:OwnE w base 32 2 termCells (.slice (some ⟨N,0,none⟩) 0 0) []) (hs:SliceOf w 2 ETerm v l) (hbase:base≤w.heap.size) (hb:l.length≤1048576) (ea:Ext a w) (hN:a.heap.size≤N) (hNw:N < w.heap.size)
 (hk:∀ g cap w',OwnE w' base 32 2 termCells (.slice (some ⟨g,0,none⟩) l.length cap) l→(g=N∨g=w.heap.size)→g < w'.heap.size→w.heap.size≤w'.heap.size→Ext a w'→(∀ b,b < w.heap.size→b≠N→w'.heap[b]?=w.heap[b]?)→k (.slice (some ⟨g,0,none⟩) l.length cap) w') :
 opV Pg (Builtin.append_ #[22,22] 22 #[.slice (some ⟨N,0,none⟩) 0 0,v]) QP w k:=by
 obtain ⟨A,c,rfl,hlc,hcm,hlm,hel⟩:=SliceOf.open hs
 cases hl:l with
 | nil =>
  rw [hl] at hk
  rw [List.length_nil,op_append0 Tryz.underlying22 ty32 _ _ _ _ _ (Nat.le_refl 0)]
  exact hk _ _ _ hO (.inl rfl) hNw (Nat.le_refl _) ea fun _ _ _=>rfl
 | cons x0 l0 =>
  obtain ⟨b,o,_,hA,_⟩:=hel 0 x0 (by rw [hl];rfl)
  subst hA
  rw [← hl]
  refine op_appendL (l:=[]) (l':=l) Tryz.underlying22 ty32 rfl (by decide) (fun x=>rfl) (fun x _=>ETerm.one (w:=w) (t:=x) rfl) hO (fun j x hx=>?_) hbase (by rw [hl];simp) ?_ (by simp;omega) ?_
  · obtain ⟨b',o',cs,hA',hl',hE,rfl⟩:=hel j x hx
    injection hA' with hA'
    injection hA' with h3 h4
    subst h3 h4
    exact hE
  · have:=by32
    rw [List.length_nil,Nat.zero_add]
    exact Nat.le_trans (Nat.mul_le_mul hb this) (by decide)
  · intro g cap w' ho hg hgg hlt
    rw [List.length_nil,Nat.zero_add] at ho ⊢
    exact hk g cap w' ho (hgg.elim (fun h => .inl (Option.some.inj h).symm) .inr) hlt hg.size (ea.grown hg fun g hgg=>(Option.some.inj hgg) ▸ hN) fun b h1 h2=>hg.block b h1 fun e=>h2 (Option.some.inj e)
def rEqualP (ba:Int) (ta:List TermD) (bb:Int) (tb:List TermD):Bool:=sizeB ba ta&&sizeB bb tb&&decide (ba=bb∧normR ta=normR tb)
theorem rEqual_ret (w0:World) (va vb:Value) (ba bb:Int) (ta tb:List TermD) (ha:SizeVal w0 va ba ta) (hb:SizeVal w0 vb bb tb) (hla:ta.length≤400) (hlb:tb.length≤400) :
 Ret Pg 33 #[va,vb] w0 fun u w'=>u = .bool (rEqualP ba ta bb tb)∧Ext w0 w':=by
 obtain ⟨tva,rfl,hTa⟩:=ha
 obtain ⟨tvb,rfl,hTb⟩:=hb
 have h1:=SliceOf.oneCell hTa
 have h2:=SliceOf.oneCell hTb
 unfold rEqualP
 refine n17s (R:=retR _) ?_;unfold n17
 simp (disch:=try exact DI) only [↓PR,QR,simprocAttr]
 simp only [World.size_alloc]
 generalize hW:World.alloc (World.alloc w0 _) _=W
 have e0:Ext w0 W:=by rw [← hW];exact ee
 have o2:W.heap[w0.heap.size]?=some (.cells #[.int .i64 ba,tva] TSz (0,0)):=by rw [← hW];simp (disch:=try exact DI) only [↓PR,QR,simprocAttr]
 have o3:W.heap[w0.heap.size+1]?=some (.cells #[.int .i64 bb,tvb] TSz (0,0)):=by rw [← hW];simp (disch:=try exact DI) only [↓PR,QR,simprocAttr]
 clear hW
 refine drawK_intro ?_
 have eD:Ext W W.drew:=(Ext.refl W).drew
 have E:=e0.trans eD
 have g2:=eD.obj o2
 have g3:=eD.obj o3
 change qV _ (EC W.drew) _ fun t5=>callK _ _ #[t5] _ W.drew fun t6 w=>EC W.drew w∧n17c2 _ _ t6 (EC W.drew) _ w
 generalize W.drew=D at *
 have hA:=TermsOf.ext hTa E
 have hB:=TermsOf.ext hTb E
 simp (disch:=try exact DI) only [↓PR,QR,simprocAttr,(cells_of_heap g2).1]
 refine zcr (rSizeValid_ret D _ ba ta ⟨tva,rfl,hA⟩) fun w1 e1=>?_
 refine ⟨e1,?_⟩
 cases hva:sizeB ba ta with
 | false =>
  simp (disch:=try exact DI) only [↓PR,QR,simprocAttr,↓n17c2,↓n17c1]
  exact ⟨trivial,E.trans e1⟩
 | true =>
  simp (disch:=try exact DI) only [↓PR,QR,simprocAttr,↓n17c2,(cells_of_heap g3).1]
  refine zcr (rSizeValid_ret w1 _ bb tb ⟨tvb,rfl,TermsOf.ext hB e1⟩) fun w2 e2=>?_
  have e12:=e1.trans e2
  refine ⟨e12,?_⟩
  cases hvb:sizeB bb tb with
  | false =>
   simp (disch:=try exact DI) only [↓PR,QR,simprocAttr,↓n17c1]
   exact ⟨trivial,E.trans e12⟩
  | true =>
   simp (disch:=try exact DI) only [↓PR,QR,simprocAttr,↓n17c1,(cells_of_heap g2).1,(cells_of_heap g3).1]
   refine callK_ret (rNormal_ret w2 _ ba ta ⟨tva,rfl,TermsOf.ext hA e12⟩ hla) ?_
   rintro _ w3 ⟨⟨x,rfl,hx⟩,e3⟩
   have e13:=e12.trans e3
   refine ⟨e13,callK_ret (rNormal_ret w3 _ bb tb ⟨tvb,rfl,TermsOf.ext hB e13⟩ hlb) ?_⟩
   rintro _ w4 ⟨⟨y,rfl,hy⟩,e4⟩
   have e14:=e13.trans e4
   refine ⟨e14,callK_ret (rSame_ret w4 _ _ ba bb (normR ta) (normR tb) ⟨x,rfl,own_terms (hx.ext e4)⟩ ⟨y,rfl,own_terms hy⟩) ?_⟩
   rintro _ w5 ⟨rfl,e5⟩
   have e15:=e14.trans e5
   refine ⟨e15,?_⟩
   simp (disch:=try exact DI) only [↓PR,QR,simprocAttr]
   exact ⟨trivial,E.trans e15⟩
def addW (n:Int) (s:ByteArray) (l:List TermD):Int:=l.foldl (fun n t=>if t.field=s then IntKind.i64.wrap (n+t.factor) else n) n
theorem addW_snoc (n:Int) (s:ByteArray) (l:List TermD) (t:TermD):addW n s (l++[t])=if t.field=s then IntKind.i64.wrap (addW n s l+t.factor) else addW n s l:=by
 unfold addW
 rw [List.foldl_append]
 rfl
def pfT (l:List TermD) (x:TermD):TermD:=⟨x.field,addW x.factor x.field l⟩
def inA (a:List TermD) (t:TermD):Bool:=a.any fun x=>decide (x.field=t.field)
def postA (a l:List TermD):List TermD:=l.filter fun t=>!inA a t
def allR (a l:List TermD):List TermD:=a.map (pfT l)++postA a l
def midR (a l:List TermD) (t:TermD) (k:Nat):List TermD:=(a.take k).map (pfT (l++[t]))++(a.drop k).map (pfT l)++postA a l
theorem midR_zero (a l:List TermD) (t:TermD):midR a l t 0=allR a l:=by
 unfold midR allR
 simp
theorem midR_get {a l:List TermD} {t x:TermD} {k:Nat} (hx:a[k]?=some x):(midR a l t k)[k]?=some (pfT l x):=by
 have hk:=(List.getElem?_eq_some_iff.1 hx).1
 unfold midR
 rw [List.append_assoc,List.getElem?_append_right (by rw [List.length_map,List.length_take];omega),List.length_map,List.length_take,Nat.min_eq_left (by omega),Nat.sub_self,List.drop_eq_getElem_cons hk,List.map_cons]
 rw [(List.getElem?_eq_some_iff.1 hx).2]
 rfl
theorem midR_len (a l:List TermD) (t:TermD) (k:Nat):(midR a l t k).length=a.length+(postA a l).length:=by
 unfold midR
 rw [List.length_append,List.length_append,List.length_map,List.length_map,List.length_take,List.length_drop]
 omega
theorem midR_succ {a l:List TermD} {t x:TermD} {k:Nat} (hx:a[k]?=some x):midR a l t (k+1)=(midR a l t k).set k (pfT (l++[t]) x):=by
 have hk:=(List.getElem?_eq_some_iff.1 hx).1
 unfold midR
 rw [take_snoc hx,List.map_append,List.append_assoc,List.append_assoc,List.append_assoc,List.set_append_right _ _ (by rw [List.length_map,List.length_take];omega),List.length_map,List.length_take,Nat.min_eq_left (by omega),Nat.sub_self,List.drop_eq_getElem_cons hk,List.map_cons]
 rfl
theorem midR_end (a l:List TermD) (t:TermD):(if inA a t then midR a l t a.length else midR a l t a.length++[t])=allR a (l++[t]):=by
 unfold midR allR postA
 rw [List.take_length,List.drop_length,List.map_nil,List.append_nil,List.filter_append,← List.append_assoc]
 cases h:inA a t<;>simp [h]
theorem inA_snoc {a:List TermD} {t x:TermD} {k:Nat} (hx:a[k]?=some x):inA (a.take (k+1)) t=(inA (a.take k) t||decide (x.field=t.field)):=by
 unfold inA
 rw [take_snoc hx,List.any_append]
 simp
theorem OwnE.setFac {w:World} {lo g len cap k:Nat} {l:List TermD} {x:TermD} (h:OwnE w lo TTm 2 termCells (.slice (some ⟨g,0,none⟩) len cap) l) (hx:l[k]?=some x) (n:Int) :
 OwnE (w.setCell ⟨g,k*2+1,none⟩ (.int .i64 n)) lo TTm 2 termCells (.slice (some ⟨g,0,none⟩) len cap) (l.set k ⟨x.field,n⟩):=by
 let f:TermD→Cs 2:=fun t=>⟨termCells t,rfl⟩
 have h1:OwnE w lo TTm 2 Subtype.val (.slice (some ⟨g,0,none⟩) len cap) (l.map f):=by
  unfold OwnE at *
  rw [List.flatMap_map,List.length_map]
  exact h
 have h2:=OwnE.set h1 (k:=k) (cs:=f x) (by rw [List.getElem?_map,hx];rfl) (j:=1) (by decide) (.int .i64 n)
 have h3:(l.map f).set k ⟨(f x).1.set 1 (.int .i64 n),by simp [(f x).2]⟩=(l.set k ⟨x.field,n⟩).map f:=by
  rw [List.map_set]
  rfl
 rw [h3] at h2
 unfold OwnE at *
 rw [List.flatMap_map,List.length_map] at h2
 exact h2
theorem append1L_term {w:World} {QP:List PanicEntry→World→Prop} {k:Value→World→Prop} {base:Nat} {v:Value} {l:List TermD} (x:TermD) {b:Nat} (hown:OwnE w base TTm 2 termCells v l) (hc:w.heap[b]?=some (.cells (termCells x).toArray TTm (0,0))) (hbase:base≤w.heap.size) (hl:l.length≤1048576)
 (hk:∀ g cap w',OwnE w' base TTm 2 termCells (.slice (some ⟨g,0,none⟩) (l++[x]).length cap) (l++[x])→w.grownBy w' v.ownBlock→(v.ownBlock=some g∨g=w.heap.size)→k (.slice (some ⟨g,0,none⟩) (l++[x]).length cap) w') :
 opV Pg (Builtin.append_ #[22,22] 22 #[v,.slice (some ⟨b,0,none⟩) 1 1]) QP w k:=by
 have hby:=by32
 refine op_appendL (l':=[x]) Tryz.underlying22 ty32 rfl (by decide) (fun _=>rfl) (fun x _=>ETerm.one (w:=w) (t:=x) rfl) hown (fun j y hy=>?_) hbase (by simp) ?_ (by simp;omega) ?_
 · cases j with
   | zero =>
    simp at hy;subst hy
    intro j v hv
    rw [(cells_of_heap hc).1]
    simpa using hv
   | succ j=>simp at hy
 · simp only [List.length_cons,List.length_nil]
   exact Nat.le_trans (Nat.mul_le_mul (Nat.add_le_add_right hl _) hby) (by decide)
 · intro g cap w' ho hg hgg _
   rw [← List.length_append] at ho ⊢
   exact hk g cap w' ho hg hgg
structure RAd (w0 w:World) (p2 p3 p4 p6 g cap lo:Nat) (ba bb bs:Int) (tva tvb:Value) (all:List TermD):Prop where
 e:Ext w0 w
 l2:p2 < lo
 l3:p3 < lo
 l4:p4 < lo
 lo0:w0.heap.size≤lo
 l4':w0.heap.size≤p4
 l6:lo≤p6
 ng:g≠p6
 h2:w.heap[p2]?=some (.cells #[.int .i64 ba,tva] TSz (0,0))
 h3:w.heap[p3]?=some (.cells #[.int .i64 bb,tvb] TSz (0,0))
 h4:w.heap[p4]?=some (.cells #[.int .i64 0,.slice none 0 0] TSz (0,0))
 h6:w.heap[p6]?=some (.cells #[.int .i64 bs,.slice (some ⟨g,0,none⟩) all.length cap] TSz (0,0))
 hO:OwnE w lo TTm 2 termCells (.slice (some ⟨g,0,none⟩) all.length cap) all
theorem RAd.ext {w0 w w':World} {p2 p3 p4 p6 g cap lo:Nat} {ba bb bs:Int} {tva tvb:Value} {all:List TermD} (h:RAd w0 w p2 p3 p4 p6 g cap lo ba bb bs tva tvb all) (e:Ext w w'):RAd w0 w' p2 p3 p4 p6 g cap lo ba bb bs tva tvb all :=
 { h with e:=h.e.trans e,h2:=e.obj h.h2,h3:=e.obj h.h3,h4:=e.obj h.h4,h6:=e.obj h.h6,hO:=h.hO.ext e }
theorem own_block {w:World} {lo g cap:Nat} {l:List TermD} {x:TermD} {k:Nat} (h:OwnE w lo TTm 2 termCells (.slice (some ⟨g,0,none⟩) l.length cap) l) (hx:l[k]?=some x):ElemAt w g (k*2) (termCells x)∧(∃ cur,w.heap[g]?=some (.cells cur TTm (0,0))):=by
 obtain ⟨A,c,hv,_,_,_,hel⟩:=SliceOf.open (own_terms h)
 injection hv with hv _ _
 obtain ⟨b,o,cs,e1,_,hA,e2⟩:=hel k x hx
 subst hv
 injection e1 with e1
 injection e1 with e1 e3
 subst e1 e3 e2
 rw [Nat.zero_add] at hA
 refine ⟨hA,?_⟩
 rcases h.2 with ⟨a,b⟩ | ⟨g',cap',cur,a,b,c,_⟩
 · cases a
 · injection a with a
   injection a with a
   injection a with a
   subst a
   exact ⟨cur,c⟩
section
variable {w0 D:World} {p2 p3 p4 p6 g cap lo:Nat} {ba bb bs:Int} {tva tvb:Value} {ta tb all:List TermD} {R:RT}
theorem ra_add (h:RAd w0 D p2 p3 p4 p6 g cap lo ba bb bs tva tvb all) (hTb:TermsOf w0 tvb tb) {k i:Nat} {x t:TermD} (hx:all[k]?=some x) (ht:tb[i]?=some t) {K7:Value→World→Prop}
 (hn:∀ w',RAd w0 w' p2 p3 p4 p6 g cap lo ba bb bs tva tvb (all.set k ⟨x.field,IntKind.i64.wrap (x.factor+t.factor)⟩)→K7 (.bool true) w') :
 drawK D fun C8 w=>n16c1 (.pointer (some ⟨p3,0,none⟩)) (.pointer (some ⟨p6,0,none⟩)) (.int .i64 (i:Int)) (.int .i64 (k:Int)) C8 K7 R w:=by
 refine drawK_intro ?_
 have eF:Ext D D.drew:=(Ext.refl D).drew
 change n16c1 _ _ _ _ (EC D.drew) _ _ D.drew
 replace h:=h.ext eF
 generalize D.drew=W at *
 have eR:=Ext.refl W
 obtain ⟨hA,cur,hg⟩:=own_block h.hO hx
 obtain ⟨A1,c1,rfl,_,_,_,hel1⟩:=SliceOf.open (TermsOf.ext hTb h.e)
 obtain ⟨b1,o1,cs1,rfl,_,hB,rfl⟩:=hel1 i t ht
 have dk:(k:Int) < (all.length:Int):=by have:=(List.getElem?_eq_some_iff.1 hx).1;omega
 have di:(i:Int) < (tb.length:Int):=by have:=(List.getElem?_eq_some_iff.1 ht).1;omega
 have c0:=hA.c2 eR
 unfold n16c1
 simp (disch:=try exact DI) only [↓PR,QR,simprocAttr,(cells_of_heap h.h6).1,(cells_of_heap h.h3).1,dk,di,Nat.zero_add,c0.1,c0.2,hB.c2 eR,(cells_of_heap hg).2]
 refine turnK_intro ?_
 have hset:∀ b,b≠g→(W.setCell ⟨g,k*2+1,none⟩ (.int .i64 (IntKind.i64.wrap (x.factor+t.factor)))).heap[b]?=W.heap[b]?:=fun b hb=>Only.setCell _ g _ _ b hb
 have hgl:=(World.ownsRow.lt h.hO g rfl).1
 have q2:=h.l2
 have q3:=h.l3
 have q4:=h.l4
 have q0:=h.lo0
 have qn:=h.ng
 refine hn _ { h with
  e:=h.e.setCell (p:=⟨g,k*2+1,none⟩) (by show w0.heap.size≤g;omega) _
  h2:=(hset p2 (by omega)).trans h.h2
  h3:=(hset p3 (by omega)).trans h.h3
  h4:=(hset p4 (by omega)).trans h.h4
  h6:=by rw [List.length_set];exact (hset p6 (by omega)).trans h.h6
  hO:=by rw [List.length_set];exact OwnE.setFac h.hO hx _ }
theorem ra_push (h:RAd w0 D p2 p3 p4 p6 g cap lo ba bb bs tva tvb all) (hTb:TermsOf w0 tvb tb) (hal:all.length≤10000) {i:Nat} {t:TermD} (ht:tb[i]?=some t) {K10:World→Prop}
 (hn:∀ w' g' cap',RAd w0 w' p2 p3 p4 p6 g' cap' lo ba bb bs tva tvb (all++[t])→K10 w') :
 drawK D fun C11 w=>n16c4 (.pointer (some ⟨p3,0,none⟩)) (.pointer (some ⟨p6,0,none⟩)) (.int .i64 (i:Int)) C11 K10 R w:=by
 have hgl:=(World.ownsRow.lt h.hO g rfl).1
 have hgw:=(World.ownsRow.lt h.hO g rfl).2
 have q2:=h.l2
 have q3:=h.l3
 have q4:=h.l4
 have q0:=h.lo0
 have qn:=h.ng
 have hlo:=h.l6
 have n3:p3≠g:=by omega
 have n6:p6≠g:=by omega
 obtain ⟨A1,c1,rfl,_,_,_,hel1⟩:=SliceOf.open hTb
 obtain ⟨b1,o1,cs1,rfl,_,hB,rfl⟩:=hel1 i t ht
 have hb1:b1 < w0.heap.size:=World.block_lt_of_cell? w0 _ (hB 0 _ rfl)
 have n1:b1≠g:=by omega
 have hBD:=hB.ext h.e
 have di:(i:Int) < (tb.length:Int):=by have:=(List.getElem?_eq_some_iff.1 ht).1;omega
 have lp6:=(Array.getElem?_eq_some_iff.1 h.h6).1
 have hq:∀ K:Value→Prop,qV Pg (KB D g g) (Instr.loadAt TTm (.pointer (some ⟨b1,o1+i*2,none⟩))) K=K (termVal t):=fun K=>qV_eqC fun w' hw=>run_of_op fun QP k=>op_load (ElemAt.loads (w:=w') (cs:=termCells t) (fun j u hu=>KB.cell hw n1 n1 (hBD j u hu)) ty32 rfl)
 refine drawK_introB (w1:=D) g g (fun _ _ _ _=>rfl) ?_
 unfold n16c4
 simp (disch:=try exact DI) only [↓PR,QR,simprocAttr,(cells_of_heap h.h6).1,(cells_of_heap h.h3).1,di,↓hq,termVal]
 generalize hA':World.alloc (World.drew D) _=w1
 have eA:Ext D w1:=by rw [← hA'];exact ee
 have oA:w1.heap[D.heap.size]?=some (.cells (termCells t).toArray TTm (0,0)):=by
  rw [← hA']
  have:=heap_new D.drew (termCells t).toArray TTm
  rw [World.size_drew] at this
  exact this
 have hzA:w1.heap.size=D.heap.size+1:=by rw [← hA'];simp
 clear hA'
 refine ⟨fun b hb _ _=>eA.block b hb,?_⟩
 have hA:=h.ext eA
 unfold n16c3
 refine append1L_term t (b:=D.heap.size) hA.hO oA (by omega) (by omega) fun g' cap' w' hO hgr hgg=>?_
 have lp2:=(Array.getElem?_eq_some_iff.1 h.h2).1
 have lp3:=(Array.getElem?_eq_some_iff.1 h.h3).1
 have lp4:=(Array.getElem?_eq_some_iff.1 h.h4).1
 have hng:g'≠p6:=by
  rcases hgg with hgg | hgg
  · have:g=g':=Option.some.inj hgg
    omega
  · omega
 have hb:∀ b,b < w1.heap.size→b≠g→w'.heap[b]?=w1.heap[b]?:=fun b h1 h2=>hgr.block b h1 fun e=>h2 (Option.some.inj e)
 have g6:=(hb p6 (by omega) (by omega)).trans hA.h6
 have e0':Ext w0 w':=hA.e.grown hgr fun q hq=>by
  have:g=q:=Option.some.inj hq
  omega
 refine ⟨fun b hb1 hb2 _=>(hb b (by omega) hb2).trans (eA.block b hb1),?_⟩
 simp (disch:=try exact DI) only [↓PR,QR,simprocAttr,(cells_of_heap g6).1,(cells_of_heap g6).2]
 refine turnK_intro ?_
 have hset:∀ b,b≠p6→(w'.setCell ⟨p6,1,none⟩ (.slice (some ⟨g',0,none⟩) (all++[t]).length cap')).heap[b]?=w'.heap[b]?:=fun b hb=>Only.setCell _ p6 _ _ b hb
 exact hn _ g' cap' { h with
  e:=e0'.setCell (p:=⟨p6,1,none⟩) (by show w0.heap.size≤p6;omega) _
  ng:=hng
  h2:=(hset p2 (by omega)).trans ((hb p2 (by omega) (by omega)).trans hA.h2)
  h3:=(hset p3 (by omega)).trans ((hb p3 (by omega) (by omega)).trans hA.h3)
  h4:=(hset p4 (by omega)).trans ((hb p4 (by omega) (by omega)).trans hA.h4)
  h6:=heap_set (o:=1) g6 _
  hO:=OwnE.keep hO fun b hb=>hset b (by have:g'=b:=Option.some.inj hb;omega) }
end
section
variable {w0 W:World} {p2 p3 p4 p6 lo:Nat} {ba bb bs:Int} {tva tvb:Value} {ta tb:List TermD} {R:RT}
theorem list_set_self {α:Type} {l:List α} {k:Nat} {x:α} (h:l[k]?=some x):l.set k x=l:=by
 obtain ⟨hk,rfl⟩:=List.getElem?_eq_some_iff.1 h
 exact List.set_getElem_self hk
theorem postA_len (a l:List TermD):(postA a l).length≤l.length:=List.length_filter_le _ _
theorem ra_inner (hTa:TermsOf w0 tva ta) (hTb:TermsOf w0 tvb tb) (hla:ta.length≤1000) (hlb:tb.length≤1000) {g cap i:Nat} {t:TermD} (h:RAd w0 W p2 p3 p4 p6 g cap lo ba bb bs tva tvb (allR ta (tb.take i))) (ht:tb[i]?=some t) {next4:Value→World→Prop}
 (hn:∀ w' g' cap',RAd w0 w' p2 p3 p4 p6 g' cap' lo ba bb bs tva tvb (allR ta (tb.take (i+1)))→next4 (.int .i64 ((i+1:Nat):Int)) w') :
 loop2 (fun t8 t9 w next5=>n16c6 (.pointer (some ⟨p2,0,none⟩)) (.pointer (some ⟨p3,0,none⟩)) (.pointer (some ⟨p6,0,none⟩)) (.int .i64 (i:Int)) t8 t9 next4 next5 R w) (.bool false) (.int .i64 0) W:=by
 have hli:=(List.getElem?_eq_some_iff.1 ht).1
 refine loop2_intro (fun b a w=>∃ (k:Nat),b = .bool (inA (ta.take k) t)∧a = .int .i64 (k:Int)∧k≤ta.length∧RAd w0 w p2 p3 p4 p6 g cap lo ba bb bs tva tvb (midR ta (tb.take i) t k)) (fun _ a _=>ta.length - (intOf a).toNat) ⟨0,rfl,rfl,by omega,by rw [midR_zero];exact h⟩ ?_
 rintro _ _ w ⟨k,rfl,rfl,hk,hS⟩
 clear h
 have hwk:IntKind.i64.wrap ((k:Int)+1)=((k+1:Nat):Int):=by rw [wrap_ok (by omega) (by omega)];omega
 have hwi:IntKind.i64.wrap ((i:Int)+1)=((i+1:Nat):Int):=by rw [wrap_ok (by omega) (by omega)];omega
 obtain ⟨A0,c0,rfl,_,_,_,hel0⟩:=SliceOf.open (TermsOf.ext hTa hS.e)
 unfold n16c6
 by_cases hlt:k < ta.length
 · obtain ⟨x,hx⟩:=getElem?_lt hlt
   obtain ⟨b0,o0,cs0,rfl,_,hA0,rfl⟩:=hel0 k x hx
   have dk:(k:Int) < (ta.length:Int):=by omega
   have d1:decide ((k:Int) < (ta.length:Int))=true:=decide_eq_true dk
   have di:(i:Int) < (tb.length:Int):=by omega
   simp (disch:=try exact DI) only [↓PR,QR,simprocAttr,(cells_of_heap hS.h2).1,d1]
   refine drawK_intro ?_
   have eF:Ext w w.drew:=(Ext.refl w).drew
   change n16c2 _ _ _ _ _ _ (EC w.drew) _ _ w.drew
   have hS':=hS.ext eF
   have hA:=hA0.ext eF
   clear hS hA0
   generalize w.drew=D at *
   have eR:=Ext.refl D
   obtain ⟨A1,c1,rfl,_,_,_,hel1⟩:=SliceOf.open (TermsOf.ext hTb hS'.e)
   obtain ⟨b1,o1,cs1,rfl,_,hB,rfl⟩:=hel1 i t ht
   have hms:=midR_succ (a:=ta) (l:=tb.take i) (t:=t) hx
   have hmg:=midR_get (l:=tb.take i) (t:=t) hx
   have ha:=inA_snoc (t:=t) hx
   unfold n16c2
   by_cases hf:x.field=t.field
   · have hd:decide (x.field=t.field)=true:=decide_eq_true hf
     rw [hd,Bool.or_true] at ha
     simp (disch:=try exact DI) only [↓PR,QR,simprocAttr,(cells_of_heap hS'.h2).1,(cells_of_heap hS'.h3).1,dk,di,hA.c2 eR,hB.c2 eR,hd]
     refine ra_add hS' hTb hmg ht fun w' h'=>?_
     simp (disch:=try exact DI) only [↓PR,QR,simprocAttr,hwk]
     refine ⟨⟨k+1,by rw [ha],rfl,hlt,?_⟩,meas_lt (kd := .i64) hlt⟩
     rw [hms]
     have:pfT (tb.take i++[t]) x=⟨(pfT (tb.take i) x).field,IntKind.i64.wrap ((pfT (tb.take i) x).factor+t.factor)⟩:=by
      unfold pfT
      rw [addW_snoc,if_pos hf.symm]
     rw [this]
     exact h'
   · have hd:decide (x.field=t.field)=false:=decide_eq_false hf
     rw [hd,Bool.or_false] at ha
     simp (disch:=try exact DI) only [↓PR,QR,simprocAttr,(cells_of_heap hS'.h2).1,(cells_of_heap hS'.h3).1,dk,di,hA.c2 eR,hB.c2 eR,hd,hwk]
     refine ⟨⟨k+1,by rw [ha],rfl,hlt,?_⟩,meas_lt (kd := .i64) hlt⟩
     rw [hms]
     have:pfT (tb.take i++[t]) x=pfT (tb.take i) x:=by
      unfold pfT
      rw [addW_snoc,if_neg (fun e=>hf e.symm)]
     rw [this]
     rw [show (midR ta (tb.take i) t k).set k (pfT (tb.take i) x)=midR ta (tb.take i) t k from list_set_self hmg]
     exact hS'
 · obtain rfl:k=ta.length:=by omega
   have d1:decide ((ta.length:Int) < (ta.length:Int))=false:=decide_eq_false (by omega)
   have hme:=midR_end ta (tb.take i) t
   rw [← take_snoc ht] at hme
   rw [List.take_length]
   unfold n16c5
   cases hin:inA ta t with
   | true =>
    rw [hin,if_pos rfl] at hme
    simp (disch:=try exact DI) only [↓PR,QR,simprocAttr,(cells_of_heap hS.h2).1,d1,hwi]
    refine hn w g cap ?_
    rw [← hme]
    exact hS
   | false =>
    rw [hin,if_neg (by decide)] at hme
    simp (disch:=try exact DI) only [↓PR,QR,simprocAttr,(cells_of_heap hS.h2).1,d1]
    refine ra_push hS hTb ?_ ht fun w' g' cap' h'=>?_
    · rw [midR_len]
      have:=postA_len ta (tb.take i)
      rw [List.length_take] at this
      omega
    · simp (disch:=try exact DI) only [↓PR,QR,simprocAttr,hwi]
      refine hn w' g' cap' ?_
      rw [← hme]
      exact h'
theorem ra_outer (hTa:TermsOf w0 tva ta) (hTb:TermsOf w0 tvb tb) (hla:ta.length≤1000) (hlb:tb.length≤1000) {g cap:Nat} (h:RAd w0 W p2 p3 p4 p6 g cap lo ba bb bs tva tvb ta)
 (hn:∀ w' g' cap',RAd w0 w' p2 p3 p4 p6 g' cap' lo ba bb bs tva tvb (allR ta tb)→n16c16 (.pointer (some ⟨p4,0,none⟩)) (.pointer (some ⟨p6,0,none⟩)) R w') :
 loop1 (fun t7 w next4=>n16c17 (.pointer (some ⟨p2,0,none⟩)) (.pointer (some ⟨p3,0,none⟩)) (.pointer (some ⟨p4,0,none⟩)) (.pointer (some ⟨p6,0,none⟩)) t7 next4 R w) (.int .i64 0) W:=by
 have h00:allR ta []=ta:=by
  unfold allR postA
  rw [List.filter_nil,List.append_nil]
  exact List.map_id'' (fun x=>rfl) ta
 refine loop1_intro (fun a w=>∃ (i g cap:Nat),a = .int .i64 (i:Int)∧i≤tb.length∧RAd w0 w p2 p3 p4 p6 g cap lo ba bb bs tva tvb (allR ta (tb.take i))) (fun a _=>tb.length - (intOf a).toNat) ⟨0,g,cap,rfl,by omega,by rw [List.take_zero,h00];exact h⟩ ?_
 rintro _ w ⟨i,g1,cap1,rfl,hi,hS⟩
 clear h
 obtain ⟨A1,c1,hv1,_,_,_,hel1⟩:=SliceOf.open (TermsOf.ext hTb hS.e)
 unfold n16c17
 by_cases hlt:i < tb.length
 · obtain ⟨t,ht⟩:=getElem?_lt hlt
   have d1:decide ((i:Int) < (tb.length:Int))=true:=decide_eq_true (by omega)
   have o3:=hS.h3
   rw [hv1] at o3
   simp (disch:=try exact DI) only [↓PR,QR,simprocAttr,(cells_of_heap o3).1,d1]
   exact ra_inner hTa hTb hla hlb hS ht fun w' g' cap' h'=>⟨⟨i+1,g',cap',rfl,hlt,h'⟩,meas_lt (kd := .i64) hlt⟩
 · obtain rfl:i=tb.length:=by omega
   have d1:decide ((tb.length:Int) < (tb.length:Int))=false:=decide_eq_false (by omega)
   have o3:=hS.h3
   rw [hv1] at o3
   simp (disch:=try exact DI) only [↓PR,QR,simprocAttr,(cells_of_heap o3).1,d1]
   rw [List.take_length] at hS
   exact hn w g1 cap1 hS
end
structure RAo (A w:World) (p10:Nat) (bs:Int) (tvo:Value) (out:List TermD):Prop where
 e:Ext A w
 l:A.heap.size≤p10
 h:w.heap[p10]?=some (.cells #[.int .i64 bs,tvo] TSz (0,0))
 hO:OwnE w (p10+1) TTm 2 termCells tvo out
theorem RAo.ext {A w w':World} {p10:Nat} {bs:Int} {tvo:Value} {out:List TermD} (h:RAo A w p10 bs tvo out) (e:Ext w w'):RAo A w' p10 bs tvo out:=⟨h.e.trans e,h.l,e.obj h.h,h.hO.ext e⟩
def nz (t:TermD):Bool:=decide (t.factor≠0)
theorem nz_snoc {all:List TermD} {i:Nat} {t:TermD} (ht:all[i]?=some t):(all.take (i+1)).filter nz=if nz t then (all.take i).filter nz++[t] else (all.take i).filter nz:=by
 rw [take_snoc ht,List.filter_append]
 cases h:nz t<;>simp [h]
section
variable {w0 A D:World} {p4 p6 p10:Nat} {ba bb bs:Int} {tv6 tvo:Value} {all out:List TermD} {R:RT}
theorem ra_keep (h6:A.heap[p6]?=some (.cells #[.int .i64 bs,tv6] TSz (0,0))) (hT:TermsOf A tv6 all) (h:RAo A D p10 bs tvo out) (hal:out.length≤10000) {i:Nat} {t:TermD} (ht:all[i]?=some t) {K14:World→Prop}
 (hn:∀ w' tvo',RAo A w' p10 bs tvo' (out++[t])→K14 w') :
 drawK D fun C16 w=>n16c9 (.pointer (some ⟨p6,0,none⟩)) (.pointer (some ⟨p10,0,none⟩)) (.int .i64 (i:Int)) C16 K14 R w:=by
 have hlp:=h.l
 have l6:=(Array.getElem?_eq_some_iff.1 h6).1
 have l10:=(Array.getElem?_eq_some_iff.1 h.h).1
 obtain ⟨g,hgd⟩:∃ g,g=tvo.ownBlock.getD D.heap.size:=⟨_,rfl⟩
 have hown:∀ b,tvo.ownBlock=some b→p10+1≤b∧b < D.heap.size:=fun b hb=>h.hO.lt b hb
 have hg:p10 < g:=by
  rw [hgd]
  cases hv:tvo.ownBlock with
  | none=>exact l10
  | some b=>have:=hown b hv;exact this.1
 have n6:p6≠g:=by omega
 have n10:p10≠g:=by omega
 obtain ⟨A1,c1,rfl,_,_,_,hel1⟩:=SliceOf.open hT
 obtain ⟨b1,o1,cs1,rfl,_,hB,rfl⟩:=hel1 i t ht
 have hb1:b1 < A.heap.size:=World.block_lt_of_cell? A _ (hB 0 _ rfl)
 have n1:b1≠g:=by omega
 have hBD:=hB.ext h.e
 have di:(i:Int) < (all.length:Int):=by have:=(List.getElem?_eq_some_iff.1 ht).1;omega
 have g6:=h.e.obj h6
 have hv1:=SliceOf.oneCell (own_terms h.hO)
 have hq:∀ K:Value→Prop,qV Pg (KB D g g) (Instr.loadAt TTm (.pointer (some ⟨b1,o1+i*2,none⟩))) K=K (termVal t):=fun K=>qV_eqC fun w' hw=>run_of_op fun QP k=>op_load (ElemAt.loads (w:=w') (cs:=termCells t) (fun j u hu=>KB.cell hw n1 n1 (hBD j u hu)) ty32 rfl)
 refine drawK_introB (w1:=D) g g (fun _ _ _ _=>rfl) ?_
 unfold n16c9
 simp (disch:=try exact DI) only [↓PR,QR,simprocAttr,(cells_of_heap h.h).1,(cells_of_heap g6).1,di,↓hq,termVal]
 generalize hA':World.alloc (World.drew D) _=w1
 have eA:Ext D w1:=by rw [← hA'];exact ee
 have oA:w1.heap[D.heap.size]?=some (.cells (termCells t).toArray TTm (0,0)):=by
  rw [← hA']
  have:=heap_new D.drew (termCells t).toArray TTm
  rw [World.size_drew] at this
  exact this
 have hzA:w1.heap.size=D.heap.size+1:=by rw [← hA'];simp
 clear hA'
 refine ⟨fun b hb _ _=>eA.block b hb,?_⟩
 have hA:=h.ext eA
 unfold n16c8
 refine append1_term t (b:=D.heap.size) hA.hO oA (by omega) (by omega) fun v' w' hO hgr=>?_
 have ht1:=SliceOf.oneCell (own_terms hO)
 have hb:∀ b,b < w1.heap.size→b≠g→w'.heap[b]?=w1.heap[b]?:=fun b h1 h2=>hgr.block b h1 fun e=>h2 (by rw [hgd,← e];rfl)
 have g10:=(hb p10 (by omega) n10).trans hA.h
 have e0':Ext A w':=hA.e.grown hgr fun q hq=>by
  have:=hown q hq
  omega
 refine ⟨fun b hb1 hb2 _=>(hb b (by omega) hb2).trans (eA.block b hb1),?_⟩
 simp (disch:=try exact DI) only [↓PR,QR,simprocAttr,(cells_of_heap g10).1,(cells_of_heap g10).2]
 refine turnK_intro ?_
 have hset:∀ b,b≠p10→(w'.setCell ⟨p10,1,none⟩ v').heap[b]?=w'.heap[b]?:=fun b hb=>Only.setCell _ p10 _ _ b hb
 exact hn _ v' ⟨e0'.setCell (p:=⟨p10,1,none⟩) hlp _,hlp,heap_set (o:=1) g10 _,OwnE.keep hO fun b hb=>hset b (by have:=(World.ownsRow.lt hO b hb).1;omega)⟩
def leftR (bs:Int) (all:List TermD):Int×List TermD×Int :=
 if !smallB bs||all.any (fun t=>!smallB t.factor) then (0,[],3) else if (all.filter nz).length > 4 then (0,[],7) else (bs,normR (all.filter nz),0)
theorem ra_left (e0:Ext w0 A) (l4:w0.heap.size≤p4) (h4:A.heap[p4]?=some (.cells #[.int .i64 0,.slice none 0 0] TSz (0,0))) (h6:A.heap[p6]?=some (.cells #[.int .i64 bs,tv6] TSz (0,0))) (hT:TermsOf A tv6 all) (hal:all.length≤2000) :
 n16c16 (.pointer (some ⟨p4,0,none⟩)) (.pointer (some ⟨p6,0,none⟩)) (retR fun u w'=>(∃ x,u = .tuple #[x,.int .i64 (leftR bs all).2.2]∧SizeVal w' x (leftR bs all).1 (leftR bs all).2.1)∧Ext w0 w') A:=by
 have l4A:=(Array.getElem?_eq_some_iff.1 h4).1
 unfold n16c16
 simp (disch:=try exact DI) only [↓PR,QR,simprocAttr,(cells_of_heap h6).1]
 have eB:Ext A (A.alloc (.cells #[.int .i64 bs,.slice none 0 0] TSz)):=(Ext.refl _).alloc _
 have oB:=heap_new A #[.int .i64 bs,.slice none 0 0] TSz
 simp (disch:=try exact DI) only [↓PR,QR,simprocAttr,(cells_of_heap (eB.obj h6)).1]
 generalize A.alloc (.cells #[.int .i64 bs,.slice none 0 0] TSz)=B at *
 generalize hp10:A.heap.size=p10 at *
 refine zcr (rsmall_ret B bs) fun w1 e1=>?_
 simp (disch:=try exact DI) only [↓PR,QR,simprocAttr]
 refine loop2_intro (fun b a w=>∃ (i:Nat) (tvo:Value),b = .bool (!smallB bs||(all.take i).any (fun t=>!smallB t.factor))∧a = .int .i64 (i:Int)∧i≤all.length∧RAo A w p10 bs tvo ((all.take i).filter nz)) (fun _ a _=>all.length - (intOf a).toNat) ⟨0,_,by simp,rfl,by omega,⟨eB.trans e1,by omega,e1.obj oB,OwnE.nil _ _ _ _ _⟩⟩ ?_
 rintro _ _ w ⟨i,tvo,rfl,rfl,hi,hS⟩
 have hwi:IntKind.i64.wrap ((i:Int)+1)=((i+1:Nat):Int):=by rw [wrap_ok (by omega) (by omega)];omega
 have g6:=hS.e.obj h6
 obtain ⟨A1,c1,hv6,_,_,_,hel1⟩:=SliceOf.open (TermsOf.ext hT hS.e)
 rw [hv6] at g6
 unfold n16c15
 by_cases hlt:i < all.length
 · obtain ⟨t,ht⟩:=getElem?_lt hlt
   obtain ⟨b1,o1,cs1,rfl,_,hB,rfl⟩:=hel1 i t ht
   have di:(i:Int) < (all.length:Int):=by omega
   have d1:decide ((i:Int) < (all.length:Int))=true:=decide_eq_true di
   have hany:((all.take (i+1)).any fun t=>!smallB t.factor)=(((all.take i).any fun t=>!smallB t.factor)||!smallB t.factor):=by
    rw [take_snoc ht,List.any_append]
    simp
   have fin:∀ w' tvo',RAo A w' p10 bs tvo' ((all.take (i+1)).filter nz)→n16c7 (.pointer (some ⟨p6,0,none⟩)) (.bool (!smallB bs||(all.take i).any (fun t=>!smallB t.factor))) (.int .i64 (i:Int)) (fun b a w'=>(∃ (i:Nat) (tvo:Value),b = .bool (!smallB bs||(all.take i).any (fun t=>!smallB t.factor))∧a = .int .i64 (i:Int)∧i≤all.length∧RAo A w' p10 bs tvo ((all.take i).filter nz))∧all.length - (intOf a).toNat < all.length - i) (retR fun u w'=>(∃ x,u = .tuple #[x,.int .i64 (leftR bs all).2.2]∧SizeVal w' x (leftR bs all).1 (leftR bs all).2.1)∧Ext w0 w') w':=by
    intro w' tvo' hS'
    have g6':=hS'.e.obj h6
    rw [hv6] at g6'
    have hB':ElemAt w' b1 (o1+i*2) (termCells t):=by
     obtain ⟨A2,c2,hv2,_,_,_,hel2⟩:=SliceOf.open (TermsOf.ext hT hS'.e)
     rw [hv6] at hv2
     injection hv2 with hv2 _ _
     obtain ⟨b2,o2,cs2,e2,_,hB2,e3⟩:=hel2 i t ht
     rw [← hv2] at e2
     injection e2 with e2
     injection e2 with e2 e4
     subst e2 e4
     rw [← e3]
     exact hB2
    have done:∀ (w2:World),Ext w' w2→(∃ (j:Nat) (tvo:Value),Value.bool ((!smallB bs||(all.take i).any (fun t=>!smallB t.factor))||!smallB t.factor) = .bool (!smallB bs||(all.take j).any (fun t=>!smallB t.factor))∧Value.int .i64 ((i+1:Nat):Int) = .int .i64 (j:Int)∧j≤all.length∧RAo A w2 p10 bs tvo ((all.take j).filter nz))∧all.length - (i+1) < all.length - i :=
     fun w2 e2=>⟨⟨i+1,tvo',by rw [hany,Bool.or_assoc],rfl,hlt,hS'.ext e2⟩,by omega⟩
    unfold n16c7
    cases hwd:(!smallB bs||(all.take i).any (fun t=>!smallB t.factor)) with
    | true =>
     rw [hwd,Bool.true_or] at done
     simp (disch:=try exact DI) only [↓PR,QR,simprocAttr,hwi]
     exact done w' (Ext.refl _)
    | false =>
     rw [hwd,Bool.false_or] at done
     simp (disch:=try exact DI) only [↓PR,QR,simprocAttr,(cells_of_heap g6').1,di,(hB'.c2 (Ext.refl _)).1,(hB'.c2 (Ext.refl _)).2]
     refine zcr (rsmall_ret w' t.factor) fun w2 e2=>?_
     simp (disch:=try exact DI) only [↓PR,QR,simprocAttr,hwi]
     exact done w2 e2
   unfold n16c14
   by_cases hz:t.factor=0
   · have hb:nz t=false:=by unfold nz;rw [hz];rfl
     have hbn:(t.factor != 0)=false:=by rw [hz];rfl
     have hfs:=nz_snoc ht
     rw [hb,if_neg (by decide)] at hfs
     simp (disch:=try exact DI) only [↓PR,QR,simprocAttr,(cells_of_heap g6).1,d1,di,(hB.c2 (Ext.refl _)).1,(hB.c2 (Ext.refl _)).2,hbn]
     exact fin w tvo (by rw [hfs];exact hS)
   · have hb:nz t=true:=by unfold nz;exact decide_eq_true hz
     have hbn:(t.factor != 0)=true:=by simpa using hz
     have hfs:=nz_snoc ht
     rw [hb,if_pos rfl] at hfs
     simp (disch:=try exact DI) only [↓PR,QR,simprocAttr,(cells_of_heap g6).1,d1,di,(hB.c2 (Ext.refl _)).1,(hB.c2 (Ext.refl _)).2,hbn]
     refine ra_keep h6 hT hS ?_ ht fun w' tvo' hS'=>fin w' tvo' (by rw [hfs];exact hS')
     have:=List.length_filter_le nz (all.take i)
     rw [List.length_take] at this
     omega
 · obtain rfl:i=all.length:=by omega
   have d1:decide ((all.length:Int) < (all.length:Int))=false:=decide_eq_false (by omega)
   rw [List.take_length] at hS ⊢
   have g4:=hS.e.obj h4
   have hvo:=SliceOf.oneCell (own_terms hS.hO)
   obtain ⟨Ao,co,hvv,_,_,_,_⟩:=SliceOf.open (own_terms hS.hO)
   have l10:=hS.l
   have E:=e0.trans hS.e
   unfold leftR
   cases hwd:(!smallB bs||all.any (fun t=>!smallB t.factor)) with
   | true =>
    simp (disch:=try exact DI) only [↓PR,QR,simprocAttr,(cells_of_heap g6).1,d1]
    unfold n16c12
    simp (disch:=try exact DI) only [↓PR,QR,simprocAttr,(cells_of_heap g4).1,(cells_of_heap g4).2]
    exact ⟨⟨_,rfl,_,rfl,SliceOf.nil _ _ _⟩,(E.setCell (p:=⟨p4,0,none⟩) l4 _).setCell (p:=⟨p4,1,none⟩) l4 _⟩
   | false =>
    simp (disch:=try exact DI) only [↓PR,QR,simprocAttr,(cells_of_heap g6).1,d1]
    unfold n16c13
    have g10:=hS.h
    by_cases hlen:(all.filter nz).length > 4
    · have d4:decide (((all.filter nz).length:Int) > 4)=true:=decide_eq_true (by omega)
      rw [hvv] at g10
      rw [if_pos hlen]
      simp (disch:=try exact DI) only [↓PR,QR,simprocAttr,(cells_of_heap g10).1,d4]
      unfold n16c10
      simp (disch:=try exact DI) only [↓PR,QR,simprocAttr,(cells_of_heap g4).1,(cells_of_heap g4).2]
      exact ⟨⟨_,rfl,_,rfl,SliceOf.nil _ _ _⟩,(E.setCell (p:=⟨p4,0,none⟩) l4 _).setCell (p:=⟨p4,1,none⟩) l4 _⟩
    · have d4:decide (((all.filter nz).length:Int) > 4)=false:=decide_eq_false (by omega)
      rw [hvv] at g10
      rw [if_neg hlen]
      simp (disch:=try exact DI) only [↓PR,QR,simprocAttr,(cells_of_heap g10).1,d4]
      unfold n16c11
      simp (disch:=try exact DI) only [↓PR,QR,simprocAttr,(cells_of_heap g10).1]
      refine callK_ret (rNormal_ret w _ bs (all.filter nz) ⟨_,rfl,by rw [← hvv];exact own_terms hS.hO⟩ (by omega)) ?_
      rintro _ w2 ⟨⟨tv,rfl,hN⟩,e2⟩
      have k4:=e2.obj g4
      have ht1:=SliceOf.oneCell (own_terms hN)
      simp (disch:=try exact DI) only [↓PR,QR,simprocAttr,(cells_of_heap k4).1,(cells_of_heap k4).2]
      have l4w:=(Array.getElem?_eq_some_iff.1 g4).1
      refine ⟨⟨_,rfl,tv,rfl,own_terms (OwnE.keep hN fun g hg=>?_)⟩,((E.trans e2).setCell (p:=⟨p4,0,none⟩) l4 _).setCell (p:=⟨p4,1,none⟩) l4 _⟩
      have:=(World.ownsRow.lt hN g hg).1
      rw [Only.setCell _ p4 _ _ g (by omega),Only.setCell _ p4 _ _ g (by omega)]
end
def raddP (ba:Int) (ta:List TermD) (bb:Int) (tb:List TermD):Int×List TermD×Int :=
 if sizeB ba ta&&sizeB bb tb then leftR (IntKind.i64.wrap (ba+bb)) (allR ta tb) else (0,[],2)
section
variable {w0 W:World} {p2 p3 p4:Nat} {ba bb:Int} {tva tvb:Value} {ta tb:List TermD}
theorem ra_copy (e:Ext w0 W) (hTa:TermsOf w0 tva ta) (hTb:TermsOf w0 tvb tb) (hla:ta.length≤1000) (hlb:tb.length≤1000) (l4:w0.heap.size≤p4) (o2:W.heap[p2]?=some (.cells #[.int .i64 ba,tva] TSz (0,0))) (o3:W.heap[p3]?=some (.cells #[.int .i64 bb,tvb] TSz (0,0))) (o4:W.heap[p4]?=some (.cells #[.int .i64 0,.slice none 0 0] TSz (0,0))) {q:Int×List TermD×Int} (hq:q=leftR (IntKind.i64.wrap (ba+bb)) (allR ta tb)) :
 drawK W fun C2 w=>n16c22 (.pointer (some ⟨p2,0,none⟩)) (.pointer (some ⟨p3,0,none⟩)) (.pointer (some ⟨p4,0,none⟩)) C2 (retR fun u w'=>(∃ x,u = .tuple #[x,.int .i64 q.2.2]∧SizeVal w' x q.1 q.2.1)∧Ext w0 w') w:=by
 subst hq
 refine drawK_intro ?_
 have eD:Ext W W.drew:=(Ext.refl W).drew
 have E:=e.trans eD
 have g2:=eD.obj o2
 have g3:=eD.obj o3
 have g4:=eD.obj o4
 change n16c22 _ _ _ (EC W.drew) _ W.drew
 generalize W.drew=D at *
 have q2:=(Array.getElem?_eq_some_iff.1 g2).1
 have q3:=(Array.getElem?_eq_some_iff.1 g3).1
 have q4:=(Array.getElem?_eq_some_iff.1 g4).1
 have hlD:=E.size
 have hTD:=TermsOf.ext hTa E
 have hv1:=SliceOf.oneCell hTa
 have hv2:=SliceOf.oneCell hTb
 have key:∀ (w':World) (p6 g cap:Nat),Ext D w'→D.heap.size≤p6→g≠p6→w'.heap[p6]?=some (.cells #[.int .i64 (IntKind.i64.wrap (ba+bb)),.slice (some ⟨g,0,none⟩) ta.length cap] TSz (0,0))→OwnE w' D.heap.size TTm 2 termCells (.slice (some ⟨g,0,none⟩) ta.length cap) ta →
  loop1 (fun t7 w next4=>n16c17 (.pointer (some ⟨p2,0,none⟩)) (.pointer (some ⟨p3,0,none⟩)) (.pointer (some ⟨p4,0,none⟩)) (.pointer (some ⟨p6,0,none⟩)) t7 next4 (retR fun u w'=>(∃ x,u = .tuple #[x,.int .i64 (leftR (IntKind.i64.wrap (ba+bb)) (allR ta tb)).2.2]∧SizeVal w' x (leftR (IntKind.i64.wrap (ba+bb)) (allR ta tb)).1 (leftR (IntKind.i64.wrap (ba+bb)) (allR ta tb)).2.1)∧Ext w0 w') w) (.int .i64 0) w':=by
  intro w' p6 g cap e' h6 hng o6 hO
  refine ra_outer (lo:=D.heap.size) (bs:=IntKind.i64.wrap (ba+bb)) (ba:=ba) (bb:=bb) hTa hTb hla hlb (g:=g) (cap:=cap) ⟨E.trans e',q2,q3,q4,hlD,l4,h6,hng,e'.obj g2,e'.obj g3,e'.obj g4,o6,hO⟩ fun w2 g' cap' h'=>?_
  refine ra_left h'.e l4 h'.h4 h'.h6 (own_terms h'.hO) ?_
  have:=postA_len ta tb
  unfold allR
  rw [List.length_append,List.length_map]
  omega
 have fin:∀ (w':World) (p6 g cap:Nat),Ext D w'→D.heap.size≤p6→g≠p6→w'.heap[p6]?=some (.cells #[.int .i64 0,.slice none 0 0] TSz (0,0))→OwnE w' D.heap.size TTm 2 termCells (.slice (some ⟨g,0,none⟩) ta.length cap) ta →
  loop1 (fun t7 w next4=>n16c17 (.pointer (some ⟨p2,0,none⟩)) (.pointer (some ⟨p3,0,none⟩)) (.pointer (some ⟨p4,0,none⟩)) (.pointer (some ⟨p6,0,none⟩)) t7 next4 (retR fun u w'=>(∃ x,u = .tuple #[x,.int .i64 (leftR (IntKind.i64.wrap (ba+bb)) (allR ta tb)).2.2]∧SizeVal w' x (leftR (IntKind.i64.wrap (ba+bb)) (allR ta tb)).1 (leftR (IntKind.i64.wrap (ba+bb)) (allR ta tb)).2.1)∧Ext w0 w') w) (.int .i64 0) ((w'.setCell ⟨p6,0,none⟩ (.int .i64 (IntKind.i64.wrap (ba+bb)))).setCell ⟨p6,1,none⟩ (.slice (some ⟨g,0,none⟩) ta.length cap)):=by
  intro w' p6 g cap e' h1 h2 h7 hO
  refine key _ p6 g cap ((e'.setCell (p:=⟨p6,0,none⟩) h1 _).setCell (p:=⟨p6,1,none⟩) h1 _) h1 h2 (heap_set (o:=1) (heap_set (o:=0) h7 _) _) (OwnE.keep hO fun b hb=>?_)
  have hb:g=b:=Option.some.inj hb
  rw [Only.setCell _ p6 _ _ b (by omega),Only.setCell _ p6 _ _ b (by omega)]
 unfold n16c22
 simp (disch:=try exact DI) only [↓PR,QR,simprocAttr,(cells_of_heap g2).1,(cells_of_heap g3).1]
 have hnew:∀ w:World,OwnE (w.alloc (.cells #[] TTm)) w.heap.size TTm 2 termCells (.slice (some ⟨w.heap.size,0,none⟩) 0 0) []:=fun w=>OwnE.new w TTm 2 termCells [] (fun _=>rfl) (by decide)
 have eN:Ext D (D.alloc (.cells #[] TTm)):=(Ext.refl _).alloc _
 have hN:=hnew D
 have hzN:(D.alloc (.cells #[] TTm)).heap.size=D.heap.size+1:=World.size_alloc ..
 have eP:Ext D (D.alloc (.cells #[.int .i64 0,.slice none 0 0] TSz)):=(Ext.refl _).alloc _
 have oP:=heap_new D #[.int .i64 0,.slice none 0 0] TSz
 have hzP:(D.alloc (.cells #[.int .i64 0,.slice none 0 0] TSz)).heap.size=D.heap.size+1:=World.size_alloc ..
 refine ⟨⟨eN,?_⟩,eP,eP.alloc _,?_⟩
 · unfold n16c20
   change (opV _ _ _ (D.alloc (.cells #[] TTm)) _)∧(opV _ _ _ (D.alloc (.cells #[] TTm)) _)
   generalize D.alloc (.cells #[] TTm)=w1 at *
   refine ⟨?_,?_⟩
   · refine appendL_term (a:=D) hN (hTD.ext eN) (by omega) (by omega) eN (Nat.le_refl _) (by omega) fun g cap w' hO hg hgl hsz e' hk=>⟨e',?_⟩
     unfold n16c18
     have hO1:=SliceOf.oneCell (own_terms hO)
     simp (disch:=try exact DI) only [↓PR,QR,simprocAttr]
     refine ⟨e'.alloc _,turnK_intro ?_⟩
     have eA:Ext w' (w'.alloc (.cells #[.int .i64 (IntKind.i64.wrap (ba+bb)),.slice (some ⟨g,0,none⟩) ta.length cap] TSz)):=(Ext.refl _).alloc _
     exact key _ _ g cap (e'.trans eA) (by have:=e'.size;omega) (by omega) (heap_new _ _ _) (hO.ext eA)
   · simp (disch:=try exact DI) only [↓PR,QR,simprocAttr]
     have eZ:Ext w1 (w1.alloc (.cells #[.int .i64 0,.slice none 0 0] TSz)):=(Ext.refl _).alloc _
     have oZ:=heap_new w1 #[.int .i64 0,.slice none 0 0] TSz
     have hzZ:(w1.alloc (.cells #[.int .i64 0,.slice none 0 0] TSz)).heap.size=w1.heap.size+1:=World.size_alloc ..
     refine ⟨eN.trans eZ,?_⟩
     unfold n16c19
     change opV _ _ _ (w1.alloc (.cells #[.int .i64 0,.slice none 0 0] TSz)) _
     generalize w1.alloc (.cells #[.int .i64 0,.slice none 0 0] TSz)=w2 at *
     refine appendL_term (a:=D) (hN.ext eZ) (hTD.ext (eN.trans eZ)) (by omega) (by omega) (eN.trans eZ) (Nat.le_refl _) (by omega) fun g cap w' hO hg hgl hsz e' hk=>⟨e',?_⟩
     have hO1:=SliceOf.oneCell (own_terms hO)
     have o7:=(hk w1.heap.size (by omega) (by omega)).trans oZ
     simp (disch:=try exact DI) only [↓PR,QR,simprocAttr,(cells_of_heap o7).1,(cells_of_heap o7).2]
     refine turnK_intro ?_
     exact fin w' w1.heap.size g cap e' (by omega) (by omega) o7 hO
 · unfold n16c21
   have hN2:=hnew (D.alloc (.cells #[.int .i64 0,.slice none 0 0] TSz))
   have eN2:Ext (D.alloc (.cells #[.int .i64 0,.slice none 0 0] TSz)) ((D.alloc (.cells #[.int .i64 0,.slice none 0 0] TSz)).alloc (.cells #[] TTm)):=(Ext.refl _).alloc _
   have hzN2:((D.alloc (.cells #[.int .i64 0,.slice none 0 0] TSz)).alloc (.cells #[] TTm)).heap.size=D.heap.size+1+1:=by simp
   rw [hzP] at hN2
   change opV _ _ _ ((D.alloc (.cells #[.int .i64 0,.slice none 0 0] TSz)).alloc (.cells #[] TTm)) _
   generalize ((D.alloc (.cells #[.int .i64 0,.slice none 0 0] TSz)).alloc (.cells #[] TTm))=w2 at *
   generalize D.alloc (.cells #[.int .i64 0,.slice none 0 0] TSz)=w1 at *
   refine appendL_term (a:=D) (hN2.base (Nat.le_succ _)) (hTD.ext (eP.trans eN2)) (by omega) (by omega) (eP.trans eN2) (Nat.le_succ _) (by omega) fun g cap w' hO hg hgl hsz e' hk=>⟨e',?_⟩
   have hO1:=SliceOf.oneCell (own_terms hO)
   have o7:=(hk D.heap.size (by omega) (by omega)).trans (eN2.obj oP)
   simp (disch:=try exact DI) only [↓PR,QR,simprocAttr,(cells_of_heap o7).1,(cells_of_heap o7).2]
   refine turnK_intro ?_
   exact fin w' D.heap.size g cap e' (Nat.le_refl _) (by omega) o7 hO
end
theorem rAdd_ret (w0:World) (va vb:Value) (ba bb:Int) (ta tb:List TermD) (ha:SizeVal w0 va ba ta) (hb:SizeVal w0 vb bb tb) (hla:ta.length≤400) (hlb:tb.length≤400) :
 Ret Pg 31 #[va,vb] w0 fun u w'=>(∃ x,u = .tuple #[x,.int .i64 (raddP ba ta bb tb).2.2]∧SizeVal w' x (raddP ba ta bb tb).1 (raddP ba ta bb tb).2.1)∧Ext w0 w':=by
 obtain ⟨tva,rfl,hTa⟩:=ha
 obtain ⟨tvb,rfl,hTb⟩:=hb
 have h1:=SliceOf.oneCell hTa
 have h2:=SliceOf.oneCell hTb
 unfold raddP
 refine n16s (R:=retR _) ?_;unfold n16
 simp (disch:=try exact DI) only [↓PR,QR,simprocAttr]
 simp only [World.size_alloc]
 generalize hW:World.alloc (World.alloc (World.alloc w0 _) _) _=W
 have e0:Ext w0 W:=by rw [← hW];exact ee
 have o2:W.heap[w0.heap.size]?=some (.cells #[.int .i64 ba,tva] TSz (0,0)):=by rw [← hW];simp (disch:=try exact DI) only [↓PR,QR,simprocAttr]
 have o3:W.heap[w0.heap.size+1]?=some (.cells #[.int .i64 bb,tvb] TSz (0,0)):=by rw [← hW];simp (disch:=try exact DI) only [↓PR,QR,simprocAttr]
 have o4:W.heap[w0.heap.size+1+1]?=some (.cells #[.int .i64 0,.slice none 0 0] TSz (0,0)):=by rw [← hW];simp (disch:=try exact DI) only [↓PR,QR,simprocAttr]
 clear hW
 refine zcr (rSizeValid_ret W _ ba ta ⟨tva,rfl,TermsOf.ext hTa e0⟩) fun w1 e1=>?_
 have bad:∀ w2,Ext W w2→n16c23 (.pointer (some ⟨w0.heap.size+1+1,0,none⟩)) (retR fun u w'=>(∃ x,u = .tuple #[x,.int .i64 2]∧SizeVal w' x 0 [])∧Ext w0 w') w2:=by
  intro w2 e2
  have g4:=e2.obj o4
  unfold n16c23
  simp (disch:=try exact DI) only [↓PR,QR,simprocAttr,(cells_of_heap g4).1,(cells_of_heap g4).2]
  exact ⟨⟨_,rfl,_,rfl,SliceOf.nil _ _ _⟩,((e0.trans e2).setCell (p:=⟨w0.heap.size+1+1,0,none⟩) (by show w0.heap.size≤w0.heap.size+1+1;omega) _).setCell (p:=⟨w0.heap.size+1+1,1,none⟩) (by show w0.heap.size≤w0.heap.size+1+1;omega) _⟩
 cases hva:sizeB ba ta with
 | false =>
  simp (disch:=try exact DI) only [↓PR,QR,simprocAttr,↓n16c24]
  exact bad w1 e1
 | true =>
  simp (disch:=try exact DI) only [↓PR,QR,simprocAttr,↓n16c24,(cells_of_heap (e1.obj o3)).1]
  refine zcr (rSizeValid_ret w1 _ bb tb ⟨tvb,rfl,TermsOf.ext hTb (e0.trans e1)⟩) fun w2 e2=>?_
  have e12:=e1.trans e2
  cases hvb:sizeB bb tb with
  | false =>
   simp (disch:=try exact DI) only [↓PR,QR,simprocAttr]
   exact bad w2 e12
  | true =>
   simp (disch:=try exact DI) only [↓PR,QR,simprocAttr]
   exact ra_copy (e0.trans e12) hTa hTb (by omega) (by omega) (by omega) (e12.obj o2) (e12.obj o3) (e12.obj o4) rfl
abbrev fieldsL (l:List TermD):List ByteArray:=l.map (·.field)
def ltT (x y:TermD):Prop:=x.field.data.toList < y.field.data.toList
theorem insT_perm (x:TermD) (l:List TermD):(insT x l).Perm (x::l):=by
 unfold insT
 refine List.perm_middle.trans (List.Perm.cons x ?_)
 rw [List.takeWhile_append_dropWhile]
theorem normR_perm:∀ (ts acc:List TermD),(ts.foldl (fun acc t=>insT t acc) acc).Perm (ts++acc)
 | [],acc=>List.Perm.refl _
 | t::ts,acc=>by
  rw [List.foldl_cons,List.cons_append]
  refine (normR_perm ts _).trans ?_
  refine ((insT_perm t acc).append_left ts).trans ?_
  exact List.perm_middle
theorem lt_of_ne {x y:TermD} (h:lessT x y=false) (hne:x.field≠y.field):ltT x y:=by
 unfold lessT at h
 have h1:¬ y.field.data.toList < x.field.data.toList:=of_decide_eq_false h
 refine Classical.byContradiction fun h2=>hne (bytes_ext (List.le_antisymm (List.not_lt.1 h1) (List.not_lt.1 h2)))
theorem insT_sorted {x:TermD} {l:List TermD} (hs:l.Pairwise ltT) (hn:x.field ∉ fieldsL l):(insT x l).Pairwise ltT:=by
 have hl:l.takeWhile (lessT x)++l.dropWhile (lessT x)=l:=List.takeWhile_append_dropWhile
 have h1:∀ y∈l.takeWhile (lessT x),ltT y x:=fun y hy=>by
  have h0:lessT x y=true:=List.all_eq_true.1 (List.all_takeWhile (p:=lessT x) (l:=l)) y hy
  unfold lessT at h0
  exact (decide_eq_true_iff (p:=y.field.data.toList < x.field.data.toList)).1 h0
 unfold insT
 rw [← hl] at hs
 obtain ⟨a1,a2,a3⟩:=List.pairwise_append.1 hs
 have h2:∀ z∈l.dropWhile (lessT x),ltT x z:=by
  intro z hz
  have hzl:z∈l:=by rw [← hl];exact List.mem_append_right _ hz
  cases hd:l.dropWhile (lessT x) with
  | nil=>rw [hd] at hz;cases hz
  | cons d r =>
   have hdl:d∈l:=by rw [← hl,hd];exact List.mem_append_right _ List.mem_cons_self
   have hnd:lessT x d=false:=by
    have:=List.head_dropWhile_not (lessT x) (l:=l) (by rw [hd];exact List.cons_ne_nil _ _)
    simp only [hd,List.head_cons] at this
    simpa using this
   have hxd:ltT x d:=lt_of_ne hnd fun e=>hn (by rw [e];exact List.mem_map_of_mem hdl)
   rw [hd] at hz a2
   rcases List.mem_cons.1 hz with rfl | hz
   · exact hxd
   · exact List.lt_trans hxd ((List.pairwise_cons.1 a2).1 z hz)
 refine List.pairwise_append.2 ⟨a1,List.pairwise_cons.2 ⟨h2,a2⟩,fun y hy z hz=>?_⟩
 rcases List.mem_cons.1 hz with rfl | hz
 · exact h1 y hy
 · exact a3 y hy z hz
theorem normR_sorted:∀ (ts acc:List TermD),acc.Pairwise ltT→(fieldsL ts).Nodup→(∀ t∈ts,t.field ∉ fieldsL acc)→(ts.foldl (fun acc t=>insT t acc) acc).Pairwise ltT
 | [],acc,h,_,_=>h
 | t::ts,acc,h,hn,hd=>by
  rw [List.foldl_cons]
  obtain ⟨h1,h2⟩:=List.nodup_cons.1 hn
  refine normR_sorted ts _ (insT_sorted h (hd t List.mem_cons_self)) h2 fun u hu hm=>?_
  have:=((insT_perm t acc).map (·.field)).mem_iff.1 hm
  rw [List.map_cons,List.mem_cons] at this
  rcases this with h3 | h3
  · have h4:t.field=u.field:=h3.symm
    exact h1 (List.mem_map.2 ⟨u,hu,h4.symm⟩)
  · exact hd u (List.mem_cons_of_mem _ hu) h3
theorem normR_mem {ts:List TermD} {t:TermD}:t∈normR ts↔t∈ts:=by
 have:=(normR_perm ts []).mem_iff (a:=t)
 rwa [List.append_nil] at this
theorem sumT1_eq {l out:List TermD} (hn:(fieldsL out).Nodup) (h1:∀ t∈out,t.factor=addF t.field l∧addF t.field l≠0) (h2:∀ s,addF s l≠0→s∈fieldsL out):sumT1 l=normR out:=by
 have hs:(fieldsL (normR out)).Pairwise (fun x y=>x.data.toList < y.data.toList):=by
  rw [List.pairwise_map]
  exact normR_sorted out [] List.Pairwise.nil hn fun _ _ h=>by cases h
 have hf:fieldsL (normR out)=sortB ((dedupB (l.map (·.field))).filter fun s=>decide (addF s l≠0)):=by
  refine strict_ext hs (sortB_strict ((nodup_dedupB _).filter _)) fun s=>?_
  rw [mem_sortB,List.mem_filter,mem_dedupB,decide_eq_true_eq]
  constructor
  · intro h
    obtain ⟨t,ht,rfl⟩:=List.mem_map.1 h
    have:=(h1 t (normR_mem.1 ht)).2
    exact ⟨addF_mem this,this⟩
  · rintro ⟨_,h⟩
    obtain ⟨t,ht,rfl⟩:=List.mem_map.1 (h2 s h)
    exact List.mem_map_of_mem (normR_mem.2 ht)
 unfold sumT1
 rw [← hf,List.map_map]
 refine (List.map_congr_left fun t ht=>?_).trans (List.map_id _)
 obtain ⟨h3,_⟩:=h1 t (normR_mem.1 ht)
 simp only [Function.comp,id]
 rw [← h3]
theorem addW_out {s:ByteArray}:∀ (l:List TermD) (n:Int),s ∉ fieldsL l→addW n s l=n
 | [],n,_=>rfl
 | t::l,n,h=>by
  have h:¬ (s=t.field∨s∈fieldsL l):=fun e=>h (List.mem_cons.2 e)
  have:addW n s (t::l)=addW (if t.field=s then IntKind.i64.wrap (n+t.factor) else n) s l:=rfl
  rw [this,if_neg (fun e=>h (.inl e.symm)),addW_out l n fun e=>h (.inr e)]
theorem addW_in:∀ (l:List TermD) (n:Int) (x:TermD),x∈l→(fieldsL l).Nodup→addW n x.field l=IntKind.i64.wrap (n+x.factor)
 | [],_,_,h,_=>by cases h
 | t::l,n,x,h,hn=>by
  obtain ⟨h1,h2⟩:=List.nodup_cons.1 hn
  have he:addW n x.field (t::l)=addW (if t.field=x.field then IntKind.i64.wrap (n+t.factor) else n) x.field l:=rfl
  rw [he]
  rcases List.mem_cons.1 h with rfl | h
  · rw [if_pos rfl,addW_out l _ h1]
  · have hne:¬ t.field=x.field:=fun e=>h1 (List.mem_map.2 ⟨x,h,e.symm⟩)
    rw [if_neg hne,addW_in l n x h h2]
theorem addF_app (s:ByteArray) (a b:List TermD):addF s (a++b)=addW (addF s a) s b:=by
 unfold addF addW
 rw [List.foldl_append]
theorem addF_in {l:List TermD} {x:TermD} (h:x∈l) (hn:(fieldsL l).Nodup) (hs:smallB x.factor=true):addF x.field l=x.factor:=by
 have:=addW_in l 0 x h hn
 have h2:=small_iff.1 hs
 rw [Int.zero_add,wrap_ok (by omega) (by omega)] at this
 exact this
theorem addF_out {l:List TermD} {s:ByteArray} (h:s ∉ fieldsL l):addF s l=0:=addW_out l 0 h
theorem terms_nodup:∀ (ts:List TermD) (seen:List ByteArray),termsB seen ts=true→(fieldsL ts).Nodup∧∀ t∈ts,t.field ∉ seen
 | [],seen,_=>⟨List.nodup_nil,fun _ h=>by cases h⟩
 | t::ts,seen,h=>by
  simp only [termsB,Bool.and_eq_true,Bool.not_eq_true'] at h
  obtain ⟨⟨h1,_⟩,h3⟩:=h
  obtain ⟨h4,h5⟩:=terms_nodup ts _ h3
  have h6:t.field ∉ seen:=fun hm=>by
   have:memB seen t.field=true:=by
    unfold memB
    simpa using hm
   rw [h1] at this
   cases this
  refine ⟨List.nodup_cons.2 ⟨fun hm=>?_,h4⟩,fun u hu=>?_⟩
  · obtain ⟨u,hu,he⟩:=List.mem_map.1 hm
    exact h5 u hu (by rw [he];simp)
  · rcases List.mem_cons.1 hu with rfl | hu
    · exact h6
    · exact fun hm=>h5 u hu (List.mem_append_left _ hm)
structure Fine (ts:List TermD):Prop where
 nd:(fieldsL ts).Nodup
 sm:∀ t∈ts,smallB t.factor=true
 nz:∀ t∈ts,t.factor≠0
 len:ts.length≤4
theorem size_fine {b:Int} {ts:List TermD} (h:sizeB b ts=true):Fine ts∧smallB b=true:=by
 unfold sizeB at h
 simp only [Bool.and_eq_true,decide_eq_true_eq] at h
 have h1:=terms_all ts [] h.2
 refine ⟨⟨(terms_nodup ts [] h.2).1,fun t ht=>?_,fun t ht=>?_,h.1.2⟩,h.1.1⟩
 · have:=h1 t ht
   unfold termB at this
   simp only [Bool.and_eq_true] at this
   exact this.2
 · have:=h1 t ht
   unfold termB at this
   simp only [Bool.and_eq_true,bne_iff_ne] at this
   exact this.1.2
theorem inA_iff {a:List TermD} {t:TermD}:inA a t=true↔t.field∈fieldsL a:=by
 unfold inA
 rw [List.any_eq_true,List.mem_map]
 constructor
 · rintro ⟨x,hx,h⟩
   exact ⟨x,hx,of_decide_eq_true h⟩
 · rintro ⟨x,hx,h⟩
   exact ⟨x,hx,decide_eq_true h⟩
theorem allR_fac {a b:List TermD} (ha:Fine a) (hb:Fine b) {t:TermD} (h:t∈allR a b):t.factor=addF t.field (a++b):=by
 unfold allR at h
 rw [addF_app]
 rcases List.mem_append.1 h with h | h
 · obtain ⟨x,hx,rfl⟩:=List.mem_map.1 h
   show addW x.factor x.field b=addW (addF x.field a) x.field b
   rw [addF_in hx ha.nd (ha.sm x hx)]
 · unfold postA at h
   rw [List.mem_filter] at h
   obtain ⟨h1,h2⟩:=h
   have h3:t.field ∉ fieldsL a:=fun hm=>by rw [inA_iff.2 hm] at h2;cases h2
   rw [addF_out h3]
   exact (addF_in h1 hb.nd (hb.sm t h1)).symm
theorem allR_fields (a b:List TermD):fieldsL (allR a b)=fieldsL a++fieldsL (postA a b):=by
 unfold allR fieldsL
 rw [List.map_append,List.map_map]
 rfl
theorem allR_nodup {a b:List TermD} (ha:Fine a) (hb:Fine b):(fieldsL (allR a b)).Nodup:=by
 rw [allR_fields]
 refine List.nodup_append.2 ⟨ha.nd,hb.nd.sublist ((List.filter_sublist).map _),fun x hx y hy e=>?_⟩
 subst e
 obtain ⟨t,ht,rfl⟩:=List.mem_map.1 hy
 unfold postA at ht
 rw [List.mem_filter] at ht
 rw [inA_iff.2 hx] at ht
 exact absurd ht.2 (by decide)
theorem allR_has {a b:List TermD} {s:ByteArray} (h:s∈fieldsL (a++b)):s∈fieldsL (allR a b):=by
 rw [allR_fields]
 have h:s∈fieldsL a++fieldsL b:=by unfold fieldsL at *;rwa [List.map_append] at h
 by_cases hm:s∈fieldsL a
 · exact List.mem_append_left _ hm
 · rcases List.mem_append.1 h with h | h
   · exact absurd h hm
   · obtain ⟨t,ht,rfl⟩:=List.mem_map.1 h
     refine List.mem_append_right _ (List.mem_map_of_mem (List.mem_filter.2 ⟨ht,?_⟩))
     cases hc:inA a t with
     | false=>rfl
     | true=>exact absurd (inA_iff.1 hc) hm
theorem sum_left {a b:List TermD} (ha:Fine a) (hb:Fine b):sumT1 (a++b)=normR ((allR a b).filter nz):=by
 refine sumT1_eq ((allR_nodup ha hb).sublist ((List.filter_sublist).map _)) (fun t ht=>?_) (fun s hs=>?_)
 · rw [List.mem_filter] at ht
   have:=allR_fac ha hb ht.1
   exact ⟨this,by rw [← this];exact of_decide_eq_true ht.2⟩
 · obtain ⟨t,ht,rfl⟩:=List.mem_map.1 (allR_has (addF_mem hs))
   refine List.mem_map_of_mem (List.mem_filter.2 ⟨ht,?_⟩)
   rw [← allR_fac ha hb ht] at hs
   exact decide_eq_true hs
theorem any_left (all:List TermD):(normR (all.filter nz)).any (fun t=>!smallB t.factor)=all.any fun t=>!smallB t.factor:=by
 rw [Bool.eq_iff_iff,List.any_eq_true,List.any_eq_true]
 constructor
 · rintro ⟨t,ht,h⟩
   exact ⟨t,(List.mem_filter.1 (normR_mem.1 ht)).1,h⟩
 · rintro ⟨t,ht,h⟩
   refine ⟨t,normR_mem.2 (List.mem_filter.2 ⟨ht,decide_eq_true fun e=>?_⟩),h⟩
   rw [e] at h
   exact absurd h (by decide)
theorem add_eq (ba bb:Int) (ta tb:List TermD):raddP ba ta bb tb=addP ba ta bb tb:=by
 unfold raddP addP
 cases h:(sizeB ba ta&&sizeB bb tb) with
 | false=>rfl
 | true =>
  rw [if_pos rfl,if_pos rfl]
  rw [Bool.and_eq_true] at h
  obtain ⟨ha,_⟩:=size_fine h.1
  obtain ⟨hb,_⟩:=size_fine h.2
  unfold leftR
  rw [sum_left ha hb,any_left]
  have:(normR ((allR ta tb).filter nz)).length=((allR ta tb).filter nz).length:=by
   unfold normR
   rw [normR_len]
   simp
  rw [this]
theorem norm_ok {b:Int} {ts:List TermD} (h:sizeB b ts=true):normP b ts=(b,normR ts,0):=by
 obtain ⟨hf,hb⟩:=size_fine h
 have h0:sizeB 0 []=true:=rfl
 have hall:allR ts []=ts:=by
  unfold allR postA
  rw [List.filter_nil,List.append_nil]
  exact List.map_id'' (fun x=>rfl) ts
 have hfl:ts.filter nz=ts:=List.filter_eq_self.2 fun t ht=>decide_eq_true (hf.nz t ht)
 have hany:ts.any (fun t=>!smallB t.factor)=false:=by
  rw [List.any_eq_false]
  intro t ht
  rw [hf.sm t ht]
  decide
 have hb':=small_iff.1 hb
 have hw:IntKind.i64.wrap (b+0)=b:=by rw [Int.add_zero,wrap_ok (by omega) (by omega)]
 unfold normP
 rw [← add_eq]
 unfold raddP leftR
 rw [h,h0,hall,hfl,hany,hw,hb]
 have:=hf.len
 simp only [Bool.and_self,if_true,Bool.not_true,Bool.or_self,Bool.false_eq_true,if_false]
 rw [if_neg (by omega)]
theorem norm_bad {b:Int} {ts:List TermD} (h:sizeB b ts=false):normP b ts=(0,[],2):=by
 unfold normP addP
 rw [h]
 rfl
theorem equal_eq (ba bb:Int) (ta tb:List TermD):equalP ba ta bb tb=rEqualP ba ta bb tb:=by
 unfold equalP rEqualP
 cases ha:sizeB ba ta with
 | false =>
  rw [norm_bad ha]
  simp
 | true =>
  cases hb:sizeB bb tb with
  | false =>
   rw [norm_ok ha,norm_bad hb]
   simp
  | true =>
   rw [norm_ok ha,norm_ok hb]
   simp
def n8c1 (t101 t105:Value) (R:RT) (w:World):Prop :=
 pickK t101 t105 (.bool false) fun t106 =>
 joinK (fun (t108:Value) (w:World) =>
 pickK t106 t108 (.bool false) fun t109 =>
 R (.returned t109) w) fun K19 =>
 guardP t106 true (
 callK Pg 9 #[] (panK R) w fun t108 w =>
 K19 t108 w) (
 K19 undef w)
def n8c2 (t3 t6 t101:Value) (R:RT) (w:World):Prop :=
 joinK (fun (t105:Value) (w:World) =>
 n8c1 t101 t105 R w) fun K18 =>
 guardP t101 true (
 opV Pg (Instr.loadAt 24 t6) (panK R) w fun t103 w =>
 opV Pg (Instr.loadAt 24 t3) (panK R) w fun t104 w =>
 callK Pg 26 #[t103,t104] (panK R) w fun t105 w =>
 K18 t105 w) (
 K18 undef w)
def n8c3 (t2 t3 t5 t6:Value) (R:RT) (w:World):Prop :=
 opV Pg (Instr.loadAt 24 t5) (panK R) w fun t99 w =>
 opV Pg (Instr.loadAt 24 t2) (panK R) w fun t100 w =>
 callK Pg 26 #[t99,t100] (panK R) w fun t101 w =>
 n8c2 t3 t6 t101 R w
def n8c4 (t2 t3 t5 t6 t83 t88 t96:Value) (R:RT) (w:World):Prop :=
 joinK (fun (t97:Value) (w:World) =>
 pickK t83 (.bool true) t97 fun t98 =>
 condP t98 (
 R (.returned (.bool false)) w) (
 n8c3 t2 t3 t5 t6 R w)) fun K17 =>
 guardP t83 false (
 pickK t88 t96 (.bool false) fun t97 =>
 K17 t97 w) (
 K17 undef w)
def n8c5 (t2 t3 t5 t6 t9 t83 t88 t91:Value) (C9:World→Prop) (R:RT) (w:World):Prop :=
 joinK (fun (t95:Value) (w:World) =>
 joinK (fun (t96:Value) (w:World) =>
 n8c4 t2 t3 t5 t6 t83 t88 t96 R w) fun K16 =>
 guardP t88 true (
 pickK t91 (.bool true) t95 fun t96 =>
 K16 t96 w) (
 K16 undef w)) fun K15 =>
 guardP t91 false (
 qV Pg C9 (Instr.loadAt 24 t9) fun t92 =>
 qV Pg C9 (Instr.build 24 #[]) fun t93 =>
 callK Pg 26 #[t92,t93] (panK R) w fun t94 w =>
 C9 w∧(
 qV Pg C9 (Op.unary .not t94) fun t95 =>
 K15 t95 w)) (
 K15 undef w)
def n8c6 (t2 t3 t5 t6 t9 t46 t83 t88:Value) (C9:World→Prop) (R:RT) (w:World):Prop :=
 joinK (fun (t91:Value) (w:World) =>
 n8c5 t2 t3 t5 t6 t9 t83 t88 t91 C9 R w) fun K14 =>
 guardP t88 true (
 qV Pg C9 (binS .neq 39 true t46 (.int .i64 2)) fun t90 =>
 K14 t90 w) (
 K14 undef w)
def n8c7 (t2 t3 t5 t6 t9 t46 t72 t82:Value) (C9:World→Prop) (R:RT) (w:World):Prop :=
 pickK t72 t82 (.bool false) fun t83 =>
 joinK (fun (t88:Value) (w:World) =>
 n8c6 t2 t3 t5 t6 t9 t46 t83 t88 C9 R w) fun K13 =>
 guardP t83 false (
 qV Pg C9 (Instr.loadAt 24 t2) fun t85 =>
 callK Pg 13 #[t85] (panK R) w fun t86 w =>
 C9 w∧(
 qV Pg C9 (Op.unary .not t86) fun t87 =>
 K13 t87 w)) (
 K13 undef w)
def n8c8 (t2 t3 t5 t6 t9 t46 t72 t76 t81:Value) (C9:World→Prop) (R:RT) (w:World):Prop :=
 joinK (fun (t82:Value) (w:World) =>
 n8c7 t2 t3 t5 t6 t9 t46 t72 t82 C9 R w) fun K12 =>
 guardP t72 true (
 pickK t76 (.bool true) t81 fun t82 =>
 K12 t82 w) (
 K12 undef w)
def n8c9 (t2 t3 t5 t6 t9 t46 t72 t76:Value) (C9:World→Prop) (R:RT) (w:World):Prop :=
 joinK (fun (t81:Value) (w:World) =>
 n8c8 t2 t3 t5 t6 t9 t46 t72 t76 t81 C9 R w) fun K11 =>
 guardP t76 false (
 qV Pg C9 (Instr.loadAt 24 t9) fun t77 =>
 qV Pg C9 (Instr.loadAt 24 t2) fun t78 =>
 callK Pg 34 #[t78] (panK R) w fun t79 w =>
 C9 w∧(
 callK Pg 26 #[t77,t79] (panK R) w fun t80 w =>
 C9 w∧(
 qV Pg C9 (Op.unary .not t80) fun t81 =>
 K11 t81 w))) (
 K11 undef w)
def n8c10 (t2 t3 t5 t6 t9 t46 t72:Value) (C9:World→Prop) (R:RT) (w:World):Prop :=
 joinK (fun (t76:Value) (w:World) =>
 n8c9 t2 t3 t5 t6 t9 t46 t72 t76 C9 R w) fun K10 =>
 guardP t72 true (
 qV Pg C9 (binS .neq 39 true t46 (.int .i64 0)) fun t75 =>
 K10 t75 w) (
 K10 undef w)
def n8c11 (t2 t3 t5 t6 t9 t46:Value) (R:RT) (w:World):Prop :=
 drawK w fun C9 w =>
 qV Pg C9 (Instr.loadAt 24 t2) fun t71 =>
 callK Pg 13 #[t71] (panK R) w fun t72 w =>
 C9 w∧(
 n8c10 t2 t3 t5 t6 t9 t46 t72 C9 R w)
def n8c12 (t2 t3 t5 t6 t9 t46 t55 t60:Value) (C6:World→Prop) (R:RT) (w:World):Prop :=
 pickK t55 (.bool true) t60 fun t61 =>
 joinK (fun (t69:Value) (w:World) =>
 pickK t61 (.bool true) t69 fun t70 =>
 condP t70 (
 R (.returned (.bool false)) w) (
 n8c11 t2 t3 t5 t6 t9 t46 R w)) fun K8 =>
 guardP t61 false (
 qV Pg C6 (Instr.loadAt 24 t5) fun t63 =>
 qV Pg C6 (Instr.loadAt 24 t6) fun t64 =>
 qV Pg C6 (Instr.loadAt 24 t2) fun t66 =>
 qV Pg C6 (Instr.loadAt 24 t3) fun t67 =>
 callK Pg 32 #[t63,t64] (panK R) w fun t65 w =>
 C6 w∧(
 callK Pg 33 #[t66,t67] (panK R) w fun t68 w =>
 C6 w∧(
 qV Pg C6 (binS .neq 4 false t65 t68) fun t69 =>
 K8 t69 w))) (
 K8 undef w)
def n8c13 (t2 t3 t5 t6 t7 t9 t11 t41 t46 t52:Value) (C6:World→Prop) (R:RT) (w:World):Prop :=
 qV Pg C6 (binS .neq 3 false t41 t52) fun t55 =>
 joinK (fun (t60:Value) (w:World) =>
 n8c12 t2 t3 t5 t6 t9 t46 t55 t60 C6 R w) fun K7 =>
 guardP t55 false (
 qV Pg C6 (Instr.loadAt 24 t7) fun t57 =>
 qV Pg C6 (Instr.loadAt 24 t11) fun t58 =>
 callK Pg 26 #[t57,t58] (panK R) w fun t59 w =>
 C6 w∧(
 qV Pg C6 (Op.unary .not t59) fun t60 =>
 K7 t60 w)) (
 K7 undef w)
def n8c14 (t2 t3 t5 t6 t7 t9 t41 t46 t50:Value) (R:RT) (w:World):Prop :=
 opV Pg (Instr.extract t50 0) (panK R) w fun t51 w =>
 opV Pg (Instr.extract t50 1) (panK R) w fun t52 w =>
 opV Pg (Instr.alloc 24 true (.tuple #[])) (panK R) w fun t11 w =>
 opU Pg (Instr.storeAt 24 t11 t51) (panK R) w fun w =>
 drawK w fun C6 w =>
 n8c13 t2 t3 t5 t6 t7 t9 t11 t41 t46 t52 C6 R w
def n8c15 (t2 t3 t5 t6 t7 t41 t44:Value) (R:RT) (w:World):Prop :=
 opV Pg (Instr.extract t44 0) (panK R) w fun t45 w =>
 opV Pg (Instr.extract t44 1) (panK R) w fun t46 w =>
 opV Pg (Instr.alloc 24 true (.tuple #[])) (panK R) w fun t9 w =>
 opU Pg (Instr.storeAt 24 t9 t45) (panK R) w fun w =>
 opV Pg (Instr.loadAt 24 t2) (panK R) w fun t48 w =>
 opV Pg (Instr.loadAt 24 t3) (panK R) w fun t49 w =>
 callK Pg 31 #[t48,t49] (panK R) w fun t50 w =>
 n8c14 t2 t3 t5 t6 t7 t9 t41 t46 t50 R w
def n8c16 (t2 t3 t5 t6 t39:Value) (R:RT) (w:World):Prop :=
 opV Pg (Instr.extract t39 0) (panK R) w fun t40 w =>
 opV Pg (Instr.extract t39 1) (panK R) w fun t41 w =>
 opV Pg (Instr.alloc 24 true (.tuple #[])) (panK R) w fun t7 w =>
 opU Pg (Instr.storeAt 24 t7 t40) (panK R) w fun w =>
 opV Pg (Instr.loadAt 24 t5) (panK R) w fun t43 w =>
 callK Pg 30 #[t43] (panK R) w fun t44 w =>
 n8c15 t2 t3 t5 t6 t7 t41 t44 R w
def n8c17 (t2 t3 t5 t6:Value) (R:RT) (w:World):Prop :=
 opV Pg (Instr.loadAt 24 t5) (panK R) w fun t37 w =>
 opV Pg (Instr.loadAt 24 t6) (panK R) w fun t38 w =>
 callK Pg 29 #[t37,t38] (panK R) w fun t39 w =>
 n8c16 t2 t3 t5 t6 t39 R w
def n8c18 (t6 t29 t33 t34:Value) (K5:World→Prop) (R:RT) (w:World):Prop :=
 opU Pg (Instr.storeAt 22 t34 t29) (panK R) w fun w =>
 turnK w fun C20 w =>
 qV Pg C20 (Instr.fieldAt 24 t6 1) fun t35 =>
 opU Pg (Instr.storeAt 22 t35 t33) (panK R) w fun w =>
 turnK w fun C21 w =>
 K5 w
def n8c19 (t5 t6 t29 t32:Value) (C4:World→Prop) (K5:World→Prop) (R:RT) (w:World):Prop :=
 qV Pg C4 (Instr.fieldAt 24 t5 1) fun t34 =>
 opV Pg (Instr.buildSlice 22 0 #[]) (panK R) w fun t30 w =>
 C4 w∧(
 opV Pg (Builtin.append_ #[22,22] 22 #[t30,t32]) (panK R) w fun t33 w =>
 C4 w∧(
 n8c18 t6 t29 t33 t34 K5 R w))
def n8c20 (t6 t29 t33 t34:Value) (K5:World→Prop) (R:RT) (w:World):Prop :=
 opU Pg (Instr.storeAt 22 t34 t29) (panK R) w fun w =>
 turnK w fun C22 w =>
 qV Pg C22 (Instr.fieldAt 24 t6 1) fun t35 =>
 opU Pg (Instr.storeAt 22 t35 t33) (panK R) w fun w =>
 turnK w fun C23 w =>
 K5 w
def n8c21 (t5 t6 t29 t30 t32:Value) (C4:World→Prop) (K5:World→Prop) (R:RT) (w:World):Prop :=
 qV Pg C4 (Instr.fieldAt 24 t5 1) fun t34 =>
 opV Pg (Builtin.append_ #[22,22] 22 #[t30,t32]) (panK R) w fun t33 w =>
 C4 w∧(
 n8c20 t6 t29 t33 t34 K5 R w)
def n8c22 (t5 t6 t26 t28 t32:Value) (C4:World→Prop) (K5:World→Prop) (R:RT) (w:World):Prop :=
 (
 opV Pg (Builtin.append_ #[22,22] 22 #[t26,t28]) (panK R) w fun t29 w =>
 C4 w∧(
 n8c19 t5 t6 t29 t32 C4 K5 R w))∧(
 opV Pg (Instr.buildSlice 22 0 #[]) (panK R) w fun t30 w =>
 C4 w∧(
 opV Pg (Builtin.append_ #[22,22] 22 #[t26,t28]) (panK R) w fun t29 w =>
 C4 w∧(
 n8c21 t5 t6 t29 t30 t32 C4 K5 R w)))
def n8c23 (t6 t29 t33 t34:Value) (K5:World→Prop) (R:RT) (w:World):Prop :=
 opU Pg (Instr.storeAt 22 t34 t29) (panK R) w fun w =>
 turnK w fun C24 w =>
 qV Pg C24 (Instr.fieldAt 24 t6 1) fun t35 =>
 opU Pg (Instr.storeAt 22 t35 t33) (panK R) w fun w =>
 turnK w fun C25 w =>
 K5 w
def n8c24 (t5 t6 t29 t30 t32:Value) (C4:World→Prop) (K5:World→Prop) (R:RT) (w:World):Prop :=
 qV Pg C4 (Instr.fieldAt 24 t5 1) fun t34 =>
 opV Pg (Builtin.append_ #[22,22] 22 #[t30,t32]) (panK R) w fun t33 w =>
 C4 w∧(
 n8c23 t6 t29 t33 t34 K5 R w)
def n8c25 (t5 t6 t28 t30 t32:Value) (C4:World→Prop) (K5:World→Prop) (R:RT) (w:World):Prop :=
 opV Pg (Instr.buildSlice 22 0 #[]) (panK R) w fun t26 w =>
 C4 w∧(
 opV Pg (Builtin.append_ #[22,22] 22 #[t26,t28]) (panK R) w fun t29 w =>
 C4 w∧(
 n8c24 t5 t6 t29 t30 t32 C4 K5 R w))
def n8c26 (t2 t3 t5 t6:Value) (C4:World→Prop) (R:RT) (w:World):Prop :=
 qV Pg C4 (Instr.fieldAt 24 t2 1) fun t27 =>
 qV Pg C4 (Instr.loadAt 22 t27) fun t28 =>
 qV Pg C4 (Instr.fieldAt 24 t3 1) fun t31 =>
 qV Pg C4 (Instr.loadAt 22 t31) fun t32 =>
 joinK (fun (w:World) =>
 n8c17 t2 t3 t5 t6 R w) fun K5 =>
 (
 opV Pg (Instr.buildSlice 22 0 #[]) (panK R) w fun t26 w =>
 C4 w∧(
 n8c22 t5 t6 t26 t28 t32 C4 K5 R w))∧(
 opV Pg (Instr.buildSlice 22 0 #[]) (panK R) w fun t30 w =>
 C4 w∧(
 n8c25 t5 t6 t28 t30 t32 C4 K5 R w))
def n8c27 (t5 t24 t25:Value) (C2:World→Prop) (K3:KW) (R:RT) (w:World):Prop :=
 opV Pg (Instr.alloc 24 true (.tuple #[])) (panK R) w fun t6 w =>
 C2 w∧(
 opU Pg (Instr.storeAt 24 t5 t24) (panK R) w fun w =>
 C2 w∧(
 opU Pg (Instr.storeAt 24 t6 t25) (panK R) w fun w =>
 turnK w fun C26 w =>
 K3 t5 t6 w))
def n8c28 (t6 t24 t25:Value) (C2:World→Prop) (K3:KW) (R:RT) (w:World):Prop :=
 opV Pg (Instr.alloc 24 true (.tuple #[])) (panK R) w fun t5 w =>
 C2 w∧(
 opU Pg (Instr.storeAt 24 t5 t24) (panK R) w fun w =>
 C2 w∧(
 opU Pg (Instr.storeAt 24 t6 t25) (panK R) w fun w =>
 turnK w fun C27 w =>
 K3 t5 t6 w))
def n8c29 (t2 t3:Value) (C2:World→Prop) (R:RT) (w:World):Prop :=
 qV Pg C2 (Instr.loadAt 24 t2) fun t24 =>
 qV Pg C2 (Instr.loadAt 24 t3) fun t25 =>
 joinK (fun (t5:Value) (t6:Value) (w:World) =>
 drawK w fun C4 w =>
 n8c26 t2 t3 t5 t6 C4 R w) fun K3 =>
 (
 opV Pg (Instr.alloc 24 true (.tuple #[])) (panK R) w fun t5 w =>
 C2 w∧(
 n8c27 t5 t24 t25 C2 K3 R w))∧(
 opV Pg (Instr.alloc 24 true (.tuple #[])) (panK R) w fun t6 w =>
 C2 w∧(
 n8c28 t6 t24 t25 C2 K3 R w))
def n8 (t0 t1:Value) (R:RT) (w:World):Prop :=
 opV Pg (Instr.box 24 t0) (panK R) w fun t2 w =>
 opV Pg (Instr.box 24 t1) (panK R) w fun t3 w =>
 opV Pg (Instr.fieldAt 24 t2 1) (panK R) w fun t13 w =>
 opV Pg (Instr.loadAt 22 t13) (panK R) w fun t14 w =>
 opV Pg (Builtin.len_ #[22] 3 #[t14]) (panK R) w fun t15 w =>
 opV Pg (binS .gtr 3 true t15 (.int .i64 10)) (panK R) w fun t16 w =>
 joinK (fun (t21:Value) (w:World) =>
 pickK t16 (.bool true) t21 fun t22 =>
 condP t22 (
 callK Pg 9 #[] (panK R) w fun t23 w =>
 R (.returned t23) w) (
 drawK w fun C2 w =>
 n8c29 t2 t3 C2 R w)) fun K1 =>
 guardP t16 false (
 opV Pg (Instr.fieldAt 24 t3 1) (panK R) w fun t18 w =>
 opV Pg (Instr.loadAt 22 t18) (panK R) w fun t19 w =>
 opV Pg (Builtin.len_ #[22] 3 #[t19]) (panK R) w fun t20 w =>
 opV Pg (binS .gtr 3 true t20 (.int .i64 10)) (panK R) w fun t21 w =>
 K1 t21 w) (
 K1 undef w)
set_option maxHeartbeats 40000000 in
theorem n8s {t0 t1:Value} {R:RT} {w:World} (h:n8 t0 t1 R w):Calls Pg 8 #[t0,t1] w R:=by
 refine yD Tryz.func8 ?_
 refine zs<|zr<|yv h fun _ w h=>yv h fun _ w h=>zm<|zn<|zk<|zs<|zs<|sim_regionG<|yG 5<|yv h fun _ w h=>yv h fun _ w h=>yx h fun _ w h=>yb h fun _ w h=>?_
 refine zm<|zn<|yg1 4 4 false [18,19,20,21] 21 h (fun _ T hT h=>?_) fun σ w h=>?_
 · refine yv h fun _ w h=>yv h fun _ w h=>yx h fun _ w h=>yb h fun _ w h=>zn ?_
   exact zt hT h
 refine yG 1<|yp h fun _ h=>zn<|sim_end<|zk<|yC h (fun h=>zs<|zr<|yc h c9 fun _ w h=>zm<|zn<|zk<|sim_ret<|sim_then_ret<|body_ret1 rfl rfl h) fun h=>sim_skip<|zk<|zs<|yh [5,6,24,25] h fun C hC h=>ye 0 hC h fun _ h=>?_
 refine ye 1 hC h fun _ h=>?_
 refine joinK_elim h (fun K3 hK h=>?_)
 refine sim_dmeet [5,6] (fun ρ w=>K3 (ρ 5) (ρ 6) w) (fun T hT=>?_) (fun σ w h=>?_)
 · obtain ⟨h0,h1⟩:=h
   refine sim_dloud2 2 3 rfl rfl (by kernel_rfl) (fun _ _=>rfl) (fun _ _=>rfl) ?_ ?_
   · have h:=h0
     refine yv h fun _ w h=>zn ?_
     obtain ⟨hC,h⟩:=h
     refine ⟨_,fun _ h=>h,hC,?_⟩
     refine yo 3 ?_
     refine yv h fun _ w h=>zn ?_
     obtain ⟨hC,h⟩:=h
     refine ⟨hC,?_⟩
     refine yo 4 ?_
     refine yu h fun w h=>zn ?_
     obtain ⟨hC,h⟩:=h
     refine ⟨hC,?_⟩
     refine yq 5 1 ?_
     refine yu h fun w h=>zn ?_
     obtain ⟨C26,hC,h⟩:=h
     refine ⟨C26,hC,?_⟩
     refine yz ?_
     exact zt hT h
   have h:=h1
   refine yv h fun _ w h=>zn ?_
   obtain ⟨hC,h⟩:=h
   refine ⟨_,fun _ h=>h,hC,?_⟩
   refine yo 2 ?_
   refine yv h fun _ w h=>zn ?_
   obtain ⟨hC,h⟩:=h
   refine ⟨hC,?_⟩
   refine yo 4 ?_
   refine yu h fun w h=>zn ?_
   obtain ⟨hC,h⟩:=h
   refine ⟨hC,?_⟩
   refine yq 5 1 ?_
   refine yu h fun w h=>zn ?_
   obtain ⟨C27,hC,h⟩:=h
   refine ⟨C27,hC,?_⟩
   refine yz ?_
   exact zt hT h
 subst hK
 refine zk<|zs<|yh [26,27,28,29,30,31,32,33,34,35] h fun C hC h=>ye 1 hC h fun _ h=>?_
 refine ye 2 hC h fun _ h=>?_
 refine ye 5 hC h fun _ h=>?_
 refine ye 6 hC h fun _ h=>?_
 refine joinK_elim h (fun K5 hK h=>?_)
 refine sim_dmeet [26,29,30,33,34,35] (fun ρ w=>K5 w) (fun T hT=>?_) (fun σ w h=>?_)
 · obtain ⟨h0,h1⟩:=h
   refine sim_dloud2 0 4 rfl rfl (by kernel_rfl) (fun _ _=>rfl) (fun _ _=>rfl) ?_ ?_
   · have h:=h0
     refine yS h fun _ w h=>zn ?_
     obtain ⟨hC,h⟩:=h
     refine ⟨_,fun _ h=>h,hC,?_⟩
     obtain ⟨h0,h1⟩:=h
     refine sim_dloud2 3 4 rfl rfl (by kernel_rfl) (fun _ _=>rfl) (fun _ _=>rfl) ?_ ?_
     · have h:=h0
       refine yx h fun _ w h=>zn ?_
       obtain ⟨hC,h⟩:=h
       refine ⟨_,fun _ h=>h,hC,?_⟩
       refine ye 8 hC h fun _ h=>?_
       refine yo 4 ?_
       refine yS h fun _ w h=>zn ?_
       obtain ⟨hC,h⟩:=h
       refine ⟨hC,?_⟩
       refine yo 7 ?_
       refine yx h fun _ w h=>zn ?_
       obtain ⟨hC,h⟩:=h
       refine ⟨hC,?_⟩
       refine yq 9 3 ?_
       refine yu h fun w h=>zn ?_
       obtain ⟨C20,hC,h⟩:=h
       refine ⟨C20,hC,?_⟩
       refine ye 10 hC h fun _ h=>?_
       refine yq 11 1 ?_
       refine yu h fun w h=>zn ?_
       obtain ⟨C21,hC,h⟩:=h
       refine ⟨C21,hC,?_⟩
       refine yz ?_
       exact zt hT h
     have h:=h1
     refine yS h fun _ w h=>zn ?_
     obtain ⟨hC,h⟩:=h
     refine ⟨_,fun _ h=>h,hC,?_⟩
     refine yo 3 ?_
     refine yx h fun _ w h=>zn ?_
     obtain ⟨hC,h⟩:=h
     refine ⟨hC,?_⟩
     refine ye 8 hC h fun _ h=>?_
     refine yo 7 ?_
     refine yx h fun _ w h=>zn ?_
     obtain ⟨hC,h⟩:=h
     refine ⟨hC,?_⟩
     refine yq 9 3 ?_
     refine yu h fun w h=>zn ?_
     obtain ⟨C22,hC,h⟩:=h
     refine ⟨C22,hC,?_⟩
     refine ye 10 hC h fun _ h=>?_
     refine yq 11 1 ?_
     refine yu h fun w h=>zn ?_
     obtain ⟨C23,hC,h⟩:=h
     refine ⟨C23,hC,?_⟩
     refine yz ?_
     exact zt hT h
   have h:=h1
   refine yS h fun _ w h=>zn ?_
   obtain ⟨hC,h⟩:=h
   refine ⟨_,fun _ h=>h,hC,?_⟩
   refine yo 0 ?_
   refine yS h fun _ w h=>zn ?_
   obtain ⟨hC,h⟩:=h
   refine ⟨hC,?_⟩
   refine yo 3 ?_
   refine yx h fun _ w h=>zn ?_
   obtain ⟨hC,h⟩:=h
   refine ⟨hC,?_⟩
   refine ye 8 hC h fun _ h=>?_
   refine yo 7 ?_
   refine yx h fun _ w h=>zn ?_
   obtain ⟨hC,h⟩:=h
   refine ⟨hC,?_⟩
   refine yq 9 3 ?_
   refine yu h fun w h=>zn ?_
   obtain ⟨C24,hC,h⟩:=h
   refine ⟨C24,hC,?_⟩
   refine ye 10 hC h fun _ h=>?_
   refine yq 11 1 ?_
   refine yu h fun w h=>zn ?_
   obtain ⟨C25,hC,h⟩:=h
   refine ⟨C25,hC,?_⟩
   refine yz ?_
   exact zt hT h
 subst hK
 refine zk<|zs<|zr<|yv h fun _ w h=>yv h fun _ w h=>yc h c29 fun _ w h=>zm<|yv h fun _ w h=>yv h fun _ w h=>yv h fun _ w h=>yu h fun w h=>zm<|zn<|zk<|zs ?_
 refine zr<|yv h fun _ w h=>yc h c30 fun _ w h=>zm<|yv h fun _ w h=>yv h fun _ w h=>yv h fun _ w h=>yu h fun w h=>zm<|zn<|zk<|zs<|zr<|yv h fun _ w h=>yv h fun _ w h=>?_
 refine yc h c31 fun _ w h=>zm<|yv h fun _ w h=>yv h fun _ w h=>yv h fun _ w h=>yu h fun w h=>zm<|zn<|zk<|zs<|zs<|yh [53,54,55,56,57,58,59,60,61,62,63,64,65,66,67,68,69,70] h fun C hC h=>yw 0 hC ?_
 refine yw 1 hC ?_
 refine ye 2 hC h fun _ h=>?_
 refine yw 3 hC ?_
 refine yj1 10 [7,6,5,4,3,2,1,0] [57,58,59,60] 60 h (fun _ hT hb h=>?_) (fun _ hT hb h=>?_) fun σ w hC h=>?_
 · refine ye 4 hC h fun _ h=>?_
   refine ye 5 hC h fun _ h=>?_
   refine yo 6 ?_
   refine yc h c26 fun _ w h=>zn ?_
   obtain ⟨hC,h⟩:=h
   refine ⟨hC,?_⟩
   refine ye 7 hC h fun _ h=>?_
   exact yt hT hC h
 · refine yi 4 hC ?_
   refine yi 5 hC ?_
   refine yi 6 hC ?_
   refine yi 7 hC ?_
   exact yt hT hC h
 refine yP 8 hC h fun _ h=>?_
 refine yw 9 hC ?_
 refine yj1 1 [16,15,12,14,13,11,10,9,8,7,6,5,4,3,2,1,0] [63,64,65,66,67,68,69] 69 h (fun _ hT hb h=>?_) (fun _ hT hb h=>?_) fun σ w hC h=>?_
 · refine ye 10 hC h fun _ h=>?_
   refine ye 11 hC h fun _ h=>?_
   refine ye 13 hC h fun _ h=>?_
   refine ye 14 hC h fun _ h=>?_
   refine yo 12 ?_
   refine yc h c32 fun _ w h=>zn ?_
   obtain ⟨hC,h⟩:=h
   refine ⟨hC,?_⟩
   refine yo 15 ?_
   refine yc h c33 fun _ w h=>zn ?_
   obtain ⟨hC,h⟩:=h
   refine ⟨hC,?_⟩
   refine ye 16 hC h fun _ h=>?_
   exact yt hT hC h
 · refine yi 10 hC ?_
   refine yi 11 hC ?_
   refine yi 13 hC ?_
   refine yi 14 hC ?_
   refine yi 12 hC ?_
   refine yi 15 hC ?_
   refine yi 16 hC ?_
   exact yt hT hC h
 refine yP 17 hC h fun _ h=>?_
 refine yz<|zk<|yC h (fun h=>zs<|zr<|zm<|zn<|zk<|sim_ret<|sim_then_ret<|body_ret1 rfl rfl h) fun h=>sim_skip<|zk<|zs<|zs<|yh [71,72,73,74,75,76,77,78,79,80,81,82,83,84,85,86,87,88,89,90,91,92,93,94,95,96,97,98] h fun C hC h=>ye 0 hC h fun _ h=>?_
 refine yo 1 ?_
 refine yc h c13 fun _ w h=>zn ?_
 obtain ⟨hC,h⟩:=h
 refine ⟨hC,?_⟩
 refine yw 2 hC ?_
 refine yj1 22 [5,4,3,2,1,0] [74,75,76] 76 h (fun _ hT hb h=>?_) (fun _ hT hb h=>?_) fun σ w hC h=>?_
 · refine yw 3 hC ?_
   refine ye 4 hC h fun _ h=>?_
   refine yw 5 hC ?_
   exact yt hT hC h
 · refine yi 3 hC ?_
   refine yi 4 hC ?_
   refine yi 5 hC ?_
   exact yt hT hC h
 refine yj1 17 [10,9,8,7,6,5,4,3,2,1,0] [77,78,79,80,81] 81 h (fun _ hT hb h=>?_) (fun _ hT hb h=>?_) fun σ w hC h=>?_
 · refine ye 6 hC h fun _ h=>?_
   refine ye 7 hC h fun _ h=>?_
   refine yo 8 ?_
   refine yc h c34 fun _ w h=>zn ?_
   obtain ⟨hC,h⟩:=h
   refine ⟨hC,?_⟩
   refine yo 9 ?_
   refine yc h c26 fun _ w h=>zn ?_
   obtain ⟨hC,h⟩:=h
   refine ⟨hC,?_⟩
   refine ye 10 hC h fun _ h=>?_
   exact yt hT hC h
 · refine yi 6 hC ?_
   refine yi 7 hC ?_
   refine yi 8 hC ?_
   refine yi 9 hC ?_
   refine yi 10 hC ?_
   exact yt hT hC h
 refine yj1 16 [11,10,9,8,7,6,5,4,3,2,1,0] [82] 82 h (fun _ hT hb h=>?_) (fun _ hT hb h=>?_) fun σ w hC h=>?_
 · refine yP 11 hC h fun _ h=>?_
   exact yt hT hC h
 · refine yi 11 hC ?_
   exact yt hT hC h
 refine yP 12 hC h fun _ h=>?_
 refine yw 13 hC ?_
 refine yj1 10 [17,16,15,14,13,12,11,10,9,8,7,6,5,4,3,2,1,0] [85,86,87,88] 88 h (fun _ hT hb h=>?_) (fun _ hT hb h=>?_) fun σ w hC h=>?_
 · refine ye 14 hC h fun _ h=>?_
   refine yo 15 ?_
   refine yc h c13 fun _ w h=>zn ?_
   obtain ⟨hC,h⟩:=h
   refine ⟨hC,?_⟩
   refine ye 16 hC h fun _ h=>?_
   refine yw 17 hC ?_
   exact yt hT hC h
 · refine yi 14 hC ?_
   refine yi 15 hC ?_
   refine yi 16 hC ?_
   refine yi 17 hC ?_
   exact yt hT hC h
 refine yj1 7 [20,19,18,17,16,15,14,13,12,11,10,9,8,7,6,5,4,3,2,1,0] [89,90,91] 91 h (fun _ hT hb h=>?_) (fun _ hT hb h=>?_) fun σ w hC h=>?_
 · refine yw 18 hC ?_
   refine ye 19 hC h fun _ h=>?_
   refine yw 20 hC ?_
   exact yt hT hC h
 · refine yi 18 hC ?_
   refine yi 19 hC ?_
   refine yi 20 hC ?_
   exact yt hT hC h
 refine yj1 3 [24,23,22,21,20,19,18,17,16,15,14,13,12,11,10,9,8,7,6,5,4,3,2,1,0] [92,93,94,95] 95 h (fun _ hT hb h=>?_) (fun _ hT hb h=>?_) fun σ w hC h=>?_
 · refine ye 21 hC h fun _ h=>?_
   refine ye 22 hC h fun _ h=>?_
   refine yo 23 ?_
   refine yc h c26 fun _ w h=>zn ?_
   obtain ⟨hC,h⟩:=h
   refine ⟨hC,?_⟩
   refine ye 24 hC h fun _ h=>?_
   exact yt hT hC h
 · refine yi 21 hC ?_
   refine yi 22 hC ?_
   refine yi 23 hC ?_
   refine yi 24 hC ?_
   exact yt hT hC h
 refine yj1 2 [25,24,23,22,21,20,19,18,17,16,15,14,13,12,11,10,9,8,7,6,5,4,3,2,1,0] [96] 96 h (fun _ hT hb h=>?_) (fun _ hT hb h=>?_) fun σ w hC h=>?_
 · refine yP 25 hC h fun _ h=>?_
   exact yt hT hC h
 · refine yi 25 hC ?_
   exact yt hT hC h
 refine yj1 1 [26,25,24,23,22,21,20,19,18,17,16,15,14,13,12,11,10,9,8,7,6,5,4,3,2,1,0] [97] 97 h (fun _ hT hb h=>?_) (fun _ hT hb h=>?_) fun σ w hC h=>?_
 · refine yP 26 hC h fun _ h=>?_
   exact yt hT hC h
 · refine yi 26 hC ?_
   exact yt hT hC h
 refine yP 27 hC h fun _ h=>?_
 refine yz<|zk<|yC h (fun h=>zs<|zr<|zm<|zn<|zk<|sim_ret<|sim_then_ret<|body_ret1 rfl rfl h) fun h=>sim_skip<|zk<|zs<|sim_regionG<|yG 4<|yv h fun _ w h=>yv h fun _ w h=>yc h c26 fun _ w h=>zm<|zn<|yg1 3 3 true [103,104,105] 105 h (fun _ T hT h=>?_) fun σ w h=>?_
 · refine yv h fun _ w h=>yv h fun _ w h=>yc h c26 fun _ w h=>zn ?_
   exact zt hT h
 refine yG 2<|yp h fun _ h=>zm<|zn<|yg1 1 8 true [108] 108 h (fun _ T hT h=>?_) fun σ w h=>?_
 · refine yc h c9 fun _ w h=>zn ?_
   exact zt hT h
 exact yG 2<|yp h fun _ h=>zm<|zn<|sim_end<|zk<|sim_ret<|body_ret1 rfl rfl h
theorem nb:∀ b:Bool,(b != b)=false:=fun b=>by cases b<;>rfl
section
variable {w0 W:World} {p2 p3 p5 p6:Nat} {ba bb:Int} {tva tvb xa xb:Value} {ta tb:List TermD}
abbrev SaT (w0:World):Ending→World→Prop:=retR fun r w'=>r = .bool true∧Ext w0 w'
theorem sa_end (hE:EnvOK w0) (e:Ext w0 W) (hTa:TermsOf w0 tva ta) (hTb:TermsOf w0 tvb tb) (hXa:TermsOf W xa ta) (hXb:TermsOf W xb tb) (o2:W.heap[p2]?=some (.cells #[.int .i64 ba,tva] TSz (0,0))) (o3:W.heap[p3]?=some (.cells #[.int .i64 bb,tvb] TSz (0,0))) (o5:W.heap[p5]?=some (.cells #[.int .i64 ba,xa] TSz (0,0))) (o6:W.heap[p6]?=some (.cells #[.int .i64 bb,xb] TSz (0,0))) :
 n8c3 (.pointer (some ⟨p2,0,none⟩)) (.pointer (some ⟨p3,0,none⟩)) (.pointer (some ⟨p5,0,none⟩)) (.pointer (some ⟨p6,0,none⟩)) (SaT w0) W:=by
 have h1:=SliceOf.oneCell hTa
 have h2:=SliceOf.oneCell hTb
 have h3:=SliceOf.oneCell hXa
 have h4:=SliceOf.oneCell hXb
 unfold n8c3
 simp (disch:=try exact DI) only [↓PR,QR,simprocAttr,(cells_of_heap o2).1,(cells_of_heap o5).1]
 refine zcr (rSame_ret W _ _ ba ba ta ta ⟨xa,rfl,hXa⟩ ⟨tva,rfl,TermsOf.ext hTa e⟩) fun w1 e1=>?_
 have d1:decide (ba=ba∧ta=ta)=true:=decide_eq_true ⟨rfl,rfl⟩
 have d2:decide (bb=bb∧tb=tb)=true:=decide_eq_true ⟨rfl,rfl⟩
 rw [d1]
 simp (disch:=try exact DI) only [↓PR,QR,simprocAttr,↓n8c2,(cells_of_heap (e1.obj o3)).1,(cells_of_heap (e1.obj o6)).1]
 refine zcr (rSame_ret w1 _ _ bb bb tb tb ⟨xb,rfl,TermsOf.ext hXb e1⟩ ⟨tvb,rfl,TermsOf.ext hTb (e.trans e1)⟩) fun w2 e2=>?_
 rw [d2]
 simp (disch:=try exact DI) only [↓PR,QR,simprocAttr,↓n8c1]
 have E:=(e.trans e1).trans e2
 refine zcr (known_ret (hE.ext E)) fun w3 e3=>?_
 simp (disch:=try exact DI) only [↓PR,QR,simprocAttr]
 exact ⟨trivial,E.trans e3⟩
theorem sa_norm (hE:EnvOK w0) (e:Ext w0 W) (hTa:TermsOf w0 tva ta) (hTb:TermsOf w0 tvb tb) (hXa:TermsOf W xa ta) (hXb:TermsOf W xb tb) (o2:W.heap[p2]?=some (.cells #[.int .i64 ba,tva] TSz (0,0))) (o3:W.heap[p3]?=some (.cells #[.int .i64 bb,tvb] TSz (0,0))) (o5:W.heap[p5]?=some (.cells #[.int .i64 ba,xa] TSz (0,0))) (o6:W.heap[p6]?=some (.cells #[.int .i64 bb,xb] TSz (0,0)))
 {p9:Nat} {n:Int×List TermD×Int} {nv:Value} (hn:n=normP ba ta) (hNv:TermsOf W nv n.2.1) (o9:W.heap[p9]?=some (.cells #[.int .i64 n.1,nv] TSz (0,0))) (hla:ta.length≤400) :
 n8c11 (.pointer (some ⟨p2,0,none⟩)) (.pointer (some ⟨p3,0,none⟩)) (.pointer (some ⟨p5,0,none⟩)) (.pointer (some ⟨p6,0,none⟩)) (.pointer (some ⟨p9,0,none⟩)) (.int .i64 n.2.2) (SaT w0) W:=by
 have h1:=SliceOf.oneCell hTa
 have h9:=SliceOf.oneCell hNv
 unfold n8c11
 refine drawK_intro ?_
 have eD:Ext W W.drew:=(Ext.refl W).drew
 have fin:∀ w,Ext W w→n8c3 (.pointer (some ⟨p2,0,none⟩)) (.pointer (some ⟨p3,0,none⟩)) (.pointer (some ⟨p5,0,none⟩)) (.pointer (some ⟨p6,0,none⟩)) (SaT w0) w:=fun w e'=>sa_end hE (e.trans e') hTa hTb (TermsOf.ext hXa e') (TermsOf.ext hXb e') (e'.obj o2) (e'.obj o3) (e'.obj o5) (e'.obj o6)
 have E:=e.trans eD
 have g2:=eD.obj o2
 have g9:=eD.obj o9
 have hN:=TermsOf.ext hNv eD
 change qV _ (EC W.drew) _ fun t5=>callK _ _ #[t5] _ W.drew fun t6 w=>EC W.drew w∧n8c10 _ _ _ _ _ _ t6 (EC W.drew) _ w
 generalize W.drew=D at *
 simp (disch:=try exact DI) only [↓PR,QR,simprocAttr,(cells_of_heap g2).1]
 refine zcr (rSizeValid_ret D _ ba ta ⟨tva,rfl,TermsOf.ext hTa E⟩) fun w1 e1=>?_
 refine ⟨e1,?_⟩
 cases hv:sizeB ba ta with
 | true =>
  rw [norm_ok hv] at hn
  subst hn
  have d0:((0:Int) != 0)=false:=rfl
  simp (disch:=try exact DI) only [↓PR,QR,simprocAttr,↓n8c10,d0,↓n8c9,(cells_of_heap g2).1,(cells_of_heap g9).1]
  refine callK_ret (rNormal_ret w1 _ ba ta ⟨tva,rfl,TermsOf.ext hTa (E.trans e1)⟩ hla) ?_
  rintro _ w2 ⟨⟨y,rfl,hy⟩,e2⟩
  have e12:=e1.trans e2
  refine ⟨e12,callK_ret (rSame_ret w2 _ _ ba ba (normR ta) (normR ta) ⟨nv,rfl,TermsOf.ext hN e12⟩ ⟨y,rfl,own_terms hy⟩) ?_⟩
  rintro _ w3 ⟨rfl,e3⟩
  have e13:=e12.trans e3
  refine ⟨e13,?_⟩
  have d1:decide (ba=ba∧normR ta=normR ta)=true:=decide_eq_true ⟨rfl,rfl⟩
  rw [d1]
  have hS:=cells_of_heap g2
  simp (disch:=try exact DI) only [↓PR,QR,simprocAttr,Bool.not_true,↓n8c8,↓n8c7,(cells_of_heap g2).1]
  refine zcr (rSizeValid_ret w3 _ ba ta ⟨tva,rfl,TermsOf.ext hTa (E.trans e13)⟩) fun w4 e4=>?_
  have e14:=e13.trans e4
  refine ⟨e14,?_⟩
  rw [hv]
  simp (disch:=try exact DI) only [↓PR,QR,simprocAttr,Bool.not_true,↓n8c6,↓n8c5,↓n8c4]
  exact fin w4 (eD.trans e14)
 | false =>
  rw [norm_bad hv] at hn
  subst hn
  have d0:((2:Int) != 2)=false:=rfl
  simp (disch:=try exact DI) only [↓PR,QR,simprocAttr,↓n8c10,↓n8c9,↓n8c8,↓n8c7,(cells_of_heap g2).1]
  refine zcr (rSizeValid_ret w1 _ ba ta ⟨tva,rfl,TermsOf.ext hTa (E.trans e1)⟩) fun w4 e4=>?_
  have e14:=e1.trans e4
  refine ⟨e14,?_⟩
  rw [hv]
  simp (disch:=try exact DI) only [↓PR,QR,simprocAttr,Bool.not_false,d0,↓n8c6,↓n8c5,(cells_of_heap g9).1]
  refine zcr (rSame_ret w4 _ _ 0 0 [] [] ⟨nv,rfl,TermsOf.ext hN e14⟩ ⟨_,rfl,SliceOf.nil _ _ _⟩) fun w5 e5=>?_
  have e15:=e14.trans e5
  refine ⟨e15,?_⟩
  have d1:decide ((0:Int)=0∧([]:List TermD)=[])=true:=decide_eq_true ⟨rfl,rfl⟩
  rw [d1]
  simp (disch:=try exact DI) only [↓PR,QR,simprocAttr,Bool.not_true,↓n8c4]
  exact fin w5 (eD.trans e15)
theorem sa_sum (hE:EnvOK w0) (e:Ext w0 W) (hTa:TermsOf w0 tva ta) (hTb:TermsOf w0 tvb tb) (hXa:TermsOf W xa ta) (hXb:TermsOf W xb tb) (o2:W.heap[p2]?=some (.cells #[.int .i64 ba,tva] TSz (0,0))) (o3:W.heap[p3]?=some (.cells #[.int .i64 bb,tvb] TSz (0,0))) (o5:W.heap[p5]?=some (.cells #[.int .i64 ba,xa] TSz (0,0))) (o6:W.heap[p6]?=some (.cells #[.int .i64 bb,xb] TSz (0,0))) (hla:ta.length≤400) (hlb:tb.length≤400) :
 n8c17 (.pointer (some ⟨p2,0,none⟩)) (.pointer (some ⟨p3,0,none⟩)) (.pointer (some ⟨p5,0,none⟩)) (.pointer (some ⟨p6,0,none⟩)) (SaT w0) W:=by
 have h1:=SliceOf.oneCell hTa
 have h2:=SliceOf.oneCell hTb
 have h3:=SliceOf.oneCell hXa
 have h4:=SliceOf.oneCell hXb
 unfold n8c17
 simp (disch:=try exact DI) only [↓PR,QR,simprocAttr,(cells_of_heap o5).1,(cells_of_heap o6).1]
 refine callK_ret (Add_ret W _ _ ba bb ta tb ⟨xa,rfl,hXa⟩ ⟨xb,rfl,hXb⟩ hla hlb) ?_
 rintro _ w1 ⟨⟨s,rfl,hs⟩,e1⟩
 rw [← add_eq] at hs ⊢
 have hs1:=SliceOf.oneCell (own_terms hs)
 generalize hq:raddP ba ta bb tb=q at *
 unfold n8c16
 have eA:Ext w1 (w1.alloc (.cells #[.int .i64 q.1,s] TSz)):=(Ext.refl _).alloc _
 have oA:=heap_new w1 #[.int .i64 q.1,s] TSz
 simp (disch:=try exact DI) only [↓PR,QR,simprocAttr,(cells_of_heap (eA.obj (e1.obj o5))).1]
 have hsA:=(own_terms hs).ext eA
 have e2:=e1.trans eA
 generalize w1.alloc (.cells #[.int .i64 q.1,s] TSz)=w2 at *
 generalize w1.heap.size=p7 at *
 refine callK_ret (Normal_ret w2 _ ba ta ⟨xa,rfl,TermsOf.ext hXa e2⟩ hla) ?_
 rintro _ w3 ⟨⟨nv,rfl,hNv⟩,e3⟩
 have hn1:=SliceOf.oneCell (own_terms hNv)
 generalize hn:normP ba ta=n at *
 unfold n8c15
 have e23:=e2.trans e3
 have eB:Ext w3 (w3.alloc (.cells #[.int .i64 n.1,nv] TSz)):=(Ext.refl _).alloc _
 have oB:=heap_new w3 #[.int .i64 n.1,nv] TSz
 simp (disch:=try exact DI) only [↓PR,QR,simprocAttr,(cells_of_heap (eB.obj (e23.obj o2))).1,(cells_of_heap (eB.obj (e23.obj o3))).1]
 have hNB:=(own_terms hNv).ext eB
 have e4:=e23.trans eB
 have oA4:=eB.obj (e3.obj oA)
 have hs4:=(hsA.ext e3).ext eB
 clear hNv oA hsA hs e1 eA e2 e3 e23
 generalize w3.alloc (.cells #[.int .i64 n.1,nv] TSz)=w4 at *
 generalize w3.heap.size=p9 at *
 refine callK_ret (rAdd_ret w4 _ _ ba bb ta tb ⟨tva,rfl,TermsOf.ext hTa (e.trans e4)⟩ ⟨tvb,rfl,TermsOf.ext hTb (e.trans e4)⟩ hla hlb) ?_
 rintro _ w5 ⟨⟨_,rfl,rv,rfl,hr⟩,e5⟩
 rw [hq] at hr ⊢
 have hr1:=SliceOf.oneCell hr
 unfold n8c14
 have eC:Ext w5 (w5.alloc (.cells #[.int .i64 q.1,rv] TSz)):=(Ext.refl _).alloc _
 have oC:=heap_new w5 #[.int .i64 q.1,rv] TSz
 simp (disch:=try exact DI) only [↓PR,QR,simprocAttr]
 have hrC:=TermsOf.ext hr eC
 have e6:=(e4.trans e5).trans eC
 have oA6:=eC.obj (e5.obj oA4)
 have oB6:=eC.obj (e5.obj oB)
 have hs6:=(TermsOf.ext hs4 e5).ext eC
 have hN6:=(TermsOf.ext hNB e5).ext eC
 change drawK (w5.alloc (.cells #[.int .i64 q.1,rv] TSz)) _
 generalize w5.alloc (.cells #[.int .i64 q.1,rv] TSz)=w6 at *
 generalize w5.heap.size=p11 at *
 refine drawK_intro ?_
 have eD:Ext w6 w6.drew:=(Ext.refl w6).drew
 have e7:=e6.trans eD
 have gA:=eD.obj oA6
 have gB:=eD.obj oB6
 have gC:=eD.obj oC
 have hs7:=TermsOf.ext hs6 eD
 have hN7:=TermsOf.ext hN6 eD
 have hr7:=TermsOf.ext hrC eD
 change n8c13 _ _ _ _ _ _ _ _ _ _ (EC w6.drew) _ w6.drew
 generalize w6.drew=D at *
 have g2:=e7.obj o2
 have g3:=e7.obj o3
 have g5:=e7.obj o5
 have g6:=e7.obj o6
 have d0:(q.2.2 != q.2.2)=false:=by simp
 unfold n8c13
 simp (disch:=try exact DI) only [↓PR,QR,simprocAttr,d0,(cells_of_heap gA).1,(cells_of_heap gC).1]
 refine zcr (rSame_ret D _ _ q.1 q.1 q.2.1 q.2.1 ⟨s,rfl,hs7⟩ ⟨rv,rfl,hr7⟩) fun v1 f1=>?_
 refine ⟨f1,?_⟩
 have d1:decide (q.1=q.1∧q.2.1=q.2.1)=true:=decide_eq_true ⟨rfl,rfl⟩
 rw [d1]
 simp (disch:=try exact DI) only [↓PR,QR,simprocAttr,d0,Bool.not_true,↓n8c12,(cells_of_heap g2).1,(cells_of_heap g3).1,(cells_of_heap g5).1,(cells_of_heap g6).1]
 have f71:=e7.trans f1
 refine zcr (SEqual_ret v1 _ _ ba bb ta tb ⟨xa,rfl,TermsOf.ext hXa f71⟩ ⟨xb,rfl,TermsOf.ext hXb f71⟩ hla hlb) fun v2 f2=>?_
 have f12:=f1.trans f2
 have f72:=e7.trans f12
 refine ⟨f12,callK_ret (rEqual_ret v2 _ _ ba bb ta tb ⟨tva,rfl,TermsOf.ext hTa (e.trans f72)⟩ ⟨tvb,rfl,TermsOf.ext hTb (e.trans f72)⟩ hla hlb) ?_⟩
 rintro _ v3 ⟨rfl,f3⟩
 have f13:=f12.trans f3
 refine ⟨f13,?_⟩
 have f73:=e7.trans f13
 rw [equal_eq]
 simp (disch:=try exact DI) only [↓PR,QR,simprocAttr,nb]
 exact sa_norm hE (e.trans f73) hTa hTb (TermsOf.ext hXa f73) (TermsOf.ext hXb f73) (f73.obj o2) (f73.obj o3) (f73.obj o5) (f73.obj o6) hn.symm (TermsOf.ext hN7 f13) (f13.obj gB) hla
end
section
variable {w0 W:World} {p2 p3 p5 p6:Nat} {ba bb:Int} {tva tvb:Value} {ta tb:List TermD}
theorem sa_copy (hE:EnvOK w0) (e:Ext w0 W) (hTa:TermsOf w0 tva ta) (hTb:TermsOf w0 tvb tb) (o2:W.heap[p2]?=some (.cells #[.int .i64 ba,tva] TSz (0,0))) (o3:W.heap[p3]?=some (.cells #[.int .i64 bb,tvb] TSz (0,0))) (o5:W.heap[p5]?=some (.cells #[.int .i64 ba,tva] TSz (0,0))) (o6:W.heap[p6]?=some (.cells #[.int .i64 bb,tvb] TSz (0,0))) (l5:w0.heap.size≤p5) (l6:w0.heap.size≤p6) (l25:p2 < p5) (l26:p2 < p6) (l35:p3 < p5) (l36:p3 < p6) (l56:p5≠p6) (hla:ta.length≤400) (hlb:tb.length≤400) :
 drawK W fun C4 w=>n8c26 (.pointer (some ⟨p2,0,none⟩)) (.pointer (some ⟨p3,0,none⟩)) (.pointer (some ⟨p5,0,none⟩)) (.pointer (some ⟨p6,0,none⟩)) C4 (SaT w0) w:=by
 refine drawK_intro ?_
 have eD:Ext W W.drew:=(Ext.refl W).drew
 have E:=e.trans eD
 have g2:=eD.obj o2
 have g3:=eD.obj o3
 have g5:=eD.obj o5
 have g6:=eD.obj o6
 change n8c26 _ _ _ _ (EC W.drew) _ W.drew
 generalize W.drew=D at *
 have q2:=(Array.getElem?_eq_some_iff.1 g2).1
 have q3:=(Array.getElem?_eq_some_iff.1 g3).1
 have q5:=(Array.getElem?_eq_some_iff.1 g5).1
 have q6:=(Array.getElem?_eq_some_iff.1 g6).1
 have hlD:=E.size
 have hA:=TermsOf.ext hTa E
 have hB:=TermsOf.ext hTb E
 have hv1:=SliceOf.oneCell hTa
 have hv2:=SliceOf.oneCell hTb
 have fin:∀ (w:World) (g1 c1 g2' c2:Nat),Ext D w→OwnE w D.heap.size TTm 2 termCells (.slice (some ⟨g1,0,none⟩) ta.length c1) ta→OwnE w D.heap.size TTm 2 termCells (.slice (some ⟨g2',0,none⟩) tb.length c2) tb →
  n8c18 (.pointer (some ⟨p6,0,none⟩)) (.slice (some ⟨g1,0,none⟩) ta.length c1) (.slice (some ⟨g2',0,none⟩) tb.length c2) (.pointer (some ⟨p5,1,none⟩)) (fun w=>n8c17 (.pointer (some ⟨p2,0,none⟩)) (.pointer (some ⟨p3,0,none⟩)) (.pointer (some ⟨p5,0,none⟩)) (.pointer (some ⟨p6,0,none⟩)) (SaT w0) w) (SaT w0) w:=by
  intro w g1 c1 g2' c2 ew hO1 hO2
  have b1:=(World.ownsRow.lt hO1 g1 rfl).1
  have b2:=(World.ownsRow.lt hO2 g2' rfl).1
  have k5:=ew.obj g5
  have k6:=ew.obj g6
  have hs1:∀ b,b≠p5→(w.setCell ⟨p5,1,none⟩ (.slice (some ⟨g1,0,none⟩) ta.length c1)).heap[b]?=w.heap[b]?:=fun b hb=>Only.setCell _ p5 _ _ b hb
  have k6':=(hs1 p6 (Ne.symm l56)).trans k6
  unfold n8c18
  simp (disch:=try exact DI) only [↓PR,QR,simprocAttr,(cells_of_heap k5).1,(cells_of_heap k5).2]
  refine turnK_intro ?_
  simp (disch:=try exact DI) only [↓PR,QR,simprocAttr,(cells_of_heap k6').1,(cells_of_heap k6').2]
  refine turnK_intro ?_
  have hs2:∀ b,b≠p6→((w.setCell ⟨p5,1,none⟩ (.slice (some ⟨g1,0,none⟩) ta.length c1)).setCell ⟨p6,1,none⟩ (.slice (some ⟨g2',0,none⟩) tb.length c2)).heap[b]?=(w.setCell ⟨p5,1,none⟩ (.slice (some ⟨g1,0,none⟩) ta.length c1)).heap[b]?:=fun b hb=>Only.setCell _ p6 _ _ b hb
  have hs:∀ b,b≠p5→b≠p6→((w.setCell ⟨p5,1,none⟩ (.slice (some ⟨g1,0,none⟩) ta.length c1)).setCell ⟨p6,1,none⟩ (.slice (some ⟨g2',0,none⟩) tb.length c2)).heap[b]?=w.heap[b]?:=fun b h1 h2=>(hs2 b h2).trans (hs1 b h1)
  refine sa_sum hE (((E.trans ew).setCell (p:=⟨p5,1,none⟩) l5 _).setCell (p:=⟨p6,1,none⟩) l6 _) hTa hTb (own_terms (OwnE.keep hO1 fun b hb=>?_)) (own_terms (OwnE.keep hO2 fun b hb=>?_)) ((hs p2 (by omega) (by omega)).trans (ew.obj g2)) ((hs p3 (by omega) (by omega)).trans (ew.obj g3)) ((hs2 p5 l56).trans (heap_set (o:=1) k5 _)) (heap_set (o:=1) k6' _) hla hlb
  · have:g1=b:=Option.some.inj hb
    exact hs b (by omega) (by omega)
  · have:g2'=b:=Option.some.inj hb
    exact hs b (by omega) (by omega)
 unfold n8c26
 simp (disch:=try exact DI) only [↓PR,QR,simprocAttr,(cells_of_heap g2).1,(cells_of_heap g3).1]
 have hnew:∀ w:World,OwnE (w.alloc (.cells #[] TTm)) w.heap.size TTm 2 termCells (.slice (some ⟨w.heap.size,0,none⟩) 0 0) []:=fun w=>OwnE.new w TTm 2 termCells [] (fun _=>rfl) (by decide)
 have eN:Ext D (D.alloc (.cells #[] TTm)):=(Ext.refl _).alloc _
 have hN:=hnew D
 have hzN:(D.alloc (.cells #[] TTm)).heap.size=D.heap.size+1:=World.size_alloc ..
 generalize D.alloc (.cells #[] TTm)=w1 at *
 have eN2:Ext w1 (w1.alloc (.cells #[] TTm)):=(Ext.refl _).alloc _
 have hN2:=hnew w1
 have hzN2:(w1.alloc (.cells #[] TTm)).heap.size=D.heap.size+1+1:=by rw [World.size_alloc,hzN]
 rw [hzN] at hN2
 have two:∀ (w:World) (n1 n2:Nat),Ext D w→n1≠n2→D.heap.size≤n1→D.heap.size≤n2→n1 < w.heap.size→n2 < w.heap.size→OwnE w D.heap.size TTm 2 termCells (.slice (some ⟨n1,0,none⟩) 0 0) []→OwnE w D.heap.size TTm 2 termCells (.slice (some ⟨n2,0,none⟩) 0 0) [] →
  opV Pg (Builtin.append_ #[22,22] 22 #[.slice (some ⟨n1,0,none⟩) 0 0,tva]) (panK (SaT w0)) w fun t29 w=>EC D w∧(n8c21 (.pointer (some ⟨p5,0,none⟩)) (.pointer (some ⟨p6,0,none⟩)) t29 (.slice (some ⟨n2,0,none⟩) 0 0) tvb (EC D) (fun w=>n8c17 (.pointer (some ⟨p2,0,none⟩)) (.pointer (some ⟨p3,0,none⟩)) (.pointer (some ⟨p5,0,none⟩)) (.pointer (some ⟨p6,0,none⟩)) (SaT w0) w) (SaT w0) w):=by
  intro w n1 n2 ew hne l1 l2 l1' l2' hO1 hO2
  refine appendL_term (a:=D) hO1 (TermsOf.ext hA ew) (by have:=ew.size;omega) (by omega) ew l1 l1' fun g1 c1 w3 hR1 hg1 hgl hsz e3 hk=>⟨e3,?_⟩
  unfold n8c21
  simp (disch:=try exact DI) only [↓PR,QR,simprocAttr]
  have hO2':=OwnE.keep hO2 fun b hb=>hk b (by have:n2=b:=Option.some.inj hb;omega) (by have:n2=b:=Option.some.inj hb;omega)
  refine appendL_term (a:=D) hO2' (TermsOf.ext hB e3) (by have:=e3.size;omega) (by omega) e3 l2 (by omega) fun g2' c2 w4 hR2 hg2 hgl2 hsz2 e4 hk2=>⟨e4,?_⟩
  have hR1':=OwnE.keep hR1 fun b hb=>hk2 b (by have:g1=b:=Option.some.inj hb;omega) (by have:g1=b:=Option.some.inj hb;omega)
  exact fin w4 g1 c1 g2' c2 e4 hR1' hR2
 refine ⟨⟨eN,?_,?_⟩,eN,?_⟩
 · refine appendL_term (a:=D) hN (TermsOf.ext hA eN) (by omega) (by omega) eN (Nat.le_refl _) (by omega) fun g1 c1 w3 hR1 hg1 hgl hsz e3 hk=>⟨e3,?_⟩
   unfold n8c19
   simp (disch:=try exact DI) only [↓PR,QR,simprocAttr]
   have eM:Ext w3 (w3.alloc (.cells #[] TTm)):=(Ext.refl _).alloc _
   have hM:=hnew w3
   have hzM:(w3.alloc (.cells #[] TTm)).heap.size=w3.heap.size+1:=World.size_alloc ..
   refine ⟨e3.trans eM,?_⟩
   change opV _ _ _ (w3.alloc (.cells #[] TTm)) _
   generalize w3.alloc (.cells #[] TTm)=w4 at *
   refine appendL_term (a:=D) (OwnE.base (base':=D.heap.size) hM (by omega)) (TermsOf.ext hB (e3.trans eM)) (by omega) (by omega) (e3.trans eM) (by omega) (by omega) fun g2' c2 w5 hR2 hg2 hgl2 hsz2 e5 hk2=>⟨e5,?_⟩
   have hR1':=OwnE.keep (hR1.ext eM) fun b hb=>hk2 b (by have:g1=b:=Option.some.inj hb;omega) (by have:g1=b:=Option.some.inj hb;omega)
   exact fin w5 g1 c1 g2' c2 e5 hR1' hR2
 · simp (disch:=try exact DI) only [↓PR,QR,simprocAttr]
   rw [hzN]
   refine ⟨eN.trans eN2,?_⟩
   exact two (w1.alloc (.cells #[] TTm)) D.heap.size (D.heap.size+1) (eN.trans eN2) (by omega) (Nat.le_refl _) (by omega) (by omega) (by omega) (hN.ext eN2) (hN2.base (by omega))
 · unfold n8c25
   simp (disch:=try exact DI) only [↓PR,QR,simprocAttr]
   rw [hzN]
   refine ⟨eN.trans eN2,?_⟩
   exact two (w1.alloc (.cells #[] TTm)) (D.heap.size+1) D.heap.size (eN.trans eN2) (by omega) (by omega) (Nat.le_refl _) (by omega) (by omega) (hN2.base (by omega)) (hN.ext eN2)
end
theorem SizeAdds_ret (w0:World) (va vb:Value) (ba bb:Int) (ta tb:List TermD) (ha:SizeVal w0 va ba ta) (hb:SizeVal w0 vb bb tb) (hE:EnvOK w0) :
 Ret Pg 8 #[va,vb] w0 fun r w'=>r = .bool true∧Ext w0 w':=by
 obtain ⟨tva,rfl,hTa⟩:=ha
 obtain ⟨tvb,rfl,hTb⟩:=hb
 have h1:=SliceOf.oneCell hTa
 have h2:=SliceOf.oneCell hTb
 obtain ⟨A,c,rfl,_,_,_,_⟩:=SliceOf.open hTa
 obtain ⟨A',c',rfl,_,_,_,_⟩:=SliceOf.open hTb
 refine n8s (R:=retR _) ?_;unfold n8
 simp (disch:=try exact DI) only [↓PR,QR,simprocAttr]
 simp only [World.size_alloc]
 generalize hW:World.alloc (World.alloc w0 _) _=W
 have e0:Ext w0 W:=by rw [← hW];exact ee
 have o2:W.heap[w0.heap.size]?=some (.cells #[.int .i64 ba,.slice A ta.length c] TSz (0,0)):=by rw [← hW];simp (disch:=try exact DI) only [↓PR,QR,simprocAttr]
 have o3:W.heap[w0.heap.size+1]?=some (.cells #[.int .i64 bb,.slice A' tb.length c'] TSz (0,0)):=by rw [← hW];simp (disch:=try exact DI) only [↓PR,QR,simprocAttr]
 clear hW
 have known:callK Pg 9 #[] (panK (retR fun r w'=>r = .bool true∧Ext w0 w')) W fun t24 w=>(retR fun r w'=>r = .bool true∧Ext w0 w') (.returned t24) w:=by
  refine zcr (known_ret (hE.ext e0)) fun w1 e1=>?_
  exact ⟨_,rfl,rfl,e0.trans e1⟩
 by_cases g1:ta.length > 10
 · have d1:decide ((ta.length:Int) > 10)=true:=decide_eq_true (by omega)
   simp (disch:=try exact DI) only [↓PR,QR,simprocAttr,(cells_of_heap o2).1,d1]
   exact known
 have d1:decide ((ta.length:Int) > 10)=false:=decide_eq_false (by omega)
 by_cases g2:tb.length > 10
 · have d2:decide ((tb.length:Int) > 10)=true:=decide_eq_true (by omega)
   simp (disch:=try exact DI) only [↓PR,QR,simprocAttr,(cells_of_heap o2).1,(cells_of_heap o3).1,d1,d2]
   exact known
 have d2:decide ((tb.length:Int) > 10)=false:=decide_eq_false (by omega)
 simp (disch:=try exact DI) only [↓PR,QR,simprocAttr,(cells_of_heap o2).1,(cells_of_heap o3).1,d1,d2]
 clear known
 refine drawK_intro ?_
 have eD:Ext W W.drew:=(Ext.refl W).drew
 have E:=e0.trans eD
 have g2:=eD.obj o2
 have g3:=eD.obj o3
 change n8c29 _ _ (EC W.drew) _ W.drew
 generalize W.drew=D at *
 have q2:=(Array.getElem?_eq_some_iff.1 g2).1
 have q3:=(Array.getElem?_eq_some_iff.1 g3).1
 have sD:=E.size
 have eP:Ext D (D.alloc (.cells #[.int .i64 0,.slice none 0 0] TSz)):=(Ext.refl _).alloc _
 have eQ:Ext D ((D.alloc (.cells #[.int .i64 0,.slice none 0 0] TSz)).alloc (.cells #[.int .i64 0,.slice none 0 0] TSz)):=eP.alloc _
 have oP:((D.alloc (.cells #[.int .i64 0,.slice none 0 0] TSz)).alloc (.cells #[.int .i64 0,.slice none 0 0] TSz)).heap[D.heap.size]?=some (.cells #[.int .i64 0,.slice none 0 0] TSz (0,0)):=by simp (disch:=try exact DI) only [↓PR,QR,simprocAttr]
 have oQ:((D.alloc (.cells #[.int .i64 0,.slice none 0 0] TSz)).alloc (.cells #[.int .i64 0,.slice none 0 0] TSz)).heap[D.heap.size+1]?=some (.cells #[.int .i64 0,.slice none 0 0] TSz (0,0)):=by simp (disch:=try exact DI) only [↓PR,QR,simprocAttr]
 have hzP:(D.alloc (.cells #[.int .i64 0,.slice none 0 0] TSz)).heap.size=D.heap.size+1:=World.size_alloc ..
 have fin:∀ (Q:World) (pa pb:Nat),Ext D Q→D.heap.size≤pa→D.heap.size≤pb→pa≠pb→Q.heap[pa]?=some (.cells #[.int .i64 ba,.slice A ta.length c] TSz (0,0))→Q.heap[pb]?=some (.cells #[.int .i64 bb,.slice A' tb.length c'] TSz (0,0)) →
  drawK Q fun C4 w=>n8c26 (.pointer (some ⟨w0.heap.size,0,none⟩)) (.pointer (some ⟨w0.heap.size+1,0,none⟩)) (.pointer (some ⟨pa,0,none⟩)) (.pointer (some ⟨pb,0,none⟩)) C4 (SaT w0) w :=
  fun Q pa pb eQ la lb hab oa ob=>sa_copy hE (E.trans eQ) hTa hTb (eQ.obj g2) (eQ.obj g3) oa ob (by omega) (by omega) (by omega) (by omega) (by omega) (by omega) hab (by omega) (by omega)
 unfold n8c29
 simp (disch:=try exact DI) only [↓PR,QR,simprocAttr,(cells_of_heap g2).1,(cells_of_heap g3).1]
 refine ⟨⟨eP,?_⟩,eP,?_⟩
 · have eX:Ext D (D.alloc (.cells #[.int .i64 ba,.slice A ta.length c] TSz)):=(Ext.refl _).alloc _
   have eY:Ext D ((D.alloc (.cells #[.int .i64 ba,.slice A ta.length c] TSz)).alloc (.cells #[.int .i64 bb,.slice A' tb.length c'] TSz)):=eX.alloc _
   have hoY:=heap_new (D.alloc (.cells #[.int .i64 ba,.slice A ta.length c] TSz)) #[.int .i64 bb,.slice A' tb.length c'] TSz
   have hoX:=((Ext.refl (D.alloc (.cells #[.int .i64 ba,.slice A ta.length c] TSz))).alloc (.cells #[.int .i64 bb,.slice A' tb.length c'] TSz)).obj (heap_new D #[.int .i64 ba,.slice A ta.length c] TSz)
   rw [World.size_alloc] at hoY
   unfold n8c27
   simp (disch:=try exact DI) only [↓PR,QR,simprocAttr,hzP]
   refine ⟨eQ,eX.alloc _,turnK_intro ?_⟩
   have hf:=fin ((D.alloc (.cells #[.int .i64 ba,.slice A ta.length c] TSz)).alloc (.cells #[.int .i64 bb,.slice A' tb.length c'] TSz)) D.heap.size (D.heap.size+1) eY (Nat.le_refl _) (by omega) (by omega) hoX hoY
   simp only [World.size_alloc]
   exact hf
 · have eX:Ext D (D.alloc (.cells #[.int .i64 bb,.slice A' tb.length c'] TSz)):=(Ext.refl _).alloc _
   have eY:Ext D ((D.alloc (.cells #[.int .i64 bb,.slice A' tb.length c'] TSz)).alloc (.cells #[.int .i64 ba,.slice A ta.length c] TSz)):=eX.alloc _
   have hoY:=heap_new (D.alloc (.cells #[.int .i64 bb,.slice A' tb.length c'] TSz)) #[.int .i64 ba,.slice A ta.length c] TSz
   have hoX:=((Ext.refl (D.alloc (.cells #[.int .i64 bb,.slice A' tb.length c'] TSz))).alloc (.cells #[.int .i64 ba,.slice A ta.length c] TSz)).obj (heap_new D #[.int .i64 bb,.slice A' tb.length c'] TSz)
   rw [World.size_alloc] at hoY
   unfold n8c28
   simp (disch:=try exact DI) only [↓PR,QR,simprocAttr,hzP]
   refine ⟨eQ,eP.alloc _,turnK_intro ?_⟩
   have hf:=fin ((D.alloc (.cells #[.int .i64 bb,.slice A' tb.length c'] TSz)).alloc (.cells #[.int .i64 ba,.slice A ta.length c] TSz)) (D.heap.size+1) D.heap.size eY (by omega) (Nat.le_refl _) (by omega) hoY hoX
   simp only [World.size_alloc]
   exact hf
end Go.Proofs.YtpgkjhikdhdffaaGreatDoor
namespace Go.Proofs.YtpgkjhikdhdffaaGreatDoor
open Sw
open Go.RowKit Go.Deep
theorem SizeAdds_at (W:World) (v0:Value) (f0:Int×List TermD) (v1:Value) (f1:Int×List TermD) (h0:SizeVal W v0 f0.1 f0.2) (_:True) (h1:SizeVal W v1 f1.1 f1.2) (_:True) (hE:EnvOK W):Ret Pg 8 #[v0,v1] W fun r w'=>r = .bool true∧Ext W w':=SizeAdds_ret W v0 v1 f0.1 f1.1 f0.2 f1.2 h0 h1 hE
end Go.Proofs.YtpgkjhikdhdffaaGreatDoor
namespace Go.Proofs.YtpgkjhikdhdffaaGreatDoor
open Sw
open Go.ChangeShapes Go.WideShapes Go.RowKit Go.ChangeAt Go.Deep
theorem zadds_lifted (os:Os) (started:os.Started) (H:Type) (enc:TypeId×Value→H) :
 ReturnsInHanded {} Tryz.checked os 8 .any (fun w args=>(Rows.sizeAddsSpec.pre enc Pg Tryz.f8 Rows.sizeAddsRow.domain false w args∧laidMetH Pg role_laid w)∧sizedMet enc Pg Tryz.f8 (OpenSpec.ofChange Rows.sizeAddsSpec) false w args) (Rows.sizeAddsSpec.post enc Pg Tryz.f8 false true false false):=by
 refine handed_and (C:=Tryz.checked) (X:=fun w _=>laidMetH Pg role_laid w) (fun _ _ _ hh h=>h.of_heap hh) role_own started (by kernel_rfl) Tryz.func8
  (ChangeSpec.witness_shaped (enc:=enc) (C:=Tryz.checked) (os:=os) (X:=fun w _=>laidMetH Pg role_laid w) false (World.laidAll Pg os role_laid) #[.agg #[.int .i64 0,.slice none 0 0],.agg #[.int .i64 0,.slice none 0 0]] 8 (World.laidAll_os _ _ _) (World.shaped_of_ZipB (by kernel_rfl) (by kernel_rfl)) (by kernel_rfl) (by kernel_rfl) (by kernel_rfl) (role_met os _)) ?_
 intro W base args ds gs before hval hW _ hsz hL hsh _
 have hW':=hW
 obtain ⟨p,q,hA0,hV,rfl,_,_⟩:=hW
 have hA:DataW.TrodAll enc Pg W 0 (fun _=>true) true Tryz.f8.params.toList args.toList ds p:=hA0
 rw [Tryz.params8] at hA hval hsz
 obtain ⟨v0,vs0,d0,ds0,p0,q0,ha0,rfl,rfl,h0,r0⟩:=trodAll_cons hA
 obtain ⟨v1,vs1,d1,ds1,p1,q1,ha1,rfl,rfl,h1,r1⟩:=trodAll_cons r0
 obtain ⟨rfl,rfl,rfl⟩:=trodAll_nil r1
 subst ha1
 obtain rfl:args = #[v0,v1]:=by cases args;simp_all
 obtain ⟨f0,hf0,hs0⟩:=siz_val (hval 0 _ v0 rfl rfl) h0 (reached_of (j:=0) hsz rfl rfl)
 obtain ⟨f1,hf1,hs1⟩:=siz_val (hval 1 _ v1 rfl rfl) h1 (reached_of (j:=1) hsz rfl rfl)
 refine Calls.mono (SizeAdds_at W v0 f0 v1 f1 hf0 hs0 hf1 hs1 (role_env hsh hL)) fun e W' ⟨v,he,hv,hx⟩=>?_
 subst he hv
 exact ⟨_,rfl,law_post role_laidOut (by decide +kernel) rfl hW' hx rfl Tryz.underlying4 rfl rfl rfl⟩
theorem zadds_holds:Rows.SizeAddsSaid :=
 OpenClaim.holds_of_wide 8 Tryz.f8 rfl rfl rfl rfl rfl rfl rfl ⟨rfl,rfl,rfl,rfl,rfl⟩ rfl rfl rfl rfl rfl (by kernel_rfl) Tryz.func8 (by kernel_rfl)
  (of_decide_eq_true (by kernel_rfl)) (by unfold Func.isWrapper;first | (rw [if_pos (by decide +kernel)];kernel_rfl) | (rw [if_neg (by decide +kernel)];exact ⟨rfl,rfl⟩))
  (fun os started H enc _=>zadds_lifted os started H enc)
theorem zadds_card:Rows.SizeAddsCardSaid :=
 Claim7.holds_tied_plain_at .later [] [.data,.data,.data,.sentinel,.sentinel] true (true, "b28e11fa6ee41b26e56fb3f3301f1cebdb04d4d8f758d2c888fe09ee37c1016c") true
  zadds_holds (fun _ h=>by cases h) (by kernel_rfl) (fun _ h=>by cases h) sizeAdds_row_tie rfl ⟨rfl,rfl⟩ (by kernel_rfl) rfl
  (fun f fn hf hfn=>by
   obtain rfl:f=8:=Option.some.inj ((show Pg.funcNamed "phrasebook/phrasebooklaw04.SizeAdds" = some 8 by kernel_rfl).symm.trans hf) |>.symm
   obtain rfl:fn=Tryz.f8:=(Option.some.inj (Tryz.func8.symm.trans hfn)).symm
   exact ⟨by kernel_rfl,fun j t ht=>by
    rw [Tryz.params8] at ht
    have hm:t∈[24,24]:=by simpa using Array.mem_of_getElem? ht
    have hall:([24,24].all fun u=>!Pg.wantsStandIn u)=true:=by kernel_rfl
    exact (show Pg.wantsStandIn t=false by simpa using List.all_eq_true.1 hall t hm)⟩)
  (by kernel_rfl)
end Go.Proofs.YtpgkjhikdhdffaaGreatDoor
