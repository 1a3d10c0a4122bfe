/-
  phrasebooklaw07.ScopePaths returns true for every definition and every number of a message, and leaves its arguments as they were; no condition is asked.
-/
import Derived.Test.YtfjjgjjlebllmaaGreatQd5
set_option linter.all false
set_option maxHeartbeats 4000000
set_option maxRecDepth 100000
namespace Go.Sw
open Go.ChangeShapes Go.WideShapes Go.RowKit Go.ChangeAt Go.Deep
theorem list_of {α:Type} {p:Nat→α→Prop}:∀ (n:Nat),(∀ i,i < n→∃ x,p i x)→∃ l:List α,l.length=n∧∀ k x,l[k]?=some x→p k x
 | 0,_=>⟨[],rfl,fun k x h=>by simp at h⟩
 | n+1,h=>by
  obtain ⟨l,hl,hp⟩:=list_of n (fun i hi=>h i (by omega))
  obtain ⟨x,hx⟩:=h n (by omega)
  refine ⟨l++[x],by simp [hl],fun k y hy=>?_⟩
  rw [List.getElem?_append] at hy
  split at hy
  · exact hp k y hy
  · have hk:k=n:=by
     have:=(List.getElem?_eq_some_iff.1 hy).1
     simp at this
     omega
    subst hk
    simp [hl] at hy
    subst hy
    exact hx
section
variable {H:Type} {enc:TypeId×Value→H} {P:Program} {w:World} {base:Nat} {spare:Nat→Bool} {held:Bool}
theorem weightsAll_mem {e:TypeId} {m:Nat} {d:DataW H}:∀ {l:List (DataW H)},d∈l→m∈d.weights P e→m∈DataW.weightsAll P e l
 | [],h,_=>by cases h
 | a::l,h,hm=>by
  rw [DataW.weightsAll,List.mem_append]
  rcases List.mem_cons.1 h with rfl | h
  · exact .inl hm
  · exact .inr (weightsAll_mem h hm)
def Reached (P:Program) (t:TypeId) (d:DataW H):Prop:=∀ m∈d.weights P t,m≤reachBytes
theorem reached_of {ts:List TypeId} {ds:List (DataW H)} (h:(DataW.weightsEach P ts ds).all (· ≤ reachBytes)=true) {j:Nat} {t:TypeId} {d:DataW H} (ht:ts[j]?=some t) (hd:ds[j]?=some d):Reached P t d:=fun m hm=>by
 have:=List.all_eq_true.1 h _ (DataW.weights_mem_each ht hd m hm)
 simpa using this
theorem slice_of_trod {α:Type} {E:World→List Value→α→Prop} {Q:α→Prop} {t e:TypeId} {n fuel:Nat} {cs:List Value} {x:DataW H×List MemPlace} (ht:P.underlying t=some (.slice e)) (hn:P.cellsOf e=n) (hb1:1≤P.bytesOf e) (h0:0 < n)
 (hE:∀ m cs' y,DataW.trod enc P w base spare held m e cs'=some y→Reached P e y.1→∃ x,E w cs' x∧Q x) (h:DataW.trod enc P w base spare held fuel t cs=some x) (hr:Reached P t x.1):∃ v l,cs=[v]∧SliceOf w n E v l∧(∀ x∈l,Q x)∧l.length≤140737488355328:=by
 rcases open_slice ht h with ⟨rfl,_⟩ | ⟨a,len,cap,m,k,D,Pl,rfl,hb,hl,hm,hmm,hx,hel⟩
 · exact ⟨_,[],rfl,SliceOf.nil _ _ _,fun x hx=>by (cases hx),Nat.zero_le _⟩
 · have hlm:len≤m:=by rw [hmm];split<;>omega
   subst hx
   have hw0:=hr ((len+(m - len))*P.bytesOf e) (by simp only [DataW.weights,ht];simp)
   have hlen:len≤140737488355328:=by
    have:len*1≤(len+(m - len))*P.bytesOf e:=Nat.mul_le_mul (by omega) hb1
    simp only [reachBytes] at hw0
    omega
   have hD:∀ i,i < len→Reached P e (D i):=fun i hi q hq=>hr q (by
    simp only [DataW.weights,ht,List.mem_cons,List.mem_append]
    exact .inr (.inl (weightsAll_mem (List.mem_map.2 ⟨i,List.mem_range.2 hi,rfl⟩) hq)))
   obtain ⟨l,hll,hp⟩:=list_of (p:=fun i (x:α)=>∃ cs',w.cells? base (a.add (i*n)) n=some cs'∧E w cs' x∧Q x) len (fun i hi=>by
    obtain ⟨cs',h1,h2⟩:=hel i (by omega)
    rw [hn] at h1
    obtain ⟨x,hx⟩:=hE _ _ _ h2 (hD i hi)
    exact ⟨x,cs',h1,hx⟩)
   refine ⟨_,l,rfl,⟨some a,cap,by rw [hll],by rw [hll];exact hl,by simp only [maxLen] at hm;omega,fun hne=>?_⟩,fun x hx=>?_,by omega⟩
   · obtain ⟨b,o,spot⟩:=a
     have hspot:spot=none:=by
      have:0 < l.length:=List.length_pos_iff.2 hne
      obtain ⟨y,hy⟩:=getElem?_lt this
      obtain ⟨cs',h1,_⟩:=hp 0 y hy
      obtain ⟨_,h2,h3⟩:=World.cells?_some h1
      have h4:=h3 0 h0
      rw [List.getElem?_eq_getElem (by omega)] at h4
      simpa [Addr.add] using World.cell?_spot h4
     subst hspot
     refine ⟨b,o,rfl,fun k x hx=>?_⟩
     obtain ⟨cs',h1,h2,_⟩:=hp k x hx
     obtain ⟨_,h3,h4⟩:=World.cells?_some h1
     refine ⟨cs',h3,fun j v hv=>?_,h2⟩
     have h5:=h4 j (by have:=(List.getElem?_eq_some_iff.1 hv).1;omega)
     rw [hv] at h5
     simpa [Addr.add_lit] using h5
   · obtain ⟨k,hk⟩:=List.getElem?_of_mem hx
     obtain ⟨_,_,_,hq⟩:=hp k x hk
     exact hq
theorem struct_of_trod {fs:Array Field} {t:TypeId} {n fuel:Nat} {cs:List Value} {x:DataW H×List MemPlace} (ht:P.underlying t=some (.struct fs)) (hn:P.cellsOf t=n) (h:DataW.trod enc P w base spare held fuel t cs=some x) (hr:Reached P t x.1) :
 cs.length=n∧∃ m,∀ (i:Nat) (ty off k:Nat),(fs[i]?).map (fun f=>(f.type,f.offset))=some (ty,off)→P.cellsOf ty=k→∃ y,DataW.trod enc P w base spare held m ty ((cs.drop off).take k)=some y∧Reached P ty y.1:=by
 obtain ⟨xs,m,_,rfl,hl,hlen,hf⟩:=DataW.trod_struct ht h
 refine ⟨hl.trans hn,m,fun i ty off k hi hk=>?_⟩
 obtain ⟨f,hfi,he⟩:=Option.map_eq_some_iff.1 hi
 injection he with h1 h2
 subst h1 h2 hk
 have hil:i < xs.length:=by rw [hlen];exact (Array.getElem?_eq_some_iff.1 hfi).1
 refine ⟨xs[i],(hf i f hfi).trans (List.getElem?_eq_getElem hil),fun q hq=>hr q ?_⟩
 simp only [DataW.weights,ht]
 refine DataW.weights_mem_each (j:=i) (t:=f.type) (d:=xs[i].1) ?_ ?_ q hq
 · rw [List.getElem?_map,Array.getElem?_toList,hfi];rfl
 · rw [List.getElem?_map,List.getElem?_eq_getElem hil];rfl
theorem trodAll_stays (hl:laidOutB P=true) {W W':World} (he:Ext W W'):∀ {ts:List TypeId} {vs:List Value} {ds:List (DataW H)} {ps:List MemPlace},(∀ t∈ts,P.readableRec t=true∧t < P.types.size)→(∀ x∈ps,x.block < W.heap.size) →
 DataW.TrodAll enc P W 0 (fun _=>true) true ts vs ds ps→DataW.TrodAll enc P W' 0 (fun b=>decide (b < W.heap.size)) true ts vs ds ps
 | [],_,_,_,_,_,h=>by obtain ⟨rfl,rfl,rfl⟩:=trodAll_nil h;exact trodAll_mk0
 | t::ts,_,_,_,hr,hlt,h=>by
  obtain ⟨v,vs1,d,ds1,a,b,rfl,rfl,rfl,h1,h2⟩:=trodAll_cons h
  refine ⟨a,b,?_,trodAll_stays hl he (fun t ht=>hr t (List.mem_cons_of_mem _ ht)) (fun x hx=>hlt x (List.mem_append_right _ hx)) h2,rfl⟩
  exact Below.trod hl (hr t (List.mem_cons_self ..)).1 (hr t (List.mem_cons_self ..)).2 h1 ⟨he.os,he.tape,he.output,he.size,he.block⟩ (fun x hx=>hlt x (List.mem_append_left _ hx))
theorem law_post {f:Func} {s:ChangeSpec} {W W':World} {args:Array Value} {ds gs:List (DataW H)} {before:List MemPlace} {tb:TypeId} (hl:laidOutB P=true) (hr:∀ t∈f.params.toList,P.readableRec t=true∧t < P.types.size) (hs:s.vars=[])
 (hW:DataW.Whole enc P f.params.toList s.vars false W args.toList ds gs before) (he:Ext W W') (hres:f.resultTypes = #[tb]) (htb:P.underlying tb=some .bool) (hfn:(s.fn H ds).results=[.lit (.bool true)]) (hargs:(s.fn H ds).args=ds) (hvars:(s.fn H ds).vars=[]) :
 s.post enc P f false true false false W args (.bool true) W':=by
 have hW':=hW
 obtain ⟨p,q,hA,hV,rfl,_,_⟩:=hW
 rw [hs] at hV
 obtain ⟨rfl,rfl⟩:=trodVars_none hV
 have hlt:∀ x∈p,x.block < W.heap.size:=fun x hx=>hW'.lt x (by simpa using hx)
 rw [List.append_nil] at hW'
 refine ⟨ds,[],p,[],p,[],hW',?_,?_,?_,Below.frame ⟨he.os,he.tape,he.output,he.size,he.block⟩ _,fun h=>by cases h⟩
 · rw [List.append_nil,hfn,hres]
   exact trodAll_mk1 (shut_bool htb _)
 · rw [List.append_nil,hargs]
   exact trodAll_stays hl he hr hlt hA
 · rw [List.append_nil,hvars,hs]
   exact rfl
end
end Go.Sw
namespace Go.Proofs.YtfjjgjjlebllmaaGreat
open Sw
open Go.ChangeShapes Go.WideShapes Go.RowKit Go.ChangeAt Go.Deep
theorem cellsTerm:Pg.cellsOf 62=2:=by kernel_rfl
theorem cellsCase:Pg.cellsOf 60=3:=by kernel_rfl
theorem cellsSize:Pg.cellsOf 45=2:=by kernel_rfl
theorem cellsField:Pg.cellsOf 48=15:=by kernel_rfl
theorem cellsMessage:Pg.cellsOf 24=2:=by kernel_rfl
theorem cellsDefinition:Pg.cellsOf 28=3:=by kernel_rfl
theorem cellsString:Pg.cellsOf 9=1:=by kernel_rfl
theorem cellsInt:Pg.cellsOf 3=1:=by kernel_rfl
theorem cellsBool:Pg.cellsOf 4=1:=by kernel_rfl
theorem cellsKind:Pg.cellsOf 42=1:=by kernel_rfl
theorem cellsTerms:Pg.cellsOf 43=1:=by kernel_rfl
theorem cellsCases:Pg.cellsOf 46=1:=by kernel_rfl
theorem cellsFields:Pg.cellsOf 22=1:=by kernel_rfl
theorem bytesTerm:1≤Pg.bytesOf 62:=Nat.le_of_ble_eq_true (by kernel_rfl)
theorem bytesCase:1≤Pg.bytesOf 60:=Nat.le_of_ble_eq_true (by kernel_rfl)
theorem bytesField:1≤Pg.bytesOf 48:=Nat.le_of_ble_eq_true (by kernel_rfl)
theorem bytesMessage:1≤Pg.bytesOf 24:=Nat.le_of_ble_eq_true (by kernel_rfl)
def FieldSm (f:FieldD):Prop:=f.terms.length≤140737488355328∧f.cases.length≤140737488355328∧∀ c∈f.cases,c.of.size≤140737488355328
def MsgSm (m:MsgD):Prop:=m.fields.length≤140737488355328∧∀ f∈m.fields,FieldSm f
def DefSm (d:DefD):Prop:=d.msgs.length≤140737488355328∧∀ m∈d.msgs,MsgSm m
theorem cellsMessages:Pg.cellsOf 26=1:=by kernel_rfl
section
variable {H:Type} {enc:TypeId×Value→H} {w:World} {base:Nat} {spare:Nat→Bool} {held:Bool}
theorem term_of {m:Nat} {cs:List Value} {y:DataW H×List MemPlace} (h:DataW.trod enc Pg w base spare held m 62 cs=some y) (hr:Reached Pg 62 y.1):∃ x,ETerm w cs x:=by
 obtain ⟨hl,n,hf⟩:=struct_of_trod Tryz.underlying62 cellsTerm h hr
 obtain ⟨y0,h0,r0⟩:=hf 0 9 0 1 rfl cellsString
 obtain ⟨y1,h1,r1⟩:=hf 1 3 1 1 rfl cellsInt
 match cs,hl with
 | [c0,c1],_ =>
  obtain ⟨s,e0,_⟩:=DataW.trod_string Tryz.underlying9 h0
  obtain ⟨k,e1,_⟩:=DataW.trod_int Tryz.underlying3 h1
  simp at e0 e1
  subst e0 e1
  exact ⟨⟨s,k⟩,rfl⟩
theorem case_of {m:Nat} {cs:List Value} {y:DataW H×List MemPlace} (h:DataW.trod enc Pg w base spare held m 60 cs=some y) (hr:Reached Pg 60 y.1):∃ x,ECase w cs x∧x.of.size≤140737488355328:=by
 obtain ⟨hl,n,hf⟩:=struct_of_trod Tryz.underlying60 cellsCase h hr
 obtain ⟨y0,h0,r0⟩:=hf 0 3 0 1 rfl cellsInt
 obtain ⟨y1,h1,r1⟩:=hf 1 3 1 1 rfl cellsInt
 obtain ⟨y2,h2,r2⟩:=hf 2 9 2 1 rfl cellsString
 match cs,hl with
 | [c0,c1,c2],_ =>
  obtain ⟨a,e0,_⟩:=DataW.trod_int Tryz.underlying3 h0
  obtain ⟨b,e1,_⟩:=DataW.trod_int Tryz.underlying3 h1
  obtain ⟨s,e2,e3,_⟩:=DataW.trod_string Tryz.underlying9 h2
  simp at e0 e1 e2
  subst e0 e1 e2
  refine ⟨⟨a,b,s⟩,rfl,?_⟩
  have:=r2 s.data.toList.length (by rw [e3];exact List.mem_singleton.2 rfl)
  simp only [reachBytes] at this
  have h4:s.size=s.data.toList.length:=Array.length_toList.symm
  show s.size≤_
  omega
theorem size_of {m:Nat} {cs:List Value} {y:DataW H×List MemPlace} (h:DataW.trod enc Pg w base spare held m 45 cs=some y) (hr:Reached Pg 45 y.1):∃ b tv ts,cs=[.int .i64 b,tv]∧TermsOf w tv ts∧ts.length≤140737488355328:=by
 obtain ⟨hl,n,hf⟩:=struct_of_trod Tryz.underlying45 cellsSize h hr
 obtain ⟨y0,h0,r0⟩:=hf 0 3 0 1 rfl cellsInt
 obtain ⟨y1,h1,r1⟩:=hf 1 43 1 1 rfl cellsTerms
 match cs,hl with
 | [c0,c1],_ =>
  obtain ⟨a,e0,_⟩:=DataW.trod_int Tryz.underlying3 h0
  obtain ⟨v,l,e1,hS,_,hL⟩:=slice_of_trod (E:=ETerm) (Q:=fun _=>True) Tryz.underlying43 cellsTerm bytesTerm (by decide) (fun _ _ _ h hr=>let ⟨x,hx⟩:=term_of h hr; ⟨x,hx,trivial⟩) h1 r1
  simp at e0 e1
  subst e0 e1
  exact ⟨a,_,l,rfl,hS,hL⟩
theorem field_of {m:Nat} {cs:List Value} {y:DataW H×List MemPlace} (h:DataW.trod enc Pg w base spare held m 48 cs=some y) (hr:Reached Pg 48 y.1):∃ x,EField w cs x∧FieldSm x:=by
 obtain ⟨hl,n,hf⟩:=struct_of_trod Tryz.underlying48 cellsField h hr
 obtain ⟨y0,h0,r0⟩:=hf 0 9 0 1 rfl cellsString
 obtain ⟨y1,h1,r1⟩:=hf 1 42 1 1 rfl cellsKind
 obtain ⟨y2,h2,r2⟩:=hf 2 3 2 1 rfl cellsInt
 obtain ⟨y3,h3,r3⟩:=hf 3 4 3 1 rfl cellsBool
 obtain ⟨y4,h4,r4⟩:=hf 4 4 4 1 rfl cellsBool
 obtain ⟨y5,h5,r5⟩:=hf 5 3 5 1 rfl cellsInt
 obtain ⟨y6,h6,r6⟩:=hf 6 3 6 1 rfl cellsInt
 obtain ⟨y7,h7,r7⟩:=hf 7 45 7 2 rfl cellsSize
 obtain ⟨y8,h8,r8⟩:=hf 8 9 9 1 rfl cellsString
 obtain ⟨y9,h9,r9⟩:=hf 9 9 10 1 rfl cellsString
 obtain ⟨y10,h10,r10⟩:=hf 10 9 11 1 rfl cellsString
 obtain ⟨y11,h11,r11⟩:=hf 11 46 12 1 rfl cellsCases
 obtain ⟨y12,h12,r12⟩:=hf 12 3 13 1 rfl cellsInt
 obtain ⟨y13,h13,r13⟩:=hf 13 3 14 1 rfl cellsInt
 match cs,hl with
 | [c0,c1,c2,c3,c4,c5,c6,c7,c8,c9,c10,c11,c12,c13,c14],_ =>
  obtain ⟨x0,e0,_⟩:=DataW.trod_string Tryz.underlying9 h0
  obtain ⟨x1,e1,_⟩:=DataW.trod_int Tryz.underlying42 h1
  obtain ⟨x2,e2,_⟩:=DataW.trod_int Tryz.underlying3 h2
  obtain ⟨x3,e3,_⟩:=DataW.trod_bool Tryz.underlying4 h3
  obtain ⟨x4,e4,_⟩:=DataW.trod_bool Tryz.underlying4 h4
  obtain ⟨x5,e5,_⟩:=DataW.trod_int Tryz.underlying3 h5
  obtain ⟨x6,e6,_⟩:=DataW.trod_int Tryz.underlying3 h6
  obtain ⟨x7,tv,ts,e7,hT,hTl⟩:=size_of h7 r7
  obtain ⟨x9,e9,_⟩:=DataW.trod_string Tryz.underlying9 h8
  obtain ⟨x10,e10,_⟩:=DataW.trod_string Tryz.underlying9 h9
  obtain ⟨x11,e11,_⟩:=DataW.trod_string Tryz.underlying9 h10
  obtain ⟨cv,l,e12,hC,hCq,hCl⟩:=slice_of_trod (E:=ECase) (Q:=fun c=>c.of.size≤140737488355328) Tryz.underlying46 cellsCase bytesCase (by decide) (fun _ _ _ h hr=>case_of h hr) h11 r11
  obtain ⟨x13,e13,_⟩:=DataW.trod_int Tryz.underlying3 h12
  obtain ⟨x14,e14,_⟩:=DataW.trod_int Tryz.underlying3 h13
  simp at e0 e1 e2 e3 e4 e5 e6 e7 e9 e10 e11 e12 e13 e14
  obtain ⟨e7,e8⟩:=e7
  subst e0 e1 e2 e3 e4 e5 e6 e7 e8 e9 e10 e11 e12 e13 e14
  exact ⟨⟨x0,x1,x2,x3,x4,x5,x6,x7,ts,x9,x10,x11,l,x13,x14⟩,⟨_,_,rfl,hT,hC⟩,hTl,hCl,hCq⟩
theorem msg_of {m:Nat} {cs:List Value} {y:DataW H×List MemPlace} (h:DataW.trod enc Pg w base spare held m 24 cs=some y) (hr:Reached Pg 24 y.1):∃ x,EMsg w cs x∧MsgSm x:=by
 obtain ⟨hl,n,hf⟩:=struct_of_trod Tryz.underlying24 cellsMessage h hr
 obtain ⟨y0,h0,r0⟩:=hf 0 9 0 1 rfl cellsString
 obtain ⟨y1,h1,r1⟩:=hf 1 22 1 1 rfl cellsFields
 match cs,hl with
 | [c0,c1],_ =>
  obtain ⟨a,e0,_⟩:=DataW.trod_string Tryz.underlying9 h0
  obtain ⟨v,l,e1,hS,hQ,hL⟩:=slice_of_trod (E:=EField) (Q:=FieldSm) Tryz.underlying22 cellsField bytesField (by decide) (fun _ _ _ h hr=>field_of h hr) h1 r1
  simp at e0 e1
  subst e0 e1
  exact ⟨⟨a,l⟩,⟨_,rfl,hS⟩,hL,hQ⟩
theorem def_of {m:Nat} {cs:List Value} {y:DataW H×List MemPlace} (h:DataW.trod enc Pg w base spare held m 28 cs=some y) (hr:Reached Pg 28 y.1):∃ d mv,cs=defCells d mv∧MsgsOf w mv d.msgs∧DefSm d:=by
 obtain ⟨hl,n,hf⟩:=struct_of_trod Tryz.underlying28 cellsDefinition h hr
 obtain ⟨y0,h0,r0⟩:=hf 0 9 0 1 rfl cellsString
 obtain ⟨y1,h1,r1⟩:=hf 1 26 1 1 rfl cellsMessages
 obtain ⟨y2,h2,r2⟩:=hf 2 9 2 1 rfl cellsString
 match cs,hl with
 | [c0,c1,c2],_ =>
  obtain ⟨a,e0,_⟩:=DataW.trod_string Tryz.underlying9 h0
  obtain ⟨v,l,e1,hS,hQ,hL⟩:=slice_of_trod (E:=EMsg) (Q:=MsgSm) Tryz.underlying26 cellsMessage bytesMessage (by decide) (fun _ _ _ h hr=>msg_of h hr) h1 r1
  obtain ⟨b,e2,_⟩:=DataW.trod_string Tryz.underlying9 h2
  simp at e0 e1 e2
  subst e0 e1 e2
  exact ⟨⟨a,l,b⟩,_,rfl,hS,hL,hQ⟩
theorem def_val {r:Reach} {b0:Nat} {v:Value} {d:DataW H} {ps:List MemPlace} (hval:Value.okWide Pg w r b0 28 v) (h:DataW.Trod enc Pg w base spare held 28 v d ps) (hr:Reached Pg 28 d):∃ f,DefVal w v f∧DefSm f:=by
 obtain ⟨cs,rfl,_⟩:=okWide_struct Tryz.underlying28 hval
 obtain ⟨fuel,hf⟩:=h
 obtain ⟨f,tv,h1,h2,hs⟩:=def_of hf hr
 exact ⟨f,⟨tv,congrArg Value.agg (by rw [← h1,cells_agg]),h2⟩,hs⟩
end
end Go.Proofs.YtfjjgjjlebllmaaGreat
namespace Go.Proofs.YtfjjgjjlebllmaaGreat
open Sw
def n6c1 (t6 t23:Value) (next3:KV) (R:RT) (w:World):Prop :=
 X0 22 t23 t6 R w fun t38 w =>
 F0 48 t38 11 R w fun t39 w =>
 L0 46 t39 R w fun t40 w =>
 opV Pg (Builtin.len_ #[46] 3 #[t40]) (panK R) w fun t41 w =>
 B0 .gtr 3 true t41 (.int .i64 50) R w fun t42 w =>
 joinK (fun (t51:Value) (w:World) =>
 pickK t42 (.bool true) t51 fun t52 =>
 condP t52 (
 R (.returned (.bool false)) w) (
 B0 .add 3 true t6 (.int .i64 1) R w fun t35 w =>
 next3 t35 w)) fun K4 =>
 guardP t42 false (
 X0 22 t23 t6 R w fun t46 w =>
 F0 48 t46 7 R w fun t47 w =>
 F0 45 t47 1 R w fun t48 w =>
 L0 43 t48 R w fun t49 w =>
 opV Pg (Builtin.len_ #[43] 3 #[t49]) (panK R) w fun t50 w =>
 B0 .gtr 3 true t50 (.int .i64 10) R w fun t51 w =>
 K4 t51 w) (
 K4 undef w)
def n6c2 (t4 t6 t23 t27:Value) (next1:KW) (next3:KV) (R:RT) (w:World):Prop :=
 opV Pg (Builtin.len_ #[22] 3 #[t23]) (panK R) w fun t32 w =>
 B0 .lss 3 false t6 t32 R w fun t33 w =>
 condP t33 (
 n6c1 t6 t23 next3 R w) (
 B0 .add 3 true t4 (.int .i64 1) R w fun t17 w =>
 next1 t27 t17 w)
def n6c3 (t1:Value) (R:RT) (w:World):Prop :=
 F0 28 t1 1 R w fun t53 w =>
 L0 26 t53 R w fun t54 w =>
 opV Pg (Builtin.len_ #[26] 3 #[t54]) (panK R) w fun t55 w =>
 B0 .leq 3 true t55 (.int .i64 70) R w fun t56 w =>
 R (.returned t56) w
def n6c4 (t1 t3 t4:Value) (next1:KW) (R:RT) (w:World):Prop :=
 F0 28 t1 1 R w fun t18 w =>
 L0 26 t18 R w fun t19 w =>
 X0 26 t19 t4 R w fun t21 w =>
 F0 24 t21 1 R w fun t22 w =>
 L0 22 t22 R w fun t23 w =>
 opV Pg (Builtin.len_ #[22] 3 #[t23]) (panK R) w fun t26 w =>
 B0 .add 3 false t3 t26 R w fun t27 w =>
 B0 .gtr 3 true t27 (.int .i64 400) R w fun t29 w =>
 condP t29 (
 R (.returned (.bool false)) w) (
 loop1 (fun t6 w next3 =>
 n6c2 t4 t6 t23 t27 next1 next3 R w) (.int .i64 0) w)
def n6c5 (t1 t3 t4:Value) (next1:KW) (R:RT) (w:World):Prop :=
 F0 28 t1 1 R w fun t8 w =>
 L0 26 t8 R w fun t9 w =>
 opV Pg (Builtin.len_ #[26] 3 #[t9]) (panK R) w fun t10 w =>
 B0 .lss 3 false t4 t10 R w fun t11 w =>
 joinK (fun (t14:Value) (w:World) =>
 pickK t11 t14 (.bool false) fun t15 =>
 condP t15 (
 n6c4 t1 t3 t4 next1 R w) (
 n6c3 t1 R w)) fun K2 =>
 guardP t11 true (
 B0 .leq 3 true t4 (.int .i64 70) R w fun t14 w =>
 K2 t14 w) (
 K2 undef w)
def n6 (t0:Value) (R:RT) (w:World):Prop :=
 opV Pg (Instr.box 28 t0) (panK R) w fun t1 w =>
 loop2 (fun t3 t4 w next1 =>
 n6c5 t1 t3 t4 next1 R w) (.int .i64 0) (.int .i64 0) w
set_option maxHeartbeats 40000000 in
theorem n6s {t0:Value} {R:RT} {w:World} (h:n6 t0 R w):Calls Pg 10 #[t0] w R:=by
 refine yD Tryz.func10 ?_
 refine zs<|zr<|yv h fun _ w h=>zm<|zn<|zk<|zs<|zr<|zm<|zn<|zk<|zs<|zs<|zr<|zm ?_
 refine zn<|zk<|sim_block<|yl2 [2,3,4,5,6,7,8,9,10,11,12,13,14,15,16,17,18,19,20,21,22,23,24,25,26,27,28,29,30,31,32,33,34,35,36,37,38,39,40,41,42,43,44,45,46,47,48,49,50,51,52] 3 4 h fun σ w next h=>zs<|zs<|sim_regionG<|yG 6<|zm<|yv h fun _ w h=>yv h fun _ w h=>yx h fun _ w h=>yb h fun _ w h=>zm<|zn ?_
 refine yg1 2 5 true [13,14] 14 h (fun _ T hT h=>?_) fun σ w h=>?_
 · refine zm<|yb h fun _ w h=>zn ?_
   exact zt hT h
 refine yG 1<|yp h fun _ h=>zn<|sim_end<|zk<|yC h (fun h=>?_) fun h=>?_
 · refine sim_skip<|zk<|zs<|sim_block<|zs<|zr<|yv h fun _ w h=>yv h fun _ w h=>zm<|yv h fun _ w h=>yv h fun _ w h=>yv h fun _ w h=>zm<|zn<|zk ?_
   refine zs<|zr<|zm<|zm<|yx h fun _ w h=>yb h fun _ w h=>zm<|zn<|zk<|zs<|zs<|zr<|zm<|yb h fun _ w h=>zn ?_
   refine zk<|yC h (fun h=>zs<|zr<|zm<|zn<|zk<|sim_ret<|sim_then_ret<|sim_block_ret<|sim_then_ret<|sim_then_ret<|sim_block_ret<|sim_then_ret<|body_ret1 rfl rfl h) fun h=>sim_skip<|zk<|zs<|zr<|zm<|zn<|zk<|sim_block<|yl1 [2,6,30,31,32,33,34,35,36,37,38,39,40,41,42,43,44,45,46,47,48,49,50,51,52] 6 h fun σ w next h=>zs<|zs<|zr ?_
   refine zm<|zm<|yx h fun _ w h=>yb h fun _ w h=>zn<|zk<|yC h (fun h=>?_) fun h=>?_
   · refine sim_skip<|zk<|zs<|sim_block<|zs<|sim_regionG<|yG 8<|zm<|zm<|yv h fun _ w h=>yv h fun _ w h=>yv h fun _ w h=>yx h fun _ w h=>yb h fun _ w h=>zm ?_
     refine zn<|yg1 8 7 false [44,45,46,47,48,49,50,51] 51 h (fun _ T hT h=>?_) fun σ w h=>?_
     · refine zm<|zm<|yv h fun _ w h=>yv h fun _ w h=>yv h fun _ w h=>yv h fun _ w h=>yx h fun _ w h=>yb h fun _ w h=>zn ?_
       exact zt hT h
     refine yG 1<|yp h fun _ h=>zn<|sim_end<|zk<|yC h (fun h=>?_) fun h=>?_
     · refine zs<|zr<|zm<|zn<|zk<|sim_ret<|sim_block_ret<|sim_then_ret<|sim_then_ret<|sim_block_ret<|sim_block_ret<|sim_then_ret<|sim_then_ret<|sim_block_ret<|sim_then_ret ?_
       exact body_ret1 rfl rfl h
     exact sim_skip<|sim_block_normal<|zk<|zr<|zm<|yb h fun _ w h=>zm<|zn<|zk<|⟨rfl,h⟩
   exact sim_exit<|sim_then_exit<|sim_then_exit<|sim_block_hit<|sim_block_normal<|zk<|zr<|zm<|yb h fun _ w h=>zm<|zn<|zk<|⟨rfl,h⟩
 refine sim_exit<|sim_then_exit<|sim_then_exit<|sim_block_hit<|zk<|zs<|zr<|yv h fun _ w h=>yv h fun _ w h=>yx h fun _ w h=>yb h fun _ w h=>zm<|zn<|zk<|sim_ret ?_
 exact body_ret1 rfl rfl h
def n9c1 (t35 t45 t48:Value) (next1:KV) (R:RT) (w:World):Prop :=
 opV Pg (Op.unary .not t48) (panK R) w fun t49 w =>
 joinK (fun (t52:Value) (w:World) =>
 pickK t49 (.bool true) t52 fun t53 =>
 condP t53 (
 R (.returned (.bool false)) w) (
 B0 .add 3 true t35 (.int .i64 1) R w fun t54 w =>
 next1 t54 w)) fun K2 =>
 guardP t49 false (
 B0 .neq 31 true t45 (.int .i64 0) R w fun t52 w =>
 K2 t52 w) (
 K2 undef w)
def n9c2 (t35 t39 t43:Value) (next1:KV) (R:RT) (w:World):Prop :=
 opV Pg (Instr.extract t43 0) (panK R) w fun t44 w =>
 opV Pg (Instr.extract t43 1) (panK R) w fun t45 w =>
 C0 14 #[t44,t39] R w fun t48 w =>
 n9c1 t35 t45 t48 next1 R w
def n9c3 (t130 t160 t163:Value) (R:RT) (w:World):Prop :=
 pickK t160 t163 (.bool false) fun t164 =>
 joinK (fun (t167:Value) (w:World) =>
 pickK t164 t167 (.bool false) fun t168 =>
 R (.returned t168) w) fun K16 =>
 guardP t164 true (
 B0 .eql 31 true t130 (.int .i64 9) R w fun t167 w =>
 K16 t167 w) (
 K16 undef w)
def n9c4 (t125 t130 t156 t159:Value) (R:RT) (w:World):Prop :=
 pickK t156 t159 (.bool false) fun t160 =>
 joinK (fun (t163:Value) (w:World) =>
 n9c3 t130 t160 t163 R w) fun K15 =>
 guardP t160 true (
 B0 .eql 31 true t125 (.int .i64 0) R w fun t163 w =>
 K15 t163 w) (
 K15 undef w)
def n9c5 (t120 t125 t130 t152 t155:Value) (R:RT) (w:World):Prop :=
 pickK t152 t155 (.bool false) fun t156 =>
 joinK (fun (t159:Value) (w:World) =>
 n9c4 t125 t130 t156 t159 R w) fun K14 =>
 guardP t156 true (
 B0 .eql 31 true t120 (.int .i64 0) R w fun t159 w =>
 K14 t159 w) (
 K14 undef w)
def n9c6 (t115 t120 t125 t130 t148 t151:Value) (R:RT) (w:World):Prop :=
 pickK t148 t151 (.bool false) fun t152 =>
 joinK (fun (t155:Value) (w:World) =>
 n9c5 t120 t125 t130 t152 t155 R w) fun K13 =>
 guardP t152 true (
 B0 .eql 31 true t115 (.int .i64 0) R w fun t155 w =>
 K13 t155 w) (
 K13 undef w)
def n9c7 (t110 t115 t120 t125 t130 t143 t147:Value) (R:RT) (w:World):Prop :=
 pickK t143 t147 (.bool false) fun t148 =>
 joinK (fun (t151:Value) (w:World) =>
 n9c6 t115 t120 t125 t130 t148 t151 R w) fun K12 =>
 guardP t148 true (
 B0 .eql 31 true t110 (.int .i64 0) R w fun t151 w =>
 K12 t151 w) (
 K12 undef w)
def n9c8 (t110 t115 t120 t124 t125 t130 t138 t142:Value) (R:RT) (w:World):Prop :=
 pickK t138 t142 (.bool false) fun t143 =>
 joinK (fun (t147:Value) (w:World) =>
 n9c7 t110 t115 t120 t125 t130 t143 t147 R w) fun K11 =>
 guardP t143 true (
 opV Pg (Instr.buildSlice 30 2 #[(0,(.int .i64 2)),(1,(.int .i64 1))]) (panK R) w fun t146 w =>
 C0 14 #[t124,t146] R w fun t147 w =>
 K11 t147 w) (
 K11 undef w)
def n9c9 (t110 t115 t119 t120 t124 t125 t130 t133 t137:Value) (R:RT) (w:World):Prop :=
 pickK t133 t137 (.bool false) fun t138 =>
 joinK (fun (t142:Value) (w:World) =>
 n9c8 t110 t115 t120 t124 t125 t130 t138 t142 R w) fun K10 =>
 guardP t138 true (
 opV Pg (Instr.buildSlice 30 2 #[(0,(.int .i64 2)),(1,(.int .i64 0))]) (panK R) w fun t141 w =>
 C0 14 #[t119,t141] R w fun t142 w =>
 K10 t142 w) (
 K10 undef w)
def n9c10 (t110 t114 t115 t119 t120 t124 t125 t130 t133:Value) (R:RT) (w:World):Prop :=
 joinK (fun (t137:Value) (w:World) =>
 n9c9 t110 t115 t119 t120 t124 t125 t130 t133 t137 R w) fun K9 =>
 guardP t133 true (
 opV Pg (Instr.buildSlice 30 1 #[(0,(.int .i64 3))]) (panK R) w fun t136 w =>
 C0 14 #[t114,t136] R w fun t137 w =>
 K9 t137 w) (
 K9 undef w)
def n9c11 (t109 t110 t114 t115 t119 t120 t124 t125 t128:Value) (R:RT) (w:World):Prop :=
 opV Pg (Instr.extract t128 0) (panK R) w fun t129 w =>
 opV Pg (Instr.extract t128 1) (panK R) w fun t130 w =>
 opV Pg (Instr.buildSlice 30 3 #[(0,(.int .i64 0)),(1,(.int .i64 1)),(2,(.int .i64 2))]) (panK R) w fun t132 w =>
 C0 14 #[t109,t132] R w fun t133 w =>
 n9c10 t110 t114 t115 t119 t120 t124 t125 t130 t133 R w
def n9c12 (t1 t109 t110 t114 t115 t119 t120 t123:Value) (R:RT) (w:World):Prop :=
 opV Pg (Instr.extract t123 0) (panK R) w fun t124 w =>
 opV Pg (Instr.extract t123 1) (panK R) w fun t125 w =>
 L0 28 t1 R w fun t127 w =>
 C0 24 #[t127,(.int .i64 3)] R w fun t128 w =>
 n9c11 t109 t110 t114 t115 t119 t120 t124 t125 t128 R w
def n9c13 (t1 t109 t110 t114 t115 t118:Value) (R:RT) (w:World):Prop :=
 opV Pg (Instr.extract t118 0) (panK R) w fun t119 w =>
 opV Pg (Instr.extract t118 1) (panK R) w fun t120 w =>
 L0 28 t1 R w fun t122 w =>
 C0 24 #[t122,(.int .i64 1)] R w fun t123 w =>
 n9c12 t1 t109 t110 t114 t115 t119 t120 t123 R w
def n9c14 (t1 t109 t110 t113:Value) (R:RT) (w:World):Prop :=
 opV Pg (Instr.extract t113 0) (panK R) w fun t114 w =>
 opV Pg (Instr.extract t113 1) (panK R) w fun t115 w =>
 L0 28 t1 R w fun t117 w =>
 C0 24 #[t117,(.int .i64 0)] R w fun t118 w =>
 n9c13 t1 t109 t110 t114 t115 t118 R w
def n9c15 (t1 t108:Value) (R:RT) (w:World):Prop :=
 opV Pg (Instr.extract t108 0) (panK R) w fun t109 w =>
 opV Pg (Instr.extract t108 1) (panK R) w fun t110 w =>
 L0 28 t1 R w fun t112 w =>
 C0 21 #[t112] R w fun t113 w =>
 n9c14 t1 t109 t110 t113 R w
def n9c16 (t1 t96 t104:Value) (R:RT) (w:World):Prop :=
 pickK t96 (.bool true) t104 fun t105 =>
 condP t105 (
 R (.returned (.bool false)) w) (
 L0 28 t1 R w fun t107 w =>
 C0 20 #[t107] R w fun t108 w =>
 n9c15 t1 t108 R w)
def n9c17 (t1:Value) (K8:KV) (R:RT) (w:World):Prop :=
 F0 28 t1 1 R w fun t98 w =>
 L0 26 t98 R w fun t99 w =>
 opV Pg (Instr.indexAt 26 t99 (.int .i64 0)) (panK R) w fun t100 w =>
 L0 24 t100 R w fun t101 w =>
 opV Pg (Instr.buildSlice 30 1 #[(0,(.int .i64 0))]) (panK R) w fun t102 w =>
 C0 18 #[t101,(.int .i64 9),t102] R w fun t103 w =>
 opV Pg (Op.unary .not t103) (panK R) w fun t104 w =>
 K8 t104 w
def n9c18 (t1 t91 t95:Value) (R:RT) (w:World):Prop :=
 pickK t91 (.bool true) t95 fun t96 =>
 joinK (fun (t104:Value) (w:World) =>
 n9c16 t1 t96 t104 R w) fun K8 =>
 guardP t96 false (
 n9c17 t1 K8 R w) (
 K8 undef w)
def n9c19 (t1 t2 t87 t90:Value) (R:RT) (w:World):Prop :=
 pickK t87 (.bool true) t90 fun t91 =>
 joinK (fun (t95:Value) (w:World) =>
 n9c18 t1 t91 t95 R w) fun K7 =>
 guardP t91 false (
 L0 24 t2 R w fun t93 w =>
 C0 18 #[t93,(.int .i64 9),(Value.slice none 0 0)] R w fun t94 w =>
 opV Pg (Op.unary .not t94) (panK R) w fun t95 w =>
 K7 t95 w) (
 K7 undef w)
def n9c20 (t1 t2 t69 t83 t86:Value) (R:RT) (w:World):Prop :=
 pickK t83 (.bool true) t86 fun t87 =>
 joinK (fun (t90:Value) (w:World) =>
 n9c19 t1 t2 t87 t90 R w) fun K6 =>
 guardP t87 false (
 B0 .neq 31 true t69 (.int .i64 0) R w fun t90 w =>
 K6 t90 w) (
 K6 undef w)
def n9c21 (t1 t2 t64 t69 t77 t82:Value) (R:RT) (w:World):Prop :=
 pickK t77 (.bool true) t82 fun t83 =>
 joinK (fun (t86:Value) (w:World) =>
 n9c20 t1 t2 t69 t83 t86 R w) fun K5 =>
 guardP t83 false (
 B0 .neq 31 true t64 (.int .i64 0) R w fun t86 w =>
 K5 t86 w) (
 K5 undef w)
def n9c22 (t1 t2 t64 t68 t69 t71 t76:Value) (R:RT) (w:World):Prop :=
 pickK t71 (.bool true) t76 fun t77 =>
 joinK (fun (t82:Value) (w:World) =>
 n9c21 t1 t2 t64 t69 t77 t82 R w) fun K4 =>
 guardP t77 false (
 opV Pg (Instr.buildSlice 30 1 #[(0,(.int .i64 4))]) (panK R) w fun t80 w =>
 C0 14 #[t68,t80] R w fun t81 w =>
 opV Pg (Op.unary .not t81) (panK R) w fun t82 w =>
 K4 t82 w) (
 K4 undef w)
def n9c23 (t1 t2 t59 t63 t64 t67:Value) (R:RT) (w:World):Prop :=
 opV Pg (Instr.extract t67 0) (panK R) w fun t68 w =>
 opV Pg (Instr.extract t67 1) (panK R) w fun t69 w =>
 B0 .neq 31 true t59 (.int .i64 3) R w fun t71 w =>
 joinK (fun (t76:Value) (w:World) =>
 n9c22 t1 t2 t64 t68 t69 t71 t76 R w) fun K3 =>
 guardP t71 false (
 opV Pg (Instr.buildSlice 30 1 #[(0,(.int .i64 2))]) (panK R) w fun t74 w =>
 C0 14 #[t63,t74] R w fun t75 w =>
 opV Pg (Op.unary .not t75) (panK R) w fun t76 w =>
 K3 t76 w) (
 K3 undef w)
def n9c24 (t1 t2 t59 t62:Value) (R:RT) (w:World):Prop :=
 opV Pg (Instr.extract t62 0) (panK R) w fun t63 w =>
 opV Pg (Instr.extract t62 1) (panK R) w fun t64 w =>
 L0 24 t2 R w fun t66 w =>
 C0 13 #[t66,(.int .i64 2)] R w fun t67 w =>
 n9c23 t1 t2 t59 t63 t64 t67 R w
def n9c25 (t1 t2 t57:Value) (R:RT) (w:World):Prop :=
 opV Pg (Instr.extract t57 0) (panK R) w fun t58 w =>
 opV Pg (Instr.extract t57 1) (panK R) w fun t59 w =>
 L0 24 t2 R w fun t61 w =>
 C0 13 #[t61,(.int .i64 0)] R w fun t62 w =>
 n9c24 t1 t2 t59 t62 R w
def n9c26 (t2 t33 t35:Value) (next1:KV) (R:RT) (w:World):Prop :=
 X0 78 t33 t35 R w fun t38 w =>
 L0 30 t38 R w fun t39 w =>
 L0 24 t2 R w fun t41 w =>
 C0 12 #[t41,t35] R w fun t43 w =>
 n9c2 t35 t39 t43 next1 R w
def n9c27 (t1 t2 t33 t34 t35:Value) (next1:KV) (R:RT) (w:World):Prop :=
 B0 .lss 3 false t35 t34 R w fun t36 w =>
 condP t36 (
 n9c26 t2 t33 t35 next1 R w) (
 L0 24 t2 R w fun t56 w =>
 C0 12 #[t56,(.int .i64 5)] R w fun t57 w =>
 n9c25 t1 t2 t57 R w)
def n9c28 (t23:Value) (R:RT) (w:World):Prop :=
 opV Pg (Instr.alloc 28 true (.tuple #[])) (panK R) w fun t1 w =>
 opU Pg (Instr.storeAt 28 t1 t23) (panK R) w fun w =>
 F0 28 t1 1 R w fun t24 w =>
 L0 26 t24 R w fun t25 w =>
 opV Pg (Instr.indexAt 26 t25 (.int .i64 2)) (panK R) w fun t26 w =>
 L0 24 t26 R w fun t27 w =>
 opV Pg (Instr.alloc 24 true (.tuple #[])) (panK R) w fun t2 w =>
 opU Pg (Instr.storeAt 24 t2 t27) (panK R) w fun w =>
 opV Pg (Instr.buildSlice 30 0 #[]) (panK R) w fun t28 w =>
 opV Pg (Instr.buildSlice 30 0 #[]) (panK R) w fun t29 w =>
 opV Pg (Instr.buildSlice 30 1 #[(0,(.int .i64 0))]) (panK R) w fun t30 w =>
 opV Pg (Instr.buildSlice 30 1 #[(0,(.int .i64 1))]) (panK R) w fun t31 w =>
 opV Pg (Instr.buildSlice 30 1 #[(0,(.int .i64 2))]) (panK R) w fun t32 w =>
 opV Pg (Instr.buildSlice 78 5 #[(0,t28),(1,t29),(2,t30),(3,t31),(4,t32)]) (panK R) w fun t33 w =>
 opV Pg (Builtin.len_ #[78] 3 #[t33]) (panK R) w fun t34 w =>
 loop1 (fun t35 w next1 =>
 n9c27 t1 t2 t33 t34 t35 next1 R w) (.int .i64 0) w
def n9 (R:RT) (w:World):Prop :=
 C0 38 #[] R w fun t23 w =>
 n9c28 t23 R w
set_option maxHeartbeats 40000000 in
theorem n9s {R:RT} {w:World} (h:n9 R w):Calls Pg 11 #[] w R:=by
 refine yD Tryz.func11 ?_
 refine zs<|zr<|zm<|zn<|zk<|zs<|zr<|yc h c38 fun _ w h=>yv h fun _ w h=>yu h fun w h=>zn<|zk<|zs<|zr<|yv h fun _ w h=>?_
 refine yv h fun _ w h=>yv h fun _ w h=>yv h fun _ w h=>yv h fun _ w h=>yu h fun w h=>zn<|zk<|zs<|zs<|zr<|yS h fun _ w h=>yS h fun _ w h=>yS h fun _ w h=>yS h fun _ w h=>yS h fun _ w h=>?_
 refine yS h fun _ w h=>yx h fun _ w h=>zm<|zn<|zk<|sim_block<|yl1 [0,3,4,5,6,35,36,37,38,39,40,41,42,43,44,45,46,47,48,49,50,51,52,53,54] 35 h fun σ w next h=>zs<|zr<|yb h fun _ w h=>zn<|zk<|zs<|yC h (fun h=>?_) fun h=>?_
 · refine sim_skip<|zk<|zs<|sim_block<|zs<|zr<|zm<|yv h fun _ w h=>yv h fun _ w h=>zm<|zm<|zn<|zk<|zs<|zr ?_
   refine yv h fun _ w h=>zm<|yc h c12 fun _ w h=>zm<|yv h fun _ w h=>yv h fun _ w h=>zm<|zm<|zn<|zk<|zs<|sim_regionG<|yG 5<|zm<|zm ?_
   refine yc h c14 fun _ w h=>yv h fun _ w h=>zm<|zn<|yg1 2 4 false [51,52] 52 h (fun _ T hT h=>?_) fun σ w h=>?_
   · refine zm<|yb h fun _ w h=>zn ?_
     exact zt hT h
   refine yG 1<|yp h fun _ h=>zn<|sim_end<|zk<|yC h (fun h=>zs<|zr<|zm<|zn<|zk<|sim_ret<|sim_block_ret<|sim_then_ret<|sim_then_ret<|sim_block_ret<|sim_then_ret<|body_ret1 rfl rfl h) fun h=>sim_skip<|sim_block_normal<|zk<|zr<|yb h fun _ w h=>zm<|zn<|zk ?_
   exact ⟨rfl,h⟩
 refine sim_exit<|sim_then_exit<|sim_then_exit<|sim_block_hit<|zk<|zs<|zr<|yv h fun _ w h=>yc h c12 fun _ w h=>zm<|yv h fun _ w h=>yv h fun _ w h=>zm<|zm<|zn ?_
 refine zk<|zs<|zr<|yv h fun _ w h=>yc h c13 fun _ w h=>zm<|yv h fun _ w h=>yv h fun _ w h=>zm<|zm<|zn<|zk<|zs<|zr<|yv h fun _ w h=>?_
 refine yc h c13 fun _ w h=>zm<|yv h fun _ w h=>yv h fun _ w h=>zm<|zm<|zn<|zk<|zs<|zs<|sim_regionG<|yG 3<|zm<|yb h fun _ w h=>zm ?_
 refine zn<|yg1 4 2 false [73,74,75,76] 76 h (fun _ T hT h=>?_) fun σ w h=>?_
 · refine zm<|yS h fun _ w h=>yc h c14 fun _ w h=>yv h fun _ w h=>zn ?_
   exact zt hT h
 refine yG 2<|yp h fun _ h=>zm<|zn<|yg1 4 8 false [79,80,81,82] 82 h (fun _ T hT h=>?_) fun σ w h=>?_
 · refine zm<|yS h fun _ w h=>yc h c14 fun _ w h=>yv h fun _ w h=>zn ?_
   exact zt hT h
 refine yG 2<|yp h fun _ h=>zm<|zn<|yg1 2 14 false [85,86] 86 h (fun _ T hT h=>?_) fun σ w h=>?_
 · refine zm<|yb h fun _ w h=>zn ?_
   exact zt hT h
 refine yG 2<|yp h fun _ h=>zm<|zn<|yg1 2 18 false [89,90] 90 h (fun _ T hT h=>?_) fun σ w h=>?_
 · refine zm<|yb h fun _ w h=>zn ?_
   exact zt hT h
 refine yG 2<|yp h fun _ h=>zm<|zn<|yg1 3 22 false [93,94,95] 95 h (fun _ T hT h=>?_) fun σ w h=>?_
 · refine yv h fun _ w h=>yc h c18 fun _ w h=>yv h fun _ w h=>zn ?_
   exact zt hT h
 refine yG 2<|yp h fun _ h=>zm<|zn<|yg1 7 27 false [98,99,100,101,102,103,104] 104 h (fun _ T hT h=>?_) fun σ w h=>?_
 · refine yv h fun _ w h=>yv h fun _ w h=>yv h fun _ w h=>yv h fun _ w h=>yS h fun _ w h=>yc h c18 fun _ w h=>yv h fun _ w h=>zn ?_
   exact zt hT h
 refine yG 1<|yp h fun _ h=>zn<|sim_end<|zk<|yC h (fun h=>zs<|zr<|zm<|zn<|zk<|sim_ret<|sim_then_ret<|body_ret1 rfl rfl h) fun h=>sim_skip<|zk<|zs<|zr<|yv h fun _ w h=>yc h c20 fun _ w h=>zm<|yv h fun _ w h=>?_
 refine yv h fun _ w h=>zm<|zm<|zn<|zk<|zs<|zr<|yv h fun _ w h=>yc h c21 fun _ w h=>zm<|yv h fun _ w h=>yv h fun _ w h=>zm<|zm<|zn ?_
 refine zk<|zs<|zr<|yv h fun _ w h=>yc h c24 fun _ w h=>zm<|yv h fun _ w h=>yv h fun _ w h=>zm<|zm<|zn<|zk<|zs<|zr<|yv h fun _ w h=>?_
 refine yc h c24 fun _ w h=>zm<|yv h fun _ w h=>yv h fun _ w h=>zm<|zm<|zn<|zk<|zs<|zr<|yv h fun _ w h=>yc h c24 fun _ w h=>zm<|yv h fun _ w h=>yv h fun _ w h=>?_
 refine zm<|zm<|zn<|zk<|zs<|sim_regionG<|yG 4<|zm<|yS h fun _ w h=>yc h c14 fun _ w h=>zm<|zn<|yg1 3 3 true [135,136,137] 137 h (fun _ T hT h=>?_) fun σ w h=>?_
 · refine zm<|yS h fun _ w h=>yc h c14 fun _ w h=>zn ?_
   exact zt hT h
 refine yG 2<|yp h fun _ h=>zm<|zn<|yg1 3 8 true [140,141,142] 142 h (fun _ T hT h=>?_) fun σ w h=>?_
 · refine zm<|yS h fun _ w h=>yc h c14 fun _ w h=>zn ?_
   exact zt hT h
 refine yG 2<|yp h fun _ h=>zm<|zn<|yg1 3 13 true [145,146,147] 147 h (fun _ T hT h=>?_) fun σ w h=>?_
 · refine zm<|yS h fun _ w h=>yc h c14 fun _ w h=>zn ?_
   exact zt hT h
 refine yG 2<|yp h fun _ h=>zm<|zn<|yg1 2 18 true [150,151] 151 h (fun _ T hT h=>?_) fun σ w h=>?_
 · refine zm<|yb h fun _ w h=>zn ?_
   exact zt hT h
 refine yG 2<|yp h fun _ h=>zm<|zn<|yg1 2 22 true [154,155] 155 h (fun _ T hT h=>?_) fun σ w h=>?_
 · refine zm<|yb h fun _ w h=>zn ?_
   exact zt hT h
 refine yG 2<|yp h fun _ h=>zm<|zn<|yg1 2 26 true [158,159] 159 h (fun _ T hT h=>?_) fun σ w h=>?_
 · refine zm<|yb h fun _ w h=>zn ?_
   exact zt hT h
 refine yG 2<|yp h fun _ h=>zm<|zn<|yg1 2 30 true [162,163] 163 h (fun _ T hT h=>?_) fun σ w h=>?_
 · refine zm<|yb h fun _ w h=>zn ?_
   exact zt hT h
 refine yG 2<|yp h fun _ h=>zm<|zn<|yg1 2 34 true [166,167] 167 h (fun _ T hT h=>?_) fun σ w h=>?_
 · refine zm<|yb h fun _ w h=>zn ?_
   exact zt hT h
 exact yG 2<|yp h fun _ h=>zm<|zn<|sim_end<|zk<|sim_ret<|body_ret1 rfl rfl h
def n95c1 (t1 t2 t8:Value) (R:RT) (w:World):Prop :=
 opV Pg (Op.unary .not t8) (panK R) w fun t9 w =>
 condP t9 (
 R (.returned (.tuple #[(Value.slice none 0 0),(.int .i64 3)])) w) (
 L0 24 t2 R w fun t10 w =>
 C0 40 #[t10,t1] R w fun t12 w =>
 R (.returned (.tuple #[t12,(.int .i64 0)])) w)
def n95 (t0 t1:Value) (R:RT) (w:World):Prop :=
 opV Pg (Instr.box 24 t0) (panK R) w fun t2 w =>
 L0 24 t2 R w fun t6 w =>
 C0 39 #[t6,t1] R w fun t8 w =>
 n95c1 t1 t2 t8 R w
theorem n95s {t0 t1:Value} {R:RT} {w:World} (h:n95 t0 t1 R w):Calls Pg 12 #[t0,t1] w R:=by
 refine yD Tryz.func12 ?_
 refine zs<|zr<|yv h fun _ w h=>zm<|zm<|zn<|zk<|zs<|zs<|zr<|yv h fun _ w h=>zm<|yc h c39 fun _ w h=>yv h fun _ w h=>zn ?_
 refine zk<|yC h (fun h=>zs<|zr<|zm<|zm<|zn<|zk<|sim_ret<|sim_then_ret<|body_ret2 rfl rfl rfl h) fun h=>sim_skip<|zk<|zs<|zr<|yv h fun _ w h=>zm<|yc h c40 fun _ w h=>zm<|zm<|zn<|zk<|sim_ret ?_
 exact body_ret2 rfl rfl rfl h
def n93c1 (t2 t3:Value) (R:RT) (w:World):Prop :=
 F0 24 t2 1 R w fun t10 w =>
 L0 22 t10 R w fun t11 w =>
 opV Pg (Instr.makeFunc (.func 42) #[] #[t2,t3]) (panK R) w fun t12 w =>
 C0 41 #[t11,t12] R w fun t13 w =>
 R (.returned (.tuple #[t13,(.int .i64 0)])) w
def n93 (t0 t1:Value) (R:RT) (w:World):Prop :=
 opV Pg (Instr.box 24 t0) (panK R) w fun t2 w =>
 opV Pg (Instr.box 3 t1) (panK R) w fun t3 w =>
 L0 24 t2 R w fun t6 w =>
 L0 3 t3 R w fun t7 w =>
 C0 39 #[t6,t7] R w fun t8 w =>
 opV Pg (Op.unary .not t8) (panK R) w fun t9 w =>
 condP t9 (
 R (.returned (.tuple #[(Value.slice none 0 0),(.int .i64 3)])) w) (
 n93c1 t2 t3 R w)
theorem n93s {t0 t1:Value} {R:RT} {w:World} (h:n93 t0 t1 R w):Calls Pg 13 #[t0,t1] w R:=by
 refine yD Tryz.func13 ?_
 refine zs<|zr<|yv h fun _ w h=>yv h fun _ w h=>zm<|zm<|zn<|zk<|zs<|zs<|zr<|yv h fun _ w h=>yv h fun _ w h=>yc h c39 fun _ w h=>yv h fun _ w h=>?_
 refine zn<|zk<|yC h (fun h=>zs<|zr<|zm<|zm<|zn<|zk<|sim_ret<|sim_then_ret<|body_ret2 rfl rfl rfl h) fun h=>sim_skip<|zk<|zs<|zr<|yv h fun _ w h=>yv h fun _ w h=>yF h fun _ w h=>yc h c41 fun _ w h=>zm<|zm<|zn ?_
 exact zk<|sim_ret<|body_ret2 rfl rfl rfl h
open Go.RowKit (intOf Below)
def sumF (l:List MsgD):Nat:=(l.map fun m=>m.fields.length).sum
def okF (f:FieldD):Prop:=f.cases.length≤50∧f.terms.length≤10
def fitsP (d:DefD):Prop:=d.msgs.length≤70∧sumF d.msgs≤400∧∀ m∈d.msgs,∀ f∈m.fields,okF f
theorem sumF_take {l:List MsgD} {k:Nat} {x:MsgD} (hx:l[k]?=some x):sumF (l.take (k+1))=sumF (l.take k)+x.fields.length:=by
 rw [take_snoc hx];simp [sumF]
theorem le_sumF {l:List MsgD} {m:MsgD} (h:m∈l):m.fields.length≤sumF l:=by
 unfold sumF
 induction l with
 | nil=>cases h
 | cons a l ih =>
  rcases List.mem_cons.1 h with rfl | h
  · simp
  · have:=ih h;simp at this ⊢;omega
theorem forall_take {α:Type} {p:α→Prop} {l:List α} {k:Nat} {x:α} (h:∀ y∈l.take k,p y) (hx:l[k]?=some x) (hp:p x):∀ y∈l.take (k+1),p y:=by
 rw [take_snoc hx]
 intro y hy
 rcases List.mem_append.1 hy with hy | hy
 · exact h y hy
 · simp only [List.mem_singleton] at hy;subst hy;exact hp
theorem fits_ret (w0:World) (v:Value) (d:DefD) (hd:DefVal w0 v d) (hs:DefSm d):Ret Pg 10 #[v] w0 fun r w'=>∃ b,r = .bool b∧(b=true→fitsP d)∧Ext w0 w':=by
 obtain ⟨mv,rfl,hM⟩:=hd
 obtain ⟨A,c,rfl,hlc,hcm,hlm,hel⟩:=SliceOf.open hM
 refine n6s (R:=retR _) ?_;unfold n6
 simp (disch:=try exact DI) only [↓PR,QR,simprocAttr]
 have hBW:=ElemAt.new (w:=w0) (defCells d (.slice A d.msgs.length c)) (28)
 have eW:Ext w0 (w0.alloc (Obj.cells (List.toArray (defCells d (.slice A d.msgs.length c))) (28))):=(Ext.refl _).alloc _
 generalize (w0.alloc (Obj.cells (List.toArray (defCells d (.slice A d.msgs.length c))) (28)))=W at hBW eW ⊢
 refine loop2_intro (fun a0 a1 w=>∃ (k:Nat) , a0 = .int .i64 (sumF (d.msgs.take k):Nat)∧a1 = .int .i64 (k:Int)∧k≤d.msgs.length∧Ext W w∧sumF (d.msgs.take k)≤400∧∀ m∈d.msgs.take k,∀ f∈m.fields,okF f) (fun a0 a1 _=>d.msgs.length - (intOf a1).toNat) ⟨0,rfl,rfl,Nat.zero_le _,ee,⟨by simp [sumF],by simp⟩⟩ ?_
 rintro _ _ w ⟨k,rfl,rfl,hk,e,hI⟩
 have se:=e.size
 rcases drop_cases hk with ⟨x,hx,hd,hlt,hdec⟩ | ⟨hk,hd,hdec⟩
 · obtain ⟨h400,hok⟩:=hI
   obtain ⟨b,o,cs,rfl,hl,hA,fv,rfl,hF⟩:=hel k x hx
   obtain ⟨A2,c2,rfl,hlc2,hcm2,hlm2,hel2⟩:=SliceOf.open hF
   have hxm:=List.mem_of_getElem? hx
   have hsx:=hs.2 x hxm
   have hx1:=hsx.1
   have e':=eW.trans e
   unfold n6c5
   by_cases hk70:k≤70
   · have d1:decide ((k:Int)≤70)=true:=by simp;omega
     simp (disch:=try exact DI) only [↓PR,QR,simprocAttr,hBW.c3,hdec,d1]
     unfold n6c4
     have hwr:IntKind.i64.wrap ((sumF (d.msgs.take k):Int)+(x.fields.length:Int))=((sumF (d.msgs.take (k+1)):Nat):Int):=by
      rw [sumF_take hx,wrap_ok (by omega) (by omega)];omega
     by_cases hn:sumF (d.msgs.take (k+1))≤400
     · have d2:decide (((sumF (d.msgs.take (k+1)):Nat):Int) > 400)=false:=by simp;omega
       simp (disch:=try exact DI) only [↓PR,QR,simprocAttr,hBW.c3,(hA.c2 e').1,(hA.c2 e').2,hwr,d2]
       rw [hwr]
       refine loop1_intro (fun a0 wb=>∃ (kb:Nat) , a0 = .int .i64 (kb:Int)∧kb≤x.fields.length∧Ext w wb∧∀ f∈x.fields.take kb,okF f) (fun a0 _=>x.fields.length - (intOf a0).toNat) ⟨0,rfl,Nat.zero_le _,ee,by simp⟩ ?_
       rintro _ wb ⟨kb,rfl,hkb,eb,hIb⟩
       have seb:=eb.size
       rcases drop_cases hkb with ⟨xb,hxb,hdb,hltb,hdecb⟩ | ⟨hkb,hdb,hdecb⟩
       · obtain ⟨b2,o2,cs2,rfl,hl2,hA2,hE2⟩:=hel2 kb xb hxb
         obtain ⟨tv,cv,rfl,hT,hC,ht1,hc1⟩:=hE2.op
         obtain ⟨A3,c3,rfl,hlc3,hcm3,hlm3,hel3⟩:=SliceOf.open hC
         obtain ⟨A4,c4,rfl,hlc4,hcm4,hlm4,hel4⟩:=SliceOf.open hT
         have eb':=e'.trans eb
         unfold n6c2
         simp (disch:=try exact DI) only [↓PR,QR,simprocAttr,hdecb]
         unfold n6c1
         have hcell:=hA2.c15 eb'
         by_cases hc50:xb.cases.length≤50
         · have d3:decide ((xb.cases.length:Int) > 50)=false:=by simp;omega
           by_cases ht10:xb.terms.length≤10
           · have d4:decide ((xb.terms.length:Int) > 10)=false:=by simp;omega
             simp (disch:=try exact DI) only [↓PR,QR,simprocAttr,hcell,d3,d4]
             exact ⟨⟨kb+1,rfl,by omega,ee,forall_take hIb hxb ⟨hc50,ht10⟩⟩,meas_lt (kd := .i64) hltb⟩
           · have d4:decide ((xb.terms.length:Int) > 10)=true:=by simp;omega
             simp (disch:=try exact DI) only [↓PR,QR,simprocAttr,hcell,d3,d4]
             exact ⟨false,rfl,by simp,ee⟩
         · have d3:decide ((xb.cases.length:Int) > 50)=true:=by simp;omega
           simp (disch:=try exact DI) only [↓PR,QR,simprocAttr,hcell,d3]
           exact ⟨false,rfl,by simp,ee⟩
       · subst hkb
         rw [List.take_length] at hIb
         unfold n6c2
         simp (disch:=try exact DI) only [↓PR,QR,simprocAttr,hdecb]
         exact ⟨⟨k+1,rfl,rfl,by omega,ee,⟨hn,forall_take hok hx hIb⟩⟩,meas_lt (kd := .i64) hlt⟩
     · have d2:decide (((sumF (d.msgs.take (k+1)):Nat):Int) > 400)=true:=by simp;omega
       simp (disch:=try exact DI) only [↓PR,QR,simprocAttr,hBW.c3,(hA.c2 e').1,(hA.c2 e').2,hwr,d2]
       exact ⟨false,rfl,by simp,ee⟩
   · have d1:decide ((k:Int)≤70)=false:=by simp;omega
     have d2:decide ((d.msgs.length:Int)≤70)=false:=by simp;omega
     simp (disch:=try exact DI) only [↓PR,QR,simprocAttr,hBW.c3,hdec,d1,n6c3,d2]
     exact ⟨false,rfl,by simp,ee⟩
 · subst hk
   obtain ⟨h400,hok⟩:=hI
   rw [List.take_length] at h400 hok
   unfold n6c5
   simp (disch:=try exact DI) only [↓PR,QR,simprocAttr,hBW.c3,hdec,n6c3]
   exact ⟨_,rfl,fun hb=>⟨by have:=of_decide_eq_true hb;omega,h400,hok⟩,ee⟩
theorem refsF_len {f:FieldD} (h:okF f):(refsF f).length≤50:=by
 unfold refsF
 split
 · simp
 · split
   · simpa using h.1
   · simp
theorem allRefs_len:∀ {l:List FieldD},(∀ f∈l,okF f)→(allRefs l).length≤l.length*50
 | [],_=>by simp [allRefs]
 | f::l,h=>by
  have h1:=refsF_len (h f (List.mem_cons_self ..))
  have h2:=allRefs_len (l:=l) (fun g hg=>h g (List.mem_cons_of_mem _ hg))
  unfold allRefs at *
  rw [List.flatMap_cons,List.length_append,List.length_cons]
  omega
theorem fits_calm {d:DefD} (h:fitsP d):calm d:=fun m hm=>by
 have h1:=le_sumF hm
 have h2:=h.2.1
 have h3:=allRefs_len (h.2.2 m hm)
 exact ⟨by omega,fun f hf=>by have:=(h.2.2 m hm f hf).2;omega⟩
def n10c1 (t0 t1 t5:Value) (C2:World→Prop) (next1:KV) (R:RT) (w:World):Prop :=
 qV Pg C2 (Instr.indexAt 30 t0 t5) fun t19 =>
 qV Pg C2 (Instr.loadAt 3 t19) fun t20 =>
 qV Pg C2 (Instr.indexAt 30 t1 t5) fun t23 =>
 qV Pg C2 (Instr.loadAt 3 t23) fun t24 =>
 qV Pg C2 (binS .neq 3 false t20 t24) fun t25 =>
 condP t25 (
 R (.returned (.bool false)) w) (
 B0 .add 3 true t5 (.int .i64 1) R w fun t16 w =>
 next1 t16 w)
def n10c2 (t0 t1 t5:Value) (next1:KV) (R:RT) (w:World):Prop :=
 opV Pg (Builtin.len_ #[30] 3 #[t0]) (panK R) w fun t13 w =>
 B0 .lss 3 false t5 t13 R w fun t14 w =>
 condP t14 (
 drawK w fun C2 w =>
 n10c1 t0 t1 t5 C2 next1 R w) (
 R (.returned (.bool true)) w)
def n10 (t0 t1:Value) (R:RT) (w:World):Prop :=
 opV Pg (Builtin.len_ #[30] 3 #[t0]) (panK R) w fun t7 w =>
 opV Pg (Builtin.len_ #[30] 3 #[t1]) (panK R) w fun t9 w =>
 B0 .neq 3 false t7 t9 R w fun t10 w =>
 condP t10 (
 R (.returned (.bool false)) w) (
 loop1 (fun t5 w next1 =>
 n10c2 t0 t1 t5 next1 R w) (.int .i64 0) w)
theorem n10s {t0 t1:Value} {R:RT} {w:World} (h:n10 t0 t1 R w):Calls Pg 14 #[t0,t1] w R:=by
 refine yD Tryz.func14 ?_
 refine zs<|zr<|zm<|zn<|zk<|zs<|zs<|zr<|zm<|yx h fun _ w h=>zm<|yx h fun _ w h=>yb h fun _ w h=>zn<|zk ?_
 refine yC h (fun h=>zs<|zr<|zm<|zn<|zk<|sim_ret<|sim_then_ret<|body_ret1 rfl rfl h) fun h=>sim_skip<|zk<|zs<|zs<|zr<|zm<|zn<|zk<|sim_block<|yl1 [4,5,11,12,13,14,15,16,17,18,19,20,21,22,23,24,25] 5 h fun σ w next h=>zs<|zs<|zr ?_
 refine zm<|zm<|yx h fun _ w h=>yb h fun _ w h=>zn<|zk<|yC h (fun h=>?_) fun h=>?_
 · refine sim_skip<|zk<|zs<|sim_block<|zs<|yh [17,18,19,20,21,22,23,24,25] h fun C hC h=>yw 0 hC ?_
   refine yw 1 hC ?_
   refine ye 2 hC h fun _ h=>?_
   refine ye 3 hC h fun _ h=>?_
   refine yw 4 hC ?_
   refine yw 5 hC ?_
   refine ye 6 hC h fun _ h=>?_
   refine ye 7 hC h fun _ h=>?_
   refine ye 8 hC h fun _ h=>?_
   exact yz<|zk<|yC h (fun h=>zs<|zr<|zm<|zn<|zk<|sim_ret<|sim_block_ret<|sim_then_ret<|sim_then_ret<|sim_block_ret<|sim_then_ret<|body_ret1 rfl rfl h) fun h=>sim_skip<|sim_block_normal<|zk<|zr<|zm<|yb h fun _ w h=>zm<|zn<|zk<|⟨rfl,h⟩
 exact sim_exit<|sim_then_exit<|sim_then_exit<|sim_block_hit<|zk<|zs<|zr<|zm<|zn<|zk<|sim_ret<|body_ret1 rfl rfl h
theorem same_ret (w0:World) (v u:Value) (l m:List Int) (hl:SliceOf w0 1 EInt v l) (hm:SliceOf w0 1 EInt u m) :
 Ret Pg 14 #[v,u] w0 fun r w'=>r = .bool (decide (l=m))∧Ext w0 w':=by
 obtain ⟨A,c,rfl,hlc,hcm,hlm,hel⟩:=SliceOf.open hl
 obtain ⟨A',c',rfl,hlc',hcm',hlm',hel'⟩:=SliceOf.open hm
 refine n10s (R:=retR _) ?_;unfold n10
 simp (disch:=try exact DI) only [↓PR,QR,simprocAttr]
 by_cases hlen:l.length=m.length
 · have hne:((l.length:Int) != (m.length:Int))=false:=by simp [hlen]
   simp (disch:=try exact DI) only [↓PR,QR,simprocAttr,hne]
   refine loop1_intro (fun a0 w=>∃ (k:Nat) , a0 = .int .i64 (k:Int)∧k≤l.length∧Ext w0 w∧l.take k=m.take k) (fun a0 _=>l.length - (intOf a0).toNat) ⟨0,rfl,Nat.zero_le _,ee,rfl⟩ ?_
   rintro _ w ⟨k,rfl,hk,e,hI⟩
   have se:=e.size
   rcases drop_cases hk with ⟨x,hx,hd,hlt,hdec⟩ | ⟨hk,hd,hdec⟩
   · obtain ⟨b,o,cs,rfl,_,hA,rfl⟩:=hel k x hx
     obtain ⟨y,hy⟩:=getElem?_lt (l:=m) (k:=k) (by omega)
     obtain ⟨b',o',cs',rfl,_,hA',rfl⟩:=hel' k y hy
     have hlt':k < m.length:=by omega
     have eD:Ext w0 w.drew:=e.wdrew
     simp (disch:=try exact DI) only [↓PR,QR,simprocAttr,↓n10c2,hdec]
     refine drawK_intro ?_
     unfold n10c1
     by_cases hxy:x=y
     · subst hxy
       have hxx:(x != x)=false:=by simp
       simp (disch:=try exact DI) only [↓PR,QR,simprocAttr,hA.c1,hA'.c1,hxx]
       exact ⟨⟨k+1,rfl,by omega,ee,by rw [List.take_add_one,List.take_add_one,hx,hy,hI]⟩,meas_lt (kd := .i64) hlt⟩
     · have hxx:(x != y)=true:=by simpa using hxy
       simp (disch:=try exact DI) only [↓PR,QR,simprocAttr,hA.c1,hA'.c1,hxx]
       have hne':¬ l=m:=by
        rintro rfl
        rw [hx] at hy
        injection hy with hy
        exact hxy hy
       exact ⟨by simp [hne'],eD⟩
   · subst hk
     simp (disch:=try exact DI) only [↓PR,QR,simprocAttr,↓n10c2,hdec]
     rw [List.take_length,hlen,List.take_length] at hI
     exact ⟨by simp [hI],e⟩
 · have hne:((l.length:Int) != (m.length:Int))=true:=by simp;omega
   simp (disch:=try exact DI) only [↓PR,QR,simprocAttr,hne]
   have hne':¬ l=m:=fun h=>hlen (by rw [h])
   exact ⟨by simp [hne'],Ext.refl _⟩
theorem slice_rows {α:Type} {w:World} {b n:Nat} {T:TypeId} {E:World→List Value→α→Prop} (css:List (List Value)) (l:List α) (hn0:0 < n) (h:w.heap[b]?=some (.cells css.flatten.toArray T (0,0))) (hn:∀ cs∈css,cs.length=n) (hl:l.length=css.length) (hb:l.length≤1048576) (hE:∀ (k:Nat) cs x,css[k]?=some cs→l[k]?=some x→E w cs x):SliceOf w n E (.slice (some ⟨b,0,none⟩) l.length l.length) l:=by
 refine ⟨_,_,rfl,Nat.le_refl _,by omega,fun _=>⟨b,0,rfl,fun k x hx=>?_⟩⟩
 obtain ⟨cs,hcs⟩:=getElem?_lt (l:=css) (k:=k) (by have:=(List.getElem?_eq_some_iff.1 hx).1;omega)
 refine ⟨cs,hn cs (List.mem_of_getElem? hcs),fun j u hu=>?_,hE k cs x hcs hx⟩
 rw [(cells_of_heap h).1]
 have hj:j < n:=by have:=(List.getElem?_eq_some_iff.1 hu).1;rw [hn cs (List.mem_of_getElem? hcs)] at this;exact this
 have key:∀ (css:List (List Value)) (k:Nat),(∀ cs∈css,cs.length=n)→css[k]?=some cs→css.flatten[k*n+j]?=some u:=by
  intro css
  induction css with
  | nil=>intro k _ h;cases h
  | cons c css ih =>
   intro k hn h
   have hc:=hn c (List.mem_cons_self ..)
   cases k with
   | zero =>
    injection h with h
    subst h
    rw [List.flatten_cons,Nat.zero_mul,Nat.zero_add,List.getElem?_append_left (by omega)]
    exact hu
   | succ k =>
    rw [List.flatten_cons,List.getElem?_append_right (by rw [hc,Nat.succ_mul];omega),hc,show (k+1)*n+j - n=k*n+j by rw [Nat.succ_mul];omega]
    exact ih k (fun cs hm=>hn cs (List.mem_cons_of_mem _ hm)) h
 have:=key css k hn hcs
 simpa using this
def zF:FieldD:={ name:=ByteArray.empty,kind:=0,bits:=0,little:=false,loose:=false,low:=0,high:=0,base:=0,terms:=[],of:=ByteArray.empty,tag:=ByteArray.empty,fr:=ByteArray.empty,cases:=[],check:=0,key:=0 }
def fN:FieldD:={ zF with name:=⟨#[110]⟩,kind:=1,bits:=8,high:=9 }
def fX:FieldD:={ zF with name:=⟨#[120]⟩,kind:=8,of:=⟨#[97]⟩ }
def fT:FieldD:={ zF with name:=⟨#[116]⟩,kind:=3,high:=9 }
def fL:FieldD:={ zF with name:=⟨#[108]⟩,kind:=7,of:=⟨#[98]⟩,terms:=[⟨⟨#[110]⟩,2⟩] }
def fS:FieldD:={ zF with name:=⟨#[115]⟩,kind:=9,tag:=⟨#[116]⟩,cases:=[⟨0,0,⟨#[97]⟩⟩,⟨1,1,⟨#[98]⟩⟩] }
def fK:FieldD:={ zF with name:=⟨#[107]⟩,kind:=11,check:=1,fr:=⟨#[108]⟩ }
def mA:MsgD:=⟨⟨#[97]⟩,[fN]⟩
def mB:MsgD:=⟨⟨#[98]⟩,[fX]⟩
def mC:MsgD:=⟨⟨#[99]⟩,[fN,fT,fL,fS,fK]⟩
def mZ:MsgD:=⟨⟨#[122]⟩,[fN]⟩
def gvD:DefD:=⟨⟨#[100]⟩,[mA,mB,mC,mZ],⟨#[99]⟩⟩
theorem given_ret (w0:World):Ret Pg 38 #[] w0 fun r w'=>(∃ b fa fb fc fz,r = .agg #[.string ⟨#[100]⟩,.slice (some ⟨b,0,none⟩) 4 4,.string ⟨#[99]⟩]∧w'.heap[b]?=some (.cells #[.string ⟨#[97]⟩,fa,.string ⟨#[98]⟩,fb,.string ⟨#[99]⟩,fc,.string ⟨#[122]⟩,fz] 24 (0,0))∧FieldsOf w' fa [fN]∧FieldsOf w' fb [fX]∧FieldsOf w' fc mC.fields∧FieldsOf w' fz [fN])∧Ext w0 w':=by
 refine n8s (R:=retR _) ?_;unfold n8
 simp (disch:=try exact DI) only [↓PR,QR,simprocAttr]
 generalize hn:w0.heap.size=n
 refine ⟨⟨n+8,.slice (some ⟨n+2,0,none⟩) 1 1,.slice (some ⟨n+3,0,none⟩) 1 1,.slice (some ⟨n+6,0,none⟩) 5 5,.slice (some ⟨n+7,0,none⟩) 1 1,rfl,?_,?_,?_,?_,?_⟩,ee⟩
 · subst hn
   simp (disch:=try exact DI) only [↓PR,QR,simprocAttr]
 · subst hn
   exact slice_rows [fieldCells fN (.slice none 0 0) (.slice none 0 0)] [fN] (by decide) (by simp (disch:=try exact DI) only [↓PR,QR,simprocAttr];rfl) (by simp [fieldCells]) rfl (by decide) fun k cs x h1 h2=>by
    match k with
    | 0=>injection h1 with h1;injection h2 with h2;subst h1 h2;exact ⟨_,_,rfl,SliceOf.nil _ _ _,SliceOf.nil _ _ _⟩
 · subst hn
   exact slice_rows [fieldCells fX (.slice none 0 0) (.slice none 0 0)] [fX] (by decide) (by simp (disch:=try exact DI) only [↓PR,QR,simprocAttr];rfl) (by simp [fieldCells]) rfl (by decide) fun k cs x h1 h2=>by
    match k with
    | 0=>injection h1 with h1;injection h2 with h2;subst h1 h2;exact ⟨_,_,rfl,SliceOf.nil _ _ _,SliceOf.nil _ _ _⟩
 · subst hn
   refine slice_rows [fieldCells fN (.slice none 0 0) (.slice none 0 0),fieldCells fT (.slice none 0 0) (.slice none 0 0),fieldCells fL (.slice (some ⟨w0.heap.size+4,0,none⟩) 1 1) (.slice none 0 0),fieldCells fS (.slice none 0 0) (.slice (some ⟨w0.heap.size+5,0,none⟩) 2 2),fieldCells fK (.slice none 0 0) (.slice none 0 0)] mC.fields (by decide) (by simp (disch:=try exact DI) only [↓PR,QR,simprocAttr];rfl) (by simp [fieldCells]) rfl (by decide) fun k cs x h1 h2=>?_
   match k with
   | 0=>injection h1 with h1;injection h2 with h2;subst h1 h2;exact ⟨_,_,rfl,SliceOf.nil _ _ _,SliceOf.nil _ _ _⟩
   | 1=>injection h1 with h1;injection h2 with h2;subst h1 h2;exact ⟨_,_,rfl,SliceOf.nil _ _ _,SliceOf.nil _ _ _⟩
   | 2 =>
    injection h1 with h1;injection h2 with h2;subst h1 h2
    refine ⟨_,_,rfl,?_,SliceOf.nil _ _ _⟩
    exact slice_rows (T:=62) [termCells ⟨⟨#[110]⟩,2⟩] fL.terms (by decide) (by simp (disch:=try exact DI) only [↓PR,QR,simprocAttr];rfl) (by simp [termCells]) rfl (by decide) fun k cs x h1 h2=>by
     match k with
     | 0=>injection h1 with h1;injection h2 with h2;subst h1 h2;rfl
   | 3 =>
    injection h1 with h1;injection h2 with h2;subst h1 h2
    refine ⟨_,_,rfl,SliceOf.nil _ _ _,?_⟩
    exact slice_rows (T:=60) [caseCells ⟨0,0,⟨#[97]⟩⟩,caseCells ⟨1,1,⟨#[98]⟩⟩] fS.cases (by decide) (by simp (disch:=try exact DI) only [↓PR,QR,simprocAttr];rfl) (by simp [caseCells]) rfl (by decide) fun k cs x h1 h2=>by
     match k with
     | 0=>injection h1 with h1;injection h2 with h2;subst h1 h2;rfl
     | 1=>injection h1 with h1;injection h2 with h2;subst h1 h2;rfl
   | 4=>injection h1 with h1;injection h2 with h2;subst h1 h2;exact ⟨_,_,rfl,SliceOf.nil _ _ _,SliceOf.nil _ _ _⟩
 · subst hn
   exact slice_rows [fieldCells fN (.slice none 0 0) (.slice none 0 0)] [fN] (by decide) (by simp (disch:=try exact DI) only [↓PR,QR,simprocAttr];rfl) (by simp [fieldCells]) rfl (by decide) fun k cs x h1 h2=>by
    match k with
    | 0=>injection h1 with h1;injection h2 with h2;subst h1 h2;exact ⟨_,_,rfl,SliceOf.nil _ _ _,SliceOf.nil _ _ _⟩
def fewM (m:MsgD):Prop:=m.fields.length≤1048576∧∀ f∈m.fields,f.terms.length≤1048576
theorem used_ret (w0:World) (v:Value) (m:MsgD) (k:Nat) (hm:MsgVal w0 v m) (hk:k < m.fields.length) (hb:fewM m):Ret Pg 40 #[v,.int .i64 (k:Int)] w0 fun r w'=>RowI w' w0.heap.size r (usesP m.fields k)∧Ext w0 w':=by
 obtain ⟨fv,rfl,hF⟩:=hm
 obtain ⟨f,hf⟩:=getElem?_lt hk
 have hF0:=hF
 obtain ⟨b,o,c,rfl,_,hcm,_,_,hel⟩:=open1 hF hf
 obtain ⟨cs,_,hA,hE⟩:=hel k f hf
 obtain ⟨tv,cv,rfl,hT,hC,ht1,hc1⟩:=hE.op
 refine n101s (R:=retR _) ?_;unfold n101
 rw [op_boxA]
 have o2:=heap_new w0 (msgCells m (.slice (some ⟨b,o,none⟩) m.fields.length c)).toArray 24
 have eW:Ext w0 (w0.alloc (.cells (msgCells m (.slice (some ⟨b,o,none⟩) m.fields.length c)).toArray 24)):=ee
 generalize (w0.alloc (.cells (msgCells m (.slice (some ⟨b,o,none⟩) m.fields.length c)).toArray 24))=W at o2 eW ⊢
 generalize hp2:w0.heap.size=p2 at o2 ⊢
 simp (disch:=try exact DI) only [↓PR,QR,simprocAttr,(cells_of_heap o2).1,hA.c15 eW]
 have o5:=heap_new W (fieldCells f tv cv).toArray 48
 have e1:Ext W (W.alloc (.cells (fieldCells f tv cv).toArray 48)):=ee
 generalize (W.alloc (.cells (fieldCells f tv cv).toArray 48))=V at o5 e1 ⊢
 generalize W.heap.size=p5 at o5 ⊢
 have x2:=e1.obj o2
 have E1:=eW.trans e1
 refine drawK_intro ?_
 have eD:Ext V V.drew:=(Ext.refl V).wdrew
 have E2:=E1.trans eD
 have y2:=eD.obj x2
 have y5:=eD.obj o5
 unfold n101c6
 simp (disch:=try exact DI) only [↓PR,QR,simprocAttr,(cells_of_heap y5).1]
 refine callK_ret (uses_ret _) ?_
 rintro _ w3 ⟨r,L,cc,rfl,hr,hM,hL,e3⟩
 refine narrowK_KM e3 hM ?_
 haveI:ClassNe (KM V.drew r kindEnc L cc):=⟨⟨w3,e3,hM⟩⟩
 unfold n101c5
 simp only [drew_wdrew]
 rw [qV_lookupKM Tryz.underlying128 (KeyOK.int Tryz.underlying42) ty83 ⟨w3,e3,hM⟩]
 obtain ⟨hn,h4,h9,h11⟩:=hL
 have hb':=hb.2 f (List.mem_of_getElem? hf)
 subst hp2
 by_cases k4:f.kind=4∨f.kind=7∨f.kind=12
 · rw [h4 _ k4]
   simp (disch:=try exact DI) only [↓PR,QR,simprocAttr]
   exact used_tail hf hF0 hb' hT hC (E2.trans e3) c110 _ uses1_names (by unfold namesU;rw [if_pos k4]) (e3.obj y2) (e3.obj y5)
 by_cases k9:f.kind=9
 · rw [k9,h9]
   simp (disch:=try exact DI) only [↓PR,QR,simprocAttr]
   exact used_tail hf hF0 hb' hT hC (E2.trans e3) c111 _ uses2_names (by unfold namesU;rw [if_neg k4,if_pos k9]) (e3.obj y2) (e3.obj y5)
 by_cases k11:f.kind=11
 · rw [k11,h11]
   simp (disch:=try exact DI) only [↓PR,QR,simprocAttr]
   exact used_tail hf hF0 hb' hT hC (E2.trans e3) c112 _ uses3_names (by unfold namesU;rw [if_neg k4,if_neg k9,if_pos k11]) (e3.obj y2) (e3.obj y5)
 rw [hn _ (by omega)]
 simp (disch:=try exact DI) only [↓PR,QR,simprocAttr]
 rw [uses_nil hf (by unfold namesU;rw [if_neg k4,if_neg k9,if_neg k11])]
 exact ⟨OwnE.nil _ _ _ _ _,E2.trans e3⟩
theorem in_ret (w0:World) (v:Value) (m:MsgD) (k:Int) (hm:MsgVal w0 v m):Ret Pg 39 #[v,.int .i64 k] w0 fun r w'=>r = .bool (decide (0≤k∧k < m.fields.length))∧Ext w0 w':=by
 obtain ⟨fv,rfl,hF⟩:=hm
 obtain ⟨A,c,rfl,hlc,hcm,hlm,hel⟩:=SliceOf.open hF
 refine n98s (R:=retR _) ?_;unfold n98
 simp (disch:=try exact DI) only [↓PR,QR,simprocAttr]
 exact ⟨by rw [Bool.decide_and],ee⟩
def errU (m:MsgD) (k:Int):Int:=if 0≤k∧k < m.fields.length then 0 else 3
def usesE (m:MsgD) (k:Int):List Int:=if 0≤k∧k < m.fields.length then usesP m.fields k.toNat else []
def usersE (m:MsgD) (k:Int):List Int:=if 0≤k∧k < m.fields.length then usersP m.fields k.toNat else []
theorem Uses_ret (w0:World) (v:Value) (m:MsgD) (k:Int) (hm:MsgVal w0 v m) (hb:fewM m):Ret Pg 12 #[v,.int .i64 k] w0 fun r w'=>(∃ u,r = .tuple #[u,.int .i64 (errU m k)]∧RowI w' w0.heap.size u (usesE m k))∧Ext w0 w':=by
 obtain ⟨fv,rfl,hF⟩:=hm
 have hf1:=SliceOf.oneCell hF
 refine n95s (R:=retR _) ?_;unfold n95
 rw [op_boxA]
 have hBW:=ElemAt.new (w:=w0) (msgCells m fv) (24)
 have eW:Ext w0 (w0.alloc (Obj.cells (List.toArray (msgCells m fv)) (24))):=(Ext.refl _).alloc _
 generalize (w0.alloc (Obj.cells (List.toArray (msgCells m fv)) (24)))=W at hBW eW ⊢
 simp (disch:=try exact DI) only [↓PR,QR,simprocAttr,hBW.c2 (Ext.refl W)]
 refine zcr (in_ret _ _ m k ⟨_,rfl,FieldsOf.ext hF eW⟩) fun w1 e1=>?_
 unfold n95c1
 by_cases hk:0≤k∧k < m.fields.length
 · obtain ⟨j,rfl⟩:∃ j:Nat,k=j:=⟨k.toNat,by omega⟩
   rw [decide_eq_true hk,show errU m (j:Int)=0 from if_pos hk,show usesE m (j:Int)=usesP m.fields j from if_pos hk]
   simp (disch:=try exact DI) only [↓PR,QR,simprocAttr,hBW.c2 e1]
   refine callK_ret (used_ret _ _ m j ⟨_,rfl,FieldsOf.ext hF (eW.trans e1)⟩ (by omega) hb) ?_
   rintro r w2 ⟨hR,e2⟩
   have s:=(eW.trans e1).size
   exact ⟨_,rfl,⟨r,rfl,hR.base s⟩,eW.trans (e1.trans e2)⟩
 · rw [decide_eq_false hk,show errU m k=3 from if_neg hk,show usesE m k=[] from if_neg hk]
   simp (disch:=try exact DI) only [↓PR,QR,simprocAttr]
   exact ⟨⟨.slice none 0 0,rfl,OwnE.nil _ _ _ _ _⟩,eW.trans e1⟩
theorem Index_int_ret (w0:World) (v:Value) (l:List Int) (n:Int) (hs:SliceOf w0 1 EInt v l):Ret Pg 85 #[v,.int .i64 n] w0 fun r w'=>r = .int .i64 (idx (fun x=>decide (x=n)) l)∧Ext w0 w':=by
 obtain ⟨A,c,rfl,hlc,hcm,hlm,hel⟩:=SliceOf.open hs
 refine n138s (R:=retR _) ?_;unfold n138
 simp (disch:=try exact DI) only [↓PR,QR,simprocAttr]
 refine loop1_intro (fun a0 w=>∃ (k:Nat) , a0 = .int .i64 (k:Int)∧k≤l.length∧Ext w0 w∧∀ (j:Nat) (y:Int),j < k→l[j]?=some y→(fun x=>decide (x=n)) y=false) (fun a0 _=>l.length - (intOf a0).toNat) ⟨0,rfl,Nat.zero_le _,ee,fun j y hj=>absurd hj (Nat.not_lt_zero _)⟩ ?_
 rintro _ w ⟨k,rfl,hk,e,hI⟩
 have se:=e.size
 rcases drop_cases hk with ⟨x,hx,hd,hlt,hdec⟩ | ⟨hk,hd,hdec⟩
 · obtain ⟨b,o,cs,rfl,hl',hA,rfl⟩:=hel k x hx
   have hA':=hA.ext e
   by_cases hxn:n=x
   · have hd:(n == x)=true:=by simpa using hxn
     simp (disch:=try exact DI) only [↓PR,QR,simprocAttr,hdec,↓n138c1,hA'.c1 (Ext.refl _),hd]
     exact ⟨by rw [idx_here hx (by simp [hxn]) hI],e⟩
   · have hd:(n == x)=false:=by simpa using hxn
     simp (disch:=try exact DI) only [↓PR,QR,simprocAttr,hdec,↓n138c1,hA'.c1 (Ext.refl _),hd]
     exact ⟨⟨k+1,rfl,by omega,ee,before_succ hI hx (decide_eq_false (fun h=>hxn h.symm))⟩,meas_lt (kd := .i64) hlt⟩
 · subst hk
   simp (disch:=try exact DI) only [↓PR,QR,simprocAttr,hdec]
   exact ⟨by rw [idx_none fun j y hy=>hI j y (List.getElem?_eq_some_iff.1 hy).1 hy],e⟩
theorem any_contains (l:List Int) (n:Int):l.any (fun x=>decide (x=n))=l.contains n:=by
 rw [Bool.eq_iff_iff,List.any_eq_true,List.contains_iff_mem]
 constructor
 · rintro ⟨x,hx,h⟩
   rw [← of_decide_eq_true h];exact hx
 · exact fun h=>⟨n,h,by simp⟩
theorem Contains_int_ret (w0:World) (v:Value) (l:List Int) (n:Int) (hs:SliceOf w0 1 EInt v l):Ret Pg 43 #[v,.int .i64 n] w0 fun r w'=>r = .bool (l.contains n)∧Ext w0 w':=by
 refine n129s (R:=retR _) ?_;unfold n129
 refine zcr (Index_int_ret _ _ l n hs) fun w1 e1=>?_
 have h:=idx_neg (p:=fun x=>decide (x=n)) (l:=l)
 rw [any_contains] at h
 simp (disch:=try exact DI) only [↓PR,QR,simprocAttr,h]
 exact ⟨trivial,e1⟩
theorem Users1_ret {w:World} {m:MsgD} {fv:Value} {p2 p3:Nat} {k:Int} (i:Nat) (x:FieldD) (u:Value) (hi:m.fields[i]?=some x) (hF:FieldsOf w fv m.fields) (hb:fewM m) (o2:w.heap[p2]?=some (.cells (msgCells m fv).toArray 24 (0,0))) (o3:w.heap[p3]?=some (.cells #[.int .i64 k] 3 (0,0))) (hu:FieldVal w u x) :
 Ret Pg 42 #[.int .i64 (i:Int),u,.pointer (some ⟨p2,0,none⟩),.pointer (some ⟨p3,0,none⟩)] w fun r w'=>r = .bool ((usesP m.fields i).contains k)∧Ext w w':=by
 obtain ⟨tv,cv,rfl,hT,hC⟩:=hu
 have ht1:=SliceOf.oneCell hT
 have hc1:=SliceOf.oneCell hC
 have hf1:=SliceOf.oneCell hF
 refine n94s (R:=retR _) ?_;unfold n94
 rw [op_boxA]
 have hBW:=ElemAt.new (w:=w) (fieldCells x tv cv) (48)
 have eW:Ext w (w.alloc (Obj.cells (List.toArray (fieldCells x tv cv)) (48))):=(Ext.refl _).alloc _
 generalize (w.alloc (Obj.cells (List.toArray (fieldCells x tv cv)) (48)))=W at hBW eW ⊢
 refine drawK_intro ?_
 have eD:Ext W W.drew:=(Ext.refl W).wdrew
 have E:=eW.trans eD
 unfold n94c1
 simp (disch:=try exact DI) only [↓PR,QR,simprocAttr,(cells_of_heap (E.obj o2)).1,(cells_of_heap (E.obj o3)).1]
 refine callK_ret (used_ret _ _ m i ⟨_,rfl,FieldsOf.ext hF E⟩ (List.getElem?_eq_some_iff.1 hi).1 hb) ?_
 rintro r w1 ⟨hR,e1⟩
 refine ⟨e1,?_⟩
 refine zcr (Contains_int_ret _ _ _ _ hR.ints) fun w2 e2=>?_
 exact ⟨e1.trans e2,_,rfl,rfl,E.trans (e1.trans e2)⟩
theorem Users_ret (w0:World) (v:Value) (m:MsgD) (k:Int) (hm:MsgVal w0 v m) (hb:fewM m):Ret Pg 13 #[v,.int .i64 k] w0 fun r w'=>(∃ u,r = .tuple #[u,.int .i64 (errU m k)]∧RowI w' w0.heap.size u (usersE m k))∧Ext w0 w':=by
 obtain ⟨fv,rfl,hF⟩:=hm
 have hf1:=SliceOf.oneCell hF
 refine n93s (R:=retR _) ?_;unfold n93
 simp (disch:=try exact DI) only [↓PR,QR,simprocAttr]
 generalize hV:World.alloc (World.alloc w0 _) _=V
 have eV:Ext w0 V:=by rw [← hV];exact ee
 have o2:V.heap[w0.heap.size]?=some (.cells (msgCells m fv).toArray 24 (0,0)):=by rw [← hV];simp (disch:=try exact DI) only [↓PR,QR,simprocAttr]
 have o3:V.heap[w0.heap.size+1]?=some (.cells #[.int .i64 k] 3 (0,0)):=by rw [← hV];simp (disch:=try exact DI) only [↓PR,QR,simprocAttr]
 clear hV
 refine zcr (in_ret _ _ m k ⟨_,rfl,FieldsOf.ext hF eV⟩) fun w1 e1=>?_
 by_cases hk:0≤k∧k < m.fields.length
 · obtain ⟨j,rfl⟩:∃ j:Nat,k=j:=⟨k.toNat,by omega⟩
   rw [decide_eq_true hk,show errU m (j:Int)=0 from if_pos hk,show usersE m (j:Int)=usersP m.fields j from if_pos hk]
   simp (disch:=try exact DI) only [↓PR,QR,simprocAttr,↓n93c1,(cells_of_heap (e1.obj o2)).1]
   refine callK_ret (where_Field_ret _ _ m.fields _ _ (fun i=>(usesP m.fields i).contains (j:Int)) (FieldsOf.ext hF (eV.trans e1)) hb.1 c42 ?_) ?_
   · intro w i x u hx e hu
     exact Users1_ret i x u hx (FieldsOf.ext hF (eV.trans (e1.trans e))) hb ((e1.trans e).obj o2) ((e1.trans e).obj o3) hu
   rintro r w2 ⟨hR,e2⟩
   have s:=(eV.trans e1).size
   exact ⟨_,rfl,⟨r,rfl,hR.base (by omega)⟩,eV.trans (e1.trans e2)⟩
 · rw [decide_eq_false hk,show errU m k=3 from if_neg hk,show usersE m k=[] from if_neg hk]
   simp (disch:=try exact DI) only [↓PR,QR,simprocAttr]
   exact ⟨⟨.slice none 0 0,rfl,OwnE.nil _ _ _ _ _⟩,eV.trans e1⟩
def EFieldW (_:World) (cs:List Value) (f:FieldD):Prop:=∃ tv cv,cs=fieldCells f tv cv∧tv.oneCell'=true∧cv.oneCell'=true
theorem keptFieldW:Kept EFieldW:=fun _ _ _ _ _ h=>h
def FieldsW (w:World) (v:Value) (l:List FieldD):Prop:=SliceOf w 15 EFieldW v l
theorem FieldsW.ext {w w':World} {v:Value} {l:List FieldD} (h:FieldsW w v l) (e:Ext w w'):FieldsW w' v l:=SliceOf.ext keptFieldW h e
def OffAt (pb:Nat) (v:Value) (l:List FieldD) (w:World):Prop:=w.heap[pb]?=some (.cells #[v] 22 (0,0))∧FieldsW w v l
theorem OffAt.ext {pb:Nat} {v:Value} {l:List FieldD} {w w':World} (h:OffAt pb v l w) (e:Ext w w'):OffAt pb v l w':=⟨e.obj h.1,h.2.ext e⟩
theorem outs_marks {L:List (Option TypeId×Value)} {R:RT} {bs:List Nat}:∀ {w w0:World},bs.Nodup→(∀ b∈bs,MarkAt b w∧w0.heap.size≤b)→Ext w0 w →
 (∀ w',Ext w0 w'→(∀ (b:Nat) (o:Obj),(∀ d,o ≠ .deferred d)→w.heap[b]?=some o→w'.heap[b]?=some o)→outX Pg [] L R w')→outX Pg (bs.map Sw.mark) L R w:=by
 induction bs with
 | nil=>exact fun _ _ e h=>h _ e fun _ _ _ h=>h
 | cons b bs ih =>
  intro w w0 hn hm e h
  obtain ⟨hb,hn'⟩:=List.nodup_cons.1 hn
  have hmb:=hm b (List.mem_cons_self ..)
  refine outX_mark hmb.1 (ih (w0:=w0) hn' (fun c hc=>⟨?_,(hm c (List.mem_cons_of_mem _ hc)).2⟩) (e.putObj hmb.2 _) (fun w' e' h'=>h w' e' (fun c o ho hc=>h' c o ho ((World.putObj_heap_other ?_).trans hc))))
  · exact (World.putObj_heap_other (fun (e:c=b)=>hb (by rw [← e];exact hc))).trans (hm c (List.mem_cons_of_mem _ hc)).1
  · rintro rfl
    have:=hmb.1
    unfold MarkAt at this
    rw [hc] at this
    injection this with this
    exact ho _ this
theorem has_nd {T:TypeId} {cs:Array Value}:∀ d,Obj.cells cs T (0,0) ≠ .deferred d:=fun _ h=>by cases h
def IntsAt (w:World) (pb:Nat) (sv:Value) (l:List Int):Prop:=w.cell? ⟨pb,0,none⟩=some sv∧SliceOf w 1 EInt sv l
theorem IntsAt.ext {w w':World} {pb:Nat} {sv:Value} {l:List Int} (h:IntsAt w pb sv l) (e:Ext w w'):IntsAt w' pb sv l:=⟨e.cell h.1,h.2.ext keptInt e⟩
def intX (l:List Int) (k:Nat):Value:=match l[k]? with
 | some n => .int .i64 n
 | none=>undef
theorem Values_seq (pb:Nat) (sv:Value) (l:List Int):SeqIt Pg 86 #[.pointer (some ⟨pb,0,none⟩)] l.length (intX l) (fun w=>IntsAt w pb sv l):=by
 intro yv J Jx Jp w hFP hJe hJx hstep h0
 obtain ⟨hc,hT⟩:=hFP 0 w h0
 obtain ⟨A,c,rfl,hlc,hcm,hlm,hel⟩:=SliceOf.open hT
 refine n141s (t0:=yv) (t1 := .pointer (some ⟨pb,0,none⟩)) ?_
 unfold n141
 simp (disch:=try exact DI) only [↓PR,QR,simprocAttr,hc]
 refine loop1_intro (fun i w=>∃ k:Nat,i = .int .i64 k∧k≤l.length∧J k w) (fun i _=>l.length - (intOf i).toNat) ⟨0,rfl,by omega,h0⟩ ?_
 rintro _ w' ⟨k,rfl,hk,hJ⟩
 rcases drop_cases hk with ⟨x,hx,hd,hlt,hdec⟩ | ⟨hk,hd,hdec⟩
 · obtain ⟨hc',hT'⟩:=hFP k w' hJ
   obtain ⟨A',c',hv,_,hcm',_,hel'⟩:=SliceOf.open hT'
   injection hv with hv _ hv'
   subst hv hv'
   obtain ⟨b,o,cs,rfl,hl,hA,rfl⟩:=hel' k x hx
   have er:=Ext.refl w'
   have hs:=hstep k hlt w' hJ
   rw [show intX l k = .int .i64 x by unfold intX;rw [hx]] at hs
   simp (disch:=try exact DI) only [↓PR,QR,simprocAttr,↓n141c1,↓n141c2,hdec,hA.c1 er]
   refine callV_mono hs (fun ch w h=>h) ?_
   rintro v w3 (⟨rfl,h2⟩ | ⟨rfl,h2⟩)
   · simp (disch:=try exact DI) only [↓PR,QR,simprocAttr,↓n141c1,↓n141c2]
     exact ⟨⟨k+1,rfl,by omega,h2⟩,meas_lt (kd := .i64) hlt⟩
   · simp (disch:=try exact DI) only [↓PR,QR,simprocAttr,↓n141c1,↓n141c2]
     exact .inr h2
 · subst hk
   simp (disch:=try exact DI) only [↓PR,QR,simprocAttr,↓n141c1,↓n141c2,hdec]
   exact .inl hJ
theorem free_at {l:List FieldD} {i:Nat} {x:FieldD} (h:l[i]?=some x):((match l[i]? with
 | some f=>numberB f
 | none=>false)&&(usersP l i).isEmpty)=(numberB x&&(usersP l i).isEmpty):=by rw [h]
theorem Free1_ret {w:World} {m:MsgD} {fv:Value} {p1:Nat} (i:Nat) (x:FieldD) (u:Value) (hi:m.fields[i]?=some x) (hF:FieldsOf w fv m.fields) (hb:fewM m) (o1:w.heap[p1]?=some (.cells (msgCells m fv).toArray 24 (0,0))) (hu:FieldVal w u x) :
 Ret Pg 48 #[.int .i64 (i:Int),u,.pointer (some ⟨p1,0,none⟩)] w fun r w'=>r = .bool (numberB x&&(usersP m.fields i).isEmpty)∧Ext w w':=by
 obtain ⟨tv,cv,rfl,hT,hC⟩:=hu
 have ht1:=SliceOf.oneCell hT
 have hc1:=SliceOf.oneCell hC
 have hf1:=SliceOf.oneCell hF
 have hil:=(List.getElem?_eq_some_iff.1 hi).1
 refine n89s (R:=retR _) ?_;unfold n89
 rw [op_boxA]
 have o4:=heap_new w (fieldCells x tv cv).toArray 48
 have eW:Ext w (w.alloc (.cells (fieldCells x tv cv).toArray 48)):=ee
 generalize (w.alloc (.cells (fieldCells x tv cv).toArray 48))=W at o4 eW ⊢
 generalize w.heap.size=p4 at o4 ⊢
 simp (disch:=try exact DI) only [↓PR,QR,simprocAttr,(cells_of_heap (eW.obj o1)).1]
 refine callK_ret (Users_ret _ _ m i ⟨_,rfl,FieldsOf.ext hF eW⟩ hb) ?_
 rintro _ w1 ⟨⟨uv,rfl,hR⟩,e1⟩
 have hin:0≤(i:Int)∧(i:Int) < m.fields.length:=by omega
 rw [show usersE m (i:Int)=usersP m.fields i by unfold usersE;rw [if_pos hin,Int.toNat_natCast]] at hR
 unfold n89c2
 simp (disch:=try exact DI) only [↓PR,QR,simprocAttr,(cells_of_heap (e1.obj o4)).1]
 refine zcr (Number_ret _ _ x ⟨_,_,rfl,hT.ext (eW.trans e1),hC.ext (eW.trans e1)⟩) fun w2 e2=>?_
 obtain ⟨A,c,rfl,_⟩:=SliceOf.open hR.ints
 have hz:(((usersP m.fields i).length:Int) == 0)=(usersP m.fields i).isEmpty:=by
  cases usersP m.fields i with
  | nil=>rfl
  | cons a l=>simp;omega
 have E:=eW.trans (e1.trans e2)
 unfold n89c1
 cases hn:numberB x with
 | true=>simp (disch:=try exact DI) only [↓PR,QR,simprocAttr,hz];exact ⟨by trivial,E⟩
 | false=>simp (disch:=try exact DI) only [↓PR,QR,simprocAttr];exact ⟨by trivial,E⟩
theorem Free_ret (w0:World) (v:Value) (m:MsgD) (hm:MsgVal w0 v m) (hb:fewM m):Ret Pg 19 #[v] w0 fun r w'=>∃ pb sv,r = .func (.func 86) #[] #[.pointer (some ⟨pb,0,none⟩)]∧IntsAt w' pb sv (freeP m.fields)∧w0.heap.size≤pb∧(∀ A n c,sv = .slice (some A) n c→w0.heap.size≤A.block)∧Ext w0 w':=by
 obtain ⟨fv,rfl,hF⟩:=hm
 have hf1:=SliceOf.oneCell hF
 refine n88s (R:=retR _) ?_;unfold n88
 rw [op_boxA]
 have o1:=heap_new w0 (msgCells m fv).toArray 24
 have eW:Ext w0 (w0.alloc (.cells (msgCells m fv).toArray 24)):=ee
 generalize (w0.alloc (.cells (msgCells m fv).toArray 24))=W at o1 eW ⊢
 simp (disch:=try exact DI) only [↓PR,QR,simprocAttr,(cells_of_heap o1).1]
 refine callK_ret (where_Field_ret _ _ m.fields _ _ (fun i=>(match m.fields[i]? with
  | some f=>numberB f
  | none=>false)&&(usersP m.fields i).isEmpty) (FieldsOf.ext hF eW) hb.1 c48 ?_) ?_
 · intro w i x u hx e hu
   rw [free_at hx]
   exact Free1_ret i x u hx (FieldsOf.ext hF (eW.trans e)) hb (e.obj o1) hu
 rintro sv w1 ⟨hR,e1⟩
 have s1:=(eW.trans e1).size
 have h1:=SliceOf.oneCell hR.ints
 simp (disch:=try exact DI) only [↓PR,QR,simprocAttr]
 have hV:Ret Pg 50 #[sv] w1 fun r w'=>r = .func (.func 86) #[] #[.pointer (some ⟨w1.heap.size,0,none⟩)]∧w'.cell? ⟨w1.heap.size,0,none⟩=some sv∧Ext w1 w':=by
  refine n140s (R:=retR _) ?_;unfold n140
  simp (disch:=try exact DI) only [↓PR,QR,simprocAttr]
  exact ⟨by trivial,by rw [cells_one h1];rfl,ee⟩
 refine callK_ret hV ?_
 rintro _ w2 ⟨rfl,hc,e2⟩
 refine ⟨_,rfl,_,sv,rfl,⟨hc,hR.ints.ext keptInt e2⟩,s1,fun A n c h=>?_,eW.trans (e1.trans e2)⟩
 subst h
 have:=(hR.lt A.block rfl).1
 have:=eW.size
 omega
section
variable {R:RT}
def turnF (a:Value) (w:World):Nat:=match a with
 | .pointer (some p)=>(match w.cell? p with
  | some (.int _ t)=>(2 - t).toNat
  | _=>0)
 | _=>0
theorem lastsF (B:Nat) (l:List Nat):Lasts B (fun w=>∀ b∈l,MarkAt b w):=⟨fun w w' h e b hb=>(h b hb).ext e,fun w q r r' hl h hr b hb=>by
 have:=h b hb
 exact (World.putObj_heap_other (by rintro rfl;unfold MarkAt at this;rw [this] at hr;cases hr)).trans this⟩
theorem fre_after1 {w2:World} {pA pB pC pD pE:Nat} {many:Int} {t k n:Nat} {A:Option Addr} {cc:Nat} {ds:List Deferred} {next1:List Deferred→Value→World→Prop} (xA:w2.heap[pA]?=some (.cells #[.int .i64 many] 3 (0,0))) (xB:w2.heap[pB]?=some (.cells #[.slice A n cc] 30 (0,0))) (yD:w2.heap[pD]?=some (.cells #[.int .i64 (t:Int)] 3 (0,0))) (yE:w2.heap[pE]?=some (.cells #[.int .i64 (k:Int)] 3 (0,0)))
 (ht:t < 2) (h0:t=0→(k:Int)=min (n:Int) (max 1 many)) (h1:t=1→k=n) (hn:∀ w',w2.heap.size < w'.heap.size→w'.heap[w2.heap.size]?=some (.cells #[.int .i64 ((t+1:Nat):Int)] 3 (0,0))→Ext w2 w'→next1 ds (.pointer (some ⟨w2.heap.size,0,none⟩)) w') :
 n7c8 (.pointer (some ⟨pA,0,none⟩)) (.pointer (some ⟨pB,0,none⟩)) (.pointer (some ⟨pC,0,none⟩)) (.pointer (some ⟨pD,0,none⟩)) (.pointer (some ⟨pE,0,none⟩)) next1 ds R w2:=by
 have fin:n7c3 (.pointer (some ⟨pC,0,none⟩)) (.pointer (some ⟨pD,0,none⟩)) next1 ds R w2:=by
  unfold n7c3
  simp (disch:=try exact DI) only [↓PR,QR,simprocAttr,(cells_of_heap yD).1]
  exact hn _ (by simp only [World.size_alloc];omega) (by simpa using heap_new w2 #[.int .i64 ((t+1:Nat):Int)] 3) ee
 unfold n7c8
 have hcase:t=0∨t=1:=by omega
 rcases hcase with rfl | rfl
 · have hm:(if (if many > 1 then many else 1) < (n:Int) then (if many > 1 then many else 1) else (n:Int))=(k:Int):=by
    rw [h0 rfl]
    split<;>split<;>omega
   have d0:((((0:Nat):Int)) == 0)=true:=rfl
   have d1:((((0:Nat):Int)) == 1)=false:=rfl
   have dk:((k:Int) != (k:Int))=false:=by simp
   simp (disch:=try exact DI) only [↓PR,QR,simprocAttr,(cells_of_heap yD).1,d0,(cells_of_heap yE).1,(cells_of_heap xB).1,(cells_of_heap xA).1,hm,dk,d1,↓n7c7,↓n7c6,↓n7c5,↓n7c4]
   exact fin
 · have d0:((((1:Nat):Int)) == 0)=false:=rfl
   have d1:((((1:Nat):Int)) == 1)=true:=rfl
   have dk:((k:Int) != (n:Int))=false:=by rw [h1 rfl];simp
   simp (disch:=try exact DI) only [↓PR,QR,simprocAttr,(cells_of_heap yD).1,d0,d1,(cells_of_heap yE).1,(cells_of_heap xB).1,dk,↓n7c7,↓n7c6,↓n7c5,↓n7c4]
   exact fin
theorem fre_after2 {w2:World} {pA pB pC pD pE:Nat} {many:Int} {t k n:Nat} {A:Option Addr} {cc:Nat} {ds:List Deferred} {next1:List Deferred→Value→World→Prop} (xA:w2.heap[pA]?=some (.cells #[.int .i64 many] 3 (0,0))) (xB:w2.heap[pB]?=some (.cells #[.slice A n cc] 30 (0,0))) (yD:w2.heap[pD]?=some (.cells #[.int .i64 (t:Int)] 3 (0,0))) (yE:w2.heap[pE]?=some (.cells #[.int .i64 (k:Int)] 3 (0,0)))
 (ht:t < 2) (h0:t=0→(k:Int)=min (n:Int) (max 1 many)) (h1:t=1→k=n) (hn:∀ w',w2.heap.size < w'.heap.size→w'.heap[w2.heap.size]?=some (.cells #[.int .i64 ((t+1:Nat):Int)] 3 (0,0))→Ext w2 w'→next1 ds (.pointer (some ⟨w2.heap.size,0,none⟩)) w') :
 n7c14 (.pointer (some ⟨pA,0,none⟩)) (.pointer (some ⟨pB,0,none⟩)) (.pointer (some ⟨pC,0,none⟩)) (.pointer (some ⟨pD,0,none⟩)) (.pointer (some ⟨pE,0,none⟩)) next1 ds R w2:=by
 have fin:n7c9 (.pointer (some ⟨pC,0,none⟩)) (.pointer (some ⟨pD,0,none⟩)) next1 ds R w2:=by
  unfold n7c9
  simp (disch:=try exact DI) only [↓PR,QR,simprocAttr,(cells_of_heap yD).1]
  exact hn _ (by simp only [World.size_alloc];omega) (by simpa using heap_new w2 #[.int .i64 ((t+1:Nat):Int)] 3) ee
 unfold n7c14
 have hcase:t=0∨t=1:=by omega
 rcases hcase with rfl | rfl
 · have hm:(if (if many > 1 then many else 1) < (n:Int) then (if many > 1 then many else 1) else (n:Int))=(k:Int):=by
    rw [h0 rfl]
    split<;>split<;>omega
   have d0:((((0:Nat):Int)) == 0)=true:=rfl
   have d1:((((0:Nat):Int)) == 1)=false:=rfl
   have dk:((k:Int) != (k:Int))=false:=by simp
   simp (disch:=try exact DI) only [↓PR,QR,simprocAttr,(cells_of_heap yD).1,d0,(cells_of_heap yE).1,(cells_of_heap xB).1,(cells_of_heap xA).1,hm,dk,d1,↓n7c13,↓n7c12,↓n7c11,↓n7c10,↓n7c10]
   exact fin
 · have d0:((((1:Nat):Int)) == 0)=false:=rfl
   have d1:((((1:Nat):Int)) == 1)=true:=rfl
   have dk:((k:Int) != (n:Int))=false:=by rw [h1 rfl];simp
   simp (disch:=try exact DI) only [↓PR,QR,simprocAttr,(cells_of_heap yD).1,d0,d1,(cells_of_heap yE).1,(cells_of_heap xB).1,dk,↓n7c13,↓n7c12,↓n7c11,↓n7c10,↓n7c10]
   exact fin
end
theorem frees_ret (w0:World) (v:Value) (m:MsgD) (many:Int) (wv:Value) (hm:MsgVal w0 v m) (hb:fewM m) (hL:SliceOf w0 1 EInt wv (freeP m.fields)):Ret Pg 18 #[v,.int .i64 many,wv] w0 fun r w'=>r = .bool true∧Ext w0 w':=by
 obtain ⟨fv,rfl,hF⟩:=hm
 have hm1:=SliceOf.oneCell hF
 have hw1:=SliceOf.oneCell hL
 refine n7s (R:=retR _) ?_;unfold n7
 simp (disch:=try exact DI) only [↓PR,QR,simprocAttr]
 simp only [World.size_alloc,cells_one hw1]
 generalize hW:World.alloc (World.alloc (World.alloc (World.alloc w0 _) _) _) _=W
 have e0:Ext w0 W:=by rw [← hW];exact ee
 have oA:W.heap[w0.heap.size+1]?=some (.cells #[.int .i64 many] 3 (0,0)):=by rw [← hW];simp (disch:=try exact DI) only [↓PR,QR,simprocAttr]
 have oB:W.heap[w0.heap.size+1+1]?=some (.cells #[wv] 30 (0,0)):=by rw [← hW];simp (disch:=try exact DI) only [↓PR,QR,simprocAttr]
 have oC:W.heap[w0.heap.size+1+1+1]?=some (.cells #[.bool false] 4 (0,0)):=by rw [← hW];simp (disch:=try exact DI) only [↓PR,QR,simprocAttr]
 clear hW
 generalize hpA:w0.heap.size+1=pA at *
 generalize hpB:pA+1=pB at *
 generalize hpC:pB+1=pC at *
 refine callK_ret (Free_ret _ _ m ⟨_,rfl,FieldsOf.ext hF e0⟩ hb) ?_
 rintro _ w1 ⟨pb,sv,rfl,hIt,_,_,e1⟩
 have E1:=e0.trans e1
 have xA:=e1.obj oA
 have xB:=e1.obj oB
 have xC:=e1.obj oC
 have hL1:=hL.ext keptInt E1
 generalize freeP m.fields=l at hIt hL1
 clear oA oB oC hL
 obtain ⟨A,cc,rfl,hlc,hcm,hlm,hel⟩:=SliceOf.open hL1
 unfold n7c18
 simp (disch:=try exact DI) only [↓PR,QR,simprocAttr]
 unfold n7c17
 simp (disch:=try exact DI) only [↓PR,QR,simprocAttr]
 have lC:=(Array.getElem?_eq_some_iff.1 xC).1
 have oD:=heap_new w1 #[.int .i64 0] 3
 have eX:Ext w1 (w1.alloc (Obj.cells #[.int .i64 0] 3)):=ee
 generalize (w1.alloc (Obj.cells #[.int .i64 0] 3))=X at oD eX ⊢
 refine loopM1_intro (fun ds a w'=>∃ (pD:Nat) (t:Nat),a = .pointer (some ⟨pD,0,none⟩)∧t≤2∧w1.heap.size≤pD∧w'.heap[pD]?=some (.cells #[.int .i64 (t:Int)] 3 (0,0))∧Ext w1 w'∧(∃ bs:List Nat,ds=bs.map Sw.mark∧bs.Nodup∧∀ b∈bs,MarkAt b w'∧w1.heap.size≤b)) turnF ⟨w1.heap.size,0,rfl,by omega,Nat.le_refl _,oD,eX,[],rfl,by simp,by simp⟩ ?_
 rintro ds _ w2 ⟨pD,t,rfl,ht2,hpD,yD,e2,bs,rfl,hnd,hbs⟩
 have hcw:∀ (w':World) (p u:Nat),w'.heap[p]?=some (.cells #[.int .i64 (u:Int)] 3 (0,0))→turnF (.pointer (some ⟨p,0,none⟩)) w'=2 - u:=by
  intro w' p u h
  unfold turnF
  simp only
  rw [(cells_of_heap h).1 0]
  show ((2:Int) - (u:Int)).toNat=2 - u
  omega
 unfold n7c16
 by_cases ht:t < 2
 · have dt:decide ((t:Int) < 2)=true:=by simp;omega
   simp (disch:=try exact DI) only [↓PR,QR,simprocAttr,(cells_of_heap yD).1,dt]
   unfold n7c15
   simp (disch:=try exact DI) only [↓PR,QR,simprocAttr]
   have lD:pD < w2.heap.size:=(Array.getElem?_eq_some_iff.1 yD).1
   have eB:Ext w2 (w2.alloc (Obj.cells #[.int .i64 0] 3)):=ee
   have oE:=heap_new w2 #[.int .i64 0] 3
   have hs3:(w2.alloc (Obj.cells #[.int .i64 0] 3)).heap.size=w2.heap.size+1:=by simp only [World.size_alloc]
   generalize hpE:w2.heap.size=pE at oE hs3 ⊢
   generalize (w2.alloc (Obj.cells #[.int .i64 0] 3))=w3 at eB oE hs3 ⊢
   have s2:=e2.size
   let I:Nat→World→Prop:=fun k w'=>Ext w1 w'∧(∀ b∈bs,MarkAt b w')∧w'.heap[pD]?=some (.cells #[.int .i64 (t:Int)] 3 (0,0))∧w'.heap[pE]?=some (.cells #[.int .i64 (k:Int)] 3 (0,0))∧(t=0→k=0∨(k:Int) < many)
   let Ix:Nat→World→Prop:=fun c w'=>c=1∧Ext w1 w'∧(∀ b∈bs,MarkAt b w')∧w'.heap[pD]?=some (.cells #[.int .i64 (t:Int)] 3 (0,0))∧∃ k:Nat,w'.heap[pE]?=some (.cells #[.int .i64 (k:Int)] 3 (0,0))∧t=0∧(k:Int)=min (l.length:Int) (max 1 many)
   have hLI:∀ k,Lasts w3.heap.size (I k):=fun k=>Lasts.and (Lasts.from (by omega)) (Lasts.and (lastsF _ _) (Lasts.and (Lasts.has _ (by simp)) (Lasts.and (Lasts.has _ (by simp)) (Lasts.const _ _))))
   have hLX:∀ k,Lasts w3.heap.size (Ix k):=fun k=>Lasts.and (Lasts.const _ _) (Lasts.and (Lasts.from (by omega)) (Lasts.and (lastsF _ _) (Lasts.and (Lasts.has _ (by simp)) (Lasts.ex fun k=>Lasts.and (Lasts.has _ (by simp)) (Lasts.const _ _)))))
   have hfin:∀ (w4:World),Ext w1 w4→(∀ b∈bs,MarkAt b w4)→MarkAt w3.heap.size w4→∀ w5,w4.heap.size < w5.heap.size→w5.heap[w4.heap.size]?=some (.cells #[.int .i64 ((t+1:Nat):Int)] 3 (0,0))→Ext w4 w5 →
    (∃ (pD:Nat) (t':Nat),Value.pointer (some ⟨w4.heap.size,0,none⟩) = .pointer (some ⟨pD,0,none⟩)∧t'≤2∧w1.heap.size≤pD∧w5.heap[pD]?=some (.cells #[.int .i64 (t':Int)] 3 (0,0))∧Ext w1 w5∧(∃ bs':List Nat,(Sw.mark w3.heap.size::bs.map Sw.mark)=bs'.map Sw.mark∧bs'.Nodup∧∀ b∈bs',MarkAt b w5∧w1.heap.size≤b)) ∧
    turnF (.pointer (some ⟨w4.heap.size,0,none⟩)) w5 < turnF (.pointer (some ⟨pD,0,none⟩)) w2:=by
    intro w4 e4 hm4 hmk w5 hlt5 h5 e5
    have s4:=e4.size
    refine ⟨⟨w4.heap.size,t+1,rfl,by omega,by omega,h5,e4.trans e5,w3.heap.size::bs,rfl,List.nodup_cons.2 ⟨fun hin=>?_,hnd⟩,fun b hb=>?_⟩,?_⟩
    · have:=(Array.getElem?_eq_some_iff.1 (hbs _ hin).1).1
      omega
    · rcases List.mem_cons.1 hb with rfl | hb
      · exact ⟨hmk.ext e5,by omega⟩
      · exact ⟨(hm4 b hb).ext e5,(hbs b hb).2⟩
    · rw [hcw w5 _ (t+1) h5,hcw w2 pD t yD];omega
   refine ⟨_,_,l.length,intX l,fun w=>IntsAt w pb sv l,I,Ix,fun _ _=>False,rfl,c86,Values_seq pb sv l,⟨e2.trans eB,fun b hb=>(hbs b hb).1.ext eB,eB.obj yD,oE,fun _ => .inl rfl⟩,fun k w' h=>hIt.ext h.1,hLI,hLX,?_,?_,?_,?_⟩
   · intro rec j w4 hj hI4 hrec hready
     refine ⟨hready,fun w5 hbz=>?_⟩
     have hrec5:=hrec.busied hbz
     have hI5:=(hLI j).busied hbz (Nat.le_succ _) hI4
     clear hI4 hrec hready hbz
     obtain ⟨e5,hm5,qD,qE,hjm⟩:=hI5
     obtain ⟨n,hn⟩:=getElem?_lt hj
     obtain ⟨b,o,cs,rfl,_,hE,hcs⟩:=hel j n hn
     subst hcs
     rw [show intX l j = .int .i64 n by unfold intX;rw [hn]]
     have lE:pE < w5.heap.size:=(Array.getElem?_eq_some_iff.1 qE).1
     have hge:decide ((j:Int)≥(l.length:Int))=false:=by simp;omega
     have hss:(n != n)=false:=by simp
     unfold n7c2
     simp (disch:=try exact DI) only [↓PR,QR,simprocAttr,(cells_of_heap qE).1,(cells_of_heap (e5.obj xB)).1,hge,hE.c1 e5,hss]
     unfold n7c1
     have hw:IntKind.i64.wrap ((j:Int)+1)=((j+1:Nat):Int):=by rw [wrap_ok (by omega) (by omega)];omega
     have rE:(w5.setCell ⟨pE,0,none⟩ (.int .i64 ((j+1:Nat):Int))).heap[pE]?=some (.cells #[.int .i64 ((j+1:Nat):Int)] 3 (0,0)):=by simpa using heap_set (o:=0) qE (.int .i64 ((j+1:Nat):Int))
     have rD:=(Only.setCell w5 pE 0 (.int .i64 ((j+1:Nat):Int)) pD (by omega)).trans qD
     have e6:Ext w1 (w5.setCell ⟨pE,0,none⟩ (.int .i64 ((j+1:Nat):Int))):=e5.setCell (by show w1.heap.size≤pE;omega) _
     have hm6:∀ b∈bs,MarkAt b (w5.setCell ⟨pE,0,none⟩ (.int .i64 ((j+1:Nat):Int))):=fun b hb=>(hm5 b hb).setCell _ _
     have hrec6:=hrec5.setCell ⟨pE,0,none⟩ (.int .i64 ((j+1:Nat):Int))
     have xA':=e5.obj xA
     have hcase:t=0∨t=1:=by omega
     rcases hcase with ht0 | ht1
     · have d0:((t:Int) == 0)=true:=by rw [ht0];rfl
       by_cases hmy:((j+1:Nat):Int)≥many
       · have dm:decide (((j+1:Nat):Int)≥many)=true:=by simpa using hmy
         simp (disch:=try exact DI) only [↓PR,QR,simprocAttr,(cells_of_heap qE).1,(cells_of_heap qE).2,(cells_of_heap qD).1,d0,(cells_of_heap rE).1,(cells_of_heap xA').1,dm]
         refine ⟨hrec6,rfl,e6,hm6,rD,j+1,rE,ht0,?_⟩
         have:=hjm ht0
         omega
       · have dm:decide (((j+1:Nat):Int)≥many)=false:=by simpa using hmy
         simp (disch:=try exact DI) only [↓PR,QR,simprocAttr,(cells_of_heap qE).1,(cells_of_heap qE).2,(cells_of_heap qD).1,d0,(cells_of_heap rE).1,(cells_of_heap xA').1,dm]
         exact ⟨hrec6,e6,hm6,rD,rE,fun _ => .inr (by omega)⟩
     · have d0:((t:Int) == 0)=false:=by rw [ht1];rfl
       simp (disch:=try exact DI) only [↓PR,QR,simprocAttr,(cells_of_heap qE).1,(cells_of_heap qE).2,(cells_of_heap qD).1,d0]
       exact ⟨hrec6,e6,hm6,rD,rE,fun h=>by omega⟩
   · rintro w4 ⟨e4,hm4,qD,qE,hjm⟩ hmk
     exact fre_after1 (e4.obj xA) (e4.obj xB) qD qE ht (fun h=>by have:=hjm h;omega) (fun _=>rfl) (hfin w4 e4 hm4 hmk)
   · rintro c w4 ⟨rfl,e4,hm4,qD,k,qE,ht0,hk⟩ hmk
     exact fre_after2 (e4.obj xA) (e4.obj xB) qD qE ht (fun _=>hk) (fun h=>by omega) (hfin w4 e4 hm4 hmk)
   · rintro ch w4 h
     exact h.elim
 · have dt:decide ((t:Int) < 2)=false:=by simp;omega
   have qC:=e2.obj xC
   simp (disch:=try exact DI) only [↓PR,QR,simprocAttr,(cells_of_heap yD).1,dt,(cells_of_heap qC).1,(cells_of_heap qC).2]
   have rC:(w2.setCell ⟨pC,0,none⟩ (.bool true)).heap[pC]?=some (.cells #[.bool true] 4 (0,0)):=by simpa using heap_set (o:=0) qC (.bool true)
   refine outs_marks (w0:=w0) hnd (fun b hb=>⟨(hbs b hb).1.setCell _ _,by have:=(hbs b hb).2;have:=E1.size;omega⟩) ((E1.trans e2).setCell (by show w0.heap.size≤pC;omega) _) (fun w' e' hh=>?_)
   have zC:=hh _ _ has_nd rC
   simp (disch:=try exact DI) only [↓PR,QR,simprocAttr,outX_nil,retV,resOne,(cells_of_heap zC).1]
   exact ⟨by trivial,e'⟩
def wantC:Nat→List Int
 | 2=>[0]
 | 3=>[1]
 | 4=>[2]
 | _=>[]
theorem kn_uses:∀ k:Nat,k < 5→usesE mC k=wantC k∧errU mC k=0:=by decide +kernel
theorem kn_u5:errU mC 5=3:=by decide +kernel
theorem kn_e0:errU mC 0=0:=by decide +kernel
theorem kn_e2:errU mC 2=0:=by decide +kernel
theorem fresh_ints (w:World) (l:List Int) (hl:l.length≤1048576):SliceOf (w.alloc (.cells (l.map fun n=>Value.int .i64 n).toArray 3)) 1 EInt (.slice (some ⟨w.heap.size,0,none⟩) l.length l.length) l :=
 slice_rows (T:=3) (l.map fun n=>[Value.int .i64 n]) l (by decide) (by rw [heap_new];congr 3;clear hl;induction l<;>simp_all) (by simp) (by simp) hl fun k cs x h1 h2=>by
  rw [List.getElem?_map,h2] at h1
  injection h1 with h1
  exact h1.symm
theorem kn_us0:usersE mC 0=[2]:=by decide +kernel
theorem kn_us2:usersE mC 2=[4]:=by decide +kernel
theorem kn_frC:freeP mC.fields=[]:=by decide +kernel
theorem kn_frA:freeP mA.fields=[0]:=by decide +kernel
theorem kn_ed:errD gvD=0:=by decide +kernel
theorem kn_chT:chosenP gvD true=[0,1,2]:=by decide +kernel
theorem kn_chF:chosenP gvD false=[3]:=by decide +kernel
theorem kn_p0:pathE gvD 0=[2,0]∧errP gvD 0=0:=by decide +kernel
theorem kn_p1:pathE gvD 1=[2,1]∧errP gvD 1=0:=by decide +kernel
theorem kn_p3:errP gvD 3=9:=by decide +kernel
theorem kn_calm:calm gvD:=by unfold calm;decide +kernel
theorem kn_few:fewM mC∧fewM mA:=by unfold fewM;decide +kernel
def rowC (n:Nat):Nat→Value
 | 0 => .slice (some ⟨n+2,0,none⟩) 0 0
 | 1 => .slice (some ⟨n+3,0,none⟩) 0 0
 | 2 => .slice (some ⟨n+4,0,none⟩) 1 1
 | 3 => .slice (some ⟨n+5,0,none⟩) 1 1
 | _ => .slice (some ⟨n+6,0,none⟩) 1 1
theorem one_int {w:World} (n:Int):∀ (k:Nat) cs (x:Int),[[Value.int .i64 n]][k]?=some cs→[n][k]?=some x→EInt w cs x:=fun k cs x h1 h2=>by
 match k with
 | 0=>injection h1 with h1;injection h2 with h2;subst h1 h2;rfl
theorem known_ret (w0:World):Ret Pg 11 #[] w0 fun r w'=>r = .bool true∧Ext w0 w':=by
 refine n9s (R:=retR _) ?_;unfold n9
 refine callK_ret (given_ret _) ?_
 rintro _ w1 ⟨⟨b,fa,fb,fc,fz,rfl,hb,hfa,hfb,hfc,hfz⟩,e1⟩
 have ha1:=SliceOf.oneCell hfa
 have hb1:=SliceOf.oneCell hfb
 have hc1:=SliceOf.oneCell hfc
 have hz1:=SliceOf.oneCell hfz
 have hidx2:∀ (w:World) (QP:List PanicEntry→World→Prop) (K:Value→World→Prop),opV Pg (Instr.indexAt 26 (.slice (some ⟨b,0,none⟩) 4 4) (.int .i64 2)) QP w K=K (.pointer (some ⟨b,4,none⟩)) w:=fun w QP K=>op_indexN (w:=w) (QP:=QP) (k:=K) Tryz.underlying26 ty24 b 0 4 4 .i64 2 (by decide)
 have hidx0:∀ (w:World) (QP:List PanicEntry→World→Prop) (K:Value→World→Prop),opV Pg (Instr.indexAt 26 (.slice (some ⟨b,0,none⟩) 4 4) (.int .i64 0)) QP w K=K (.pointer (some ⟨b,0,none⟩)) w:=fun w QP K=>op_indexN (w:=w) (QP:=QP) (k:=K) Tryz.underlying26 ty24 b 0 4 4 .i64 0 (by decide)
 have hc4:∀ O,(w1.alloc O).cell? ⟨b,4,none⟩=some (.string ⟨#[99]⟩):=fun O=>by rw [(cells_of_heap ((Ext.alloc (Ext.refl w1) O).obj hb)).1];rfl
 have hc5:∀ O,(w1.alloc O).cell? ⟨b,5,none⟩=some fc:=fun O=>by rw [(cells_of_heap ((Ext.alloc (Ext.refl w1) O).obj hb)).1];rfl
 unfold n9c28
 simp (disch:=try exact DI) only [↓PR,QR,simprocAttr,↓hidx2,hc4,hc5]
 simp only [World.size_alloc,World.size_setCell]
 generalize hV:World.alloc (World.alloc _ _) _=V
 generalize hn:w1.heap.size=n at hV ⊢
 have eV:Ext w1 V:=by rw [← hV];exact ee
 have oD:V.heap[n]?=some (.cells #[.string ⟨#[100]⟩,.slice (some ⟨b,0,none⟩) 4 4,.string ⟨#[99]⟩] 28 (0,0)):=by rw [← hV,← hn];simp (disch:=try exact DI) only [↓PR,QR,simprocAttr]
 have oM:V.heap[n+1]?=some (.cells #[.string ⟨#[99]⟩,fc] 24 (0,0)):=by rw [← hV,← hn];simp (disch:=try exact DI) only [↓PR,QR,simprocAttr]
 have oR:V.heap[n+7]?=some (.cells #[rowC n 0,rowC n 1,rowC n 2,rowC n 3,rowC n 4] TS (0,0)):=by rw [← hV,← hn];simp (disch:=try exact DI) only [↓PR,QR,simprocAttr];rfl
 have o2:V.heap[n+4]?=some (.cells #[.int .i64 0] 3 (0,0)):=by rw [← hV,← hn];simp (disch:=try exact DI) only [↓PR,QR,simprocAttr]
 have o3:V.heap[n+5]?=some (.cells #[.int .i64 1] 3 (0,0)):=by rw [← hV,← hn];simp (disch:=try exact DI) only [↓PR,QR,simprocAttr]
 have o4:V.heap[n+6]?=some (.cells #[.int .i64 2] 3 (0,0)):=by rw [← hV,← hn];simp (disch:=try exact DI) only [↓PR,QR,simprocAttr]
 clear hV
 have E1:=e1.trans eV
 have hrow:∀ k,k < 5→V.cell? ⟨n+7,k,none⟩=some (rowC n k)∧SliceOf V 1 EInt (rowC n k) (wantC k)∧(rowC n k).oneCell'=true:=by
  intro k hk
  rw [(cells_of_heap oR).1]
  match k,hk with
  | 0,_=>exact ⟨rfl,⟨_,0,rfl,Nat.le_refl _,by decide,fun h=>absurd rfl h⟩,rfl⟩
  | 1,_=>exact ⟨rfl,⟨_,0,rfl,Nat.le_refl _,by decide,fun h=>absurd rfl h⟩,rfl⟩
  | 2,_=>exact ⟨rfl,slice_rows [[.int .i64 0]] [0] (by decide) o2 (by simp) rfl (by decide) (one_int 0),rfl⟩
  | 3,_=>exact ⟨rfl,slice_rows [[.int .i64 1]] [1] (by decide) o3 (by simp) rfl (by decide) (one_int 1),rfl⟩
  | 4,_=>exact ⟨rfl,slice_rows [[.int .i64 2]] [2] (by decide) o4 (by simp) rfl (by decide) (one_int 2),rfl⟩
 have hmsg:∀ w,Ext V w→MsgVal w (.agg #[.string ⟨#[99]⟩,fc]) mC:=fun w e=>⟨fc,rfl,hfc.ext (eV.trans e)⟩
 have hmsA:∀ w,Ext V w→MsgVal w (.agg #[.string ⟨#[97]⟩,fa]) mA:=fun w e=>⟨fa,rfl,hfa.ext (eV.trans e)⟩
 have hdef:∀ w,Ext V w→DefVal w (.agg #[.string ⟨#[100]⟩,.slice (some ⟨b,0,none⟩) 4 4,.string ⟨#[99]⟩]) gvD:=by
  intro w e
  refine ⟨_,rfl,slice_rows (T:=24) [msgCells mA fa,msgCells mB fb,msgCells mC fc,msgCells mZ fz] gvD.msgs (by decide) ((eV.trans e).obj hb) (by simp [msgCells]) rfl (by decide) fun k cs x h1 h2=>?_⟩
  have e':=eV.trans e
  match k with
  | 0=>injection h1 with h1;injection h2 with h2;subst h1 h2;exact ⟨fa,rfl,hfa.ext e'⟩
  | 1=>injection h1 with h1;injection h2 with h2;subst h1 h2;exact ⟨fb,rfl,hfb.ext e'⟩
  | 2=>injection h1 with h1;injection h2 with h2;subst h1 h2;exact ⟨fc,rfl,hfc.ext e'⟩
  | 3=>injection h1 with h1;injection h2 with h2;subst h1 h2;exact ⟨fz,rfl,hfz.ext e'⟩
 rw [show n+1+1+1+1+1+1+1=n+7 by omega]
 refine loop1_intro (fun i w'=>∃ k:Nat,i = .int .i64 k∧k≤5∧Ext V w') (fun i _=>5 - (intOf i).toNat) ⟨0,rfl,by omega,Ext.refl _⟩ ?_
 rintro _ w2 ⟨k,rfl,hk,e2⟩
 have hM2:=(cells_of_heap (e2.obj oM)).1
 rcases Nat.lt_or_ge k 5 with hlt | hge
 · have hdec:decide ((k:Int) < 5)=true:=decide_eq_true (by omega)
   obtain ⟨h1,h2,h3⟩:=hrow k hlt
   have h1':=e2.cell h1
   obtain ⟨hu,he⟩:=kn_uses k hlt
   unfold n9c27
   simp (disch:=try exact DI) only [↓PR,QR,simprocAttr,hdec,↓n9c26,h1',hM2,Nat.mul_one,Nat.zero_add]
   refine callK_ret (Uses_ret _ _ mC k (hmsg _ e2) kn_few.1) ?_
   rintro _ w3 ⟨⟨u,rfl,hU⟩,e3⟩
   rw [he]
   rw [hu] at hU
   have hu1:=SliceOf.oneCell hU.ints
   unfold n9c2
   simp (disch:=try exact DI) only [↓PR,QR,simprocAttr]
   refine zcr (same_ret _ _ _ _ _ hU.ints (SliceOf.ext keptInt h2 (e2.trans e3))) fun w4 e4=>?_
   have hwr:IntKind.i64.wrap ((k:Int)+1)=(k:Int)+1:=wrap_ok (by omega) (by omega)
   simp (disch:=try exact DI) only [↓PR,QR,simprocAttr,↓n9c1,decide_true,hwr]
   exact ⟨⟨k+1,rfl,by omega,e2.trans (e3.trans e4)⟩,meas_lt (kd := .i64) hlt⟩
 · have hdec:decide ((k:Int) < 5)=false:=decide_eq_false (by omega)
   unfold n9c27
   simp (disch:=try exact DI) only [↓PR,QR,simprocAttr,hdec,hM2]
   refine callK_ret (Uses_ret _ _ mC 5 (hmsg _ e2) kn_few.1) ?_
   rintro _ w3 ⟨⟨u3,rfl,hU3⟩,e3⟩
   have f3:=e2.trans e3
   rw [kn_u5]
   simp (disch:=try exact DI) only [↓PR,QR,simprocAttr,↓n9c25,(cells_of_heap (f3.obj oM)).1]
   refine callK_ret (Users_ret _ _ mC 0 (hmsg _ f3) kn_few.1) ?_
   rintro _ w4 ⟨⟨u4,rfl,hU4⟩,e4⟩
   have f4:=f3.trans e4
   rw [kn_e0]
   rw [kn_us0] at hU4
   have hu4:=SliceOf.oneCell hU4.ints
   simp (disch:=try exact DI) only [↓PR,QR,simprocAttr,↓n9c24,(cells_of_heap (f4.obj oM)).1]
   refine callK_ret (Users_ret _ _ mC 2 (hmsg _ f4) kn_few.1) ?_
   rintro _ w5 ⟨⟨u5,rfl,hU5⟩,e5⟩
   have f5:=f4.trans e5
   rw [kn_e2]
   rw [kn_us2] at hU5
   have hu5:=SliceOf.oneCell hU5.ints
   unfold n9c23
   simp (disch:=try exact DI) only [↓PR,QR,simprocAttr]
   have eY5:Ext w5 (w5.alloc (.cells #[.int .i64 2] 3)):=ee
   refine zcr (same_ret _ _ _ _ [2] (RowI.ints (hU4.ext (e5.trans eY5))) (fresh_ints w5 [2] (by decide))) fun w6 e6=>?_
   have f6:=f5.trans (eY5.trans e6)
   simp (disch:=try exact DI) only [↓PR,QR,simprocAttr,↓n9c22,decide_true]
   have eY6:Ext w6 (w6.alloc (.cells #[.int .i64 4] 3)):=ee
   refine zcr (same_ret _ _ _ _ [4] (RowI.ints (hU5.ext (eY5.trans (e6.trans eY6)))) (fresh_ints w6 [4] (by decide))) fun w7 e7=>?_
   have f7:=f6.trans (eY6.trans e7)
   simp (disch:=try exact DI) only [↓PR,QR,simprocAttr,↓n9c21,↓n9c20,↓n9c19,decide_true,(cells_of_heap (f7.obj oM)).1]
   refine zcr (frees_ret _ _ mC 9 _ (hmsg _ f7) kn_few.1 (by rw [kn_frC];exact SliceOf.nil _ _ _)) fun w8 e8=>?_
   have f8:=f7.trans e8
   have hA0:w8.cell? ⟨b,0,none⟩=some (.string ⟨#[97]⟩):=by rw [(cells_of_heap ((eV.trans f8).obj hb)).1];rfl
   have hA1:w8.cell? ⟨b,1,none⟩=some fa:=by rw [(cells_of_heap ((eV.trans f8).obj hb)).1];rfl
   simp (disch:=try exact DI) only [↓PR,QR,simprocAttr,↓n9c18,↓n9c17,↓hidx0,(cells_of_heap (f8.obj oD)).1,hA0,hA1]
   have eY8:Ext w8 (w8.alloc (.cells #[.int .i64 0] 3)):=ee
   refine zcr (frees_ret _ _ mA 9 _ (hmsA _ (f8.trans eY8)) kn_few.2 (by rw [kn_frA];exact fresh_ints w8 [0] (by decide))) fun w9 e9=>?_
   have f9:=f8.trans (eY8.trans e9)
   simp (disch:=try exact DI) only [↓PR,QR,simprocAttr,↓n9c16,(cells_of_heap (f9.obj oD)).1]
   refine callK_ret (Reach_ret _ _ gvD (hdef _ f9) kn_calm) ?_
   rintro _ w10 ⟨⟨u10,rfl,hU10⟩,e10⟩
   have f10:=f9.trans e10
   rw [kn_ed]
   rw [kn_chT] at hU10
   have hu10:=SliceOf.oneCell hU10.ints
   simp (disch:=try exact DI) only [↓PR,QR,simprocAttr,↓n9c15,(cells_of_heap (f10.obj oD)).1]
   refine callK_ret (Unused_ret _ _ gvD (hdef _ f10) kn_calm) ?_
   rintro _ w11 ⟨⟨u11,rfl,hU11⟩,e11⟩
   have f11:=f10.trans e11
   rw [kn_ed]
   rw [kn_chF] at hU11
   have hu11:=SliceOf.oneCell hU11.ints
   simp (disch:=try exact DI) only [↓PR,QR,simprocAttr,↓n9c14,(cells_of_heap (f11.obj oD)).1]
   refine callK_ret (Path_ret _ _ gvD 0 (hdef _ f11) kn_calm) ?_
   rintro _ w12 ⟨⟨u12,rfl,hU12⟩,e12⟩
   have f12:=f11.trans e12
   rw [kn_p0.2]
   rw [kn_p0.1] at hU12
   have hu12:=SliceOf.oneCell hU12.ints
   simp (disch:=try exact DI) only [↓PR,QR,simprocAttr,↓n9c13,(cells_of_heap (f12.obj oD)).1]
   refine callK_ret (Path_ret _ _ gvD 1 (hdef _ f12) kn_calm) ?_
   rintro _ w13 ⟨⟨u13,rfl,hU13⟩,e13⟩
   have f13:=f12.trans e13
   rw [kn_p1.2]
   rw [kn_p1.1] at hU13
   have hu13:=SliceOf.oneCell hU13.ints
   simp (disch:=try exact DI) only [↓PR,QR,simprocAttr,↓n9c12,(cells_of_heap (f13.obj oD)).1]
   refine callK_ret (Path_ret _ _ gvD 3 (hdef _ f13) kn_calm) ?_
   rintro _ w14 ⟨⟨u14,rfl,_⟩,e14⟩
   have f14:=f13.trans e14
   rw [kn_p3]
   simp (disch:=try exact DI) only [↓PR,QR,simprocAttr,↓n9c11]
   have eY14:Ext w14 (w14.alloc (.cells #[.int .i64 0,.int .i64 1,.int .i64 2] 3)):=ee
   refine zcr (same_ret _ _ _ _ [0,1,2] (RowI.ints (hU10.ext (e11.trans (e12.trans (e13.trans (e14.trans eY14)))))) (fresh_ints w14 [0,1,2] (by decide))) fun w15 e15=>?_
   have f15:=f14.trans (eY14.trans e15)
   simp (disch:=try exact DI) only [↓PR,QR,simprocAttr,↓n9c10,decide_true]
   have eY15:Ext w15 (w15.alloc (.cells #[.int .i64 3] 3)):=ee
   have g15:=eY14.trans (e15.trans eY15)
   refine zcr (same_ret _ _ _ _ [3] (RowI.ints (hU11.ext (e12.trans (e13.trans (e14.trans g15))))) (fresh_ints w15 [3] (by decide))) fun w16 e16=>?_
   have f16:=f15.trans (eY15.trans e16)
   simp (disch:=try exact DI) only [↓PR,QR,simprocAttr,↓n9c9,decide_true]
   have eY16:Ext w16 (w16.alloc (.cells #[.int .i64 2,.int .i64 0] 3)):=ee
   have g16:=g15.trans (e16.trans eY16)
   refine zcr (same_ret _ _ _ _ [2,0] (RowI.ints (hU12.ext (e13.trans (e14.trans g16)))) (fresh_ints w16 [2,0] (by decide))) fun w17 e17=>?_
   have f17:=f16.trans (eY16.trans e17)
   simp (disch:=try exact DI) only [↓PR,QR,simprocAttr,↓n9c8,decide_true]
   have eY17:Ext w17 (w17.alloc (.cells #[.int .i64 2,.int .i64 1] 3)):=ee
   have g17:=g16.trans (e17.trans eY17)
   refine zcr (same_ret _ _ _ _ [2,1] (RowI.ints (hU13.ext (e14.trans g17))) (fresh_ints w17 [2,1] (by decide))) fun w18 e18=>?_
   have f18:=f17.trans (eY17.trans e18)
   simp (disch:=try exact DI) only [↓PR,QR,simprocAttr,↓n9c7,↓n9c6,↓n9c5,↓n9c4,↓n9c3,decide_true]
   exact ⟨by trivial,E1.trans f18⟩
theorem rsized_ret (w0:World) (v:Value) (m:MsgD) (i:Nat) (f:FieldD) (hm:MsgVal w0 v m) (hi:m.fields[i]?=some f) (hd:Dist (m.fields.take i)) (ht:f.terms.length≤1048576):Ret Pg 150 #[v,.int .i64 (i:Int)] w0 fun r w'=>r = .int .i64 (sizedC (numR (m.fields.take i)) f)∧Ext w0 w':=by
 obtain ⟨fv,rfl,hF⟩:=hm
 have hF0:=hF
 refine n32s (R:=retR _) ?_;unfold n32
 simp (disch:=try exact DI) only [↓PR,QR,simprocAttr]
 have hBW:=ElemAt.new (w:=w0) (msgCells m fv) (24)
 have eW:Ext w0 (w0.alloc (Obj.cells (List.toArray (msgCells m fv)) (24))):=(Ext.refl _).alloc _
 generalize (w0.alloc (Obj.cells (List.toArray (msgCells m fv)) (24)))=W at hBW eW ⊢
 obtain ⟨b,o,c,rfl,hlc,hcm,hlm,hil,hel⟩:=open1 hF hi
 obtain ⟨cs,_,hA,hE⟩:=hel i f hi
 obtain ⟨tv,cv,rfl,hT,hC,ht1,hc1⟩:=hE.op
 have hT0:=hT
 obtain ⟨At,ct,rfl,hlct,hcmt,hlmt,helt⟩:=SliceOf.open hT
 have hcA:=hA.c15 eW
 simp (disch:=try exact DI) only [↓PR,QR,simprocAttr,hBW.c2 (Ext.refl W),hcA]
 have hBX:=ElemAt.new (w:=W) ([.int .i64 f.base,.slice At f.terms.length ct]) (45)
 have eX:Ext W (W.alloc (Obj.cells (List.toArray ([.int .i64 f.base,.slice At f.terms.length ct])) (45))):=(Ext.refl _).alloc _
 generalize (W.alloc (Obj.cells (List.toArray ([.int .i64 f.base,.slice At f.terms.length ct])) (45)))=X at hBX eX ⊢
 refine zcr (rSizeValid_ret _ _ f.base f.terms ⟨_,rfl,TermsOf.ext hT0 (eW.trans eX)⟩) fun w1 e1=>?_
 have E1:Ext w0 w1:=eW.trans (eX.trans e1)
 unfold n32c8
 cases hs:sizeB f.base f.terms with
 | false =>
  simp (disch:=try exact DI) only [↓PR,QR,simprocAttr]
  exact ⟨by unfold sizedC;rw [hs];rfl,E1⟩
 | true =>
 obtain ⟨_,h4,_⟩:=terms_names hs
 have hsz:sizedC (numR (m.fields.take i)) f=orC (namesC (numR (m.fields.take i)) f.terms) (needC (lenB f.base f.terms (numR (m.fields.take i))) 9):=by unfold sizedC;rw [hs];rfl
 rw [hsz]
 have hnf:=num_first hd
 generalize hrp:numR (m.fields.take i)=rp at hnf ⊢
 simp (disch:=try exact DI) only [↓PR,QR,simprocAttr]
 refine loop2_intro (fun a b w'=>∃ (k:Nat) (sv:Value),a=sv∧b = .int .i64 k∧k≤f.terms.length∧Ext w1 w'∧OwnE w' w1.heap.size 206 3 ranCells sv (termR rp (f.terms.take k))∧∀ t∈f.terms.take k,(lastR rp t.field).isSome=true) (fun _ b _=>f.terms.length - (intOf b).toNat) ⟨0,_,rfl,rfl,by omega,Ext.refl _,OwnE.nil _ _ _ _ _,by simp⟩ ?_
 rintro sv _ w ⟨k,_,rfl,rfl,hk,e,hO,hin⟩
 have E:=E1.trans e
 have hcX:=hBX.c2 (e1.trans e)
 have hcW:=hBW.c2 (eX.trans (e1.trans e))
 unfold n32c7
 rcases drop_cases hk with ⟨x,hx,hdr,hlt,hdec⟩ | ⟨hk,hdr,hdec⟩
 · obtain ⟨bt,ot,cst,rfl,_,hAt,rfl⟩:=helt k x hx
   simp (disch:=try exact DI) only [↓PR,QR,simprocAttr,hdec,hcX]
   refine drawK_intro ?_
   unfold n32c4
   simp (disch:=try exact DI) only [↓PR,QR,simprocAttr,hcX,hcW,hAt.c2 E]
   refine zcr (rField_ret _ _ m x.field i ⟨_,rfl,hF0.ext ee⟩ (Nat.le_of_lt hil)) fun w2 e2=>?_
   refine ⟨e2,?_⟩
   unfold n32c3
   rcases hnf x.field with ⟨h1,h2⟩ | ⟨kk,g,h1,h2,h3⟩
   · rw [h1]
     simp (disch:=try exact DI) only [↓PR,QR,simprocAttr]
     exact ⟨by rw [namesC_bad (List.mem_of_getElem? hx) h2];rfl,ee⟩
   · have hg:=take_get h2
     have hkk:kk < m.fields.length:=(List.getElem?_eq_some_iff.1 hg).1
     obtain ⟨csg,_,hAg,hEg⟩:=hel kk g hg
     obtain ⟨tg,cg,rfl,hTg,hCg,htg,hcg⟩:=hEg.op
     have f2:Ext w0 w2:=E.drew.trans e2
     have hcg2:=hAg.c15 f2
     have hcW2:=hBW.c2 (eX.trans (e1.trans (e.drew.trans e2)))
     have hcX2:=hBX.c2 (e1.trans (e.drew.trans e2))
     rw [h1]
     simp (disch:=try exact DI) only [↓PR,QR,simprocAttr,show decide ((kk:Int) < 0)=false by simp,hcW2,hcg2]
     refine zcr (rNumber_ret _ _ g ⟨tg,cg,rfl,hTg.ext f2,hCg.ext f2⟩) fun w3 e3=>?_
     have f3:=f2.trans e3
     have hd0:decide ((kk:Int) < 0)=false:=by simp
     cases hn:numberB g with
     | false =>
      rw [hn,if_neg (by simp)] at h3
      simp (disch:=try exact DI) only [↓PR,QR,simprocAttr,hd0]
      exact ⟨by rw [namesC_bad (List.mem_of_getElem? hx) h3];rfl,f3⟩
     | true =>
      rw [hn,if_pos rfl] at h3
      have eW3:Ext w1 w3:=e.drew.trans (e2.trans e3)
      simp (disch:=try exact DI) only [↓PR,QR,simprocAttr,hd0]
      unfold n32c2
      simp (disch:=try exact DI) only [↓PR,QR,simprocAttr,hBW.c2 (eX.trans (e1.trans eW3)),hAg.c15 f3]
      refine zcr (rRange_ret _ _ g ⟨tg,cg,rfl,hTg.ext f3,hCg.ext f3⟩) fun w4 e4=>?_
      have eW4:Ext w1 w4:=eW3.trans e4
      have f4:=f3.trans e4
      unfold n32c1
      simp (disch:=try exact DI) only [↓PR,QR,simprocAttr,hBX.c2 (e1.trans eW4),hAt.c2 f4]
      have hO4:=hO.ext (((((Ext.refl w).drew.trans e2).trans e3).trans e4).alloc (Obj.cells #[.string x.field,.int .i64 g.low,.int .i64 (highOf g)] 206))
      have hlk:(termR rp (f.terms.take k)).length=k:=by unfold termR;rw [List.length_map,List.length_take];omega
      have sw:=eW4.size
      refine append_one Tryz.underlying173 ty206 by206 rfl (by decide) (fun _=>rfl) (x.field,g.low,highOf g) (by simp only [ranCells,List.forall_mem_cons];exact ⟨rfl,rfl,rfl,by simp⟩) hO4 (ElemAt.new _ _) (by simp only [World.size_alloc];omega) (by rw [hlk];omega) ?_
      intro v' w' hO' hext
      have eN:Ext w1 w':=hext w1 (eW4.alloc _) (Nat.le_refl _)
      simp (disch:=try exact DI) only [↓PR,QR,simprocAttr]
      refine ⟨⟨k+1,v',rfl,rfl,by omega,eN,?_,all_take hin hx (by rw [h3];rfl)⟩,meas_lt (kd := .i64) hlt⟩
      have:termR rp (f.terms.take (k+1))=termR rp (f.terms.take k)++[(x.field,g.low,highOf g)]:=by
       unfold termR
       rw [take_snoc hx,List.map_append]
       simp only [List.map_cons,List.map_nil]
       rw [rng_some h3]
      rw [this]
      exact hO'
 · subst hk
   rw [List.take_length] at hO hin
   simp (disch:=try exact DI) only [↓PR,QR,simprocAttr,hdec,hcX]
   have hs3:RansOf w sv (termR rp f.terms):=hO.slice (E:=ERan) (fun _=>rfl) (fun _ _=>rfl)
   have hcon:=iv_congr (base:=f.base) (rp:=termR rp f.terms) (rp':=rp) (ts:=f.terms) fun t ht=>termR_last hin ht
   refine zcr (rInterval_ret _ _ sv f.base f.terms (termR rp f.terms) ⟨_,rfl,hT0.ext E⟩ hs3 (fun t ht=>by rw [termR_last hin ht];exact hin t ht)) fun w2 e2=>?_
   have E2:=E.trans e2
   unfold ivOf
   rw [hcon.1,hcon.2.1,hcon.2.2,namesC_zero hin]
   unfold n32c6
   have hL:(intervalE f.base f.terms rp != 0||decide (intervalL f.base f.terms rp < 0)||decide (1048576 < intervalH f.base f.terms rp))=!lenB f.base f.terms rp:=by
    unfold lenB
    rw [Bool.eq_iff_iff]
    simp only [Bool.or_eq_true,bne_iff_ne,decide_eq_true_eq,Bool.not_eq_true',Bool.and_eq_false_iff,beq_eq_false_iff_ne,decide_eq_false_iff_not]
    omega
   simp (disch:=try exact DI) only [↓PR,QR,simprocAttr,n32c5,hL]
   cases lenB f.base f.terms rp with
   | false=>simp (disch:=try exact DI) only [↓PR,QR,simprocAttr];exact ⟨rfl,E2⟩
   | true=>simp (disch:=try exact DI) only [↓PR,QR,simprocAttr];exact ⟨rfl,E2⟩
theorem within2 {hi n a b:Int}:withinC hi n [a,b]=if a < n∨hi < a∨b < a∨hi < b then 7 else 0:=by
 by_cases h1:a < n<;>by_cases h2:hi < a<;>by_cases h3:b < a<;>by_cases h4:hi < b<;>simp [withinC,needC,orC, *]<;>omega
theorem idx_some {α:Type} {p:α→Bool} {l:List α}:decide (idx p l < 0)=!l.any p:=by
 rw [← idx_neg]
 by_cases h:idx p l < 0
 · have:¬ 0≤idx p l:=by omega
   simp [h,this]
 · have:0≤idx p l:=by omega
   simp [h,this]
theorem rcased_ret (w0:World) (v u:Value) (d:DefD) (n:Nat) (f:FieldD) (lo hi:Int) (deps:List (ByteArray×Int)) (hd:DefVal w0 v d) (hn:n≤d.msgs.length) (hf:FieldVal w0 u f) (hD:∀ s,(lastP deps s).isSome=(d.msgs.take n).any fun m=>decide (m.name=s)) (hlo : -4611686018427387904≤lo) (hhi:hi≤4611686018427387904) :
 Ret Pg 153 #[v,.int .i64 (n:Int),u,.int .i64 lo,.int .i64 hi] w0 fun r w'=>r = .int .i64 (orC (needC (decide (1≤(f.cases.length:Int))&&decide ((f.cases.length:Int)≤40)) 3) (casesL hi (vI deps) lo f.cases))∧Ext w0 w':=by
 obtain ⟨mv,rfl,hM⟩:=hd
 obtain ⟨tv,cv,rfl,hT,hC,ht1,hc1⟩:=hf.op
 refine n27s (R:=retR _) ?_;unfold n27
 rw [op_boxA]
 have hBW:=ElemAt.new (w:=w0) (defCells d mv) (28)
 have eW:Ext w0 (w0.alloc (Obj.cells (List.toArray (defCells d mv)) (28))):=(Ext.refl _).alloc _
 generalize (w0.alloc (Obj.cells (List.toArray (defCells d mv)) (28)))=W at hBW eW ⊢
 rw [op_boxA]
 have hBX:=ElemAt.new (w:=W) (fieldCells f tv cv) (48)
 have eX:Ext W (W.alloc (Obj.cells (List.toArray (fieldCells f tv cv)) (48))):=(Ext.refl _).alloc _
 generalize (W.alloc (Obj.cells (List.toArray (fieldCells f tv cv)) (48)))=X at hBX eX ⊢
 obtain ⟨A,c,rfl,hlc,hcm,hlm,hel⟩:=SliceOf.open hC
 have hcX:=hBX.c15 (Ext.refl X)
 simp (disch:=try exact DI) only [↓PR,QR,Int.reduceBEq,Int.reduceBNe,Int.reduceLT,Int.reduceLE,Int.reduceGT,Int.reduceGE,Int.reduceNeg,hcX]
 have hlen:(decide ((f.cases.length:Int) < 1)||decide (40 < (f.cases.length:Int)))=!(decide (1≤(f.cases.length:Int))&&decide ((f.cases.length:Int)≤40)):=by
  rw [Bool.eq_iff_iff];simp only [Bool.or_eq_true,decide_eq_true_eq,Bool.not_eq_true',Bool.and_eq_false_iff,decide_eq_false_iff_not];omega
 rw [hlen]
 have EX:Ext w0 X:=eW.trans eX
 cases hl:(decide (1≤(f.cases.length:Int))&&decide ((f.cases.length:Int)≤40)) with
 | false=>simp (disch:=try exact DI) only [↓PR,QR,simprocAttr];exact ⟨rfl,EX⟩
 | true =>
 simp (disch:=try exact DI) only [↓PR,QR,Int.reduceBEq,Int.reduceBNe,Int.reduceLT,Int.reduceLE,Int.reduceGT,Int.reduceGE,Int.reduceNeg]
 refine loop1_intro (fun a w'=>∃ (k:Nat) (b:Int),a = .int .i64 k∧k≤f.cases.length∧Ext X w'∧casesL hi (vI deps) b (f.cases.drop k)=casesL hi (vI deps) lo f.cases∧lo≤b∧(k=0→b=lo)∧∀ j p,k=j+1→f.cases[j]?=some p→b=p.high+1) (fun b _=>f.cases.length - (intOf b).toNat) ⟨0,lo,rfl,by omega,Ext.refl _,rfl,Int.le_refl _,fun _=>rfl,fun j p h=>by omega⟩ ?_
 rintro _ w ⟨k,b,rfl,hk,e,hI,hb0,hb1,hb2⟩
 have hcX:=hBX.c15 e
 have E:=EX.trans e
 unfold n27c9
 rcases drop_cases hk with ⟨x,hx,hdr,hlt,hdec⟩ | ⟨hk,hdr,hdec⟩
 ·
  simp (disch:=try exact DI) only [↓PR,QR,Int.reduceBEq,Int.reduceBNe,Int.reduceLT,Int.reduceLE,Int.reduceGT,Int.reduceGE,Int.reduceNeg,hdec,hcX]
  obtain ⟨bc,oc,cc,hA,_,_,_,_,hel2⟩:=open1 hC hx
  injection hA with hA _ _
  subst hA
  obtain ⟨csc,_,hAc,rfl⟩:=hel2 k x hx
  have hcx:=hAc.c3 E
  unfold n27c8
  simp (disch:=try exact DI) only [↓PR,QR,Int.reduceBEq,Int.reduceBNe,Int.reduceLT,Int.reduceLE,Int.reduceGT,Int.reduceGE,Int.reduceNeg,hcX,hcx]
  have hBY:=ElemAt.new (w:=w) (caseCells x) (60)
  have eY:Ext w (w.alloc (Obj.cells (List.toArray (caseCells x)) (60))):=(Ext.refl _).alloc _
  generalize (w.alloc (Obj.cells (List.toArray (caseCells x)) (60)))=Y at hBY eY ⊢
  have hcY:=hBY.c3 (Ext.refl Y)
  have hcW:=hBW.c3 (eX.trans (e.trans eY))
  have EY:Ext w0 Y:=E.trans eY
  refine drawK_intro ?_
  rw [hdr] at hI
  simp only [casesL,within2] at hI
  have hI7:(x.low < b∨hi < x.low∨x.high < x.low∨hi < x.high)→casesL hi (vI deps) lo f.cases=7:=fun h=>by rw [← hI,if_pos h];rfl
  have hI0:¬ (x.low < b∨hi < x.low∨x.high < x.low∨hi < x.high)→orC (needC (lastOf (vI deps) x.of).isSome 8) (casesL hi (vI deps) (x.high+1) (f.cases.drop (k+1)))=casesL hi (vI deps) lo f.cases:=fun h=>by
   rw [← hI,if_neg h,wrap_ok (by omega) (by omega)];rfl
  clear hI
  unfold n27c7
  rcases k with _ | k'
  case' zero =>
   have hb:=hb1 rfl
   subst hb
   simp (disch:=try exact DI) only [↓PR,QR,Int.reduceBEq,Int.reduceBNe,Int.reduceLT,Int.reduceLE,Int.reduceGT,Int.reduceGE,Int.reduceNeg,hcY,hcX,↓n27c1,↓n27c2,↓n27c3,↓n27c4,↓n27c5,↓n27c6,↓n27c7,↓n27c8,↓n27c9,show decide ((0:Int) < ((0:Nat):Int))=false by decide]
   refine guard_cases (fun hg=>?_) (fun hg=>?_)
   all_goals simp (disch:=try exact DI) only [↓PR,QR,Int.reduceBEq,Int.reduceBNe,Int.reduceLT,Int.reduceLE,Int.reduceGT,Int.reduceGE,Int.reduceNeg,hg,hcW,hcY,↓n27c1,↓n27c2,↓n27c3,↓n27c4,↓n27c5,↓n27c6,↓n27c7,↓n27c8,↓n27c9]
   all_goals simp only [Bool.or_eq_true,Bool.or_eq_false_iff,decide_eq_true_eq,decide_eq_false_iff_not] at hg
   · exact ⟨by rw [hI7 (by omega)];rfl,EY.drew⟩
   have hI0:=hI0 (by omega)
  case' succ =>
   obtain ⟨p,hp⟩:=getElem?_lt (l:=f.cases) (k:=k') (by omega)
   have hb:=hb2 k' p rfl hp
   subst hb
   obtain ⟨csp,_,hAp,rfl⟩:=hel2 k' p hp
   have hcp:=hAp.c3 EY
   simp (disch:=try exact DI) only [↓PR,QR,Int.reduceBEq,Int.reduceBNe,Int.reduceLT,Int.reduceLE,Int.reduceGT,Int.reduceGE,Int.reduceNeg,hcY,hcp,hBX.c15 (e.trans eY),↓n27c1,↓n27c2,↓n27c3,↓n27c4,↓n27c5,↓n27c6,↓n27c7,↓n27c8,↓n27c9,show decide ((0:Int) < ((k'+1:Nat):Int))=true by simp only [decide_eq_true_eq];omega,show IntKind.i64.wrap (((k'+1:Nat):Int) - 1)=(k':Int) by rw [wrap_ok (by omega) (by omega)];omega]
   refine guard_cases (fun hg=>?_) (fun hg=>?_)
   all_goals simp (disch:=try exact DI) only [↓PR,QR,Int.reduceBEq,Int.reduceBNe,Int.reduceLT,Int.reduceLE,Int.reduceGT,Int.reduceGE,Int.reduceNeg,hg,hcW,hcY,↓n27c1,↓n27c2,↓n27c3,↓n27c4,↓n27c5,↓n27c6,↓n27c7,↓n27c8,↓n27c9]
   all_goals simp only [Bool.or_eq_true,Bool.or_eq_false_iff,decide_eq_true_eq,decide_eq_false_iff_not] at hg
   · exact ⟨by rw [hI7 (by omega)];rfl,EY.drew⟩
   refine cond_cases (fun hg2=>⟨_,rfl,by simp only [decide_eq_true_eq] at hg2;rw [hI7 (by omega)];rfl,EY.drew⟩) (fun hg2=>?_)
   simp only [decide_eq_false_iff_not] at hg2
   have hI0:=hI0 (by omega)
   simp (disch:=try exact DI) only [↓PR,QR,Int.reduceBEq,Int.reduceBNe,Int.reduceLT,Int.reduceLE,Int.reduceGT,Int.reduceGE,Int.reduceNeg,hcW,hcY,↓n27c1,↓n27c2,↓n27c3,↓n27c4,↓n27c5,↓n27c6,↓n27c7,↓n27c8,↓n27c9]
  all_goals
   refine zcr (rFind_ret _ _ d x.of n ⟨_,rfl,hM.ext EY.drew⟩ hn) fun w2 e2=>?_
   have e3:Ext X w2:=(e.trans eY).drew.trans e2
   rw [lastOf_vI,Option.isSome_map,hD] at hI0
   have hdi:=idx_some (p:=fun m:MsgD=>decide (m.name=x.of)) (l:=d.msgs.take n)
   cases hs:(d.msgs.take n).any (fun m=>decide (m.name=x.of)) with
   | false =>
    rw [hs] at hI0 hdi
    simp (disch:=try exact DI) only [↓PR,QR,Int.reduceBEq,Int.reduceBNe,Int.reduceLT,Int.reduceLE,Int.reduceGT,Int.reduceGE,Int.reduceNeg,hdi,↓n27c1,↓n27c2,↓n27c3,↓n27c4,↓n27c5,↓n27c6,↓n27c7,↓n27c8,↓n27c9]
    exact ⟨by rw [← hI0];rfl,EX.trans e3⟩
   | true =>
    rw [hs] at hI0 hdi
    simp (disch:=try exact DI) only [↓PR,QR,Int.reduceBEq,Int.reduceBNe,Int.reduceLT,Int.reduceLE,Int.reduceGT,Int.reduceGE,Int.reduceNeg,hdi,↓n27c1,↓n27c2,↓n27c3,↓n27c4,↓n27c5,↓n27c6,↓n27c7,↓n27c8,↓n27c9]
    exact ⟨⟨_,x.high+1,rfl,hlt,e3,hI0,by omega,fun h=>by omega,fun j p h hp=>by injection h with h;subst h;rw [hx] at hp;injection hp with hp;subst hp;rfl⟩,meas_lt (kd := .i64) hlt⟩
 · rw [hdr] at hI
   simp (disch:=try exact DI) only [↓PR,QR,Int.reduceBEq,Int.reduceBNe,Int.reduceLT,Int.reduceLE,Int.reduceGT,Int.reduceGE,Int.reduceNeg,hdec,hcX]
   exact ⟨by rw [← hI];rfl,E⟩
def DistM (l:List MsgD):Prop:=l.Pairwise fun a b=>a.name≠b.name
theorem keys_strs:∀ (l:List MsgD) (a:List (ByteArray×Bool)),(l.foldl stepS a).map (·.1)=a.map (·.1)++l.map (·.name)
 | [],a=>by simp
 | m::l,a=>by rw [List.foldl_cons,keys_strs l,stepS,List.map_append];simp
theorem keys_deps:∀ (l:List MsgD) (a:List (ByteArray×Int)),(l.foldl stepD a).map (·.1)=a.map (·.1)++l.map (·.name)
 | [],a=>by simp
 | m::l,a=>by rw [List.foldl_cons,keys_deps l,stepD,List.map_append];simp
theorem first_last {β:Type} {ps:List (ByteArray×β)} {l:List MsgD} (hp:ps.map (·.1)=l.map (·.name)) (hd:DistM l) (s:ByteArray):(idx (fun m:MsgD=>decide (m.name=s)) l = -1∧lastP ps s=none)∨∃ (k:Nat) (b:β),idx (fun m:MsgD=>decide (m.name=s)) l=k∧k < l.length∧ps[k]?=some (s,b)∧lastP ps s=some b:=by
 have hlen:ps.length=l.length:=by simpa using congrArg List.length hp
 have hk:∀ (k:Nat) (m:MsgD),l[k]?=some m→∃ b,ps[k]?=some (m.name,b):=by
  intro k m hm
  obtain ⟨q,hq⟩:=getElem?_lt (l:=ps) (k:=k) (by rw [hlen];exact (List.getElem?_eq_some_iff.1 hm).1)
  have:=congrArg (fun x=>x[k]?) hp
  simp only [List.getElem?_map,hm,hq,Option.map_some] at this
  injection this with this
  exact ⟨q.2,by rw [hq,← this]⟩
 have hin:∀ q∈ps,∃ (k:Nat) (m:MsgD),l[k]?=some m∧ps[k]?=some q∧m.name=q.1:=by
  intro q hq
  obtain ⟨k,hkq⟩:=List.getElem?_of_mem hq
  obtain ⟨m,hm⟩:=getElem?_lt (l:=l) (k:=k) (by rw [← hlen];exact (List.getElem?_eq_some_iff.1 hkq).1)
  obtain ⟨b,hb⟩:=hk k m hm
  rw [hkq] at hb
  injection hb with hb
  exact ⟨k,m,hm,hkq,by rw [hb]⟩
 have hone:∀ (k j:Nat) (a b:MsgD),l[k]?=some a→l[j]?=some b→a.name=b.name→k=j:=by
  intro k j a b ha hb hn
  obtain ⟨h1,ha'⟩:=List.getElem?_eq_some_iff.1 ha
  obtain ⟨h2,hb'⟩:=List.getElem?_eq_some_iff.1 hb
  have hpw:=List.pairwise_iff_getElem.1 hd
  rcases Nat.lt_trichotomy k j with h | h | h
  · have:=hpw k j h1 h2 h;rw [ha',hb'] at this;exact absurd hn this
  · exact h
  · have:=hpw j k h2 h1 h;rw [ha',hb'] at this;exact absurd hn.symm this
 unfold idx
 cases h:l.findIdx? (fun m=>decide (m.name=s)) with
 | none =>
  rw [List.findIdx?_eq_none_iff] at h
  refine .inl ⟨rfl,?_⟩
  cases hl:lastP ps s with
  | none=>rfl
  | some b =>
   obtain ⟨k,m,h1,_,h3⟩:=hin _ (lastP_mem hl)
   simpa [h3] using h m (List.mem_of_getElem? h1)
 | some k =>
  obtain ⟨hkl,hpk,_⟩:=List.findIdx?_eq_some_iff_getElem.1 h
  simp only [decide_eq_true_eq] at hpk
  obtain ⟨b,hb⟩:=hk k _ (List.getElem?_eq_getElem hkl)
  rw [hpk] at hb
  refine .inr ⟨k,b,rfl,hkl,hb,?_⟩
  cases hl:lastP ps s with
  | none =>
   have hmem:=List.mem_of_getElem? hb
   unfold lastP at hl
   rw [Option.map_eq_none_iff,List.find?_eq_none] at hl
   exact absurd (hl (s,b) (List.mem_reverse.2 hmem)) (by simp)
  | some b' =>
   obtain ⟨j,m,h1,h2,h3⟩:=hin _ (lastP_mem hl)
   have:=hone k j _ m (List.getElem?_eq_getElem hkl) h1 (hpk.trans h3.symm)
   subst this
   rw [hb] at h2
   injection h2 with h2
   injection h2 with _ h2
   rw [h2]
abbrev boolEnc (b:Bool):List Value:=[.bool b]
abbrev OwnB (w:World) (base:Nat) (v:Value) (l:List Bool):Prop:=OwnE w base 4 1 boolEnc v l
theorem keysS (l:List MsgD):(strsOf l).map (·.1)=l.map (·.name):=by unfold strsOf;rw [keys_strs];rfl
theorem keysD (l:List MsgD):(depsOf l).map (·.1)=l.map (·.name):=by unfold depsOf;rw [keys_deps];rfl
def RefsIn (l:List MsgD) (n:Nat):Prop:=∀ (k:Nat) (m:MsgD),k < n→l[k]?=some m→∀ s∈refsL m,((l.take k).any fun m=>decide (m.name=s))=true
theorem rStricts_ret (w0:World) (v:Value) (d:DefD) (n:Nat) (hd:DefVal w0 v d) (hn:n≤d.msgs.length) (hN:DistM (d.msgs.take n)) (hR:RefsIn d.msgs n) (hb:∀ m∈d.msgs,(allRefs m.fields).length≤1048576) (hn1:n≤1048576) :
 Ret Pg 154 #[v,.int .i64 (n:Int)] w0 fun r w'=>SliceOf w' 1 EBool r ((strsOf (d.msgs.take n)).map (·.2))∧Ext w0 w':=by
 obtain ⟨mv,rfl,hM⟩:=hd
 refine n25s (R:=retR _) ?_;unfold n25
 rw [op_boxA]
 have hBW:=ElemAt.new (w:=w0) (defCells d mv) (28)
 have eW:Ext w0 (w0.alloc (Obj.cells (List.toArray (defCells d mv)) (28))):=(Ext.refl _).alloc _
 generalize (w0.alloc (Obj.cells (List.toArray (defCells d mv)) (28)))=W at hBW eW ⊢
 refine loop2_intro (fun a b w'=>∃ k:Nat,b = .int .i64 k∧k≤n∧Ext W w'∧OwnB w' W.heap.size a ((strsOf (d.msgs.take k)).map (·.2))) (fun _ b _=>n - (intOf b).toNat) ⟨0,rfl,by omega,Ext.refl _,OwnE.nil _ _ _ _ _⟩ ?_
 rintro out _ w ⟨k,rfl,hk,e,hO⟩
 have E:=eW.trans e
 unfold n25c8
 by_cases hkn:k < n
 · have d1:decide ((k:Int) < (n:Int))=true:=by simp only [decide_eq_true_eq];omega
   obtain ⟨m,hm⟩:=getElem?_lt (l:=d.msgs) (k:=k) (by omega)
   have hM0:=hM
   obtain ⟨bm,om,cm,rfl,hlc,hcm,hlm,hkl,hel⟩:=open1 hM hm
   obtain ⟨csm,_,hAm,hEm⟩:=hel k m hm
   obtain ⟨fv,rfl,hF⟩:=hEm
   have hF0:=hF
   obtain ⟨Af,cf,rfl,hlf,hcf,hlmf,helf⟩:=SliceOf.open hF
   simp (disch:=try exact DI) only [↓PR,QR,simprocAttr,d1]
   refine loop2_intro (fun a b w'=>∃ i:Nat,a = .bool ((m.fields.take i).all fun f=>!f.loose)∧b = .int .i64 i∧i≤m.fields.length∧Ext w w') (fun _ b _=>m.fields.length - (intOf b).toNat) ⟨0,by simp,rfl,by omega,Ext.refl _⟩ ?_
   rintro _ _ w2 ⟨i,rfl,rfl,hi,e2⟩
   have hcW:=hBW.c3 (e.trans e2)
   have hcm2:=hAm.c2 (E.trans e2)
   unfold n25c7
   rcases drop_cases hi with ⟨x,hx,hdr,hlt,hdec⟩ | ⟨hi,hdr,hdec⟩
   · have hall:((m.fields.take (i+1)).all fun f=>!f.loose)=(((m.fields.take i).all fun f=>!f.loose)&&!x.loose):=by rw [take_snoc hx,List.all_append];simp
     obtain ⟨bf,of,csf,rfl,_,hAf,hEf⟩:=helf i x hx
     obtain ⟨tf,cf',rfl,hTf,hCf,_,_⟩:=hEf.op
     have hcf:=hAf.c15 (E.trans e2)
     simp (disch:=try exact DI) only [↓PR,QR,simprocAttr,hcW,hcm2,hdec]
     unfold n25c6
     cases hs:(m.fields.take i).all (fun f=>!f.loose) with
     | false =>
      rw [hs] at hall
      simp (disch:=try exact DI) only [↓PR,QR,simprocAttr]
      exact ⟨⟨i+1,by rw [hall];rfl,rfl,hlt,e2⟩,meas_lt (kd := .i64) hlt⟩
     | true =>
      rw [hs] at hall
      simp (disch:=try exact DI) only [↓PR,QR,simprocAttr,hcW,hcm2,hcf,n25c1]
      exact ⟨⟨i+1,by rw [hall];rfl,rfl,hlt,e2⟩,meas_lt (kd := .i64) hlt⟩
   · subst hi
     rw [List.take_length]
     simp (disch:=try exact DI) only [↓PR,QR,simprocAttr,hcW,hcm2,hdec]
     unfold n25c5
     simp (disch:=try exact DI) only [↓PR,QR,simprocAttr,hcW,hcm2]
     refine callK_ret (rRefers_ret _ _ m ⟨_,rfl,hF0.ext (E.trans e2)⟩ (hb m (List.mem_of_getElem? hm))) ?_
     rintro rv w3 ⟨hS,e3⟩
     have e23:=e2.trans e3
     have hSl:=hS.slice (E:=EStr) (fun _=>rfl) (fun _ _=>rfl)
     obtain ⟨Ar,cr,rfl,hlr,hcr,hlmr,helr⟩:=SliceOf.open hSl
     have hsM:strictM (strsOf (d.msgs.take k)) m=((m.fields.all fun f=>!f.loose)&&(refsL m).all fun s=>(lastP (strsOf (d.msgs.take k)) s).getD false):=rfl
     generalize hA:(m.fields.all fun f=>!f.loose)=A0 at hsM ⊢
     have hDk:DistM (d.msgs.take k):=by
      have:=List.Pairwise.sublist (List.take_sublist k (d.msgs.take n)) hN
      rwa [List.take_take,Nat.min_eq_left (by omega)] at this
     refine loop2_intro (fun a b w'=>∃ j:Nat,a = .bool (A0&&((refsL m).take j).all fun s=>(lastP (strsOf (d.msgs.take k)) s).getD false)∧b = .int .i64 j∧j≤(refsL m).length∧Ext w3 w') (fun _ b _=>(refsL m).length - (intOf b).toNat) ⟨0,by simp,rfl,by omega,Ext.refl _⟩ ?_
     rintro _ _ w4 ⟨j,rfl,rfl,hj,e4⟩
     have e24:=e23.trans e4
     unfold n25c4
     rcases drop_cases hj with ⟨s,hx,hdr,hlt,hdec⟩ | ⟨hj,hdr,hdec⟩
     · obtain ⟨bs,os,css,rfl,_,hAs,rfl⟩:=helr j s hx
       have hall:(A0&&((refsL m).take (j+1)).all fun s=>(lastP (strsOf (d.msgs.take k)) s).getD false)=((A0&&((refsL m).take j).all fun s=>(lastP (strsOf (d.msgs.take k)) s).getD false)&&(lastP (strsOf (d.msgs.take k)) s).getD false):=by rw [take_snoc hx,List.all_append];simp [Bool.and_assoc]
       simp (disch:=try exact DI) only [↓PR,QR,simprocAttr,hdec]
       refine drawK_intro ?_
       unfold n25c2
       generalize (A0&&((refsL m).take j).all fun s=>(lastP (strsOf (d.msgs.take k)) s).getD false)=B at hall ⊢
       cases B with
       | false =>
        simp (disch:=try exact DI) only [↓PR,QR,simprocAttr]
        exact ⟨⟨j+1,by rw [hall];rfl,rfl,hlt,e4.drew⟩,meas_lt (kd := .i64) hlt⟩
       | true =>
        simp (disch:=try exact DI) only [↓PR,QR,simprocAttr,hBW.c3 (e.trans e24),hAs.c1 e4]
        refine zcr (rFind_ret _ _ d s k ⟨_,rfl,hM0.ext (E.trans e24).drew⟩ (by omega)) fun w5 e5=>?_
        refine ⟨e5,?_⟩
        have hex:=hR k m hkn hm s (List.mem_of_getElem? hx)
        rcases first_last (keysS (d.msgs.take k)) hDk s with ⟨h1,_⟩ | ⟨q,b,h1,h2,h3,h4⟩
        · have:=idx_neg (p:=fun m:MsgD=>decide (m.name=s)) (l:=d.msgs.take k)
          rw [hex,h1] at this
          exact absurd this (by decide)
        · rw [h1]
          have hO4:=(hO.ext e24).slice (E:=EBool) (fun _=>rfl) (fun _ _=>rfl)
          have hq:((strsOf (d.msgs.take k)).map (·.2))[q]?=some b:=by rw [List.getElem?_map,h3];rfl
          obtain ⟨bo,oo,co,rfl,_,_,_,hql,helo⟩:=open1 hO4 hq
          obtain ⟨cso,_,hAo,rfl⟩:=helo q b hq
          rw [h4] at hall
          simp (disch:=try exact DI) only [↓PR,QR,simprocAttr,hAo.c1 (Ext.refl _)]
          exact ⟨⟨j+1,by rw [hall];rfl,rfl,hlt,e4.drew.trans e5⟩,meas_lt (kd := .i64) hlt⟩
     · subst hj
       rw [List.take_length,← hsM]
       simp (disch:=try exact DI) only [↓PR,QR,simprocAttr,hdec]
       unfold n25c3
       simp (disch:=try exact DI) only [↓PR,QR,simprocAttr]
       have sw:=e24.size
       have s0:=e.size
       have hlk:((strsOf (d.msgs.take k)).map (·.2)).length=k:=by
        have:=congrArg List.length (keysS (d.msgs.take k))
        simp only [List.length_map,List.length_take] at this ⊢
        omega
       refine append_one Tryz.underlying93 ty4 by4 rfl (by decide) (fun _=>rfl) (strictM (strsOf (d.msgs.take k)) m) (by simp only [boolEnc,List.forall_mem_cons];exact ⟨rfl,by simp⟩) (hO.ext (e24.alloc (Obj.cells #[.bool (strictM (strsOf (d.msgs.take k)) m)] 4))) (ElemAt.new _ _) (by simp only [World.size_alloc];omega) (by rw [hlk];omega) ?_
       intro v' w' hO' hext
       have eN:Ext W w':=hext W ((e.trans e24).alloc _) (Nat.le_refl _)
       simp (disch:=try exact DI) only [↓PR,QR,simprocAttr]
       refine ⟨⟨k+1,rfl,by omega,eN,?_⟩,meas_lt (kd := .i64) hkn⟩
       rw [take_snoc hm,strs_snoc,List.map_append]
       exact hO'
 · have hke:k=n:=by omega
   subst hke
   have d1:decide ((k:Int) < (k:Int))=false:=by simp
   simp (disch:=try exact DI) only [↓PR,QR,simprocAttr,d1]
   exact ⟨hO.slice (fun _=>rfl) (fun _ _=>rfl),E⟩
def n30c1 (t8 t52 t56:Value) (K2:World→Prop) (R:RT) (w:World):Prop :=
 pickK t52 (.bool true) t56 fun t57 =>
 joinK (fun (t61:Value) (w:World) =>
 pickK t57 (.bool true) t61 fun t62 =>
 condP t62 (
 R (.returned (.int .i64 7)) w) (
 K2 w)) fun K5 =>
 guardP t57 false (
 F0 48 t8 6 R w fun t59 w =>
 L0 3 t59 R w fun t60 w =>
 B0 .gtr 3 true t60 (.int .i64 1048576) R w fun t61 w =>
 K5 t61 w) (
 K5 undef w)
def n30c2 (t8 t47 t51:Value) (K2:World→Prop) (R:RT) (w:World):Prop :=
 pickK t47 (.bool true) t51 fun t52 =>
 joinK (fun (t56:Value) (w:World) =>
 n30c1 t8 t52 t56 K2 R w) fun K4 =>
 guardP t52 false (
 F0 48 t8 6 R w fun t54 w =>
 L0 3 t54 R w fun t55 w =>
 B0 .lss 3 true t55 (.int .i64 0) R w fun t56 w =>
 K4 t56 w) (
 K4 undef w)
def n30c3 (t2 t7 t79:Value) (R:RT) (w:World):Prop :=
 B0 .lss 3 true t79 (.int .i64 0) R w fun t80 w =>
 condP t80 (
 R (.returned (.int .i64 8)) w) (
 L0 24 t7 R w fun t81 w =>
 C0 150 #[t81,t2] R w fun t83 w =>
 R (.returned t83) w)
def n30c4 (t1 t3 t8 t123:Value) (R:RT) (w:World):Prop :=
 opV Pg (Instr.extract t123 0) (panK R) w fun t124 w =>
 opV Pg (Instr.extract t123 1) (panK R) w fun t125 w =>
 L0 28 t3 R w fun t126 w =>
 L0 48 t8 R w fun t128 w =>
 C0 153 #[t126,t1,t128,t124,t125] R w fun t131 w =>
 R (.returned t131) w
def n30c5 (t1 t3 t7 t8 t98:Value) (R:RT) (w:World):Prop :=
 F0 24 t7 1 R w fun t118 w =>
 L0 22 t118 R w fun t119 w =>
 X0 22 t119 t98 R w fun t121 w =>
 L0 48 t121 R w fun t122 w =>
 C0 152 #[t122] R w fun t123 w =>
 n30c4 t1 t3 t8 t123 R w
def n30c6 (t1 t2 t3 t7 t8 t98 t100 t108:Value) (R:RT) (w:World):Prop :=
 pickK t100 (.bool true) t108 fun t109 =>
 joinK (fun (t115:Value) (w:World) =>
 pickK t109 (.bool true) t115 fun t116 =>
 condP t116 (
 R (.returned (.int .i64 8)) w) (
 n30c5 t1 t3 t7 t8 t98 R w)) fun K8 =>
 guardP t109 false (
 L0 24 t7 R w fun t111 w =>
 F0 48 t8 9 R w fun t112 w =>
 L0 9 t112 R w fun t113 w =>
 C0 151 #[t111,t113,t2] R w fun t115 w =>
 K8 t115 w) (
 K8 undef w)
def n30c7 (t1 t2 t3 t7 t8 t98:Value) (R:RT) (w:World):Prop :=
 B0 .lss 3 true t98 (.int .i64 0) R w fun t100 w =>
 joinK (fun (t108:Value) (w:World) =>
 n30c6 t1 t2 t3 t7 t8 t98 t100 t108 R w) fun K7 =>
 guardP t100 false (
 F0 24 t7 1 R w fun t102 w =>
 L0 22 t102 R w fun t103 w =>
 X0 22 t103 t98 R w fun t105 w =>
 L0 48 t105 R w fun t106 w =>
 C0 47 #[t106] R w fun t107 w =>
 opV Pg (Op.unary .not t107) (panK R) w fun t108 w =>
 K7 t108 w) (
 K7 undef w)
def n30c8 (t141 t151 t155:Value) (K2:World→Prop) (R:RT) (w:World):Prop :=
 joinK (fun (t156:Value) (w:World) =>
 pickK t141 t156 (.bool false) fun t157 =>
 condP t157 (
 R (.returned (.int .i64 6)) w) (
 K2 w)) fun K14 =>
 guardP t141 true (
 pickK t151 (.bool true) t155 fun t156 =>
 K14 t156 w) (
 K14 undef w)
def n30c9 (t8 t141 t151:Value) (K2:World→Prop) (R:RT) (w:World):Prop :=
 joinK (fun (t155:Value) (w:World) =>
 n30c8 t141 t151 t155 K2 R w) fun K13 =>
 guardP t151 false (
 F0 48 t8 2 R w fun t152 w =>
 L0 3 t152 R w fun t153 w =>
 B0 .rem 3 true t153 (.int .i64 8) R w fun t154 w =>
 B0 .neq 3 true t154 (.int .i64 0) R w fun t155 w =>
 K13 t155 w) (
 K13 undef w)
def n30c10 (t8 t141 t146:Value) (K2:World→Prop) (R:RT) (w:World):Prop :=
 joinK (fun (t149:Value) (w:World) =>
 joinK (fun (t151:Value) (w:World) =>
 n30c9 t8 t141 t151 K2 R w) fun K12 =>
 guardP t141 true (
 pickK t146 (.bool true) t149 fun t150 =>
 K12 t150 w) (
 K12 undef w)) fun K11 =>
 guardP t146 false (
 F0 48 t8 2 R w fun t147 w =>
 L0 3 t147 R w fun t148 w =>
 B0 .gtr 3 true t148 (.int .i64 512) R w fun t149 w =>
 K11 t149 w) (
 K11 undef w)
def n30c11 (t8 t136 t140:Value) (K2:World→Prop) (R:RT) (w:World):Prop :=
 pickK t136 t140 (.bool false) fun t141 =>
 joinK (fun (t146:Value) (w:World) =>
 n30c10 t8 t141 t146 K2 R w) fun K10 =>
 guardP t141 true (
 F0 48 t8 2 R w fun t143 w =>
 L0 3 t143 R w fun t144 w =>
 B0 .lss 3 true t144 (.int .i64 8) R w fun t145 w =>
 K10 t145 w) (
 K10 undef w)
def n30c12 (t2 t7 t8:Value) (K2:World→Prop) (R:RT) (w:World):Prop :=
 L0 24 t7 R w fun t168 w =>
 F0 48 t8 10 R w fun t169 w =>
 L0 9 t169 R w fun t170 w =>
 C0 45 #[t168,t170,t2] R w fun t172 w =>
 B0 .lss 3 true t172 (.int .i64 0) R w fun t173 w =>
 condP t173 (
 R (.returned (.int .i64 8)) w) (
 K2 w)
def n30c13 (t2 t7 t190 t198:Value) (R:RT) (w:World):Prop :=
 pickK t190 (.bool true) t198 fun t199 =>
 condP t199 (
 R (.returned (.int .i64 8)) w) (
 L0 24 t7 R w fun t200 w =>
 C0 150 #[t200,t2] R w fun t202 w =>
 R (.returned t202) w)
def n30c14 (t188 t194:Value) (K17:KV) (R:RT) (w:World):Prop :=
 X0 93 t194 t188 R w fun t196 w =>
 L0 4 t196 R w fun t197 w =>
 opV Pg (Op.unary .not t197) (panK R) w fun t198 w =>
 K17 t198 w
def n30c15 (t1 t2 t3 t7 t188:Value) (R:RT) (w:World):Prop :=
 B0 .lss 3 true t188 (.int .i64 0) R w fun t190 w =>
 joinK (fun (t198:Value) (w:World) =>
 n30c13 t2 t7 t190 t198 R w) fun K17 =>
 guardP t190 false (
 L0 28 t3 R w fun t192 w =>
 C0 154 #[t192,t1] R w fun t194 w =>
 n30c14 t188 t194 K17 R w) (
 K17 undef w)
def n30c16 (t1 t2 t3 t7 t8:Value) (R:RT) (w:World):Prop :=
 L0 28 t3 R w fun t184 w =>
 F0 48 t8 8 R w fun t185 w =>
 L0 9 t185 R w fun t186 w =>
 C0 53 #[t184,t186,t1] R w fun t188 w =>
 n30c15 t1 t2 t3 t7 t188 R w
def n30c17 (t1 t2 t3 t7 t8:Value) (R:RT) (w:World):Prop :=
 F0 48 t8 13 R w fun t176 w =>
 L0 3 t176 R w fun t177 w =>
 B0 .lss 3 true t177 (.int .i64 0) R w fun t178 w =>
 joinK (fun (t182:Value) (w:World) =>
 pickK t178 (.bool true) t182 fun t183 =>
 condP t183 (
 R (.returned (.int .i64 7)) w) (
 n30c16 t1 t2 t3 t7 t8 R w)) fun K16 =>
 guardP t178 false (
 F0 48 t8 13 R w fun t180 w =>
 L0 3 t180 R w fun t181 w =>
 B0 .gtr 3 true t181 (.int .i64 4294967295) R w fun t182 w =>
 K16 t182 w) (
 K16 undef w)
def n30c18 (t2 t7 t8:Value) (K2:World→Prop) (R:RT) (w:World):Prop :=
 F0 48 t8 12 R w fun t160 w =>
 L0 3 t160 R w fun t161 w =>
 B0 .lss 3 true t161 (.int .i64 1) R w fun t162 w =>
 joinK (fun (t166:Value) (w:World) =>
 pickK t162 (.bool true) t166 fun t167 =>
 condP t167 (
 R (.returned (.int .i64 7)) w) (
 n30c12 t2 t7 t8 K2 R w)) fun K15 =>
 guardP t162 false (
 F0 48 t8 12 R w fun t164 w =>
 L0 3 t164 R w fun t165 w =>
 B0 .gtr 3 true t165 (.int .i64 3) R w fun t166 w =>
 K15 t166 w) (
 K15 undef w)
def n30c19 (t8:Value) (K2:World→Prop) (R:RT) (w:World):Prop :=
 F0 48 t8 2 R w fun t134 w =>
 L0 3 t134 R w fun t135 w =>
 B0 .neq 3 true t135 (.int .i64 2) R w fun t136 w =>
 joinK (fun (t140:Value) (w:World) =>
 n30c11 t8 t136 t140 K2 R w) fun K9 =>
 guardP t136 true (
 F0 48 t8 2 R w fun t138 w =>
 L0 3 t138 R w fun t139 w =>
 B0 .neq 3 true t139 (.int .i64 4) R w fun t140 w =>
 K9 t140 w) (
 K9 undef w)
def n30c20 (t1 t2 t3 t7 t8 t24:Value) (K2:World→Prop) (R:RT) (w:World):Prop :=
 B0 .eql 3 true t24 (.int .i64 11) R w fun t159 w =>
 condP t159 (
 n30c18 t2 t7 t8 K2 R w) (
 B0 .eql 3 true t24 (.int .i64 12) R w fun t175 w =>
 condP t175 (
 n30c17 t1 t2 t3 t7 t8 R w) (
 K2 w))
def n30c21 (t1 t2 t3 t7 t8:Value) (R:RT) (w:World):Prop :=
 L0 24 t7 R w fun t94 w =>
 F0 48 t8 9 R w fun t95 w =>
 L0 9 t95 R w fun t96 w =>
 C0 45 #[t94,t96,t2] R w fun t98 w =>
 n30c7 t1 t2 t3 t7 t8 t98 R w
def n30c22 (t1 t3 t8:Value) (K2:World→Prop) (R:RT) (w:World):Prop :=
 L0 28 t3 R w fun t86 w =>
 F0 48 t8 8 R w fun t87 w =>
 L0 9 t87 R w fun t88 w =>
 C0 53 #[t86,t88,t1] R w fun t90 w =>
 B0 .lss 3 true t90 (.int .i64 0) R w fun t91 w =>
 condP t91 (
 R (.returned (.int .i64 8)) w) (
 K2 w)
def n30c23 (t1 t2 t3 t7 t8 t24:Value) (K2:World→Prop) (R:RT) (w:World):Prop :=
 B0 .eql 3 true t24 (.int .i64 9) R w fun t93 w =>
 condP t93 (
 n30c21 t1 t2 t3 t7 t8 R w) (
 B0 .eql 3 true t24 (.int .i64 10) R w fun t133 w =>
 condP t133 (
 n30c19 t8 K2 R w) (
 n30c20 t1 t2 t3 t7 t8 t24 K2 R w))
def n30c24 (t1 t2 t3 t7 t8:Value) (R:RT) (w:World):Prop :=
 L0 28 t3 R w fun t75 w =>
 F0 48 t8 8 R w fun t76 w =>
 L0 9 t76 R w fun t77 w =>
 C0 53 #[t75,t77,t1] R w fun t79 w =>
 n30c3 t2 t7 t79 R w
def n30c25 (t8:Value) (K2:World→Prop) (R:RT) (w:World):Prop :=
 F0 48 t8 6 R w fun t65 w =>
 L0 3 t65 R w fun t66 w =>
 B0 .lss 3 true t66 (.int .i64 2) R w fun t67 w =>
 joinK (fun (t71:Value) (w:World) =>
 pickK t67 (.bool true) t71 fun t72 =>
 condP t72 (
 R (.returned (.int .i64 7)) w) (
 K2 w)) fun K6 =>
 guardP t67 false (
 F0 48 t8 6 R w fun t69 w =>
 L0 3 t69 R w fun t70 w =>
 B0 .gtr 3 true t70 (.int .i64 1048576) R w fun t71 w =>
 K6 t71 w) (
 K6 undef w)
def n30c26 (t1 t2 t3 t7 t8 t24:Value) (K2:World→Prop) (R:RT) (w:World):Prop :=
 B0 .eql 3 true t24 (.int .i64 7) R w fun t74 w =>
 condP t74 (
 n30c24 t1 t2 t3 t7 t8 R w) (
 B0 .eql 3 true t24 (.int .i64 8) R w fun t85 w =>
 condP t85 (
 n30c22 t1 t3 t8 K2 R w) (
 n30c23 t1 t2 t3 t7 t8 t24 K2 R w))
def n30c27 (t8:Value) (K2:World→Prop) (R:RT) (w:World):Prop :=
 F0 48 t8 5 R w fun t45 w =>
 L0 3 t45 R w fun t46 w =>
 B0 .lss 3 true t46 (.int .i64 0) R w fun t47 w =>
 joinK (fun (t51:Value) (w:World) =>
 n30c2 t8 t47 t51 K2 R w) fun K3 =>
 guardP t47 false (
 F0 48 t8 5 R w fun t49 w =>
 L0 3 t49 R w fun t50 w =>
 B0 .gtr 3 true t50 (.int .i64 255) R w fun t51 w =>
 K3 t51 w) (
 K3 undef w)
def n30c28 (t1 t2 t3 t7 t8 t24:Value) (K2:World→Prop) (R:RT) (w:World):Prop :=
 B0 .eql 3 true t24 (.int .i64 5) R w fun t44 w =>
 condP t44 (
 n30c27 t8 K2 R w) (
 B0 .eql 3 true t24 (.int .i64 6) R w fun t64 w =>
 condP t64 (
 n30c25 t8 K2 R w) (
 n30c26 t1 t2 t3 t7 t8 t24 K2 R w))
def n30c29 (t8:Value) (K2:World→Prop) (R:RT) (w:World):Prop :=
 F0 48 t8 5 R w fun t32 w =>
 L0 3 t32 R w fun t33 w =>
 F0 48 t8 6 R w fun t34 w =>
 L0 3 t34 R w fun t35 w =>
 C0 149 #[t33,t35] R w fun t36 w =>
 opV Pg (Op.unary .not t36) (panK R) w fun t37 w =>
 condP t37 (
 R (.returned (.int .i64 7)) w) (
 K2 w)
def n30c30 (t1 t2 t3 t7 t8 t24:Value) (K2:World→Prop) (R:RT) (w:World):Prop :=
 B0 .eql 3 true t24 (.int .i64 4) R w fun t39 w =>
 condP t39 (
 L0 24 t7 R w fun t40 w =>
 C0 150 #[t40,t2] R w fun t42 w =>
 R (.returned t42) w) (
 n30c28 t1 t2 t3 t7 t8 t24 K2 R w)
def n30c31 (t1 t2 t3 t7 t8 t24:Value) (R:RT) (w:World):Prop :=
 B0 .eql 3 true t24 (.int .i64 3) R w fun t31 w =>
 joinK (fun (w:World) =>
 R (.returned (.int .i64 0)) w) fun K2 =>
 condP t31 (
 n30c29 t8 K2 R w) (
 n30c30 t1 t2 t3 t7 t8 t24 K2 R w)
def n30c32 (t1 t2 t3 t7 t8 t24 t25:Value) (R:RT) (w:World):Prop :=
 condP t25 (
 L0 48 t8 R w fun t28 w =>
 C0 148 #[t28] R w fun t29 w =>
 R (.returned t29) w) (
 n30c31 t1 t2 t3 t7 t8 t24 R w)
def n30 (t0 t1 t2:Value) (R:RT) (w:World):Prop :=
 opV Pg (Instr.box 28 t0) (panK R) w fun t3 w =>
 F0 28 t3 1 R w fun t13 w =>
 L0 26 t13 R w fun t14 w =>
 X0 26 t14 t1 R w fun t16 w =>
 L0 24 t16 R w fun t17 w =>
 opV Pg (Instr.alloc 24 true (.tuple #[])) (panK R) w fun t7 w =>
 opU Pg (Instr.storeAt 24 t7 t17) (panK R) w fun w =>
 F0 24 t7 1 R w fun t18 w =>
 L0 22 t18 R w fun t19 w =>
 X0 22 t19 t2 R w fun t21 w =>
 L0 48 t21 R w fun t22 w =>
 opV Pg (Instr.alloc 48 true (.tuple #[])) (panK R) w fun t8 w =>
 opU Pg (Instr.storeAt 48 t8 t22) (panK R) w fun w =>
 F0 48 t8 1 R w fun t23 w =>
 L0 42 t23 R w fun t24 w =>
 B0 .eql 3 true t24 (.int .i64 1) R w fun t26 w =>
 joinK (fun (t25:Value) (w:World) =>
 n30c32 t1 t2 t3 t7 t8 t24 t25 R w) fun K1 =>
 condP t26 (
 K1 t26 w) (
 B0 .eql 3 true t24 (.int .i64 2) R w fun t27 w =>
 K1 t27 w)
set_option maxHeartbeats 40000000 in
theorem n30s {t0 t1 t2:Value} {R:RT} {w:World} (h:n30 t0 t1 t2 R w):Calls Pg 120 #[t0,t1,t2] w R:=by
 refine yD Tryz.func120 ?_
 refine zs<|zr<|yv h fun _ w h=>zm<|zn<|zk<|zs<|zr<|yv h fun _ w h=>yv h fun _ w h=>zm<|yv h fun _ w h=>yv h fun _ w h=>yv h fun _ w h=>yu h fun w h=>?_
 refine zn<|zk<|zs<|zr<|yv h fun _ w h=>yv h fun _ w h=>zm<|yv h fun _ w h=>yv h fun _ w h=>yv h fun _ w h=>yu h fun w h=>zn<|zk<|zs<|zs ?_
 refine zr<|yv h fun _ w h=>yv h fun _ w h=>zn<|zk<|sim_block<|zs<|zs<|zr<|yb h fun _ w h=>zm<|zn<|zk<|yJ1 [25,27] 25 h (fun _ _ hkK1 h=>?_) fun σ w h=>?_
 · refine yC h (fun h=>?_) fun h=>?_
   · refine sim_skip<|zk ?_
     exact zt hkK1 h
   refine zr<|yb h fun _ w h=>zm<|zn<|zk ?_
   exact zt hkK1 h
 refine zk<|yC h (fun h=>zs<|zr<|yv h fun _ w h=>yc h c148 fun _ w h=>zm<|zn<|zk<|sim_ret<|sim_block_ret<|sim_then_ret<|body_ret1 rfl rfl h) fun h=>zs<|zr<|yb h fun _ w h=>zm<|zn<|zk<|yJ0 [6,9,10,11,12,32,33,34,35,36,37,38,39,40,41,42,43,44,45,46,47,48,49,50,51,52,53,54,55,56,57,58,59,60,61,62,63,64,65,66,67,68,69,70,71,72,73,74,75,76,77,78,79,80,81,82,83,84,85,86,87,88,89,90,91,92,93,94,95,96,97,98,99,100,101,102,103,104,105,106,107,108,109,110,111,112,113,114,115,116,117,118,119,120,121,122,123,124,125,126,127,128,129,130,131,132,133,134,135,136,137,138,139,140,141,142,143,144,145,146,147,148,149,150,151,152,153,154,155,156,157,158,159,160,161,162,163,164,165,166,167,168,169,170,171,172,173,174,175,176,177,178,179,180,181,182,183,184,185,186,187,188,189,190,191,192,193,194,195,196,197,198,199,200,201,202] h (fun _ _ hkK2 h=>?_) fun σ w h=>?_
 · refine yC h (fun h=>?_) fun h=>?_
   · refine zs<|zr<|yv h fun _ w h=>yv h fun _ w h=>yv h fun _ w h=>yv h fun _ w h=>yc h c149 fun _ w h=>yv h fun _ w h=>zn<|zk<|yC h (fun h=>zs<|zr<|zm<|zn<|zk<|sim_ret<|sim_then_ret<|sim_block_ret<|sim_then_ret<|body_ret1 rfl rfl h) fun h=>sim_skip<|zk ?_
     exact zt hkK2 h
   refine zs<|zr<|yb h fun _ w h=>zm<|zn<|zk<|yC h (fun h=>zs<|zr<|yv h fun _ w h=>zm<|yc h c150 fun _ w h=>zm<|zn<|zk<|sim_ret<|sim_then_ret<|sim_block_ret<|sim_then_ret<|body_ret1 rfl rfl h) fun h=>zs<|zr<|yb h fun _ w h=>zm<|zn<|zk<|yC h (fun h=>?_) fun h=>?_
   · refine zs<|sim_regionG<|yG 4<|yv h fun _ w h=>yv h fun _ w h=>yb h fun _ w h=>zm<|zn<|yg1 3 3 false [49,50,51] 51 h (fun _ T hT h=>?_) fun σ w h=>?_
     · refine yv h fun _ w h=>yv h fun _ w h=>yb h fun _ w h=>zn ?_
       exact zt hT h
     refine yG 2<|yp h fun _ h=>zm<|zn<|yg1 3 8 false [54,55,56] 56 h (fun _ T hT h=>?_) fun σ w h=>?_
     · refine yv h fun _ w h=>yv h fun _ w h=>yb h fun _ w h=>zn ?_
       exact zt hT h
     refine yG 2<|yp h fun _ h=>zm<|zn<|yg1 3 13 false [59,60,61] 61 h (fun _ T hT h=>?_) fun σ w h=>?_
     · refine yv h fun _ w h=>yv h fun _ w h=>yb h fun _ w h=>zn ?_
       exact zt hT h
     refine yG 1<|yp h fun _ h=>zn<|sim_end<|zk<|yC h (fun h=>zs<|zr<|zm<|zn<|zk<|sim_ret<|sim_then_ret<|sim_block_ret<|sim_then_ret<|body_ret1 rfl rfl h) fun h=>sim_skip<|zk ?_
     exact zt hkK2 h
   refine zs<|zr<|yb h fun _ w h=>zm<|zn<|zk<|yC h (fun h=>?_) fun h=>?_
   · refine zs<|sim_regionG<|yG 4<|yv h fun _ w h=>yv h fun _ w h=>yb h fun _ w h=>zm<|zn<|yg1 3 3 false [69,70,71] 71 h (fun _ T hT h=>?_) fun σ w h=>?_
     · refine yv h fun _ w h=>yv h fun _ w h=>yb h fun _ w h=>zn ?_
       exact zt hT h
     refine yG 1<|yp h fun _ h=>zn<|sim_end<|zk<|yC h (fun h=>zs<|zr<|zm<|zn<|zk<|sim_ret<|sim_then_ret<|sim_block_ret<|sim_then_ret<|body_ret1 rfl rfl h) fun h=>sim_skip<|zk ?_
     exact zt hkK2 h
   refine zs<|zr<|yb h fun _ w h=>zm<|zn<|zk<|yC h (fun h=>?_) fun h=>?_
   · refine zs<|zs<|zr<|yv h fun _ w h=>yv h fun _ w h=>yv h fun _ w h=>zm<|yc h c53 fun _ w h=>yb h fun _ w h=>zn<|zk<|yC h (fun h=>zs<|zr<|zm<|zn<|zk<|sim_ret<|sim_then_ret<|sim_then_ret<|sim_block_ret<|sim_then_ret<|body_ret1 rfl rfl h) fun h=>sim_skip<|zk ?_
     exact zs<|zr<|yv h fun _ w h=>zm<|yc h c150 fun _ w h=>zm<|zn<|zk<|sim_ret<|sim_then_ret<|sim_block_ret<|sim_then_ret<|body_ret1 rfl rfl h
   refine zs<|zr<|yb h fun _ w h=>zm<|zn<|zk<|yC h (fun h=>?_) fun h=>?_
   · refine zs<|zr<|yv h fun _ w h=>yv h fun _ w h=>yv h fun _ w h=>zm<|yc h c53 fun _ w h=>yb h fun _ w h=>zn<|zk<|yC h (fun h=>zs<|zr<|zm<|zn<|zk<|sim_ret<|sim_then_ret<|sim_block_ret<|sim_then_ret<|body_ret1 rfl rfl h) fun h=>sim_skip<|zk ?_
     exact zt hkK2 h
   refine zs<|zr<|yb h fun _ w h=>zm<|zn<|zk<|yC h (fun h=>?_) fun h=>?_
   · refine zs<|zr<|yv h fun _ w h=>yv h fun _ w h=>yv h fun _ w h=>zm<|yc h c45 fun _ w h=>zm<|zn<|zk<|zs<|zs<|sim_regionG<|yG 3<|zm ?_
     refine yb h fun _ w h=>zm<|zn<|yg1 7 2 false [102,103,104,105,106,107,108] 108 h (fun _ T hT h=>?_) fun σ w h=>?_
     · refine yv h fun _ w h=>yv h fun _ w h=>zm<|yv h fun _ w h=>yv h fun _ w h=>yc h c47 fun _ w h=>yv h fun _ w h=>zn ?_
       exact zt hT h
     refine yG 2<|yp h fun _ h=>zm<|zn<|yg1 5 11 false [111,112,113,114,115] 115 h (fun _ T hT h=>?_) fun σ w h=>?_
     · refine yv h fun _ w h=>yv h fun _ w h=>yv h fun _ w h=>zm<|yc h c151 fun _ w h=>zn ?_
       exact zt hT h
     refine yG 1<|yp h fun _ h=>zn<|sim_end<|zk<|yC h (fun h=>zs<|zr<|zm<|zn<|zk<|sim_ret<|sim_then_ret<|sim_then_ret<|sim_block_ret<|sim_then_ret<|body_ret1 rfl rfl h) fun h=>sim_skip<|zk<|zs<|zr<|yv h fun _ w h=>yv h fun _ w h=>zm<|yv h fun _ w h=>?_
     refine yv h fun _ w h=>yc h c152 fun _ w h=>zm<|yv h fun _ w h=>yv h fun _ w h=>zm<|zm<|zn<|zk<|zs<|zr<|yv h fun _ w h=>zm<|yv h fun _ w h=>zm ?_
     exact zm<|yc h c153 fun _ w h=>zm<|zn<|zk<|sim_ret<|sim_then_ret<|sim_block_ret<|sim_then_ret<|body_ret1 rfl rfl h
   refine zs<|zr<|yb h fun _ w h=>zm<|zn<|zk<|yC h (fun h=>?_) fun h=>?_
   · refine zs<|sim_regionG<|yG 4<|yv h fun _ w h=>yv h fun _ w h=>yb h fun _ w h=>zm<|zn<|yg1 3 3 true [138,139,140] 140 h (fun _ T hT h=>?_) fun σ w h=>?_
     · refine yv h fun _ w h=>yv h fun _ w h=>yb h fun _ w h=>zn ?_
       exact zt hT h
     refine yG 2<|yp h fun _ h=>zm<|zn<|yg1 4 8 true [143,144,145,146] 146 h (fun _ T hT h=>?_) fun σ w h=>?_
     · refine yv h fun _ w h=>yv h fun _ w h=>yb h fun _ w h=>zm<|zn ?_
       exact zt hT h
     refine yg1 3 12 false [147,148,149] 149 h (fun _ T hT h=>?_) fun σ w h=>?_
     · refine yv h fun _ w h=>yv h fun _ w h=>yb h fun _ w h=>zn ?_
       exact zt hT h
     refine yg1 2 8 true [150,151] 151 h (fun _ T hT h=>?_) fun σ w h=>?_
     · refine yp h fun _ h=>zm<|zn ?_
       exact zt hT h
     refine yg1 4 17 false [152,153,154,155] 155 h (fun _ T hT h=>?_) fun σ w h=>?_
     · refine yv h fun _ w h=>yv h fun _ w h=>yb h fun _ w h=>yb h fun _ w h=>zn ?_
       exact zt hT h
     refine yg1 1 8 true [156] 156 h (fun _ T hT h=>?_) fun σ w h=>?_
     · refine yp h fun _ h=>zn ?_
       exact zt hT h
     refine yG 1<|yp h fun _ h=>zn<|sim_end<|zk<|yC h (fun h=>zs<|zr<|zm<|zn<|zk<|sim_ret<|sim_then_ret<|sim_block_ret<|sim_then_ret<|body_ret1 rfl rfl h) fun h=>sim_skip<|zk ?_
     exact zt hkK2 h
   refine zs<|zr<|yb h fun _ w h=>zm<|zn<|zk<|yC h (fun h=>?_) fun h=>?_
   · refine zs<|zs<|sim_regionG<|yG 4<|yv h fun _ w h=>yv h fun _ w h=>yb h fun _ w h=>zm<|zn<|yg1 3 3 false [164,165,166] 166 h (fun _ T hT h=>?_) fun σ w h=>?_
     · refine yv h fun _ w h=>yv h fun _ w h=>yb h fun _ w h=>zn ?_
       exact zt hT h
     refine yG 1<|yp h fun _ h=>zn<|sim_end<|zk<|yC h (fun h=>zs<|zr<|zm<|zn<|zk<|sim_ret<|sim_then_ret<|sim_then_ret<|sim_block_ret<|sim_then_ret<|body_ret1 rfl rfl h) fun h=>sim_skip<|zk<|zs<|zr<|yv h fun _ w h=>yv h fun _ w h=>yv h fun _ w h=>zm ?_
     refine yc h c45 fun _ w h=>yb h fun _ w h=>zn<|zk<|yC h (fun h=>zs<|zr<|zm<|zn<|zk<|sim_ret<|sim_then_ret<|sim_block_ret<|sim_then_ret<|body_ret1 rfl rfl h) fun h=>sim_skip<|zk ?_
     exact zt hkK2 h
   refine zs<|zr<|yb h fun _ w h=>zm<|zn<|zk<|yC h (fun h=>?_) fun h=>?_
   · refine zs<|zs<|sim_regionG<|yG 4<|yv h fun _ w h=>yv h fun _ w h=>yb h fun _ w h=>zm<|zn<|yg1 3 3 false [180,181,182] 182 h (fun _ T hT h=>?_) fun σ w h=>?_
     · refine yv h fun _ w h=>yv h fun _ w h=>yb h fun _ w h=>zn ?_
       exact zt hT h
     refine yG 1<|yp h fun _ h=>zn<|sim_end<|zk<|yC h (fun h=>zs<|zr<|zm<|zn<|zk<|sim_ret<|sim_then_ret<|sim_then_ret<|sim_block_ret<|sim_then_ret<|body_ret1 rfl rfl h) fun h=>sim_skip<|zk<|zs<|zr<|yv h fun _ w h=>yv h fun _ w h=>yv h fun _ w h=>zm ?_
     refine yc h c53 fun _ w h=>zm<|zn<|zk<|zs<|zs<|sim_regionG<|yG 3<|zm<|yb h fun _ w h=>zm<|zn<|yg1 7 2 false [192,193,194,195,196,197,198] 198 h (fun _ T hT h=>?_) fun σ w h=>?_
     · refine yv h fun _ w h=>zm<|yc h c154 fun _ w h=>zm<|yv h fun _ w h=>yv h fun _ w h=>yv h fun _ w h=>zn ?_
       exact zt hT h
     refine yG 1<|yp h fun _ h=>zn<|sim_end<|zk<|yC h (fun h=>zs<|zr<|zm<|zn<|zk<|sim_ret<|sim_then_ret<|sim_then_ret<|sim_block_ret<|sim_then_ret<|body_ret1 rfl rfl h) fun h=>sim_skip<|zk<|zs<|zr<|yv h fun _ w h=>zm<|yc h c150 fun _ w h=>zm ?_
     exact zn<|zk<|sim_ret<|sim_then_ret<|sim_block_ret<|sim_then_ret<|body_ret1 rfl rfl h
   refine sim_skip<|zk ?_
   exact zt hkK2 h
 exact sim_block_normal<|zk<|zs<|zr<|zm<|zn<|zk<|sim_ret<|body_ret1 rfl rfl h
theorem anyD (l:List MsgD) (hd:DistM l) (s:ByteArray):(lastP (depsOf l) s).isSome=l.any fun m=>decide (m.name=s):=by
 rcases first_last (keysD l) hd s with ⟨h1,h2⟩ | ⟨k,b,h1,_,_,h2⟩
 · rw [h2,← idx_neg,h1];rfl
 · rw [h2,← idx_neg,h1];simp
theorem wide_within {lo hi:Int}:withinC 34359738367 0 [lo,hi]=if wideB lo hi then 0 else 7:=by
 rw [within2]
 unfold wideB
 by_cases h1:0≤lo<;>by_cases h2:lo≤hi<;>by_cases h3:hi < 34359738368<;>simp [*]<;>omega
theorem within1 {hi n a:Int}:withinC hi n [a]=if a < n∨hi < a then 7 else 0:=by
 by_cases h1:a < n<;>by_cases h2:hi < a<;>simp [withinC,needC,orC, *]<;>omega
theorem rkinds_ret (w0:World) (v:Value) (d:DefD) (n i:Nat) (m:MsgD) (f:FieldD) (hd:DefVal w0 v d) (hm:d.msgs[n]?=some m) (hi:m.fields[i]?=some f) (hN:DistM (d.msgs.take n)) (hR:RefsIn d.msgs n) (hD:Dist (m.fields.take i)) (hb:calm d) (hn1:n≤1048576)
 (hg:∀ g∈m.fields.take i,numberB g=true → -4611686018427387904≤g.low∧highOf g≤4611686018427387904) (hk:1≤f.kind∧f.kind≤12) :
 Ret Pg 120 #[v,.int .i64 (n:Int),.int .i64 (i:Int)] w0 fun r w'=>r = .int .i64 (checkC (m.fields.take i) (vI (depsOf (d.msgs.take n))) (vB (strsOf (d.msgs.take n))) f)∧Ext w0 w':=by
 obtain ⟨mv,rfl,hM⟩:=hd
 have hM0:=hM
 have hmem:=List.mem_of_getElem? hm
 have hfm:=List.mem_of_getElem? hi
 have hft:=(hb m hmem).2 f hfm
 refine n30s (R:=retR _) ?_;unfold n30
 rw [op_boxA]
 have hBW:=ElemAt.new (w:=w0) (defCells d mv) (28)
 have eW:Ext w0 (w0.alloc (Obj.cells (List.toArray (defCells d mv)) (28))):=(Ext.refl _).alloc _
 generalize (w0.alloc (Obj.cells (List.toArray (defCells d mv)) (28)))=W at hBW eW ⊢
 obtain ⟨bm,om,cm,rfl,_,_,_,hnl,hel⟩:=open1 hM hm
 obtain ⟨csm,_,hAm,hEm⟩:=hel n m hm
 obtain ⟨fv,rfl,hF⟩:=hEm
 have hF0:=hF
 have hf1:=SliceOf.oneCell hF
 simp (disch:=try exact DI) only [↓PR,QR,simprocAttr,hBW.c3 (Ext.refl W),hAm.c2 eW]
 have hBX:=ElemAt.new (w:=W) (msgCells m fv) (24)
 have eX:Ext W (W.alloc (Obj.cells (List.toArray (msgCells m fv)) (24))):=(Ext.refl _).alloc _
 generalize (W.alloc (Obj.cells (List.toArray (msgCells m fv)) (24)))=X at hBX eX ⊢
 obtain ⟨bf,of,cf,rfl,_,_,_,hil,helf⟩:=open1 hF hi
 obtain ⟨csf,_,hAf,hEf⟩:=helf i f hi
 obtain ⟨tv,cv,rfl,hT,hC,ht1,hc1⟩:=hEf.op
 simp (disch:=try exact DI) only [↓PR,QR,simprocAttr,hBX.c2 (Ext.refl X),hAf.c15 (eW.trans eX)]
 have hBY:=ElemAt.new (w:=X) (fieldCells f tv cv) (48)
 have eY:Ext X (X.alloc (Obj.cells (List.toArray (fieldCells f tv cv)) (48))):=(Ext.refl _).alloc _
 generalize (X.alloc (Obj.cells (List.toArray (fieldCells f tv cv)) (48)))=Y at hBY eY ⊢
 have hcY:=hBY.c15 (Ext.refl Y)
 have EY:Ext w0 Y:=eW.trans (eX.trans eY)
 have this:f.kind=1∨f.kind=2∨f.kind=3∨f.kind=4∨f.kind=5∨f.kind=6∨f.kind=7∨f.kind=8∨f.kind=9∨f.kind=10∨f.kind=11∨f.kind=12:=by omega
 have hdv:∀ w,Ext Y w→DefVal w (.agg (defCells d (.slice (some ⟨bm,om,none⟩) d.msgs.length cm)).toArray) d:=fun w e=>⟨_,rfl,hM0.ext (EY.trans e)⟩
 have hmv:∀ w,Ext Y w→MsgVal w (.agg (msgCells m (.slice (some ⟨bf,of,none⟩) m.fields.length cf)).toArray) m:=fun w e=>⟨_,rfl,hF0.ext (EY.trans e)⟩
 have hfv:∀ w,Ext Y w→FieldVal w (.agg (fieldCells f tv cv).toArray) f:=fun w e=>⟨_,_,rfl,hT.ext (EY.trans e),hC.ext (EY.trans e)⟩
 generalize hDD:vI (depsOf (d.msgs.take n))=D
 generalize hSS:vB (strsOf (d.msgs.take n))=S
 rcases this with hk | hk | hk | hk | hk | hk | hk | hk | hk | hk | hk | hk
 all_goals rw [show fieldCells f tv cv=[.string f.name,.int .i64 f.kind,.int .i64 f.bits,.bool f.little,.bool f.loose,.int .i64 f.low,.int .i64 f.high,.int .i64 f.base,tv,.string f.of,.string f.tag,.string f.fr,cv,.int .i64 f.check,.int .i64 f.key] from rfl,hk] at hfv
 all_goals simp (disch:=try exact DI) only [↓PR,QR,simprocAttr,hcY,hBX.c2 eY,hBW.c3 (eX.trans eY),hk,↓n30c1,↓n30c2,↓n30c3,↓n30c4,↓n30c5,↓n30c6,↓n30c7,↓n30c8,↓n30c9,↓n30c10,↓n30c11,↓n30c12,↓n30c13,↓n30c14,↓n30c15,↓n30c16,↓n30c17,↓n30c18,↓n30c19,↓n30c20,↓n30c21,↓n30c22,↓n30c23,↓n30c24,↓n30c25,↓n30c26,↓n30c27,↓n30c28,↓n30c29,↓n30c30,↓n30c31,↓n30c32]
 · have hcc:checkC (m.fields.take i) D S f=numC f:=by rw [numC_one hk];unfold checkC;rw [hk];rfl
   refine zcr (rnumber_ret _ _ f (hfv _ (Ext.refl Y))) fun w1 e1=>?_
   exact ⟨_,rfl,by rw [hcc],EY.trans e1⟩
 · have hcc:checkC (m.fields.take i) D S f=numC f:=by rw [numC_two hk];unfold checkC;rw [hk];rfl
   refine zcr (rnumber_ret _ _ f (hfv _ (Ext.refl Y))) fun w1 e1=>?_
   exact ⟨_,rfl,by rw [hcc],EY.trans e1⟩
 · have hcc:checkC (m.fields.take i) D S f=if wideB f.low f.high then 0 else 7:=by rw [← wide_within];unfold checkC;rw [hk];rfl
   refine zcr (rwide_ret _ _ _) fun w1 e1=>?_
   cases hw:wideB f.low f.high<;>rw [hw] at hcc<;>simp (disch:=try exact DI) only [↓PR,QR,simprocAttr]<;>exact ⟨by rw [hcc];rfl,EY.trans e1⟩
 · have hcc:checkC (m.fields.take i) D S f=sizedC (numR (m.fields.take i)) f:=by unfold checkC;rw [hk];rfl
   refine zcr (rsized_ret _ _ m i f (hmv _ (Ext.refl Y)) hi hD hft) fun w1 e1=>?_
   exact ⟨_,rfl,by rw [hcc],EY.trans e1⟩
 · have hcc:checkC (m.fields.take i) D S f=if (decide (f.low < 0)||decide (255 < f.low)||decide (f.high < 0)||decide (1048576 < f.high)) then 7 else 0:=by
    rw [show checkC (m.fields.take i) D S f=orC (withinC 255 0 [f.low]) (withinC 1048576 0 [f.high]) by unfold checkC;rw [hk];rfl,within1,within1]
    by_cases h1:f.low < 0<;>by_cases h2:255 < f.low<;>by_cases h3:f.high < 0<;>by_cases h4:1048576 < f.high<;>simp [orC, *]
   refine cond_cases (fun h=>⟨_,rfl,by rw [hcc,if_pos h],EY⟩) (fun h=>⟨_,rfl,by rw [hcc,if_neg (by rw [h];decide)],EY⟩)
 · have hcc:checkC (m.fields.take i) D S f=if (decide (f.high < 2)||decide (1048576 < f.high)) then 7 else 0:=by
    rw [show checkC (m.fields.take i) D S f=withinC 1048576 2 [f.high] by unfold checkC;rw [hk];rfl,within1]
    by_cases h3:f.high < 2<;>by_cases h4:1048576 < f.high<;>simp [orC, *]
   refine cond_cases (fun h=>⟨_,rfl,by rw [hcc,if_pos h],EY⟩) (fun h=>⟨_,rfl,by rw [hcc,if_neg (by rw [h];decide)],EY⟩)
 · have hcc:checkC (m.fields.take i) D S f=orC (needC (lastOf (vI (depsOf (d.msgs.take n))) f.of).isSome 8) (sizedC (numR (m.fields.take i)) f):=by rw [← hDD];unfold checkC;rw [hk];rfl
   refine zcr (rFind_ret _ _ d f.of n (hdv _ (Ext.refl Y)) (Nat.le_of_lt hnl)) fun w1 e1=>?_
   have hdi:=idx_some (p:=fun m:MsgD=>decide (m.name=f.of)) (l:=d.msgs.take n)
   rw [lastOf_vI,Option.isSome_map,anyD _ hN] at hcc
   cases hs:(d.msgs.take n).any (fun m=>decide (m.name=f.of)) with
   | false =>
    rw [hs] at hdi hcc
    simp (disch:=try exact DI) only [↓PR,QR,simprocAttr,hdi,↓n30c1,↓n30c2,↓n30c3,↓n30c4,↓n30c5,↓n30c6,↓n30c7,↓n30c8,↓n30c9,↓n30c10,↓n30c11,↓n30c12,↓n30c13,↓n30c14,↓n30c15,↓n30c16,↓n30c17,↓n30c18,↓n30c19,↓n30c20,↓n30c21,↓n30c22,↓n30c23,↓n30c24,↓n30c25,↓n30c26,↓n30c27,↓n30c28,↓n30c29,↓n30c30,↓n30c31,↓n30c32]
    exact ⟨by rw [hcc];rfl,EY.trans e1⟩
   | true =>
    rw [hs] at hdi hcc
    simp (disch:=try exact DI) only [↓PR,QR,simprocAttr,hdi,hBX.c2 (eY.trans e1),↓n30c1,↓n30c2,↓n30c3,↓n30c4,↓n30c5,↓n30c6,↓n30c7,↓n30c8,↓n30c9,↓n30c10,↓n30c11,↓n30c12,↓n30c13,↓n30c14,↓n30c15,↓n30c16,↓n30c17,↓n30c18,↓n30c19,↓n30c20,↓n30c21,↓n30c22,↓n30c23,↓n30c24,↓n30c25,↓n30c26,↓n30c27,↓n30c28,↓n30c29,↓n30c30,↓n30c31,↓n30c32]
    refine zcr (rsized_ret _ _ m i f (hmv _ e1) hi hD hft) fun w2 e2=>?_
    exact ⟨_,rfl,by rw [hcc];rfl,EY.trans (e1.trans e2)⟩
 · have hcc:checkC (m.fields.take i) D S f=needC (lastOf (vI (depsOf (d.msgs.take n))) f.of).isSome 8:=by rw [← hDD];unfold checkC;rw [hk];rfl
   refine zcr (rFind_ret _ _ d f.of n (hdv _ (Ext.refl Y)) (Nat.le_of_lt hnl)) fun w1 e1=>?_
   have hdi:=idx_some (p:=fun m:MsgD=>decide (m.name=f.of)) (l:=d.msgs.take n)
   rw [lastOf_vI,Option.isSome_map,anyD _ hN] at hcc
   cases hs:(d.msgs.take n).any (fun m=>decide (m.name=f.of)) with
   | false =>
    rw [hs] at hdi hcc
    simp (disch:=try exact DI) only [↓PR,QR,simprocAttr,hdi,↓n30c1,↓n30c2,↓n30c3,↓n30c4,↓n30c5,↓n30c6,↓n30c7,↓n30c8,↓n30c9,↓n30c10,↓n30c11,↓n30c12,↓n30c13,↓n30c14,↓n30c15,↓n30c16,↓n30c17,↓n30c18,↓n30c19,↓n30c20,↓n30c21,↓n30c22,↓n30c23,↓n30c24,↓n30c25,↓n30c26,↓n30c27,↓n30c28,↓n30c29,↓n30c30,↓n30c31,↓n30c32]
    exact ⟨by rw [hcc];rfl,EY.trans e1⟩
   | true =>
    rw [hs] at hdi hcc
    simp (disch:=try exact DI) only [↓PR,QR,simprocAttr,hdi,↓n30c1,↓n30c2,↓n30c3,↓n30c4,↓n30c5,↓n30c6,↓n30c7,↓n30c8,↓n30c9,↓n30c10,↓n30c11,↓n30c12,↓n30c13,↓n30c14,↓n30c15,↓n30c16,↓n30c17,↓n30c18,↓n30c19,↓n30c20,↓n30c21,↓n30c22,↓n30c23,↓n30c24,↓n30c25,↓n30c26,↓n30c27,↓n30c28,↓n30c29,↓n30c30,↓n30c31,↓n30c32]
    exact ⟨by rw [hcc];rfl,EY.trans e1⟩
 · have hcc:checkC (m.fields.take i) D S f=casesC (m.fields.take i) (vI (depsOf (d.msgs.take n))) f:=by rw [← hDD];unfold checkC;rw [hk];rfl
   refine zcr (rField_ret _ _ m f.tag i (hmv _ (Ext.refl Y)) (Nat.le_of_lt hil)) fun w1 e1=>?_
   have E1:=EY.trans e1
   unfold casesC at hcc
   rcases num_first hD f.tag with ⟨h1,h2⟩ | ⟨k,g,h1,h2,h3⟩
   · rw [h1]
     rw [h2] at hcc
     simp (disch:=try exact DI) only [↓PR,QR,simprocAttr,↓n30c1,↓n30c2,↓n30c3,↓n30c4,↓n30c5,↓n30c6,↓n30c7,↓n30c8,↓n30c9,↓n30c10,↓n30c11,↓n30c12,↓n30c13,↓n30c14,↓n30c15,↓n30c16,↓n30c17,↓n30c18,↓n30c19,↓n30c20,↓n30c21,↓n30c22,↓n30c23,↓n30c24,↓n30c25,↓n30c26,↓n30c27,↓n30c28,↓n30c29,↓n30c30,↓n30c31,↓n30c32]
     exact ⟨by rw [hcc];rfl,E1⟩
   · have hgk:=take_get h2
     have hgm:=List.mem_of_getElem? h2
     obtain ⟨csg,_,hAg,hEg⟩:=helf k g hgk
     have hkl:k < m.fields.length:=(List.getElem?_eq_some_iff.1 hgk).1
     obtain ⟨tg,cg,rfl,hTg,hCg,_,_⟩:=hEg.op
     have hd0:decide ((k:Int) < 0)=false:=by simp
     rw [h1]
     simp (disch:=try exact DI) only [↓PR,QR,simprocAttr,hd0,hBX.c2 (eY.trans e1),hAg.c15 E1,↓n30c1,↓n30c2,↓n30c3,↓n30c4,↓n30c5,↓n30c6,↓n30c7,↓n30c8,↓n30c9,↓n30c10,↓n30c11,↓n30c12,↓n30c13,↓n30c14,↓n30c15,↓n30c16,↓n30c17,↓n30c18,↓n30c19,↓n30c20,↓n30c21,↓n30c22,↓n30c23,↓n30c24,↓n30c25,↓n30c26,↓n30c27,↓n30c28,↓n30c29,↓n30c30,↓n30c31,↓n30c32]
     refine zcr (rNumber_ret _ _ g ⟨_,_,rfl,hTg.ext E1,hCg.ext E1⟩) fun w2 e2=>?_
     cases hng:numberB g with
     | false =>
      rw [hng,if_neg (by simp)] at h3
      rw [h3] at hcc
      simp (disch:=try exact DI) only [↓PR,QR,simprocAttr,hd0,↓n30c1,↓n30c2,↓n30c3,↓n30c4,↓n30c5,↓n30c6,↓n30c7,↓n30c8,↓n30c9,↓n30c10,↓n30c11,↓n30c12,↓n30c13,↓n30c14,↓n30c15,↓n30c16,↓n30c17,↓n30c18,↓n30c19,↓n30c20,↓n30c21,↓n30c22,↓n30c23,↓n30c24,↓n30c25,↓n30c26,↓n30c27,↓n30c28,↓n30c29,↓n30c30,↓n30c31,↓n30c32]
      exact ⟨by rw [hcc];rfl,E1.trans e2⟩
     | true =>
     rw [hng,if_pos rfl] at h3
     rw [h3] at hcc
     have f2:Ext Y w2:=e1.trans e2
     simp (disch:=try exact DI) only [↓PR,QR,simprocAttr,hd0,hBX.c2 (eY.trans f2),hBY.c15 f2,↓n30c1,↓n30c2,↓n30c3,↓n30c4,↓n30c5,↓n30c6,↓n30c7,↓n30c8,↓n30c9,↓n30c10,↓n30c11,↓n30c12,↓n30c13,↓n30c14,↓n30c15,↓n30c16,↓n30c17,↓n30c18,↓n30c19,↓n30c20,↓n30c21,↓n30c22,↓n30c23,↓n30c24,↓n30c25,↓n30c26,↓n30c27,↓n30c28,↓n30c29,↓n30c30,↓n30c31,↓n30c32]
     refine zcr (rtagged_ret _ _ m f.tag i (hmv _ f2) (Nat.le_of_lt hil)) fun w3 e3=>?_
     have f3:=f2.trans e3
     cases htg:(m.fields.take i).any (taggedP f.tag) with
     | true =>
      rw [htg] at hcc
      simp (disch:=try exact DI) only [↓PR,QR,simprocAttr,hd0,↓n30c1,↓n30c2,↓n30c3,↓n30c4,↓n30c5,↓n30c6,↓n30c7,↓n30c8,↓n30c9,↓n30c10,↓n30c11,↓n30c12,↓n30c13,↓n30c14,↓n30c15,↓n30c16,↓n30c17,↓n30c18,↓n30c19,↓n30c20,↓n30c21,↓n30c22,↓n30c23,↓n30c24,↓n30c25,↓n30c26,↓n30c27,↓n30c28,↓n30c29,↓n30c30,↓n30c31,↓n30c32]
      exact ⟨by rw [hcc];rfl,EY.trans f3⟩
     | false =>
     rw [htg] at hcc
     simp (disch:=try exact DI) only [↓PR,QR,simprocAttr,hd0,hBX.c2 (eY.trans f3),hAg.c15 (EY.trans f3),↓n30c1,↓n30c2,↓n30c3,↓n30c4,↓n30c5,↓n30c6,↓n30c7,↓n30c8,↓n30c9,↓n30c10,↓n30c11,↓n30c12,↓n30c13,↓n30c14,↓n30c15,↓n30c16,↓n30c17,↓n30c18,↓n30c19,↓n30c20,↓n30c21,↓n30c22,↓n30c23,↓n30c24,↓n30c25,↓n30c26,↓n30c27,↓n30c28,↓n30c29,↓n30c30,↓n30c31,↓n30c32]
     refine zcr (rRange_ret _ _ g ⟨_,_,rfl,hTg.ext (EY.trans f3),hCg.ext (EY.trans f3)⟩) fun w4 e4=>?_
     have f4:=f3.trans e4
     simp (disch:=try exact DI) only [↓PR,QR,simprocAttr,hBW.c3 (eX.trans (eY.trans f4)),hBY.c15 f4,↓n30c1,↓n30c2,↓n30c3,↓n30c4,↓n30c5,↓n30c6,↓n30c7,↓n30c8,↓n30c9,↓n30c10,↓n30c11,↓n30c12,↓n30c13,↓n30c14,↓n30c15,↓n30c16,↓n30c17,↓n30c18,↓n30c19,↓n30c20,↓n30c21,↓n30c22,↓n30c23,↓n30c24,↓n30c25,↓n30c26,↓n30c27,↓n30c28,↓n30c29,↓n30c30,↓n30c31,↓n30c32]
     have hgb:=hg g hgm hng
     refine zcr (rcased_ret _ _ _ d n f g.low (highOf g) (depsOf (d.msgs.take n)) (hdv _ f4) (Nat.le_of_lt hnl) ⟨_,_,rfl,hT.ext (EY.trans f4),hC.ext (EY.trans f4)⟩ (anyD _ hN) hgb.1 hgb.2) fun w5 e5=>?_
     exact ⟨_,rfl,by rw [hcc];rfl,EY.trans (f4.trans e5)⟩
 · have hcc:checkC (m.fields.take i) D S f=needC (padB f) 6:=by unfold checkC;rw [hk];rfl
   have hP:padB f=!((f.bits != 2&&f.bits != 4)&&(decide (f.bits < 8)||decide (512 < f.bits)||f.bits.tmod 8 != 0)):=by
    unfold padB
    rw [show decide (f.bits < 8)=!decide (8≤f.bits) by rw [Bool.eq_iff_iff];simp,show decide (512 < f.bits)=!decide (f.bits≤512) by rw [Bool.eq_iff_iff];simp,bne,bne,bne]
    generalize (f.bits == 2)=a1
    generalize (f.bits == 4)=a2
    generalize decide (8≤f.bits)=a3
    generalize decide (f.bits≤512)=a4
    generalize (f.bits.tmod 8 == 0)=a5
    cases a1<;>cases a2<;>cases a3<;>cases a4<;>cases a5<;>rfl
   rw [hP] at hcc
   clear hP
   repeat' first
    | exact ⟨by rw [hcc];rfl,EY⟩
    | (refine guard_cases (fun hg=>?_) (fun hg=>?_)<;>(try rw [hg] at hcc)<;>simp (disch:=try exact DI) only [↓PR,QR,simprocAttr,hg,hcY,↓n30c1,↓n30c2,↓n30c3,↓n30c4,↓n30c5,↓n30c6,↓n30c7,↓n30c8,↓n30c9,↓n30c10,↓n30c11,↓n30c12,↓n30c13,↓n30c14,↓n30c15,↓n30c16,↓n30c17,↓n30c18,↓n30c19,↓n30c20,↓n30c21,↓n30c22,↓n30c23,↓n30c24,↓n30c25,↓n30c26,↓n30c27,↓n30c28,↓n30c29,↓n30c30,↓n30c31,↓n30c32])
    | (refine cond_cases (fun hg=>?_) (fun hg=>?_)<;>(try rw [hg] at hcc)<;>simp (disch:=try exact DI) only [↓PR,QR,simprocAttr,hg,↓n30c1,↓n30c2,↓n30c3,↓n30c4,↓n30c5,↓n30c6,↓n30c7,↓n30c8,↓n30c9,↓n30c10,↓n30c11,↓n30c12,↓n30c13,↓n30c14,↓n30c15,↓n30c16,↓n30c17,↓n30c18,↓n30c19,↓n30c20,↓n30c21,↓n30c22,↓n30c23,↓n30c24,↓n30c25,↓n30c26,↓n30c27,↓n30c28,↓n30c29,↓n30c30,↓n30c31,↓n30c32])
 · have hcc:checkC (m.fields.take i) D S f=orC (withinC 3 1 [f.check]) (needC ((m.fields.take i).any fun o=>decide (o.name=f.fr)) 8):=by unfold checkC;rw [hk];rfl
   rw [within1] at hcc
   refine cond_cases (fun h=>⟨_,rfl,by rw [hcc,if_pos (by simpa using h)];rfl,EY⟩) (fun h=>?_)
   rw [if_neg (by simpa using h)] at hcc
   simp (disch:=try exact DI) only [↓PR,QR,simprocAttr,hBX.c2 eY,hcY,↓n30c1,↓n30c2,↓n30c3,↓n30c4,↓n30c5,↓n30c6,↓n30c7,↓n30c8,↓n30c9,↓n30c10,↓n30c11,↓n30c12,↓n30c13,↓n30c14,↓n30c15,↓n30c16,↓n30c17,↓n30c18,↓n30c19,↓n30c20,↓n30c21,↓n30c22,↓n30c23,↓n30c24,↓n30c25,↓n30c26,↓n30c27,↓n30c28,↓n30c29,↓n30c30,↓n30c31,↓n30c32]
   refine zcr (rField_ret _ _ m f.fr i (hmv _ (Ext.refl Y)) (Nat.le_of_lt hil)) fun w1 e1=>?_
   have hdi:=idx_some (p:=fun m:FieldD=>decide (m.name=f.fr)) (l:=m.fields.take i)
   cases hs:(m.fields.take i).any (fun m=>decide (m.name=f.fr))<;>rw [hs] at hdi hcc<;>simp (disch:=try exact DI) only [↓PR,QR,simprocAttr,hdi,↓n30c1,↓n30c2,↓n30c3,↓n30c4,↓n30c5,↓n30c6,↓n30c7,↓n30c8,↓n30c9,↓n30c10,↓n30c11,↓n30c12,↓n30c13,↓n30c14,↓n30c15,↓n30c16,↓n30c17,↓n30c18,↓n30c19,↓n30c20,↓n30c21,↓n30c22,↓n30c23,↓n30c24,↓n30c25,↓n30c26,↓n30c27,↓n30c28,↓n30c29,↓n30c30,↓n30c31,↓n30c32]<;>exact ⟨by rw [hcc];rfl,EY.trans e1⟩
 · have hcc:checkC (m.fields.take i) D S f=orC (withinC 4294967295 0 [f.key]) (orC (needC (strB (vB (strsOf (d.msgs.take n))) f.of) 8) (sizedC (numR (m.fields.take i)) f)):=by rw [← hSS];unfold checkC;rw [hk];rfl
   rw [within1,strB_vB] at hcc
   refine cond_cases (fun h=>⟨_,rfl,by rw [hcc,if_pos (by simpa using h)];rfl,EY⟩) (fun h=>?_)
   rw [if_neg (by simpa using h)] at hcc
   simp (disch:=try exact DI) only [↓PR,QR,simprocAttr,hBW.c3 (eX.trans eY),hcY,↓n30c1,↓n30c2,↓n30c3,↓n30c4,↓n30c5,↓n30c6,↓n30c7,↓n30c8,↓n30c9,↓n30c10,↓n30c11,↓n30c12,↓n30c13,↓n30c14,↓n30c15,↓n30c16,↓n30c17,↓n30c18,↓n30c19,↓n30c20,↓n30c21,↓n30c22,↓n30c23,↓n30c24,↓n30c25,↓n30c26,↓n30c27,↓n30c28,↓n30c29,↓n30c30,↓n30c31,↓n30c32]
   refine zcr (rFind_ret _ _ d f.of n (hdv _ (Ext.refl Y)) (Nat.le_of_lt hnl)) fun w1 e1=>?_
   rcases first_last (keysS (d.msgs.take n)) hN f.of with ⟨h1,h2⟩ | ⟨k,b,h1,_,h3,h4⟩
   · rw [h1]
     rw [h2] at hcc
     simp (disch:=try exact DI) only [↓PR,QR,simprocAttr,↓n30c1,↓n30c2,↓n30c3,↓n30c4,↓n30c5,↓n30c6,↓n30c7,↓n30c8,↓n30c9,↓n30c10,↓n30c11,↓n30c12,↓n30c13,↓n30c14,↓n30c15,↓n30c16,↓n30c17,↓n30c18,↓n30c19,↓n30c20,↓n30c21,↓n30c22,↓n30c23,↓n30c24,↓n30c25,↓n30c26,↓n30c27,↓n30c28,↓n30c29,↓n30c30,↓n30c31,↓n30c32]
     exact ⟨by rw [hcc];rfl,EY.trans e1⟩
   · rw [h1]
     rw [h4] at hcc
     have hd0:decide ((k:Int) < 0)=false:=by simp
     simp (disch:=try exact DI) only [↓PR,QR,simprocAttr,hd0,hBW.c3 (eX.trans (eY.trans e1)),↓n30c1,↓n30c2,↓n30c3,↓n30c4,↓n30c5,↓n30c6,↓n30c7,↓n30c8,↓n30c9,↓n30c10,↓n30c11,↓n30c12,↓n30c13,↓n30c14,↓n30c15,↓n30c16,↓n30c17,↓n30c18,↓n30c19,↓n30c20,↓n30c21,↓n30c22,↓n30c23,↓n30c24,↓n30c25,↓n30c26,↓n30c27,↓n30c28,↓n30c29,↓n30c30,↓n30c31,↓n30c32]
     refine callK_ret (rStricts_ret _ _ d n (hdv _ e1) (Nat.le_of_lt hnl) hN hR (fun m hm=>(hb m hm).1) hn1) ?_
     rintro _ w2 ⟨hO,e2⟩
     have hq:((strsOf (d.msgs.take n)).map (·.2))[k]?=some b:=by rw [List.getElem?_map,h3];rfl
     obtain ⟨bo,oo,co,rfl,_,_,_,hql,helo⟩:=open1 hO hq
     obtain ⟨cso,_,hAo,rfl⟩:=helo k b hq
     cases b with
     | false =>
      simp (disch:=try exact DI) only [↓PR,QR,simprocAttr,hd0,hAo.c1 (Ext.refl _),↓n30c1,↓n30c2,↓n30c3,↓n30c4,↓n30c5,↓n30c6,↓n30c7,↓n30c8,↓n30c9,↓n30c10,↓n30c11,↓n30c12,↓n30c13,↓n30c14,↓n30c15,↓n30c16,↓n30c17,↓n30c18,↓n30c19,↓n30c20,↓n30c21,↓n30c22,↓n30c23,↓n30c24,↓n30c25,↓n30c26,↓n30c27,↓n30c28,↓n30c29,↓n30c30,↓n30c31,↓n30c32]
      exact ⟨by rw [hcc];rfl,EY.trans (e1.trans e2)⟩
     | true =>
      simp (disch:=try exact DI) only [↓PR,QR,simprocAttr,hd0,hAo.c1 (Ext.refl _),hBX.c2 (eY.trans (e1.trans e2)),↓n30c1,↓n30c2,↓n30c3,↓n30c4,↓n30c5,↓n30c6,↓n30c7,↓n30c8,↓n30c9,↓n30c10,↓n30c11,↓n30c12,↓n30c13,↓n30c14,↓n30c15,↓n30c16,↓n30c17,↓n30c18,↓n30c19,↓n30c20,↓n30c21,↓n30c22,↓n30c23,↓n30c24,↓n30c25,↓n30c26,↓n30c27,↓n30c28,↓n30c29,↓n30c30,↓n30c31,↓n30c32]
      refine zcr (rsized_ret _ _ m i f (hmv _ (e1.trans e2)) hi hD hft) fun w3 e3=>?_
      exact ⟨_,rfl,by rw [hcc];rfl,EY.trans (e1.trans (e2.trans e3))⟩
theorem rfield_ret (w0:World) (v:Value) (d:DefD) (n i:Nat) (m:MsgD) (f:FieldD) (hd:DefVal w0 v d) (hm:d.msgs[n]?=some m) (hi:m.fields[i]?=some f) (hN:DistM (d.msgs.take n)) (hR:RefsIn d.msgs n) (hD:Dist (m.fields.take i)) (hb:calm d) (hn1:n≤1048576)
 (hg:∀ g∈m.fields.take i,numberB g=true → -4611686018427387904≤g.low∧highOf g≤4611686018427387904) :
 Ret Pg 90 #[v,.int .i64 (n:Int),.int .i64 (i:Int)] w0 fun r w'=>r = .int .i64 (examineC (m.fields.take i) (vI (depsOf (d.msgs.take n))) (vB (strsOf (d.msgs.take n))) f)∧Ext w0 w':=by
 obtain ⟨mv,rfl,hM⟩:=hd
 have hM0:=hM
 refine n28s (R:=retR _) ?_;unfold n28
 rw [op_boxA]
 have hBW:=ElemAt.new (w:=w0) (defCells d mv) (28)
 have eW:Ext w0 (w0.alloc (Obj.cells (List.toArray (defCells d mv)) (28))):=(Ext.refl _).alloc _
 generalize (w0.alloc (Obj.cells (List.toArray (defCells d mv)) (28)))=W at hBW eW ⊢
 obtain ⟨bm,om,cm,rfl,_,_,_,hnl,hel⟩:=open1 hM hm
 obtain ⟨csm,_,hAm,hEm⟩:=hel n m hm
 obtain ⟨fv,rfl,hF⟩:=hEm
 have hF0:=hF
 obtain ⟨bf,of,cf,rfl,_,_,_,hil,helf⟩:=open1 hF hi
 obtain ⟨csf,_,hAf,hEf⟩:=helf i f hi
 obtain ⟨tv,cv,rfl,hT,hC,ht1,hc1⟩:=hEf.op
 simp (disch:=try exact DI) only [↓PR,QR,simprocAttr,hBW.c3 (Ext.refl W),hAm.c2 eW,hAf.c15 eW]
 have hBX:=ElemAt.new (w:=W) (fieldCells f tv cv) (48)
 have eX:Ext W (W.alloc (Obj.cells (List.toArray (fieldCells f tv cv)) (48))):=(Ext.refl _).alloc _
 generalize (W.alloc (Obj.cells (List.toArray (fieldCells f tv cv)) (48)))=X at hBX eX ⊢
 have EX:Ext w0 X:=eW.trans eX
 unfold examineC
 refine zcr (rName_ret _ _) fun w1 e1=>?_
 have E1:=EX.trans e1
 cases hnm:nameB f.name with
 | false=>simp (disch:=try exact DI) only [↓PR,QR,simprocAttr];exact ⟨rfl,E1⟩
 | true =>
 simp (disch:=try exact DI) only [↓PR,QR,simprocAttr]
 refine drawK_intro ?_
 simp (disch:=try exact DI) only [↓PR,QR,simprocAttr,hBW.c3 (eX.trans e1),hBX.c15 e1,hAm.c2 E1,↓n28c1,↓n28c2,↓n28c3,↓n28c4]
 refine zcr (rField_ret _ _ m f.name i ⟨_,rfl,hF0.ext E1.drew⟩ (Nat.le_of_lt hil)) fun w2 e2=>?_
 have e12:=e1.drew.trans e2
 refine ⟨e2,?_⟩
 have hdi:=idx_neg (p:=fun m:FieldD=>decide (m.name=f.name)) (l:=m.fields.take i)
 cases hs:(m.fields.take i).any (fun m=>decide (m.name=f.name)) with
 | true =>
  rw [hs] at hdi
  simp (disch:=try exact DI) only [↓PR,QR,simprocAttr,hdi,↓n28c1,↓n28c2,↓n28c3,↓n28c4]
  exact ⟨rfl,EX.trans e12⟩
 | false =>
 rw [hs] at hdi
 simp (disch:=try exact DI) only [↓PR,QR,simprocAttr,hdi,hBX.c15 e12,↓n28c1,↓n28c2,↓n28c3,↓n28c4]
 have hkk:(decide (f.kind < 1)||decide (12 < f.kind))=!decide (1≤f.kind∧f.kind≤12):=by
  rw [Bool.eq_iff_iff];simp only [Bool.or_eq_true,decide_eq_true_eq,Bool.not_eq_true',decide_eq_false_iff_not];omega
 rw [hkk]
 cases hk:decide (1≤f.kind∧f.kind≤12) with
 | false=>simp (disch:=try exact DI) only [↓PR,QR,simprocAttr];exact ⟨rfl,EX.trans e12⟩
 | true =>
 have hk':1≤f.kind∧f.kind≤12:=by simpa using hk
 simp (disch:=try exact DI) only [↓PR,QR,simprocAttr,hBX.c15 e12]
 refine zcr (rzero_ret _ _ f ⟨_,_,rfl,hT.ext (EX.trans e12),hC.ext (EX.trans e12)⟩ hk') fun w3 e3=>?_
 have e13:=e12.trans e3
 rw [zeroB_clear hk']
 cases hz:decide (clearK f=bareF f) with
 | false=>simp (disch:=try exact DI) only [↓PR,QR,simprocAttr,↓n28c1,↓n28c2,↓n28c3,↓n28c4];exact ⟨rfl,EX.trans e13⟩
 | true =>
 simp (disch:=try exact DI) only [↓PR,QR,simprocAttr,hBW.c3 (eX.trans e13),↓n28c1,↓n28c2,↓n28c3,↓n28c4]
 refine zcr (rkinds_ret _ _ d n i m f ⟨_,rfl,hM0.ext (EX.trans e13)⟩ hm hi hN hR hD hb hn1 hg hk') fun w4 e4=>?_
 exact ⟨_,rfl,rfl,EX.trans (e13.trans e4)⟩
theorem Fine.dist {l:List MsgD} (h:Fine l):DistM l:=by
 refine List.pairwise_iff_getElem.2 fun i j hi hj hij hn=>?_
 have h6:=(next_parts (h.next (List.getElem?_eq_getElem hj))).2.1
 rw [← Option.not_isSome_iff_eq_none,isD] at h6
 exact h6 ⟨l[i],List.mem_of_getElem? (i:=i) (by rw [List.getElem?_take,if_pos hij];exact List.getElem?_eq_getElem hi),hn⟩
theorem next_refs {deps:List (ByteArray×Int)} {strs:List (ByteArray×Bool)} (hds:∀ s,(lastP strs s).isSome=true→(lastP deps s).isSome=true) {m:MsgD} (h:(fieldsP deps strs [] m.fields).2=0):∀ s∈refsL m,(lastP deps s).isSome=true :=
 fun s hs=>(fields_mono (Sub.refl _) (Sub.refl _) hds _ _ h).2 s (mem_refsM hs)
theorem any_isD {l:List MsgD} {s:ByteArray} (h:(lastP (depsOf l) s).isSome=true):(l.any fun m=>decide (m.name=s))=true:=by
 obtain ⟨m,hm,hn⟩:=isD.1 h
 exact List.any_eq_true.2 ⟨m,hm,by simpa using hn⟩
theorem Fine.refsIn {l:List MsgD} {n:Nat} (h:Fine (l.take n)):RefsIn l n:=by
 intro k m hk hm s hs
 have hm':(l.take n)[k]?=some m:=by rw [List.getElem?_take,if_pos hk];exact hm
 obtain ⟨_,_,_,h4,_⟩:=next_parts (h.next hm')
 rw [List.take_take,Nat.min_eq_left (by omega)] at h4
 exact any_isD (next_refs (ds_of _) h4 s hs)
def FineF (deps:List (ByteArray×Int)) (strs:List (ByteArray×Bool)) (l:List FieldD):Prop:=∀ (j:Nat) (f:FieldD),l[j]?=some f→examineC (l.take j) (vI deps) (vB strs) f=0
section
variable {deps:List (ByteArray×Int)} {strs:List (ByteArray×Bool)} {l:List FieldD}
theorem exam_parts {bef:List FieldD} {D S:List (ByteArray×Value)} {f:FieldD} (h:examineC bef D S f=0):(bef.any fun o=>decide (o.name=f.name))=false∧checkC bef D S f=0:=by
 unfold examineC at h
 obtain ⟨_,h⟩:=orC_iff.1 h
 obtain ⟨h2,h⟩:=orC_iff.1 h
 obtain ⟨_,h⟩:=orC_iff.1 h
 obtain ⟨_,h⟩:=orC_iff.1 h
 exact ⟨by simpa using (needC_iff (by decide)).1 h2,h⟩
theorem FineF.dist (h:FineF deps strs l):Dist l:=by
 refine List.pairwise_iff_getElem.2 fun i j hi hj hij hn=>?_
 have h6:=(exam_parts (h j _ (List.getElem?_eq_getElem hj))).1
 rw [List.any_eq_false] at h6
 exact h6 l[i] (List.mem_of_getElem? (i:=i) (by rw [List.getElem?_take,if_pos hij];exact List.getElem?_eq_getElem hi)) (by simpa using hn)
theorem FineF.step {k:Nat} {f:FieldD} (h:FineF deps strs (l.take k)) (hk:l[k]?=some f) (hf:examineC (l.take k) (vI deps) (vB strs) f=0):FineF deps strs (l.take (k+1)):=by
 intro j g hg
 rw [List.getElem?_take] at hg
 split at hg
 · rename_i hj
   rw [List.take_take,Nat.min_eq_left (by omega)]
   by_cases hjk:j=k
   · subst hjk;rw [hk] at hg;injection hg with hg;subst hg;exact hf
   · have:=h j g (by rw [List.getElem?_take,if_pos (by omega)];exact hg)
     rwa [List.take_take,Nat.min_eq_left (by omega)] at this
 · cases hg
theorem pow_bits {n:Int} (h1:1≤n) (h2:n≤32):(2:Int) ^ n.toNat≤4294967296:=by
 have hle:n.toNat≤32:=by omega
 have hq:(2:Nat) ^ n.toNat≤2 ^ 32:=Nat.pow_le_pow_right (by decide) hle
 have hc:(2:Int) ^ n.toNat=((2 ^ n.toNat:Nat):Int):=by simp
 rw [hc]
 have:(2:Nat) ^ 32=4294967296:=rfl
 omega
theorem num_bounds {bef:List FieldD} {D S:List (ByteArray×Value)} {g:FieldD} (h:checkC bef D S g=0) (hn:numberB g=true):0≤g.low∧g.low≤highOf g∧highOf g≤34359738367:=by
 unfold numberB at hn
 simp only [Bool.or_eq_true,beq_iff_eq] at hn
 unfold highOf
 rcases hn with (hk | hk) | hk
 · rw [show checkC bef D S g=orC (needC (bitsB g) 6) (withinC (topF g) 0 [g.low,g.high]) by unfold checkC;rw [hk];rfl] at h
   obtain ⟨h1,h2⟩:=orC_iff.1 h
   have hb:=(needC_iff (by decide)).1 h1
   unfold bitsB at hb
   simp only [Bool.and_eq_true,decide_eq_true_eq] at hb
   have hp:=pow_bits hb.1.1 hb.1.2
   rw [within2] at h2
   unfold topF at h2
   split at h2
   · cases h2
   · rw [hk]
     show 0≤g.low∧g.low≤g.high∧g.high≤34359738367
     omega
 · rw [show checkC bef D S g=orC (needC (bitsB g) 6) (withinC (topF g) 0 [g.low]) by unfold checkC;rw [hk];rfl] at h
   obtain ⟨h1,h2⟩:=orC_iff.1 h
   have hb:=(needC_iff (by decide)).1 h1
   unfold bitsB at hb
   simp only [Bool.and_eq_true,decide_eq_true_eq] at hb
   have hp:=pow_bits hb.1.1 hb.1.2
   rw [within1] at h2
   unfold topF at h2
   split at h2
   · cases h2
   · rw [hk]
     show 0≤g.low∧g.low≤g.low∧g.low≤34359738367
     omega
 · rw [show checkC bef D S g=withinC 34359738367 0 [g.low,g.high] by unfold checkC;rw [hk];rfl,within2] at h
   split at h
   · cases h
   · rw [hk]
     show 0≤g.low∧g.low≤g.high∧g.high≤34359738367
     omega
theorem FineF.bounds (h:FineF deps strs l):∀ g∈l,numberB g=true → -4611686018427387904≤g.low∧highOf g≤4611686018427387904:=by
 intro g hg hn
 obtain ⟨j,hj⟩:=List.getElem?_of_mem hg
 have:=num_bounds (exam_parts (h j g hj)).2 hn
 omega
end
def DRow (w:World) (b:Nat) (L:List Int):Prop:=w.heap[b]?=some (.cells (L.map fun n=>Value.int .i64 n).toArray 3 (0,0))
theorem DRow.ext {w w':World} {b:Nat} {L:List Int} (h:DRow w b L) (e:Ext w w'):DRow w' b L:=e.obj h
theorem DRow.cell {w:World} {b:Nat} {L:List Int} (h:DRow w b L) {k:Nat} {n:Int} (hk:L[k]?=some n):w.cell? ⟨b,k*1,none⟩=some (.int .i64 n):=by
 rw [(cells_of_heap h).1];simp [hk]
theorem DRow.free {w:World} {b:Nat} {L:List Int} (h:DRow w b L) (k:Nat):w.frozen? ⟨b,k,none⟩=false:=(cells_of_heap h).2 k
theorem DRow.set {w:World} {b:Nat} {L:List Int} (h:DRow w b L) (k:Nat) (n:Int):DRow (w.setCell ⟨b,k*1,none⟩ (.int .i64 n)) b (L.set k n):=by
 rw [Nat.mul_one]
 have:=heap_set (o:=k) h (.int .i64 n)
 unfold DRow
 rw [this]
 congr 2
 rw [List.setIfInBounds_toArray,List.map_set]
theorem op_makeInts {QP:List PanicEntry→World→Prop} {w:World} {k:Value→World→Prop} (n:Nat) (hn:n≤1048576):opV Pg (Instr.makeSlice 30 (.int .i64 (n:Int)) (.int .i64 (n:Int))) QP w k =
 k (.slice (some ⟨w.heap.size,0,none⟩) n n) (w.alloc (.cells ((List.replicate n (0:Int)).map fun n=>Value.int .i64 n).toArray 3)):=by
 obtain ⟨⟨i,hi,hs,hby,hz⟩,_⟩:=ty3
 have h1:=by3
 rw [opV_ok (run_make_row (P:=Pg) 30 3 i _ Tryz.underlying30 hi hz hs rfl .i64 .i64 n (by rw [hby];exact Nat.le_trans (Nat.mul_le_mul h1 hn) (by decide)) (by omega) w)]
 congr 3
 rw [List.map_replicate,← toList_madeCells_one]
section
variable {w0 W w:World} {d:DefD} {mv:Value} (hBW:ElemAt W w0.heap.size 0 (defCells d mv)) (eW:Ext w0 W) (hM:MsgsOf w0 mv d.msgs)
 include hBW eW hM
theorem rcheck_refs {k N lo bd:Nat} {m:MsgD} {L:List Int} {rv t2:Value} {R:RT} {next2:Value→World→Prop} (hkl:k < d.msgs.length) (hN:DistM (d.msgs.take k)) (hrefs:∀ s∈refsL m,(lastP (depsOf (d.msgs.take k)) s).isSome=true) (e:Ext W w) (hbd:W.heap.size≤bd) (hL:DRow w bd L) (hlen:L.length=N)
 (hLk:∀ (j:Nat) (n:Int),((depsOf (d.msgs.take k)).map (·.2))[j]?=some n→L[j]?=some n∧j < k) (h0:L[k]?=some 0) (hS:OwnS w lo rv (refsL m)) (hlo:bd < lo)
 (hn:∀ w',Ext W w'→DRow w' bd (L.set k (depthM (depsOf (d.msgs.take k)) m))→n18c6 t2 (.int .i64 (k:Int)) (.slice (some ⟨bd,0,none⟩) N N) next2 R w') :
 loop1 (fun t10 w next5=>n18c7 (.pointer (some ⟨w0.heap.size,0,none⟩)) t2 (.int .i64 (k:Int)) t10 (.slice (some ⟨bd,0,none⟩) N N) rv next2 next5 R w) (.int .i64 0) w:=by
 have hkN:k < N:=by rw [← hlen];exact (List.getElem?_eq_some_iff.1 h0).1
 refine loop1_intro (fun a w'=>∃ j:Nat,a = .int .i64 j∧j≤(refsL m).length∧Ext W w'∧DRow w' bd (L.set k (((refsL m).take j).foldl (fun d' s=>maxI d' ((lastP (depsOf (d.msgs.take k)) s).getD 0)) 0))∧OwnS w' lo rv (refsL m)) (fun b _=>(refsL m).length - (intOf b).toNat) ⟨0,rfl,by omega,e,by
  have:L.set k (((refsL m).take 0).foldl (fun d' s=>maxI d' ((lastP (depsOf (d.msgs.take k)) s).getD 0)) 0)=L:=by
   refine List.ext_getElem? fun j=>?_
   rw [List.getElem?_set]
   split
   · rename_i h;subst h;rw [h0];simp [hlen,hkN]
   · rfl
  rw [this];exact hL,hS⟩ ?_
 rintro _ w1 ⟨j,rfl,hj,e1,hL1,hS1⟩
 have hSl:=hS1.slice (E:=EStr) (fun _=>rfl) (fun _ _=>rfl)
 obtain ⟨Ar,cr,rfl,hlr,hcr,hlmr,helr⟩:=SliceOf.open hSl
 have E1:=eW.trans e1
 unfold n18c7
 rcases drop_cases hj with ⟨s,hx,hdr,hlt,hdec⟩ | ⟨hj,hdr,hdec⟩
 · obtain ⟨bs,os,css,rfl,_,hAs,rfl⟩:=helr j s hx
   have hstep:((refsL m).take (j+1)).foldl (fun d' s=>maxI d' ((lastP (depsOf (d.msgs.take k)) s).getD 0)) 0=maxI (((refsL m).take j).foldl (fun d' s=>maxI d' ((lastP (depsOf (d.msgs.take k)) s).getD 0)) 0) ((lastP (depsOf (d.msgs.take k)) s).getD 0):=by rw [take_snoc hx,List.foldl_append];rfl
   generalize (((refsL m).take j).foldl (fun d' s=>maxI d' ((lastP (depsOf (d.msgs.take k)) s).getD 0)) 0)=c at hL1 hstep
   have hck:(L.set k c)[k]?=some c:=by rw [List.getElem?_set,if_pos rfl,if_pos (by omega)]
   simp (disch:=try exact DI) only [↓PR,QR,simprocAttr,hdec]
   refine drawK_intro ?_
   unfold n18c4
   simp (disch:=try exact DI) only [↓PR,QR,simprocAttr,hL1.cell hck,hBW.c3 e1,hAs.c1 (Ext.refl w1)]
   refine zcr (rFind_ret _ _ d s k ⟨_,rfl,hM.ext E1.drew⟩ (Nat.le_of_lt hkl)) fun w2 e2=>?_
   have e12:Ext w1 w2:=(Ext.refl w1).drew.trans e2
   refine narrowK_same e2 ?_
   unfold n18c3
   rcases first_last (keysD (d.msgs.take k)) hN s with ⟨_,h2⟩ | ⟨q,b,h1,_,h3,h4⟩
   · have:=hrefs s (List.mem_of_getElem? hx)
     rw [h2] at this
     cases this
   · obtain ⟨hLq,hqk⟩:=hLk q b (by rw [List.getElem?_map,h3];rfl)
     have hcq:(L.set k c)[q]?=some b:=by rw [List.getElem?_set,if_neg (by omega)];exact hLq
     rw [h1]
     have hq2:q < N:=by omega
     have hL2:=hL1.ext e12
     simp (disch:=try exact DI) only [↓PR,QR,simprocAttr,hL1.cell hcq,hL2.cell hck,hL2.free]
     refine turnK_intro ?_
     simp (disch:=try exact DI) only [↓PR,QR,simprocAttr]
     refine ⟨⟨j+1,rfl,hlt,(e1.trans e12).setCell hbd _,?_,((hS1.ext e12).range.only (Only.setCell w2 bd _ _) (.inr (.inl hlo))).1⟩,meas_lt (kd := .i64) hlt⟩
     rw [hstep,h4]
     have:=hL2.set k (if b > c then b else c)
     rw [List.set_set] at this
     exact this
 · subst hj
   rw [List.take_length] at hL1
   simp (disch:=try exact DI) only [↓PR,QR,simprocAttr,hdec]
   exact hn w1 e1 hL1
end
def IRow (w:World) (b:Nat) (L:List Int):Prop:=w.heap[b]?=some (.cells (L.map fun x=>Value.int .i64 x).toArray 3 (0,0))
theorem IRow.ext {w w':World} {b:Nat} {L:List Int} (h:IRow w b L) (e:Ext w w'):IRow w' b L:=e.obj h
theorem IRow.get {w:World} {b:Nat} {L:List Int} (h:IRow w b L) {i:Nat} {x:Int} (hi:L[i]?=some x):w.cell? ⟨b,i,none⟩=some (.int .i64 x):=by rw [(cells_of_heap h).1];simp [hi]
theorem IRow.set {w:World} {b:Nat} {L:List Int} (h:IRow w b L) (i:Nat) (x:Int):IRow (w.setCell ⟨b,i,none⟩ (.int .i64 x)) b (L.set i x):=by
 have:=heap_set (o:=i) h (.int .i64 x)
 unfold IRow
 rw [this,List.setIfInBounds_toArray,List.map_set]
def tbl (n:Nat) (p:Nat→Int):List Int:=(List.range n).map p
theorem tbl_get {n i:Nat} {p:Nat→Int} (h:i < n):(tbl n p)[i]?=some (p i):=by simp [tbl,h]
theorem tbl_len (n:Nat) (p:Nat→Int):(tbl n p).length=n:=by simp [tbl]
theorem tbl_set {n i:Nat} {p:Nat→Int} {x:Int} (h:i < n):(tbl n p).set i x=tbl n (fun j=>if j=i then x else p j):=by
 apply List.ext_getElem?
 intro j
 by_cases hj:j < n
 · rw [tbl_get hj]
   by_cases hji:j=i
   · subst hji;rw [if_pos rfl,List.getElem?_set_self (by rw [tbl_len];exact hj)]
   · rw [if_neg hji,List.getElem?_set_ne (Ne.symm hji),tbl_get hj]
 · rw [List.getElem?_eq_none (by rw [List.length_set,tbl_len];omega),List.getElem?_eq_none (by rw [tbl_len];omega)]
section
variable {to:Nat} {l:List MsgD} {k:Nat} {m:MsgD}
theorem refsI_at (hm:l[k]?=some m) {q j:Nat} {s:ByteArray} (hs:(refsM m)[q]?=some s) (hj:idx (fun x=>decide (x.name=s)) l=(j:Int)):(refsI l k)[q]?=some (j:Int):=by
 unfold refsI
 rw [hm]
 simp only [List.getElem?_map,hs,Option.map_some,hj]
theorem refsI_len (hm:l[k]?=some m):(refsI l k).length=(refsM m).length:=by
 unfold refsI
 rw [hm]
 simp
def gK (to:Nat) (l:List MsgD) (k q:Nat):Int:=((refsI l k).take q).foldl (fun n x=>minI' n (1+((distL to l k)[x.toNat]?).getD 1000)) 1000
theorem gK_zero:gK to l k 0=1000:=rfl
theorem gK_succ {q j:Nat} (hj:(refsI l k)[q]?=some (j:Int)) (hk:j < k):gK to l k (q+1)=minI' (gK to l k q) (1+dN to l j):=by
 unfold gK
 rw [take_snoc hj,List.foldl_append]
 simp only [List.foldl_cons,List.foldl_nil,Int.toNat_natCast]
 rw [distL_get to k j hk]
 rfl
theorem gK_all (hk:k≠to):gK to l k (refsI l k).length=dN to l k:=by
 unfold gK
 rw [List.take_length,dN_fold hk]
def BestK (to:Nat) (l:List MsgD) (k q:Nat) (nx:Int):Prop:=(nx = -1∧∀ x∈(refsI l k).take q,dN to l x.toNat≠dN to l k - 1)∨(∃ i:Nat,nx=i∧(i:Int)∈(refsI l k).take q∧dN to l i=dN to l k - 1∧∀ x∈(refsI l k).take q,dN to l x.toNat=dN to l k - 1→(i:Int)≤x)
theorem best_zero:BestK to l k 0 (-1) := .inl ⟨rfl,fun x h=>by simp at h⟩
theorem best_keep {q j:Nat} {nx:Int} (h:BestK to l k q nx) (hj:(refsI l k)[q]?=some (j:Int)) (hn:¬ (dN to l j=dN to l k - 1∧(nx < 0∨(j:Int) < nx))):BestK to l k (q+1) nx:=by
 unfold BestK
 rw [take_snoc hj]
 rcases h with ⟨h1,h2⟩ | ⟨i,h1,h2,h3,h4⟩
 · refine .inl ⟨h1,fun x hx=>?_⟩
   rcases List.mem_append.1 hx with hx | hx
   · exact h2 x hx
   · simp only [List.mem_singleton] at hx
     subst hx
     rw [Int.toNat_natCast]
     exact fun he=>hn ⟨he,.inl (by omega)⟩
 · refine .inr ⟨i,h1,List.mem_append_left _ h2,h3,fun x hx he=>?_⟩
   rcases List.mem_append.1 hx with hx | hx
   · exact h4 x hx he
   · simp only [List.mem_singleton] at hx
     subst hx
     rw [Int.toNat_natCast] at he
     have:=fun h=>hn ⟨he,.inr h⟩
     omega
theorem best_take {q j:Nat} {nx:Int} (h:BestK to l k q nx) (hj:(refsI l k)[q]?=some (j:Int)) (he:dN to l j=dN to l k - 1) (hl:nx < 0∨(j:Int) < nx):BestK to l k (q+1) j:=by
 unfold BestK
 rw [take_snoc hj]
 refine .inr ⟨j,rfl,by simp,he,fun x hx hxe=>?_⟩
 rcases List.mem_append.1 hx with hx | hx
 · rcases h with ⟨h1,h2⟩ | ⟨i,h1,h2,h3,h4⟩
   · exact absurd hxe (h2 x hx)
   · have:=h4 x hx hxe
     omega
 · simp only [List.mem_singleton] at hx
   omega
theorem best_done (hf:Fine l) (hk:k≠to) (hd:dN to l k < 1000) {nx:Int} (h:BestK to l k (refsI l k).length nx):nx=(nextK to l k:Int):=by
 obtain ⟨n1,n2,n3⟩:=next_spec hf hk hd
 unfold BestK at h
 rw [List.take_length] at h
 rcases h with ⟨_,h2⟩ | ⟨i,h1,h2,h3,h4⟩
 · exact absurd (by rw [Int.toNat_natCast];exact n2) (h2 _ (mem_refsI.2 n1))
 · have a:=h4 _ (mem_refsI.2 n1) (by rw [Int.toNat_natCast];exact n2)
   have b:¬ i < nextK to l k:=fun hi=>n3 i hi (mem_refsI.1 h2) h3
   omega
end
def tabD (to:Nat) (l:List MsgD) (at_:Nat) (j:Nat):Int:=if j < at_ then dN to l j else 0
def tabG (to:Nat) (l:List MsgD) (at_ q:Nat) (j:Nat):Int:=if j < at_ then dN to l j else if j=at_ then gK to l at_ q else 0
theorem tabG_set (to:Nat) (l:List MsgD) (at_ q q' n:Nat):(fun j=>if j=at_ then gK to l at_ q' else tabG to l at_ q j)=tabG to l at_ q':=by
 funext j
 unfold tabG
 by_cases h:j=at_
 · subst h;simp
 · rw [if_neg h]
   split
   · rfl
   · rfl
theorem rPath_ret (w0:World) (v:Value) (d:DefD) (to:Nat) (hd:DefVal w0 v d) (ht:calm d) (hc:(checkP d).2.2=0) (hto:to < d.msgs.length):Ret Pg 25 #[v,.int .i64 (to:Int)] w0 fun r w'=>(∃ u,r = .tuple #[u,.bool (decide (dN to d.msgs (startI d) < 1000))]∧RowI w' w0.heap.size u (if dN to d.msgs (startI d) < 1000 then pathP to d.msgs (startI d) else []))∧Ext w0 w':=by
 obtain ⟨mv,rfl,hM⟩:=hd
 have hm1:=SliceOf.oneCell hM
 have hM0:=hM
 obtain ⟨A,c,rfl,hlc,hcm,hlm,hel⟩:=SliceOf.open hM
 obtain ⟨hs,hany,hidx⟩:=start_spec hc
 have hf:=(check_fine hc).2.2.1
 have hl60:=(check_fine hc).2.1.2
 have hidx2:idx (fun m:MsgD=>decide (m.name=d.start)) d.msgs=startI d:=by
  have ha:=hany
  rw [← idx_neg] at ha
  rw [← hidx]
  unfold idx0
  simp at ha
  rw [if_neg (by omega)]
 generalize startI d=s at hs hidx2 ⊢
 have hmost:∀ k,dN to d.msgs k≤1000:=fun k=>dN_most k
 have hpos:∀ k,0≤dN to d.msgs k:=fun k=>dN_pos hf k
 refine n37s (R:=retR _) ?_;unfold n37
 rw [op_boxA]
 have o1:=heap_new w0 (defCells d (.slice A d.msgs.length c)).toArray 28
 have eW:Ext w0 (w0.alloc (.cells (defCells d (.slice A d.msgs.length c)).toArray 28)):=ee
 generalize (w0.alloc (.cells (defCells d (.slice A d.msgs.length c)).toArray 28))=W at o1 eW ⊢
 generalize hp1:w0.heap.size=p1 at o1 ⊢
 have sW:=eW.size
 have hD:∀ w,Ext W w→DefVal w (.agg (defCells d (.slice A d.msgs.length c)).toArray) d:=fun w e=>⟨_,rfl,hM0.ext (eW.trans e)⟩
 simp (disch:=try exact DI) only [↓PR,QR,simprocAttr,(cells_of_heap o1).1]
 rw [op_makeInts d.msgs.length (by omega)]
 have eV:Ext W (W.alloc (.cells ((List.replicate d.msgs.length (0:Int)).map fun x=>Value.int .i64 x).toArray 3)):=ee
 have oR:IRow (W.alloc (.cells ((List.replicate d.msgs.length (0:Int)).map fun x=>Value.int .i64 x).toArray 3)) W.heap.size (tbl d.msgs.length (tabD to d.msgs 0)):=by
  have:=heap_new W ((List.replicate d.msgs.length (0:Int)).map fun x=>Value.int .i64 x).toArray 3
  rw [show tbl d.msgs.length (tabD to d.msgs 0)=List.replicate d.msgs.length 0 by unfold tbl;rw [show tabD to d.msgs 0=fun _=>0 from funext fun i=>if_neg (by omega),List.map_const'];simp]
  exact this
 have sV:=eV.size
 generalize (W.alloc (.cells ((List.replicate d.msgs.length (0:Int)).map fun x=>Value.int .i64 x).toArray 3))=V at eV oR sV ⊢
 generalize hr:W.heap.size=r at oR ⊢
 refine loop1_intro (fun a w=>∃ k:Nat,a = .int .i64 k∧k≤d.msgs.length∧Ext W w∧IRow w r (tbl d.msgs.length (tabD to d.msgs k))) (fun a _=>d.msgs.length - (intOf a).toNat) ⟨0,rfl,by omega,eV,oR⟩ ?_
 rintro _ w3 ⟨k,rfl,hk,e3,oR3⟩
 unfold n37c16
 rcases Nat.lt_or_ge k d.msgs.length with hlt | hge
 · have hdec:decide ((k:Int) < (d.msgs.length:Int))=true:=decide_eq_true (by omega)
   have hwk:IntKind.i64.wrap ((k:Int)+1)=(k:Int)+1:=wrap_ok (by omega) (by omega)
   obtain ⟨m,hm⟩:=getElem?_lt hlt
   obtain ⟨b,o,cs,rfl,_,hA,fv,rfl,hF⟩:=hel k m hm
   have hfv:=SliceOf.oneCell hF
   have hfz:∀ o,w3.frozen? ⟨r,o,none⟩=false:=(cells_of_heap oR3).2
   have c3:=oR3.get (tbl_get (p:=tabD to d.msgs k) hlt)
   have oR4:=oR3.set k 1000
   rw [tbl_set hlt] at oR4
   have e4:Ext W (w3.setCell ⟨r,k,none⟩ (.int .i64 1000)):=e3.setCell (by show W.heap.size≤r;omega) _
   have q4:=(cells_of_heap (e4.obj o1)).1
   have h4:=hA.c2 (eW.trans e4)
   simp (disch:=try exact DI) only [↓PR,QR,simprocAttr,hdec,(cells_of_heap (e3.obj o1)).1,↓n37c15,c3,hfz,q4,h4,Nat.mul_one,Nat.zero_add]
   rw [show (fun j=>if j=k then (1000:Int) else tabD to d.msgs k j)=tabG to d.msgs k 0 from funext fun j=>by
    unfold tabD tabG
    by_cases h:j=k
    · subst h;simp [gK_zero]
    · rw [if_neg h]
      split
      · rfl
      · rfl] at oR4
   clear hfz c3 q4 h4
   generalize (w3.setCell ⟨r,k,none⟩ (.int .i64 1000))=w4 at oR4 e4 ⊢
   refine callK_ret (rRefers_ret _ _ m ⟨_,rfl,hF.ext (eW.trans e4)⟩ (ht m (List.mem_of_getElem? hm)).1) ?_
   rintro rv w5 ⟨hT,e5⟩
   have g5:=e4.trans e5
   have oR5:=oR4.ext e5
   have s4:=(Array.getElem?_eq_some_iff.1 oR4).1
   have hrl:(refsM m).length≤1048576:=Nat.le_trans (dedup_len _ _) (ht m (List.mem_of_getElem? hm)).1
   have hTs:SliceOf w5 1 EStr rv (refsM m):=hT.slice (fun _=>rfl) (fun _ _=>rfl)
   obtain ⟨Ar,cr,rfl,hlr,hcr,hlmr,helr⟩:=SliceOf.open hTs
   refine loop1_intro (fun a w=>∃ q:Nat,a = .int .i64 q∧q≤(refsM m).length∧Ext W w∧OwnS w w4.heap.size (.slice Ar (refsM m).length cr) (refsM m)∧IRow w r (tbl d.msgs.length (tabG to d.msgs k q))) (fun a _=>(refsM m).length - (intOf a).toNat) ⟨0,rfl,by omega,g5,hT,oR5⟩ ?_
   rintro _ w6 ⟨q,rfl,hq,g6,hT6,oR6⟩
   unfold n37c4
   rcases drop_cases hq with ⟨x,hx,_,hltq,hdecq⟩ | ⟨hqe,_,hdecq⟩
   · obtain ⟨j,_,hjl,_,_,hix,hix2⟩:=fine_idx hf hm (List.mem_of_getElem? hx)
     have hRq:=refsI_at hm hx hix
     have hgs:=gK_succ (to:=to) hRq hjl
     obtain ⟨_,_,hv,_,_,_,hel6⟩:=SliceOf.open (hT6.slice (E:=EStr) (fun _=>rfl) (fun _ _=>rfl))
     injection hv with hv _ hv'
     subst hv hv'
     obtain ⟨b6,o6,cs6,rfl,_,hA6,rfl⟩:=hel6 q _ hx
     have a6:w6.cell? ⟨b6,o6+q,none⟩=some (.string x):=by have:=hA6.c1 (Ext.refl w6);simpa using this
     have hjn:j < d.msgs.length:=by omega
     have eD:Ext w6 w6.drew:=(Ext.refl w6).wdrew
     have ck:w6.cell? ⟨r,k,none⟩=some (.int .i64 (gK to d.msgs k q)):=by
      rw [oR6.get (tbl_get (p:=tabG to d.msgs k q) hlt)]
      unfold tabG
      rw [if_neg (by omega),if_pos rfl]
     simp (disch:=try exact DI) only [↓PR,QR,simprocAttr,hdecq]
     refine drawK_intro ?_
     have g7:=g6.wdrew
     unfold n37c2
     simp (disch:=try exact DI) only [↓PR,QR,simprocAttr,ck,(cells_of_heap (g6.obj o1)).1,a6,Nat.mul_one,Nat.zero_add]
     refine zcr (rFind_ret _ _ d x k ⟨_,rfl,hM0.ext (eW.trans g7)⟩ (by omega)) fun w7 e7=>?_
     refine narrowK_EC e7 ?_
     rw [hix2]
     have oR7:=oR6.ext (eD.trans e7)
     have hT7:=hT6.ext (eD.trans e7)
     have g8:=g7.trans e7
     have s7:=(eD.trans e7).size
     have cj:w7.cell? ⟨r,j,none⟩=some (.int .i64 (dN to d.msgs j)):=by
      rw [oR7.get (tbl_get (p:=tabG to d.msgs k q) hjn)]
      unfold tabG
      rw [if_pos hjl]
     have ck7:w7.cell? ⟨r,k,none⟩=some (.int .i64 (gK to d.msgs k q)):=by
      rw [oR7.get (tbl_get (p:=tabG to d.msgs k q) hlt)]
      unfold tabG
      rw [if_neg (by omega),if_pos rfl]
     have hfz:∀ o,w7.frozen? ⟨r,o,none⟩=false:=(cells_of_heap oR7).2
     have hw1:IntKind.i64.wrap (1+dN to d.msgs j)=1+dN to d.msgs j:=wrap_ok (by have:=hpos j;omega) (by have:=hmost j;omega)
     have oR8:=oR7.set k (gK to d.msgs k (q+1))
     rw [tbl_set hlt,tabG_set to d.msgs k q (q+1) d.msgs.length] at oR8
     have hgs2:(if 1+dN to d.msgs j < gK to d.msgs k q then 1+dN to d.msgs j else gK to d.msgs k q)=gK to d.msgs k (q+1):=hgs.symm
     have hwq:IntKind.i64.wrap ((q:Int)+1)=(q:Int)+1:=wrap_ok (by omega) (by omega)
     unfold n37c1
     simp (disch:=try exact DI) only [↓PR,QR,simprocAttr,cj,ck7,hfz,hw1,hgs2,Nat.mul_one,Nat.zero_add]
     refine turnK_intro ?_
     simp (disch:=try exact DI) only [↓PR,QR,simprocAttr,hwq]
     refine ⟨⟨q+1,rfl,by omega,g8.setCell (by show W.heap.size≤r;omega) _,?_,oR8⟩,meas_lt (kd := .i64) hltq⟩
     exact (OwnR.only (lo:=w4.heap.size) (hi:=w7.heap.size) ⟨hT7,fun b hb=>(hT7.lt b hb).2⟩ (Only.setCell w7 r k _) (.inr (.inl s4))).1
   · subst hqe
     simp (disch:=try exact DI) only [↓PR,QR,simprocAttr,hdecq,↓n37c3]
     by_cases hkt:k=to
     · subst hkt
       have hkk:((k:Int) == (k:Int))=true:=by simp
       have hfz:∀ o,w6.frozen? ⟨r,o,none⟩=false:=(cells_of_heap oR6).2
       have ck:=oR6.get (tbl_get (p:=tabG k d.msgs k (refsM m).length) hlt)
       have oR8:=oR6.set k 0
       rw [tbl_set hlt,show (fun j=>if j=k then (0:Int) else tabG k d.msgs k (refsM m).length j)=tabD k d.msgs (k+1) from funext fun j=>by
        unfold tabD tabG
        by_cases h:j=k
        · subst h;rw [if_pos rfl,if_pos (by omega),dN_to]
        · rw [if_neg h]
          by_cases h2:j < k
          · rw [if_pos h2,if_pos (by omega)]
          · rw [if_neg h2,if_neg h,if_neg (by omega)]] at oR8
       simp (disch:=try exact DI) only [↓PR,QR,simprocAttr,hkk,ck,hfz,hwk,Nat.mul_one,Nat.zero_add]
       exact ⟨⟨k+1,rfl,by omega,g6.setCell (by show W.heap.size≤r;omega) _,oR8⟩,meas_lt (kd := .i64) hlt⟩
     · have hkk:((k:Int) == (to:Int))=false:=by rw [beq_eq_false_iff_ne];omega
       rw [show tabG to d.msgs k (refsM m).length=tabD to d.msgs (k+1) from funext fun j=>by
        unfold tabD tabG
        by_cases h:j=k
        · subst h;rw [if_neg (by omega),if_pos rfl,if_pos (by omega),← refsI_len hm,gK_all hkt]
        · by_cases h2:j < k
          · rw [if_pos h2,if_pos (by omega)]
          · rw [if_neg h2,if_neg h,if_neg (by omega)]] at oR6
       simp (disch:=try exact DI) only [↓PR,QR,simprocAttr,hkk,hwk]
       exact ⟨⟨k+1,rfl,by omega,g6,oR6⟩,meas_lt (kd := .i64) hlt⟩
 · have hkn:k=d.msgs.length:=by omega
   subst hkn
   have hdec:decide ((d.msgs.length:Int) < (d.msgs.length:Int))=false:=decide_eq_false (by omega)
   have hT:∀ w j,Ext w3 w→j < d.msgs.length→w.cell? ⟨r,j,none⟩=some (.int .i64 (dN to d.msgs j)):=fun w j e hj=>by
    rw [(oR3.ext e).get (tbl_get (p:=tabD to d.msgs d.msgs.length) hj)]
    unfold tabD
    rw [if_pos hj]
   simp (disch:=try exact DI) only [↓PR,QR,simprocAttr,hdec,(cells_of_heap (e3.obj o1)).1,↓n37c14]
   refine zcr (rFind_ret _ _ d d.start d.msgs.length (hD _ e3) (Nat.le_refl _)) fun w4 e4=>?_
   rw [List.take_length,hidx2]
   unfold n37c13
   by_cases hds:dN to d.msgs s < 1000
   case neg =>
    have h0:decide (dN to d.msgs s≥1000)=true:=decide_eq_true (by omega)
    rw [decide_eq_false hds,if_neg hds]
    simp (disch:=try exact DI) only [↓PR,QR,simprocAttr,hT _ _ e4 hs,h0,Nat.mul_one,Nat.zero_add]
    exact ⟨⟨_,rfl,OwnE.nil _ _ _ _ _⟩,eW.trans (e3.trans e4)⟩
   have h0:decide (dN to d.msgs s≥1000)=false:=decide_eq_false (by omega)
   rw [decide_eq_true hds,if_pos hds]
   simp (disch:=try exact DI) only [↓PR,QR,simprocAttr,hT _ _ e4 hs,h0,Nat.mul_one,Nat.zero_add]
   have E4:=e3.trans e4
   have eY:Ext w4 (w4.alloc (.cells #[.int .i64 (s:Int)] 3)):=ee
   have oY:=heap_new w4 #[.int .i64 (s:Int)] 3
   generalize (w4.alloc (.cells #[.int .i64 (s:Int)] 3))=Y at eY oY ⊢
   have hRow:RowI Y w4.heap.size (.slice (some ⟨w4.heap.size,0,none⟩) 1 1) (preP to d.msgs s 0):=rowI_of (l:=[(s:Int)]) ⟨rfl,.inr ⟨_,1,_,rfl,Nat.le_refl _,oY,Nat.le_refl _,by decide,rfl,rfl⟩⟩
   have s4:=E4.size
   refine loop2_intro (fun a out w=>∃ j:Nat,a = .int .i64 (pk to d.msgs s j:Nat)∧(j:Int)≤dN to d.msgs s∧Ext w4 w∧RowI w w4.heap.size out (preP to d.msgs s j)) (fun a _ _=>(intOf a).toNat) ⟨0,rfl,hpos s,eY,hRow⟩ ?_
   rintro _ out w5 ⟨j,rfl,hj,e5,hR⟩
   have ho1:=SliceOf.oneCell hR.ints
   have hpk:=pk_lt hf hs hds j hj
   have hdist:=pk_dist hf hds j hj
   have E5:=E4.trans e5
   unfold n37c12
   have hcell:=hT _ (pk to d.msgs s j) (e4.trans e5) hpk
   rw [hdist] at hcell
   by_cases hjd:(j:Int) < dN to d.msgs s
   case neg =>
    have hjj:(j:Int)=dN to d.msgs s:=by omega
    have hgt:decide (dN to d.msgs s - (j:Int) > 0)=false:=decide_eq_false (by omega)
    have hpath:preP to d.msgs s j=pathP to d.msgs s:=by unfold pathP;rw [← hjj,Int.toNat_natCast]
    simp (disch:=try exact DI) only [↓PR,QR,simprocAttr,hcell,hgt,Nat.mul_one,Nat.zero_add]
    rw [hpath] at hR
    exact ⟨⟨_,rfl,OwnE.base hR (by omega)⟩,eW.trans E5⟩
   have hgt:decide (dN to d.msgs s - (j:Int) > 0)=true:=decide_eq_true (by omega)
   have hne:pk to d.msgs s j≠to:=fun he=>by rw [he,dN_to] at hdist;omega
   have hps:pk to d.msgs s (j+1)=nextK to d.msgs (pk to d.msgs s j):=rfl
   have hbd:=fun {nx:Int} h=>best_done (nx:=nx) hf hne (by omega) h
   have hnl:=(to_lt hf (pk_to hf hds hjd)).1
   have hlen:=pre_len (to:=to) (l:=d.msgs) (s:=s) j
   have hsuc:=pre_succ (to:=to) (l:=d.msgs) (s:=s) j
   have hnlen:=pk_lt hf hs hds (j+1) (by omega)
   generalize pk to d.msgs s j=at_ at hpk hdist hcell hne hps hbd hnl ⊢
   obtain ⟨m,hm⟩:=getElem?_lt hpk
   obtain ⟨b,o,cs,rfl,_,hA,fv,rfl,hF⟩:=hel at_ m hm
   have hfv:=SliceOf.oneCell hF
   simp (disch:=try exact DI) only [↓PR,QR,simprocAttr,hcell,hgt,(cells_of_heap (E5.obj o1)).1,↓n37c11,hA.c2 (eW.trans E5),Nat.mul_one,Nat.zero_add]
   refine callK_ret (rRefers_ret _ _ m ⟨_,rfl,hF.ext (eW.trans E5)⟩ (ht m (List.mem_of_getElem? hm)).1) ?_
   rintro rv w6 ⟨hT6,e6⟩
   have hrl:(refsM m).length≤1048576:=Nat.le_trans (dedup_len _ _) (ht m (List.mem_of_getElem? hm)).1
   have hTs:SliceOf w6 1 EStr rv (refsM m):=hT6.slice (fun _=>rfl) (fun _ _=>rfl)
   obtain ⟨Ar,cr,rfl,hlr,hcr,hlmr,helr⟩:=SliceOf.open hTs
   refine loop2_intro (fun nx a w=>∃ (q:Nat) (n:Int),nx = .int .i64 n∧a = .int .i64 q∧q≤(refsM m).length∧Ext w6 w∧BestK to d.msgs at_ q n) (fun _ a _=>(refsM m).length - (intOf a).toNat) ⟨0,-1,rfl,rfl,by omega,Ext.refl _,best_zero⟩ ?_
   rintro _ _ w7 ⟨q,n,rfl,rfl,hq,e7,hB⟩
   have E7:=E5.trans (e6.trans e7)
   have e47:=e4.trans (e5.trans (e6.trans e7))
   unfold n37c10
   rcases drop_cases hq with ⟨x,hx,_,hltq,hdecq⟩ | ⟨hqe,_,hdecq⟩
   · obtain ⟨i,_,hil,_,_,hix,hix2⟩:=fine_idx hf hm (List.mem_of_getElem? hx)
     have hRq:=refsI_at hm hx hix
     obtain ⟨b6,o6,cs6,rfl,_,hA6,rfl⟩:=helr q _ hx
     have hin:i < d.msgs.length:=by omega
     have a6:w7.cell? ⟨b6,o6+q,none⟩=some (.string x):=by have:=hA6.c1 e7;simpa using this
     have hwq:IntKind.i64.wrap ((q:Int)+1)=(q:Int)+1:=wrap_ok (by omega) (by omega)
     simp (disch:=try exact DI) only [↓PR,QR,simprocAttr,hdecq]
     refine drawK_intro ?_
     have g7:=E7.wdrew
     unfold n37c9
     simp (disch:=try exact DI) only [↓PR,QR,simprocAttr,(cells_of_heap (E7.obj o1)).1,a6,Nat.mul_one,Nat.zero_add]
     refine zcr (rFind_ret _ _ d x at_ (hD _ g7) (by omega)) fun w8 e8=>?_
     refine ⟨e8,?_⟩
     refine drawK_intro ?_
     rw [hix2]
     have f8:Ext w7 w8.drew:=((Ext.refl w7).wdrew.trans e8).wdrew
     have f8':Ext w7 w8:=(Ext.refl w7).wdrew.trans e8
     have ci:w8.cell? ⟨r,i,none⟩=some (.int .i64 (dN to d.msgs i)):=hT _ i (e47.trans f8') hin
     have ca:w8.cell? ⟨r,at_,none⟩=some (.int .i64 (dN to d.msgs at_)):=hT _ at_ (e47.trans f8') hpk
     have hw1:IntKind.i64.wrap (dN to d.msgs at_ - 1)=dN to d.msgs at_ - 1:=wrap_ok (by have:=hpos at_;omega) (by have:=hmost at_;omega)
     unfold n37c8
     by_cases he:dN to d.msgs i=dN to d.msgs at_ - 1
     · have hee:(dN to d.msgs i == dN to d.msgs at_ - 1)=true:=by rw [he];simp
       by_cases hn0:n < 0
       · have hd0:decide (n < 0)=true:=decide_eq_true hn0
         simp (disch:=try exact DI) only [↓PR,QR,simprocAttr,ci,ca,hw1,hee,hd0,↓n37c7,↓n37c6,↓n37c5,hwq,Nat.mul_one,Nat.zero_add]
         exact ⟨⟨q+1,i,rfl,rfl,by omega,e7.trans f8,best_take hB hRq he (.inl hn0)⟩,meas_lt (kd := .i64) hltq⟩
       · have hd0:decide (n < 0)=false:=decide_eq_false hn0
         by_cases hnl2:(i:Int) < n
         · have hd1:decide ((i:Int) < n)=true:=decide_eq_true hnl2
           simp (disch:=try exact DI) only [↓PR,QR,simprocAttr,ci,ca,hw1,hee,hd0,hd1,↓n37c7,↓n37c6,↓n37c5,hwq,Nat.mul_one,Nat.zero_add]
           exact ⟨⟨q+1,i,rfl,rfl,by omega,e7.trans f8,best_take hB hRq he (.inr hnl2)⟩,meas_lt (kd := .i64) hltq⟩
         · have hd1:decide ((i:Int) < n)=false:=decide_eq_false hnl2
           simp (disch:=try exact DI) only [↓PR,QR,simprocAttr,ci,ca,hw1,hee,hd0,hd1,↓n37c7,↓n37c6,↓n37c5,hwq,Nat.mul_one,Nat.zero_add]
           exact ⟨⟨q+1,n,rfl,rfl,by omega,e7.trans f8,best_keep hB hRq (by omega)⟩,meas_lt (kd := .i64) hltq⟩
     · have hee:(dN to d.msgs i == dN to d.msgs at_ - 1)=false:=by rw [beq_eq_false_iff_ne];exact he
       simp (disch:=try exact DI) only [↓PR,QR,simprocAttr,ci,ca,hw1,hee,↓n37c7,↓n37c6,↓n37c5,hwq,Nat.mul_one,Nat.zero_add]
       exact ⟨⟨q+1,n,rfl,rfl,by omega,e7.trans f8,best_keep hB hRq (fun h=>he h.1)⟩,meas_lt (kd := .i64) hltq⟩
   · subst hqe
     rw [← refsI_len hm] at hB
     obtain rfl:=hbd hB
     rw [← hps]
     simp (disch:=try exact DI) only [↓PR,QR,simprocAttr,hdecq]
     have eZ:Ext w7 (w7.alloc (.cells #[.int .i64 (pk to d.msgs s (j+1):Nat)] 3)):=ee
     have oZ:=heap_new w7 #[.int .i64 (pk to d.msgs s (j+1):Nat)] 3
     generalize (w7.alloc (.cells #[.int .i64 (pk to d.msgs s (j+1):Nat)] 3))=Z at eZ oZ ⊢
     refine append_int (pk to d.msgs s (j+1):Nat) (hR.ext ((e6.trans e7).trans eZ)) (by rw [(cells_of_heap oZ).1];rfl) (e5.trans ((e6.trans e7).trans eZ)).size (by omega) ?_
     intro v' w' hO' hg'
     have e':=hg'.2.1 w4 (e5.trans ((e6.trans e7).trans eZ)) (Nat.le_refl _)
     simp (disch:=try exact DI) only [↓PR,QR,simprocAttr]
     refine ⟨⟨j+1,rfl,by omega,e',by rw [hsuc];exact hO'⟩,?_⟩
     simp only [intOf]
     omega
theorem flaw_out {w0 w:World} {bt:Nat} {x0 x1 x2:Value} {QP QP':List PanicEntry→World→Prop} {k:Value→World→Prop} (e:Ext w0 w) (hb:w0.heap.size≤bt) (h:w.heap[bt]?=some (.cells #[x0,x1,x2] 90 (0,0))) (a f c:Int) (hk:∀ w',Ext w0 w'→k (flawVal a f c) w') :
 opV Pg (Instr.build 90 #[(0,.int .i64 a),(1,.int .i64 f),(2,.int .i64 c)]) QP w fun t w=>opU Pg (Instr.storeAt 90 (.pointer (some ⟨bt,0,none⟩)) t) QP' w fun w=>qW Pg 90 (.pointer (some ⟨bt,0,none⟩)) w fun r0=>k r0 w:=by
 simp (disch:=try exact DI) only [↓PR,QR,simprocAttr,(cells_of_heap h).1,(cells_of_heap h).2]
 exact hk _ (((e.setCell hb _).setCell hb _).setCell hb _)
theorem flaw_tup {d:DefD} {a f c:Int} (h:checkP d=(a,f,c)) (h0:c≠0):Value.tuple #[flawVal a f c,.bool true] = .tuple #[flawOf (checkP d),.bool (flawedB d)]:=by
 unfold flawedB flawOf
 rw [h]
 simp [h0]
theorem msgs_split {l:List MsgD} {k:Nat} (h:Fine (l.take k)) (hk:k≤l.length):msgsP [] [] 0 l=msgsP (depsOf (l.take k)) (strsOf (l.take k)) k (l.drop k):=by
 have:=(msgs_append (l.drop k) (l.take k) [] [] 0).1 h
 rw [List.take_append_drop] at this
 rw [this,List.length_take,Nat.min_eq_left hk,Nat.zero_add]
 rfl
theorem Fine.step {l:List MsgD} {k:Nat} {m:MsgD} (h:Fine (l.take k)) (hm:l[k]?=some m) (h0:(nextP (depsOf (l.take k)) (strsOf (l.take k)) m).2=0):Fine (l.take (k+1)):=by
 rw [take_snoc hm]
 unfold Fine
 rw [(msgs_append [m] (l.take k) [] [] 0).1 h]
 show (msgsP (depsOf (l.take k)) (strsOf (l.take k)) _ [m]).2.2=0
 rw [msgs_cons0 h0]
 rfl
theorem check_bad {d:DefD} {k:Nat} {m:MsgD} {a c:Int} (h1:nameB d.name=true) (h2:1≤d.msgs.length∧d.msgs.length≤60) (h:Fine (d.msgs.take k)) (hm:d.msgs[k]?=some m) (hn:nextP (depsOf (d.msgs.take k)) (strsOf (d.msgs.take k)) m=(a,c)) (h0:c≠0):checkP d=((k:Int),a,c):=by
 have hk:=(List.getElem?_eq_some_iff.1 hm).1
 unfold checkP
 rw [if_pos h1,if_pos h2,msgs_split h (Nat.le_of_lt hk),List.drop_eq_getElem_cons hk,msgs_cons1 (by rw [(List.getElem?_eq_some_iff.1 hm).2,hn];exact h0),(List.getElem?_eq_some_iff.1 hm).2,hn]
 unfold endP
 rw [if_neg h0]
def depL (l:List MsgD) (k:Nat):List Int:=(depsOf (l.take k)).map (·.2)++List.replicate (l.length - k) 0
theorem depD_len (l:List MsgD) {k:Nat} (hk:k≤l.length):((depsOf (l.take k)).map (·.2)).length=k:=by
 have:=congrArg List.length (keysD (l.take k))
 simp only [List.length_map,List.length_take] at this ⊢
 omega
theorem depL_len (l:List MsgD) {k:Nat} (hk:k≤l.length):(depL l k).length=l.length:=by
 unfold depL
 rw [List.length_append,depD_len l hk,List.length_replicate];omega
theorem depL_zero (l:List MsgD) {k:Nat} (hk:k < l.length):(depL l k)[k]?=some 0:=by
 unfold depL
 rw [List.getElem?_append_right (by rw [depD_len l (by omega)];omega),depD_len l (by omega),List.getElem?_replicate,if_pos (by omega)]
theorem depL_old (l:List MsgD) {k:Nat} (hk:k < l.length) (j:Nat) (n:Int) (h:((depsOf (l.take k)).map (·.2))[j]?=some n):(depL l k)[j]?=some n∧j < k:=by
 have hj:=(List.getElem?_eq_some_iff.1 h).1
 rw [depD_len l (by omega)] at hj
 unfold depL
 rw [List.getElem?_append_left (by rw [depD_len l (by omega)];exact hj)]
 exact ⟨h,hj⟩
theorem depL_step {l:List MsgD} {k:Nat} {m:MsgD} (hm:l[k]?=some m):(depL l k).set k (depthM (depsOf (l.take k)) m+1)=depL l (k+1):=by
 have hk:=(List.getElem?_eq_some_iff.1 hm).1
 unfold depL
 rw [List.set_append_right _ _ (by rw [depD_len l (by omega)];omega),depD_len l (by omega),Nat.sub_self,take_snoc hm,deps_snoc,List.map_append,List.append_assoc]
 congr 1
 rw [show l.length - k=(l.length - (k+1))+1 by omega,List.replicate_succ]
 rfl
theorem field_split {deps:List (ByteArray×Int)} {strs:List (ByteArray×Bool)}:∀ (l:List FieldD) (bef:List FieldD) (k:Nat),(∀ (j:Nat) (f:FieldD),j < k→l[j]?=some f→examineC (bef++l.take j) (vI deps) (vB strs) f=0)→fieldsP deps strs (bef++l.take k) (l.drop k)=fieldsP deps strs bef l
 | [],bef,k,_=>by simp
 | f::l,bef,0,_=>by simp
 | f::l,bef,k+1,h=>by
  have h0:=h 0 f (by omega) rfl
  rw [List.take_zero,List.append_nil] at h0
  have ih:=field_split l (bef++[f]) k fun j g hj hg=>by
   have:=h (j+1) g (by omega) (by simpa using hg)
   rw [List.take_succ_cons] at this
   rw [List.append_assoc];exact this
  rw [List.take_succ_cons,List.drop_succ_cons,fieldsP,if_pos h0,← ih,List.append_assoc]
  rfl
theorem FineF.fields {deps:List (ByteArray×Int)} {strs:List (ByteArray×Bool)} {l:List FieldD} {k:Nat} (h:FineF deps strs (l.take k)):fieldsP deps strs (l.take k) (l.drop k)=fieldsP deps strs [] l:=by
 have:=field_split (deps:=deps) (strs:=strs) l [] k fun j f hj hf=>by
  have:=h j f (by rw [List.getElem?_take,if_pos hj];exact hf)
  rwa [List.take_take,Nat.min_eq_left (by omega)] at this
 simpa using this
theorem rCheck_ret (w0:World) (v:Value) (d:DefD) (hd:DefVal w0 v d) (hb:calm d):Ret Pg 52 #[v] w0 fun r w'=>r = .tuple #[flawOf (checkP d),.bool (flawedB d)]∧Ext w0 w':=by
 obtain ⟨mv,rfl,hM⟩:=hd
 have hM0:=hM
 refine n18s (R:=retR _) ?_;unfold n18
 rw [op_boxA]
 have hBW:=ElemAt.new (w:=w0) (defCells d mv) (28)
 have eW:Ext w0 (w0.alloc (Obj.cells (List.toArray (defCells d mv)) (28))):=(Ext.refl _).alloc _
 generalize (w0.alloc (Obj.cells (List.toArray (defCells d mv)) (28)))=W at hBW eW ⊢
 obtain ⟨A,cm,rfl,hlc,hcm,hlm,hel⟩:=SliceOf.open hM
 have sB:w0.heap.size < W.heap.size:=World.block_lt_of_cell? W ⟨w0.heap.size,0,none⟩ (hBW.c3 (Ext.refl W)).1
 simp (disch:=try exact DI) only [↓PR,QR,simprocAttr,hBW.c3 (Ext.refl W)]
 have oV:=heap_new W #[.int .i64 0,.int .i64 0,.int .i64 0] 90
 have eV:Ext W (W.alloc (.cells #[.int .i64 0,.int .i64 0,.int .i64 0] 90)):=(Ext.refl W).alloc _
 have sV:(W.alloc (.cells #[.int .i64 0,.int .i64 0,.int .i64 0] 90)).heap.size=W.heap.size+1:=World.size_alloc _ _
 generalize W.alloc (.cells #[.int .i64 0,.int .i64 0,.int .i64 0] 90)=V at oV eV sV ⊢
 have EV:Ext w0 V:=eW.trans eV
 have sW:=eW.size
 refine zcr (rName_ret _ _) fun w1 e1=>?_
 have E1:=EV.trans e1
 cases hnm:nameB d.name with
 | false =>
  have hc:checkP d=(-1,-1,1):=by unfold checkP;rw [hnm];rfl
  simp (disch:=try exact DI) only [↓PR,QR,simprocAttr]
  unfold n18c23
  exact flaw_out E1 sW (e1.obj oV) _ _ _ fun w' e'=>⟨_,rfl,flaw_tup hc (by decide),e'⟩
 | true =>
 simp (disch:=try exact DI) only [↓PR,QR,simprocAttr,hBW.c3 (eV.trans e1),n18c24]
 have hlen:(decide ((d.msgs.length:Int) < 1)||decide (60 < (d.msgs.length:Int)))=!decide (1≤d.msgs.length∧d.msgs.length≤60):=by
  rw [Bool.eq_iff_iff];simp only [Bool.or_eq_true,decide_eq_true_eq,Bool.not_eq_true',decide_eq_false_iff_not];omega
 rw [hlen]
 by_cases hl:1≤d.msgs.length∧d.msgs.length≤60
 case neg =>
  have hc:checkP d=(-1,-1,3):=by unfold checkP;rw [hnm,if_pos rfl,if_neg hl]
  simp (disch:=try exact DI) only [↓PR,QR,simprocAttr,show decide (1≤d.msgs.length∧d.msgs.length≤60)=false by simpa using hl]
  unfold n18c21
  exact flaw_out E1 sW (e1.obj oV) _ _ _ fun w' e'=>⟨_,rfl,flaw_tup hc (by decide),e'⟩
 case pos =>
 simp (disch:=try exact DI) only [↓PR,QR,simprocAttr,show decide (1≤d.msgs.length∧d.msgs.length≤60)=true by simpa using hl]
 unfold n18c22
 simp (disch:=try exact DI) only [↓PR,QR,simprocAttr,hBW.c3 (eV.trans e1)]
 rw [op_makeInts _ (by omega)]
 have oD:DRow (w1.alloc (.cells ((List.replicate d.msgs.length (0:Int)).map fun n=>Value.int .i64 n).toArray 3)) w1.heap.size (depL d.msgs 0):=heap_new w1 _ _
 have eD:Ext w1 (w1.alloc (.cells ((List.replicate d.msgs.length (0:Int)).map fun n=>Value.int .i64 n).toArray 3)):=(Ext.refl w1).alloc _
 generalize w1.alloc (.cells ((List.replicate d.msgs.length (0:Int)).map fun n=>Value.int .i64 n).toArray 3)=w2 at oD eD ⊢
 have sw1:=e1.size
 generalize hbd:w1.heap.size=bd at oD sw1 ⊢
 have e2:Ext V w2:=e1.trans eD
 refine loop1_intro (fun a w'=>∃ k:Nat,a = .int .i64 k∧k≤d.msgs.length∧Ext V w'∧DRow w' bd (depL d.msgs k)∧Fine (d.msgs.take k)) (fun b _=>d.msgs.length - (intOf b).toNat) ⟨0,rfl,by omega,e2,oD,rfl⟩ ?_
 rintro _ w ⟨k,rfl,hk,e,hL,hfine⟩
 have E:=EV.trans e
 have hcW:=hBW.c3 (eV.trans e)
 unfold n18c20
 rcases drop_cases hk with ⟨m,hm,hdr,hlt,hdec⟩ | ⟨hk,hdr,hdec⟩
 · obtain ⟨bm,om,csm,rfl,_,hAm,fv,rfl,hF⟩:=hel k m hm
   have hF0:=hF
   obtain ⟨Af,cf,rfl,hlf,hcf,hlmf,helf⟩:=SliceOf.open hF
   have hdist:=hfine.dist
   have hbad:=fun (a c:Int)=>check_bad (d:=d) (k:=k) (m:=m) (a:=a) (c:=c) hnm hl hfine hm
   simp (disch:=try exact DI) only [↓PR,QR,simprocAttr,hdec,hcW,hAm.c2 E,n18c19]
   have hBY:=ElemAt.new (w:=w) (msgCells m (.slice Af m.fields.length cf)) (24)
   have eY:Ext w (w.alloc (Obj.cells (List.toArray (msgCells m (.slice Af m.fields.length cf))) (24))):=(Ext.refl _).alloc _
   generalize (w.alloc (Obj.cells (List.toArray (msgCells m (.slice Af m.fields.length cf))) (24)))=Y at hBY eY ⊢
   have eY':Ext V Y:=e.trans eY
   refine zcr (rName_ret _ _) fun w3 e3=>?_
   have f3:Ext V w3:=eY'.trans e3
   cases hmn:nameB m.name with
   | false =>
    have hc:=hbad (-1) 1 (by unfold nextP;rw [hmn];rfl) (by decide)
    simp (disch:=try exact DI) only [↓PR,QR,simprocAttr]
    unfold n18c14
    exact flaw_out (EV.trans f3) sW (f3.obj oV) _ _ _ fun w' e'=>⟨_,rfl,flaw_tup hc (by decide),e'⟩
   | true =>
   simp (disch:=try exact DI) only [↓PR,QR,simprocAttr,hBW.c3 (eV.trans f3),hBY.c2 e3,n18c15]
   refine zcr (rFind_ret _ _ d m.name k ⟨_,rfl,hM0.ext (EV.trans f3)⟩ hk) fun w4 e4=>?_
   have f4:=f3.trans e4
   have hdi:=idx_neg (p:=fun x:MsgD=>decide (x.name=m.name)) (l:=d.msgs.take k)
   rw [← anyD _ hdist] at hdi
   cases hls:(lastP (depsOf (d.msgs.take k)) m.name).isSome with
   | true =>
    rw [hls] at hdi
    have hc:=hbad (-1) 2 (by unfold nextP;rw [hmn,hls];rfl) (by decide)
    simp (disch:=try exact DI) only [↓PR,QR,simprocAttr,hdi]
    unfold n18c12
    exact flaw_out (EV.trans f4) sW (f4.obj oV) _ _ _ fun w' e'=>⟨_,rfl,flaw_tup hc (by decide),e'⟩
   | false =>
   rw [hls] at hdi
   have hcY4:=hBY.c2 (e3.trans e4)
   simp (disch:=try exact DI) only [↓PR,QR,simprocAttr,hdi,hcY4,↓n18c1,↓n18c2,↓n18c3,↓n18c4,↓n18c5,↓n18c6,↓n18c7,↓n18c8,↓n18c9,↓n18c10,↓n18c11,↓n18c12,↓n18c13,↓n18c14,↓n18c15,↓n18c16,↓n18c17,↓n18c18,↓n18c19,↓n18c20,↓n18c21,↓n18c22,↓n18c23,↓n18c24]
   have hlen2:(decide ((m.fields.length:Int) < 1)||decide (40 < (m.fields.length:Int)))=!decide (1≤m.fields.length∧m.fields.length≤40):=by
    rw [Bool.eq_iff_iff];simp only [Bool.or_eq_true,decide_eq_true_eq,Bool.not_eq_true',decide_eq_false_iff_not];omega
   rw [hlen2]
   by_cases hl2:1≤m.fields.length∧m.fields.length≤40
   case neg =>
    have hc:=hbad (-1) 3 (by unfold nextP;rw [hmn,hls,if_pos rfl,if_neg (by simp),if_neg hl2]) (by decide)
    rw [show decide (1≤m.fields.length∧m.fields.length≤40)=false by simpa using hl2]
    exact flaw_out (EV.trans f4) sW (f4.obj oV) _ _ _ fun w' e'=>⟨_,rfl,flaw_tup hc (by decide),e'⟩
   case pos =>
   have hnx:nextP (depsOf (d.msgs.take k)) (strsOf (d.msgs.take k)) m=tailP (depsOf (d.msgs.take k)) m (fieldsP (depsOf (d.msgs.take k)) (strsOf (d.msgs.take k)) [] m.fields):=by
    unfold nextP;rw [hmn,hls,if_pos rfl,if_neg (by simp),if_pos hl2]
   rw [show decide (1≤m.fields.length∧m.fields.length≤40)=true by simpa using hl2]
   simp (disch:=try exact DI) only [↓PR,QR,simprocAttr]
   refine loop1_intro (fun a w'=>∃ i:Nat,a = .int .i64 i∧i≤m.fields.length∧Ext w4 w'∧FineF (depsOf (d.msgs.take k)) (strsOf (d.msgs.take k)) (m.fields.take i)) (fun b _=>m.fields.length - (intOf b).toNat) ⟨0,rfl,by omega,Ext.refl _,by intro j f h;simp at h⟩ ?_
   rintro _ w5 ⟨i,rfl,hi,e5,hff⟩
   have f5:=f4.trans e5
   have hsp:=hff.fields
   unfold n18c9
   rcases drop_cases hi with ⟨f,hx,hdf,hltf,hdecf⟩ | ⟨hi,hdf,hdecf⟩
   · rw [hdf,fieldsP] at hsp
     simp (disch:=try exact DI) only [↓PR,QR,simprocAttr,hdecf,hBY.c2 (e3.trans (e4.trans e5)),hBW.c3 (eV.trans f5)]
     refine zcr (rfield_ret _ _ d k i m f ⟨_,rfl,hM0.ext (EV.trans f5)⟩ hm hx hdist hfine.refsIn hff.dist hb (by omega) hff.bounds) fun w6 e6=>?_
     have f6:=f5.trans e6
     by_cases h0:examineC (m.fields.take i) (vI (depsOf (d.msgs.take k))) (vB (strsOf (d.msgs.take k))) f=0
     · simp (disch:=try exact DI) only [↓PR,QR,simprocAttr,h0,n18c2,show ((0:Int) != 0)=false from rfl]
       exact ⟨⟨i+1,rfl,hltf,e5.trans e6,hff.step hx h0⟩,meas_lt (kd := .i64) hltf⟩
     · rw [if_neg h0,List.length_take,Nat.min_eq_left (by omega)] at hsp
       have hc:=hbad i _ (by rw [hnx,← hsp];unfold tailP;rw [if_neg h0]) h0
       simp (disch:=try exact DI) only [↓PR,QR,simprocAttr,n18c2,show (examineC (m.fields.take i) (vI (depsOf (d.msgs.take k))) (vB (strsOf (d.msgs.take k))) f != 0)=true by simpa using h0]
       unfold n18c1
       exact flaw_out (EV.trans f6) sW (f6.obj oV) _ _ _ fun w' e'=>⟨_,rfl,flaw_tup hc h0,e'⟩
   · subst hi
     rw [hdf,fieldsP] at hsp
     rw [← hsp] at hnx
     have hfd:(fieldsP (depsOf (d.msgs.take k)) (strsOf (d.msgs.take k)) [] m.fields).2=0:=by rw [← hsp]
     simp (disch:=try exact DI) only [↓PR,QR,simprocAttr,hdecf,hBY.c2 (e3.trans (e4.trans e5))]
     have hkl:k < d.msgs.length:=(List.getElem?_eq_some_iff.1 hm).1
     have hlow:=hfine.low k
     rw [List.take_take,Nat.min_self] at hlow
     have hdm:=foldl_maxI (fun s=>(lastP (depsOf (d.msgs.take k)) s).getD 0) (refsM m) 0 (by decide) (fun s _=>hlow.get s) (by decide)
     have hlo5:bd < w5.heap.size:=by
      have:=(Array.getElem?_eq_some_iff.1 hL).1
      have h1:=eY.size
      have h2:=e3.size
      have h3:=e4.size
      have h4:=e5.size
      omega
     unfold n18c8
     simp (disch:=try exact DI) only [↓PR,QR,simprocAttr,hBY.c2 (e3.trans (e4.trans e5))]
     refine callK_ret (rRefers_ret _ _ m ⟨_,rfl,hF0.ext (EV.trans (e.trans (eY.trans (e3.trans (e4.trans e5)))))⟩ (hb m (List.mem_of_getElem? hm)).1) ?_
     rintro rv w6 ⟨hS,e6⟩
     have f6:=f5.trans e6
     have hL6:DRow w6 bd (depL d.msgs k):=((((hL.ext eY).ext e3).ext e4).ext e5).ext e6
     refine rcheck_refs (hBW.ext eV) EV hM0 hkl hdist (next_refs (ds_of _) hfd) f6 (by omega) hL6 (depL_len _ (by omega)) (depL_old _ hkl) (depL_zero _ hkl) hS hlo5 ?_
     intro w7 f7 hL7
     have hdp:0≤depthM (depsOf (d.msgs.take k)) m∧depthM (depsOf (d.msgs.take k)) m≤16:=hdm
     have hst:=depL_step hm
     generalize hDM:depthM (depsOf (d.msgs.take k)) m=dm at hL7 hdp hst
     have hlL:=depL_len d.msgs (k:=k) (by omega)
     have hc7:=hL7.cell (k:=k) (n:=dm) (by rw [List.getElem?_set,if_pos rfl,if_pos (by omega)])
     have hL8:=hL7.set k (dm+1)
     rw [List.set_set,hst] at hL8
     unfold n18c6
     simp (disch:=try exact DI) only [↓PR,QR,simprocAttr,hc7,hL7.free,show IntKind.i64.wrap (dm+1)=dm+1 from wrap_ok (by omega) (by omega)]
     have f8:Ext V (w7.setCell ⟨bd,k*1,none⟩ (.int .i64 (dm+1))):=f7.setCell (by omega) _
     have htl:nextP (depsOf (d.msgs.take k)) (strsOf (d.msgs.take k)) m=if dm < 16 then (-1,0) else (-1,10):=by rw [hnx];unfold tailP;rw [if_pos rfl,hDM]
     by_cases h16:dm < 16
     · rw [if_pos h16] at htl
       simp (disch:=try exact DI) only [↓PR,QR,simprocAttr,show decide (16 < dm+1)=false by simp only [decide_eq_false_iff_not];omega]
       rw [wrap_ok (by omega) (by omega)]
       exact ⟨⟨k+1,rfl,hlt,f8,hL8,hfine.step hm (by rw [htl])⟩,meas_lt (kd := .i64) hlt⟩
     · rw [if_neg h16] at htl
       have hc:=hbad _ _ htl (by decide)
       simp (disch:=try exact DI) only [↓PR,QR,simprocAttr,show decide (16 < dm+1)=true by simp only [decide_eq_true_eq];omega]
       rw [wrap_ok (by omega) (by omega)]
       unfold n18c5
       exact flaw_out (EV.trans f8) sW (f8.obj oV) _ _ _ fun w' e'=>⟨_,rfl,flaw_tup hc (by decide),e'⟩
 · subst hk
   rw [List.take_length] at hfine
   have hmp:msgsP [] [] 0 d.msgs=(0,0,0):=by
    have:=msgs_split (l:=d.msgs) (k:=d.msgs.length) (by rw [List.take_length];exact hfine) (Nat.le_refl _)
    rw [this,List.drop_length];rfl
   have hcp:checkP d=if (lastP (depsOf d.msgs) d.start).isSome then (0,0,0) else (-1,-1,11):=by
    unfold checkP;rw [if_pos hnm,if_pos hl,hmp];rfl
   simp (disch:=try exact DI) only [↓PR,QR,simprocAttr,hdec,hcW,n18c18]
   refine zcr (rFind_ret _ _ d d.start d.msgs.length ⟨_,rfl,hM0.ext E⟩ (Nat.le_refl _)) fun w3 e3=>?_
   have f3:=e.trans e3
   have hdi:=idx_some (p:=fun x:MsgD=>decide (x.name=d.start)) (l:=d.msgs.take d.msgs.length)
   rw [← anyD _ (by rw [List.take_length];exact hfine.dist)] at hdi
   rw [List.take_length] at hdi
   cases hls:(lastP (depsOf d.msgs) d.start).isSome with
   | false =>
    rw [hls] at hdi hcp
    simp (disch:=try exact DI) only [↓PR,QR,simprocAttr,hdi,List.take_length]
    unfold n18c16
    exact flaw_out (EV.trans f3) sW (f3.obj oV) _ _ _ fun w' e'=>⟨_,rfl,flaw_tup hcp (by decide),e'⟩
   | true =>
    rw [hls] at hdi hcp
    simp (disch:=try exact DI) only [↓PR,QR,simprocAttr,hdi,List.take_length,n18c17,(cells_of_heap (f3.obj oV)).1,(cells_of_heap (f3.obj oV)).2]
    rw [if_pos rfl] at hcp
    exact ⟨by unfold flawedB flawOf;rw [hcp];rfl,(((EV.trans f3).setCell sW _).setCell sW _).setCell sW _⟩
theorem rValid_ret (w0:World) (v:Value) (d:DefD) (hd:DefVal w0 v d) (hb:calm d):Ret Pg 22 #[v] w0 fun r w'=>r = .bool (!flawedB d)∧Ext w0 w':=by
 obtain ⟨mv,rfl,hM⟩:=hd
 have hm1:=SliceOf.oneCell hM
 refine n26s (R:=retR _) ?_;unfold n26
 simp (disch:=try exact DI) only [↓PR,QR,simprocAttr]
 refine zcr (rCheck_ret _ _ d ⟨mv,rfl,hM.ext ee⟩ hb) fun w1 e1=>?_
 unfold n26c1
 simp (disch:=try exact DI) only [↓PR,QR,simprocAttr]
 exact ⟨by first | trivial | rfl,ee⟩
def n5c1 (t24 t27:Value) (R:RT) (w:World):Prop :=
 pickK t24 t27 (.bool false) fun t28 =>
 joinK (fun (t30:Value) (w:World) =>
 pickK t28 t30 (.bool false) fun t31 =>
 R (.returned t31) w) fun K2 =>
 guardP t28 true (
 C0 11 #[] R w fun t30 w =>
 K2 t30 w) (
 K2 undef w)
def n5c2 (t43 t46:Value) (R:RT) (w:World):Prop :=
 pickK t43 t46 (.bool false) fun t47 =>
 joinK (fun (t49:Value) (w:World) =>
 pickK t47 t49 (.bool false) fun t50 =>
 R (.returned t50) w) fun K5 =>
 guardP t47 true (
 C0 11 #[] R w fun t49 w =>
 K5 t49 w) (
 K5 undef w)
def n5c3 (t61 t64:Value) (R:RT) (w:World):Prop :=
 pickK t61 t64 (.bool false) fun t65 =>
 joinK (fun (t67:Value) (w:World) =>
 pickK t65 t67 (.bool false) fun t68 =>
 R (.returned t68) w) fun K7 =>
 guardP t65 true (
 C0 11 #[] R w fun t67 w =>
 K7 t67 w) (
 K7 undef w)
def n5c4 (t71 t74:Value) (R:RT) (w:World):Prop :=
 pickK t71 t74 (.bool false) fun t75 =>
 joinK (fun (t77:Value) (w:World) =>
 pickK t75 t77 (.bool false) fun t78 =>
 R (.returned t78) w) fun K9 =>
 guardP t75 true (
 C0 11 #[] R w fun t77 w =>
 K9 t77 w) (
 K9 undef w)
def n5c5 (t18 t71:Value) (R:RT) (w:World):Prop :=
 joinK (fun (t74:Value) (w:World) =>
 n5c4 t71 t74 R w) fun K8 =>
 guardP t71 true (
 B0 .eql 31 true t18 (.int .i64 0) R w fun t74 w =>
 K8 t74 w) (
 K8 undef w)
def n5c6 (t17 t18:Value) (R:RT) (w:World):Prop :=
 opV Pg (Builtin.len_ #[30] 3 #[t17]) (panK R) w fun t60 w =>
 B0 .eql 3 true t60 (.int .i64 0) R w fun t61 w =>
 joinK (fun (t64:Value) (w:World) =>
 n5c3 t61 t64 R w) fun K6 =>
 guardP t61 true (
 B0 .eql 31 true t18 (.int .i64 9) R w fun t64 w =>
 K6 t64 w) (
 K6 undef w)
def n5c7 (t17 t18 t54:Value) (R:RT) (w:World):Prop :=
 opV Pg (Instr.extract t54 0) (panK R) w fun t55 w =>
 opV Pg (Instr.extract t54 1) (panK R) w fun t56 w =>
 opV Pg (Op.unary .not t56) (panK R) w fun t58 w =>
 condP t58 (
 n5c6 t17 t18 R w) (
 C0 14 #[t17,t55] R w fun t71 w =>
 n5c5 t18 t71 R w)
def n5c8 (t17 t18:Value) (R:RT) (w:World):Prop :=
 opV Pg (Builtin.len_ #[30] 3 #[t17]) (panK R) w fun t42 w =>
 B0 .eql 3 true t42 (.int .i64 0) R w fun t43 w =>
 joinK (fun (t46:Value) (w:World) =>
 n5c2 t43 t46 R w) fun K4 =>
 guardP t43 true (
 B0 .eql 31 true t18 (.int .i64 3) R w fun t46 w =>
 K4 t46 w) (
 K4 undef w)
def n5c9 (t1 t2 t17 t18 t33 t39:Value) (R:RT) (w:World):Prop :=
 pickK t33 (.bool true) t39 fun t40 =>
 condP t40 (
 n5c8 t17 t18 R w) (
 L0 28 t2 R w fun t52 w =>
 C0 25 #[t52,t1] R w fun t54 w =>
 n5c7 t17 t18 t54 R w)
def n5c10 (t17 t18:Value) (R:RT) (w:World):Prop :=
 opV Pg (Builtin.len_ #[30] 3 #[t17]) (panK R) w fun t23 w =>
 B0 .eql 3 true t23 (.int .i64 0) R w fun t24 w =>
 joinK (fun (t27:Value) (w:World) =>
 n5c1 t24 t27 R w) fun K1 =>
 guardP t24 true (
 B0 .eql 31 true t18 (.int .i64 2) R w fun t27 w =>
 K1 t27 w) (
 K1 undef w)
def n5c11 (t1 t2 t17 t18:Value) (R:RT) (w:World):Prop :=
 B0 .lss 3 true t1 (.int .i64 0) R w fun t33 w =>
 joinK (fun (t39:Value) (w:World) =>
 n5c9 t1 t2 t17 t18 t33 t39 R w) fun K3 =>
 guardP t33 false (
 F0 28 t2 1 R w fun t36 w =>
 L0 26 t36 R w fun t37 w =>
 opV Pg (Builtin.len_ #[26] 3 #[t37]) (panK R) w fun t38 w =>
 B0 .geq 3 false t1 t38 R w fun t39 w =>
 K3 t39 w) (
 K3 undef w)
def n5c12 (t1 t2 t16:Value) (R:RT) (w:World):Prop :=
 opV Pg (Instr.extract t16 0) (panK R) w fun t17 w =>
 opV Pg (Instr.extract t16 1) (panK R) w fun t18 w =>
 L0 28 t2 R w fun t19 w =>
 C0 22 #[t19] R w fun t20 w =>
 opV Pg (Op.unary .not t20) (panK R) w fun t21 w =>
 condP t21 (
 n5c10 t17 t18 R w) (
 n5c11 t1 t2 t17 t18 R w)
def n5c13 (t1 t2 t10:Value) (R:RT) (w:World):Prop :=
 opV Pg (Op.unary .not t10) (panK R) w fun t11 w =>
 condP t11 (
 C0 11 #[] R w fun t12 w =>
 R (.returned t12) w) (
 L0 28 t2 R w fun t14 w =>
 C0 24 #[t14,t1] R w fun t16 w =>
 n5c12 t1 t2 t16 R w)
def n5 (t0 t1:Value) (R:RT) (w:World):Prop :=
 opV Pg (Instr.box 28 t0) (panK R) w fun t2 w =>
 L0 28 t2 R w fun t9 w =>
 C0 10 #[t9] R w fun t10 w =>
 n5c13 t1 t2 t10 R w
set_option maxHeartbeats 40000000 in
theorem n5s {t0 t1:Value} {R:RT} {w:World} (h:n5 t0 t1 R w):Calls Pg 6 #[t0,t1] w R:=by
 refine yD Tryz.func6 ?_
 refine zs<|zr<|yv h fun _ w h=>zm<|zn<|zk<|zs<|zs<|zr<|yv h fun _ w h=>yc h c10 fun _ w h=>yv h fun _ w h=>zn<|zk<|yC h (fun h=>zs<|zr<|yc h c11 fun _ w h=>zm<|zn<|zk<|sim_ret<|sim_then_ret<|body_ret1 rfl rfl h) fun h=>?_
 refine sim_skip<|zk<|zs<|zr<|yv h fun _ w h=>zm<|yc h c24 fun _ w h=>zm<|yv h fun _ w h=>yv h fun _ w h=>zm<|zm<|zn<|zk<|zs ?_
 refine zs<|zr<|yv h fun _ w h=>yc h c22 fun _ w h=>yv h fun _ w h=>zn<|zk<|yC h (fun h=>?_) fun h=>?_
 · refine zs<|sim_regionG<|yG 4<|zm<|yx h fun _ w h=>yb h fun _ w h=>zm<|zn<|yg1 2 3 true [26,27] 27 h (fun _ T hT h=>?_) fun σ w h=>?_
   · refine zm<|yb h fun _ w h=>zn ?_
     exact zt hT h
   refine yG 2<|yp h fun _ h=>zm<|zn<|yg1 1 7 true [30] 30 h (fun _ T hT h=>?_) fun σ w h=>?_
   · refine yc h c11 fun _ w h=>zn ?_
     exact zt hT h
   exact yG 2<|yp h fun _ h=>zm<|zn<|sim_end<|zk<|sim_ret<|sim_then_ret<|body_ret1 rfl rfl h
 refine sim_skip<|zk<|zs<|zs<|sim_regionG<|yG 3<|zm<|yb h fun _ w h=>zm<|zn<|yg1 5 2 false [35,36,37,38,39] 39 h (fun _ T hT h=>?_) fun σ w h=>?_
 · refine zm<|yv h fun _ w h=>yv h fun _ w h=>yx h fun _ w h=>yb h fun _ w h=>zn ?_
   exact zt hT h
 refine yG 1<|yp h fun _ h=>zn<|sim_end<|zk<|yC h (fun h=>?_) fun h=>?_
 · refine zs<|sim_regionG<|yG 4<|zm<|yx h fun _ w h=>yb h fun _ w h=>zm<|zn<|yg1 2 3 true [45,46] 46 h (fun _ T hT h=>?_) fun σ w h=>?_
   · refine zm<|yb h fun _ w h=>zn ?_
     exact zt hT h
   refine yG 2<|yp h fun _ h=>zm<|zn<|yg1 1 7 true [49] 49 h (fun _ T hT h=>?_) fun σ w h=>?_
   · refine yc h c11 fun _ w h=>zn ?_
     exact zt hT h
   exact yG 2<|yp h fun _ h=>zm<|zn<|sim_end<|zk<|sim_ret<|sim_then_ret<|body_ret1 rfl rfl h
 refine sim_skip<|zk<|zs<|zr<|yv h fun _ w h=>zm<|yc h c25 fun _ w h=>zm<|yv h fun _ w h=>yv h fun _ w h=>zm<|zm<|zn<|zk<|zs ?_
 refine zs<|zr<|zm<|yv h fun _ w h=>zn<|zk<|yC h (fun h=>?_) fun h=>?_
 · refine zs<|sim_regionG<|yG 4<|zm<|yx h fun _ w h=>yb h fun _ w h=>zm<|zn<|yg1 2 3 true [63,64] 64 h (fun _ T hT h=>?_) fun σ w h=>?_
   · refine zm<|yb h fun _ w h=>zn ?_
     exact zt hT h
   refine yG 2<|yp h fun _ h=>zm<|zn<|yg1 1 7 true [67] 67 h (fun _ T hT h=>?_) fun σ w h=>?_
   · refine yc h c11 fun _ w h=>zn ?_
     exact zt hT h
   exact yG 2<|yp h fun _ h=>zm<|zn<|sim_end<|zk<|sim_ret<|sim_then_ret<|body_ret1 rfl rfl h
 refine sim_skip<|zk<|zs<|sim_regionG<|yG 4<|zm<|zm<|yc h c14 fun _ w h=>zm<|zn<|yg1 2 3 true [73,74] 74 h (fun _ T hT h=>?_) fun σ w h=>?_
 · refine zm<|yb h fun _ w h=>zn ?_
   exact zt hT h
 refine yG 2<|yp h fun _ h=>zm<|zn<|yg1 1 7 true [77] 77 h (fun _ T hT h=>?_) fun σ w h=>?_
 · refine yc h c11 fun _ w h=>zn ?_
   exact zt hT h
 exact yG 2<|yp h fun _ h=>zm<|zn<|sim_end<|zk<|sim_ret<|body_ret1 rfl rfl h
theorem ScopePaths_ret (w0:World) (v:Value) (d:DefD) (i:Int) (hd:DefVal w0 v d) (hs:DefSm d):Ret Pg 6 #[v,.int .i64 i] w0 fun r w'=>r = .bool true∧Ext w0 w':=by
 obtain ⟨mv,rfl,hM⟩:=hd
 have hm1:=SliceOf.oneCell hM
 have hM0:=hM
 obtain ⟨A,c,rfl,hlc,hcm,hlm,hel⟩:=SliceOf.open hM
 refine n5s (R:=retR _) ?_;unfold n5
 rw [op_boxA]
 have o1:=heap_new w0 (defCells d (.slice A d.msgs.length c)).toArray 28
 have eW:Ext w0 (w0.alloc (.cells (defCells d (.slice A d.msgs.length c)).toArray 28)):=ee
 generalize (w0.alloc (.cells (defCells d (.slice A d.msgs.length c)).toArray 28))=W at o1 eW ⊢
 generalize hp1:w0.heap.size=p1 at o1 ⊢
 have hD:∀ w,Ext W w→DefVal w (.agg (defCells d (.slice A d.msgs.length c)).toArray) d:=fun w e=>⟨_,rfl,hM0.ext (eW.trans e)⟩
 simp (disch:=try exact DI) only [↓PR,QR,simprocAttr,(cells_of_heap o1).1]
 refine callK_ret (fits_ret _ _ d (hD _ (Ext.refl _)) hs) ?_
 rintro _ w1 ⟨b,rfl,hfit,e1⟩
 unfold n5c13
 cases b with
 | false =>
  simp (disch:=try exact DI) only [↓PR,QR,simprocAttr]
  refine zcr (known_ret _) fun w2 e2=>?_
  simp (disch:=try exact DI) only [↓PR,QR,simprocAttr]
  exact ⟨by trivial,eW.trans (e1.trans e2)⟩
 | true =>
  have ht:=fits_calm (hfit rfl)
  have hz:(((([]:List Int).length:Nat):Int) == 0)=true:=by decide
  simp (disch:=try exact DI) only [↓PR,QR,simprocAttr,(cells_of_heap (e1.obj o1)).1]
  refine callK_ret (Path_ret _ _ d i (hD _ e1) ht) ?_
  rintro _ w2 ⟨⟨u2,rfl,hU2⟩,e2⟩
  have f2:=e1.trans e2
  have hu2:=SliceOf.oneCell hU2.ints
  simp (disch:=try exact DI) only [↓PR,QR,simprocAttr,↓n5c12,(cells_of_heap (f2.obj o1)).1]
  refine zcr (rValid_ret _ _ d (hD _ f2) ht) fun w3 e3=>?_
  have f3:=f2.trans e3
  by_cases hc:(checkP d).2.2=0
  case neg =>
   have he:errP d i=2:=if_neg hc
   rw [show flawedB d=true by unfold flawedB;simp [hc],he]
   rw [show pathE d i=[] by unfold pathE;rw [he];rfl] at hU2
   obtain ⟨A2,c2,rfl,_,_,_,_⟩:=SliceOf.open hU2.ints
   simp (disch:=try exact DI) only [↓PR,QR,simprocAttr,↓n5c10,↓n5c1,hz]
   refine zcr (known_ret _) fun w8 e8=>?_
   simp (disch:=try exact DI) only [↓PR,QR,simprocAttr]
   exact ⟨by trivial,eW.trans (f3.trans e8)⟩
  obtain ⟨hst,_,_⟩:=start_spec hc
  have hf:=(check_fine hc).2.2.1
  have hl60:=(check_fine hc).2.1.2
  rw [show flawedB d=false by unfold flawedB;simp [hc]]
  have he1:errP d i=(if 0≤i∧i < d.msgs.length then (if reachB d.msgs (startI d) i.toNat then 0 else 9) else 3):=if_pos hc
  simp (disch:=try exact DI) only [↓PR,QR,simprocAttr,↓n5c11]
  by_cases hin:0≤i∧i < d.msgs.length
  case neg =>
   rw [if_neg hin] at he1
   rw [he1]
   rw [show pathE d i=[] by unfold pathE;rw [he1];rfl] at hU2
   obtain ⟨A2,c2,rfl,_,_,_,_⟩:=SliceOf.open hU2.ints
   have fin:∀ R:Ending→World→Prop,(∀ w',Ext w3 w'→R (.returned (.bool true)) w')→n5c8 (.slice A2 ([]:List Int).length c2) (.int .i64 3) R w3:=by
    intro R hR
    simp (disch:=try exact DI) only [↓PR,QR,simprocAttr,↓n5c8,↓n5c2,hz]
    refine zcr (known_ret _) fun w8 e8=>?_
    simp (disch:=try exact DI) only [↓PR,QR,simprocAttr]
    exact hR _ e8
   cases h0:decide (i < 0) with
   | true =>
    simp (disch:=try exact DI) only [↓PR,QR,simprocAttr,h0,↓n5c9]
    exact fin _ fun w' e=>⟨_,rfl,rfl,eW.trans (f3.trans e)⟩
   | false =>
    have h2:decide (i≥(d.msgs.length:Int))=true:=by simp at h0 ⊢;omega
    simp (disch:=try exact DI) only [↓PR,QR,simprocAttr,h0,h2,↓n5c9,(cells_of_heap (f3.obj o1)).1]
    exact fin _ fun w' e=>⟨_,rfl,rfl,eW.trans (f3.trans e)⟩
  rw [if_pos hin] at he1
  obtain ⟨n,rfl⟩:∃ n:Nat,i=(n:Int):=⟨i.toNat,by omega⟩
  rw [Int.toNat_natCast] at he1
  have hn:n < d.msgs.length:=by omega
  have h0:decide ((n:Int) < 0)=false:=decide_eq_false (by omega)
  have h2:decide ((n:Int)≥(d.msgs.length:Int))=false:=decide_eq_false (by omega)
  simp (disch:=try exact DI) only [↓PR,QR,simprocAttr,h0,h2,↓n5c9,(cells_of_heap (f3.obj o1)).1]
  refine callK_ret (rPath_ret _ _ d n (hD _ f3) ht hc hn) ?_
  rintro _ w4 ⟨⟨u4,rfl,hU4⟩,e4⟩
  have hu4:=SliceOf.oneCell hU4.ints
  have hrd:=reach_dist hf hst hn (by omega)
  by_cases hds:dN n d.msgs (startI d) < 1000
  · rw [decide_eq_true hds]
    rw [if_pos hds] at hU4
    rw [hrd.2 hds] at he1
    have he:errP d n=0:=by rw [he1];rfl
    rw [he]
    rw [show pathE d n=pathP n d.msgs (startI d) by unfold pathE;rw [he];rfl] at hU2
    simp (disch:=try exact DI) only [↓PR,QR,simprocAttr,↓n5c7]
    refine zcr (same_ret _ _ _ _ _ (RowI.ints (hU2.ext (e3.trans e4))) hU4.ints) fun w5 e5=>?_
    simp (disch:=try exact DI) only [↓PR,QR,simprocAttr,↓n5c5,↓n5c4,decide_true]
    refine zcr (known_ret _) fun w8 e8=>?_
    simp (disch:=try exact DI) only [↓PR,QR,simprocAttr]
    exact ⟨by trivial,eW.trans (f3.trans (e4.trans (e5.trans e8)))⟩
  · rw [decide_eq_false hds]
    have hrf:reachB d.msgs (startI d) n=false:=by rw [Bool.eq_false_iff];exact fun h=>hds (hrd.1 h)
    rw [hrf] at he1
    have he:errP d n=9:=by rw [he1];rfl
    rw [he]
    rw [show pathE d n=[] by unfold pathE;rw [he];rfl] at hU2
    obtain ⟨A2,c2,rfl,_,_,_,_⟩:=SliceOf.open hU2.ints
    simp (disch:=try exact DI) only [↓PR,QR,simprocAttr,↓n5c7,↓n5c6,↓n5c3,hz]
    refine zcr (known_ret _) fun w8 e8=>?_
    simp (disch:=try exact DI) only [↓PR,QR,simprocAttr]
    exact ⟨by trivial,eW.trans (f3.trans (e4.trans e8))⟩
end Go.Proofs.YtfjjgjjlebllmaaGreat
namespace Go.Proofs.YtfjjgjjlebllmaaGreat
open Sw
open Go.ChangeShapes Go.WideShapes Go.RowKit Go.ChangeAt Go.Deep
theorem scpaths_own:ownKnob Pg.godebug=none:=by kernel_rfl
theorem scpaths_laidOut:laidOutB Pg=true:=by kernel_rfl
theorem scpaths_lifted (os:Os) (started:os.Started) (H:Type) (enc:TypeId×Value→H) :
 ReturnsInHanded {} Tryz.checked os 6 .any (Rows.scopePathsSpec.pre6 enc Pg Tryz.f6 Rows.scopePathsRow.domain false) (Rows.scopePathsSpec.post enc Pg Tryz.f6 false true false false):=by
 refine returnsInHanded_of_change_sized (C:=Tryz.checked) scpaths_own started (by kernel_rfl) Tryz.func6
  (ChangeSpec.witness6 (enc:=enc) (C:=Tryz.checked) false ⟨#[],#[.agg #[.string ByteArray.empty,.slice none 0 0,.string ByteArray.empty],.int .i64 0],[]⟩ 8 (by kernel_rfl) (by kernel_rfl) (by kernel_rfl) (by kernel_rfl)) ?_
 intro W base args ds gs before hval hW _ hsz _
 have hW':=hW
 obtain ⟨p,q,hA0,hV,rfl,_,_⟩:=hW
 have hA:DataW.TrodAll enc Pg W 0 (fun _=>true) true Tryz.f6.params.toList args.toList ds p:=hA0
 rw [Tryz.params6] at hA hval hsz
 obtain ⟨v0,vs0,d0,ds0,p0,q0,ha0,rfl,rfl,h0,r0⟩:=trodAll_cons hA
 obtain ⟨v1,vs1,d1,ds1,p1,q1,ha1,rfl,rfl,h1,r1⟩:=trodAll_cons r0
 obtain ⟨rfl,rfl,rfl⟩:=trodAll_nil r1
 subst ha1
 obtain rfl:args = #[v0,v1]:=by cases args;simp_all
 obtain ⟨f0,hf0,hs0⟩:=def_val (hval 0 _ v0 rfl rfl) h0 (reached_of (j:=0) hsz rfl rfl)
 obtain ⟨n1,rfl,_,_,hw1⟩:=open_int Tryz.underlying3 (hval 1 _ v1 rfl rfl) h1
 refine Calls.mono (ScopePaths_ret W v0 f0 n1 hf0 hs0) fun e W' ⟨v,he,hv,hx⟩=>?_
 subst he hv
 exact ⟨_,rfl,law_post scpaths_laidOut (by decide +kernel) rfl hW' hx rfl Tryz.underlying4 rfl rfl rfl⟩
theorem scpaths_holds:Rows.ScopePathsSaid :=
 OpenClaim.holds_of_wide 6 Tryz.f6 rfl rfl rfl rfl rfl rfl rfl ⟨rfl,rfl,rfl,rfl,rfl⟩ rfl rfl rfl rfl rfl (by kernel_rfl) Tryz.func6 (by kernel_rfl)
  (of_decide_eq_true (by kernel_rfl)) (by unfold Func.isWrapper;first | (rw [if_pos (by decide +kernel)];kernel_rfl) | (rw [if_neg (by decide +kernel)];exact ⟨rfl,rfl⟩))
  (fun os started H enc _=>scpaths_lifted os started H enc)
end Go.Proofs.YtfjjgjjlebllmaaGreat
