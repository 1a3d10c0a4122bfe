/-
  phrasebooklaw08.SpanMessages returns true for every definition and every number of a message, and leaves its arguments as they were; no condition is asked.
-/
import Derived.Test.YtdfhjlggcdemhaaGreatSm6
set_option linter.all false
set_option maxHeartbeats 4000000
set_option maxRecDepth 100000
namespace Go.Sw
open Go.ChangeShapes Go.WideShapes Go.RowKit Go.ChangeAt Go.Deep
theorem list_of {α:Type} {p:Nat→α→Prop}:∀ (n:Nat),(∀ i,i < n→∃ x,p i x)→∃ l:List α,l.length=n∧∀ k x,l[k]?=some x→p k x
 | 0,_=>⟨[],rfl,fun k x h=>by simp at h⟩
 | n+1,h=>by
  obtain ⟨l,hl,hp⟩:=list_of n (fun i hi=>h i (by omega))
  obtain ⟨x,hx⟩:=h n (by omega)
  refine ⟨l++[x],by simp [hl],fun k y hy=>?_⟩
  rw [List.getElem?_append] at hy
  split at hy
  · exact hp k y hy
  · have hk:k=n:=by
     have:=(List.getElem?_eq_some_iff.1 hy).1
     simp at this
     omega
    subst hk
    simp [hl] at hy
    subst hy
    exact hx
section
variable {H:Type} {enc:TypeId×Value→H} {P:Program} {w:World} {base:Nat} {spare:Nat→Bool} {held:Bool}
theorem weightsAll_mem {e:TypeId} {m:Nat} {d:DataW H}:∀ {l:List (DataW H)},d∈l→m∈d.weights P e→m∈DataW.weightsAll P e l
 | [],h,_=>by cases h
 | a::l,h,hm=>by
  rw [DataW.weightsAll,List.mem_append]
  rcases List.mem_cons.1 h with rfl | h
  · exact .inl hm
  · exact .inr (weightsAll_mem h hm)
def Reached (P:Program) (t:TypeId) (d:DataW H):Prop:=∀ m∈d.weights P t,m≤reachBytes
theorem reached_of {ts:List TypeId} {ds:List (DataW H)} (h:(DataW.weightsEach P ts ds).all (· ≤ reachBytes)=true) {j:Nat} {t:TypeId} {d:DataW H} (ht:ts[j]?=some t) (hd:ds[j]?=some d):Reached P t d:=fun m hm=>by
 have:=List.all_eq_true.1 h _ (DataW.weights_mem_each ht hd m hm)
 simpa using this
theorem slice_of_trod {α:Type} {E:World→List Value→α→Prop} {Q:α→Prop} {t e:TypeId} {n fuel:Nat} {cs:List Value} {x:DataW H×List MemPlace} (ht:P.underlying t=some (.slice e)) (hn:P.cellsOf e=n) (hb1:1≤P.bytesOf e) (h0:0 < n)
 (hE:∀ m cs' y,DataW.trod enc P w base spare held m e cs'=some y→Reached P e y.1→∃ x,E w cs' x∧Q x) (h:DataW.trod enc P w base spare held fuel t cs=some x) (hr:Reached P t x.1):∃ v l,cs=[v]∧SliceOf w n E v l∧(∀ x∈l,Q x)∧l.length≤140737488355328:=by
 rcases open_slice ht h with ⟨rfl,_⟩ | ⟨a,len,cap,m,k,D,Pl,rfl,hb,hl,hm,hmm,hx,hel⟩
 · exact ⟨_,[],rfl,SliceOf.nil _ _ _,fun x hx=>by (cases hx),Nat.zero_le _⟩
 · have hlm:len≤m:=by rw [hmm];split<;>omega
   subst hx
   have hw0:=hr ((len+(m - len))*P.bytesOf e) (by simp only [DataW.weights,ht];simp)
   have hlen:len≤140737488355328:=by
    have:len*1≤(len+(m - len))*P.bytesOf e:=Nat.mul_le_mul (by omega) hb1
    simp only [reachBytes] at hw0
    omega
   have hD:∀ i,i < len→Reached P e (D i):=fun i hi q hq=>hr q (by
    simp only [DataW.weights,ht,List.mem_cons,List.mem_append]
    exact .inr (.inl (weightsAll_mem (List.mem_map.2 ⟨i,List.mem_range.2 hi,rfl⟩) hq)))
   obtain ⟨l,hll,hp⟩:=list_of (p:=fun i (x:α)=>∃ cs',w.cells? base (a.add (i*n)) n=some cs'∧E w cs' x∧Q x) len (fun i hi=>by
    obtain ⟨cs',h1,h2⟩:=hel i (by omega)
    rw [hn] at h1
    obtain ⟨x,hx⟩:=hE _ _ _ h2 (hD i hi)
    exact ⟨x,cs',h1,hx⟩)
   refine ⟨_,l,rfl,⟨some a,cap,by rw [hll],by rw [hll];exact hl,by simp only [maxLen] at hm;omega,fun hne=>?_⟩,fun x hx=>?_,by omega⟩
   · obtain ⟨b,o,spot⟩:=a
     have hspot:spot=none:=by
      have:0 < l.length:=List.length_pos_iff.2 hne
      obtain ⟨y,hy⟩:=getElem?_lt this
      obtain ⟨cs',h1,_⟩:=hp 0 y hy
      obtain ⟨_,h2,h3⟩:=World.cells?_some h1
      have h4:=h3 0 h0
      rw [List.getElem?_eq_getElem (by omega)] at h4
      simpa [Addr.add] using World.cell?_spot h4
     subst hspot
     refine ⟨b,o,rfl,fun k x hx=>?_⟩
     obtain ⟨cs',h1,h2,_⟩:=hp k x hx
     obtain ⟨_,h3,h4⟩:=World.cells?_some h1
     refine ⟨cs',h3,fun j v hv=>?_,h2⟩
     have h5:=h4 j (by have:=(List.getElem?_eq_some_iff.1 hv).1;omega)
     rw [hv] at h5
     simpa [Addr.add_lit] using h5
   · obtain ⟨k,hk⟩:=List.getElem?_of_mem hx
     obtain ⟨_,_,_,hq⟩:=hp k x hk
     exact hq
theorem struct_of_trod {fs:Array Field} {t:TypeId} {n fuel:Nat} {cs:List Value} {x:DataW H×List MemPlace} (ht:P.underlying t=some (.struct fs)) (hn:P.cellsOf t=n) (h:DataW.trod enc P w base spare held fuel t cs=some x) (hr:Reached P t x.1) :
 cs.length=n∧∃ m,∀ (i:Nat) (ty off k:Nat),(fs[i]?).map (fun f=>(f.type,f.offset))=some (ty,off)→P.cellsOf ty=k→∃ y,DataW.trod enc P w base spare held m ty ((cs.drop off).take k)=some y∧Reached P ty y.1:=by
 obtain ⟨xs,m,_,rfl,hl,hlen,hf⟩:=DataW.trod_struct ht h
 refine ⟨hl.trans hn,m,fun i ty off k hi hk=>?_⟩
 obtain ⟨f,hfi,he⟩:=Option.map_eq_some_iff.1 hi
 injection he with h1 h2
 subst h1 h2 hk
 have hil:i < xs.length:=by rw [hlen];exact (Array.getElem?_eq_some_iff.1 hfi).1
 refine ⟨xs[i],(hf i f hfi).trans (List.getElem?_eq_getElem hil),fun q hq=>hr q ?_⟩
 simp only [DataW.weights,ht]
 refine DataW.weights_mem_each (j:=i) (t:=f.type) (d:=xs[i].1) ?_ ?_ q hq
 · rw [List.getElem?_map,Array.getElem?_toList,hfi];rfl
 · rw [List.getElem?_map,List.getElem?_eq_getElem hil];rfl
theorem trodAll_stays (hl:laidOutB P=true) {W W':World} (he:Ext W W'):∀ {ts:List TypeId} {vs:List Value} {ds:List (DataW H)} {ps:List MemPlace},(∀ t∈ts,P.readableRec t=true∧t < P.types.size)→(∀ x∈ps,x.block < W.heap.size) →
 DataW.TrodAll enc P W 0 (fun _=>true) true ts vs ds ps→DataW.TrodAll enc P W' 0 (fun b=>decide (b < W.heap.size)) true ts vs ds ps
 | [],_,_,_,_,_,h=>by obtain ⟨rfl,rfl,rfl⟩:=trodAll_nil h;exact trodAll_mk0
 | t::ts,_,_,_,hr,hlt,h=>by
  obtain ⟨v,vs1,d,ds1,a,b,rfl,rfl,rfl,h1,h2⟩:=trodAll_cons h
  refine ⟨a,b,?_,trodAll_stays hl he (fun t ht=>hr t (List.mem_cons_of_mem _ ht)) (fun x hx=>hlt x (List.mem_append_right _ hx)) h2,rfl⟩
  exact Below.trod hl (hr t (List.mem_cons_self ..)).1 (hr t (List.mem_cons_self ..)).2 h1 ⟨he.os,he.tape,he.output,he.size,he.block⟩ (fun x hx=>hlt x (List.mem_append_left _ hx))
theorem law_post {f:Func} {s:ChangeSpec} {W W':World} {args:Array Value} {ds gs:List (DataW H)} {before:List MemPlace} {tb:TypeId} (hl:laidOutB P=true) (hr:∀ t∈f.params.toList,P.readableRec t=true∧t < P.types.size) (hs:s.vars=[])
 (hW:DataW.Whole enc P f.params.toList s.vars false W args.toList ds gs before) (he:Ext W W') (hres:f.resultTypes = #[tb]) (htb:P.underlying tb=some .bool) (hfn:(s.fn H ds).results=[.lit (.bool true)]) (hargs:(s.fn H ds).args=ds) (hvars:(s.fn H ds).vars=[]) :
 s.post enc P f false true false false W args (.bool true) W':=by
 have hW':=hW
 obtain ⟨p,q,hA,hV,rfl,_,_⟩:=hW
 rw [hs] at hV
 obtain ⟨rfl,rfl⟩:=trodVars_none hV
 have hlt:∀ x∈p,x.block < W.heap.size:=fun x hx=>hW'.lt x (by simpa using hx)
 rw [List.append_nil] at hW'
 refine ⟨ds,[],p,[],p,[],hW',?_,?_,?_,Below.frame ⟨he.os,he.tape,he.output,he.size,he.block⟩ _,fun h=>by cases h⟩
 · rw [List.append_nil,hfn,hres]
   exact trodAll_mk1 (shut_bool htb _)
 · rw [List.append_nil,hargs]
   exact trodAll_stays hl he hr hlt hA
 · rw [List.append_nil,hvars,hs]
   exact rfl
end
end Go.Sw
namespace Go.Proofs.YtdfhjlggcdemhaaGreat
open Sw
open Go.ChangeShapes Go.WideShapes Go.RowKit Go.ChangeAt Go.Deep
theorem cellsTerm:Pg.cellsOf 121=2:=by kernel_rfl
theorem cellsCase:Pg.cellsOf 116=3:=by kernel_rfl
theorem cellsSize:Pg.cellsOf 35=2:=by kernel_rfl
theorem cellsField:Pg.cellsOf 38=15:=by kernel_rfl
theorem cellsMessage:Pg.cellsOf 44=2:=by kernel_rfl
theorem cellsDefinition:Pg.cellsOf 24=3:=by kernel_rfl
theorem cellsString:Pg.cellsOf 9=1:=by kernel_rfl
theorem cellsInt:Pg.cellsOf 3=1:=by kernel_rfl
theorem cellsBool:Pg.cellsOf 4=1:=by kernel_rfl
theorem cellsKind:Pg.cellsOf 32=1:=by kernel_rfl
theorem cellsTerms:Pg.cellsOf 33=1:=by kernel_rfl
theorem cellsCases:Pg.cellsOf 36=1:=by kernel_rfl
theorem cellsFields:Pg.cellsOf 42=1:=by kernel_rfl
theorem bytesTerm:1≤Pg.bytesOf 121:=Nat.le_of_ble_eq_true (by kernel_rfl)
theorem bytesCase:1≤Pg.bytesOf 116:=Nat.le_of_ble_eq_true (by kernel_rfl)
theorem bytesField:1≤Pg.bytesOf 38:=Nat.le_of_ble_eq_true (by kernel_rfl)
theorem bytesMessage:1≤Pg.bytesOf 44:=Nat.le_of_ble_eq_true (by kernel_rfl)
def FieldSm (f:FieldD):Prop:=f.terms.length≤140737488355328∧f.cases.length≤140737488355328∧∀ c∈f.cases,c.of.size≤140737488355328
def MsgSm (m:MsgD):Prop:=m.fields.length≤140737488355328∧∀ f∈m.fields,FieldSm f
def DefSm (d:DefD):Prop:=d.msgs.length≤140737488355328∧∀ m∈d.msgs,MsgSm m
theorem cellsMessages:Pg.cellsOf 22=1:=by kernel_rfl
section
variable {H:Type} {enc:TypeId×Value→H} {w:World} {base:Nat} {spare:Nat→Bool} {held:Bool}
theorem term_of {m:Nat} {cs:List Value} {y:DataW H×List MemPlace} (h:DataW.trod enc Pg w base spare held m 121 cs=some y) (hr:Reached Pg 121 y.1):∃ x,ETerm w cs x:=by
 obtain ⟨hl,n,hf⟩:=struct_of_trod Tryz.underlying121 cellsTerm h hr
 obtain ⟨y0,h0,r0⟩:=hf 0 9 0 1 rfl cellsString
 obtain ⟨y1,h1,r1⟩:=hf 1 3 1 1 rfl cellsInt
 match cs,hl with
 | [c0,c1],_ =>
  obtain ⟨s,e0,_⟩:=DataW.trod_string Tryz.underlying9 h0
  obtain ⟨k,e1,_⟩:=DataW.trod_int Tryz.underlying3 h1
  simp at e0 e1
  subst e0 e1
  exact ⟨⟨s,k⟩,rfl⟩
theorem case_of {m:Nat} {cs:List Value} {y:DataW H×List MemPlace} (h:DataW.trod enc Pg w base spare held m 116 cs=some y) (hr:Reached Pg 116 y.1):∃ x,ECase w cs x∧x.of.size≤140737488355328:=by
 obtain ⟨hl,n,hf⟩:=struct_of_trod Tryz.underlying116 cellsCase h hr
 obtain ⟨y0,h0,r0⟩:=hf 0 3 0 1 rfl cellsInt
 obtain ⟨y1,h1,r1⟩:=hf 1 3 1 1 rfl cellsInt
 obtain ⟨y2,h2,r2⟩:=hf 2 9 2 1 rfl cellsString
 match cs,hl with
 | [c0,c1,c2],_ =>
  obtain ⟨a,e0,_⟩:=DataW.trod_int Tryz.underlying3 h0
  obtain ⟨b,e1,_⟩:=DataW.trod_int Tryz.underlying3 h1
  obtain ⟨s,e2,e3,_⟩:=DataW.trod_string Tryz.underlying9 h2
  simp at e0 e1 e2
  subst e0 e1 e2
  refine ⟨⟨a,b,s⟩,rfl,?_⟩
  have:=r2 s.data.toList.length (by rw [e3];exact List.mem_singleton.2 rfl)
  simp only [reachBytes] at this
  have h4:s.size=s.data.toList.length:=Array.length_toList.symm
  show s.size≤_
  omega
theorem size_of {m:Nat} {cs:List Value} {y:DataW H×List MemPlace} (h:DataW.trod enc Pg w base spare held m 35 cs=some y) (hr:Reached Pg 35 y.1):∃ b tv ts,cs=[.int .i64 b,tv]∧TermsOf w tv ts∧ts.length≤140737488355328:=by
 obtain ⟨hl,n,hf⟩:=struct_of_trod Tryz.underlying35 cellsSize h hr
 obtain ⟨y0,h0,r0⟩:=hf 0 3 0 1 rfl cellsInt
 obtain ⟨y1,h1,r1⟩:=hf 1 33 1 1 rfl cellsTerms
 match cs,hl with
 | [c0,c1],_ =>
  obtain ⟨a,e0,_⟩:=DataW.trod_int Tryz.underlying3 h0
  obtain ⟨v,l,e1,hS,_,hL⟩:=slice_of_trod (E:=ETerm) (Q:=fun _=>True) Tryz.underlying33 cellsTerm bytesTerm (by decide) (fun _ _ _ h hr=>let ⟨x,hx⟩:=term_of h hr; ⟨x,hx,trivial⟩) h1 r1
  simp at e0 e1
  subst e0 e1
  exact ⟨a,_,l,rfl,hS,hL⟩
theorem field_of {m:Nat} {cs:List Value} {y:DataW H×List MemPlace} (h:DataW.trod enc Pg w base spare held m 38 cs=some y) (hr:Reached Pg 38 y.1):∃ x,EField w cs x∧FieldSm x:=by
 obtain ⟨hl,n,hf⟩:=struct_of_trod Tryz.underlying38 cellsField h hr
 obtain ⟨y0,h0,r0⟩:=hf 0 9 0 1 rfl cellsString
 obtain ⟨y1,h1,r1⟩:=hf 1 32 1 1 rfl cellsKind
 obtain ⟨y2,h2,r2⟩:=hf 2 3 2 1 rfl cellsInt
 obtain ⟨y3,h3,r3⟩:=hf 3 4 3 1 rfl cellsBool
 obtain ⟨y4,h4,r4⟩:=hf 4 4 4 1 rfl cellsBool
 obtain ⟨y5,h5,r5⟩:=hf 5 3 5 1 rfl cellsInt
 obtain ⟨y6,h6,r6⟩:=hf 6 3 6 1 rfl cellsInt
 obtain ⟨y7,h7,r7⟩:=hf 7 35 7 2 rfl cellsSize
 obtain ⟨y8,h8,r8⟩:=hf 8 9 9 1 rfl cellsString
 obtain ⟨y9,h9,r9⟩:=hf 9 9 10 1 rfl cellsString
 obtain ⟨y10,h10,r10⟩:=hf 10 9 11 1 rfl cellsString
 obtain ⟨y11,h11,r11⟩:=hf 11 36 12 1 rfl cellsCases
 obtain ⟨y12,h12,r12⟩:=hf 12 3 13 1 rfl cellsInt
 obtain ⟨y13,h13,r13⟩:=hf 13 3 14 1 rfl cellsInt
 match cs,hl with
 | [c0,c1,c2,c3,c4,c5,c6,c7,c8,c9,c10,c11,c12,c13,c14],_ =>
  obtain ⟨x0,e0,_⟩:=DataW.trod_string Tryz.underlying9 h0
  obtain ⟨x1,e1,_⟩:=DataW.trod_int Tryz.underlying32 h1
  obtain ⟨x2,e2,_⟩:=DataW.trod_int Tryz.underlying3 h2
  obtain ⟨x3,e3,_⟩:=DataW.trod_bool Tryz.underlying4 h3
  obtain ⟨x4,e4,_⟩:=DataW.trod_bool Tryz.underlying4 h4
  obtain ⟨x5,e5,_⟩:=DataW.trod_int Tryz.underlying3 h5
  obtain ⟨x6,e6,_⟩:=DataW.trod_int Tryz.underlying3 h6
  obtain ⟨x7,tv,ts,e7,hT,hTl⟩:=size_of h7 r7
  obtain ⟨x9,e9,_⟩:=DataW.trod_string Tryz.underlying9 h8
  obtain ⟨x10,e10,_⟩:=DataW.trod_string Tryz.underlying9 h9
  obtain ⟨x11,e11,_⟩:=DataW.trod_string Tryz.underlying9 h10
  obtain ⟨cv,l,e12,hC,hCq,hCl⟩:=slice_of_trod (E:=ECase) (Q:=fun c=>c.of.size≤140737488355328) Tryz.underlying36 cellsCase bytesCase (by decide) (fun _ _ _ h hr=>case_of h hr) h11 r11
  obtain ⟨x13,e13,_⟩:=DataW.trod_int Tryz.underlying3 h12
  obtain ⟨x14,e14,_⟩:=DataW.trod_int Tryz.underlying3 h13
  simp at e0 e1 e2 e3 e4 e5 e6 e7 e9 e10 e11 e12 e13 e14
  obtain ⟨e7,e8⟩:=e7
  subst e0 e1 e2 e3 e4 e5 e6 e7 e8 e9 e10 e11 e12 e13 e14
  exact ⟨⟨x0,x1,x2,x3,x4,x5,x6,x7,ts,x9,x10,x11,l,x13,x14⟩,⟨_,_,rfl,hT,hC⟩,hTl,hCl,hCq⟩
theorem msg_of {m:Nat} {cs:List Value} {y:DataW H×List MemPlace} (h:DataW.trod enc Pg w base spare held m 44 cs=some y) (hr:Reached Pg 44 y.1):∃ x,EMsg w cs x∧MsgSm x:=by
 obtain ⟨hl,n,hf⟩:=struct_of_trod Tryz.underlying44 cellsMessage h hr
 obtain ⟨y0,h0,r0⟩:=hf 0 9 0 1 rfl cellsString
 obtain ⟨y1,h1,r1⟩:=hf 1 42 1 1 rfl cellsFields
 match cs,hl with
 | [c0,c1],_ =>
  obtain ⟨a,e0,_⟩:=DataW.trod_string Tryz.underlying9 h0
  obtain ⟨v,l,e1,hS,hQ,hL⟩:=slice_of_trod (E:=EField) (Q:=FieldSm) Tryz.underlying42 cellsField bytesField (by decide) (fun _ _ _ h hr=>field_of h hr) h1 r1
  simp at e0 e1
  subst e0 e1
  exact ⟨⟨a,l⟩,⟨_,rfl,hS⟩,hL,hQ⟩
theorem def_of {m:Nat} {cs:List Value} {y:DataW H×List MemPlace} (h:DataW.trod enc Pg w base spare held m 24 cs=some y) (hr:Reached Pg 24 y.1):∃ d mv,cs=defCells d mv∧MsgsOf w mv d.msgs∧DefSm d:=by
 obtain ⟨hl,n,hf⟩:=struct_of_trod Tryz.underlying24 cellsDefinition h hr
 obtain ⟨y0,h0,r0⟩:=hf 0 9 0 1 rfl cellsString
 obtain ⟨y1,h1,r1⟩:=hf 1 22 1 1 rfl cellsMessages
 obtain ⟨y2,h2,r2⟩:=hf 2 9 2 1 rfl cellsString
 match cs,hl with
 | [c0,c1,c2],_ =>
  obtain ⟨a,e0,_⟩:=DataW.trod_string Tryz.underlying9 h0
  obtain ⟨v,l,e1,hS,hQ,hL⟩:=slice_of_trod (E:=EMsg) (Q:=MsgSm) Tryz.underlying22 cellsMessage bytesMessage (by decide) (fun _ _ _ h hr=>msg_of h hr) h1 r1
  obtain ⟨b,e2,_⟩:=DataW.trod_string Tryz.underlying9 h2
  simp at e0 e1 e2
  subst e0 e1 e2
  exact ⟨⟨a,l,b⟩,_,rfl,hS,hL,hQ⟩
theorem def_val {r:Reach} {b0:Nat} {v:Value} {d:DataW H} {ps:List MemPlace} (hval:Value.okWide Pg w r b0 24 v) (h:DataW.Trod enc Pg w base spare held 24 v d ps) (hr:Reached Pg 24 d):∃ f,DefVal w v f∧DefSm f:=by
 obtain ⟨cs,rfl,_⟩:=okWide_struct Tryz.underlying24 hval
 obtain ⟨fuel,hf⟩:=h
 obtain ⟨f,tv,h1,h2,hs⟩:=def_of hf hr
 exact ⟨f,⟨tv,congrArg Value.agg (by rw [← h1,cells_agg]),h2⟩,hs⟩
end
end Go.Proofs.YtdfhjlggcdemhaaGreat
namespace Go.Proofs.YtdfhjlggcdemhaaGreat
open Sw
open Go.RowKit (intOf Below)
def sumF (l:List MsgD):Nat:=(l.map fun m=>m.fields.length).sum
def okF (f:FieldD):Prop:=f.cases.length≤50∧f.terms.length≤10
def fitsP (d:DefD):Prop:=d.msgs.length≤70∧sumF d.msgs≤400∧∀ m∈d.msgs,∀ f∈m.fields,okF f
theorem sumF_take {l:List MsgD} {k:Nat} {x:MsgD} (hx:l[k]?=some x):sumF (l.take (k+1))=sumF (l.take k)+x.fields.length:=by
 rw [take_snoc hx];simp [sumF]
theorem le_sumF {l:List MsgD} {m:MsgD} (h:m∈l):m.fields.length≤sumF l:=by
 unfold sumF
 induction l with
 | nil=>cases h
 | cons a l ih =>
  rcases List.mem_cons.1 h with rfl | h
  · simp
  · have:=ih h;simp at this ⊢;omega
theorem forall_take {α:Type} {p:α→Prop} {l:List α} {k:Nat} {x:α} (h:∀ y∈l.take k,p y) (hx:l[k]?=some x) (hp:p x):∀ y∈l.take (k+1),p y:=by
 rw [take_snoc hx]
 intro y hy
 rcases List.mem_append.1 hy with hy | hy
 · exact h y hy
 · simp only [List.mem_singleton] at hy;subst hy;exact hp
theorem refsF_len {f:FieldD} (h:okF f):(refsF f).length≤50:=by
 unfold refsF
 split
 · simp
 · split
   · simpa using h.1
   · simp
theorem allRefs_len:∀ {l:List FieldD},(∀ f∈l,okF f)→(allRefs l).length≤l.length*50
 | [],_=>by simp [allRefs]
 | f::l,h=>by
  have h1:=refsF_len (h f (List.mem_cons_self ..))
  have h2:=allRefs_len (l:=l) (fun g hg=>h g (List.mem_cons_of_mem _ hg))
  unfold allRefs at *
  rw [List.flatMap_cons,List.length_append,List.length_cons]
  omega
theorem fits_calm {d:DefD} (h:fitsP d):calm d:=fun m hm=>by
 have h1:=le_sumF hm
 have h2:=h.2.1
 have h3:=allRefs_len (h.2.2 m hm)
 exact ⟨by omega,fun f hf=>by have:=(h.2.2 m hm f hf).2;omega⟩
def n8c1 (t6 t23:Value) (next3:KV) (R:RT) (w:World):Prop :=
 X0 42 t23 t6 R w fun t38 w =>
 F0 38 t38 11 R w fun t39 w =>
 L0 36 t39 R w fun t40 w =>
 opV Pg (Builtin.len_ #[36] 3 #[t40]) (panK R) w fun t41 w =>
 B0 .gtr 3 true t41 (.int .i64 50) R w fun t42 w =>
 joinK (fun (t51:Value) (w:World) =>
 pickK t42 (.bool true) t51 fun t52 =>
 condP t52 (
 R (.returned (.bool false)) w) (
 B0 .add 3 true t6 (.int .i64 1) R w fun t35 w =>
 next3 t35 w)) fun K4 =>
 guardP t42 false (
 X0 42 t23 t6 R w fun t46 w =>
 F0 38 t46 7 R w fun t47 w =>
 F0 35 t47 1 R w fun t48 w =>
 L0 33 t48 R w fun t49 w =>
 opV Pg (Builtin.len_ #[33] 3 #[t49]) (panK R) w fun t50 w =>
 B0 .gtr 3 true t50 (.int .i64 10) R w fun t51 w =>
 K4 t51 w) (
 K4 undef w)
def n8c2 (t4 t6 t23 t27:Value) (next1:KW) (next3:KV) (R:RT) (w:World):Prop :=
 opV Pg (Builtin.len_ #[42] 3 #[t23]) (panK R) w fun t32 w =>
 B0 .lss 3 false t6 t32 R w fun t33 w =>
 condP t33 (
 n8c1 t6 t23 next3 R w) (
 B0 .add 3 true t4 (.int .i64 1) R w fun t17 w =>
 next1 t27 t17 w)
def n8c3 (t1:Value) (R:RT) (w:World):Prop :=
 F0 24 t1 1 R w fun t53 w =>
 L0 22 t53 R w fun t54 w =>
 opV Pg (Builtin.len_ #[22] 3 #[t54]) (panK R) w fun t55 w =>
 B0 .leq 3 true t55 (.int .i64 70) R w fun t56 w =>
 R (.returned t56) w
def n8c4 (t1 t3 t4:Value) (next1:KW) (R:RT) (w:World):Prop :=
 F0 24 t1 1 R w fun t18 w =>
 L0 22 t18 R w fun t19 w =>
 X0 22 t19 t4 R w fun t21 w =>
 F0 44 t21 1 R w fun t22 w =>
 L0 42 t22 R w fun t23 w =>
 opV Pg (Builtin.len_ #[42] 3 #[t23]) (panK R) w fun t26 w =>
 B0 .add 3 false t3 t26 R w fun t27 w =>
 B0 .gtr 3 true t27 (.int .i64 400) R w fun t29 w =>
 condP t29 (
 R (.returned (.bool false)) w) (
 loop1 (fun t6 w next3 =>
 n8c2 t4 t6 t23 t27 next1 next3 R w) (.int .i64 0) w)
def n8c5 (t1 t3 t4:Value) (next1:KW) (R:RT) (w:World):Prop :=
 F0 24 t1 1 R w fun t8 w =>
 L0 22 t8 R w fun t9 w =>
 opV Pg (Builtin.len_ #[22] 3 #[t9]) (panK R) w fun t10 w =>
 B0 .lss 3 false t4 t10 R w fun t11 w =>
 joinK (fun (t14:Value) (w:World) =>
 pickK t11 t14 (.bool false) fun t15 =>
 condP t15 (
 n8c4 t1 t3 t4 next1 R w) (
 n8c3 t1 R w)) fun K2 =>
 guardP t11 true (
 B0 .leq 3 true t4 (.int .i64 70) R w fun t14 w =>
 K2 t14 w) (
 K2 undef w)
def n8 (t0:Value) (R:RT) (w:World):Prop :=
 opV Pg (Instr.box 24 t0) (panK R) w fun t1 w =>
 loop2 (fun t3 t4 w next1 =>
 n8c5 t1 t3 t4 next1 R w) (.int .i64 0) (.int .i64 0) w
set_option maxHeartbeats 40000000 in
theorem n8s {t0:Value} {R:RT} {w:World} (h:n8 t0 R w):Calls Pg 31 #[t0] w R:=by
 refine yD Tryz.func31 ?_
 refine zs<|zr<|yv h fun _ w h=>zm<|zn<|zk<|zs<|zr<|zm<|zn<|zk<|zs<|zs<|zr<|zm ?_
 refine zn<|zk<|sim_block<|yl2 [2,3,4,5,6,7,8,9,10,11,12,13,14,15,16,17,18,19,20,21,22,23,24,25,26,27,28,29,30,31,32,33,34,35,36,37,38,39,40,41,42,43,44,45,46,47,48,49,50,51,52] 3 4 h fun σ w next h=>zs<|zs<|sim_regionG<|yG 6<|zm<|yv h fun _ w h=>yv h fun _ w h=>yx h fun _ w h=>yb h fun _ w h=>zm<|zn ?_
 refine yg1 2 5 true [13,14] 14 h (fun _ T hT h=>?_) fun σ w h=>?_
 · refine zm<|yb h fun _ w h=>zn ?_
   exact zt hT h
 refine yG 1<|yp h fun _ h=>zn<|sim_end<|zk<|yC h (fun h=>?_) fun h=>?_
 · refine sim_skip<|zk<|zs<|sim_block<|zs<|zr<|yv h fun _ w h=>yv h fun _ w h=>zm<|yv h fun _ w h=>yv h fun _ w h=>yv h fun _ w h=>zm<|zn<|zk ?_
   refine zs<|zr<|zm<|zm<|yx h fun _ w h=>yb h fun _ w h=>zm<|zn<|zk<|zs<|zs<|zr<|zm<|yb h fun _ w h=>zn ?_
   refine zk<|yC h (fun h=>zs<|zr<|zm<|zn<|zk<|sim_ret<|sim_then_ret<|sim_block_ret<|sim_then_ret<|sim_then_ret<|sim_block_ret<|sim_then_ret<|body_ret1 rfl rfl h) fun h=>sim_skip<|zk<|zs<|zr<|zm<|zn<|zk<|sim_block<|yl1 [2,6,30,31,32,33,34,35,36,37,38,39,40,41,42,43,44,45,46,47,48,49,50,51,52] 6 h fun σ w next h=>zs<|zs<|zr ?_
   refine zm<|zm<|yx h fun _ w h=>yb h fun _ w h=>zn<|zk<|yC h (fun h=>?_) fun h=>?_
   · refine sim_skip<|zk<|zs<|sim_block<|zs<|sim_regionG<|yG 8<|zm<|zm<|yv h fun _ w h=>yv h fun _ w h=>yv h fun _ w h=>yx h fun _ w h=>yb h fun _ w h=>zm ?_
     refine zn<|yg1 8 7 false [44,45,46,47,48,49,50,51] 51 h (fun _ T hT h=>?_) fun σ w h=>?_
     · refine zm<|zm<|yv h fun _ w h=>yv h fun _ w h=>yv h fun _ w h=>yv h fun _ w h=>yx h fun _ w h=>yb h fun _ w h=>zn ?_
       exact zt hT h
     refine yG 1<|yp h fun _ h=>zn<|sim_end<|zk<|yC h (fun h=>?_) fun h=>?_
     · refine zs<|zr<|zm<|zn<|zk<|sim_ret<|sim_block_ret<|sim_then_ret<|sim_then_ret<|sim_block_ret<|sim_block_ret<|sim_then_ret<|sim_then_ret<|sim_block_ret<|sim_then_ret ?_
       exact body_ret1 rfl rfl h
     exact sim_skip<|sim_block_normal<|zk<|zr<|zm<|yb h fun _ w h=>zm<|zn<|zk<|⟨rfl,h⟩
   exact sim_exit<|sim_then_exit<|sim_then_exit<|sim_block_hit<|sim_block_normal<|zk<|zr<|zm<|yb h fun _ w h=>zm<|zn<|zk<|⟨rfl,h⟩
 refine sim_exit<|sim_then_exit<|sim_then_exit<|sim_block_hit<|zk<|zs<|zr<|yv h fun _ w h=>yv h fun _ w h=>yx h fun _ w h=>yb h fun _ w h=>zm<|zn<|zk<|sim_ret ?_
 exact body_ret1 rfl rfl h
theorem fits08_ret (w0:World) (v:Value) (d:DefD) (hd:DefVal w0 v d) (hs:DefSm d):Ret Pg 31 #[v] w0 fun r w'=>∃ b,r = .bool b∧(b=true→fitsP d)∧Ext w0 w':=by
 obtain ⟨mv,rfl,hM⟩:=hd
 obtain ⟨A,c,rfl,hlc,hcm,hlm,hel⟩:=SliceOf.open hM
 refine n8s (R:=retR _) ?_;unfold n8
 simp (disch:=try exact DI) only [↓PR,QR,simprocAttr]
 have hBW:=ElemAt.new (w:=w0) (defCells d (.slice A d.msgs.length c)) (24)
 have eW:Ext w0 (w0.alloc (Obj.cells (List.toArray (defCells d (.slice A d.msgs.length c))) (24))):=(Ext.refl _).alloc _
 generalize (w0.alloc (Obj.cells (List.toArray (defCells d (.slice A d.msgs.length c))) (24)))=W at hBW eW ⊢
 refine loop2_intro (fun a0 a1 w=>∃ (k:Nat) , a0 = .int .i64 (sumF (d.msgs.take k):Nat)∧a1 = .int .i64 (k:Int)∧k≤d.msgs.length∧Ext W w∧sumF (d.msgs.take k)≤400∧∀ m∈d.msgs.take k,∀ f∈m.fields,okF f) (fun a0 a1 _=>d.msgs.length - (intOf a1).toNat) ⟨0,rfl,rfl,Nat.zero_le _,ee,⟨by simp [sumF],by simp⟩⟩ ?_
 rintro _ _ w ⟨k,rfl,rfl,hk,e,hI⟩
 have se:=e.size
 rcases drop_cases hk with ⟨x,hx,hd,hlt,hdec⟩ | ⟨hk,hd,hdec⟩
 · obtain ⟨h400,hok⟩:=hI
   obtain ⟨b,o,cs,rfl,hl,hA,fv,rfl,hF⟩:=hel k x hx
   obtain ⟨A2,c2,rfl,hlc2,hcm2,hlm2,hel2⟩:=SliceOf.open hF
   have hxm:=List.mem_of_getElem? hx
   have hsx:=hs.2 x hxm
   have hx1:=hsx.1
   have e':=eW.trans e
   unfold n8c5
   by_cases hk70:k≤70
   · have d1:decide ((k:Int)≤70)=true:=by simp;omega
     simp (disch:=try exact DI) only [↓PR,QR,simprocAttr,hBW.c3,hdec,d1]
     unfold n8c4
     have hwr:IntKind.i64.wrap ((sumF (d.msgs.take k):Int)+(x.fields.length:Int))=((sumF (d.msgs.take (k+1)):Nat):Int):=by
      rw [sumF_take hx,wrap_ok (by omega) (by omega)];omega
     by_cases hn:sumF (d.msgs.take (k+1))≤400
     · have d2:decide (((sumF (d.msgs.take (k+1)):Nat):Int) > 400)=false:=by simp;omega
       simp (disch:=try exact DI) only [↓PR,QR,simprocAttr,hBW.c3,(hA.c2 e').1,(hA.c2 e').2,hwr,d2]
       rw [hwr]
       refine loop1_intro (fun a0 wb=>∃ (kb:Nat) , a0 = .int .i64 (kb:Int)∧kb≤x.fields.length∧Ext w wb∧∀ f∈x.fields.take kb,okF f) (fun a0 _=>x.fields.length - (intOf a0).toNat) ⟨0,rfl,Nat.zero_le _,ee,by simp⟩ ?_
       rintro _ wb ⟨kb,rfl,hkb,eb,hIb⟩
       have seb:=eb.size
       rcases drop_cases hkb with ⟨xb,hxb,hdb,hltb,hdecb⟩ | ⟨hkb,hdb,hdecb⟩
       · obtain ⟨b2,o2,cs2,rfl,hl2,hA2,hE2⟩:=hel2 kb xb hxb
         obtain ⟨tv,cv,rfl,hT,hC,ht1,hc1⟩:=hE2.op
         obtain ⟨A3,c3,rfl,hlc3,hcm3,hlm3,hel3⟩:=SliceOf.open hC
         obtain ⟨A4,c4,rfl,hlc4,hcm4,hlm4,hel4⟩:=SliceOf.open hT
         have eb':=e'.trans eb
         unfold n8c2
         simp (disch:=try exact DI) only [↓PR,QR,simprocAttr,hdecb]
         unfold n8c1
         have hcell:=hA2.c15 eb'
         by_cases hc50:xb.cases.length≤50
         · have d3:decide ((xb.cases.length:Int) > 50)=false:=by simp;omega
           by_cases ht10:xb.terms.length≤10
           · have d4:decide ((xb.terms.length:Int) > 10)=false:=by simp;omega
             simp (disch:=try exact DI) only [↓PR,QR,simprocAttr,hcell,d3,d4]
             exact ⟨⟨kb+1,rfl,by omega,ee,forall_take hIb hxb ⟨hc50,ht10⟩⟩,meas_lt hltb⟩
           · have d4:decide ((xb.terms.length:Int) > 10)=true:=by simp;omega
             simp (disch:=try exact DI) only [↓PR,QR,simprocAttr,hcell,d3,d4]
             exact ⟨false,rfl,by simp,ee⟩
         · have d3:decide ((xb.cases.length:Int) > 50)=true:=by simp;omega
           simp (disch:=try exact DI) only [↓PR,QR,simprocAttr,hcell,d3]
           exact ⟨false,rfl,by simp,ee⟩
       · subst hkb
         rw [List.take_length] at hIb
         unfold n8c2
         simp (disch:=try exact DI) only [↓PR,QR,simprocAttr,hdecb]
         exact ⟨⟨k+1,rfl,rfl,by omega,ee,⟨hn,forall_take hok hx hIb⟩⟩,meas_lt hlt⟩
     · have d2:decide (((sumF (d.msgs.take (k+1)):Nat):Int) > 400)=true:=by simp;omega
       simp (disch:=try exact DI) only [↓PR,QR,simprocAttr,hBW.c3,(hA.c2 e').1,(hA.c2 e').2,hwr,d2]
       exact ⟨false,rfl,by simp,ee⟩
   · have d1:decide ((k:Int)≤70)=false:=by simp;omega
     have d2:decide ((d.msgs.length:Int)≤70)=false:=by simp;omega
     simp (disch:=try exact DI) only [↓PR,QR,simprocAttr,hBW.c3,hdec,d1,n8c3,d2]
     exact ⟨false,rfl,by simp,ee⟩
 · subst hk
   obtain ⟨h400,hok⟩:=hI
   rw [List.take_length] at h400 hok
   unfold n8c5
   simp (disch:=try exact DI) only [↓PR,QR,simprocAttr,hBW.c3,hdec,n8c3]
   exact ⟨_,rfl,fun hb=>⟨by have:=of_decide_eq_true hb;omega,h400,hok⟩,ee⟩
def zeroS:FieldD:={ name:=ByteArray.empty,kind:=0,bits:=0,little:=false,loose:=false,low:=0,high:=0,base:=0,terms:=[],of:=ByteArray.empty,tag:=ByteArray.empty,fr:=ByteArray.empty,cases:=[],check:=0,key:=0 }
def sA:List FieldD:=[{ zeroS with name:=⟨#[110]⟩,kind:=1,bits:=8,high:=3 },{ zeroS with name:=⟨#[98]⟩,kind:=4,terms:=[⟨⟨#[110]⟩,1⟩] }]
def sM:List FieldD:=[{ zeroS with name:=⟨#[116]⟩,kind:=1,bits:=3,high:=2 },{ zeroS with name:=⟨#[112]⟩,kind:=10,bits:=8 },{ zeroS with name:=⟨#[118]⟩,kind:=3,high:=300 },{ zeroS with name:=⟨#[108]⟩,kind:=7,of:=⟨#[97]⟩,base:=1,terms:=[⟨⟨#[116]⟩,1⟩] },{ zeroS with name:=⟨#[107]⟩,kind:=11,check:=3,fr:=⟨#[116]⟩ }]
def sD:DefD:=⟨⟨#[100]⟩,[⟨⟨#[97]⟩,sA⟩,⟨⟨#[109]⟩,sM⟩],⟨#[109]⟩⟩
abbrev encS (p q:Nat) (f:FieldD):List Value:=fieldCells f (if f.kind=4 then .slice (some ⟨p,0,none⟩) 1 1 else if f.kind=7 then .slice (some ⟨q,0,none⟩) 1 1 else .slice none 0 0) (.slice none 0 0)
theorem flat_len {α β:Type} {n:Nat} {enc:α→List β} (hn:∀ x,(enc x).length=n) (l:List α):(l.flatMap enc).length=l.length*n:=by
 induction l with
 | nil=>simp
 | cons a l ih=>rw [List.flatMap_cons,List.length_append,ih,hn,List.length_cons,Nat.add_mul];omega
theorem row_of {α:Type} {w:World} {b n k:Nat} {E:World→List Value→α→Prop} {enc:α→List Value} {T:TypeId} (l:List α) (h:w.heap[b]?=some (.cells (l.flatMap enc).toArray T (0,0))) (hk:k=l.length) (hl:l.length≤1048576) (hn:∀ x,(enc x).length=n) (hE:∀ x,x∈l→E w (enc x) x):SliceOf w n E (.slice (some ⟨b,0,none⟩) k k) l:=by
 subst hk
 refine OwnE.slice (base:=0) (T:=T) (enc:=enc) ⟨?_,.inr ⟨b,l.length,(l.flatMap enc).toArray,rfl,Nat.zero_le _,h,Nat.le_refl _,by simp only [maxLen];omega,?_,?_⟩⟩ hn hE
 · exact flat_len hn l
 · rw [List.size_toArray];exact flat_len hn l
 · rw [List.take_of_length_le (by rw [flat_len hn l];exact Nat.le_refl _)]
abbrev encM (p q:Nat) (m:MsgD):List Value:=msgCells m (if m.name=⟨#[97]⟩ then .slice (some ⟨p,0,none⟩) 2 2 else .slice (some ⟨q,0,none⟩) 5 5)
theorem given08_ret (w0:World):Ret Pg 61 #[] w0 fun r w'=>DefVal w' r sD∧Ext w0 w':=by
 refine n9s (R:=retR _) ?_;unfold n9
 simp (disch:=try exact DI) only [↓PR,QR,Int.reduceBEq,Int.reduceBNe,Int.reduceLT,Int.reduceLE,Int.reduceGT,Int.reduceGE,Int.reduceNeg]
 generalize hF:World.alloc (World.alloc _ _) _=F
 have e0:Ext w0 F:=by rw [← hF];exact ee
 have o1:F.heap[w0.heap.size+1]?=some (.cells (([⟨⟨#[110]⟩,1⟩]:List TermD).flatMap termCells).toArray 121 (0,0)):=by rw [← hF];simp (disch:=try exact DI) only [↓PR,QR,Int.reduceBEq,Int.reduceBNe,Int.reduceLT,Int.reduceLE,Int.reduceGT,Int.reduceGE,Int.reduceNeg];rfl
 have o3:F.heap[w0.heap.size+1+1+1]?=some (.cells (([⟨⟨#[116]⟩,1⟩]:List TermD).flatMap termCells).toArray 121 (0,0)):=by rw [← hF];simp (disch:=try exact DI) only [↓PR,QR,Int.reduceBEq,Int.reduceBNe,Int.reduceLT,Int.reduceLE,Int.reduceGT,Int.reduceGE,Int.reduceNeg];rfl
 have o5:F.heap[w0.heap.size+1+1+1+1+1]?=some (.cells (sA.flatMap (encS (w0.heap.size+1) (w0.heap.size+1+1+1))).toArray 38 (0,0)):=by rw [← hF];simp (disch:=try exact DI) only [↓PR,QR,Int.reduceBEq,Int.reduceBNe,Int.reduceLT,Int.reduceLE,Int.reduceGT,Int.reduceGE,Int.reduceNeg];rfl
 have o6:F.heap[w0.heap.size+1+1+1+1+1+1]?=some (.cells (sM.flatMap (encS (w0.heap.size+1) (w0.heap.size+1+1+1))).toArray 38 (0,0)):=by rw [← hF];simp (disch:=try exact DI) only [↓PR,QR,Int.reduceBEq,Int.reduceBNe,Int.reduceLT,Int.reduceLE,Int.reduceGT,Int.reduceGE,Int.reduceNeg];rfl
 have o7:F.heap[w0.heap.size+1+1+1+1+1+1+1]?=some (.cells (sD.msgs.flatMap (encM (w0.heap.size+1+1+1+1+1) (w0.heap.size+1+1+1+1+1+1))).toArray 44 (0,0)):=by rw [← hF];simp (disch:=try exact DI) only [↓PR,QR,Int.reduceBEq,Int.reduceBNe,Int.reduceLT,Int.reduceLE,Int.reduceGT,Int.reduceGE,Int.reduceNeg];rfl
 clear hF
 generalize w0.heap.size+1+1+1+1+1+1+1=p7 at o7 ⊢
 generalize w0.heap.size+1+1+1+1+1+1=p6 at o6 o7
 generalize w0.heap.size+1+1+1+1+1=p5 at o5 o7
 generalize w0.heap.size+1+1+1=p3 at o3 o5 o6
 generalize w0.heap.size+1=p1 at o1 o5 o6
 have hT1:TermsOf F (.slice (some ⟨p1,0,none⟩) 1 1) [⟨⟨#[110]⟩,1⟩]:=row_of _ o1 rfl (by decide) (fun _=>rfl) (fun _ _=>rfl)
 have hT3:TermsOf F (.slice (some ⟨p3,0,none⟩) 1 1) [⟨⟨#[116]⟩,1⟩]:=row_of _ o3 rfl (by decide) (fun _=>rfl) (fun _ _=>rfl)
 have h0:TermsOf F (.slice none 0 0) []:=SliceOf.nil _ _ _
 have c0:CasesOf F (.slice none 0 0) []:=SliceOf.nil _ _ _
 have hA:FieldsOf F (.slice (some ⟨p5,0,none⟩) 2 2) sA:=row_of sA o5 rfl (by decide) (fun _=>rfl) fun f hf=>by
  simp only [sA,List.mem_cons,List.not_mem_nil,or_false] at hf
  rcases hf with rfl | rfl
  · exact ⟨_,_,rfl,h0,c0⟩
  · exact ⟨_,_,rfl,hT1,c0⟩
 have hM:FieldsOf F (.slice (some ⟨p6,0,none⟩) 5 5) sM:=row_of sM o6 rfl (by decide) (fun _=>rfl) fun f hf=>by
  simp only [sM,List.mem_cons,List.not_mem_nil,or_false] at hf
  rcases hf with rfl | rfl | rfl | rfl | rfl
  · exact ⟨_,_,rfl,h0,c0⟩
  · exact ⟨_,_,rfl,h0,c0⟩
  · exact ⟨_,_,rfl,h0,c0⟩
  · exact ⟨_,_,rfl,hT3,c0⟩
  · exact ⟨_,_,rfl,h0,c0⟩
 refine ⟨⟨.slice (some ⟨p7,0,none⟩) 2 2,rfl,row_of sD.msgs o7 rfl (by decide) (fun _=>rfl) fun m hm=>?_⟩,e0⟩
 simp only [sD,List.mem_cons,List.not_mem_nil,or_false] at hm
 rcases hm with rfl | rfl
 · exact ⟨_,rfl,hA⟩
 · exact ⟨_,rfl,hM⟩
theorem is_ret (w0:World) (a b e lo hi:Int):Ret Pg 63 #[rangeVal a b,.int .i64 e,.int .i64 lo,.int .i64 hi] w0 fun r w'=>r = .bool (decide (a=lo)&&decide (b=hi)&&e == 0)∧Ext w0 w':=by
 refine n10s (R:=retR _) ?_;unfold n10
 simp (disch:=try exact DI) only [↓PR,QR,simprocAttr]
 exact ⟨by first | trivial | rfl,ee⟩
theorem spans_ret (w0:World) (a b:Int):Ret Pg 37 #[rangeVal a b] w0 fun r w'=>r=rangeVal a b∧Ext w0 w':=by
 refine n13s (R:=retR _) ?_;unfold n13
 simp (disch:=try exact DI) only [↓PR,QR,simprocAttr]
 exact ⟨by first | trivial | rfl,ee⟩
theorem calm_s:calm sD:=by
 intro m hm
 simp only [sD,List.mem_cons,List.not_mem_nil,or_false] at hm
 rcases hm with rfl | rfl
 · exact ⟨by decide,by decide⟩
 · exact ⟨by decide,by decide⟩
theorem sE_01:errG sD 0 1=0:=by decide +kernel
theorem sE_12:errG sD 1 2=0:=by decide +kernel
theorem sE_13:errG sD 1 3=0:=by decide +kernel
theorem sE_11:errG sD 1 1=0:=by decide +kernel
theorem sE_00:errG sD 0 0=0:=by decide +kernel
theorem sE_10:errG sD 1 0=0:=by decide +kernel
theorem sF_01:fieldV sD 0 1=(0,24):=by decide +kernel
theorem sF_12:fieldV sD 1 2=(8,16):=by decide +kernel
theorem sF_13:fieldV sD 1 3=(8,96):=by decide +kernel
theorem sP_11:posV sD 1 1=(3,3):=by decide +kernel
theorem sP_12:posV sD 1 2=(8,8):=by decide +kernel
theorem sM_0:msgV sD 0=(8,32):=by decide +kernel
theorem sM_1:msgV sD 1=(56,152):=by decide +kernel
theorem field08_true (w0:World) (i j lo hi:Int) (hE:errG sD i j=0) (hF:fieldV sD i j=(lo,hi)):Ret Pg 62 #[.int .i64 i,.int .i64 j,.int .i64 lo,.int .i64 hi] w0 fun r w'=>r = .bool true∧Ext w0 w':=by
 refine n7s (R:=retR _) ?_;unfold n7
 refine callK_ret (given08_ret _) ?_
 rintro v w1 ⟨hd,e1⟩
 refine zcr (FieldX_ret v i j hd calm_s (sound_of sD calm_s) (by decide)) fun w2 e2=>?_
 rw [hE,hF]
 unfold n7c1 getR
 rw [if_pos rfl]
 simp (disch:=try exact DI) only [↓PR,QR,simprocAttr]
 refine zcr (is_ret _ lo hi 0 lo hi) fun w3 e3=>?_
 exact ⟨_,rfl,by simp,ee⟩
theorem position08_true (w0:World) (i j lo hi:Int) (hE:errG sD i j=0) (hF:posV sD i j=(lo,hi)):Ret Pg 64 #[.int .i64 i,.int .i64 j,.int .i64 lo,.int .i64 hi] w0 fun r w'=>r = .bool true∧Ext w0 w':=by
 refine n12s (R:=retR _) ?_;unfold n12
 refine callK_ret (given08_ret _) ?_
 rintro v w1 ⟨hd,e1⟩
 refine zcr (PositionX_ret v i j hd calm_s (sound_of sD calm_s) (by decide) (by decide)) fun w2 e2=>?_
 rw [hE,hF]
 unfold n12c1 getR
 rw [if_pos rfl]
 simp (disch:=try exact DI) only [↓PR,QR,simprocAttr]
 refine zcr (is_ret _ lo hi 0 lo hi) fun w3 e3=>?_
 exact ⟨_,rfl,by simp,ee⟩
theorem known08_ret (w0:World):Ret Pg 32 #[] w0 fun r w'=>r = .bool true∧Ext w0 w':=by
 have hs:=sound_of sD calm_s
 refine n11s (R:=retR _) ?_;unfold n11
 refine callK_ret (given08_ret _) ?_
 rintro v1 w1 ⟨hd1,e1⟩
 refine zcr (MessageX_ret v1 0 hd1 calm_s hs (by decide)) fun w2 e2=>?_
 have E2:=e1.trans e2
 rw [sE_00,sM_0]
 unfold n11c13 getR
 rw [if_pos rfl]
 simp (disch:=try exact DI) only [↓PR,QR,simprocAttr]
 have eA:Ext w2 (w2.alloc (.cells #[.int .i64 8,.int .i64 32] 67)):=ee
 have oA:=heap_new w2 #[.int .i64 8,.int .i64 32] 67
 generalize (w2.alloc (.cells #[.int .i64 8,.int .i64 32] 67))=A at eA oA ⊢
 generalize w2.heap.size=pA at oA ⊢
 refine callK_ret (given08_ret _) ?_
 rintro v3 w3 ⟨hd3,e3⟩
 refine zcr (LengthX_ret v3 0 hd3 calm_s hs (by decide) (fun _=>by rw [sM_0];decide)) fun w4 e4=>?_
 have E4:=(E2.trans eA).trans (e3.trans e4)
 have xA:=(e3.trans e4).obj oA
 rw [sE_00,sM_0]
 unfold n11c12 getR
 rw [if_pos rfl]
 simp only [show ((8:Int)+7).tdiv 8=1 from rfl,show ((32:Int)+7).tdiv 8=4 from rfl]
 simp (disch:=try exact DI) only [↓PR,QR,simprocAttr]
 have eB:Ext w4 (w4.alloc (.cells #[.int .i64 1,.int .i64 4] 67)):=ee
 have oB:=heap_new w4 #[.int .i64 1,.int .i64 4] 67
 generalize (w4.alloc (.cells #[.int .i64 1,.int .i64 4] 67))=B at eB oB ⊢
 generalize w4.heap.size=pB at oB ⊢
 refine callK_ret (given08_ret _) ?_
 rintro v5 w5 ⟨hd5,e5⟩
 refine zcr (MessageX_ret v5 1 hd5 calm_s hs (by decide)) fun w6 e6=>?_
 have f6:=eB.trans (e5.trans e6)
 have E6:=E4.trans f6
 have yA:=f6.obj xA
 have xB:=(e5.trans e6).obj oB
 rw [sE_10,sM_1]
 unfold n11c11 getR
 rw [if_pos rfl]
 simp (disch:=try exact DI) only [↓PR,QR,simprocAttr]
 have eC:Ext w6 (w6.alloc (.cells #[.int .i64 56,.int .i64 152] 67)):=ee
 have oC:=heap_new w6 #[.int .i64 56,.int .i64 152] 67
 generalize (w6.alloc (.cells #[.int .i64 56,.int .i64 152] 67))=C at eC oC ⊢
 generalize w6.heap.size=pC at oC ⊢
 refine callK_ret (given08_ret _) ?_
 rintro v7 w7 ⟨hd7,e7⟩
 refine zcr (FixedX_ret v7 0 hd7 calm_s hs (by decide)) fun w8 e8=>?_
 rw [sE_00,sM_0]
 unfold n11c10
 simp (disch:=try exact DI) only [↓PR,QR,simprocAttr]
 refine zcr (field08_true _ 0 1 0 24 sE_01 sF_01) fun w9 e9=>?_
 have f9:=e7.trans (e8.trans e9)
 have E9:=(E6.trans eC).trans f9
 have zA:=(eC.trans f9).obj yA
 have zB:=(eC.trans f9).obj xB
 have zC:=f9.obj oC
 clear e1 e2 E2 eA oA e3 e4 E4 xA eB oB e5 e6 f6 E6 yA xB eC oC e7 e8 e9 f9 hd1 hd3 hd5 hd7
 simp (disch:=try exact DI) only [↓PR,QR,simprocAttr,↓n11c9,(cells_of_heap zA).1]
 refine zcr (is_ret _ 8 32 0 8 32) fun wa ea=>?_
 simp (disch:=try exact DI) only [↓PR,QR,simprocAttr,↓n11c8,(cells_of_heap (ea.obj zB)).1]
 refine zcr (is_ret _ 1 4 0 1 4) fun wb eb=>?_
 simp (disch:=try exact DI) only [↓PR,QR,simprocAttr,↓n11c7,(cells_of_heap ((ea.trans eb).obj zC)).1]
 refine zcr (is_ret _ 56 152 0 56 152) fun wc ec=>?_
 simp (disch:=try exact DI) only [↓PR,QR,simprocAttr,↓n11c6,↓n11c5,↓n11c4]
 refine zcr (position08_true _ 1 1 3 3 sE_11 sP_11) fun wd ed=>?_
 simp (disch:=try exact DI) only [↓PR,QR,simprocAttr,↓n11c3]
 refine zcr (position08_true _ 1 2 8 8 sE_12 sP_12) fun we ew=>?_
 simp (disch:=try exact DI) only [↓PR,QR,simprocAttr,↓n11c2]
 refine zcr (field08_true _ 1 2 8 16 sE_12 sF_12) fun wf ef=>?_
 simp (disch:=try exact DI) only [↓PR,QR,simprocAttr,↓n11c1]
 refine zcr (field08_true _ 1 3 8 96 sE_13 sF_13) fun wg eg=>?_
 simp (disch:=try exact DI) only [↓PR,QR,simprocAttr]
 exact ⟨by trivial,E9.trans (ea.trans (eb.trans (ec.trans (ed.trans (ew.trans (ef.trans eg))))))⟩
theorem rValid_ret (w0:World) (v:Value) (d:DefD) (hd:DefVal w0 v d) (hb:calm d):Ret Pg 21 #[v] w0 fun r w'=>r = .bool (!flawedB d)∧Ext w0 w':=by
 obtain ⟨mv,rfl,hM⟩:=hd
 have hm1:=SliceOf.oneCell hM
 refine n29s (R:=retR _) ?_;unfold n29
 simp (disch:=try exact DI) only [↓PR,QR,simprocAttr]
 refine zcr (rCheck_ret _ _ d ⟨mv,rfl,hM.ext ee⟩ hb) fun w1 e1=>?_
 unfold n29c1
 simp (disch:=try exact DI) only [↓PR,QR,simprocAttr]
 exact ⟨by first | trivial | rfl,ee⟩
def n6c1 (t70 t74:Value) (R:RT) (w:World):Prop :=
 pickK t70 t74 (.bool false) fun t75 =>
 joinK (fun (t77:Value) (w:World) =>
 pickK t75 t77 (.bool false) fun t78 =>
 R (.returned t78) w) fun K7 =>
 guardP t75 true (
 C0 32 #[] R w fun t77 w =>
 K7 t77 w) (
 K7 undef w)
def n6c2 (t11 t34 t65 t69:Value) (R:RT) (w:World):Prop :=
 pickK t65 t69 (.bool false) fun t70 =>
 joinK (fun (t74:Value) (w:World) =>
 n6c1 t70 t74 R w) fun K6 =>
 guardP t70 true (
 B0 .eql 52 false t34 t11 R w fun t74 w =>
 K6 t74 w) (
 K6 undef w)
def n6c3 (t11 t28 t34 t60 t64:Value) (R:RT) (w:World):Prop :=
 pickK t60 t64 (.bool false) fun t65 =>
 joinK (fun (t69:Value) (w:World) =>
 n6c2 t11 t34 t65 t69 R w) fun K5 =>
 guardP t65 true (
 B0 .eql 52 false t28 t11 R w fun t69 w =>
 K5 t69 w) (
 K5 undef w)
def n6c4 (t11 t22 t28 t34 t56 t59:Value) (R:RT) (w:World):Prop :=
 pickK t56 t59 (.bool false) fun t60 =>
 joinK (fun (t64:Value) (w:World) =>
 n6c3 t11 t28 t34 t60 t64 R w) fun K4 =>
 guardP t60 true (
 B0 .eql 52 false t22 t11 R w fun t64 w =>
 K4 t64 w) (
 K4 undef w)
def n6c5 (t11 t22 t28 t33 t34 t51 t55:Value) (R:RT) (w:World):Prop :=
 pickK t51 t55 (.bool false) fun t56 =>
 joinK (fun (t59:Value) (w:World) =>
 n6c4 t11 t22 t28 t34 t56 t59 R w) fun K3 =>
 guardP t56 true (
 opV Pg (Op.unary .not t33) (panK R) w fun t59 w =>
 K3 t59 w) (
 K3 undef w)
def n6c6 (t111 t114:Value) (C8:World→Prop) (R:RT) (w:World):Prop :=
 pickK t111 t114 (.bool false) fun t115 =>
 joinK (fun (t117:Value) (w:World) =>
 pickK t115 t117 (.bool false) fun t118 =>
 R (.returned t118) w) fun K14 =>
 guardP t115 true (
 C0 32 #[] R w fun t117 w =>
 C8 w∧(
 K14 t117 w)) (
 K14 undef w)
def n6c7 (t34 t107 t110:Value) (C8:World→Prop) (R:RT) (w:World):Prop :=
 pickK t107 t110 (.bool false) fun t111 =>
 joinK (fun (t114:Value) (w:World) =>
 n6c6 t111 t114 C8 R w) fun K13 =>
 guardP t111 true (
 qV Pg C8 (binS .eql 52 true t34 (.int .i64 0)) fun t114 =>
 K13 t114 w) (
 K13 undef w)
def n6c8 (t28 t34 t103 t106:Value) (C8:World→Prop) (R:RT) (w:World):Prop :=
 pickK t103 t106 (.bool false) fun t107 =>
 joinK (fun (t110:Value) (w:World) =>
 n6c7 t34 t107 t110 C8 R w) fun K12 =>
 guardP t107 true (
 qV Pg C8 (binS .eql 52 true t28 (.int .i64 0)) fun t110 =>
 K12 t110 w) (
 K12 undef w)
def n6c9 (t22 t28 t34 t94 t102:Value) (C8:World→Prop) (R:RT) (w:World):Prop :=
 pickK t94 t102 (.bool false) fun t103 =>
 joinK (fun (t106:Value) (w:World) =>
 n6c8 t28 t34 t103 t106 C8 R w) fun K11 =>
 guardP t103 true (
 qV Pg C8 (binS .eql 52 true t22 (.int .i64 0)) fun t106 =>
 K11 t106 w) (
 K11 undef w)
def n6c10 (t12 t22 t28 t33 t34 t87 t93:Value) (C8:World→Prop) (R:RT) (w:World):Prop :=
 pickK t87 t93 (.bool false) fun t94 =>
 joinK (fun (t102:Value) (w:World) =>
 n6c9 t22 t28 t34 t94 t102 C8 R w) fun K10 =>
 guardP t94 true (
 qV Pg C8 (Instr.fieldAt 72 t12 0) fun t97 =>
 qV Pg C8 (Instr.loadAt 3 t97) fun t98 =>
 qV Pg C8 (Instr.fieldAt 72 t12 1) fun t99 =>
 qV Pg C8 (Instr.loadAt 3 t99) fun t100 =>
 qV Pg C8 (binS .eql 3 false t98 t100) fun t101 =>
 qV Pg C8 (binS .eql 4 false t33 t101) fun t102 =>
 K10 t102 w) (
 K10 undef w)
def n6c11 (t7 t12 t22 t28 t33 t34 t84 t86:Value) (C8:World→Prop) (R:RT) (w:World):Prop :=
 qV Pg C8 (binS .eql 67 false t84 t86) fun t87 =>
 joinK (fun (t93:Value) (w:World) =>
 n6c10 t12 t22 t28 t33 t34 t87 t93 C8 R w) fun K9 =>
 guardP t87 true (
 qV Pg C8 (Instr.loadAt 67 t7) fun t89 =>
 qV Pg C8 (Instr.loadAt 72 t12) fun t90 =>
 C0 42 #[t90] R w fun t91 w =>
 C8 w∧(
 C0 37 #[t91] R w fun t92 w =>
 C8 w∧(
 qV Pg C8 (binS .eql 67 false t89 t92) fun t93 =>
 K9 t93 w))) (
 K9 undef w)
def n6c12 (t5 t7 t12 t22 t28 t33 t34:Value) (C8:World→Prop) (R:RT) (w:World):Prop :=
 qV Pg C8 (Instr.loadAt 67 t5) fun t84 =>
 qV Pg C8 (Instr.loadAt 72 t12) fun t85 =>
 C0 37 #[t85] R w fun t86 w =>
 C8 w∧(
 n6c11 t7 t12 t22 t28 t33 t34 t84 t86 C8 R w)
def n6c13 (t1 t5 t7 t22 t28 t33 t34 t80:Value) (R:RT) (w:World):Prop :=
 X0 70 t80 t1 R w fun t82 w =>
 L0 72 t82 R w fun t83 w =>
 opV Pg (Instr.alloc 72 true (.tuple #[])) (panK R) w fun t12 w =>
 opU Pg (Instr.storeAt 72 t12 t83) (panK R) w fun w =>
 drawK w fun C8 w =>
 n6c12 t5 t7 t12 t22 t28 t33 t34 C8 R w
def n6c14 (t5 t7 t11 t22 t28 t33 t34:Value) (R:RT) (w:World):Prop :=
 L0 67 t5 R w fun t49 w =>
 opV Pg (Instr.build 67 #[]) (panK R) w fun t50 w =>
 B0 .eql 67 false t49 t50 R w fun t51 w =>
 joinK (fun (t55:Value) (w:World) =>
 n6c5 t11 t22 t28 t33 t34 t51 t55 R w) fun K2 =>
 guardP t51 true (
 L0 67 t7 R w fun t53 w =>
 opV Pg (Instr.build 67 #[]) (panK R) w fun t54 w =>
 B0 .eql 67 false t53 t54 R w fun t55 w =>
 K2 t55 w) (
 K2 undef w)
def n6c15 (t1 t2 t5 t7 t11 t22 t28 t33 t34:Value) (R:RT) (w:World):Prop :=
 B0 .neq 52 true t11 (.int .i64 0) R w fun t48 w =>
 condP t48 (
 n6c14 t5 t7 t11 t22 t28 t33 t34 R w) (
 L0 24 t2 R w fun t79 w =>
 C0 35 #[t79] R w fun t80 w =>
 n6c13 t1 t5 t7 t22 t28 t33 t34 t80 R w)
def n6c16 (t1 t2:Value) (K1:KV) (R:RT) (w:World):Prop :=
 B0 .lss 3 true t1 (.int .i64 0) R w fun t39 w =>
 joinK (fun (t45:Value) (w:World) =>
 pickK t39 (.bool true) t45 fun t46 =>
 condP t46 (
 K1 (.int .i64 3) w) (
 K1 (.int .i64 0) w)) fun K15 =>
 guardP t39 false (
 F0 24 t2 1 R w fun t42 w =>
 L0 22 t42 R w fun t43 w =>
 opV Pg (Builtin.len_ #[22] 3 #[t43]) (panK R) w fun t44 w =>
 B0 .geq 3 false t1 t44 R w fun t45 w =>
 K15 t45 w) (
 K15 undef w)
def n6c17 (t1 t2 t5 t7 t22 t28 t33 t34 t36:Value) (R:RT) (w:World):Prop :=
 opV Pg (Op.unary .not t36) (panK R) w fun t37 w =>
 joinK (fun (t11:Value) (w:World) =>
 n6c15 t1 t2 t5 t7 t11 t22 t28 t33 t34 R w) fun K1 =>
 condP t37 (
 K1 (.int .i64 2) w) (
 n6c16 t1 t2 K1 R w)
def n6c18 (t1 t2 t5 t7 t22 t28 t32:Value) (R:RT) (w:World):Prop :=
 opV Pg (Instr.extract t32 0) (panK R) w fun t33 w =>
 opV Pg (Instr.extract t32 1) (panK R) w fun t34 w =>
 L0 24 t2 R w fun t35 w =>
 C0 21 #[t35] R w fun t36 w =>
 n6c17 t1 t2 t5 t7 t22 t28 t33 t34 t36 R w
def n6c19 (t1 t2 t5 t22 t26:Value) (R:RT) (w:World):Prop :=
 opV Pg (Instr.extract t26 0) (panK R) w fun t27 w =>
 opV Pg (Instr.extract t26 1) (panK R) w fun t28 w =>
 opV Pg (Instr.alloc 67 true (.tuple #[])) (panK R) w fun t7 w =>
 opU Pg (Instr.storeAt 67 t7 t27) (panK R) w fun w =>
 L0 24 t2 R w fun t30 w =>
 C0 41 #[t30,t1] R w fun t32 w =>
 n6c18 t1 t2 t5 t7 t22 t28 t32 R w
def n6c20 (t1 t2 t20:Value) (R:RT) (w:World):Prop :=
 opV Pg (Instr.extract t20 0) (panK R) w fun t21 w =>
 opV Pg (Instr.extract t20 1) (panK R) w fun t22 w =>
 opV Pg (Instr.alloc 67 true (.tuple #[])) (panK R) w fun t5 w =>
 opU Pg (Instr.storeAt 67 t5 t21) (panK R) w fun w =>
 L0 24 t2 R w fun t24 w =>
 C0 40 #[t24,t1] R w fun t26 w =>
 n6c19 t1 t2 t5 t22 t26 R w
def n6c21 (t1 t2 t14:Value) (R:RT) (w:World):Prop :=
 opV Pg (Op.unary .not t14) (panK R) w fun t15 w =>
 condP t15 (
 C0 32 #[] R w fun t16 w =>
 R (.returned t16) w) (
 L0 24 t2 R w fun t18 w =>
 C0 39 #[t18,t1] R w fun t20 w =>
 n6c20 t1 t2 t20 R w)
def n6 (t0 t1:Value) (R:RT) (w:World):Prop :=
 opV Pg (Instr.box 24 t0) (panK R) w fun t2 w =>
 L0 24 t2 R w fun t13 w =>
 C0 31 #[t13] R w fun t14 w =>
 n6c21 t1 t2 t14 R w
set_option maxHeartbeats 40000000 in
theorem n6s {t0 t1:Value} {R:RT} {w:World} (h:n6 t0 t1 R w):Calls Pg 11 #[t0,t1] w R:=by
 refine yD Tryz.func11 ?_
 refine zs<|zr<|yv h fun _ w h=>zm<|zn<|zk<|zs<|zs<|zr<|yv h fun _ w h=>yc h c31 fun _ w h=>yv h fun _ w h=>zn<|zk<|yC h (fun h=>zs<|zr<|yc h c32 fun _ w h=>zm<|zn<|zk<|sim_ret<|sim_then_ret<|body_ret1 rfl rfl h) fun h=>?_
 refine sim_skip<|zk<|zs<|zr<|yv h fun _ w h=>zm<|yc h c39 fun _ w h=>zm<|yv h fun _ w h=>yv h fun _ w h=>yv h fun _ w h=>yu h fun w h=>zm<|zn<|zk ?_
 refine zs<|zr<|yv h fun _ w h=>zm<|yc h c40 fun _ w h=>zm<|yv h fun _ w h=>yv h fun _ w h=>yv h fun _ w h=>yu h fun w h=>zm<|zn<|zk<|zs<|zr ?_
 refine yv h fun _ w h=>zm<|yc h c41 fun _ w h=>zm<|yv h fun _ w h=>yv h fun _ w h=>zm<|zm<|zn<|zk<|zs<|zr<|zm<|zn<|zk ?_
 refine zs<|zs<|zr<|yv h fun _ w h=>yc h c21 fun _ w h=>yv h fun _ w h=>zn<|zk<|yJ1 [11,38,39,40,41,42,43,44,45,46] 11 h (fun _ _ hkK1 h=>?_) fun σ w h=>?_
 · refine yC h (fun h=>?_) fun h=>?_
   · refine zr<|zm<|zn<|zk ?_
     exact zt hkK1 h
   refine zs<|sim_regionG<|yG 3<|zm<|yb h fun _ w h=>zm<|zn<|yg1 5 2 false [41,42,43,44,45] 45 h (fun _ T hT h=>?_) fun σ w h=>?_
   · refine zm<|yv h fun _ w h=>yv h fun _ w h=>yx h fun _ w h=>yb h fun _ w h=>zn ?_
     exact zt hT h
   refine yG 1<|yp h fun _ h=>zn<|sim_end<|zk<|yC h (fun h=>?_) fun h=>?_
   · refine zr<|zm<|zn<|zk ?_
     exact zt hkK1 h
   refine sim_skip<|zk ?_
   exact zt hkK1 h
 refine zk<|zs<|zs<|zr<|zm<|yb h fun _ w h=>zn<|zk<|yC h (fun h=>?_) fun h=>?_
 · refine zs<|sim_regionG<|yG 4<|yv h fun _ w h=>yB h fun _ w h=>yb h fun _ w h=>zm<|zn<|yg1 3 3 true [53,54,55] 55 h (fun _ T hT h=>?_) fun σ w h=>?_
   · refine yv h fun _ w h=>yB h fun _ w h=>yb h fun _ w h=>zn ?_
     exact zt hT h
   refine yG 2<|yp h fun _ h=>zm<|zn<|yg1 2 8 true [58,59] 59 h (fun _ T hT h=>?_) fun σ w h=>?_
   · refine zm<|yv h fun _ w h=>zn ?_
     exact zt hT h
   refine yG 2<|yp h fun _ h=>zm<|zn<|yg1 3 12 true [62,63,64] 64 h (fun _ T hT h=>?_) fun σ w h=>?_
   · refine zm<|zm<|yb h fun _ w h=>zn ?_
     exact zt hT h
   refine yG 2<|yp h fun _ h=>zm<|zn<|yg1 3 17 true [67,68,69] 69 h (fun _ T hT h=>?_) fun σ w h=>?_
   · refine zm<|zm<|yb h fun _ w h=>zn ?_
     exact zt hT h
   refine yG 2<|yp h fun _ h=>zm<|zn<|yg1 3 22 true [72,73,74] 74 h (fun _ T hT h=>?_) fun σ w h=>?_
   · refine zm<|zm<|yb h fun _ w h=>zn ?_
     exact zt hT h
   refine yG 2<|yp h fun _ h=>zm<|zn<|yg1 1 27 true [77] 77 h (fun _ T hT h=>?_) fun σ w h=>?_
   · refine yc h c32 fun _ w h=>zn ?_
     exact zt hT h
   exact yG 2<|yp h fun _ h=>zm<|zn<|sim_end<|zk<|sim_ret<|sim_then_ret<|body_ret1 rfl rfl h
 refine sim_skip<|zk<|zs<|zr<|yv h fun _ w h=>yc h c35 fun _ w h=>zm<|yv h fun _ w h=>yv h fun _ w h=>yv h fun _ w h=>yu h fun w h=>zn<|zk<|zs<|yh [4,84,85,86,87,88,89,90,91,92,93,94,95,96,97,98,99,100,101,102,103,104,105,106,107,108,109,110,111,112,113,114,115,116,117,118] h fun C hC h=>?_
 refine ye 0 hC h fun _ h=>?_
 refine ye 1 hC h fun _ h=>?_
 refine yo 2 ?_
 refine yc h c37 fun _ w h=>zn ?_
 obtain ⟨hC,h⟩:=h
 refine ⟨hC,?_⟩
 refine ye 3 hC h fun _ h=>?_
 refine yw 4 hC ?_
 refine yj1 26 [9,8,7,6,5,4,3,2,1,0] [89,90,91,92,93] 93 h (fun _ hT hb h=>?_) (fun _ hT hb h=>?_) fun σ w hC h=>?_
 · refine ye 5 hC h fun _ h=>?_
   refine ye 6 hC h fun _ h=>?_
   refine yo 7 ?_
   refine yc h c42 fun _ w h=>zn ?_
   obtain ⟨hC,h⟩:=h
   refine ⟨hC,?_⟩
   refine yo 8 ?_
   refine yc h c37 fun _ w h=>zn ?_
   obtain ⟨hC,h⟩:=h
   refine ⟨hC,?_⟩
   refine ye 9 hC h fun _ h=>?_
   exact yt hT hC h
 · refine yi 5 hC ?_
   refine yi 6 hC ?_
   refine yi 7 hC ?_
   refine yi 8 hC ?_
   refine yi 9 hC ?_
   exact yt hT hC h
 refine yP 10 hC h fun _ h=>?_
 refine yw 11 hC ?_
 refine yj1 17 [18,17,16,15,14,13,12,11,10,9,8,7,6,5,4,3,2,1,0] [96,97,98,99,100,101,102] 102 h (fun _ hT hb h=>?_) (fun _ hT hb h=>?_) fun σ w hC h=>?_
 · refine yw 12 hC ?_
   refine ye 13 hC h fun _ h=>?_
   refine ye 14 hC h fun _ h=>?_
   refine ye 15 hC h fun _ h=>?_
   refine ye 16 hC h fun _ h=>?_
   refine ye 17 hC h fun _ h=>?_
   refine ye 18 hC h fun _ h=>?_
   exact yt hT hC h
 · refine yi 12 hC ?_
   refine yi 13 hC ?_
   refine yi 14 hC ?_
   refine yi 15 hC ?_
   refine yi 16 hC ?_
   refine yi 17 hC ?_
   refine yi 18 hC ?_
   exact yt hT hC h
 refine yP 19 hC h fun _ h=>?_
 refine yw 20 hC ?_
 refine yj1 13 [22,21,20,19,18,17,16,15,14,13,12,11,10,9,8,7,6,5,4,3,2,1,0] [105,106] 106 h (fun _ hT hb h=>?_) (fun _ hT hb h=>?_) fun σ w hC h=>?_
 · refine yw 21 hC ?_
   refine ye 22 hC h fun _ h=>?_
   exact yt hT hC h
 · refine yi 21 hC ?_
   refine yi 22 hC ?_
   exact yt hT hC h
 refine yP 23 hC h fun _ h=>?_
 refine yw 24 hC ?_
 refine yj1 9 [26,25,24,23,22,21,20,19,18,17,16,15,14,13,12,11,10,9,8,7,6,5,4,3,2,1,0] [109,110] 110 h (fun _ hT hb h=>?_) (fun _ hT hb h=>?_) fun σ w hC h=>?_
 · refine yw 25 hC ?_
   refine ye 26 hC h fun _ h=>?_
   exact yt hT hC h
 · refine yi 25 hC ?_
   refine yi 26 hC ?_
   exact yt hT hC h
 refine yP 27 hC h fun _ h=>?_
 refine yw 28 hC ?_
 refine yj1 5 [30,29,28,27,26,25,24,23,22,21,20,19,18,17,16,15,14,13,12,11,10,9,8,7,6,5,4,3,2,1,0] [113,114] 114 h (fun _ hT hb h=>?_) (fun _ hT hb h=>?_) fun σ w hC h=>?_
 · refine yw 29 hC ?_
   refine ye 30 hC h fun _ h=>?_
   exact yt hT hC h
 · refine yi 29 hC ?_
   refine yi 30 hC ?_
   exact yt hT hC h
 refine yP 31 hC h fun _ h=>?_
 refine yw 32 hC ?_
 refine yj1 2 [33,32,31,30,29,28,27,26,25,24,23,22,21,20,19,18,17,16,15,14,13,12,11,10,9,8,7,6,5,4,3,2,1,0] [117] 117 h (fun _ hT hb h=>?_) (fun _ hT hb h=>?_) fun σ w hC h=>?_
 · refine yo 33 ?_
   refine yc h c32 fun _ w h=>zn ?_
   obtain ⟨hC,h⟩:=h
   refine ⟨hC,?_⟩
   exact yt hT hC h
 · refine yi 33 hC ?_
   exact yt hT hC h
 refine yP 34 hC h fun _ h=>?_
 refine yw 35 hC ?_
 exact yz<|zk<|sim_ret<|body_ret1 rfl rfl h
theorem SpanMessages_ret (w0:World) (v:Value) (d:DefD) (i:Int) (hd:DefVal w0 v d) (hsm:DefSm d):Ret Pg 11 #[v,.int .i64 i] w0 fun r w'=>r = .bool true∧Ext w0 w':=by
 obtain ⟨mv,rfl,hM⟩:=hd
 obtain ⟨A,c,rfl,hlc,hcm,hlm,hel⟩:=SliceOf.open hM
 refine n6s (R:=retR _) ?_;unfold n6
 rw [op_boxA]
 have hBW:=ElemAt.new (w:=w0) (defCells d (.slice A d.msgs.length c)) (24)
 have eW:Ext w0 (w0.alloc (Obj.cells (List.toArray (defCells d (.slice A d.msgs.length c))) (24))):=(Ext.refl _).alloc _
 generalize (w0.alloc (Obj.cells (List.toArray (defCells d (.slice A d.msgs.length c))) (24)))=W at hBW eW ⊢
 simp (disch:=try exact DI) only [↓PR,QR,simprocAttr,hBW.c3 (Ext.refl W)]
 refine callK_ret (fits08_ret _ _ d ⟨_,rfl,hM.ext eW⟩ hsm) ?_
 rintro _ w1 ⟨b,rfl,hfit,e1⟩
 have E1:=eW.trans e1
 unfold n6c21
 cases b with
 | false =>
  simp (disch:=try exact DI) only [↓PR,QR,simprocAttr]
  refine zcr (known08_ret _) fun w2 e2=>?_
  exact ⟨_,rfl,rfl,E1.trans e2⟩
 | true =>
 have ht:=fits_calm (hfit rfl)
 have hS:=sound_of d ht
 have hl7:=(hfit rfl).1
 have hdv:∀ w,Ext w0 w→DefVal w (.agg #[.string d.name,.slice A d.msgs.length c,.string d.start]) d:=fun w e=>⟨_,rfl,hM.ext e⟩
 have hterms:∀ m∈d.msgs,∀ f∈m.fields,f.terms.length≤1048576:=fun m hm=>(ht m hm).2
 have hbnd:errG d i 0=0→(0≤(msgV d i).1∧(msgV d i).1≤1099511627776)∧0≤(msgV d i).2∧(msgV d i).2≤1099511627776:=fun h=>by
  obtain ⟨hc,k,m,rfl,hk,hm,hL⟩:=msgE_zero (by rw [← errG_0];exact h)
  unfold msgV
  rw [Int.toNat_natCast,hm]
  exact (spans_full (check_fine hc).2.2.1.allV hterms).look _
 simp (disch:=try exact DI) only [↓PR,QR,simprocAttr,hBW.c3 e1]
 refine zcr (MessageX_ret _ i (hdv _ E1) ht hS (by omega)) fun w2 e2=>?_
 rw [getR_pk,errG_0]
 have f2:=e1.trans e2
 unfold n6c20
 generalize hq:pkR (msgE d i) (msgV d i)=q
 have fA:Ext W (w2.alloc (.cells #[.int .i64 q.1,.int .i64 q.2] 67)):=f2.alloc _
 have oA:=heap_new w2 #[.int .i64 q.1,.int .i64 q.2] 67
 simp (disch:=try exact DI) only [↓PR,QR,simprocAttr,hBW.c3 fA]
 generalize (w2.alloc (.cells #[.int .i64 q.1,.int .i64 q.2] 67))=wA at fA oA ⊢
 generalize w2.heap.size=pA at oA ⊢
 refine zcr (LengthX_ret _ i (hdv _ (eW.trans fA)) ht hS (by omega) hbnd) fun w3 e3=>?_
 rw [getR_pk,errG_0]
 have f3:=fA.trans e3
 have xA:=e3.obj oA
 unfold n6c19
 generalize hp:pkR (msgE d i) (((msgV d i).1+7).tdiv 8,((msgV d i).2+7).tdiv 8)=p
 have fB:Ext W (w3.alloc (.cells #[.int .i64 p.1,.int .i64 p.2] 67)):=f3.alloc _
 have oB:=heap_new w3 #[.int .i64 p.1,.int .i64 p.2] 67
 have yA:=((Ext.refl w3).alloc (.cells #[.int .i64 p.1,.int .i64 p.2] 67)).obj xA
 simp (disch:=try exact DI) only [↓PR,QR,simprocAttr,hBW.c3 fB]
 generalize (w3.alloc (.cells #[.int .i64 p.1,.int .i64 p.2] 67))=wB at fB oB yA ⊢
 generalize w3.heap.size=pB at oB ⊢
 refine zcr (FixedX_ret _ i (hdv _ (eW.trans fB)) ht hS (by omega)) fun w4 e4=>?_
 rw [errG_0]
 have f4:=fB.trans e4
 unfold n6c18
 generalize hx:(msgE d i == 0&&(msgV d i).1 == (msgV d i).2)=x
 simp (disch:=try exact DI) only [↓PR,QR,simprocAttr,hBW.c3 f4]
 refine zcr (rValid_ret _ _ d (hdv _ (eW.trans f4)) ht) fun w5 e5=>?_
 have f5:=f4.trans e5
 have E5:=eW.trans f5
 have zA:=(e4.trans e5).obj yA
 have zB:=(e4.trans e5).obj oB
 have hW5:=hBW.c3 f5
 clear e1 e2 e3 e4 e5 f2 f3 f4 fA fB oA oB xA yA
 have hbi:∀ n:Int,(n == n)=true:=fun n=>by simp
 unfold n6c17
 have bad:∀ n:Int,n≠0→msgE d i=n→n6c15 (.int .i64 i) (.pointer (some ⟨w0.heap.size,0,none⟩)) (.pointer (some ⟨pA,0,none⟩)) (.pointer (some ⟨pB,0,none⟩)) (.int .i64 n) (.int .i64 (msgE d i)) (.int .i64 (msgE d i)) (.bool x) (.int .i64 (msgE d i)) (retR fun r w'=>r = .bool true∧Ext w0 w') w5:=by
  intro n hn he
  have hq0:q=(0,0):=by rw [← hq];unfold pkR;rw [if_neg (by rw [he];exact hn)]
  have hp0:p=(0,0):=by rw [← hp];unfold pkR;rw [if_neg (by rw [he];exact hn)]
  have hx0:x=false:=by rw [← hx,he];simp [hn]
  subst hq0 hp0 hx0
  rw [he]
  have d1:(n != 0)=true:=by simpa using hn
  simp (disch:=try exact DI) only [↓PR,QR,simprocAttr,d1,hbi,↓n6c1,↓n6c2,↓n6c3,↓n6c4,↓n6c5,↓n6c6,↓n6c7,↓n6c8,↓n6c9,↓n6c10,↓n6c11,↓n6c12,↓n6c13,↓n6c14,↓n6c15,↓n6c16,↓n6c17,↓n6c18,↓n6c19,↓n6c20,↓n6c21,(cells_of_heap zA).1,(cells_of_heap zB).1]
  refine zcr (known08_ret _) fun w6 e6=>?_
  simp (disch:=try exact DI) only [↓PR,QR,simprocAttr]
  exact ⟨by trivial,E5.trans e6⟩
 by_cases hf:(checkP d).2.2=0
 case neg =>
  have hfb:flawedB d=true:=by unfold flawedB;simp [hf]
  have hE:msgE d i=2:=by unfold msgE;rw [if_pos hf]
  rw [hfb]
  simp (disch:=try exact DI) only [↓PR,QR,simprocAttr]
  exact bad 2 (by decide) hE
 have hfb:flawedB d=false:=by unfold flawedB;simp [hf]
 rw [hfb]
 by_cases hi:i < 0
 · have d1:decide (i < 0)=true:=decide_eq_true hi
   have hE:msgE d i=3:=by unfold msgE;rw [if_neg (by simp [hf]),if_pos (.inl hi)]
   simp (disch:=try exact DI) only [↓PR,QR,simprocAttr,d1,↓n6c16]
   exact bad 3 (by decide) hE
 have d1:decide (i < 0)=false:=decide_eq_false hi
 by_cases hh:(d.msgs.length:Int)≤i
 · have d2:decide (i≥(d.msgs.length:Int))=true:=decide_eq_true hh
   have hE:msgE d i=3:=by unfold msgE;rw [if_neg (by simp [hf]),if_pos (.inr hh)]
   simp (disch:=try exact DI) only [↓PR,QR,simprocAttr,d1,d2,hW5,↓n6c16]
   exact bad 3 (by decide) hE
 have d2:decide (i≥(d.msgs.length:Int))=false:=decide_eq_false hh
 have hE:msgE d i=0:=by unfold msgE;rw [if_neg (by simp [hf]),if_neg (by omega)]
 have hG:=hbnd (by rw [errG_0];exact hE)
 obtain ⟨_,k,m,rfl,hk,hm,hL⟩:=msgE_zero hE
 have hfine:=(check_fine hf).2.2.1
 have hmv:=hfine.msgV hm
 have hq':q=posS (spansD (d.msgs.take k)) m.fields m.fields.length:=by rw [← hq];unfold pkR;rw [if_pos hE,hmv]
 have hp':p=((q.1+7).tdiv 8,(q.2+7).tdiv 8):=by rw [← hp,hq',← hmv];unfold pkR;rw [if_pos hE]
 have hx':x=(q.1 == q.2):=by rw [← hx,hq',← hmv,hE];simp
 rw [hmv,← hq'] at hG
 rw [hE]
 clear hq hp hx bad
 subst hp' hx'
 simp (disch:=try exact DI) only [↓PR,QR,simprocAttr,d1,d2,hW5,↓n6c16,↓n6c15]
 refine callK_ret (rmessages_ret _ _ d (hdv _ E5) hfine hterms (by omega)) ?_
 rintro sv w6 ⟨hSp,e6⟩
 obtain ⟨AS,cS,rfl,hlcS,hcmS,hlmS,helS⟩:=SliceOf.open hSp
 obtain ⟨bS,oS,csS,rfl,_,hAS,hES⟩:=helS k _ (span_at hm)
 rw [← hq'] at hES
 obtain rfl:csS=[.int .i64 q.1,.int .i64 q.2]:=hES
 rw [spansD_len]
 have E6:=E5.trans e6
 have uA:=e6.obj zA
 have uB:=e6.obj zB
 unfold n6c13
 have fM:Ext w6 (w6.alloc (.cells #[.int .i64 q.1,.int .i64 q.2] 72)):=ee
 have oM:=heap_new w6 #[.int .i64 q.1,.int .i64 q.2] 72
 simp (disch:=try exact DI) only [↓PR,QR,simprocAttr,hAS.c2 (Ext.refl w6)]
 generalize (w6.alloc (.cells #[.int .i64 q.1,.int .i64 q.2] 72))=M at fM oM ⊢
 generalize w6.heap.size=pM at oM ⊢
 have EM:=E6.trans fM
 have vA:=fM.obj uA
 have vB:=fM.obj uB
 have hdd:∀ n:Int,decide (n=n)=true:=fun n=>by simp
 have hbb:∀ b:Bool,(b == b)=true:=fun b=>by cases b<;>rfl
 refine drawK_intro ?_
 have eD:Ext M M.drew:=(Ext.refl _).wdrew
 have ED:=EM.trans eD
 unfold n6c12
 simp (disch:=try exact DI) only [↓PR,QR,simprocAttr,(cells_of_heap vA).1,(cells_of_heap oM).1]
 refine zcr (spans_ret _ _ _) fun wa ea=>?_
 refine ⟨ea,?_⟩
 unfold n6c11
 simp (disch:=try exact DI) only [↓PR,QR,simprocAttr,hdd,(cells_of_heap vB).1,(cells_of_heap oM).1]
 refine zcr (rlength_ret _ q.1 q.2 hG.1 hG.2) fun wb eb=>?_
 refine ⟨ea.trans eb,?_⟩
 refine zcr (spans_ret _ _ _) fun wc ec=>?_
 refine ⟨(ea.trans eb).trans ec,?_⟩
 simp (disch:=try exact DI) only [↓PR,QR,simprocAttr,hdd,hbb,hbi,(cells_of_heap oM).1,↓n6c10,↓n6c9,↓n6c8,↓n6c7,↓n6c6]
 refine zcr (known08_ret _) fun wd ed=>?_
 refine ⟨((ea.trans eb).trans ec).trans ed,?_⟩
 simp (disch:=try exact DI) only [↓PR,QR,simprocAttr]
 exact ⟨by trivial,ED.trans (((ea.trans eb).trans ec).trans ed)⟩
end Go.Proofs.YtdfhjlggcdemhaaGreat
namespace Go.Proofs.YtdfhjlggcdemhaaGreat
open Sw
open Go.ChangeShapes Go.WideShapes Go.RowKit Go.ChangeAt Go.Deep
theorem smessages_own:ownKnob Pg.godebug=none:=by kernel_rfl
theorem smessages_laidOut:laidOutB Pg=true:=by kernel_rfl
theorem smessages_lifted (os:Os) (started:os.Started) (H:Type) (enc:TypeId×Value→H) :
 ReturnsInHanded {} Tryz.checked os 11 .any (Rows.spanMessagesSpec.pre6 enc Pg Tryz.f11 Rows.spanMessagesRow.domain false) (Rows.spanMessagesSpec.post enc Pg Tryz.f11 false true false false):=by
 refine returnsInHanded_of_change_sized (C:=Tryz.checked) smessages_own started (by kernel_rfl) Tryz.func11
  (ChangeSpec.witness6 (enc:=enc) (C:=Tryz.checked) false ⟨#[],#[.agg #[.string ByteArray.empty,.slice none 0 0,.string ByteArray.empty],.int .i64 0],[]⟩ 8 (by kernel_rfl) (by kernel_rfl) (by kernel_rfl) (by kernel_rfl)) ?_
 intro W base args ds gs before hval hW _ hsz _
 have hW':=hW
 obtain ⟨p,q,hA0,hV,rfl,_,_⟩:=hW
 have hA:DataW.TrodAll enc Pg W 0 (fun _=>true) true Tryz.f11.params.toList args.toList ds p:=hA0
 rw [Tryz.params11] at hA hval hsz
 obtain ⟨v0,vs0,d0,ds0,p0,q0,ha0,rfl,rfl,h0,r0⟩:=trodAll_cons hA
 obtain ⟨v1,vs1,d1,ds1,p1,q1,ha1,rfl,rfl,h1,r1⟩:=trodAll_cons r0
 obtain ⟨rfl,rfl,rfl⟩:=trodAll_nil r1
 subst ha1
 obtain rfl:args = #[v0,v1]:=by cases args;simp_all
 obtain ⟨f0,hf0,hs0⟩:=def_val (hval 0 _ v0 rfl rfl) h0 (reached_of (j:=0) hsz rfl rfl)
 obtain ⟨n1,rfl,_,_,hw1⟩:=open_int Tryz.underlying3 (hval 1 _ v1 rfl rfl) h1
 refine Calls.mono (SpanMessages_ret W v0 f0 n1 hf0 hs0) fun e W' ⟨v,he,hv,hx⟩=>?_
 subst he hv
 exact ⟨_,rfl,law_post smessages_laidOut (by decide +kernel) rfl hW' hx rfl Tryz.underlying4 rfl rfl rfl⟩
theorem smessages_holds:Rows.SpanMessagesSaid :=
 OpenClaim.holds_of_wide 11 Tryz.f11 rfl rfl rfl rfl rfl rfl rfl ⟨rfl,rfl,rfl,rfl,rfl⟩ rfl rfl rfl rfl rfl (by kernel_rfl) Tryz.func11 (by kernel_rfl)
  (of_decide_eq_true (by kernel_rfl)) (by unfold Func.isWrapper;first | (rw [if_pos (by decide +kernel)];kernel_rfl) | (rw [if_neg (by decide +kernel)];exact ⟨rfl,rfl⟩))
  (fun os started H enc _=>smessages_lifted os started H enc)
end Go.Proofs.YtdfhjlggcdemhaaGreat
