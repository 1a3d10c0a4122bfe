/-
  Lemmas for the claim.
-/
import Derived.Test.YtfjjgjjlebllmaaGreatQs4
set_option linter.all false
set_option maxHeartbeats 4000000
set_option maxRecDepth 100000
open Go.Instr (loadAt storeAt fieldAt indexAt buildSlice mapUpdate makeFunc)
open Go.Proofs.Tryz
namespace Go.Proofs.YtfjjgjjlebllmaaGreat
open Sw
open Go.RowKit (intOf Below)
theorem VO {α:Type} {t T n m:Nat} {z:Vl} {agg:Bool} {enc:α→List Vl} {v:Vl} {l:List α} {base b:Nat} {w:Wd} {QP:PEn} {k:KV} (ht:Pg.underlying t=some (.slice T)) (hT:ZH Pg T agg n m z) (hby:m≤4096) (hz:z.cells.size=n) (h0:0 < n) (hn:∀ x,(enc x).length=n) (x:α) (h1:∀ u∈enc x,u.oneCell'=true)
 (BS:Yk w base T n enc v l) (hc:Z6 w b 0 (enc x)) (GE:base≤w.heap.size) (hl:l.length≤1048576)
 (hk:∀ v' w',Yk w' base T n enc v' (l++[x])→(∀ a,Ext a w→a.heap.size≤base→Ext a w')→k v' w') :
 opV Pg (Builtin.append_ #[t,t] t #[v,.slice (some ⟨b,0,none⟩) 1 1]) QP w k:=by
 refine QT (l':=[x]) ht hT hz h0 hn (λ y hy=>by simp at hy;subst hy;exact h1) BS (λ j y hy=>?_) GE ?_ (by simp;omega) (λ v' w' ho hg=>hk v' w' ho λ a e ha=>e.grown hg λ k hk=>Nat.le_trans ha ((World.ownsRow.lt BS k hk).1))
 · cases j with
   | zero=>simp at hy;subst hy;simpa using hc
   | succ j=>simp at hy
 · simp only [List.length_cons,List.length_nil]
   exact Nat.le_trans (Nat.mul_le_mul (Nat.add_le_add_right hl 1) hby) (by decide)
theorem Wh {P:Program} {QP:PEn} {w:Wd} {k:KV} (T:TypeId) (cs:AVl):opV P (Instr.box T (.agg cs)) QP w k=k (.pointer (some ⟨w.heap.size,0,none⟩)) (w.alloc (.cells cs T)):=RN T (.agg cs)
theorem J4 {α:Type} {w:Wd} {n:Nat} {E:Wd→List Vl→α→Prop} {v:Vl} {l:List α} (h:Zd w n E v l) {i:Nat} {x:α} (hi:l[i]?=some x) :
 ∃ b o c,v = .slice (some ⟨b,o,none⟩) l.length c∧l.length≤c∧c≤9223372036854775807∧l.length≤9223372036854775807∧i < l.length∧∀ k x,l[k]?=some x→∃ cs,cs.length=n∧Z6 w b (o+k*n) cs∧E w cs x:=by
 obtain ⟨A,c,h1,h2,h3,h4⟩:=h
 obtain ⟨b,o,rfl,h5⟩:=h4 (by rintro rfl;cases hi)
 exact ⟨b,o,c,h1,h2,h3,by omega,(List.getElem?_eq_some_iff.1 hi).1,h5⟩
theorem NS {α:Type} {p:α→Prop} {l:List α} {k:Nat} {x:α} (h:∀ y∈l.take k,p y) (hx:l[k]?=some x) (hp:p x):∀ y∈l.take (k+1),p y:=by
 rw [Z4 hx]
 intro y hy
 rcases List.mem_append.1 hy with hy | hy
 · exact h y hy
 · rw [List.mem_singleton.1 hy];exact hp
def BJ (l:List Zl):Prop:=l.Pairwise λ a b=>a.name≠b.name
theorem BJ.eq {l:List Zl} (h:BJ l) {a b:Zl} (ha:a∈l) (hb:b∈l) (hn:a.name=b.name):a=b:=by
 induction l with
 | nil=>cases ha
 | cons x l ih=>
  obtain ⟨h1,h2⟩:=List.pairwise_cons.1 h
  rcases List.mem_cons.1 ha with ha' | ha'<;>rcases List.mem_cons.1 hb with hb' | hb'
  · rw [ha',hb']
  · subst ha';exact absurd hn (h1 _ hb')
  · subst hb';exact absurd hn.symm (h1 _ ha')
  · exact ih h2 ha' hb'
theorem KO {rp:List (BAr×Int×Int)} {s:BAr}:Ym rp s=none↔∀ q,(s,q) ∉ rp:=by
 constructor
 · intro h q hq
   unfold Ym at h
   rw [Option.map_eq_none_iff,List.find?_eq_none] at h
   exact h (s,q) (List.mem_reverse.2 hq) (by simp)
 · intro h
   cases hl:Ym rp s with
   | none=>rfl
   | some q=>exact absurd (VS hl) (h q)
theorem Ks {l:List Zl} {s:BAr} {q:Int×Int}:(s,q)∈YD l↔∃ f∈l,Y7 f=true∧f.name=s∧q=(f.low,Xk f):=by
 unfold YD
 simp only [List.mem_map,List.mem_filter,Prod.mk.injEq]
 constructor
 · rintro ⟨f,⟨h1,h2⟩,h3,h4⟩;exact ⟨f,h1,h2,h3,by rw [← h4]⟩
 · rintro ⟨f,h1,h2,h3,h4⟩;exact ⟨f,⟨h1,h2⟩,h3,by rw [h4]⟩
theorem CG {bef:List Zl} (hd:BJ bef) (s:BAr):(idx (λ g=>decide (g.name=s)) bef = -1∧Ym (YD bef) s=none) ∨
 ∃ (k:Nat) (g:Zl),idx (λ g=>decide (g.name=s)) bef=k∧bef[k]?=some g∧Ym (YD bef) s=if Y7 g then some (g.low,Xk g) else none:=by
 unfold idx
 cases h:bef.findIdx? (λ g=>decide (g.name=s)) with
 | none=>
  rw [List.findIdx?_eq_none_iff] at h
  refine .inl ⟨rfl,KO.2 λ q hq=>?_⟩
  obtain ⟨f,hf,_,h3,_⟩:=Ks.1 hq
  simpa [h3] using h f hf
 | some k=>
  obtain ⟨hk,hp,_⟩:=List.findIdx?_eq_some_iff_getElem.1 h
  refine .inr ⟨k,bef[k],rfl,List.getElem?_eq_getElem hk,?_⟩
  have hg:bef[k]∈bef:=List.getElem_mem hk
  generalize bef[k]=g at hg hp
  simp only [decide_eq_true_eq] at hp
  cases hl:Ym (YD bef) s with
  | none=>
   rw [if_neg]
   intro hn
   exact KO.1 hl _ (Ks.2 ⟨g,hg,hn,hp,rfl⟩)
  | some q=>
   obtain ⟨f,hf,h2,h3,h4⟩:=Ks.1 (VS hl)
   have:=hd.eq hf hg (h3.trans hp.symm)
   subst this
   rw [if_pos h2,h4]
theorem GD {ps ps':List (BAr×Vl)} {but:BAr} {p:Vl→Bool}:∀ (ts:List Z3) (no:Bool),(∀ t∈ts,Yz ps t.field=Yz ps' t.field)→Xp but ps p ts no=Xp but ps' p ts no
 | [],no,_=>rfl
 | t::ts,no,h=>by
  have ih:=λ no=>GD (but:=but) (p:=p) ts no λ t ht=>h t (List.mem_cons_of_mem _ ht)
  simp only [Xp,h t (List.mem_cons_self ..),ih]
theorem A7 {f g:Z3→Int}:∀ (ts:List Z3) (n:Int),(∀ t∈ts,f t=g t)→yQ n f ts=yQ n g ts
 | [],n,_=>rfl
 | t::ts,n,h=>by
  have ih:=λ n=>A7 ts n λ t ht=>h t (List.mem_cons_of_mem _ ht)
  unfold yQ at *
  simp only [List.foldl_cons,h t (List.mem_cons_self ..),ih]
theorem Fa {base:Int} {ts:List Z3} {rp rp':List (BAr×Int×Int)} (h:∀ t∈ts,Ym rp t.field=Ym rp' t.field):YR base ts rp=YR base ts rp'∧Y5 base ts rp=Y5 base ts rp'∧Y4 base ts rp=Y4 base ts rp':=by
 have he:YR base ts rp=YR base ts rp':=by
  unfold YR
  rw [GD (ps':=RP rp') ts false λ t ht=>by rw [Qg,Qg,h t ht]]
 have hl:∀ least,yQ base (Wk rp least) ts=yQ base (Wk rp' least) ts:=λ least=>A7 ts base λ t ht=>by unfold Wk;rw [h t ht]
 unfold Y5 Y4
 rw [he,hl,hl]
 exact ⟨rfl,rfl,rfl⟩
def Gh (rp:List (BAr×Int×Int)) (ts:List Z3):List (BAr×Int×Int):=ts.map λ t=>(t.field,XK rp t)
theorem BE {rp:List (BAr×Int×Int)} {ts:List Z3} (h:∀ t∈ts,(Ym rp t.field).isSome=true) {t:Z3} (ht:t∈ts):Ym (Gh rp ts) t.field=Ym rp t.field:=by
 have e:∀ t∈ts,Ym rp t.field=some (XK rp t):=λ t ht=>by
  have:=h t ht
  unfold XK
  cases hl:Ym rp t.field with
  | none=>rw [hl] at this;cases this
  | some q=>rfl
 cases hl:Ym (Gh rp ts) t.field with
 | none=>exact absurd (List.mem_map.2 ⟨t,ht,rfl⟩) (KO.1 hl (XK rp t))
 | some q=>
  obtain ⟨u,hu,h2⟩:=List.mem_map.1 (VS hl)
  injection h2 with h2 h3
  rw [← h3,← e u hu,h2]
theorem jg {rp:List (BAr×Int×Int)}:∀ {ts:List Z3},(∀ t∈ts,(Ym rp t.field).isSome=true)→Wn rp ts=0
 | [],_=>rfl
 | t::ts,h=>by
  simp only [Wn,h t (List.mem_cons_self ..),jg λ t ht=>h t (List.mem_cons_of_mem _ ht)]
  rfl
theorem KU {rp:List (BAr×Int×Int)}:∀ {ts:List Z3} {t:Z3},t∈ts→Ym rp t.field=none→Wn rp ts=8
 | u::ts,t,ht,h=>by
  simp only [Wn]
  cases hu:(Ym rp u.field).isSome with
  | false=>rfl
  | true=>
   rcases List.mem_cons.1 ht with rfl | ht
   · rw [h] at hu;cases hu
   · rw [KU ht h];rfl
open Go.Shelf
def Bx:Go.Shelf.Ren:=⟨λ | 189=>83 | 125=>116 | 257=>115 | 128=>144 | 129=>145 | 294=>135 | 295=>136 | 296=>137 | 297=>138 | 298=>139 | 299=>140 | 216=>141 | 300=>142 | 301=>143 | 328=>176 | 329=>177 | 330=>178 | 331=>179 | 332=>180 | 215=>181 | 343=>191 | n=>n,λ | 28=>30 | 3=>3 | 46=>159 | 0=>0 | 51=>186 | 53=>188 | 4=>4 | 183=>179 | 182=>178 | 131=>63 | 5=>5 | 9=>9 | 218=>207 | 222=>211 | 228=>223 | 229=>194 | n=>n,λ | n=>n⟩
theorem Bw:Go.Proofs.Lays.n189 Pg Bx:={
 mixed:=by kernel_rfl
 f125:=func116.trans (congrArg some (by kernel_rfl))
 f128:=func144.trans (congrArg some (by kernel_rfl))
 f129:=func145.trans (congrArg some (by kernel_rfl))
 f189:=func83.trans (congrArg some (by kernel_rfl))
 f215:=func181.trans (congrArg some (by kernel_rfl))
 f216:=func141.trans (congrArg some (by kernel_rfl))
 f257:=func115.trans (congrArg some (by kernel_rfl))
 f294:=func135.trans (congrArg some (by kernel_rfl))
 f295:=func136.trans (congrArg some (by kernel_rfl))
 f296:=func137.trans (congrArg some (by kernel_rfl))
 f297:=func138.trans (congrArg some (by kernel_rfl))
 f298:=func139.trans (congrArg some (by kernel_rfl))
 f299:=func140.trans (congrArg some (by kernel_rfl))
 f300:=func142.trans (congrArg some (by kernel_rfl))
 f301:=func143.trans (congrArg some (by kernel_rfl))
 f328:=func176.trans (congrArg some (by kernel_rfl))
 f329:=func177.trans (congrArg some (by kernel_rfl))
 f330:=func178.trans (congrArg some (by kernel_rfl))
 f331:=func179.trans (congrArg some (by kernel_rfl))
 f332:=func180.trans (congrArg some (by kernel_rfl))
 f343:=func191.trans (congrArg some (by kernel_rfl))
 t0:=underlying0
 a0:=Tryz.isAgg0
 z0:=Tryz.sizeOf0
 v0:=Tryz.zeroValue0
 t3:=underlying3
 a3:=Tryz.isAgg3
 z3:=Tryz.sizeOf3
 v3:=Tryz.zeroValue3
 t4:=underlying4
 a4:=Tryz.isAgg4
 z4:=Tryz.sizeOf4
 v4:=Tryz.zeroValue4
 t5:=underlying5
 a5:=Tryz.isAgg5
 z5:=Tryz.sizeOf5
 v5:=Tryz.zeroValue5
 t9:=underlying9
 a9:=Tryz.isAgg9
 z9:=Tryz.sizeOf9
 v9:=Tryz.zeroValue9
 t28:=underlying30
 a28:=Tryz.isAgg30
 z28:=Tryz.sizeOf30
 v28:=Tryz.zeroValue30
 t46:=underlying159
 a46:=Tryz.isAgg159
 z46:=Tryz.sizeOf159
 v46:=Tryz.zeroValue159
 t51:=underlying186
 a51:=Tryz.isAgg186
 z51:=Tryz.sizeOf186
 v51:=Tryz.zeroValue186
 t53:=underlying188
 a53:=Tryz.isAgg188
 z53:=Tryz.sizeOf188
 v53:=Tryz.zeroValue188
 t131:=underlying63
 a131:=Tryz.isAgg63
 z131:=Tryz.sizeOf63
 v131:=Tryz.zeroValue63
 t182:=underlying178
 a182:=Tryz.isAgg178
 z182:=Tryz.sizeOf178
 v182:=Tryz.zeroValue178
 t183:=underlying179
 a183:=Tryz.isAgg179
 z183:=Tryz.sizeOf179
 v183:=Tryz.zeroValue179
 t218:=underlying207
 a218:=Tryz.isAgg207
 z218:=Tryz.sizeOf207
 v218:=Tryz.zeroValue207
 t222:=underlying211
 a222:=Tryz.isAgg211
 z222:=Tryz.sizeOf211
 v222:=Tryz.zeroValue211
 t228:=underlying223
 a228:=Tryz.isAgg223
 z228:=Tryz.sizeOf223
 v228:=Tryz.zeroValue223
 t229:=underlying194
 a229:=Tryz.isAgg194
 z229:=Tryz.sizeOf194
 v229:=Tryz.zeroValue194 }
open Go.Sort Go.RowKit in
theorem zJ (blk off cap:Nat) (zs:List Int) (w:World) (hH:Holds (Value.int .i64) w blk off zs.toArray) (hblk:blk < w.heap.size) (VF:zs.length < 4611686018427387904) :
 Calls Pg 83 #[.slice (some ⟨blk,off,none⟩) zs.length cap] w λ e w'=>
  e = .returned (.tuple #[])∧∃ n os,w'=grow (putRow (Value.int .i64) (Sort.ahead w n) blk off (zs.mergeSort λ x y=>decide (x≤y)).toArray) os:=Any.slices_Sort_int Bw blk off cap zs w hH hblk VF
open Go.RowKit Go.Lib Go.Sort in
open Go.RowKit Go.Lib Go.Sort in
open Go.RowKit Go.Lib Go.Sort in
open Go.RowKit Go.Sort in
theorem Kx (p:Option Addr) (cap:Nat) (w:World) :
 Calls Pg 83 #[.slice p 0 cap] w λ e w'=>e = .returned (.tuple #[])∧w'=w:=Any.slices_Sort_int_none Bw p cap w
abbrev Zdc (n:Int):List Vl:=[.int .i64 n]
abbrev Vj (w:Wd) (base:Nat) (v:Vl) (l:List Int):Prop:=Yk w base 3 1 Zdc v l
theorem xJ (l:List Int):l.flatMap Zdc=l.map λ n=>Value.int .i64 n:=by
 induction l with
 | nil=>rfl
 | cons x l ih=>rw [List.flatMap_cons,ih];rfl
def xu (base:Nat) (w w':Wd):Prop:=w.heap.size≤w'.heap.size∧(∀ a,Ext a w→a.heap.size≤base→Ext a w')∧∀ (k:Nat) (o:Obj),w.heap[k]?=some o→(∀ cs T fr,o ≠ .cells cs T fr)→w'.heap[k]?=some o
theorem xu.refl (base:Nat) (w:Wd):xu base w w:=⟨Nat.le_refl _,λ _ e _=>e,λ _ _ h _=>h⟩
theorem xu.mark {base:Nat} {w w':Wd} (h:xu base w w') {B:Nat} (hm:ZR B w):ZR B w':=h.2.2 _ _ hm (λ _ _ _ e=>by cases e)
theorem xu.rec {base:Nat} {w w':Wd} (h:xu base w w') {r:Loop} {B:Nat} (hm:Xc r B w):Xc r B w':=⟨h.mark hm.1,let ⟨st,p,hp⟩:=hm.2; ⟨st,p,h.2.2 _ _ hp (λ _ _ _ e=>by cases e)⟩⟩
theorem xu.low {base:Nat} {w w':Wd} (h:xu base w w') {k:Nat} (hk:k < base) {o:Obj} (ho:w.heap[k]?=some o):w'.heap[k]?=some o:=by
 have hkl:=(Array.getElem?_eq_some_iff.1 ho).1
 have hb:∀ g,g < k+1→(w.heap.extract 0 (k+1))[g]?=w.heap[g]?:=λ g hg=>by
  rw [Array.getElem?_extract]
  simp only [Nat.zero_add]
  rw [if_pos (by omega)]
 have hs:(w.heap.extract 0 (k+1)).size=k+1:=by rw [Array.size_extract];omega
 have ea:Ext { w with heap:=w.heap.extract 0 (k+1) } w:=⟨rfl,rfl,rfl,by show (w.heap.extract 0 (k+1)).size≤_;omega,λ g hg=>(hb g (by rw [← hs];exact hg)).symm⟩
 have:=h.2.1 _ ea (by show (w.heap.extract 0 (k+1)).size≤base;omega)
 exact this.obj ((hb k (Nat.lt_succ_self _)).trans ho)
theorem R5 {w:Wd} {base:Nat} {v:Vl} {l:List Int} (h:Vj w base v l) {g:Nat} (hg:v.ownBlock=some g):∃ cur,w.heap[g]?=some (.cells cur 3 (0,0)):=by
 rcases h.2 with ⟨rfl,_⟩ | ⟨g',cap,cur,rfl,_,h3,_⟩
 · cases hg
 · injection hg with hg;subst hg;exact ⟨cur,h3⟩
theorem Am {α:Type} {base n:Nat} {T:TypeId} {enc:α→List Vl} {w w':Wd} {v:Vl} {l:List α} (h:Yk w base T n enc v l) (hg:w.grownBy w' v.ownBlock):xu base w w':=by
 refine ⟨hg.size,λ a e ha=>e.grown hg λ k hk=>Nat.le_trans ha ((World.ownsRow.lt h k hk).1),λ q o hq hn=>(hg.block q (Array.getElem?_eq_some_iff.1 hq).1 λ e=>?_).trans hq⟩
 rcases h.2 with ⟨rfl,_⟩ | ⟨g',cap,cur,rfl,_,h3,_⟩
 · cases e
 · injection e with e;subst e;rw [hq] at h3;injection h3 with h3;exact hn _ _ _ h3
theorem put_own {w:Wd} {base g cap:Nat} {l l':List Int} (h:Vj w base (.slice (some ⟨g,0,none⟩) l.length cap) l) (hl:l'.length=l.length) (n:Nat) (os:Array Obj) :
 Vj (Sort.grow (Sort.putRow (Value.int .i64) (Sort.ahead w n) g 0 l'.toArray) os) base (.slice (some ⟨g,0,none⟩) l.length cap) l'∧xu base w (Sort.grow (Sort.putRow (Value.int .i64) (Sort.ahead w n) g 0 l'.toArray) os):=by
 rcases h.2 with ⟨h0,_⟩ | ⟨g',cap',cur,h1,hb,hg,hc,hm,hs,ht⟩
 · cases h0
 injection h1 with h1 h1' h1''
 injection h1 with h1
 injection h1 with h1
 subst h1 h1''
 have Yv:=(Array.getElem?_eq_some_iff.1 hg).1
 have hkeep:∀ k,k < w.heap.size→k≠g→(Sort.grow (Sort.putRow (Value.int .i64) (Sort.ahead w n) g 0 l'.toArray) os).heap[k]?=w.heap[k]?:=by
  intro k hk Xv
  unfold Sort.grow Sort.putRow Sort.mapBlock Sort.ahead
  dsimp only
  rw [Array.getElem?_append_left (by simpa using hk),Array.getElem?_modify,if_neg (Ne.symm Xv)]
 have ZbU:(Sort.grow (Sort.putRow (Value.int .i64) (Sort.ahead w n) g 0 l'.toArray) os).heap[g]?=some (.cells (Sort.putCells (Value.int .i64) 0 l'.toArray cur) 3 (0,0)):=by
  unfold Sort.grow Sort.putRow Sort.mapBlock Sort.ahead
  dsimp only
  rw [Array.getElem?_append_left (by simpa using Yv),Array.getElem?_modify,if_pos rfl,hg]
  rfl
 have VF:w.heap.size≤(Sort.grow (Sort.putRow (Value.int .i64) (Sort.ahead w n) g 0 l'.toArray) os).heap.size:=by
  unfold Sort.grow Sort.putRow Sort.mapBlock Sort.ahead
  simp
 refine ⟨⟨by rw [xJ,List.length_map,Nat.mul_one],.inr ⟨g,cap,_,by rw [hl],hb,ZbU,by rw [hl];exact hc,hm,by unfold Sort.putCells;rw [Array.size_mapIdx];exact hs,?_⟩⟩,VF,λ a e ha=>⟨e.os,e.tape,e.output,Nat.le_trans e.size VF,λ k hk=>(hkeep k (Nat.lt_of_lt_of_le hk e.size) (by omega)).trans (e.block k hk)⟩,λ q o hq hn=>(hkeep q (Array.getElem?_eq_some_iff.1 hq).1 (by rintro rfl;rw [hg] at hq;injection hq with hq;exact hn _ _ _ hq.symm)).trans hq⟩
 rw [xJ]
 apply List.ext_getElem?
 intro k
 rw [List.getElem?_take,List.getElem?_map]
 by_cases hk:k < l'.length
 · rw [if_pos (by omega),Array.getElem?_toList]
   unfold Sort.putCells
   rw [Array.getElem?_mapIdx]
   have hkc:k < cur.size:=by rw [hs,Nat.mul_one];omega
   rw [Array.getElem?_eq_getElem hkc,List.getElem?_eq_getElem hk]
   simp only [Option.map_some,List.size_toArray]
   rw [if_pos ⟨Nat.zero_le _,by omega⟩,Nat.sub_zero,getElem!_pos _ k (by simpa using hk)]
   simp
 · rw [if_neg (by omega),List.getElem?_eq_none (by omega)]
   rfl
theorem own_holds {w:Wd} {base g cap n:Nat} {l:List Int} (h:Vj w base (.slice (some ⟨g,0,none⟩) n cap) l):g < w.heap.size∧l.length≤cap∧cap≤9223372036854775807∧Sort.Holds (Value.int .i64) w g 0 l.toArray:=by
 rcases h.2 with ⟨h0,_⟩ | ⟨g',cap',cur,h1,hb,hg,hc,hm,hs,ht⟩
 · cases h0
 injection h1 with h1 h1' h1''
 injection h1 with h1
 injection h1 with h1
 subst h1 h1''
 refine ⟨(Array.getElem?_eq_some_iff.1 hg).1,hc,by simp only [maxLen] at hm;omega,λ j hj=>⟨?_,(Za hg).2 _⟩⟩
 have hj':j < l.length:=by simpa using hj
 rw [(Za hg).1,Nat.zero_add,getElem!_pos _ j hj]
 rw [xJ,Nat.mul_one] at ht
 have:=congrArg (λ x:List Vl=>x[j]?) ht
 rw [List.getElem?_take,if_pos hj',List.getElem?_map,List.getElem?_eq_getElem hj',Array.getElem?_toList] at this
 simpa using this
theorem NP {w:Wd} {base:Nat} {v:Vl} {l:List Int} (h:Vj w base v l) (hl:l.length≤1048576):Ret Pg 83 #[v] w λ r w'=>r = .tuple #[]∧Vj w' base v (l.mergeSort λ x y=>decide (x≤y))∧xu base w w':=by
 rcases h.2 with ⟨rfl,h0⟩ | ⟨g,cap,cur,rfl,hb,hg,hc,hm,hs,ht⟩
 · obtain rfl:l=[]:=List.eq_nil_of_length_eq_zero h0
   refine Calls.mono (Kx none 0 w) ?_
   rintro e w' ⟨rfl,rfl⟩
   exact ⟨_,rfl,rfl,by rw [List.mergeSort_nil];exact h,xu.refl _ _⟩
 · obtain ⟨a1,a2,a3,a4⟩:=own_holds h
   refine Calls.mono (zJ g 0 cap l w a4 a1 (by omega)) ?_
   rintro e w' ⟨rfl,n,os,rfl⟩
   have:=put_own h (l':=l.mergeSort λ x y=>decide (x≤y)) (List.length_mergeSort _) n os
   exact ⟨_,rfl,rfl,this.1,this.2⟩
theorem Vj.ints {w:Wd} {base:Nat} {v:Vl} {l:List Int} (h:Vj w base v l):Zd w 1 Mp v l:=h.slice (λ _=>rfl) (λ _ _=>rfl)
def VI (a b:Vl) (R:RT) (w:Wd):Prop:=
 B0 .mul 3 true (.int .i64 8) b R w λ c w=>
 opV Pg (Instr.build 76 #[(0,c),(1,(.int .i64 40))]) (Zh R) w λ d w=>
 S0 76 a d R w λ w=>
 qW Pg 76 a w λ r0=>
 R (.returned r0) w
def VJ (a c d:Vl) (b:WPr) (R:RT) (w:Wd):Prop:=
 qV Pg b (ZI .mul 3 true (.int .i64 8) d) λ e=>
 qV Pg b (Instr.build 76 #[(0,c),(1,e)]) λ f=>
 S0 76 a f R w λ w=>
 Xt w λ g w=>
 qW Pg 76 a w λ r0=>
 R (.returned r0) w
def VK (c b:Vl) (a:WPr) (R:RT) (w:Wd):Prop:=
 J0 48 b 5 a λ d=>
 I0 3 d a λ e=>
 J0 48 b 6 a λ f=>
 I0 3 f a λ g=>
 C0 132 #[e] R w λ h w=>
 a w∧(
 qV Pg a (ZI .mul 3 true (.int .i64 8) h) λ i=>
 C0 132 #[g] R w λ j w=>
 a w∧(
 VJ c i j a R w))
def VL (a b:Vl) (R:RT) (w:Wd):Prop:=
 F0 48 b 5 R w λ c w=>
 L0 3 c R w λ d w=>
 C0 132 #[d] R w λ e w=>
 VI a e R w
def VM (a b c:Vl) (d:WPr) (R:RT) (w:Wd):Prop:=
 qV Pg d (Instr.build 76 #[(0,b),(1,c)]) λ e=>
 S0 76 a e R w λ w=>
 Xt w λ f w=>
 qW Pg 76 a w λ r0=>
 R (.returned r0) w
def Vt (b d e f c:Vl) (a:WPr) (R:RT) (w:Wd):Prop:=
 M0 71 b c a λ g=>
 J0 76 g 0 a λ h=>
 I0 3 h a λ i=>
 M0 71 b c a λ j=>
 J0 76 j 1 a λ k=>
 I0 3 k a λ l=>
 C0 133 #[e,i] R w λ m w=>
 a w∧(
 C0 133 #[f,l] R w λ n w=>
 a w∧(
 VM d m n a R w))
def Vb (a c b:Vl) (Ug:KV) (R:RT) (w:Wd):Prop:=
 F0 76 a 0 R w λ d w=>
 L0 3 d R w λ e w=>
 F0 76 b 0 R w λ f w=>
 L0 3 f R w λ g w=>
 opV Pg (Builtin.min_ #[3,3] 3 #[e,g]) (Zh R) w λ h w=>
 F0 76 a 1 R w λ i w=>
 L0 3 i R w λ j w=>
 F0 76 b 1 R w λ k w=>
 L0 3 k R w λ l w=>
 opV Pg (Builtin.max_ #[3,3] 3 #[j,l]) (Zh R) w λ m w=>
 opV Pg (Instr.build 76 #[(0,h),(1,m)]) (Zh R) w λ n w=>
 S0 76 a n R w λ w=>
 B0 .add 3 true c (.int .i64 1) R w λ o w=>
 Ug o w
def Vc (a b c:Vl) (Ug:KV) (R:RT) (w:Wd):Prop:=
 B0 .eql 3 true b (.int .i64 0) R w λ e w=>
 Zr (λ (w:Wd)=>
 Vb a b c Ug R w) λ d=>
 Zq e (
 L0 76 c R w λ f w=>
 S0 76 a f R w λ w=>
 d w) (
 d w)
def Vu (c d:Vl) (a:WPr) (e:KV) (R:RT) (w:Wd):Prop:=
 M0 71 c d a λ f=>
 I0 76 f a λ g=>
 opV Pg (Instr.alloc 76 true (.tuple #[])) (Zh R) w λ b w=>
 a w∧(
 S0 76 b g R w λ w=>
 Xt w λ h w=>
 e b w)
def QG (c a d:Vl) (b:WPr) (e:KV) (R:RT) (w:Wd):Prop:=
 M0 71 c d b λ f=>
 I0 76 f b λ g=>
 S0 76 a g R w λ w=>
 Xt w λ h w=>
 e a w
def QH (b j k l e:Vl) (a:WPr) (Ug:KV) (R:RT) (w:Wd):Prop:=
 I0 28 j a λ f=>
 J0 48 k 11 a λ m=>
 I0 46 m a λ n=>
 M0 46 n e a λ o=>
 J0 60 o 2 a λ p=>
 I0 9 p a λ g=>
 qV Pg a (Builtin.len_ #[71] 3 #[b]) λ h=>
 Zr (λ (c:Vl) (w:Wd)=>
 Vc l e c Ug R w) λ i=>
 (
 C0 53 #[f,g,h] R w λ d w=>
 Wz a w λ q w=>
 Vu b d q i R w)∧(
 opV Pg (Instr.alloc 76 true (.tuple #[])) (Zh R) w λ c w=>
 a w∧(
 C0 53 #[f,g,h] R w λ d w=>
 Wz a w λ r w=>
 QG b c d r i R w))
def Qt (e f a b c d:Vl) (Ug:KV) (R:RT) (w:Wd):Prop:=
 F0 48 b 11 R w λ g w=>
 L0 46 g R w λ h w=>
 G0 46 3 h R w λ i w=>
 B0 .lss 3 false d i R w λ j w=>
 Zq j (
 Yy w λ k w=>
 QH e f b c d k Ug R w) (
 L0 76 c R w λ l w=>
 S0 76 a l R w λ w=>
 qW Pg 76 a w λ r0=>
 R (.returned r0) w)
def Q4 (a:Vl) (R:RT) (w:Wd):Prop:=
 opV Pg (Instr.build 76 #[(0,(.int .i64 32)),(1,(.int .i64 32))]) (Zh R) w λ b w=>
 S0 76 a b R w λ w=>
 qW Pg 76 a w λ r0=>
 R (.returned r0) w
def Q5 (a:Vl) (R:RT) (w:Wd):Prop:=
 opV Pg (Instr.build 76 #[(0,(.int .i64 16)),(1,(.int .i64 16))]) (Zh R) w λ b w=>
 S0 76 a b R w λ w=>
 qW Pg 76 a w λ r0=>
 R (.returned r0) w
def Q6 (a b:Vl) (R:RT) (w:Wd):Prop:=
 F0 48 b 2 R w λ c w=>
 L0 3 c R w λ d w=>
 B0 .sub 3 true d (.int .i64 1) R w λ e w=>
 opV Pg (Instr.build 76 #[(0,(.int .i64 0)),(1,e)]) (Zh R) w λ f w=>
 S0 76 a f R w λ w=>
 qW Pg 76 a w λ r0=>
 R (.returned r0) w
def Q7 (a b:Vl) (R:RT) (w:Wd):Prop:=
 F0 48 b 12 R w λ c w=>
 L0 3 c R w λ d w=>
 B0 .eql 3 true d (.int .i64 3) R w λ e w=>
 Zq e (
 Q4 a R w) (
 Q5 a R w)
def Q8 (b a c:Vl) (R:RT) (w:Wd):Prop:=
 X0 71 b c R w λ d w=>
 L0 76 d R w λ e w=>
 S0 76 a e R w λ w=>
 qW Pg 76 a w λ r0=>
 R (.returned r0) w
def QI (d e a b c:Vl) (R:RT) (w:Wd):Prop:=
 B0 .eql 3 true c (.int .i64 9) R w λ f w=>
 Zq f (
 opV Pg (Instr.alloc 76 true (.tuple #[])) (Zh R) w λ g w=>
 YS (λ h w Ug=>
 Qt d e a b g h Ug R w) (.int .i64 0) w) (
 B0 .eql 3 true c (.int .i64 10) R w λ i w=>
 Zq i (
 Q6 a b R w) (
 Q7 a b R w))
def Q9 (a b:Vl) (R:RT) (w:Wd):Prop:=
 F0 48 b 6 R w λ c w=>
 L0 3 c R w λ d w=>
 B0 .mul 3 true (.int .i64 8) d R w λ e w=>
 opV Pg (Instr.build 76 #[(0,(.int .i64 16)),(1,e)]) (Zh R) w λ f w=>
 S0 76 a f R w λ w=>
 qW Pg 76 a w λ r0=>
 R (.returned r0) w
def QJ (a e b f g h d c:Vl) (R:RT) (w:Wd):Prop:=
 B0 .eql 3 true c (.int .i64 7) R w λ i w=>
 Zq i (
 Yy w λ j w=>
 Vt a b g h d j R w) (
 B0 .eql 3 true c (.int .i64 8) R w λ k w=>
 Zq k (
 Q8 a b d R w) (
 QI a e b f c R w))
def Wa (a b:Vl) (R:RT) (w:Wd):Prop:=
 F0 48 b 6 R w λ c w=>
 L0 3 c R w λ d w=>
 B0 .mul 3 true (.int .i64 8) d R w λ e w=>
 B0 .add 3 true e (.int .i64 8) R w λ f w=>
 opV Pg (Instr.build 76 #[(0,(.int .i64 8)),(1,f)]) (Zh R) w λ g w=>
 S0 76 a g R w λ w=>
 qW Pg 76 a w λ r0=>
 R (.returned r0) w
def Wb (a b c:Vl) (R:RT) (w:Wd):Prop:=
 B0 .mul 3 true (.int .i64 8) b R w λ d w=>
 B0 .mul 3 true (.int .i64 8) c R w λ e w=>
 opV Pg (Instr.build 76 #[(0,d),(1,e)]) (Zh R) w λ f w=>
 S0 76 a f R w λ w=>
 qW Pg 76 a w λ r0=>
 R (.returned r0) w
def QK (d e a b f g h c:Vl) (R:RT) (w:Wd):Prop:=
 B0 .eql 3 true c (.int .i64 5) R w λ i w=>
 Zq i (
 Wa a b R w) (
 B0 .eql 3 true c (.int .i64 6) R w λ j w=>
 Zq j (
 Q9 a b R w) (
 QJ d e a b f g h c R w))
def QL (b a:Vl) (R:RT) (w:Wd):Prop:=
 F0 48 a 4 R w λ c w=>
 L0 4 c R w λ d w=>
 Zq d (
 VL b a R w) (
 Yy w λ e w=>
 VK b a e R w)
def QM (g h b i c d j a:Vl) (R:RT) (w:Wd):Prop:=
 B0 .eql 3 true a (.int .i64 4) R w λ e w=>
 Zr (λ (k:Vl) (w:Wd)=>
 Zq k (
 Wb b c d R w) (
 QK g h b i c d j a R w)) λ f=>
 Zq e (
 f e w) (
 B0 .eql 3 true a (.int .i64 12) R w λ l w=>
 f l w)
def QN (a b:Vl) (R:RT) (w:Wd):Prop:=
 F0 48 b 2 R w λ c w=>
 L0 3 c R w λ d w=>
 F0 48 b 2 R w λ e w=>
 L0 3 e R w λ f w=>
 opV Pg (Instr.build 76 #[(0,d),(1,f)]) (Zh R) w λ g w=>
 S0 76 a g R w λ w=>
 qW Pg 76 a w λ r0=>
 R (.returned r0) w
def QO (d e a b f g h c i:Vl) (R:RT) (w:Wd):Prop:=
 Zq i (
 QN a b R w) (
 B0 .eql 3 true c (.int .i64 3) R w λ j w=>
 Zq j (
 QL a b R w) (
 QM d e a b f g h c R w))
def Qu (e f g b h i j:Vl) (R:RT) (w:Wd):Prop:=
 F0 48 b 1 R w λ k w=>
 L0 42 k R w λ a w=>
 B0 .eql 3 true a (.int .i64 1) R w λ c w=>
 Zr (λ (l:Vl) (w:Wd)=>
 QO e f g b h i j a l R w) λ d=>
 Zq c (
 d c w) (
 B0 .eql 3 true a (.int .i64 2) R w λ m w=>
 d m w)
def QQ (c d f e a:Vl) (b:WPr) (R:RT) (w:Wd):Prop:=
 qV Pg b (Instr.extract a 0) λ g=>
 qV Pg b (Instr.extract a 1) λ h=>
 qV Pg b (Instr.extract a 2) λ n=>
 L0 28 d R w λ i w=>
 F0 48 e 8 R w λ j w=>
 L0 9 j R w λ k w=>
 G0 71 3 c R w λ l w=>
 C0 53 #[i,k,l] R w λ m w=>
 Qu c d f e g h m R w
def QS (c d e f b:Vl) (a:WPr) (R:RT) (w:Wd):Prop:=
 J0 48 b 7 a λ g=>
 I0 45 g a λ h=>
 I0 24 e a λ i=>
 C0 131 #[i] R w λ j w=>
 a w∧(
 C0 130 #[h,j] R w λ k w=>
 a w∧(
 QQ c d f b k a R w))
def n42 (c d e f:Vl) (R:RT) (w:Wd):Prop:=
 opV Pg (Instr.box 28 c) (Zh R) w λ g w=>
 opV Pg (Instr.box 24 d) (Zh R) w λ a w=>
 opV Pg (Instr.alloc 76 true (.tuple #[])) (Zh R) w λ h w=>
 F0 24 a 1 R w λ i w=>
 L0 22 i R w λ j w=>
 X0 22 j e R w λ k w=>
 L0 48 k R w λ l w=>
 opV Pg (Instr.alloc 48 true (.tuple #[])) (Zh R) w λ b w=>
 S0 48 b l R w λ w=>
 Yy w λ m w=>
 QS f g a h b m R w
set_option maxHeartbeats 40000000 in
theorem Zin {t0 t1 t2 t3:Vl} {R:RT} {w:Wd} (h:n42 t0 t1 t2 t3 R w):Calls Pg 107 #[t0,t1,t2,t3] w R:=by
 refine yD func107 ?_
 refine zs<|zr<|yv h λ _ w h=>yv h λ _ w h=>yv h λ _ w h=>zn<|zk<|zs<|zr<|yv h λ _ w h=>yv h λ _ w h=>zm<|yv h λ _ w h=>yv h λ _ w h=>yv h λ _ w h=>?_
 refine yu h λ w h=>zn<|zk<|zs<|yh [10,11,12,22,23,24,25,26,27,28,29,30] h λ C hC h=>ye 0 hC h λ _ h=>?_
 refine ye 1 hC h λ _ h=>?_
 refine ye 2 hC h λ _ h=>?_
 refine yo 3 ?_
 refine yc h ZgQ λ _ w h=>zn ?_
 obtain ⟨hC,h⟩:=h
 refine ⟨hC,?_⟩
 refine yo 4 ?_
 refine yc h ZcT λ _ w h=>zn ?_
 obtain ⟨hC,h⟩:=h
 refine ⟨hC,?_⟩
 refine yw 5 hC ?_
 refine ye 6 hC h λ _ h=>?_
 refine ye 7 hC h λ _ h=>?_
 refine ye 8 hC h λ _ h=>?_
 refine yw 9 hC ?_
 refine yw 10 hC ?_
 refine yw 11 hC ?_
 refine yz<|zk<|zs<|zr<|yv h λ _ w h=>yv h λ _ w h=>yv h λ _ w h=>zm<|yx h λ _ w h=>yc h c53 λ _ w h=>zm<|zn<|zk<|zs<|zs ?_
 refine zr<|yv h λ _ w h=>yv h λ _ w h=>zn<|zk<|Zj<|zs<|zs<|zr<|yb h λ _ w h=>zm<|zn<|zk<|yJ1 [39,41] 39 h (λ _ _ hkK2 h=>?_) λ σ w h=>?_
 · refine yC h (λ h=>?_) λ h=>?_
   · refine Zi<|zk ?_
     exact zt hkK2 h
   refine zr<|yb h λ _ w h=>zm<|zn<|zk ?_
   exact zt hkK2 h
 refine zk<|yC h (λ h=>zs<|zr<|yv h λ _ w h=>yv h λ _ w h=>yv h λ _ w h=>yv h λ _ w h=>yB h λ _ w h=>yu h λ w h=>zn<|zk<|Ze<|Zf<|Zb<|Ya rfl rfl h) λ h=>zs<|zr<|yb h λ _ w h=>zm<|zn<|zk<|yC h (λ h=>?_) λ h=>?_
 · refine zs<|zs<|zr<|yv h λ _ w h=>yv h λ _ w h=>zn<|zk<|yC h (λ h=>zs<|zr<|yv h λ _ w h=>yv h λ _ w h=>yc h SP λ _ w h=>yb h λ _ w h=>yB h λ _ w h=>yu h λ w h=>zn<|zk<|Ze<|Zb<|Zf<|Zb<|Ya rfl rfl h) λ h=>Zi<|zk<|zs<|yh [56,57,58,59,60,61,62,63,64] h λ C hC h=>ye 0 hC h λ _ h=>?_
   refine ye 1 hC h λ _ h=>?_
   refine ye 4 hC h λ _ h=>?_
   refine ye 5 hC h λ _ h=>?_
   refine yo 2 ?_
   refine yc h SP λ _ w h=>zn ?_
   obtain ⟨hC,h⟩:=h
   refine ⟨hC,?_⟩
   refine ye 3 hC h λ _ h=>?_
   refine yo 6 ?_
   refine yc h SP λ _ w h=>zn ?_
   obtain ⟨hC,h⟩:=h
   refine ⟨hC,?_⟩
   refine ye 7 hC h λ _ h=>?_
   refine ye 8 hC h λ _ h=>?_
   refine yq 9 1 ?_
   refine yu h λ w h=>zn ?_
   obtain ⟨C4,hC,h⟩:=h
   refine ⟨C4,hC,?_⟩
   exact yz<|zk<|Ze<|Zf<|Zb<|Ya rfl rfl h
 refine zs<|zs<|zr<|yb h λ _ w h=>zm<|zn<|zk<|yJ1 [65,67] 65 h (λ _ _ hkK5 h=>?_) λ σ w h=>?_
 · refine yC h (λ h=>?_) λ h=>?_
   · refine Zi<|zk ?_
     exact zt hkK5 h
   refine zr<|yb h λ _ w h=>zm<|zn<|zk ?_
   exact zt hkK5 h
 refine zk<|yC h (λ h=>zs<|zr<|zm<|yb h λ _ w h=>zm<|yb h λ _ w h=>yB h λ _ w h=>yu h λ w h=>zn<|zk<|Ze<|Zf<|Zb<|Ya rfl rfl h) λ h=>zs<|zr<|yb h λ _ w h=>zm<|zn<|zk<|yC h (λ h=>zs<|zr<|yv h λ _ w h=>yv h λ _ w h=>yb h λ _ w h=>yb h λ _ w h=>yB h λ _ w h=>yu h λ w h=>zn<|zk<|Ze<|Zf<|Zb<|Ya rfl rfl h) λ h=>zs<|zr<|yb h λ _ w h=>zm ?_
 refine zn<|zk<|yC h (λ h=>zs<|zr<|yv h λ _ w h=>yv h λ _ w h=>yb h λ _ w h=>yB h λ _ w h=>yu h λ w h=>zn<|zk<|Ze<|Zf<|Zb<|Ya rfl rfl h) λ h=>zs<|zr<|yb h λ _ w h=>zm<|zn<|zk<|yC h (λ h=>?_) λ h=>?_
 · refine zs<|yh [88,89,90,91,92,93,94,95,96,97,98,99,100,101,102] h λ C hC h=>yw 0 hC ?_
   refine yw 1 hC ?_
   refine yw 2 hC ?_
   refine ye 3 hC h λ _ h=>?_
   refine ye 4 hC h λ _ h=>?_
   refine ye 5 hC h λ _ h=>?_
   refine yw 7 hC ?_
   refine yw 8 hC ?_
   refine yw 9 hC ?_
   refine ye 10 hC h λ _ h=>?_
   refine ye 11 hC h λ _ h=>?_
   refine ye 12 hC h λ _ h=>?_
   refine yo 6 ?_
   refine yc h ZcU λ _ w h=>zn ?_
   obtain ⟨hC,h⟩:=h
   refine ⟨hC,?_⟩
   refine yo 13 ?_
   refine yc h ZcU λ _ w h=>zn ?_
   obtain ⟨hC,h⟩:=h
   refine ⟨hC,?_⟩
   refine ye 14 hC h λ _ h=>?_
   refine yq 15 1 ?_
   refine yu h λ w h=>zn ?_
   obtain ⟨C7,hC,h⟩:=h
   refine ⟨C7,hC,?_⟩
   exact yz<|zk<|Ze<|Zf<|Zb<|Ya rfl rfl h
 refine zs<|zr<|yb h λ _ w h=>zm<|zn<|zk<|yC h (λ h=>zs<|zr<|zm<|zm<|yv h λ _ w h=>yv h λ _ w h=>yu h λ w h=>zn<|zk<|Ze<|Zf<|Zb<|Ya rfl rfl h) λ h=>zs<|zr<|yb h λ _ w h=>zm<|zn<|zk<|yC h (λ h=>?_) λ h=>?_
 · refine zs<|zr<|yv h λ _ w h=>zn<|zk<|zs<|zs<|zr<|zm<|zn<|zk<|Zj<|yl1 [15,16,111,112,113,114,115,116,117,118,119,120,121,122,123,124,125,126,127,128,129,130,131,132,133,134,135,136,137,138,139,140,141,142,143,144] 15 h λ σ w next h=>zs<|zs ?_
   refine zr<|zm<|yv h λ _ w h=>yv h λ _ w h=>yx h λ _ w h=>yb h λ _ w h=>zn<|zk<|yC h (λ h=>?_) λ h=>?_
   · refine Zi<|zk<|zs<|Zj<|zs<|yh [16,118,119,120,121,122,123,124,125,126,127,128,129,130] h λ C hC h=>yw 0 hC ?_
     refine ye 1 hC h λ _ h=>?_
     refine ye 2 hC h λ _ h=>?_
     refine ye 3 hC h λ _ h=>?_
     refine yw 4 hC ?_
     refine ye 5 hC h λ _ h=>?_
     refine ye 6 hC h λ _ h=>?_
     refine ye 7 hC h λ _ h=>?_
     refine yw 8 hC ?_
     refine ye 9 hC h λ _ h=>?_
     refine VR h (λ K10 hK h=>?_)
     refine UF [16,128,129,130] (λ ρ w=>K10 (ρ 16) w) (λ T hT=>?_) (λ σ w h=>?_)
     · obtain ⟨h0,h1⟩:=h
       refine QV 10 13 rfl rfl (by kernel_rfl) (λ _ _=>rfl) (λ _ _=>rfl) ?_ ?_
       · have h:=h0
         refine yc h c53 λ _ w h=>zn ?_
         obtain ⟨C12,hs,hC,h⟩:=h
         refine ⟨C12,hs,hC,?_⟩
         refine ye 11 hC h λ _ h=>?_
         refine ye 12 hC h λ _ h=>?_
         refine yo 13 ?_
         refine yv h λ _ w h=>zn ?_
         obtain ⟨hC,h⟩:=h
         refine ⟨hC,?_⟩
         refine yq 14 1 ?_
         refine yu h λ w h=>zn ?_
         obtain ⟨C13,hC,h⟩:=h
         refine ⟨C13,hC,?_⟩
         refine yz ?_
         exact zt hT h
       have h:=h1
       refine yv h λ _ w h=>zn ?_
       obtain ⟨hC,h⟩:=h
       refine ⟨_,λ _ h=>h,hC,?_⟩
       refine yr 10 ?_
       refine yc h c53 λ _ w h=>zn ?_
       obtain ⟨C14,hs,hC,h⟩:=h
       refine ⟨C14,hs,hC,?_⟩
       refine ye 11 hC h λ _ h=>?_
       refine ye 12 hC h λ _ h=>?_
       refine yq 14 1 ?_
       refine yu h λ w h=>zn ?_
       obtain ⟨C15,hC,h⟩:=h
       refine ⟨C15,hC,?_⟩
       refine yz ?_
       exact zt hT h
     subst hK
     refine zk<|zs<|zs<|zr<|zm<|yb h λ _ w h=>zn<|zk<|yJ0 [133] h (λ _ _ hkK11 h=>?_) λ σ w h=>?_
     · refine yC h (λ h=>?_) λ h=>?_
       · refine zr<|yv h λ _ w h=>yu h λ w h=>zn<|zk ?_
         exact zt hkK11 h
       refine Zi<|zk ?_
       exact zt hkK11 h
     refine zk<|zr<|yv h λ _ w h=>yv h λ _ w h=>yv h λ _ w h=>yv h λ _ w h=>yx h λ _ w h=>yv h λ _ w h=>yv h λ _ w h=>yv h λ _ w h=>yv h λ _ w h=>yx h λ _ w h=>yB h λ _ w h=>yu h λ w h=>zn ?_
     exact Zg<|zk<|zr<|zm<|yb h λ _ w h=>zm<|zn<|zk<|⟨rfl,h⟩
   exact ZA<|Zc<|Zc<|Zp<|zk<|zs<|zr<|yv h λ _ w h=>yu h λ w h=>zn<|zk<|Ze<|Zf<|Zb<|Ya rfl rfl h
 refine zs<|zr<|yb h λ _ w h=>zm<|zn<|zk<|yC h (λ h=>zs<|zr<|yv h λ _ w h=>yv h λ _ w h=>yb h λ _ w h=>yB h λ _ w h=>yu h λ w h=>zn<|zk<|Ze<|Zf<|Zb<|Ya rfl rfl h) λ h=>Zi<|Zg<|zk<|zs<|zs<|zr<|yv h λ _ w h=>?_
 refine yv h λ _ w h=>yb h λ _ w h=>zn<|zk<|yC h (λ h=>zs<|zr<|yB h λ _ w h=>yu h λ w h=>zn<|zk<|Ze<|Zb<|Ya rfl rfl h) λ h=>Zi<|zk<|zs<|zr<|yB h λ _ w h=>yu h λ w h=>zn<|zk<|Ze ?_
 exact Ya rfl rfl h
def Za8 (a e:Vl) (Zo:KV) (R:RT) (w:Wd):Prop:=
 B0 .rem 3 false a e R w λ f w=>
 B0 .neq 3 true f (.int .i64 0) R w λ c w=>
 Zr (λ (b:Vl) (w:Wd)=>
 Zw c b (.bool false) λ g=>
 Zq g (
 B0 .add 3 true a (.int .i64 1) R w λ h w=>
 Zo h w) (
 R (.returned a) w)) λ d=>
 Zn c true (
 B0 .lss 3 true a (.int .i64 1099511627776) R w λ b w=>
 d b w) (
 d undef w)
def n50 (a b:Vl) (R:RT) (w:Wd):Prop:=
 YS (λ a w Zo=>
 Za8 a b Zo R w) a w
theorem Ziv {t0 t1:Vl} {R:RT} {w:Wd} (h:n50 t0 t1 R w):Calls Pg 108 #[t0,t1] w R:=by
 refine yD func108 ?_
 refine zs<|zr<|zm<|zn<|zk<|zs<|Zj<|yl1 [0,5,6,7,8,9,10,11,12,13,14] 0 h λ σ w next h=>zs<|zs<|Zu<|yG 5<|zm<|zm<|yb h λ _ w h=>?_
 refine yb h λ _ w h=>zm<|zn<|yg1 2 4 true [10,11] 11 h (λ _ T hT h=>?_) λ σ w h=>?_
 · refine zm<|yb h λ _ w h=>zn ?_
   exact zt hT h
 refine yG 1<|yp h λ _ h=>zn<|ZQ<|zk<|yC h (λ h=>Zi<|zk<|Zj<|zr<|zm<|yb h λ _ w h=>zm<|zn<|Zg<|zk<|⟨rfl,h⟩) λ h=>ZA<|Zc<|Zc<|Zp<|zk<|zs<|zr<|zm ?_
 exact zm<|zn<|zk<|Ze<|Zk rfl rfl h
def n47 (a b:Vl) (R:RT) (w:Wd):Prop:=
 B0 .add 3 false a b R w λ c w=>
 opV Pg (Builtin.min_ #[3,3] 3 #[(.int .i64 1099511627776),c]) (Zh R) w λ d w=>
 R (.returned d) w
theorem Zis {t0 t1:Vl} {R:RT} {w:Wd} (h:n47 t0 t1 R w):Calls Pg 109 #[t0,t1] w R:=by
 refine yD func109 ?_
 refine zs<|zr<|zm<|zn<|zk<|zs<|zr<|zm<|zm<|yb h λ _ w h=>yx h λ _ w h=>zm<|zn<|zk<|Ze ?_
 exact Zk rfl rfl h
theorem jZ {w:Wd} {QP:PEn} {k:KV} {base b:Nat} {v:Vl} {l:List Int} (n:Int) (h:Vj w base v l) (hc:w.cell? ⟨b,0,none⟩=some (.int .i64 n)) (hb:base≤w.heap.size) (hl:l.length≤1048576) (hk:∀ v' w',Vj w' base v' (l++[n])→xu base w w'→k v' w') :
 opV Pg (Builtin.append_ #[30,30] 30 #[v,.slice (some ⟨b,0,none⟩) 1 1]) QP w k:=by
 refine QT (l':=[n]) underlying30 ty3 rfl (by decide) (λ _=>rfl) (λ x hx u hu=>?_) h (λ j x hx=>?_) hb ?_ (by simp;omega) (λ v' w' ho hg=>hk v' w' ho (Am h hg))
 · simp at hu;subst hu;rfl
 · cases j with
   | zero=>simp at hx;subst hx;intro i u hu;cases i with
    | zero=>injection hu with hu;subst hu;simpa using hc
    | succ i=>cases hu
   | succ j=>cases hx
 · exact Nat.le_trans (Nat.mul_le_mul (show l.length+[n].length≤1048577 by simp;omega) by3) (by decide)
structure Vk (lo hi:Nat) (w w':Wd):Prop where
 os:w'.os=w.os
 tape:w'.tape=w.tape
 output:w'.output=w.output
 size:w.heap.size≤w'.heap.size
 block:∀ k,k < w.heap.size→(k < lo∨hi≤k)→w'.heap[k]?=w.heap[k]?
section
variable {lo hi:Nat} {w w' w1 w2:Wd}
theorem Vk.refl (lo hi:Nat) (w:Wd):Vk lo hi w w:=⟨rfl,rfl,rfl,Nat.le_refl _,λ _ _ _=>rfl⟩
theorem Vk.ext (h:Vk lo hi w w1) (e:Ext w1 w2):Vk lo hi w w2:=⟨e.os.trans h.os,e.tape.trans h.tape,e.output.trans h.output,Nat.le_trans h.size e.size,λ k hk hb=>(e.block k (Nat.lt_of_lt_of_le hk h.size)).trans (h.block k hk hb)⟩
theorem Vk.setCell (h:Vk lo hi w w1) {b o:Nat} (h1:lo≤b) (h2:b < hi) (v:Vl):Vk lo hi w (w1.setCell ⟨b,o,none⟩ v):=
 ⟨h.os,h.tape,h.output,by rw [World.size_setCell];exact h.size,λ k hk hb=>(YY.setCell w1 b o v k (by omega)).trans (h.block k hk hb)⟩
theorem Vk.to_ext {a:Wd} (h:Vk lo hi w w') (e:Ext a w) (hl:a.heap.size≤lo):Ext a w':=⟨h.os.trans e.os,h.tape.trans e.tape,h.output.trans e.output,Nat.le_trans e.size h.size,λ k hk=>(h.block k (Nat.lt_of_lt_of_le hk e.size) (.inl (by omega))).trans (e.block k hk)⟩
theorem Vk.obj (h:Vk lo hi w w') {b:Nat} {o:Obj} (hb:w.heap[b]?=some o) (hr:b < lo∨hi≤b):w'.heap[b]?=some o:=(h.block b (Array.getElem?_eq_some_iff.1 hb).1 hr).trans hb
theorem Vk.cell (h:Vk lo hi w w') {b o:Nat} {v:Vl} (hb:w.cell? ⟨b,o,none⟩=some v) (hr:b < lo∨hi≤b):w'.cell? ⟨b,o,none⟩=some v:=(World.cell?_of_block (h.block b (World.block_lt_of_cell? w _ hb) hr)).trans hb
theorem Vk.strs (h:Vk lo hi w w') {pb:Nat} {sv:Vl} {l:List BAr} (hs:Q3 w pb sv l) (hp:hi≤pb):Q3 w' pb sv l:=by
 obtain ⟨h1,⟨A,c,hv,h2,h3,h4⟩,h5⟩:=hs
 refine ⟨h.cell h1 (.inr hp),⟨A,c,hv,h2,h3,λ Xv=>?_⟩,h5⟩
 obtain ⟨b,o,hA,Y3⟩:=h4 Xv
 refine ⟨b,o,hA,λ k x hx=>?_⟩
 obtain ⟨cs,a1,a2,a3⟩:=Y3 k x hx
 have hb:pb < b:=h5 ⟨b,o,none⟩ _ _ (by rw [hv,hA])
 exact ⟨cs,a1,λ j v hv=>h.cell (a2 j v hv) (.inr (by omega)),a3⟩
end
theorem EW {α:Type} {p:α→Bool} {l:List α} (h:l.any p=true):MW p l=idx p l:=by
 rw [← Qq] at h
 unfold MW
 rw [if_neg (by simpa using h)]
def toB (l:List ZC) (k i:Nat):Bool:=match l[k]? with
 | some m=>(Qn m).any λ s=>idx (λ x=>decide (x.name=s)) l == (i:Int)
 | none=>false
def toP (l:List ZC) (k:Nat):List Int:=Kw k (toB l k)
theorem UO {l:List ZC} (h:Q2 l) {k:Nat} {m:ZC} (hk:l[k]?=some m) {s:BAr} (hs:s∈Qn m):∃ (i:Nat) (m':ZC),i < k∧l[i]?=some m'∧m'.name=s∧idx (λ x=>decide (x.name=s)) l=i∧idx (λ x=>decide (x.name=s)) (l.take k)=i:=by
 obtain ⟨i,m',h1,h2,h3,h4,_⟩:=h.refs hk hs
 refine ⟨i,m',h1,h2,h3,WU h2 (by simpa using h3) λ j y hj hy=>by simpa using h4 j y hj hy,WU (x:=m') (by rw [List.getElem?_take,if_pos h1];exact h2) (by simpa using h3) λ j y hj hy=>?_⟩
 rw [List.getElem?_take,if_pos (by omega)] at hy
 simpa using h4 j y hj hy
theorem Zgi {l:List ZC} (h:Q2 l) {k i:Nat} (ht:toB l k i=true):i < k∧k < l.length:=by
 unfold toB at ht
 cases hk:l[k]? with
 | none=>rw [hk] at ht;cases ht
 | some m=>
  rw [hk] at ht
  simp only [List.any_eq_true,beq_iff_eq] at ht
  obtain ⟨s,hs,he⟩:=ht
  obtain ⟨j,_,hj,_,_,hi,_⟩:=UO h hk hs
  exact ⟨by omega,(List.getElem?_eq_some_iff.1 hk).1⟩
section
variable {l:List ZC} {s:Nat}
def YK (l:List ZC) (s:Nat):Nat→Nat→Bool
 | 0,i=>i == s
 | t+1,i=>YK l s t i||(YK l s t (l.length - 1 - t)&&toB l (l.length - 1 - t) i)
def zH (l:List ZC) (s i:Nat):Bool:=YK l s l.length i
def D7 (l:List ZC) (s:Nat):List Int:=Kw l.length (zH l s)
theorem jl (h:Q2 l):∀ t,t≤l.length - 1 - s→∀ i,YK l s t i=(i == s)
 | 0,_,i=>rfl
 | t+1,ht,i=>by
  have ih:=jl h t (by omega)
  unfold YK
  rw [ih,ih]
  have:(l.length - 1 - t == s)=false:=by simp;omega
  rw [this,Bool.false_and,Bool.or_false]
def Uk (l:List ZC) (k:Nat):List Int:=match l[k]? with
 | some m=>(Qn m).map λ s=>idx (λ x=>decide (x.name=s)) l
 | none=>[]
theorem Cl {k i:Nat}:(i:Int)∈Uk l k↔toB l k i=true:=by
 unfold Uk toB
 cases l[k]? with
 | none=>simp
 | some m=>simp only [List.mem_map,List.any_eq_true,beq_iff_eq]
theorem Sd (h:Q2 l) {k:Nat} {x:Int} (hx:x∈Uk l k):0≤x∧x < k:=by
 unfold Uk at hx
 cases hk:l[k]? with
 | none=>rw [hk] at hx;cases hx
 | some m=>
  rw [hk] at hx
  simp only [List.mem_map] at hx
  obtain ⟨s,hs,rfl⟩:=hx
  obtain ⟨i,_,hi,_,_,he,_⟩:=UO h hk hs
  omega
variable {to:Nat}
end
end Go.Proofs.YtfjjgjjlebllmaaGreat
namespace Go.Sw
open Go.RowKit (Below)
section
variable {P:Program} {QP:PEn} {w:Wd}
theorem Ir {α:Type} {t ty T n m:Nat} {z:Vl} {agg:Bool} {enc:α→List Vl} {v:Vl} {l l':List α} {base:Nat} {k:KV}
 (ht:P.underlying t=some (.slice T)) (hT:ZH P T agg n m z) (hz:z.cells.size=n) (h0:0 < n) (hn:∀ x,(enc x).length=n) (h1:∀ x,x∈l'→∀ u∈enc x,u.oneCell'=true)
 (BS:Yk w base T n enc v l) {b o c:Nat} (hc:∀ j x,l'[j]?=some x→Z6 w b (o+j*n) (enc x)) (GE:base≤w.heap.size) (hl':0 < l'.length) (hm:(l.length+l'.length)*m≤140737488355328) (hb:l.length+l'.length≤140737488355328)
 (hk:∀ g cap w',Yk w' base T n enc (.slice (some ⟨g,0,none⟩) (l.length+l'.length) cap) (l++l')→w.grownBy w' v.ownBlock→(v.ownBlock=some g∨g=w.heap.size)→g < w'.heap.size→k (.slice (some ⟨g,0,none⟩) (l.length+l'.length) cap) w') :
 opV P (Builtin.append_ #[t,t] ty #[v,.slice (some ⟨b,o,none⟩) l'.length c]) QP w k:=by
 obtain ⟨⟨i,hi,hs,hby,hzz⟩,_⟩:=hT
 have hfl:(l'.flatMap enc).length=l'.length*n:=by
  clear hm hb hc h1 hk hl'
  induction l' with
  | nil=>simp
  | cons a l ih=>rw [List.flatMap_cons,List.length_append,hn,ih,List.length_cons,Nat.add_mul];omega
 have hcells:∀ j u,(l'.flatMap enc)[j]?=some u→w.cell? ((⟨b,o,none⟩:Addr).add j)=some u:=by
  intro j u hu
  have hj:j < l'.length*n:=by have:=(List.getElem?_eq_some_iff.1 hu).1;rwa [hfl] at this
  have hq:j / n < l'.length:=Nat.div_lt_of_lt_mul (by rw [Nat.mul_comm];exact hj)
  obtain ⟨x,hx⟩:=getElem?_lt hq
  have hjn:j % n < (enc x).length:=by rw [hn];exact Nat.mod_lt _ h0
  have hdm:j / n*n+j % n=j:=by rw [Nat.mul_comm];exact Nat.div_add_mod j n
  have hg:=Wl hn l' (j / n) x (j % n) _ hx (List.getElem?_eq_getElem hjn)
  rw [hdm,hu] at hg
  injection hg with hg
  rw [Addr.add_lit]
  have:=hc _ _ hx (j % n) _ (List.getElem?_eq_getElem hjn)
  rw [hg,← this]
  congr 2;omega
 obtain ⟨g,cap,w',hr,ho,hg,hgl,Yv⟩:=run_append_lies (P:=P) (w:=w) t ty base T i z n m ht hi hzz hs hby hz h0 v l.length (l.flatMap enc) BS ⟨b,o,none⟩ l'.length c (l'.flatMap enc) hfl hcells
  (by intro u hu;obtain ⟨x,hx,hux⟩:=List.mem_flatMap.1 hu;exact h1 x hx u hux) hl' (by simp only [maxLen];omega) hm GE _ rfl
 rw [Yi hr]
 refine hk g cap w' ?_ hg hgl Yv
 unfold Yk
 rw [List.flatMap_append,List.length_append];exact ho
end
theorem Yk.grown {α:Type} {w w':Wd} {lo n:Nat} {T:TypeId} {enc:α→List Vl} {v:Vl} {l:List α} {row:Option Nat} (h:Yk w lo T n enc v l) (hg:w.grownBy w' row) (Xv:∀ b,v.ownBlock=some b→row≠some b):Yk w' lo T n enc v l:=by
 obtain ⟨h1,h2⟩:=h
 refine ⟨h1,?_⟩
 rcases h2 with h2 | ⟨g,cap,cur,hv,hb,hc,h3⟩
 · exact .inl h2
 · refine .inr ⟨g,cap,cur,hv,hb,?_,h3⟩
   rw [hg.block g (Array.getElem?_eq_some_iff.1 hc).1 (λ e=>Xv g (by rw [hv];rfl) e.symm)]
   exact hc
end Go.Sw
namespace Go.Proofs.YtfjjgjjlebllmaaGreat
open Sw
def Zam (f g h c d:Vl) (a:WPr) (Ug:KW) (R:RT) (w:Wd):Prop:=
 Zr (λ (b:Vl) (w:Wd)=>
 Zw c (.bool true) b λ i=>
 B0 .add 3 true d (.int .i64 1) R w λ j w=>
 Ug i j w) λ e=>
 Zn c false (
 M0 82 f d a λ k=>
 I0 9 k a λ l=>
 M0 82 g h a λ m=>
 I0 9 m a λ n=>
 qV Pg a (ZI .eql 9 false l n) λ b=>
 e b w) (
 e undef w)
def Zan (a b c:Vl) (d:KV) (R:RT) (w:Wd):Prop:=
 X0 82 b c R w λ e w=>
 L0 9 e R w λ f w=>
 opV Pg (buildSlice 82 1 #[(0,f)]) (Zh R) w λ g w=>
 opV Pg (Builtin.append_ #[82,82] 82 #[a,g]) (Zh R) w λ h w=>
 d h w
def Zao (a d b e:Vl) (Vx:KW) (R:RT) (w:Wd):Prop:=
 N0 e R w λ f w=>
 Zr (λ (a:Vl) (w:Wd)=>
 B0 .add 3 true b (.int .i64 1) R w λ g w=>
 Vx a g w) λ c=>
 Zq f (
 Zan a d b c R w) (
 c a w)
def Zap (a b c d e:Vl) (Vx:KW) (Ug:KW) (R:RT) (w:Wd):Prop:=
 G0 82 3 a R w λ f w=>
 B0 .lss 3 false e f R w λ g w=>
 Zq g (
 Yy w λ h w=>
 Zam a b c d e h Ug R w) (
 Zao a b c d Vx R w)
def P7 (a d b c:Vl) (Zo:KW) (Vx:KW) (R:RT) (w:Wd):Prop:=
 G0 82 3 b R w λ e w=>
 B0 .lss 3 false c e R w λ f w=>
 Zq f (
 Qi (λ g h w Ug=>
 Zap a b c g h Vx Ug R w) (.bool false) (.int .i64 0) w) (
 B0 .add 3 true d (.int .i64 1) R w λ i w=>
 Zo a i w)
def Zaq (b c a:Vl) (Xs:KW) (R:RT) (w:Wd):Prop:=
 F0 48 b 11 R w λ d w=>
 L0 46 d R w λ e w=>
 X0 46 e a R w λ f w=>
 F0 60 f 2 R w λ g w=>
 L0 9 g R w λ h w=>
 opV Pg (buildSlice 82 1 #[(0,h)]) (Zh R) w λ i w=>
 opV Pg (Builtin.append_ #[82,82] 82 #[c,i]) (Zh R) w λ j w=>
 B0 .add 3 true a (.int .i64 1) R w λ k w=>
 Xs j k w
def Lx (a c d b e f g:Vl) (Zo:KW) (Xs:KW) (R:RT) (w:Wd):Prop:=
 Zw f g (.bool false) λ h=>
 Zq h (
 Zaq d b e Xs R w) (
 Qi (λ a i w Vx=>
 P7 a c b i Zo Vx R w) a (.int .i64 0) w)
def Fq (f g a h c:Vl) (Zo:KW) (Xs:KW) (R:RT) (w:Wd):Prop:=
 F0 48 a 1 R w λ i w=>
 L0 42 i R w λ j w=>
 B0 .eql 42 true j (.int .i64 9) R w λ d w=>
 Zr (λ (b:Vl) (w:Wd)=>
 Lx f g a h c d b Zo Xs R w) λ e=>
 Zn d true (
 F0 48 a 11 R w λ k w=>
 L0 46 k R w λ l w=>
 G0 46 3 l R w λ m w=>
 B0 .lss 3 false c m R w λ b w=>
 e b w) (
 e undef w)
def P8 (a:Vl) (b:KV) (R:RT) (w:Wd):Prop:=
 F0 48 a 8 R w λ c w=>
 L0 9 c R w λ d w=>
 opV Pg (buildSlice 82 1 #[(0,d)]) (Zh R) w λ e w=>
 opV Pg (Builtin.append_ #[82,82] 82 #[(Value.slice none 0 0),e]) (Zh R) w λ f w=>
 b f w
def AQ (d e b f g:Vl) (Zo:KW) (R:RT) (w:Wd):Prop:=
 Zw f (.bool true) g λ h=>
 Zr (λ (a:Vl) (w:Wd)=>
 Qi (λ a i w Xs=>
 Fq d e b a i Zo Xs R w) a (.int .i64 0) w) λ c=>
 Zq h (
 P8 b c R w) (
 c (Value.slice none 0 0) w)
def AR (e f b g h:Vl) (Zo:KW) (R:RT) (w:Wd):Prop:=
 Zw g (.bool true) h λ c=>
 Zr (λ (a:Vl) (w:Wd)=>
 AQ e f b c a Zo R w) λ d=>
 Zn c false (
 F0 48 b 1 R w λ i w=>
 L0 42 i R w λ j w=>
 B0 .eql 42 true j (.int .i64 12) R w λ a w=>
 d a w) (
 d undef w)
def P5 (f g c:Vl) (Zo:KW) (R:RT) (w:Wd):Prop:=
 F0 24 f 1 R w λ h w=>
 L0 22 h R w λ i w=>
 X0 22 i c R w λ j w=>
 L0 48 j R w λ k w=>
 opV Pg (Instr.alloc 48 true (.tuple #[])) (Zh R) w λ a w=>
 S0 48 a k R w λ w=>
 F0 48 a 1 R w λ l w=>
 L0 42 l R w λ m w=>
 B0 .eql 42 true m (.int .i64 7) R w λ d w=>
 Zr (λ (b:Vl) (w:Wd)=>
 AR g c a d b Zo R w) λ e=>
 Zn d false (
 F0 48 a 1 R w λ n w=>
 L0 42 n R w λ o w=>
 B0 .eql 42 true o (.int .i64 8) R w λ b w=>
 e b w) (
 e undef w)
def P6 (a b c:Vl) (Zo:KW) (R:RT) (w:Wd):Prop:=
 F0 24 a 1 R w λ d w=>
 L0 22 d R w λ e w=>
 G0 22 3 e R w λ f w=>
 B0 .lss 3 false c f R w λ g w=>
 Zq g (
 P5 a b c Zo R w) (
 R (.returned b) w)
def n27 (a:Vl) (R:RT) (w:Wd):Prop:=
 opV Pg (Instr.box 24 a) (Zh R) w λ b w=>
 Qi (λ c d w Zo=>
 P6 b c d Zo R w) (Value.slice none 0 0) (.int .i64 0) w
set_option maxHeartbeats 40000000 in
theorem Zh9 {t0:Vl} {R:RT} {w:Wd} (h:n27 t0 R w):Calls Pg 54 #[t0] w R:=by
 refine yD func54 ?_
 refine zs<|zr<|yv h λ _ w h=>zm<|zn<|zk<|zs<|zr<|zm<|zn<|zk<|zs<|zs<|zr<|zm ?_
 refine zn<|zk<|Zj<|yl2 [3,4,5,6,7,8,9,10,11,12,13,14,15,16,17,18,19,20,21,22,23,24,25,26,27,28,29,30,31,32,33,34,35,36,37,38,39,40,41,42,43,44,45,46,47,48,49,50,51,52,53,54,55,56,57,58,59,60,61,62,63,64,65,66,67,68,69,70,71,72,73,74,75,76,77,78,79,80,81,82,83,84,85,86,87,88,89,90,91,92,93,94] 3 4 h λ σ w next h=>zs<|zs<|zr<|zm<|yv h λ _ w h=>yv h λ _ w h=>yx h λ _ w h=>yb h λ _ w h=>zn<|zk<|yC h (λ h=>?_) λ h=>?_
 · refine Zi<|zk<|zs<|Zj<|zs<|zr<|yv h λ _ w h=>yv h λ _ w h=>zm<|yv h λ _ w h=>yv h λ _ w h=>yv h λ _ w h=>yu h λ w h=>zn<|zk ?_
   refine zs<|zr<|zm<|zn<|zk<|zs<|zs<|Zu<|yG 4<|yv h λ _ w h=>yv h λ _ w h=>yb h λ _ w h=>zm<|zn<|yg1 3 3 false [27,28,29] 29 h (λ _ T hT h=>?_) λ σ w h=>?_
   · refine yv h λ _ w h=>yv h λ _ w h=>yb h λ _ w h=>zn ?_
     exact zt hT h
   refine yG 2<|yp h λ _ h=>zm<|zn<|yg1 3 8 false [32,33,34] 34 h (λ _ T hT h=>?_) λ σ w h=>?_
   · refine yv h λ _ w h=>yv h λ _ w h=>yb h λ _ w h=>zn ?_
     exact zt hT h
   refine yG 1<|yp h λ _ h=>zn<|ZQ<|zk<|yJ1 [6,36,37,38,39,40] 6 h (λ _ _ hkK4 h=>?_) λ σ w h=>?_
   · refine yC h (λ h=>?_) λ h=>?_
     · refine zr<|zm<|yv h λ _ w h=>yv h λ _ w h=>yS h λ _ w h=>yx h λ _ w h=>zm<|zn<|zk ?_
       exact zt hkK4 h
     refine Zi<|zk ?_
     exact zt hkK4 h
   refine zk<|zs<|zs<|zr<|zm<|zn<|zk<|Zj<|yl2 [6,7,41,42,43,44,45,46,47,48,49,50,51,52,53,54,55,56,57,58,59,60,61] 6 7 h λ σ w next h=>zs<|zs<|Zu<|yG 4<|yv h λ _ w h=>yv h λ _ w h=>?_
   refine yb h λ _ w h=>zm<|zn<|yg1 5 3 true [45,46,47,48,49] 49 h (λ _ T hT h=>?_) λ σ w h=>?_
   · refine zm<|yv h λ _ w h=>yv h λ _ w h=>yx h λ _ w h=>yb h λ _ w h=>zn ?_
     exact zt hT h
   refine yG 1<|yp h λ _ h=>zn<|ZQ<|zk<|yC h (λ h=>?_) λ h=>?_
   · refine Zi<|zk<|zs<|Zj<|zr<|zm<|yv h λ _ w h=>yv h λ _ w h=>zm<|yv h λ _ w h=>yv h λ _ w h=>yv h λ _ w h=>yS h λ _ w h=>yx h λ _ w h=>zm ?_
     exact zn<|Zg<|zk<|zr<|zm<|yb h λ _ w h=>zm<|zn<|zk<|⟨rfl,h⟩
   refine ZA<|Zc<|Zc<|Zp<|zk<|zs<|zr<|zm<|zn<|zk<|Zj<|yl2 [3,8,9,10,62,63,64,65,66,67,68,69,70,71,72,73,74,75,76,77,78,79,80,81,82,83,84,85,86,87,88,89,90,91,92,93,94] 3 8 h λ σ w next h=>zs<|zs<|zr ?_
   refine zm<|zm<|yx h λ _ w h=>yb h λ _ w h=>zn<|zk<|yC h (λ h=>?_) λ h=>?_
   · refine Zi<|zk<|zs<|Zj<|zs<|zr<|zm<|zn<|zk<|zs<|zs<|zr<|zm<|zn<|zk ?_
     refine Zj<|yl2 [9,10,68,69,70,71,72,73,74,75,76,77,78,79,80,81,82,83,84,85] 9 10 h λ σ w next h=>zs<|zs<|zr<|zm<|zm<|yx h λ _ w h=>yb h λ _ w h=>zn<|zk<|yC h (λ h=>?_) λ h=>?_
     · refine Zi<|zk<|zs<|Zj<|yh [9,74,75,76,77,78,79,80,81,82,83,84,85] h λ C hC h=>yw 0 hC ?_
       refine yw 1 hC ?_
       refine yj1 2 [10,9,8,7,6,5,4,3,2,1,0] [76,77,78,79,80,81,82,83,84] 84 h (λ _ hT hb h=>?_) (λ _ hT hb h=>?_) λ σ w hC h=>?_
       · refine yw 2 hC ?_
         refine yw 3 hC ?_
         refine ye 4 hC h λ _ h=>?_
         refine ye 5 hC h λ _ h=>?_
         refine yw 6 hC ?_
         refine yw 7 hC ?_
         refine ye 8 hC h λ _ h=>?_
         refine ye 9 hC h λ _ h=>?_
         refine ye 10 hC h λ _ h=>?_
         exact yt hT hC h
       · refine yi 2 hC ?_
         refine yi 3 hC ?_
         refine yi 4 hC ?_
         refine yi 5 hC ?_
         refine yi 6 hC ?_
         refine yi 7 hC ?_
         refine yi 8 hC ?_
         refine yi 9 hC ?_
         refine yi 10 hC ?_
         exact yt hT hC h
       refine yP 11 hC h λ _ h=>?_
       refine yw 12 hC ?_
       exact yz<|Zg<|zk<|zr<|zm<|yb h λ _ w h=>zm<|zn<|zk<|⟨rfl,h⟩
     refine ZA<|Zc<|Zc<|Zp<|zk<|zs<|zr<|zm<|yv h λ _ w h=>zn<|zk<|yJ1 [3,88,89,90,91,92,93,94] 3 h (λ _ _ hkK11 h=>?_) λ σ w h=>?_
     · refine yC h (λ h=>?_) λ h=>?_
       · refine zr<|zm<|zm<|zm<|yv h λ _ w h=>yv h λ _ w h=>yS h λ _ w h=>yx h λ _ w h=>zm<|zn<|zk ?_
         exact zt hkK11 h
       refine Zi<|zk ?_
       exact zt hkK11 h
     exact Zg<|zk<|zr<|zm<|yb h λ _ w h=>zm<|zn<|zk<|⟨rfl,h⟩
   exact ZA<|Zc<|Zc<|Zp<|Zg<|zk<|zr<|zm<|yb h λ _ w h=>zm<|zn<|zk<|⟨rfl,h⟩
 exact ZA<|Zc<|Zc<|Zp<|zk<|zs<|zr<|zm<|zm<|zn<|zk<|Ze<|Zk rfl rfl h
def HR (a b c d e:Vl) (ZT:KV) (R:RT) (w:Wd):Prop:=
 Zw d (.bool true) e λ f=>
 X0 93 a c R w λ g w=>
 S0 4 g f R w λ w=>
 B0 .add 3 true b (.int .i64 1) R w λ h w=>
 ZT h w
def OC (g a h c:Vl) (ZT:KV) (R:RT) (w:Wd):Prop:=
 X0 30 h c R w λ i w=>
 L0 3 i R w λ d w=>
 X0 93 a d R w λ j w=>
 L0 4 j R w λ e w=>
 Zr (λ (b:Vl) (w:Wd)=>
 HR a c d e b ZT R w) λ f=>
 Zn e false (
 X0 93 a g R w λ k w=>
 L0 4 k R w λ b w=>
 f b w) (
 f undef w)
def OD (a c d e b:Vl) (Zo:KV) (ZT:KV) (R:RT) (w:Wd):Prop:=
 B0 .lss 3 false b e R w λ f w=>
 Zq f (
 OC a c d b ZT R w) (
 B0 .sub 3 true a (.int .i64 1) R w λ g w=>
 Zo g w)
def OE (c a d:Vl) (Zo:KV) (R:RT) (w:Wd):Prop:=
 L0 28 c R w λ e w=>
 C0 56 #[e,a] R w λ b w=>
 G0 30 3 b R w λ f w=>
 YS (λ g w ZT=>
 OD a d b f g Zo ZT R w) (.int .i64 0) w
def OF (e a b:Vl) (R:RT) (w:Wd):Prop:=
 E0 b 0 R w λ c w=>
 E0 b 1 R w λ h w=>
 X0 93 a c R w λ f w=>
 opU Pg (storeAt 4 f (.bool true)) (Zh R) w λ w=>
 YS (λ d w Zo=>
 B0 .geq 3 true d (.int .i64 0) R w λ g w=>
 Zq g (
 OE e d a Zo R w) (
 R (.returned (.tuple #[a,(.int .i64 0)])) w)) c w
def OG (a:Vl) (R:RT) (w:Wd):Prop:=
 F0 28 a 1 R w λ c w=>
 L0 26 c R w λ d w=>
 G0 26 3 d R w λ b w=>
 opV Pg (Instr.makeSlice 93 b b) (Zh R) w λ e w=>
 L0 28 a R w λ f w=>
 F0 28 a 2 R w λ g w=>
 L0 9 g R w λ h w=>
 C0 31 #[f,h] R w λ i w=>
 OF a e i R w
def Zdu (b:Vl) (R:RT) (w:Wd):Prop:=
 opV Pg (Instr.box 28 b) (Zh R) w λ a w=>
 L0 28 a R w λ c w=>
 C0 29 #[c] R w λ d w=>
 N0 d R w λ e w=>
 Zq e (
 R (.returned (.tuple #[(Value.slice none 0 0),(.int .i64 2)])) w) (
 OG a R w)
theorem Zdv {t0:Vl} {R:RT} {w:Wd} (h:Zdu t0 R w):Calls Pg 55 #[t0] w R:=by
 refine yD func55 ?_
 refine zs<|zr<|yv h λ _ w h=>zm<|zm<|zn<|zk<|zs<|zs<|zr<|yv h λ _ w h=>yc h c29 λ _ w h=>yv h λ _ w h=>zn<|zk ?_
 refine yC h (λ h=>zs<|zr<|zm<|zm<|zn<|zk<|Ze<|Zb<|Qe rfl rfl rfl h) λ h=>Zi<|zk<|zs<|zr<|yv h λ _ w h=>yv h λ _ w h=>yx h λ _ w h=>yv h λ _ w h=>zm<|zn<|zk<|zs<|zr ?_
 refine yv h λ _ w h=>yv h λ _ w h=>yv h λ _ w h=>yc h c31 λ _ w h=>zm<|yv h λ _ w h=>yv h λ _ w h=>zm<|zm<|zn<|zk<|zs<|zr<|zm<|zm ?_
 refine yv h λ _ w h=>yu h λ w h=>zn<|zk<|zs<|zs<|zr<|zm<|zm<|zn<|zk<|Zj<|yl1 [7,9,28,29,30,31,32,33,34,35,36,37,38,39,40,41,42,43,44,45,46,47,48,49,50,51,52,53] 7 h λ σ w next h=>zs<|zs ?_
 refine zr<|zm<|yb h λ _ w h=>zn<|zk<|yC h (λ h=>?_) λ h=>?_
 · refine Zi<|zk<|zs<|Zj<|zs<|zr<|yv h λ _ w h=>zm<|yc h c56 λ _ w h=>yx h λ _ w h=>zm<|zn<|zk<|Zj<|yl1 [9,36,37,38,39,40,41,42,43,44,45,46,47,48,49,50,51,52,53] 36 h λ σ w next h=>?_
   refine zs<|zr<|yb h λ _ w h=>zn<|zk<|zs<|yC h (λ h=>?_) λ h=>?_
   · refine Zi<|zk<|zs<|Zj<|zs<|zr<|yv h λ _ w h=>yv h λ _ w h=>zm<|zn<|zk<|Zu<|yG 7<|zm<|zm ?_
     refine zm<|zm<|yv h λ _ w h=>yv h λ _ w h=>zm<|zn<|yg1 4 6 false [47,48,49,50] 50 h (λ _ T hT h=>?_) λ σ w h=>?_
     · refine zm<|zm<|yv h λ _ w h=>yv h λ _ w h=>zn ?_
       exact zt hT h
     exact yG 3<|yp h λ _ h=>yv h λ _ w h=>yu h λ w h=>zn<|ZQ<|Zg<|zk<|zr<|yb h λ _ w h=>zm<|zn<|zk<|⟨rfl,h⟩
   exact ZA<|Zc<|Zc<|Zp<|Zg<|zk<|zr<|zm<|yb h λ _ w h=>zm<|zn<|zk<|⟨rfl,h⟩
 exact ZA<|Zc<|Zc<|Zp<|zk<|zs<|zr<|zm<|zm<|zm<|zn<|zk<|Ze<|Qe rfl rfl rfl h
def OH (b c:Vl) (d:WPr) (a:PEn) (R:RT) (w:Wd):Prop:=
 opV Pg (Instr.extract c 0) a w λ e w=>
 opV Pg (Instr.extract c 1) a w λ i w=>
 opV Pg (loadAt 30 b) a w λ f w=>
 opV Pg (buildSlice 30 1 #[(0,e)]) a w λ g w=>
 opV Pg (Builtin.append_ #[30,30] 30 #[f,g]) a w λ h w=>
 opU Pg (storeAt 30 b h) a w λ w=>
 d w
def OI (a:Vl) (ds:LDf) (R:RT) (w:Wd):Prop:=
 opV Pg (loadAt 30 a) (ZP Pg ds [(none,(Value.slice none 0 0))] R) w λ b w=>
 Yt Pg 83 #[b] (ZP Pg ds [(none,(Value.slice none 0 0))] R) w λ d w=>
 opV Pg (loadAt 30 a) (ZP Pg ds [(none,(Value.slice none 0 0))] R) w λ c w=>
 Us Pg ds [(none,c)] R w
def OJ (c b d:Vl) (ds:LDf) (R:RT) (w:Wd):Prop:=
 Bo Pg d ds (λ l1 e w f i a=>
 zW l1 w λ w=>
 opV Pg (loadAt 28 c) a w λ g w=>
 Yt Pg 31 #[g,e] a w λ h w=>
 OH b h f a R w) (λ ch ds w=>ZP Pg ds [(none,(Value.slice none 0 0))] R ch w) w (λ ds w=>
 OI b ds R w) []
def ZbZ (b c:Vl) (R:RT) (w:Wd):Prop:=
 (λ (ds:LDf)=>
 opV Pg (Instr.box 28 b) (ZP Pg ds [(none,undef)] R) w λ a w=>
 opV Pg (Instr.alloc 30 true (.tuple #[])) (ZP Pg ds [(none,(Value.slice none 0 0))] R) w λ d w=>
 opV Pg (fieldAt 28 a 1) (ZP Pg ds [(none,(Value.slice none 0 0))] R) w λ e w=>
 opV Pg (loadAt 26 e) (ZP Pg ds [(none,(Value.slice none 0 0))] R) w λ f w=>
 opV Pg (indexAt 26 f c) (ZP Pg ds [(none,(Value.slice none 0 0))] R) w λ g w=>
 opV Pg (loadAt 24 g) (ZP Pg ds [(none,(Value.slice none 0 0))] R) w λ h w=>
 Yt Pg 32 #[h] (ZP Pg ds [(none,(Value.slice none 0 0))] R) w λ i w=>
 OJ a d i ds R w) []
theorem Zdw {t0 t1:Vl} {R:RT} {w:Wd} (h:ZbZ t0 t1 R w):Calls Pg 56 #[t0,t1] w R:=by
 refine yE func56 ?_
 unfold ZbZ at h
 dsimp only at h
 refine zs<|zr<|yv h λ _ w h=>zm<|zn<|zk<|zs<|zr<|yv h λ _ w h=>zn<|zk<|zs<|zs<|zr<|yv h λ _ w h=>?_
 refine yv h λ _ w h=>zm<|yv h λ _ w h=>yv h λ _ w h=>yc h c32 λ _ w h=>zn<|zk<|Zj<|Gw [] h rfl (λ l1 t15 w Kr1 Xr1 Qr1 h=>?_) (λ ds w h=>?_) (λ c ds w h=>?_) (λ ch ds w h=>Ql rfl h)
 · refine zr<|zm<|zn<|zk ?_
   obtain ⟨hr,h⟩:=h
   refine ⟨rfl,hr,λ w hb=>?_⟩
   have h:=h w hb
   refine Zj<|zs<|zr<|yv h λ _ w h=>zm<|yc h c31 λ _ w h=>zm<|yv h λ _ w h=>yv h λ _ w h=>zm<|zm<|zn<|zk<|zr<|yv h λ _ w h=>?_
   exact zm<|yS h λ _ w h=>yx h λ _ w h=>yu h λ w h=>zn<|Zg<|⟨rfl,h⟩
 · refine Zg<|zk<|zs<|zr<|yv h λ _ w h=>yc h c83 λ _ w h=>zn<|zk<|zs<|zr<|yv h λ _ w h=>zm<|zn<|zk<|Ze ?_
   exact Y9 rfl h
 exact h.elim
open Go.RowKit (intOf Below)
def Kl (o:List BAr) (s:BAr):List BAr:=if o.any (λ y=>decide (y=s)) then o else o++[s]
theorem j9:∀ (l seen:List BAr) (s:BAr),YF seen (l++[s])=YF seen l++(if (seen++l).any (λ y=>decide (s=y)) then [] else [s])
 | [],seen,s=>by
  simp only [List.nil_append,YF,List.append_nil]
 | a::l,seen,s=>by
  simp only [List.cons_append,YF]
  rw [j9 l (seen++[a]) s]
  have:(seen++[a]++l)=seen++a::l:=by simp
  rw [this]
  split<;>simp
theorem Kr:∀ (l seen:List BAr) (s:BAr),s∈YF seen l↔s∈l∧s ∉ seen
 | [],seen,s=>by simp [YF]
 | a::l,seen,s=>by
  simp only [YF]
  by_cases h:(seen.any λ y=>decide (a=y))=true
  · rw [if_pos h,Kr l]
    have ha:a∈seen:=by obtain ⟨y,h1,h2⟩:=List.any_eq_true.1 h;simp at h2;subst h2;exact h1
    simp only [List.mem_append,List.mem_singleton,List.mem_cons,not_or]
    constructor
    · rintro ⟨h1,h2,h3⟩;exact ⟨.inr h1,h2⟩
    · rintro ⟨h1 | h1,h2⟩
      · subst h1;exact absurd ha h2
      · exact ⟨h1,h2,⟨λ (e:s=a)=>h2 (e ▸ ha),by simp⟩⟩
  · rw [if_neg h]
    have ha:a ∉ seen:=λ h2=>h (List.any_eq_true.2 ⟨a,h2,by simp⟩)
    simp only [List.mem_cons,Kr l,List.mem_append,List.mem_singleton,not_or]
    by_cases e:s=a
    · subst e;simp [ha]
    · simp [e]
theorem G1 (l:List BAr):YF [] l=l.foldl Kl []:=by
 refine jq (motive:=λ l=>YF [] l=l.foldl Kl []) rfl (λ l a ih=>?_) l
 rw [j9,List.foldl_append,← ih,List.nil_append]
 show _=Kl (YF [] l) a
 unfold Kl
 have:((YF [] l).any λ y=>decide (y=a))=(l.any λ y=>decide (a=y)):=by
  rw [Bool.eq_iff_iff,List.any_eq_true,List.any_eq_true]
  constructor
  · rintro ⟨y,h1,h2⟩;simp at h2;subst h2;exact ⟨y,((Kr l [] y).1 h1).1,by simp⟩
  · rintro ⟨y,h1,h2⟩;simp at h2;subst h2;exact ⟨a,(Kr l [] a).2 ⟨h1,by simp⟩,by simp⟩
 rw [this]
 split<;>simp
theorem NQ (o:List BAr) (s:BAr):o.length≤(Kl o s).length∧(Kl o s).length≤o.length+1:=by unfold Kl;split<;>simp
theorem UP:∀ (l o:List BAr),(l.foldl Kl o).length≤o.length+l.length
 | [],o=>by simp
 | s::l,o=>by
  have h1:=UP l (Kl o s)
  have h2:=(NQ o s).2
  simp only [List.foldl_cons,List.length_cons];omega
abbrev Uz (w:Wd) (base:Nat) (v:Vl) (l:List BAr):Prop:=Yk w base 9 1 Jc v l
theorem Jy {w:Wd} {QP:PEn} {k:KV} {base:Nat} {v:Vl} {l:List BAr} (s:BAr) {p:Nat} (BS:Uz w base v l) (hp:w.heap[p]?=some (.cells #[.string s] 9 (0,0))) (GE:base≤w.heap.size) (hl:l.length≤1048576)
 (hk:∀ v' w',Uz w' base v' (l++[s])→w.grownBy w' v.ownBlock→(∀ b,v'.ownBlock=some b→v.ownBlock=some b∨b=w.heap.size)→k v' w') :
 opV Pg (Builtin.append_ #[82,82] 82 #[v,.slice (some ⟨p,0,none⟩) 1 1]) QP w k:=by
 have hby:=by9
 refine Ir (l':=[s]) underlying82 ty9 rfl (by decide) (λ _=>rfl) (λ x _ u hu=>by simp at hu;subst hu;rfl) BS (λ j x hx=>?_) GE (Nat.zero_lt_one) ?_ (by simp;omega) ?_
 · cases j with
   | zero=>
    simp at hx;subst hx
    intro j v hv
    rw [(Za hp).1]
    simpa using hv
   | succ j=>simp at hx
 · simp only [List.length_cons,List.length_nil]
   exact Nat.le_trans (Nat.mul_le_mul (Nat.add_le_add_right hl 1) hby) (by decide)
 · intro g cap w' h1 h2 h3 h4
   refine hk _ w' h1 h2 (λ b hb=>?_)
   simp only [Value.ownBlock,Option.some.injEq] at hb
   subst hb
   exact h3
def jM (v u:Vl):Prop:=∀ b,v.ownBlock=some b→u.ownBlock≠some b
theorem Uz.lt {w:Wd} {base:Nat} {v:Vl} {l:List BAr} (h:Uz w base v l):∀ b,v.ownBlock=some b→b < w.heap.size:=λ b hb=>(World.ownsRow.lt h b hb).2
theorem jM.after {v u v':Vl} {n:Nat} (h:jM v u) (hu:∀ b,u.ownBlock=some b→b < n) (hv:∀ b,v'.ownBlock=some b→v.ownBlock=some b∨b=n):jM v' u:=λ b hb e=>by
 rcases hv b hb with h1 | h1
 · exact h b h1 e
 · have:=hu b e;omega
def WN (m:ZC):List BAr:=YF [] (Z9 m.fields)
section
variable {W:Wd} {R:RT}
theorem Me {w:Wd} (e:Ext W w) (sv t6 t4:Vl) (out L:List BAr) (hO:Uz w W.heap.size sv out) (hL:Uz w W.heap.size t6 L) (hA:jM sv t6) (Xl:out.length+L.length≤1048576) (Zo:KW)
 (i:Nat) (hi:i < 9223372036854775807) (h4:t4 = .int .i64 (i:Int)) (hn:∀ sv' w',Ext W w'→Uz w' W.heap.size sv' (L.foldl Kl out)→Zo sv' (.int .i64 ((i+1:Nat):Int)) w') :
 Qi (λ t3 t8 w Vx=>P7 t3 t4 t6 t8 Zo Vx R w) sv (.int .i64 0) w:=by
 refine Yn (λ a b w'=>∃ (k:Nat) (sv':Vl),a=sv'∧b = .int .i64 k∧k≤L.length∧Ext W w'∧Uz w' W.heap.size sv' ((L.take k).foldl Kl out)∧Uz w' W.heap.size t6 L∧jM sv' t6) (λ _ b _=>L.length - (intOf b).toNat) ⟨0,sv,rfl,rfl,by omega,e,hO,hL,hA⟩ ?_
 rintro _ _ w1 ⟨k,sv',rfl,rfl,hk,e1,hO1,hL1,hA1⟩
 have hsl:=hL1.slice (E:=zM) (λ _=>rfl) (λ _ _=>rfl)
 obtain ⟨A,c,h6,hlc,hcm,hlm,Y3⟩:=Zd.open hsl
 unfold P7
 rcases ZD hk with ⟨x,hx,hd,Yv,ZJ⟩ | ⟨hk,hd,ZJ⟩
 · have QZ:(L.take (k+1)).foldl Kl out=Kl ((L.take k).foldl Kl out) x:=by rw [Z4 hx,List.foldl_append];rfl
   have hol:((L.take k).foldl Kl out).length≤1048576:=by
    have:=UP (L.take k) out
    have h2:(L.take k).length≤L.length:=by rw [List.length_take];omega
    omega
   generalize ((L.take k).foldl Kl out)=o1 at hO1 QZ hol
   obtain ⟨b6,o6,cs6,hA6,_,hE6,hcs6⟩:=Y3 k x hx
   subst h6 hA6
   subst hcs6
   simp (disch:=try exact DI) only [↓PR,QR,simprocAttr,ZJ]
   refine Yn (λ a b w'=>∃ (j:Nat),a = .bool ((o1.take j).any λ y=>decide (y=x))∧b = .int .i64 j∧j≤o1.length∧Ext w1 w') (λ _ b _=>o1.length - (intOf b).toNat) ⟨0,by simp,rfl,by omega,Ext.refl _⟩ ?_
   rintro _ _ w2 ⟨j,rfl,rfl,hj,e2⟩
   have hso:=hO1.slice (E:=zM) (λ _=>rfl) (λ _ _=>rfl)
   obtain ⟨A3,c3,h3,hlc3,hcm3,hlm3,hel3⟩:=Zd.open hso
   unfold Zap
   rcases ZD hj with ⟨y,hy,hdj,hltj,Oj⟩ | ⟨hj,hdj,Oj⟩
   · obtain ⟨b3,o3,cs3,hA3,_,hE3,hcs3⟩:=hel3 j y hy
     subst h3 hA3
     subst hcs3
     have hany:((o1.take (j+1)).any λ y=>decide (y=x))=(((o1.take j).any λ y=>decide (y=x))||decide (y=x)):=by rw [Z4 hy,List.any_append];simp
     simp (disch:=try exact DI) only [↓PR,QR,simprocAttr,Oj]
     refine Zy ?_
     unfold Zam
     generalize hsn:((o1.take j).any λ y=>decide (y=x))=sn at hany
     cases sn with
     | true=>
      simp (disch:=try exact DI) only [↓PR,QR,simprocAttr]
      refine ⟨⟨j+1,?_,rfl,by omega,ee⟩,ZM (kd := .i64) hltj⟩
      rw [hany];rfl
     | false=>
      simp (disch:=try exact DI) only [↓PR,QR,simprocAttr,hE3.c1 e2,hE6.c1 e2]
      refine ⟨⟨j+1,?_,rfl,by omega,ee⟩,ZM (kd := .i64) hltj⟩
      rw [hany];rfl
   · subst hj
     rw [List.take_length]
     have hadd:Kl o1 x=if (o1.any λ y=>decide (y=x))=true then o1 else o1++[x]:=rfl
     rw [hadd] at QZ
     subst h3
     simp (disch:=try exact DI) only [↓PR,QR,simprocAttr,Oj]
     unfold Zao
     generalize (o1.any λ y=>decide (y=x))=sn at QZ
     cases sn with
     | true=>
      rw [if_pos rfl] at QZ
      simp (disch:=try exact DI) only [↓PR,QR,simprocAttr]
      exact ⟨⟨k+1,_,rfl,rfl,by omega,e1.trans e2,by rw [QZ];exact hO1.ext e2,hL1.ext e2,hA1⟩,ZM (kd := .i64) Yv⟩
     | false=>
      rw [if_neg (by simp)] at QZ
      simp (disch:=try exact DI) only [↓PR,QR,simprocAttr,Zan,hE6.c1 e2]
      have ea:Ext w1 (w2.alloc (Obj.cells #[.string x] 9)):=e2.alloc _
      have VF:(w2.alloc (Obj.cells #[.string x] 9)).heap.size=w2.heap.size+1:=by simp only [World.size_alloc]
      have s1:=e1.size
      have s2:=e2.size
      refine Jy x (hO1.ext ea) (ZG w2 _ _) (by omega) hol ?_
      intro v' w' hO' hg hv'
      have ew:Ext W w':=(e1.trans ea).grown hg (λ b hb=>(World.ownsRow.lt hO1 b hb).1)
      simp (disch:=try exact DI) only [↓PR,QR,simprocAttr]
      refine ⟨⟨k+1,v',rfl,rfl,by omega,ew,by rw [QZ];exact hO',(hL1.ext ea).grown hg (λ b hb e=>hA1 b e hb),hA1.after (λ b hb=>?_) hv'⟩,ZM (kd := .i64) Yv⟩
      have:=hL1.lt b hb
      omega
 · subst hk
   rw [List.take_length] at hO1
   subst h6
   rw [h4]
   simp (disch:=try exact DI) only [↓PR,QR,simprocAttr,ZJ]
   exact hn _ w1 e1 hO1
theorem Sg {w:Wd} (e:Ext W w) (x:Zl) (tv cv:Vl) (p5:Nat) (o5:w.heap[p5]?=some (.cells (Zm x tv cv).toArray 48 (0,0))) (hC:Yc W cv x.cases) (sv t6 t4:Vl) (out:List BAr) (hO:Uz w W.heap.size sv out) (Xl:out.length+(Xx x).length≤1048576)
 (h6:(x.kind≠9∧Uz w W.heap.size t6 (Xx x)∧jM sv t6)∨(x.kind=9∧t6 = .slice none 0 0)) (Zo:KW) (i:Nat) (hi:i < 9223372036854775807) (h4:t4 = .int .i64 (i:Int))
 (hn:∀ sv' w',Ext W w'→Uz w' W.heap.size sv' ((Xx x).foldl Kl out)→Zo sv' (.int .i64 ((i+1:Nat):Int)) w') :
 Qi (λ t6 t7 w Xs=>Fq sv t4 (.pointer (some ⟨p5,0,none⟩)) t6 t7 Zo Xs R w) t6 (.int .i64 0) w:=by
 rcases h6 with ⟨hk,hL,hA⟩ | ⟨hk,rfl⟩
 · refine Yn (λ a b w'=>a=t6∧b = .int .i64 0∧w'=w) (λ _ _ _=>0) ⟨rfl,rfl,rfl⟩ ?_
   rintro _ _ _ ⟨rfl,rfl,rfl⟩
   unfold Fq
   have k9:(x.kind == 9)=false:=by simpa using hk
   simp (disch:=try exact DI) only [↓PR,QR,simprocAttr,(Za o5).1,k9,Lx]
   exact Me e sv _ t4 out (Xx x) hO hL hA Xl Zo i hi h4 hn
 · have hr:Xx x=x.cases.map (·.of):=by unfold Xx;rw [if_neg (by omega),if_pos hk]
   have k9:(x.kind == 9)=true:=by simpa using hk
   obtain ⟨A,c,rfl,hlc,hcm,hlm,Y3⟩:=Zd.open hC
   have l5:p5 < w.heap.size:=(Array.getElem?_eq_some_iff.1 o5).1
   rw [hr] at Xl hn
   simp only [List.length_map] at Xl
   refine Yn (λ a b w'=>∃ (k:Nat) (u:Vl),a=u∧b = .int .i64 k∧k≤x.cases.length∧Ext W w'∧w'.heap[p5]?=some (.cells (Zm x tv (.slice A x.cases.length c)).toArray 48 (0,0))∧Uz w' w.heap.size u ((x.cases.take k).map (·.of))∧Uz w' W.heap.size sv out∧w.heap.size≤w'.heap.size) (λ _ b _=>x.cases.length - (intOf b).toNat) ⟨0,_,rfl,rfl,by omega,e,o5,Yk.nil _ _ _ _ _,hO,Nat.le_refl _⟩ ?_
   rintro u _ w1 ⟨k,_,rfl,rfl,hk1,e1,y5,hU,hO1,hs1⟩
   have hAp:jM sv u:=λ b hb e=>by
    have h1:=hO.lt b hb
    have h2:=(World.ownsRow.lt hU b e).1
    omega
   unfold Fq
   rcases ZD hk1 with ⟨y,hy,hd,Yv,ZJ⟩ | ⟨hk1,hd,ZJ⟩
   · obtain ⟨b,o,cs,rfl,hl,hA,rfl⟩:=Y3 k y hy
     simp (disch:=try exact DI) only [↓PR,QR,simprocAttr,(Za y5).1,k9,ZJ,Lx]
     unfold Zaq
     simp (disch:=try exact DI) only [↓PR,QR,simprocAttr,(Za y5).1,hA.c3 e1]
     have ea:Ext w1 (w1.alloc (Obj.cells #[.string y.of] 9)):=ee
     have VF:(w1.alloc (Obj.cells #[.string y.of] 9)).heap.size=w1.heap.size+1:=by simp only [World.size_alloc]
     have sW:=e.size
     refine Jy y.of (hU.ext ea) (ZG w1 _ _) (by omega) (by rw [List.length_map,List.length_take];omega) ?_
     intro v' w' hO' hg hv'
     have ew:Ext W w':=(e1.trans ea).grown hg (λ b hb=>by have:=(World.ownsRow.lt hU b hb).1;omega)
     have hsw:=hg.size
     simp (disch:=try exact DI) only [↓PR,QR,simprocAttr]
     refine ⟨⟨k+1,v',rfl,rfl,by omega,ew,?_,?_,(hO1.ext ea).grown hg (λ b hb e=>hAp b hb e),by omega⟩,ZM (kd := .i64) Yv⟩
     · rw [hg.block p5 (by omega) (λ e=>by have:=(World.ownsRow.lt hU p5 e.symm).1;omega)]
       exact ea.obj y5
     · rw [Z4 hy,List.map_append];exact hO'
   · subst hk1
     rw [List.take_length] at hU
     simp (disch:=try exact DI) only [↓PR,QR,simprocAttr,(Za y5).1,k9,ZJ,Lx]
     exact Me e1 sv _ t4 out (x.cases.map (·.of)) hO1 (Yk.base hU e.size) hAp (by simpa using Xl) Zo i hi h4 hn
theorem J8 (w0:Wd) (v:Vl) (m:ZC) (hm:Qr w0 v m) (hb:(Z9 m.fields).length≤1048576) :
 Ret Pg 54 #[v] w0 λ r w'=>Uz w' w0.heap.size r (WN m)∧Ext w0 w':=by
 obtain ⟨fv,rfl,hF⟩:=hm
 obtain ⟨A,c,rfl,hlc,hcm,hlm,Y3⟩:=Zd.open hF
 refine Zh9 (R:=ZO _) ?_;unfold n27
 simp (disch:=try exact DI) only [↓PR,QR,simprocAttr]
 have Xz:=Z6.new (w:=w0) (Z8 m (.slice A m.fields.length c)) (24)
 have eW:Ext w0 (w0.alloc (Obj.cells (List.toArray (Z8 m (.slice A m.fields.length c))) (24))):=(Ext.refl _).alloc _
 generalize (w0.alloc (Obj.cells (List.toArray (Z8 m (.slice A m.fields.length c))) (24)))=W at Xz eW ⊢
 have hW:w0.heap.size≤W.heap.size:=eW.size
 refine Yn (λ a b w'=>∃ (k:Nat) (sv:Vl),a=sv∧b = .int .i64 k∧k≤m.fields.length∧Ext W w'∧Uz w' W.heap.size sv (YF [] (Z9 (m.fields.take k)))) (λ _ b _=>m.fields.length - (intOf b).toNat) ⟨0,_,rfl,rfl,by omega,Ext.refl _,Yk.nil _ _ _ _ _⟩ ?_
 rintro sv _ w1 ⟨k,_,rfl,rfl,hk,e,hO⟩
 have e':=eW.trans e
 have s1:=e.size
 unfold P6
 rcases ZD hk with ⟨x,hx,hd,Yv,ZJ⟩ | ⟨hk,hd,ZJ⟩
 · obtain ⟨b,o,cs,rfl,hl,hA,hE⟩:=Y3 k x hx
   obtain ⟨tv,cv,rfl,hT,hC,ht1,hc1⟩:=hE.op
   have hpre:Z9 (m.fields.take (k+1))=Z9 (m.fields.take k)++Xx x:=by unfold Z9;rw [Z4 hx,List.flatMap_append];simp
   have hle:(Z9 (m.fields.take k)).length+(Xx x).length≤1048576:=by
    have h1:(Z9 (m.fields.take (k+1))).length≤(Z9 m.fields).length:=by
     conv=>rhs;rw [← List.take_append_drop (k+1) m.fields]
     unfold Z9
     rw [List.flatMap_append,List.length_append];omega
    rw [hpre,List.length_append] at h1;omega
   have hout:(YF [] (Z9 (m.fields.take k))).length≤(Z9 (m.fields.take k)).length:=by
    rw [G1];have:=UP (Z9 (m.fields.take k)) [];simpa using this
   have hle':(YF [] (Z9 (m.fields.take k))).length+(Xx x).length≤1048576:=by omega
   have GF:YF [] (Z9 (m.fields.take (k+1)))=(Xx x).foldl Kl (YF [] (Z9 (m.fields.take k))):=by rw [hpre,G1,G1,List.foldl_append]
   simp (disch:=try exact DI) only [↓PR,QR,simprocAttr,ZJ,Xz.c2]
   unfold P5
   simp (disch:=try exact DI) only [↓PR,QR,simprocAttr,Xz.c2,hA.c15 e']
   have ea:Ext w1 (w1.alloc (Obj.cells (Zm x tv cv).toArray 48)):=ee
   have o5:=ZG w1 (Zm x tv cv).toArray 48
   have hO2:=hO.ext ea
   have ew:=e.trans ea
   have hbn:∀ sv' w',Ext W w'→Uz w' W.heap.size sv' ((Xx x).foldl Kl (YF [] (Z9 (m.fields.take k))))→(∃ (k':Nat) (sv:Vl),sv'=sv∧(Value.int .i64 ((k+1:Nat):Int)) = .int .i64 k'∧k'≤m.fields.length∧Ext W w'∧Uz w' W.heap.size sv (YF [] (Z9 (m.fields.take k'))))∧m.fields.length - (intOf (Value.int .i64 ((k+1:Nat):Int))).toNat < m.fields.length - (intOf (Value.int .i64 (k:Int))).toNat:=
    λ sv' w' ew h=>⟨⟨k+1,sv',rfl,rfl,by omega,ew,by rw [GF];exact h⟩,ZM (kd := .i64) Yv⟩
   have hCW:=Yc.ext hC eW
   have lo:∀ b,sv.ownBlock=some b→b < w1.heap.size:=λ b hb=>hO.lt b hb
   generalize hw2:(w1.alloc (Obj.cells (Zm x tv cv).toArray 48))=w2 at ea o5 hO2 ew
   have hs2:w2.heap.size=w1.heap.size+1:=by rw [← hw2];simp only [World.size_alloc]
   by_cases hr:x.kind=7∨x.kind=8∨x.kind=12
   · have hrf:Xx x=[x.of]:=by unfold Xx;rw [if_pos hr]
     have tail:Zr (λ (t6:Vl) (w:Wd)=>Qi (λ t6 t7 w Xs=>Fq sv (.int .i64 (k:Int)) (.pointer (some ⟨w1.heap.size,0,none⟩)) t6 t7 (λ a0' a1' w'=>(∃ (k':Nat) (sv:Vl),a0'=sv∧a1' = .int .i64 k'∧k'≤m.fields.length∧Ext W w'∧Uz w' W.heap.size sv (YF [] (Z9 (m.fields.take k'))))∧m.fields.length - (intOf a1').toNat < m.fields.length - (intOf (Value.int .i64 (k:Int))).toNat) Xs (ZO λ r w'=>Uz w' w0.heap.size r (WN m)∧Ext w0 w') w) t6 (.int .i64 0) w) λ K4=>P8 (.pointer (some ⟨w1.heap.size,0,none⟩)) K4 (ZO λ r w'=>Uz w' w0.heap.size r (WN m)∧Ext w0 w') w2:=by
      rw [joinK_eq]
      unfold P8
      simp (disch:=try exact DI) only [↓PR,QR,simprocAttr,(Za o5).1]
      have eb:Ext w2 (w2.alloc (Obj.cells #[.string x.of] 9)):=ee
      have hsb:(w2.alloc (Obj.cells #[.string x.of] 9)).heap.size=w2.heap.size+1:=by simp only [World.size_alloc]
      refine Jy x.of (Yk.nil _ W.heap.size _ _ _) (ZG w2 _ _) (by omega) (by decide) ?_
      intro v' w' hO' hg hv'
      have eg:Ext w1 w':=(ea.trans eb).grown hg (λ b hb=>by cases hb)
      refine Sg (e.trans eg) x tv cv w1.heap.size ?_ hCW sv v' _ _ (hO.ext eg) hle' (.inl ⟨by omega,by rw [hrf];exact hO',λ b hb e=>?_⟩) _ k (by omega) rfl hbn
      · exact (Ext.grown (Ext.refl _) hg (λ b hb=>by cases hb)).obj (eb.obj o5)
      · rcases hv' b e with h1 | h1
        · cases h1
        · have:=lo b hb;omega
     rw [joinK_eq] at tail
     rcases hr with h7 | h8 | h12
     · have k7:(x.kind == 7)=true:=by simpa using h7
       simp (disch:=try exact DI) only [↓PR,QR,simprocAttr,k7,AR,AQ]
       exact tail
     · have k7:(x.kind == 7)=false:=by simp;omega
       have k8:(x.kind == 8)=true:=by simpa using h8
       simp (disch:=try exact DI) only [↓PR,QR,simprocAttr,k7,k8,AR,AQ,(Za o5).1]
       exact tail
     · have k7:(x.kind == 7)=false:=by simp;omega
       have k8:(x.kind == 8)=false:=by simp;omega
       have k12:(x.kind == 12)=true:=by simpa using h12
       simp (disch:=try exact DI) only [↓PR,QR,simprocAttr,k7,k8,k12,AR,AQ,(Za o5).1]
       exact tail
   · have k7:(x.kind == 7)=false:=by simp;omega
     have k8:(x.kind == 8)=false:=by simp;omega
     have k12:(x.kind == 12)=false:=by simp;omega
     simp (disch:=try exact DI) only [↓PR,QR,simprocAttr,k7,k8,k12,AR,AQ,(Za o5).1]
     refine Sg ew x tv cv w1.heap.size o5 hCW sv _ _ _ hO2 hle' ?_ _ k (by omega) rfl hbn
     by_cases h9:x.kind=9
     · exact .inr ⟨h9,rfl⟩
     · have hrf:Xx x=[]:=by unfold Xx;rw [if_neg hr,if_neg h9]
       exact .inl ⟨h9,by rw [hrf];exact Yk.nil _ _ _ _ _,λ b _ e=>by cases e⟩
 · subst hk
   rw [List.take_length] at hO
   simp (disch:=try exact DI) only [↓PR,QR,simprocAttr,ZJ,Xz.c2]
   exact ⟨Yk.base hO hW,ee⟩
end
theorem Eu {w:Wd} {QP:PEn} {k:KV} {base b:Nat} {v:Vl} {l:List Int} (n:Int) (h:Vj w base v l) (hc:w.cell? ⟨b,0,none⟩=some (.int .i64 n)) (hb:base≤w.heap.size) (hl:l.length≤1048576) (hk:∀ v' w',Vj w' base v' (l++[n])→w.grownBy w' v.ownBlock→k v' w') :
 opV Pg (Builtin.append_ #[30,30] 30 #[v,.slice (some ⟨b,0,none⟩) 1 1]) QP w k:=by
 refine QT (l':=[n]) underlying30 ty3 rfl (by decide) (λ _=>rfl) (λ x hx u hu=>?_) h (λ j x hx=>?_) hb ?_ (by simp;omega) hk
 · simp at hu;subst hu;rfl
 · cases j with
   | zero=>simp at hx;subst hx;intro i u hu;cases i with
    | zero=>injection hu with hu;subst hu;simpa using hc
    | succ i=>cases hu
   | succ j=>cases hx
 · exact Nat.le_trans (Nat.mul_le_mul (show l.length+[n].length≤1048577 by simp;omega) by3) (by decide)
theorem lasts_own {B base:Nat} {v:Vl} {l:List Int}:Yd B (λ w=>Vj w base v l):=⟨λ _ _ h e=>h.ext e,λ w q r r' _ h hq=>by
 refine ⟨h.1,?_⟩
 rcases h.2 with h2 | ⟨g,cap,cur,h1,h2,h3,h4⟩
 · exact .inl h2
 · refine .inr ⟨g,cap,cur,h1,h2,(World.putObj_heap_other (by rintro rfl;rw [h3] at hq;cases hq)).trans h3,h4⟩⟩
theorem Tz {w:Wd} {base q:Nat} {v:Vl} {l:List Int} {o:Obj} (h:Vj w base v l) (hq:w.heap[q]?=some o) (hn:∀ cs T fr,o ≠ .cells cs T fr) (o':Obj):Vj (w.putObj q o') base v l:=by
 refine ⟨h.1,?_⟩
 rcases h.2 with h2 | ⟨g,cap,cur,h1,h2,h3,h4⟩
 · exact .inl h2
 · refine .inr ⟨g,cap,cur,h1,h2,(World.putObj_heap_other (by rintro rfl;rw [h3] at hq;injection hq with hq;exact hn _ _ _ hq.symm)).trans h3,h4⟩
theorem Ax {B p:Nat} {W:Wd} (hB:W.heap.size≤B):Yd B (Vk p (p+1) W):=⟨λ _ _ h e=>h.ext e,λ w q r r' hq h hr=>⟨h.os,h.tape,h.output,by rw [World.putObj_size];exact h.size,λ k hk hb=>(World.putObj_heap_other (by omega)).trans (h.block k hk hb)⟩⟩
theorem qB:∀ (l seen:List BAr),(YF seen l).Nodup
 | [],_=>List.nodup_nil
 | x::l,seen=>by
  have ih:=qB l (seen++[x])
  unfold YF
  split
  · exact ih
  · refine List.nodup_cons.2 ⟨λ h=>?_,ih⟩
    exact ((Kr _ _ _).1 h).2 (by simp)
theorem Gp:∀ (l seen:List BAr),(YF seen l).length≤l.length
 | [],_=>Nat.le_refl _
 | x::l,seen=>by
  have ih:=Gp l (seen++[x])
  unfold YF
  split
  · simp only [List.length_cons];omega
  · simp only [List.length_cons];omega
theorem F1 {l:List ZC} (h:Q2 l) {k:Nat} {m:ZC} (hk:l[k]?=some m):(Uk l k).Nodup:=by
 unfold Uk
 rw [hk]
 refine List.pairwise_map.2 (List.Pairwise.imp_of_mem (R:=(· ≠ ·)) ?_ (qB _ []))
 intro s t hs ht Xv he
 obtain ⟨i,m1,_,h2,h3,h4,_⟩:=UO h hk hs
 obtain ⟨j,m2,_,h6,h7,h8,_⟩:=UO h hk ht
 have hij:i=j:=by omega
 subst hij
 rw [h2] at h6
 injection h6 with h6
 subst h6
 exact Xv (h3.symm.trans h7)
theorem F2 {l:List ZC} (h:Q2 l) {k:Nat} {m:ZC} (hk:l[k]?=some m):(Uk l k).mergeSort (λ x y=>decide (x≤y))=toP l k:=by
 refine F3 (Nt (F1 h hk)) (Sj _ _) λ x=>?_
 rw [MY,toP,jG]
 constructor
 · intro hx
   obtain ⟨a,b⟩:=Sd h hx
   refine ⟨x.toNat,by omega,Cl.1 (by rw [Int.toNat_of_nonneg a];exact hx),by omega⟩
 · rintro ⟨i,_,hi,rfl⟩
   exact Cl.2 hi
theorem IL (w0:Wd) (v:Vl) (d:YQ) (k:Nat) (m:ZC) (hd:YT w0 v d) (hk:d.msgs[k]?=some m) (hf:Q2 d.msgs) (hb:(Z9 m.fields).length≤1048576):Ret Pg 56 #[v,.int .i64 (k:Int)] w0 λ r w'=>Vj w' w0.heap.size r (toP d.msgs k)∧Ext w0 w':=by
 obtain ⟨mv,rfl,hM⟩:=hd
 have hm1:=Zd.oneCell hM
 have hM0:=hM
 obtain ⟨b,o,c,rfl,_,hcm,_,hkl,Y3⟩:=J4 hM hk
 obtain ⟨cs,_,hA,fv,rfl,hF⟩:=Y3 k m hk
 have hsort:=F2 hf hk
 have hrI:Uk d.msgs k=(Qn m).map λ s=>idx (λ x=>decide (x.name=s)) d.msgs:=by unfold Uk;rw [hk]
 have hany:∀ s∈Qn m,(d.msgs.any λ x=>decide (x.name=s))=true:=λ s hs=>by
  obtain ⟨i,m',_,h2,h3,_⟩:=UO hf hk hs
  exact List.any_eq_true.2 ⟨m',List.mem_of_getElem? h2,by simpa using h3⟩
 refine Zdw (R:=ZO _) ?_;unfold ZbZ
 have eW:Ext w0 ((w0.alloc (.cells (Zz d (.slice (some ⟨b,o,none⟩) d.msgs.length c)).toArray 28)).alloc (.cells #[.slice none 0 0] 30)):=ee
 have o5:=ZG (w0.alloc (.cells (Zz d (.slice (some ⟨b,o,none⟩) d.msgs.length c)).toArray 28)) #[.slice none 0 0] 30
 have o2:=((Ext.refl (w0.alloc (.cells (Zz d (.slice (some ⟨b,o,none⟩) d.msgs.length c)).toArray 28))).alloc (.cells #[.slice none 0 0] 30)).obj (ZG w0 (Zz d (.slice (some ⟨b,o,none⟩) d.msgs.length c)).toArray 28)
 rw [World.size_alloc] at o5
 simp (disch:=try exact DI) only [↓PR,QR,simprocAttr,hA.c2 eW]
 simp only [World.size_alloc]
 change Yt _ _ _ _ ((w0.alloc (.cells (Zz d (.slice (some ⟨b,o,none⟩) d.msgs.length c)).toArray 28)).alloc (.cells #[.slice none 0 0] 30)) _
 generalize ((w0.alloc (.cells (Zz d (.slice (some ⟨b,o,none⟩) d.msgs.length c)).toArray 28)).alloc (.cells #[.slice none 0 0] 30))=W at eW o2 o5 ⊢
 generalize hp5:w0.heap.size+1=p5 at o5 ⊢
 refine Zs (jU W _ m ⟨fv,rfl,Yq.ext hF eW⟩ hb) ?_
 rintro _ w1 ⟨pb,sv,rfl,hSt,hpb,e1⟩
 have E1:=eW.trans e1
 have s1:=E1.size
 have x2:=e1.obj o2
 have x5:=e1.obj o5
 have l5:=(Array.getElem?_eq_some_iff.1 x5).1
 have lW5:=(Array.getElem?_eq_some_iff.1 o5).1
 unfold OJ
 refine ⟨_,_,(Qn m).length,Ek (Qn m),λ w=>Q3 w pb sv (Z9 m.fields),λ j w'=>Vk p5 (p5+1) w1 w'∧∃ rv,w'.heap[p5]?=some (.cells #[rv] 30 (0,0))∧Vj w' w1.heap.size rv ((Uk d.msgs k).take j),λ _ _=>False,λ _ _=>False,rfl,c69,jV pb sv _,⟨Vk.refl _ _ _,_,x5,Yk.nil _ _ _ _ _⟩,λ j w' h=>h.1.strs hSt (by omega),λ j=>(Ax (Nat.le_refl _)).and (.ex λ rv=>(Yd.has _ (by simp)).and lasts_own),λ _=>Yd.const _ _,?_,?_,?_,?_⟩
 · intro rec j w4 hj hI4 hrec hready
   refine ⟨hready,λ w5 hbz=>?_⟩
   have hrec5:=hrec.busied hbz
   obtain ⟨sv5,rv,q5,hR5⟩:=Yd.busied (I:=λ w'=>Vk p5 (p5+1) w1 w'∧∃ rv,w'.heap[p5]?=some (.cells #[rv] 30 (0,0))∧Vj w' w1.heap.size rv ((Uk d.msgs k).take j)) ((Ax (Nat.le_refl _)).and (.ex λ rv=>(Yd.has _ (by simp)).and lasts_own)) hbz (Nat.le_succ _) hI4
   clear hI4 hrec hready hbz
   obtain ⟨s,hs⟩:=getElem?_lt hj
   rw [show Ek (Qn m) j = .string s by unfold Ek;rw [hs]]
   have hsm:=List.mem_of_getElem? hs
   have q2:=sv5.obj x2 (by omega)
   have E5:Ext w0 w5:=sv5.to_ext E1 (by omega)
   simp (disch:=try exact DI) only [↓PR,QR,simprocAttr,(Za q2).1]
   refine zcr (Ep _ _ d s ⟨_,rfl,Vi.ext hM0 E5⟩) λ w6 e6=>?_
   rw [hany s hsm,EW (hany s hsm)]
   have hr6:=hR5.ext e6
   have q6:=e6.obj q5
   have hrv:=Zd.oneCell (Vj.ints hr6)
   have hix:(Uk d.msgs k)[j]?=some (idx (λ x=>decide (x.name=s)) d.msgs):=by rw [hrI,List.getElem?_map,hs];rfl
   have Xl:((Uk d.msgs k).take j).length≤(Uk d.msgs k).length:=by rw [List.length_take];omega
   have hrl:(Uk d.msgs k).length≤1048576:=by
    rw [hrI,List.length_map]
    exact Nat.le_trans (Gp _ _) hb
   generalize idx (λ x=>decide (x.name=s)) d.msgs=n at hix
   unfold OH
   simp (disch:=try exact DI) only [↓PR,QR,simprocAttr,(Za q6).1]
   have eY:Ext w6 (w6.alloc (.cells #[.int .i64 n] 3)):=ee
   have oY:=ZG w6 #[.int .i64 n] 3
   have qY:=eY.obj q6
   have hrY:=hrec5.ext (e6.trans eY)
   have hRY:=hr6.ext eY
   have svY:=(sv5.ext e6).ext eY
   generalize (w6.alloc (.cells #[.int .i64 n] 3))=Y at eY oY qY hrY hRY svY ⊢
   have sY:=svY.size
   refine Eu n hRY (by rw [(Za oY).1];rfl) sY (by omega) ?_
   intro v' w7 hO' hg
   have Xv:rv.ownBlock≠some p5:=λ h=>by
    obtain ⟨cur,hcur⟩:=R5 hRY h
    rw [qY] at hcur
    injection hcur with hcur
    injection hcur with _ hT _
    exact absurd hT (by decide)
   have l5Y:=(Array.getElem?_eq_some_iff.1 qY).1
   have q7:=(hg.block p5 l5Y (λ h=>Xv h.symm)).trans qY
   have hv':=Zd.oneCell hO'.ints
   have sv7:Vk p5 (p5+1) w1 w7:=⟨hg.os.trans svY.os,hg.tape.trans svY.tape,hg.output.trans svY.output,Nat.le_trans sY hg.size,λ q hq hb=>(hg.block q (by omega) (λ e=>by have:=(hRY.lt q e.symm).1;omega)).trans (svY.block q hq hb)⟩
   simp (disch:=try exact DI) only [↓PR,QR,simprocAttr,(Za q7).1,(Za q7).2]
   refine ⟨((Am hRY hg).rec hrY).setCell _ _,sv7.setCell (Nat.le_refl _) (Nat.lt_succ_self _) _,v',by simpa using ZE (o:=0) q7 v',?_⟩
   rw [Z4 hix]
   refine (UH.only (lo:=w1.heap.size) (hi:=w7.heap.size) ⟨hO',λ b hb=>(hO'.lt b hb).2⟩ (YY.setCell w7 p5 0 v') (.inr (.inl l5))).1
 · rintro w4 ⟨sv4,rv,q5,hR⟩ hmk
   have hrl:(Uk d.msgs k).length≤1048576:=by
    rw [hrI,List.length_map]
    exact Nat.le_trans (Gp _ _) hb
   have hlr:(Uk d.msgs k).length=(Qn m).length:=by rw [hrI,List.length_map]
   rw [List.take_of_length_le (by omega)] at hR
   have hrv:=Zd.oneCell hR.ints
   unfold OI
   simp (disch:=try exact DI) only [↓PR,QR,simprocAttr,(Za q5).1]
   have e4:=sv4.to_ext E1 (by omega)
   refine Zs (NP hR hrl) ?_
   rintro _ w5 ⟨rfl,hR5,g5⟩
   rw [hsort] at hR5
   have q55:=g5.low l5 q5
   have hrv5:=Zd.oneCell hR5.ints
   simp (disch:=try exact DI) only [↓PR,QR,simprocAttr,(Za q55).1]
   refine V0 (g5.mark hmk) ?_
   have hR6:=Tz hR5 (g5.mark hmk) (λ _ _ _ h=>by cases h) (.deferred none)
   have e5:=g5.2.1 w0 e4 s1
   simp (disch:=try exact DI) only [↓PR,QR,simprocAttr,WW,qp,Qo]
   exact ⟨hR6.base s1,e5.putObj s1 _⟩
 · rintro c w4 h
   exact h.elim
 · rintro ch w4 h
   exact h.elim
theorem xc {QP:PEn} {w:Wd} {k:KV} (n:Nat) (hn:n≤1048576):opV Pg (Instr.makeSlice 93 (.int .i64 (n:Int)) (.int .i64 (n:Int))) QP w k =
 k (.slice (some ⟨w.heap.size,0,none⟩) n n) (w.alloc (.cells ((List.replicate n false).map λ x=>Value.bool x).toArray 4)):=by
 obtain ⟨⟨i,hi,hs,hby,hz⟩,_⟩:=ty4
 have h1:=by4
 rw [Yi (run_make_row (P:=Pg) 93 4 i _ underlying93 hi hz hs rfl .i64 .i64 n (by rw [hby];exact Nat.le_trans (Nat.mul_le_mul h1 hn) (by decide)) (by omega) w)]
 congr 3
 rw [List.map_replicate,← toList_madeCells_one]
def KA (w:Wd) (b:Nat) (L:List Bool):Prop:=w.heap[b]?=some (.cells (L.map λ x=>Value.bool x).toArray 4 (0,0))
theorem KA.ext {w w':Wd} {b:Nat} {L:List Bool} (h:KA w b L) (e:Ext w w'):KA w' b L:=e.obj h
theorem KA.get {w:Wd} {b:Nat} {L:List Bool} (h:KA w b L) {i:Nat} {x:Bool} (hi:L[i]?=some x):w.cell? ⟨b,i,none⟩=some (.bool x):=by rw [(Za h).1];simp [hi]
theorem KA.set {w:Wd} {b:Nat} {L:List Bool} (h:KA w b L) (i:Nat) (x:Bool):KA (w.setCell ⟨b,i,none⟩ (.bool x)) b (L.set i x):=by
 have:=ZE (o:=i) h (.bool x)
 unfold KA
 rw [this,List.setIfInBounds_toArray,List.map_set]
theorem KA.bools {w:Wd} {b:Nat} {L:List Bool} (h:KA w b L) (hl:L.length≤1048576):Zd w 1 En (.slice (some ⟨b,0,none⟩) L.length L.length) L:=by
 refine ⟨_,_,rfl,Nat.le_refl _,by omega,λ _=>⟨b,0,rfl,λ k x hx=>⟨[.bool x],rfl,?_,rfl⟩⟩⟩
 intro j v hv
 cases j with
 | zero=>injection hv with hv;subst hv;simpa using h.get hx
 | succ j=>cases hv
def tab (n:Nat) (p:Nat→Bool):List Bool:=(List.range n).map p
theorem Jd (n:Nat) (p:Nat→Bool):(tab n p).length=n:=by simp [tab]
theorem V7 {n i:Nat} {p:Nat→Bool} (h:i < n):(tab n p)[i]?=some (p i):=by simp [tab,h]
theorem WA {n:Nat} {p q:Nat→Bool} (h:∀ i,i < n→p i=q i):tab n p=tab n q:=List.map_congr_left λ i hi=>h i (List.mem_range.1 hi)
theorem jI {n i:Nat} {p:Nat→Bool} {x:Bool} (h:i < n):(tab n p).set i x=tab n (λ j=>if j=i then x else p j):=by
 apply List.ext_getElem?
 intro j
 by_cases hj:j < n
 · rw [V7 hj]
   by_cases hji:j=i
   · subst hji;rw [if_pos rfl,List.getElem?_set_self (by rw [Jd];exact hj)]
   · rw [if_neg hji,List.getElem?_set_ne (Ne.symm hji),V7 hj]
 · rw [List.getElem?_eq_none (by rw [List.length_set,Jd];omega),List.getElem?_eq_none (by rw [Jd];omega)]
def W5 (d:YQ):Nat:=(idx (λ m=>decide (m.name=d.start)) d.msgs).toNat
theorem BB {d:YQ} (hc:(YA d).2.2=0):W5 d < d.msgs.length∧(d.msgs.any λ m=>decide (m.name=d.start))=true∧MW (λ m=>decide (m.name=d.start)) d.msgs=W5 d:=by
 have h:=(XI hc).2.2.2
 obtain ⟨m,hm,hn⟩:=isD.1 h
 have ha:(d.msgs.any λ m=>decide (m.name=d.start))=true:=List.any_eq_true.2 ⟨m,hm,by simpa using hn⟩
 have hb:=HN (λ m:ZC=>decide (m.name=d.start)) d.msgs
 have h0:=ha
 rw [← Qq] at h0
 have h0:0≤idx (λ m:ZC=>decide (m.name=d.start)) d.msgs:=by simpa using h0
 unfold W5
 exact ⟨by omega,ha,by rw [EW ha];omega⟩
def QU (l:List ZC) (s t k i:Nat):Bool:=YK l s t i||(YK l s t (l.length - 1 - t)&&((toP l (l.length - 1 - t)).take k).contains (i:Int))
theorem FW (l:List ZC) (s t i:Nat):QU l s t 0 i=YK l s t i:=by simp [QU]
theorem IH {l:List ZC} (h:Q2 l) (s t i:Nat):QU l s t (toP l (l.length - 1 - t)).length i=YK l s (t+1) i:=by
 unfold QU
 rw [List.take_length,YK]
 congr 2
 rw [Bool.eq_iff_iff,List.contains_iff_mem,toP,jG]
 constructor
 · rintro ⟨j,_,h2,h3⟩
   rw [show i=j by omega];exact h2
 · exact λ hb=>⟨i,(Zgi h hb).1,hb,rfl⟩
theorem Sx {l:List ZC} {k:Nat} {x:Int} (h:x∈toP l k):∃ i:Nat,x=i∧i < k:=by
 obtain ⟨i,hi,_,rfl⟩:=jG.1 h
 exact ⟨i,rfl,hi⟩
theorem M9 {l:List ZC} (s t k:Nat):QU l s t k (l.length - 1 - t)=YK l s t (l.length - 1 - t):=by
 unfold QU
 have:((toP l (l.length - 1 - t)).take k).contains ((l.length - 1 - t:Nat):Int)=false:=by
  rw [Bool.eq_false_iff]
  intro h
  rw [List.contains_iff_mem] at h
  obtain ⟨i,he,hi⟩:=Sx (List.mem_of_mem_take h)
  omega
 rw [this,Bool.and_false,Bool.or_false]
theorem FV {l:List ZC} {s t k:Nat} {j:Nat} (hj:(toP l (l.length - 1 - t))[k]?=some (j:Int)) (i:Nat):QU l s t (k+1) i=if i=j then QU l s t k j||YK l s t (l.length - 1 - t) else QU l s t k i:=by
 unfold QU
 rw [Z4 hj,List.contains_eq_any_beq,List.any_append,List.contains_eq_any_beq,List.contains_eq_any_beq]
 by_cases hij:i=j
 · subst hij
   rw [if_pos rfl]
   simp only [List.any_cons,List.any_nil,Bool.or_false,beq_self_eq_true,Bool.or_true,Bool.and_true]
   cases YK l s t i<;>cases YK l s t (l.length - 1 - t)<;>simp
 · rw [if_neg hij]
   have:((i:Int) == (j:Int))=false:=by simp;omega
   simp only [List.any_cons,List.any_nil,Bool.or_false,this]
theorem FZ (w0:Wd) (v:Vl) (d:YQ) (hd:YT w0 v d) (ht:UJ d):Ret Pg 55 #[v] w0 λ r w'=>(if (YA d).2.2=0 then ∃ b,r = .tuple #[.slice (some ⟨b,0,none⟩) d.msgs.length d.msgs.length,.int .i64 0]∧w0.heap.size≤b∧KA w' b (tab d.msgs.length (zH d.msgs (W5 d))) else r = .tuple #[.slice none 0 0,.int .i64 2])∧Ext w0 w':=by
 obtain ⟨mv,rfl,hM⟩:=hd
 have hm1:=Zd.oneCell hM
 have hM0:=hM
 obtain ⟨A,c,rfl,hlc,hcm,hlm,Y3⟩:=Zd.open hM
 refine Zdv (R:=ZO _) ?_;unfold Zdu
 rw [Wh]
 have o1:=ZG w0 (Zz d (.slice A d.msgs.length c)).toArray 28
 have eW:Ext w0 (w0.alloc (.cells (Zz d (.slice A d.msgs.length c)).toArray 28)):=ee
 generalize (w0.alloc (.cells (Zz d (.slice A d.msgs.length c)).toArray 28))=W at o1 eW ⊢
 generalize hp1:w0.heap.size=p1 at o1 ⊢
 simp (disch:=try exact DI) only [↓PR,QR,simprocAttr,(Za o1).1]
 refine zcr (jY _ d ⟨_,rfl,hM0.ext eW⟩ ht) λ w1 e1=>?_
 have E1:=eW.trans e1
 by_cases hc:(YA d).2.2=0
 case neg=>
  have hfb:Xy d=true:=by unfold Xy;simp [hc]
  rw [hfb]
  simp only [hc,if_false]
  simp (disch:=try exact DI) only [↓PR,QR,simprocAttr]
  exact ⟨trivial,E1⟩
 have hfb:Xy d=false:=by unfold Xy;simp [hc]
 rw [hfb]
 simp only [hc,if_true]
 obtain ⟨hs,hany,hidx⟩:=BB hc
 have hf:=(XI hc).2.2.1
 have hl60:=(XI hc).2.1.2
 generalize W5 d=s at hs hidx ⊢
 simp (disch:=try exact DI) only [↓PR,QR,simprocAttr,↓OG,(Za (e1.obj o1)).1]
 rw [xc d.msgs.length (by omega)]
 have eV:Ext w1 (w1.alloc (.cells ((List.replicate d.msgs.length false).map λ x=>Value.bool x).toArray 4)):=ee
 have oR:KA (w1.alloc (.cells ((List.replicate d.msgs.length false).map λ x=>Value.bool x).toArray 4)) w1.heap.size (tab d.msgs.length λ _=>false):=by
  have:=ZG w1 ((List.replicate d.msgs.length false).map λ x=>Value.bool x).toArray 4
  rw [show tab d.msgs.length (λ _=>false)=List.replicate d.msgs.length false by unfold tab;rw [List.map_const'];simp]
  exact this
 have sV:=eV.size
 generalize (w1.alloc (.cells ((List.replicate d.msgs.length false).map λ x=>Value.bool x).toArray 4))=V at eV oR sV ⊢
 generalize hr:w1.heap.size=r at oR ⊢
 have f1:=e1.trans eV
 simp (disch:=try exact DI) only [↓PR,QR,simprocAttr,(Za (f1.obj o1)).1]
 refine zcr (Ep _ _ d d.start ⟨_,rfl,hM0.ext (eW.trans f1)⟩) λ w2 e2=>?_
 rw [hidx,hany]
 have oR2:=oR.ext e2
 have g2:Ext w1 w2:=eV.trans e2
 have hfz:∀ o,w2.frozen? ⟨r,o,none⟩=false:=(Za oR2).2
 have hcs:w2.cell? ⟨r,s,none⟩=some (.bool false):=oR2.get (V7 hs)
 unfold OF
 simp (disch:=try exact DI) only [↓PR,QR,simprocAttr,hcs,hfz,Nat.mul_one,Nat.zero_add]
 have oR3:=oR2.set s true
 rw [jI hs] at oR3
 have g3:Ext w1 (w2.setCell ⟨r,s,none⟩ (.bool true)):=g2.setCell (by show w1.heap.size≤r;omega) _
 generalize (w2.setCell ⟨r,s,none⟩ (.bool true))=w3 at oR3 g3 ⊢
 have h0:tab d.msgs.length (λ j=>if j=s then true else false)=tab d.msgs.length (YK d.msgs s (d.msgs.length - 1 - s)):=WA λ i _=>by
  rw [jl hf _ (Nat.le_refl _)]
  by_cases h:i=s<;>simp [h]
 rw [h0] at oR3
 refine ZF (λ a w=>∃ t:Nat,a = .int .i64 ((d.msgs.length:Int) - 1 - t)∧t≤d.msgs.length∧Ext w1 w∧KA w r (tab d.msgs.length (YK d.msgs s t))) (λ a _=>(intOf a+1).toNat) ⟨d.msgs.length - 1 - s,by rw [show (d.msgs.length:Int) - 1 - ((d.msgs.length - 1 - s:Nat):Int)=(s:Int) by omega],by omega,g3,oR3⟩ ?_
 rintro _ w4 ⟨t,rfl,htl,g4,oR4⟩
 by_cases Yv:t < d.msgs.length
 · have MU:decide (((d.msgs.length:Int) - 1 - t)≥0)=true:=by simp;omega
   obtain ⟨at_,hat⟩:∃ k:Nat,k=d.msgs.length - 1 - t:=⟨_,rfl⟩
   have hatI:((d.msgs.length:Int) - 1 - t)=(at_:Int):=by omega
   rw [hatI] at MU ⊢
   have hal:at_ < d.msgs.length:=by omega
   obtain ⟨m,hm⟩:=getElem?_lt hal
   simp (disch:=try exact DI) only [↓PR,QR,simprocAttr,MU,↓OE,(Za ((e1.trans g4).obj o1)).1]
   refine Zs (IL _ _ d at_ m ⟨_,rfl,hM0.ext (E1.trans g4)⟩ hm hf (ht m (List.mem_of_getElem? hm)).1) ?_
   rintro rv w5 ⟨hT,e5⟩
   have g5:=g4.trans e5
   have oR5:=oR4.ext e5
   have hTs:=hT.ints
   have s4:=(Array.getElem?_eq_some_iff.1 oR4).1
   have htp:(toP d.msgs at_).length≤d.msgs.length:=Nat.le_trans (jH _ _) (by omega)
   obtain ⟨Ar,cr,rfl,hlr,hcr,hlmr,_⟩:=Zd.open hTs
   simp (disch:=try exact DI) only [↓PR,QR,simprocAttr]
   refine ZF (λ a w=>∃ k:Nat,a = .int .i64 k∧k≤(toP d.msgs at_).length∧Ext w1 w∧KA w r (tab d.msgs.length (QU d.msgs s t k))∧Vj w w4.heap.size (.slice Ar (toP d.msgs at_).length cr) (toP d.msgs at_)) (λ a _=>(toP d.msgs at_).length - (intOf a).toNat) ⟨0,rfl,by omega,g5,by rw [WA λ i _=>FW d.msgs s t i];exact oR5,hT⟩ ?_
   rintro _ w6 ⟨k,rfl,hk,g6,oR6,hT6⟩
   unfold OD
   rcases ZD hk with ⟨x,hx,_,hltk,ZJ⟩ | ⟨hke,_,ZJ⟩
   · obtain ⟨j,rfl,hj⟩:=Sx (List.mem_of_getElem? hx)
     obtain ⟨_,_,hv,_,_,_,hel6⟩:=Zd.open hT6.ints
     injection hv with hv _ hv'
     subst hv hv'
     obtain ⟨b6,o6,cs6,rfl,_,hA6,rfl⟩:=hel6 k _ hx
     have er:=Ext.refl w6
     have a6:w6.cell? ⟨b6,o6+k,none⟩=some (.int .i64 (j:Int)):=by have:=hA6 0 _ rfl;simpa using this
     have hjn:j < d.msgs.length:=by omega
     have c1:w6.cell? ⟨r,j,none⟩=some (.bool (QU d.msgs s t k j)):=oR6.get (V7 hjn)
     have c2:w6.cell? ⟨r,at_,none⟩=some (.bool (YK d.msgs s t at_)):=by
      rw [oR6.get (V7 hal),hat,M9]
     have hfz6:∀ o,w6.frozen? ⟨r,o,none⟩=false:=(Za oR6).2
     have hsnoc:(tab d.msgs.length (QU d.msgs s t k)).set j (QU d.msgs s t k j||YK d.msgs s t at_)=tab d.msgs.length (QU d.msgs s t (k+1)):=by
      rw [jI hjn]
      refine WA λ i _=>?_
      rw [FV (by rw [← hat];exact hx),← hat]
     have GF:∀ x,x=(QU d.msgs s t k j||YK d.msgs s t at_)→(∃ k':Nat,Value.int .i64 ((k:Int)+1) = .int .i64 k'∧k'≤(toP d.msgs at_).length∧Ext w1 (w6.setCell ⟨r,j,none⟩ (.bool x))∧KA (w6.setCell ⟨r,j,none⟩ (.bool x)) r (tab d.msgs.length (QU d.msgs s t k'))∧Vj (w6.setCell ⟨r,j,none⟩ (.bool x)) w4.heap.size (.slice (some ⟨b6,o6,none⟩) (toP d.msgs at_).length cr) (toP d.msgs at_))∧(toP d.msgs at_).length - (intOf (.int .i64 ((k:Int)+1))).toNat < (toP d.msgs at_).length - (intOf (.int .i64 (k:Int))).toNat:=by
      rintro x rfl
      refine ⟨⟨k+1,rfl,by omega,g6.setCell (by show w1.heap.size≤r;omega) _,by have:=oR6.set j (QU d.msgs s t k j||YK d.msgs s t at_);rw [hsnoc] at this;exact this,?_⟩,ZM (kd := .i64) hltk⟩
      exact (UH.only (lo:=w4.heap.size) (hi:=w6.heap.size) ⟨hT6,λ b hb=>(hT6.lt b hb).2⟩ (YY.setCell w6 r j _) (.inr (.inl s4))).1
     have hwr:IntKind.i64.wrap ((k:Int)+1)=(k:Int)+1:=Z0 (by omega) (by omega)
     simp (disch:=try exact DI) only [↓PR,QR,simprocAttr,ZJ,↓OC,a6,c1,c2,Nat.mul_one,Nat.zero_add]
     cases hb:QU d.msgs s t k j with
     | true=>
      simp (disch:=try exact DI) only [↓PR,QR,simprocAttr,↓HR,c1,hfz6,Nat.mul_one,Nat.zero_add]
      exact GF true (by rw [hb];rfl)
     | false=>
      simp (disch:=try exact DI) only [↓PR,QR,simprocAttr,↓HR,c1,c2,hfz6,Nat.mul_one,Nat.zero_add]
      exact GF _ (by rw [hb];rfl)
   · subst hke
     have hwr:IntKind.i64.wrap ((at_:Int) - 1)=(d.msgs.length:Int) - 1 - ((t+1:Nat):Int):=by rw [Z0 (by omega) (by omega)];omega
     simp (disch:=try exact DI) only [↓PR,QR,simprocAttr,ZJ,hwr]
     refine ⟨⟨t+1,rfl,by omega,g6,?_⟩,?_⟩
     · rw [hat] at oR6
       rw [WA λ i _=>IH hf s t i] at oR6
       exact oR6
     · simp only [intOf]
       omega
 · obtain rfl:t=d.msgs.length:=by omega
   have MU:decide (((d.msgs.length:Int) - 1 - (d.msgs.length:Int))≥0)=false:=by simp;omega
   simp (disch:=try exact DI) only [↓PR,QR,simprocAttr,MU]
   exact ⟨⟨r,rfl,by have:=E1.size;omega,oR4⟩,E1.trans g4⟩
def Zdo (b:Vl) (R:RT) (w:Wd):Prop:=
 opV Pg (Instr.box 28 b) (Zh R) w λ c w=>
 L0 28 c R w λ d w=>
 C0 51 #[d,(.bool true)] R w λ a w=>
 E0 a 0 R w λ e w=>
 E0 a 1 R w λ f w=>
 R (.returned (.tuple #[e,f])) w
theorem Zdp {t0:Vl} {R:RT} {w:Wd} (h:Zdo t0 R w):Calls Pg 20 #[t0] w R:=by
 refine yD func20 ?_
 refine zs<|zr<|yv h λ _ w h=>zm<|zm<|zn<|zk<|zs<|zr<|yv h λ _ w h=>yc h c51 λ _ w h=>yv h λ _ w h=>yv h λ _ w h=>zm<|zm ?_
 exact zn<|zk<|Ze<|Qe rfl rfl rfl h
def Zaz (a:Vl) (R:RT) (w:Wd):Prop:=
 E0 a 0 R w λ b w=>
 E0 a 1 R w λ c w=>
 opV Pg (Instr.alloc 90 true (.tuple #[])) (Zh R) w λ d w=>
 S0 90 d b R w λ w=>
 N0 c R w λ e w=>
 R (.returned e) w
def n29 (a:Vl) (R:RT) (w:Wd):Prop:=
 opV Pg (Instr.box 28 a) (Zh R) w λ b w=>
 L0 28 b R w λ c w=>
 C0 52 #[c] R w λ d w=>
 Zaz d R w
theorem Zib {t0:Vl} {R:RT} {w:Wd} (h:n29 t0 R w):Calls Pg 22 #[t0] w R:=by
 refine yD func22 ?_
 refine zs<|zr<|yv h λ _ w h=>zm<|zn<|zk<|zs<|zr<|yv h λ _ w h=>yc h c52 λ _ w h=>zm<|yv h λ _ w h=>yv h λ _ w h=>yv h λ _ w h=>yu h λ w h=>?_
 exact zm<|zn<|zk<|zs<|zr<|zm<|yv h λ _ w h=>zm<|zn<|zk<|Ze<|Zk rfl rfl h
def ZaL (a b c:Vl) (d:WPr) (ZT:KV) (R:RT) (w:Wd):Prop:=
 M0 93 b c d λ e=>
 opU Pg (storeAt 4 e (.bool true)) (Zh R) w λ w=>
 Xt w λ g w=>
 B0 .add 3 true a (.int .i64 1) R w λ f w=>
 ZT f w
def ZaM (c d b e f:Vl) (a:WPr) (ZT:KV) (R:RT) (w:Wd):Prop:=
 I0 28 c a λ g=>
 M0 82 f b a λ h=>
 I0 9 h a λ i=>
 C0 53 #[g,i,d] R w λ j w=>
 a w∧(
 ZaL b e j a ZT R w)
def LJ (b a c d e f g:Vl) (Zo:KV) (ZT:KV) (R:RT) (w:Wd):Prop:=
 Zw f g (.bool false) λ h=>
 Zq h (
 Yy w λ i w=>
 ZaM b a c d e i ZT R w) (
 B0 .sub 3 true a (.int .i64 1) R w λ j w=>
 Zo j w)
def ZaN (h b c d e:Vl) (Zo:KV) (ZT:KV) (R:RT) (w:Wd):Prop:=
 X0 93 d b R w λ i w=>
 L0 4 i R w λ f w=>
 Zr (λ (a:Vl) (w:Wd)=>
 LJ h b c d e f a Zo ZT R w) λ g=>
 Zn f true (
 G0 82 3 e R w λ j w=>
 B0 .lss 3 false c j R w λ a w=>
 g a w) (
 g undef w)
def P9 (a b d:Vl) (Qk:KW) (R:RT) (w:Wd):Prop:=
 X0 93 d b R w λ e w=>
 L0 4 e R w λ f w=>
 Zr (λ (a:Vl) (w:Wd)=>
 B0 .add 3 true b (.int .i64 1) R w λ g w=>
 Qk a g w) λ c=>
 Zq f (
 opV Pg (buildSlice 30 1 #[(0,b)]) (Zh R) w λ h w=>
 opV Pg (Builtin.append_ #[30,30] 30 #[a,h]) (Zh R) w λ i w=>
 c i w) (
 c a w)
def ZaO (c a b d:Vl) (Qk:KW) (R:RT) (w:Wd):Prop:=
 F0 28 c 1 R w λ e w=>
 L0 26 e R w λ f w=>
 G0 26 3 f R w λ g w=>
 B0 .lss 3 false b g R w λ h w=>
 Zq h (
 P9 a b d Qk R w) (
 R (.returned a) w)
def ZaP (a b c:Vl) (Zo:KV) (R:RT) (w:Wd):Prop:=
 F0 28 a 1 R w λ d w=>
 L0 26 d R w λ e w=>
 X0 26 e b R w λ f w=>
 L0 24 f R w λ g w=>
 C0 54 #[g] R w λ h w=>
 YS (λ i w ZT=>
 ZaN a b i c h Zo ZT R w) (.int .i64 0) w
def ZaQ (a b c:Vl) (Zo:KV) (R:RT) (w:Wd):Prop:=
 B0 .geq 3 true b (.int .i64 0) R w λ d w=>
 Zq d (
 ZaP a b c Zo R w) (
 Qi (λ e f w Qk=>
 ZaO a e f c Qk R w) (Value.slice none 0 0) (.int .i64 0) w)
def ZaR (a b c:Vl) (R:RT) (w:Wd):Prop:=
 X0 93 b c R w λ d w=>
 opU Pg (storeAt 4 d (.bool true)) (Zh R) w λ w=>
 F0 28 a 1 R w λ e w=>
 L0 26 e R w λ f w=>
 G0 26 3 f R w λ g w=>
 B0 .sub 3 true g (.int .i64 1) R w λ h w=>
 YS (λ i w Zo=>
 ZaQ a i b Zo R w) h w
def n41 (c:Vl) (R:RT) (w:Wd):Prop:=
 opV Pg (Instr.box 28 c) (Zh R) w λ a w=>
 F0 28 a 1 R w λ d w=>
 L0 26 d R w λ e w=>
 G0 26 3 e R w λ b w=>
 opV Pg (Instr.makeSlice 93 b b) (Zh R) w λ f w=>
 L0 28 a R w λ g w=>
 F0 28 a 2 R w λ h w=>
 L0 9 h R w λ i w=>
 F0 28 a 1 R w λ j w=>
 L0 26 j R w λ k w=>
 G0 26 3 k R w λ l w=>
 C0 53 #[g,i,l] R w λ m w=>
 ZaR a f m R w
set_option maxHeartbeats 40000000 in
theorem Zim {t0:Vl} {R:RT} {w:Wd} (h:n41 t0 R w):Calls Pg 23 #[t0] w R:=by
 refine yD func23 ?_
 refine zs<|zr<|yv h λ _ w h=>zm<|zn<|zk<|zs<|zr<|yv h λ _ w h=>yv h λ _ w h=>yx h λ _ w h=>yv h λ _ w h=>zm<|zn<|zk ?_
 refine zs<|zr<|zm<|yv h λ _ w h=>yv h λ _ w h=>yv h λ _ w h=>yv h λ _ w h=>yv h λ _ w h=>yx h λ _ w h=>yc h c53 λ _ w h=>yv h λ _ w h=>yu h λ w h=>zn<|zk<|zs ?_
 refine zs<|zr<|yv h λ _ w h=>yv h λ _ w h=>yx h λ _ w h=>yb h λ _ w h=>zm<|zn<|zk<|Zj<|yl1 [4,5,6,26,27,28,29,30,31,32,33,34,35,36,37,38,39,40,41,42,43,44,45,46,47,48,49,50,51,52,53,54,55,56] 4 h λ σ w next h=>zs<|zs<|zr<|zm ?_
 refine yb h λ _ w h=>zn<|zk<|yC h (λ h=>?_) λ h=>?_
 · refine Zi<|zk<|zs<|Zj<|zs<|zr<|yv h λ _ w h=>yv h λ _ w h=>zm<|yv h λ _ w h=>yv h λ _ w h=>yc h c54 λ _ w h=>zm<|zn<|zk ?_
   refine zs<|zr<|zm<|zn<|zk<|Zj<|yl1 [6,36,37,38,39,40,41,42,43,44,45,46,47,48,49,50,51,52,53,54,55,56] 6 h λ σ w next h=>zs<|zs<|Zu<|yG 5<|zm<|zm<|yv h λ _ w h=>yv h λ _ w h=>?_
   refine zm<|zn<|yg1 4 4 true [41,42,43,44] 44 h (λ _ T hT h=>?_) λ σ w h=>?_
   · refine zm<|zm<|yx h λ _ w h=>yb h λ _ w h=>zn ?_
     exact zt hT h
   refine yG 1<|yp h λ _ h=>zn<|ZQ<|zk<|yC h (λ h=>?_) λ h=>?_
   · refine Zi<|zk<|zs<|Zj<|yh [48,49,50,51,52,53,54,55,56] h λ C hC h=>yw 0 hC ?_
     refine ye 1 hC h λ _ h=>?_
     refine yw 2 hC ?_
     refine yw 3 hC ?_
     refine ye 4 hC h λ _ h=>?_
     refine ye 5 hC h λ _ h=>?_
     refine yw 6 hC ?_
     refine yo 7 ?_
     refine yc h c53 λ _ w h=>zn ?_
     obtain ⟨hC,h⟩:=h
     refine ⟨hC,?_⟩
     refine ye 8 hC h λ _ h=>?_
     refine yq 9 1 ?_
     refine yu h λ w h=>zn ?_
     obtain ⟨C5,hC,h⟩:=h
     refine ⟨C5,hC,?_⟩
     exact yz<|Zg<|zk<|zr<|zm<|yb h λ _ w h=>zm<|zn<|zk<|⟨rfl,h⟩
   exact ZA<|Zc<|Zc<|Zp<|Zg<|zk<|zr<|zm<|yb h λ _ w h=>zm<|zn<|zk<|⟨rfl,h⟩
 refine ZA<|Zc<|Zc<|Zp<|zk<|zs<|zr<|zm<|zn<|zk<|zs<|zs<|zr<|zm<|zn ?_
 refine zk<|Zj<|yl2 [7,8,57,58,59,60,61,62,63,64,65,66,67,68,69,70,71] 7 8 h λ σ w next h=>zs<|zs<|zr<|zm<|yv h λ _ w h=>yv h λ _ w h=>yx h λ _ w h=>yb h λ _ w h=>zn<|zk<|yC h (λ h=>?_) λ h=>?_
 · refine Zi<|zk<|zs<|Zj<|zs<|zr<|zm<|zm<|yv h λ _ w h=>yv h λ _ w h=>zn<|zk<|yJ1 [7,68,69,70,71] 7 h (λ _ _ hkK7 h=>?_) λ σ w h=>?_
   · refine yC h (λ h=>?_) λ h=>?_
     · refine zr<|zm<|zm<|yS h λ _ w h=>yx h λ _ w h=>zm<|zn<|zk ?_
       exact zt hkK7 h
     refine Zi<|zk ?_
     exact zt hkK7 h
   exact Zg<|zk<|zr<|zm<|yb h λ _ w h=>zm<|zn<|zk<|⟨rfl,h⟩
 exact ZA<|Zc<|Zc<|Zp<|zk<|zs<|zr<|zm<|zm<|zn<|zk<|Ze<|Zk rfl rfl h
theorem Gk (w0:Wd) (v:Vl) (l:List Bool) (g:FuncId) (caps:AVl) (p:Nat→Bool) (hs:Zd w0 1 En v l) (hl:l.length≤1048576) (hg:Callable Pg g)
 (hc:∀ (w:Wd) (i:Nat) (x:Bool),l[i]?=some x→Ext w0 w→Ret Pg g (#[.int .i64 (i:Int),.bool x]++caps) w λ r w'=>r = .bool (p i)∧Ext w w') :
 Ret Pg 87 #[v,.func (.func g) #[] caps] w0 λ r w'=>Vj w' w0.heap.size r (Kw l.length p)∧Ext w0 w':=by
 obtain ⟨A,c,rfl,hlc,hcm,hlm,Y3⟩:=Zd.open hs
 refine Zdy (R:=ZO _) ?_;unfold Zdx
 simp (disch:=try exact DI) only [↓PR,QR,simprocAttr]
 refine Yn (λ a0 a1 w=>∃ (k:Nat) (sv:Vl),a0=sv∧a1 = .int .i64 (k:Int)∧k≤l.length∧Ext w0 w∧Vj w w0.heap.size sv (Kw k p)) (λ a0 a1 _=>l.length - (intOf a1).toNat) ⟨0,.slice none 0 0,rfl,rfl,Nat.zero_le _,ee,Yk.nil _ _ _ _ _⟩ ?_
 rintro _ _ w ⟨k,sv,rfl,rfl,hk,e,hI⟩
 have se:=e.size
 rcases ZD hk with ⟨x,hx,hd,Yv,ZJ⟩ | ⟨hk,hd,ZJ⟩
 · obtain ⟨b,o,cs,rfl,hl',hA,rfl⟩:=Y3 k x hx
   have hA':=hA.ext e
   simp (disch:=try exact DI) only [↓PR,QR,simprocAttr,ZJ,↓OK,hA'.c1 (Ext.refl _)]
   rw [YZ hg]
   simp only [Array.empty_append]
   refine zcr (hc w k x hx e) λ w2 e2=>?_
   have e02:=e.trans e2
   have hR:=hI.ext e2
   have hss:=Hb k p
   have hsl:=jH k p
   cases hp:p k with
   | false=>
    rw [hp] at hss
    simp only [Bool.false_eq_true,if_false,List.append_nil] at hss
    simp (disch:=try exact DI) only [↓PR,QR,simprocAttr,↓HS]
    exact ⟨⟨k+1,_,rfl,rfl,by omega,ee,by rw [hss];exact hR⟩,ZM (kd := .i64) Yv⟩
   | true=>
    rw [hp] at hss
    simp only [if_true] at hss
    simp (disch:=try exact DI) only [↓PR,QR,simprocAttr,↓HS]
    generalize hY:World.alloc w2 _=Y
    have eY:Ext w2 Y:=by rw [← hY];exact ee
    have oY:Y.heap[w2.heap.size]?=some (.cells #[.int .i64 (k:Int)] 3 (0,0)):=by rw [← hY];exact ZG _ _ _
    clear hY
    refine jZ (k:Int) (hR.ext eY) (by rw [(Za oY).1];rfl) (e02.trans eY).size (by omega) ?_
    intro v' w' hO' hg'
    have e':=hg'.2.1 w0 (e02.trans eY) (Nat.le_refl _)
    simp (disch:=try exact DI) only [↓PR,QR,simprocAttr]
    exact ⟨⟨k+1,v',rfl,rfl,by omega,ee,by rw [hss];exact hO'⟩,ZM (kd := .i64) Yv⟩
 · subst hk
   simp (disch:=try exact DI) only [↓PR,QR,simprocAttr,ZJ]
   exact ⟨hI,e⟩
def MM (d:YQ):Int:=if (YA d).2.2=0 then 0 else 2
def Wu (d:YQ) (want:Bool):List Int:=if (YA d).2.2=0 then Kw d.msgs.length (λ i=>zH d.msgs (W5 d) i == want) else []
theorem HE (w0:Wd) (v:Vl) (d:YQ) (want:Bool) (hd:YT w0 v d) (ht:UJ d):Ret Pg 51 #[v,.bool want] w0 λ r w'=>(∃ u,r = .tuple #[u,.int .i64 (MM d)]∧Vj w' w0.heap.size u (Wu d want))∧Ext w0 w':=by
 obtain ⟨mv,rfl,hM⟩:=hd
 have hm1:=Zd.oneCell hM
 have hM0:=hM
 refine Zdr (R:=ZO _) ?_;unfold Zdq
 simp (disch:=try exact DI) only [↓PR,QR,simprocAttr]
 generalize hV:World.alloc (World.alloc w0 _) _=V
 have eV:Ext w0 V:=by rw [← hV];exact ee
 have o3:V.heap[w0.heap.size+1]?=some (.cells #[.bool want] 4 (0,0)):=by rw [← hV];simp (disch:=try exact DI) only [↓PR,QR,simprocAttr]
 clear hV
 refine Zs (FZ _ _ d ⟨_,rfl,hM0.ext eV⟩ ht) ?_
 rintro r w1 ⟨hr,e1⟩
 have E1:=eV.trans e1
 have s1:=E1.size
 have htest:∀ (l:List Bool) (w:Wd) (i:Nat) (x:Bool),l[i]?=some x→Ext w1 w→Ret Pg 88 #[.int .i64 (i:Int),.bool x,.pointer (some ⟨w0.heap.size+1,0,none⟩)] w λ r w'=>r = .bool ((l.map λ x=>x == want)[i]?.getD false)∧Ext w w':=by
  intro l w i x hx e
  refine Zdt (R:=ZO _) ?_;unfold Zds
  simp (disch:=try exact DI) only [↓PR,QR,simprocAttr,(Za ((e1.trans e).obj o3)).1]
  refine ⟨?_,Ext.refl _⟩
  rw [List.getElem?_map,hx]
  rfl
 by_cases hc:(YA d).2.2=0
 · simp only [hc,if_true] at hr
   obtain ⟨b,rfl,hb,hR⟩:=hr
   have hl60:=(XI hc).2.1.2
   have hbs:=hR.bools (by rw [Jd];omega)
   rw [Jd] at hbs
   simp (disch:=try exact DI) only [↓PR,QR,simprocAttr,↓HQ]
   refine Zs (Gk _ _ _ _ _ (λ i=>((tab d.msgs.length (zH d.msgs (W5 d))).map λ x=>x == want)[i]?.getD false) hbs (by rw [Jd];omega) c88 (λ w i x hx e=>htest _ w i x hx e)) ?_
   rintro u w2 ⟨hU,e2⟩
   rw [Jd] at hU
   refine ⟨_,rfl,⟨u,by rw [show MM d=0 from if_pos hc],?_⟩,E1.trans e2⟩
   rw [show Wu d want=_ from if_pos hc]
   have hcg:Kw d.msgs.length (λ i=>((tab d.msgs.length (zH d.msgs (W5 d))).map λ x=>x == want)[i]?.getD false)=Kw d.msgs.length (λ i=>zH d.msgs (W5 d) i == want):=CQ λ i hi=>by rw [List.getElem?_map,V7 hi];rfl
   rw [hcg] at hU
   exact hU.base s1
 · simp only [hc,if_false] at hr
   subst hr
   simp (disch:=try exact DI) only [↓PR,QR,simprocAttr,↓HQ]
   refine Zs (Gk _ _ [] _ _ (λ i=>(([]:List Bool).map λ x=>x == want)[i]?.getD false) (Zd.nil _ _ _) (by simp) c88 (λ w i x hx e=>htest _ w i x hx e)) ?_
   rintro u w2 ⟨hU,e2⟩
   refine ⟨_,rfl,⟨u,by rw [show MM d=2 from if_neg hc],?_⟩,E1.trans e2⟩
   rw [show Wu d want=[] from if_neg hc]
   exact hU.base s1
theorem Ms (w0:Wd) (v:Vl) (d:YQ) (hd:YT w0 v d) (ht:UJ d):Ret Pg 20 #[v] w0 λ r w'=>(∃ u,r = .tuple #[u,.int .i64 (MM d)]∧Vj w' w0.heap.size u (Wu d true))∧Ext w0 w':=by
 obtain ⟨mv,rfl,hM⟩:=hd
 have hm1:=Zd.oneCell hM
 refine Zdp (R:=ZO _) ?_;unfold Zdo
 rw [Wh]
 have Xz:=Z6.new (w:=w0) (Zz d mv) (28)
 have eW:Ext w0 (w0.alloc (Obj.cells (List.toArray (Zz d mv)) (28))):=(Ext.refl _).alloc _
 generalize (w0.alloc (Obj.cells (List.toArray (Zz d mv)) (28)))=W at Xz eW ⊢
 simp (disch:=try exact DI) only [↓PR,QR,simprocAttr,Xz.c3 (Ext.refl W)]
 refine Zs (HE _ _ d true ⟨_,rfl,hM.ext eW⟩ ht) ?_
 rintro _ w1 ⟨⟨u,rfl,hU⟩,e1⟩
 simp (disch:=try exact DI) only [↓PR,QR,simprocAttr]
 exact ⟨⟨u,rfl,hU.base eW.size⟩,eW.trans e1⟩
end Go.Proofs.YtfjjgjjlebllmaaGreat
namespace Go.Sw
open Go.RowKit (Below)
structure LW3 (B:Nat) (w w':Wd):Prop where
 os:w'.os=w.os
 tape:w'.tape=w.tape
 output:w'.output=w.output
 size:w.heap.size≤w'.heap.size
 block:∀ b,b < B→b < w.heap.size→w'.heap[b]?=w.heap[b]?
theorem LW3.mono {B B':Nat} {w w':Wd} (h:LW3 B w w') (hb:B'≤B):LW3 B' w w':=⟨h.os,h.tape,h.output,h.size,λ b hl=>h.block b (by omega)⟩
theorem LW3.of {B:Nat} {w w':Wd} (e:Ext w w'):LW3 B w w':=⟨e.os,e.tape,e.output,e.size,λ b _ hb=>e.block b hb⟩
theorem LW3.put {B l:Nat} {w:Wd} (hb:B≤l) (o:Obj):LW3 B w (w.putObj l o):=⟨rfl,rfl,rfl,by simp,λ b hB _=>World.putObj_heap_other (by omega)⟩
theorem LW3.setCell {B:Nat} {w:Wd} {p:Nat} (hb:B≤p) (o:Nat) (v:Vl):LW3 B w (w.setCell ⟨p,o,none⟩ v):=⟨rfl,rfl,rfl,by simp,λ b hB _=>Below.heap_setCell w ⟨p,o,none⟩ v b (by show b≠p;omega)⟩
def Yx (B:Nat) (I:WPr):Prop:=∀ w w',LW3 B w w'→I w→I w'
theorem Yx.ext {B:Nat} {I:WPr} (h:Yx B I) {w w':Wd} (hI:I w) (e:Ext w w'):I w':=h _ _ (.of e) hI
theorem Yx.cell {B:Nat} {I:WPr} (h:Yx B I) {w:Wd} (hI:I w) {p:Nat} (hb:B≤p) (o:Nat) (v:Vl):I (w.setCell ⟨p,o,none⟩ v):=h _ _ (.setCell hb o v) hI
theorem Yx.loop {B l:Nat} {I:WPr} (h:Yx B I) {w:Wd} {r:Loop} (hb:B≤l) (hI:I w) (_:w.heap[l]?=some (.loop r)) (o:Obj):I (w.putObj l o):=h _ _ (.put hb o) hI
theorem Yx.busied {B l:Nat} {I:WPr} {w w':Wd} (h:Yx B I) (hb:xr l w w') (hl:B≤l) (hI:I w):I w':=by
 obtain ⟨r,hr,rfl⟩:=hb
 exact h.loop hl hI hr _
theorem Yx.mono {B B':Nat} {I:WPr} (h:Yx B I) (hb:B≤B'):Yx B' I:=λ _ _ hl=>h _ _ (hl.mono hb)
theorem Yx.and {B:Nat} {I J:WPr} (h:Yx B I) (k:Yx B J):Yx B (λ w=>I w∧J w):=λ w w' hl hh=>⟨h _ _ hl hh.1,k _ _ hl hh.2⟩
theorem Yx.ex {B:Nat} {α:Sort _} {I:α→Wd→Prop} (h:∀ x,Yx B (I x)):Yx B (λ w=>∃ x,I x w):=λ w w' hl ⟨x,hx⟩=>⟨x,h x _ _ hl hx⟩
theorem Yx.const (B:Nat) (p:Prop):Yx B (λ _=>p):=λ _ _ _ h=>h
theorem Yx.from {B:Nat} {w0:Wd} (hb:w0.heap.size≤B):Yx B (Ext w0):=λ w w' hl e=>⟨hl.os.trans e.os,hl.tape.trans e.tape,hl.output.trans e.output,Nat.le_trans e.size hl.size,λ k hk=>by
 have:=e.size
 rw [hl.block k (by omega) (by omega)];exact e.block k hk⟩
theorem Yx.low {B b:Nat} (hb:b < B) (o:Obj):Yx B (λ w=>w.heap[b]?=some o):=λ w w' hl h=>by
 show w'.heap[b]?=some o
 rw [hl.block b hb (Array.getElem?_eq_some_iff.1 h).1];exact h
def NM (P:Program) (f:FuncId) (caps:AVl) (n:Nat) (xs ys:Nat→Vl) (FP:WPr):Prop:=
 ∀ (yv:Vl) (J:Nat→Wd→Prop) (Jx:WPr) (Jp:PEn) (w:Wd),yv.oneCell'=true→(∀ k w,J k w→FP w)→(∀ k,Yx w.heap.size (J k))→Yx w.heap.size Jx→(∀ ch,Yx w.heap.size (Jp ch)) →
  (∀ k,k < n→∀ Rk,Jv w.heap.size Rk→∀ w,J k w→Rk w→XB P yv #[xs k,ys k] (λ ch w'=>Rk w'∧Jp ch w') w (λ v w'=>Rk w'∧((v = .bool true∧J (k+1) w')∨(v = .bool false∧Jx w'))))→J 0 w →
  Calls P f (#[yv]++caps) w (λ e w'=>match e with
   | .returned _=>J n w'∨Jx w'
   | .panicked ch=>Jp ch w'
   | .outgrown=>False)
def Ma (P:Program) (fv:Vl) (ds:LDf) (body:Nat→Vl→Vl→Wd→(Wd→Prop)→(Nat→Wd→Prop)→(List PanicEntry→Wd→Prop)→Prop) (QP:List PanicEntry→LDf→Wd→Prop) (w:Wd)
 (k:LDf→Wd→Prop) (kx:List (LDf→Wd→Prop)):Prop:=
 ∃ (f:FuncId) (caps:AVl) (n:Nat) (xs ys:Nat→Vl) (FP:WPr) (I:Nat→Wd→Prop) (Ix:Nat→Wd→Prop) (Ip:PEn),
  fv = .func (.func f) #[] caps∧Callable P f∧NM P f caps n xs ys FP∧I 0 w∧(∀ k w,I k w→FP w)∧(∀ k,Yx w.heap.size (I k))∧(∀ c,Yx w.heap.size (Ix c))∧(∀ ch,Yx w.heap.size (Ip ch)) ∧
  (∀ (Rk:WPr),Jv (w.heap.size+1+1) Rk→∀ (j:Nat) (w':Wd),j < n→I j w'→Rk w'→w.heap.size+1 < w'.heap.size→zT (w.heap.size+1) w' →
   body (w.heap.size+1) (xs j) (ys j) w' (λ w''=>Rk w''∧I (j+1) w'') (λ c w''=>Rk w''∧Ix c w'') (λ ch w''=>Rk w''∧Ip ch w'')) ∧
  (∀ w',I n w'→ZR w.heap.size w'→k (mark w.heap.size::ds) w') ∧
  (∀ c w',Ix c w'→ZR w.heap.size w'→Il kx c (mark w.heap.size::ds) w') ∧
  (∀ ch w',Ip ch w'→ZR w.heap.size w'→QP ch (mark w.heap.size::ds) w')
section
variable {P:Program} {N:Nat}
theorem IW {g:Operand} {p p2:Nat} {asg body:Code} {Q:K} {QP:KP} {ρ:Env} {ds:LDf} {w:Wd} {fv:Vl} {nbody:Nat→Vl→Vl→Wd→(Wd→Prop)→(Nat→Wd→Prop)→(List PanicEntry→Wd→Prop)→Prop} {QPn:List PanicEntry→LDf→Wd→Prop}
 {k:LDf→Wd→Prop} {kx:List (LDf→Wd→Prop)} (js:List Code) (h:Ma P fv ds nbody QPn w k kx) (hg:ev ρ g=fv)
 (hbody:∀ l x y w K X QPr,nbody l x y w K X QPr→den P N (some l) asg (Q1 (λ ρ' ds' w'=>ds'=[]∧zW l w' (λ w''=>den P N (some l) body (IS js K X) (Ee QPr) ρ' [] w'')) (λ _ _ _ _=>False)) (λ _ _ _ _=>False) (put N (put N ρ (some p) x) (some p2) y) [] w)
 (hk:∀ ds w,k ds w→Q .normal ρ ds w) (hx:∀ c ds w,Il kx c ds w→∃ code,js[c]?=some code∧((code = .ret∧Q .ret ρ ds w)∨(∃ id,code = .exit id∧Q (.exit id) ρ ds w))) (hp:∀ ch ds w,QPn ch ds w→QP ch ρ ds w) :
 den P N none (.rangeFunc g #[p,p2] asg body) Q QP ρ ds w:=by
 intro a ha hds
 subst hds
 obtain ⟨f,caps,n,xs,ys,FP,I,Ix,Ip,hfv,hcal,hseq,h0,hFP,hL,hLx,hLp,hround,hend,hjump,hpan⟩:=h
 refine Kj λ fn hfn=>?_
 obtain ⟨rec,hrec⟩:∃ rec:Loop,rec={ state := .ready,pending:=none,fn,tmps:=a.tmps,params := #[p,p2],assign:=asg,body,defers:=w.heap.size }:=⟨_,rfl⟩
 obtain ⟨W1,hW1⟩:∃ W1,(w.alloc (.deferred (some []))).alloc (.loop rec)=W1:=⟨_,rfl⟩
 have hE1:Ext w W1:=by rw [← hW1];exact ((Ext.refl w).alloc _).alloc _
 have hW1s:W1.heap.size=w.heap.size+1+1:=by rw [← hW1];simp
 have hL1:W1.heap[w.heap.size+1]?=some (.loop rec):=by
  rw [← hW1];have:=World.alloc_heap_new (w.alloc (.deferred (some []))) (.loop rec);rwa [World.size_alloc] at this
 have hK1:ZR w.heap.size W1:=by
  rw [← hW1];exact ZR.alloc (World.alloc_heap_new w _) _
 have hev:a.eval g=fv:=by rw [ha.eval];exact hg
 refine ⟨w.heap.size+1,[mark w.heap.size],W1,{ target := .fn (.func f) caps,args := #[.func (.yield (w.heap.size+1)) #[] #[]] },W1,f,#[.func (.yield (w.heap.size+1)) #[] #[]]++caps,W1,?_,?_,?_,?_⟩
 · rw [← hW1,hrec];exact run_enterLoop_outer _ _ _ _ _
 · simp only [resolve,hev,hfv]
   simp [go_sem]
 · simp only [invoke]
   exact Wt hcal _ _
 · refine Calls.mono (hseq (.func (.yield (w.heap.size+1)) #[] #[]) (λ j w'=>I j w'∧ZR w.heap.size w'∧∃ p,w'.heap[w.heap.size+1]?=some (.loop { rec with state := .ready,pending:=p })∧p=none)
    (λ w'=>ZR w.heap.size w'∧∃ c code,Ix c w'∧js[c]?=some code∧w'.heap[w.heap.size+1]?=some (.loop { rec with state := .done,pending:=some code }))
    (λ ch w'=>ZR w.heap.size w'∧Ip ch w') W1 rfl (λ j w' hj=>hFP j w' hj.1) (λ j=>((hL j).mono (by omega)).and ((Yx.low (by omega) _).and (.ex λ q=>(Yx.low (by omega) _).and (.const _ _))))
    ((Yx.low (by omega) _).and (.ex λ c => .ex λ code=>((hLx c).mono (by omega)).and ((Yx.const _ _).and (Yx.low (by omega) _)))) (λ ch=>(Yx.low (by omega) _).and ((hLp ch).mono (by omega))) ?_ ⟨(hL 0).ext h0 hE1,hK1,none,by rw [hL1,hrec],rfl⟩) ?_
   · rintro j hj Rk hF w' ⟨hi,hm,q,hl,rfl⟩ hR
     have Yv:w.heap.size+1 < w'.heap.size:=(Array.getElem?_eq_some_iff.1 hl).1
     have hy:=run_yield (P:=P) (args := #[xs j,ys j]) hl (by rw [hrec];rfl)
     show Ur P _ _ _ _
     have hcs:JA (.func (.yield (w.heap.size+1)) #[] #[]) #[xs j,ys j]=Instr.yield (w.heap.size+1) #[xs j,ys j]:=by
      simp [JA,Deferred.ofValue,invoke,go_sem,bind,pure,Sem.bind]
     rw [hcs,hy]
     have key:∀ R,wpV (some (w.heap.size+1)) P asg (Exit.then (λ a₁ w₁=>∃ w₂,(Instr.beginRound (w.heap.size+1)).run P w₁ = .ok () w₂∧wpV (some (w.heap.size+1)) P body (S7 P (w.heap.size+1) R) a₁ w₂) (λ _ _ _=>False)) { tmps:=((#[p,p2].zip #[xs j,ys j]).foldl (λ tmps (t,a)=>tmps.setIfInBounds t a) a.tmps),defers:=[] } w' →
      Ke P (w.heap.size+1) rec.fn ((rec.params.zip #[xs j,ys j]).foldl (λ tmps (t,a)=>tmps.setIfInBounds t a) rec.tmps) rec.assign rec.body w' R:=by
      intro R h;rw [hrec];exact Kh hfn h
     refine key _ ?_
     have hb:=hbody _ _ _ _ _ _ _ (hround _ ((Xc.firm rec _ w.heap.size).and (hW1s ▸ hF)) j w' hj hi ⟨⟨hm,_,_,hl⟩,hR⟩ Yv ⟨_,hl,rfl⟩)
     have hagr:YJ N ({ tmps:=((#[p,p2].zip #[xs j,ys j]).foldl (λ tmps (t,a)=>tmps.setIfInBounds t a) a.tmps),defers:=[] }:Act) (put N (put N ρ (some p) (xs j)) (some p2) (ys j)):=by
      have:=((YJ.defers ha []).put (some p) (xs j)).put (some p2) (ys j)
      simpa [Act.put] using this
     refine XL (Wv asg _ _ _ _ _ hagr hb) ?_
     intro e a1 w1 hl1
     cases e with
     | panic ch=>obtain ⟨_,_,hf⟩:=hl1;exact hf.elim
     | outgrown=>exact hl1
     | exit id=>obtain ⟨_,_,_,hf⟩:=hl1;exact hf.elim
     | goto l=>obtain ⟨_,_,_,hf⟩:=hl1;exact hf.elim
     | ret=>obtain ⟨_,_,_,hf⟩:=hl1;exact hf.elim
     | normal=>
      obtain ⟨ρ1,ha1,_,hd1,hbz⟩:=hl1
      obtain ⟨⟨r,hr1,hr2⟩,hbz⟩:=hbz
      refine ⟨_,run_beginRound hr1 hr2,?_⟩
      rw [show a1={ a1 with defers:=[] } by rw [← hd1]]
      refine XL (Wv body _ _ _ _ _ (YJ.defers ha1 []) (hbz _ ⟨_,hr1,rfl⟩)) ?_
      have fin:∀ (jump:Option Code) (w2:Wd),Xc rec w.heap.size w2→(Instr.endRound (w.heap.size+1) jump).run P w2 = .ok (.bool jump.isNone) (w2.putObj (w.heap.size+1) (.loop { rec with state:=if jump.isNone then .ready else .done,pending:=jump })) ∧
       (w2.putObj (w.heap.size+1) (.loop { rec with state:=if jump.isNone then .ready else .done,pending:=jump })).heap[w.heap.size+1]?=some (.loop { rec with state:=if jump.isNone then .ready else .done,pending:=jump }) ∧
       ZR w.heap.size (w2.putObj (w.heap.size+1) (.loop { rec with state:=if jump.isNone then .ready else .done,pending:=jump })):=by
       rintro jump w2 ⟨hm2,st,q,hq⟩
       refine ⟨by have:=run_endRound (P:=P) jump hq;exact this,World.putObj_heap_same (Array.getElem?_eq_some_iff.1 hq).1,?_⟩
       unfold ZR
       rw [World.putObj_heap_other (by omega)];exact hm2
      intro e a2 w2 hl2
      cases e with
      | normal=>
       obtain ⟨_,_,_,_,⟨XC,hR2⟩,hi2⟩:=hl2
       obtain ⟨f1,f2,f3⟩:=fin none w2 XC
       obtain ⟨_,st,q,hq⟩:=XC
       exact ⟨_,_,f1,hF _ _ (KR.turn hq _ _) hR2,.inl ⟨rfl,(hL _).loop (Nat.le_succ _) hi2 hq _,f3,none,f2,rfl⟩⟩
      | ret=>
       obtain ⟨_,_,_,_,c,hc,⟨XC,hR2⟩,hi2⟩:=hl2
       obtain ⟨f1,f2,f3⟩:=fin (some .ret) w2 XC
       obtain ⟨_,st,q,hq⟩:=XC
       exact ⟨_,_,f1,hF _ _ (KR.turn hq _ _) hR2,.inr ⟨rfl,f3,c,_,(hLx _).loop (Nat.le_succ _) hi2 hq _,hc,f2⟩⟩
      | exit id=>
       obtain ⟨_,_,_,_,c,hc,⟨XC,hR2⟩,hi2⟩:=hl2
       obtain ⟨f1,f2,f3⟩:=fin (some (.exit id)) w2 XC
       obtain ⟨_,st,q,hq⟩:=XC
       exact ⟨_,_,f1,hF _ _ (KR.turn hq _ _) hR2,.inr ⟨rfl,f3,c,_,(hLx _).loop (Nat.le_succ _) hi2 hq _,hc,f2⟩⟩
      | panic ch=>
       obtain ⟨_,_,hd2,⟨XC,hR2⟩,hi2⟩:=hl2
       exact ⟨hd2,hR2,XC.1,hi2⟩
      | goto l=>obtain ⟨_,_,_,hf⟩:=hl2;exact hf.elim
      | outgrown=>exact hl2
   · have hagr:YJ N ({ a with defers:=[mark w.heap.size]++a.defers }:Act) ρ:=ha
     have exh:∀ (st:LoopState) (q:Option Code) (w':Wd),w'.heap[w.heap.size+1]?=some (.loop { rec with state:=st,pending:=q })→st ≠ .busy→ZR w.heap.size w' →
      (Instr.endLoop (w.heap.size+1)).run P w' = .ok q (w'.putObj (w.heap.size+1) (.loop { rec with state := .exhausted,pending:=q }))∧ZR w.heap.size (w'.putObj (w.heap.size+1) (.loop { rec with state := .exhausted,pending:=q })):=by
      intro st q w' hq Xv hm
      refine ⟨by have:=run_endLoop (P:=P) hq Xv;exact this,?_⟩
      unfold ZR
      rw [World.putObj_heap_other (by omega)];exact hm
     rintro e w' he
     cases e with
     | returned v=>
      rcases he with ⟨hi,hm,q,hl,rfl⟩ | ⟨hm,c,code,hi,hc,hl⟩
      · obtain ⟨e1,e2⟩:=exh _ _ w' hl (by simp) hm
        exact ⟨none,_,e1,hagr,hk _ _ (hend _ ((hL _).loop (Nat.le_succ _) hi hl _) e2)⟩
      · obtain ⟨e1,e2⟩:=exh _ _ w' hl (by simp) hm
        refine ⟨some code,_,e1,?_⟩
        obtain ⟨code',hc',hden⟩:=hx c _ _ (hjump c _ ((hLx _).loop (Nat.le_succ _) hi hl _) e2)
        rw [hc] at hc';cases hc'
        rcases hden with ⟨rfl,hq⟩ | ⟨id,rfl,hq⟩
        · exact jL ⟨hagr,hq⟩
        · exact xq ⟨hagr,hq⟩
     | panicked ch=>exact ⟨hagr,hp _ _ _ (hpan ch _ he.2 he.1)⟩
     | outgrown=>exact he.elim
end
end Go.Sw
namespace Go.Sw
open Go.RowKit (Below)
def NN (P:Program) (f:FuncId) (caps:AVl) (n:Nat) (xs ys:Nat→Vl) (FP:WPr):Prop:=
 ∀ (yv:Vl) (J:Nat→Wd→Prop) (Jx:WPr) (Jp:PEn) (w:Wd),yv.oneCell'=true→(∀ k w,J k w→FP w)→(∀ w,Jx w→FP w)→(∀ k,Yo w.heap.size (J k))→Yo w.heap.size Jx→(∀ ch,Yo w.heap.size (Jp ch)) →
  (∀ k,k < n→∀ Rk,Jv w.heap.size Rk→∀ w,J k w→Rk w→XB P yv #[xs k,ys k] (λ ch w'=>Rk w'∧Jp ch w') w (λ v w'=>Rk w'∧((v = .bool true∧J (k+1) w')∨(v = .bool false∧Jx w'))))→J 0 w →
  Calls P f (#[yv]++caps) w (λ e w'=>match e with
   | .returned _=>J n w'∨Jx w'
   | .panicked ch=>Jp ch w'
   | .outgrown=>False)
def Mb (P:Program) (fv:Vl) (ds:LDf) (body:Nat→Vl→Vl→Wd→(Wd→Prop)→(Nat→Wd→Prop)→(List PanicEntry→Wd→Prop)→Prop) (QP:List PanicEntry→LDf→Wd→Prop) (w:Wd)
 (k:LDf→Wd→Prop) (kx:List (LDf→Wd→Prop)):Prop:=
 ∃ (f:FuncId) (caps:AVl) (n:Nat) (xs ys:Nat→Vl) (FP:WPr) (I:Nat→Wd→Prop) (Ix:Nat→Wd→Prop) (Ip:PEn),
  fv = .func (.func f) #[] caps∧Callable P f∧NN P f caps n xs ys FP∧I 0 w∧(∀ k w,I k w→FP w)∧(∀ c w,Ix c w→FP w)∧(∀ k,Yo w.heap.size (I k))∧(∀ c,Yo w.heap.size (Ix c))∧(∀ ch,Yo w.heap.size (Ip ch)) ∧
  (∀ (Rk:WPr),Jv (w.heap.size+1+1) Rk→∀ (j:Nat) (w':Wd),j < n→I j w'→Rk w'→w.heap.size+1 < w'.heap.size→zT (w.heap.size+1) w' →
   body (w.heap.size+1) (xs j) (ys j) w' (λ w''=>Rk w''∧I (j+1) w'') (λ c w''=>Rk w''∧Ix c w'') (λ ch w''=>Rk w''∧Ip ch w'')) ∧
  (∀ w',I n w'→ZR w.heap.size w'→k (mark w.heap.size::ds) w') ∧
  (∀ c w',Ix c w'→ZR w.heap.size w'→Il kx c (mark w.heap.size::ds) w') ∧
  (∀ ch w',Ip ch w'→ZR w.heap.size w'→QP ch (mark w.heap.size::ds) w')
section
variable {P:Program} {N:Nat}
theorem IX {g:Operand} {p p2:Nat} {asg body:Code} {Q:K} {QP:KP} {ρ:Env} {ds:LDf} {w:Wd} {fv:Vl} {nbody:Nat→Vl→Vl→Wd→(Wd→Prop)→(Nat→Wd→Prop)→(List PanicEntry→Wd→Prop)→Prop} {QPn:List PanicEntry→LDf→Wd→Prop}
 {k:LDf→Wd→Prop} {kx:List (LDf→Wd→Prop)} (js:List Code) (h:Mb P fv ds nbody QPn w k kx) (hg:ev ρ g=fv)
 (hbody:∀ l x y w K X QPr,nbody l x y w K X QPr→den P N (some l) asg (Q1 (λ ρ' ds' w'=>ds'=[]∧zW l w' (λ w''=>den P N (some l) body (IS js K X) (Ee QPr) ρ' [] w'')) (λ _ _ _ _=>False)) (λ _ _ _ _=>False) (put N (put N ρ (some p) x) (some p2) y) [] w)
 (hk:∀ ds w,k ds w→Q .normal ρ ds w) (hx:∀ c ds w,Il kx c ds w→∃ code,js[c]?=some code∧((code = .ret∧Q .ret ρ ds w)∨(∃ id,code = .exit id∧Q (.exit id) ρ ds w))) (hp:∀ ch ds w,QPn ch ds w→QP ch ρ ds w) :
 den P N none (.rangeFunc g #[p,p2] asg body) Q QP ρ ds w:=by
 intro a ha hds
 subst hds
 obtain ⟨f,caps,n,xs,ys,FP,I,Ix,Ip,hfv,hcal,hseq,h0,hFP,hFX,hL,hLx,hLp,hround,hend,hjump,hpan⟩:=h
 refine Kj λ fn hfn=>?_
 obtain ⟨rec,hrec⟩:∃ rec:Loop,rec={ state := .ready,pending:=none,fn,tmps:=a.tmps,params := #[p,p2],assign:=asg,body,defers:=w.heap.size }:=⟨_,rfl⟩
 obtain ⟨W1,hW1⟩:∃ W1,(w.alloc (.deferred (some []))).alloc (.loop rec)=W1:=⟨_,rfl⟩
 have hE1:Ext w W1:=by rw [← hW1];exact ((Ext.refl w).alloc _).alloc _
 have hW1s:W1.heap.size=w.heap.size+1+1:=by rw [← hW1];simp
 have hL1:W1.heap[w.heap.size+1]?=some (.loop rec):=by
  rw [← hW1];have:=World.alloc_heap_new (w.alloc (.deferred (some []))) (.loop rec);rwa [World.size_alloc] at this
 have hK1:ZR w.heap.size W1:=by
  rw [← hW1];exact ZR.alloc (World.alloc_heap_new w _) _
 have hev:a.eval g=fv:=by rw [ha.eval];exact hg
 refine ⟨w.heap.size+1,[mark w.heap.size],W1,{ target := .fn (.func f) caps,args := #[.func (.yield (w.heap.size+1)) #[] #[]] },W1,f,#[.func (.yield (w.heap.size+1)) #[] #[]]++caps,W1,?_,?_,?_,?_⟩
 · rw [← hW1,hrec];exact run_enterLoop_outer _ _ _ _ _
 · simp only [resolve,hev,hfv]
   simp [go_sem]
 · simp only [invoke]
   exact Wt hcal _ _
 · refine Calls.mono (hseq (.func (.yield (w.heap.size+1)) #[] #[]) (λ j w'=>I j w'∧ZR w.heap.size w'∧∃ p,w'.heap[w.heap.size+1]?=some (.loop { rec with state := .ready,pending:=p })∧p=none)
    (λ w'=>ZR w.heap.size w'∧∃ c code,Ix c w'∧js[c]?=some code∧w'.heap[w.heap.size+1]?=some (.loop { rec with state := .done,pending:=some code }))
    (λ ch w'=>ZR w.heap.size w'∧Ip ch w') W1 rfl (λ j w' hj=>hFP j w' hj.1) (λ w' hj=>let ⟨_,c,_,hc,_⟩:=hj;hFX c w' hc) (λ j=>((hL j).mono (by omega)).and ((Yo.low (by omega) _).and (.ex λ q=>(Yo.low (by omega) _).and (.const _ _))))
    ((Yo.low (by omega) _).and (.ex λ c => .ex λ code=>((hLx c).mono (by omega)).and ((Yo.const _ _).and (Yo.low (by omega) _)))) (λ ch=>(Yo.low (by omega) _).and ((hLp ch).mono (by omega))) ?_ ⟨(hL 0).ext h0 hE1,hK1,none,by rw [hL1,hrec],rfl⟩) ?_
   · rintro j hj Rk hF w' ⟨hi,hm,q,hl,rfl⟩ hR
     have Yv:w.heap.size+1 < w'.heap.size:=(Array.getElem?_eq_some_iff.1 hl).1
     have hy:=run_yield (P:=P) (args := #[xs j,ys j]) hl (by rw [hrec];rfl)
     show Ur P _ _ _ _
     have hcs:JA (.func (.yield (w.heap.size+1)) #[] #[]) #[xs j,ys j]=Instr.yield (w.heap.size+1) #[xs j,ys j]:=by
      simp [JA,Deferred.ofValue,invoke,go_sem,bind,pure,Sem.bind]
     rw [hcs,hy]
     have key:∀ R,wpV (some (w.heap.size+1)) P asg (Exit.then (λ a₁ w₁=>∃ w₂,(Instr.beginRound (w.heap.size+1)).run P w₁ = .ok () w₂∧wpV (some (w.heap.size+1)) P body (S7 P (w.heap.size+1) R) a₁ w₂) (λ _ _ _=>False)) { tmps:=((#[p,p2].zip #[xs j,ys j]).foldl (λ tmps (t,a)=>tmps.setIfInBounds t a) a.tmps),defers:=[] } w' →
      Ke P (w.heap.size+1) rec.fn ((rec.params.zip #[xs j,ys j]).foldl (λ tmps (t,a)=>tmps.setIfInBounds t a) rec.tmps) rec.assign rec.body w' R:=by
      intro R h;rw [hrec];exact Kh hfn h
     refine key _ ?_
     have hb:=hbody _ _ _ _ _ _ _ (hround _ ((Xc.firm rec _ w.heap.size).and (hW1s ▸ hF)) j w' hj hi ⟨⟨hm,_,_,hl⟩,hR⟩ Yv ⟨_,hl,rfl⟩)
     have hagr:YJ N ({ tmps:=((#[p,p2].zip #[xs j,ys j]).foldl (λ tmps (t,a)=>tmps.setIfInBounds t a) a.tmps),defers:=[] }:Act) (put N (put N ρ (some p) (xs j)) (some p2) (ys j)):=by
      have:=((YJ.defers ha []).put (some p) (xs j)).put (some p2) (ys j)
      simpa [Act.put] using this
     refine XL (Wv asg _ _ _ _ _ hagr hb) ?_
     intro e a1 w1 hl1
     cases e with
     | panic ch=>obtain ⟨_,_,hf⟩:=hl1;exact hf.elim
     | outgrown=>exact hl1
     | exit id=>obtain ⟨_,_,_,hf⟩:=hl1;exact hf.elim
     | goto l=>obtain ⟨_,_,_,hf⟩:=hl1;exact hf.elim
     | ret=>obtain ⟨_,_,_,hf⟩:=hl1;exact hf.elim
     | normal=>
      obtain ⟨ρ1,ha1,_,hd1,hbz⟩:=hl1
      obtain ⟨⟨r,hr1,hr2⟩,hbz⟩:=hbz
      refine ⟨_,run_beginRound hr1 hr2,?_⟩
      rw [show a1={ a1 with defers:=[] } by rw [← hd1]]
      refine XL (Wv body _ _ _ _ _ (YJ.defers ha1 []) (hbz _ ⟨_,hr1,rfl⟩)) ?_
      have fin:∀ (jump:Option Code) (w2:Wd),Xc rec w.heap.size w2→(Instr.endRound (w.heap.size+1) jump).run P w2 = .ok (.bool jump.isNone) (w2.putObj (w.heap.size+1) (.loop { rec with state:=if jump.isNone then .ready else .done,pending:=jump })) ∧
       (w2.putObj (w.heap.size+1) (.loop { rec with state:=if jump.isNone then .ready else .done,pending:=jump })).heap[w.heap.size+1]?=some (.loop { rec with state:=if jump.isNone then .ready else .done,pending:=jump }) ∧
       ZR w.heap.size (w2.putObj (w.heap.size+1) (.loop { rec with state:=if jump.isNone then .ready else .done,pending:=jump })):=by
       rintro jump w2 ⟨hm2,st,q,hq⟩
       refine ⟨by have:=run_endRound (P:=P) jump hq;exact this,World.putObj_heap_same (Array.getElem?_eq_some_iff.1 hq).1,?_⟩
       unfold ZR
       rw [World.putObj_heap_other (by omega)];exact hm2
      intro e a2 w2 hl2
      cases e with
      | normal=>
       obtain ⟨_,_,_,_,⟨XC,hR2⟩,hi2⟩:=hl2
       obtain ⟨f1,f2,f3⟩:=fin none w2 XC
       obtain ⟨_,st,q,hq⟩:=XC
       exact ⟨_,_,f1,hF _ _ (KR.turn hq _ _) hR2,.inl ⟨rfl,(hL _).loop (Nat.le_succ _) hi2 hq _,f3,none,f2,rfl⟩⟩
      | ret=>
       obtain ⟨_,_,_,_,c,hc,⟨XC,hR2⟩,hi2⟩:=hl2
       obtain ⟨f1,f2,f3⟩:=fin (some .ret) w2 XC
       obtain ⟨_,st,q,hq⟩:=XC
       exact ⟨_,_,f1,hF _ _ (KR.turn hq _ _) hR2,.inr ⟨rfl,f3,c,_,(hLx _).loop (Nat.le_succ _) hi2 hq _,hc,f2⟩⟩
      | exit id=>
       obtain ⟨_,_,_,_,c,hc,⟨XC,hR2⟩,hi2⟩:=hl2
       obtain ⟨f1,f2,f3⟩:=fin (some (.exit id)) w2 XC
       obtain ⟨_,st,q,hq⟩:=XC
       exact ⟨_,_,f1,hF _ _ (KR.turn hq _ _) hR2,.inr ⟨rfl,f3,c,_,(hLx _).loop (Nat.le_succ _) hi2 hq _,hc,f2⟩⟩
      | panic ch=>
       obtain ⟨_,_,hd2,⟨XC,hR2⟩,hi2⟩:=hl2
       exact ⟨hd2,hR2,XC.1,hi2⟩
      | goto l=>obtain ⟨_,_,_,hf⟩:=hl2;exact hf.elim
      | outgrown=>exact hl2
   · have hagr:YJ N ({ a with defers:=[mark w.heap.size]++a.defers }:Act) ρ:=ha
     have exh:∀ (st:LoopState) (q:Option Code) (w':Wd),w'.heap[w.heap.size+1]?=some (.loop { rec with state:=st,pending:=q })→st ≠ .busy→ZR w.heap.size w' →
      (Instr.endLoop (w.heap.size+1)).run P w' = .ok q (w'.putObj (w.heap.size+1) (.loop { rec with state := .exhausted,pending:=q }))∧ZR w.heap.size (w'.putObj (w.heap.size+1) (.loop { rec with state := .exhausted,pending:=q })):=by
      intro st q w' hq Xv hm
      refine ⟨by have:=run_endLoop (P:=P) hq Xv;exact this,?_⟩
      unfold ZR
      rw [World.putObj_heap_other (by omega)];exact hm
     rintro e w' he
     cases e with
     | returned v=>
      rcases he with ⟨hi,hm,q,hl,rfl⟩ | ⟨hm,c,code,hi,hc,hl⟩
      · obtain ⟨e1,e2⟩:=exh _ _ w' hl (by simp) hm
        exact ⟨none,_,e1,hagr,hk _ _ (hend _ ((hL _).loop (Nat.le_succ _) hi hl _) e2)⟩
      · obtain ⟨e1,e2⟩:=exh _ _ w' hl (by simp) hm
        refine ⟨some code,_,e1,?_⟩
        obtain ⟨code',hc',hden⟩:=hx c _ _ (hjump c _ ((hLx _).loop (Nat.le_succ _) hi hl _) e2)
        rw [hc] at hc';cases hc'
        rcases hden with ⟨rfl,hq⟩ | ⟨id,rfl,hq⟩
        · exact jL ⟨hagr,hq⟩
        · exact xq ⟨hagr,hq⟩
     | panicked ch=>exact ⟨hagr,hp _ _ _ (hpan ch _ he.2 he.1)⟩
     | outgrown=>exact he.elim
end
end Go.Sw
namespace Go.Proofs.YtfjjgjjlebllmaaGreat
open Sw
open Go.RowKit (intOf Below)
theorem zI (w0:Wd) (v:Vl) (m:ZC) (i:Nat) (f:Zl) (hm:Qr w0 v m) (hi:m.fields[i]?=some f) (hd:BJ (m.fields.take i)) (ht:f.terms.length≤1048576):Ret Pg 150 #[v,.int .i64 (i:Int)] w0 λ r w'=>r = .int .i64 (Qz (YD (m.fields.take i)) f)∧Ext w0 w':=by
 obtain ⟨fv,rfl,hF⟩:=hm
 have hF0:=hF
 refine Zih (R:=ZO _) ?_;unfold n36
 simp (disch:=try exact DI) only [↓PR,QR,simprocAttr]
 have Xz:=Z6.new (w:=w0) (Z8 m fv) (24)
 have eW:Ext w0 (w0.alloc (Obj.cells (List.toArray (Z8 m fv)) (24))):=(Ext.refl _).alloc _
 generalize (w0.alloc (Obj.cells (List.toArray (Z8 m fv)) (24)))=W at Xz eW ⊢
 obtain ⟨b,o,c,rfl,hlc,hcm,hlm,hil,Y3⟩:=J4 hF hi
 obtain ⟨cs,_,hA,hE⟩:=Y3 i f hi
 obtain ⟨tv,cv,rfl,hT,hC,ht1,hc1⟩:=hE.op
 have hT0:=hT
 obtain ⟨At,ct,rfl,hlct,hcmt,hlmt,helt⟩:=Zd.open hT
 have hcA:=hA.c15 eW
 simp (disch:=try exact DI) only [↓PR,QR,simprocAttr,Xz.c2 (Ext.refl W),hcA]
 have hBX:=Z6.new (w:=W) ([.int .i64 f.base,.slice At f.terms.length ct]) (45)
 have eX:Ext W (W.alloc (Obj.cells (List.toArray ([.int .i64 f.base,.slice At f.terms.length ct])) (45))):=(Ext.refl _).alloc _
 generalize (W.alloc (Obj.cells (List.toArray ([.int .i64 f.base,.slice At f.terms.length ct])) (45)))=X at hBX eX ⊢
 refine zcr (J9 _ _ f.base f.terms ⟨_,rfl,ZV.ext hT0 (eW.trans eX)⟩) λ w1 e1=>?_
 have E1:Ext w0 w1:=eW.trans (eX.trans e1)
 unfold ZaJ
 cases hs:WO f.base f.terms with
 | false=>
  simp (disch:=try exact DI) only [↓PR,QR,simprocAttr]
  exact ⟨by unfold Qz;rw [hs];rfl,E1⟩
 | true=>
 obtain ⟨_,h4,_⟩:=Kd hs
 have VF:Qz (YD (m.fields.take i)) f=orC (Wn (YD (m.fields.take i)) f.terms) (Yj (HO f.base f.terms (YD (m.fields.take i))) 9):=by unfold Qz;rw [hs];rfl
 rw [VF]
 have hnf:=CG hd
 generalize hrp:YD (m.fields.take i)=rp at hnf ⊢
 simp (disch:=try exact DI) only [↓PR,QR,simprocAttr]
 refine Yn (λ a b w'=>∃ (k:Nat) (sv:Vl),a=sv∧b = .int .i64 k∧k≤f.terms.length∧Ext w1 w'∧Yk w' w1.heap.size 206 3 Ga sv (Gh rp (f.terms.take k))∧∀ t∈f.terms.take k,(Ym rp t.field).isSome=true) (λ _ b _=>f.terms.length - (intOf b).toNat) ⟨0,_,rfl,rfl,by omega,Ext.refl _,Yk.nil _ _ _ _ _,by simp⟩ ?_
 rintro sv _ w ⟨k,_,rfl,rfl,hk,e,hO,hin⟩
 have E:=E1.trans e
 have hcX:=hBX.c2 (e1.trans e)
 have hcW:=Xz.c2 (eX.trans (e1.trans e))
 unfold ZaI
 rcases ZD hk with ⟨x,hx,hdr,Yv,ZJ⟩ | ⟨hk,hdr,ZJ⟩
 · obtain ⟨bt,ot,cst,rfl,_,hAt,rfl⟩:=helt k x hx
   simp (disch:=try exact DI) only [↓PR,QR,simprocAttr,ZJ,hcX]
   refine Zy ?_
   unfold ZaF
   simp (disch:=try exact DI) only [↓PR,QR,simprocAttr,hcX,hcW,hAt.c2 E]
   refine zcr (Jb _ _ m x.field i ⟨_,rfl,hF0.ext ee⟩ (Nat.le_of_lt hil)) λ w2 e2=>?_
   refine ⟨e2,?_⟩
   unfold ZaE
   rcases hnf x.field with ⟨h1,h2⟩ | ⟨kk,g,h1,h2,h3⟩
   · rw [h1]
     simp (disch:=try exact DI) only [↓PR,QR,simprocAttr]
     exact ⟨by rw [KU (List.mem_of_getElem? hx) h2];rfl,ee⟩
   · have hg:=xi h2
     have Uv:kk < m.fields.length:=(List.getElem?_eq_some_iff.1 hg).1
     obtain ⟨csg,_,hAg,hEg⟩:=Y3 kk g hg
     obtain ⟨tg,cg,rfl,hTg,hCg,htg,hcg⟩:=hEg.op
     have f2:Ext w0 w2:=E.drew.trans e2
     have hcg2:=hAg.c15 f2
     have hcW2:=Xz.c2 (eX.trans (e1.trans (e.drew.trans e2)))
     have hcX2:=hBX.c2 (e1.trans (e.drew.trans e2))
     rw [h1]
     simp (disch:=try exact DI) only [↓PR,QR,simprocAttr,show decide ((kk:Int) < 0)=false by simp,hcW2,hcg2]
     refine zcr (J7 _ _ g ⟨tg,cg,rfl,hTg.ext f2,hCg.ext f2⟩) λ w3 e3=>?_
     have f3:=f2.trans e3
     have hd0:decide ((kk:Int) < 0)=false:=by simp
     cases hn:Y7 g with
     | false=>
      rw [hn,if_neg (by simp)] at h3
      simp (disch:=try exact DI) only [↓PR,QR,simprocAttr,hd0]
      exact ⟨by rw [KU (List.mem_of_getElem? hx) h3];rfl,f3⟩
     | true=>
      rw [hn,if_pos rfl] at h3
      have eW3:Ext w1 w3:=e.drew.trans (e2.trans e3)
      simp (disch:=try exact DI) only [↓PR,QR,simprocAttr,hd0]
      unfold ZaD
      simp (disch:=try exact DI) only [↓PR,QR,simprocAttr,Xz.c2 (eX.trans (e1.trans eW3)),hAg.c15 f3]
      refine zcr (zG _ _ g ⟨tg,cg,rfl,hTg.ext f3,hCg.ext f3⟩) λ w4 e4=>?_
      have eW4:Ext w1 w4:=eW3.trans e4
      have f4:=f3.trans e4
      unfold ZaC
      simp (disch:=try exact DI) only [↓PR,QR,simprocAttr,hBX.c2 (e1.trans eW4),hAt.c2 f4]
      have hO4:=hO.ext (((((Ext.refl w).drew.trans e2).trans e3).trans e4).alloc (Obj.cells #[.string x.field,.int .i64 g.low,.int .i64 (Xk g)] 206))
      have hlk:(Gh rp (f.terms.take k)).length=k:=by unfold Gh;rw [List.length_map,List.length_take];omega
      have sw:=eW4.size
      refine VO underlying173 jt TS rfl (by decide) (λ _=>rfl) (x.field,g.low,Xk g) (by simp only [Ga,List.forall_mem_cons];exact ⟨rfl,rfl,rfl,by simp⟩) hO4 (Z6.new _ _) (by simp only [World.size_alloc];omega) (by rw [hlk];omega) ?_
      intro v' w' hO' hext
      have eN:Ext w1 w':=hext w1 (eW4.alloc _) (Nat.le_refl _)
      simp (disch:=try exact DI) only [↓PR,QR,simprocAttr]
      refine ⟨⟨k+1,v',rfl,rfl,by omega,eN,?_,NS hin hx (by rw [h3];rfl)⟩,ZM (kd := .i64) Yv⟩
      have:Gh rp (f.terms.take (k+1))=Gh rp (f.terms.take k)++[(x.field,g.low,Xk g)]:=by
       unfold Gh
       rw [Z4 hx,List.map_append]
       simp only [List.map_cons,List.map_nil]
       rw [Bq h3]
      rw [this]
      exact hO'
 · subst hk
   rw [List.take_length] at hO hin
   simp (disch:=try exact DI) only [↓PR,QR,simprocAttr,ZJ,hcX]
   have hs3:GY w sv (Gh rp f.terms):=hO.slice (E:=SJ) (λ _=>rfl) (λ _ _=>rfl)
   have hcon:=Fa (base:=f.base) (rp:=Gh rp f.terms) (rp':=rp) (ts:=f.terms) λ t ht=>BE hin ht
   refine zcr (GU _ _ sv f.base f.terms (Gh rp f.terms) ⟨_,rfl,hT0.ext E⟩ hs3 (λ t ht=>by rw [BE hin ht];exact hin t ht)) λ w2 e2=>?_
   have E2:=E.trans e2
   unfold Au
   rw [hcon.1,hcon.2.1,hcon.2.2,jg hin]
   unfold ZaH
   have hL:(YR f.base f.terms rp != 0||decide (Y5 f.base f.terms rp < 0)||decide (1048576 < Y4 f.base f.terms rp))=!HO f.base f.terms rp:=by
    unfold HO
    rw [Bool.eq_iff_iff]
    simp only [Bool.or_eq_true,bne_iff_ne,decide_eq_true_eq,Bool.not_eq_true',Bool.and_eq_false_iff,beq_eq_false_iff_ne,decide_eq_false_iff_not]
    omega
   simp (disch:=try exact DI) only [↓PR,QR,simprocAttr,ZaG,hL]
   cases HO f.base f.terms rp with
   | false=>simp (disch:=try exact DI) only [↓PR,QR,simprocAttr];exact ⟨rfl,E2⟩
   | true=>simp (disch:=try exact DI) only [↓PR,QR,simprocAttr];exact ⟨rfl,E2⟩
theorem jJ {hi n a b:Int}:Z2 hi n [a,b]=if a < n∨hi < a∨b < a∨hi < b then 7 else 0:=by
 by_cases h1:a < n<;>by_cases h2:hi < a<;>by_cases h3:b < a<;>by_cases h4:hi < b<;>simp [Z2,Yj,orC, *]<;>omega
theorem JJ {α:Type} {p:α→Bool} {l:List α}:decide (idx p l < 0)=!l.any p:=by
 rw [← Qq]
 by_cases h:idx p l < 0
 · have:¬ 0≤idx p l:=by omega
   simp [h,this]
 · have:0≤idx p l:=by omega
   simp [h,this]
theorem IF (w0:Wd) (v u:Vl) (d:YQ) (n:Nat) (f:Zl) (lo hi:Int) (deps:List (BAr×Int)) (hd:YT w0 v d) (hn:n≤d.msgs.length) (hf:Yh w0 u f) (hD:∀ s,(ZB deps s).isSome=(d.msgs.take n).any λ m=>decide (m.name=s)) (hlo : -4611686018427387904≤lo) (hhi:hi≤4611686018427387904) :
 Ret Pg 153 #[v,.int .i64 (n:Int),u,.int .i64 lo,.int .i64 hi] w0 λ r w'=>r = .int .i64 (orC (Yj (decide (1≤(f.cases.length:Int))&&decide ((f.cases.length:Int)≤40)) 3) (WS hi (vI deps) lo f.cases))∧Ext w0 w':=by
 obtain ⟨mv,rfl,hM⟩:=hd
 obtain ⟨tv,cv,rfl,hT,hC,ht1,hc1⟩:=hf.op
 refine Zic (R:=ZO _) ?_;unfold n30
 rw [Wh]
 have Xz:=Z6.new (w:=w0) (Zz d mv) (28)
 have eW:Ext w0 (w0.alloc (Obj.cells (List.toArray (Zz d mv)) (28))):=(Ext.refl _).alloc _
 generalize (w0.alloc (Obj.cells (List.toArray (Zz d mv)) (28)))=W at Xz eW ⊢
 rw [Wh]
 have hBX:=Z6.new (w:=W) (Zm f tv cv) (48)
 have eX:Ext W (W.alloc (Obj.cells (List.toArray (Zm f tv cv)) (48))):=(Ext.refl _).alloc _
 generalize (W.alloc (Obj.cells (List.toArray (Zm f tv cv)) (48)))=X at hBX eX ⊢
 obtain ⟨A,c,rfl,hlc,hcm,hlm,Y3⟩:=Zd.open hC
 have hcX:=hBX.c15 (Ext.refl X)
 simp (disch:=try exact DI) only [↓PR,QR,Int.reduceBEq,Int.reduceBNe,Int.reduceLT,Int.reduceLE,Int.reduceGT,Int.reduceGE,Int.reduceNeg,hcX]
 have Xl:(decide ((f.cases.length:Int) < 1)||decide (40 < (f.cases.length:Int)))=!(decide (1≤(f.cases.length:Int))&&decide ((f.cases.length:Int)≤40)):=by
  rw [Bool.eq_iff_iff];simp only [Bool.or_eq_true,decide_eq_true_eq,Bool.not_eq_true',Bool.and_eq_false_iff,decide_eq_false_iff_not];omega
 rw [Xl]
 have EX:Ext w0 X:=eW.trans eX
 cases hl:(decide (1≤(f.cases.length:Int))&&decide ((f.cases.length:Int)≤40)) with
 | false=>simp (disch:=try exact DI) only [↓PR,QR,simprocAttr];exact ⟨rfl,EX⟩
 | true=>
 simp (disch:=try exact DI) only [↓PR,QR,Int.reduceBEq,Int.reduceBNe,Int.reduceLT,Int.reduceLE,Int.reduceGT,Int.reduceGE,Int.reduceNeg]
 refine ZF (λ a w'=>∃ (k:Nat) (b:Int),a = .int .i64 k∧k≤f.cases.length∧Ext X w'∧WS hi (vI deps) b (f.cases.drop k)=WS hi (vI deps) lo f.cases∧lo≤b∧(k=0→b=lo)∧∀ j p,k=j+1→f.cases[j]?=some p→b=p.high+1) (λ b _=>f.cases.length - (intOf b).toNat) ⟨0,lo,rfl,by omega,Ext.refl _,rfl,Int.le_refl _,λ _=>rfl,λ j p h=>by omega⟩ ?_
 rintro _ w ⟨k,b,rfl,hk,e,hI,hb0,hb1,hb2⟩
 have hcX:=hBX.c15 e
 have E:=EX.trans e
 unfold yL
 rcases ZD hk with ⟨x,hx,hdr,Yv,ZJ⟩ | ⟨hk,hdr,ZJ⟩
 ·
  simp (disch:=try exact DI) only [↓PR,QR,Int.reduceBEq,Int.reduceBNe,Int.reduceLT,Int.reduceLE,Int.reduceGT,Int.reduceGE,Int.reduceNeg,ZJ,hcX]
  obtain ⟨bc,oc,cc,hA,_,_,_,_,hel2⟩:=J4 hC hx
  injection hA with hA _ _
  subst hA
  obtain ⟨csc,_,hAc,rfl⟩:=hel2 k x hx
  have hcx:=hAc.c3 E
  unfold yK
  simp (disch:=try exact DI) only [↓PR,QR,Int.reduceBEq,Int.reduceBNe,Int.reduceLT,Int.reduceLE,Int.reduceGT,Int.reduceGE,Int.reduceNeg,hcX,hcx]
  have hBY:=Z6.new (w:=w) (W8 x) (60)
  have eY:Ext w (w.alloc (Obj.cells (List.toArray (W8 x)) (60))):=(Ext.refl _).alloc _
  generalize (w.alloc (Obj.cells (List.toArray (W8 x)) (60)))=Y at hBY eY ⊢
  have hcY:=hBY.c3 (Ext.refl Y)
  have hcW:=Xz.c3 (eX.trans (e.trans eY))
  have EY:Ext w0 Y:=E.trans eY
  refine Zy ?_
  rw [hdr] at hI
  simp only [WS,jJ] at hI
  have hI7:(x.low < b∨hi < x.low∨x.high < x.low∨hi < x.high)→WS hi (vI deps) lo f.cases=7:=λ h=>by rw [← hI,if_pos h];rfl
  have hI0:¬ (x.low < b∨hi < x.low∨x.high < x.low∨hi < x.high)→orC (Yj (Yz (vI deps) x.of).isSome 8) (WS hi (vI deps) (x.high+1) (f.cases.drop (k+1)))=WS hi (vI deps) lo f.cases:=λ h=>by
   rw [← hI,if_neg h,Z0 (by omega) (by omega)];rfl
  clear hI
  unfold yJ
  rcases k with _ | k'
  case' zero=>
   have hb:=hb1 rfl
   subst hb
   simp (disch:=try exact DI) only [↓PR,QR,Int.reduceBEq,Int.reduceBNe,Int.reduceLT,Int.reduceLE,Int.reduceGT,Int.reduceGE,Int.reduceNeg,hcY,hcX,↓qM,↓qO,↓qP,↓qQ,↓qR,↓qS,↓yJ,↓yK,↓yL,show decide ((0:Int) < ((0:Nat):Int))=false by decide]
   refine U3 (λ hg=>?_) (λ hg=>?_)
   all_goals simp (disch:=try exact DI) only [↓PR,QR,Int.reduceBEq,Int.reduceBNe,Int.reduceLT,Int.reduceLE,Int.reduceGT,Int.reduceGE,Int.reduceNeg,hg,hcW,hcY,↓qM,↓qO,↓qP,↓qQ,↓qR,↓qS,↓yJ,↓yK,↓yL]
   all_goals simp only [Bool.or_eq_true,Bool.or_eq_false_iff,decide_eq_true_eq,decide_eq_false_iff_not] at hg
   · exact ⟨by rw [hI7 (by omega)];rfl,EY.drew⟩
   have hI0:=hI0 (by omega)
  case' succ=>
   obtain ⟨p,hp⟩:=getElem?_lt (l:=f.cases) (k:=k') (by omega)
   have hb:=hb2 k' p rfl hp
   subst hb
   obtain ⟨csp,_,hAp,rfl⟩:=hel2 k' p hp
   have hcp:=hAp.c3 EY
   simp (disch:=try exact DI) only [↓PR,QR,Int.reduceBEq,Int.reduceBNe,Int.reduceLT,Int.reduceLE,Int.reduceGT,Int.reduceGE,Int.reduceNeg,hcY,hcp,hBX.c15 (e.trans eY),↓qM,↓qO,↓qP,↓qQ,↓qR,↓qS,↓yJ,↓yK,↓yL,show decide ((0:Int) < ((k'+1:Nat):Int))=true by simp only [decide_eq_true_eq];omega,show IntKind.i64.wrap (((k'+1:Nat):Int) - 1)=(k':Int) by rw [Z0 (by omega) (by omega)];omega]
   refine U3 (λ hg=>?_) (λ hg=>?_)
   all_goals simp (disch:=try exact DI) only [↓PR,QR,Int.reduceBEq,Int.reduceBNe,Int.reduceLT,Int.reduceLE,Int.reduceGT,Int.reduceGE,Int.reduceNeg,hg,hcW,hcY,↓qM,↓qO,↓qP,↓qQ,↓qR,↓qS,↓yJ,↓yK,↓yL]
   all_goals simp only [Bool.or_eq_true,Bool.or_eq_false_iff,decide_eq_true_eq,decide_eq_false_iff_not] at hg
   · exact ⟨by rw [hI7 (by omega)];rfl,EY.drew⟩
   refine W0 (λ hg2=>⟨_,rfl,by simp only [decide_eq_true_eq] at hg2;rw [hI7 (by omega)];rfl,EY.drew⟩) (λ hg2=>?_)
   simp only [decide_eq_false_iff_not] at hg2
   have hI0:=hI0 (by omega)
   simp (disch:=try exact DI) only [↓PR,QR,Int.reduceBEq,Int.reduceBNe,Int.reduceLT,Int.reduceLE,Int.reduceGT,Int.reduceGE,Int.reduceNeg,hcW,hcY,↓qM,↓qO,↓qP,↓qQ,↓qR,↓qS,↓yJ,↓yK,↓yL]
  all_goals
   refine zcr (XG _ _ d x.of n ⟨_,rfl,hM.ext EY.drew⟩ hn) λ w2 e2=>?_
   have e3:Ext X w2:=(e.trans eY).drew.trans e2
   rw [Va,Option.isSome_map,hD] at hI0
   have hdi:=JJ (p:=λ m:ZC=>decide (m.name=x.of)) (l:=d.msgs.take n)
   cases hs:(d.msgs.take n).any (λ m=>decide (m.name=x.of)) with
   | false=>
    rw [hs] at hI0 hdi
    simp (disch:=try exact DI) only [↓PR,QR,Int.reduceBEq,Int.reduceBNe,Int.reduceLT,Int.reduceLE,Int.reduceGT,Int.reduceGE,Int.reduceNeg,hdi,↓qM,↓qO,↓qP,↓qQ,↓qR,↓qS,↓yJ,↓yK,↓yL]
    exact ⟨by rw [← hI0];rfl,EX.trans e3⟩
   | true=>
    rw [hs] at hI0 hdi
    simp (disch:=try exact DI) only [↓PR,QR,Int.reduceBEq,Int.reduceBNe,Int.reduceLT,Int.reduceLE,Int.reduceGT,Int.reduceGE,Int.reduceNeg,hdi,↓qM,↓qO,↓qP,↓qQ,↓qR,↓qS,↓yJ,↓yK,↓yL]
    exact ⟨⟨_,x.high+1,rfl,Yv,e3,hI0,by omega,λ h=>by omega,λ j p h hp=>by injection h with h;subst h;rw [hx] at hp;injection hp with hp;subst hp;rfl⟩,ZM (kd := .i64) Yv⟩
 · rw [hdr] at hI
   simp (disch:=try exact DI) only [↓PR,QR,Int.reduceBEq,Int.reduceBNe,Int.reduceLT,Int.reduceLE,Int.reduceGT,Int.reduceGE,Int.reduceNeg,ZJ,hcX]
   exact ⟨by rw [← hI];rfl,E⟩
def Je (l:List ZC):Prop:=l.Pairwise λ a b=>a.name≠b.name
theorem Ci:∀ (l:List ZC) (a:List (BAr×Bool)),(l.foldl Uo a).map (·.1)=a.map (·.1)++l.map (·.name)
 | [],a=>by simp
 | m::l,a=>by rw [List.foldl_cons,Ci l,Uo,List.map_append];simp
theorem Ch:∀ (l:List ZC) (a:List (BAr×Int)),(l.foldl VD a).map (·.1)=a.map (·.1)++l.map (·.name)
 | [],a=>by simp
 | m::l,a=>by rw [List.foldl_cons,Ch l,VD,List.map_append];simp
theorem VQ {β:Type} {ps:List (BAr×β)} {l:List ZC} (hp:ps.map (·.1)=l.map (·.name)) (hd:Je l) (s:BAr):(idx (λ m:ZC=>decide (m.name=s)) l = -1∧ZB ps s=none)∨∃ (k:Nat) (b:β),idx (λ m:ZC=>decide (m.name=s)) l=k∧k < l.length∧ps[k]?=some (s,b)∧ZB ps s=some b:=by
 have Xl:ps.length=l.length:=by simpa using congrArg List.length hp
 have hk:∀ (k:Nat) (m:ZC),l[k]?=some m→∃ b,ps[k]?=some (m.name,b):=by
  intro k m hm
  obtain ⟨q,hq⟩:=getElem?_lt (l:=ps) (k:=k) (by rw [Xl];exact (List.getElem?_eq_some_iff.1 hm).1)
  have:=congrArg (λ x=>x[k]?) hp
  simp only [List.getElem?_map,hm,hq,Option.map_some] at this
  injection this with this
  exact ⟨q.2,by rw [hq,← this]⟩
 have hin:∀ q∈ps,∃ (k:Nat) (m:ZC),l[k]?=some m∧ps[k]?=some q∧m.name=q.1:=by
  intro q hq
  obtain ⟨k,hkq⟩:=List.getElem?_of_mem hq
  obtain ⟨m,hm⟩:=getElem?_lt (l:=l) (k:=k) (by rw [← Xl];exact (List.getElem?_eq_some_iff.1 hkq).1)
  obtain ⟨b,hb⟩:=hk k m hm
  rw [hkq] at hb
  injection hb with hb
  exact ⟨k,m,hm,hkq,by rw [hb]⟩
 have hone:∀ (k j:Nat) (a b:ZC),l[k]?=some a→l[j]?=some b→a.name=b.name→k=j:=by
  intro k j a b ha hb hn
  obtain ⟨h1,ha'⟩:=List.getElem?_eq_some_iff.1 ha
  obtain ⟨h2,hb'⟩:=List.getElem?_eq_some_iff.1 hb
  have hpw:=List.pairwise_iff_getElem.1 hd
  rcases Nat.lt_trichotomy k j with h | h | h
  · have:=hpw k j h1 h2 h;rw [ha',hb'] at this;exact absurd hn this
  · exact h
  · have:=hpw j k h2 h1 h;rw [ha',hb'] at this;exact absurd hn.symm this
 unfold idx
 cases h:l.findIdx? (λ m=>decide (m.name=s)) with
 | none=>
  rw [List.findIdx?_eq_none_iff] at h
  refine .inl ⟨rfl,?_⟩
  cases hl:ZB ps s with
  | none=>rfl
  | some b=>
   obtain ⟨k,m,h1,_,h3⟩:=hin _ (VS hl)
   simpa [h3] using h m (List.mem_of_getElem? h1)
 | some k=>
  obtain ⟨hkl,hpk,_⟩:=List.findIdx?_eq_some_iff_getElem.1 h
  simp only [decide_eq_true_eq] at hpk
  obtain ⟨b,hb⟩:=hk k _ (List.getElem?_eq_getElem hkl)
  rw [hpk] at hb
  refine .inr ⟨k,b,rfl,hkl,hb,?_⟩
  cases hl:ZB ps s with
  | none=>
   have xK:=List.mem_of_getElem? hb
   unfold ZB at hl
   rw [Option.map_eq_none_iff,List.find?_eq_none] at hl
   exact absurd (hl (s,b) (List.mem_reverse.2 xK)) (by simp)
  | some b'=>
   obtain ⟨j,m,h1,h2,h3⟩:=hin _ (VS hl)
   have:=hone k j _ m (List.getElem?_eq_getElem hkl) h1 (hpk.trans h3.symm)
   subst this
   rw [hb] at h2
   injection h2 with h2
   injection h2 with _ h2
   rw [h2]
abbrev Le (b:Bool):List Vl:=[.bool b]
abbrev Zgw (w:Wd) (base:Nat) (v:Vl) (l:List Bool):Prop:=Yk w base 4 1 Le v l
theorem Oq (l:List ZC):(Yl l).map (·.1)=l.map (·.name):=by unfold Yl;rw [Ci];rfl
theorem Oo (l:List ZC):(ZN l).map (·.1)=l.map (·.name):=by unfold ZN;rw [Ch];rfl
def Db (l:List ZC) (n:Nat):Prop:=∀ (k:Nat) (m:ZC),k < n→l[k]?=some m→∀ s∈WN m,((l.take k).any λ m=>decide (m.name=s))=true
theorem D6 (w0:Wd) (v:Vl) (d:YQ) (n:Nat) (hd:YT w0 v d) (hn:n≤d.msgs.length) (hN:Je (d.msgs.take n)) (hR:Db d.msgs n) (hb:∀ m∈d.msgs,(Z9 m.fields).length≤1048576) (hn1:n≤1048576) :
 Ret Pg 154 #[v,.int .i64 (n:Int)] w0 λ r w'=>Zd w' 1 En r ((Yl (d.msgs.take n)).map (·.2))∧Ext w0 w':=by
 obtain ⟨mv,rfl,hM⟩:=hd
 refine Zia (R:=ZO _) ?_;unfold n28
 rw [Wh]
 have Xz:=Z6.new (w:=w0) (Zz d mv) (28)
 have eW:Ext w0 (w0.alloc (Obj.cells (List.toArray (Zz d mv)) (28))):=(Ext.refl _).alloc _
 generalize (w0.alloc (Obj.cells (List.toArray (Zz d mv)) (28)))=W at Xz eW ⊢
 refine Yn (λ a b w'=>∃ k:Nat,b = .int .i64 k∧k≤n∧Ext W w'∧Zgw w' W.heap.size a ((Yl (d.msgs.take k)).map (·.2))) (λ _ b _=>n - (intOf b).toNat) ⟨0,rfl,by omega,Ext.refl _,Yk.nil _ _ _ _ _⟩ ?_
 rintro out _ w ⟨k,rfl,hk,e,hO⟩
 have E:=eW.trans e
 unfold Zay
 by_cases hkn:k < n
 · have d1:decide ((k:Int) < (n:Int))=true:=by simp only [decide_eq_true_eq];omega
   obtain ⟨m,hm⟩:=getElem?_lt (l:=d.msgs) (k:=k) (by omega)
   have hM0:=hM
   obtain ⟨bm,om,cm,rfl,hlc,hcm,hlm,hkl,Y3⟩:=J4 hM hm
   obtain ⟨csm,_,hAm,hEm⟩:=Y3 k m hm
   obtain ⟨fv,rfl,hF⟩:=hEm
   have hF0:=hF
   obtain ⟨Af,cf,rfl,hlf,hcf,hlmf,helf⟩:=Zd.open hF
   simp (disch:=try exact DI) only [↓PR,QR,simprocAttr,d1]
   refine Yn (λ a b w'=>∃ i:Nat,a = .bool ((m.fields.take i).all λ f=>!f.loose)∧b = .int .i64 i∧i≤m.fields.length∧Ext w w') (λ _ b _=>m.fields.length - (intOf b).toNat) ⟨0,by simp,rfl,by omega,Ext.refl _⟩ ?_
   rintro _ _ w2 ⟨i,rfl,rfl,hi,e2⟩
   have hcW:=Xz.c3 (e.trans e2)
   have hcm2:=hAm.c2 (E.trans e2)
   unfold Zax
   rcases ZD hi with ⟨x,hx,hdr,Yv,ZJ⟩ | ⟨hi,hdr,ZJ⟩
   · have hall:((m.fields.take (i+1)).all λ f=>!f.loose)=(((m.fields.take i).all λ f=>!f.loose)&&!x.loose):=by rw [Z4 hx,List.all_append];simp
     obtain ⟨bf,of,csf,rfl,_,hAf,hEf⟩:=helf i x hx
     obtain ⟨tf,cf',rfl,hTf,hCf,_,_⟩:=hEf.op
     have hcf:=hAf.c15 (E.trans e2)
     simp (disch:=try exact DI) only [↓PR,QR,simprocAttr,hcW,hcm2,ZJ]
     unfold Zaw
     cases hs:(m.fields.take i).all (λ f=>!f.loose) with
     | false=>
      rw [hs] at hall
      simp (disch:=try exact DI) only [↓PR,QR,simprocAttr]
      exact ⟨⟨i+1,by rw [hall];rfl,rfl,Yv,e2⟩,ZM (kd := .i64) Yv⟩
     | true=>
      rw [hs] at hall
      simp (disch:=try exact DI) only [↓PR,QR,simprocAttr,hcW,hcm2,hcf,Zar]
      exact ⟨⟨i+1,by rw [hall];rfl,rfl,Yv,e2⟩,ZM (kd := .i64) Yv⟩
   · subst hi
     rw [List.take_length]
     simp (disch:=try exact DI) only [↓PR,QR,simprocAttr,hcW,hcm2,ZJ]
     unfold Zav
     simp (disch:=try exact DI) only [↓PR,QR,simprocAttr,hcW,hcm2]
     refine Zs (J8 _ _ m ⟨_,rfl,hF0.ext (E.trans e2)⟩ (hb m (List.mem_of_getElem? hm))) ?_
     rintro rv w3 ⟨hS,e3⟩
     have e23:=e2.trans e3
     have hSl:=hS.slice (E:=zM) (λ _=>rfl) (λ _ _=>rfl)
     obtain ⟨Ar,cr,rfl,hlr,hcr,hlmr,helr⟩:=Zd.open hSl
     have hsM:Kb (Yl (d.msgs.take k)) m=((m.fields.all λ f=>!f.loose)&&(WN m).all λ s=>(ZB (Yl (d.msgs.take k)) s).getD false):=rfl
     generalize hA:(m.fields.all λ f=>!f.loose)=A0 at hsM ⊢
     have hDk:Je (d.msgs.take k):=by
      have:=List.Pairwise.sublist (List.take_sublist k (d.msgs.take n)) hN
      rwa [List.take_take,Nat.min_eq_left (by omega)] at this
     refine Yn (λ a b w'=>∃ j:Nat,a = .bool (A0&&((WN m).take j).all λ s=>(ZB (Yl (d.msgs.take k)) s).getD false)∧b = .int .i64 j∧j≤(WN m).length∧Ext w3 w') (λ _ b _=>(WN m).length - (intOf b).toNat) ⟨0,by simp,rfl,by omega,Ext.refl _⟩ ?_
     rintro _ _ w4 ⟨j,rfl,rfl,hj,e4⟩
     have e24:=e23.trans e4
     unfold Zau
     rcases ZD hj with ⟨s,hx,hdr,Yv,ZJ⟩ | ⟨hj,hdr,ZJ⟩
     · obtain ⟨bs,os,css,rfl,_,hAs,rfl⟩:=helr j s hx
       have hall:(A0&&((WN m).take (j+1)).all λ s=>(ZB (Yl (d.msgs.take k)) s).getD false)=((A0&&((WN m).take j).all λ s=>(ZB (Yl (d.msgs.take k)) s).getD false)&&(ZB (Yl (d.msgs.take k)) s).getD false):=by rw [Z4 hx,List.all_append];simp [Bool.and_assoc]
       simp (disch:=try exact DI) only [↓PR,QR,simprocAttr,ZJ]
       refine Zy ?_
       unfold Zas
       generalize (A0&&((WN m).take j).all λ s=>(ZB (Yl (d.msgs.take k)) s).getD false)=B at hall ⊢
       cases B with
       | false=>
        simp (disch:=try exact DI) only [↓PR,QR,simprocAttr]
        exact ⟨⟨j+1,by rw [hall];rfl,rfl,Yv,e4.drew⟩,ZM (kd := .i64) Yv⟩
       | true=>
        simp (disch:=try exact DI) only [↓PR,QR,simprocAttr,Xz.c3 (e.trans e24),hAs.c1 e4]
        refine zcr (XG _ _ d s k ⟨_,rfl,hM0.ext (E.trans e24).drew⟩ (by omega)) λ w5 e5=>?_
        refine ⟨e5,?_⟩
        have hex:=hR k m hkn hm s (List.mem_of_getElem? hx)
        rcases VQ (Oq (d.msgs.take k)) hDk s with ⟨h1,_⟩ | ⟨q,b,h1,h2,h3,h4⟩
        · have:=Qq (p:=λ m:ZC=>decide (m.name=s)) (l:=d.msgs.take k)
          rw [hex,h1] at this
          exact absurd this (by decide)
        · rw [h1]
          have hO4:=(hO.ext e24).slice (E:=En) (λ _=>rfl) (λ _ _=>rfl)
          have hq:((Yl (d.msgs.take k)).map (·.2))[q]?=some b:=by rw [List.getElem?_map,h3];rfl
          obtain ⟨bo,oo,co,rfl,_,_,_,hql,helo⟩:=J4 hO4 hq
          obtain ⟨cso,_,hAo,rfl⟩:=helo q b hq
          rw [h4] at hall
          simp (disch:=try exact DI) only [↓PR,QR,simprocAttr,hAo.c1 (Ext.refl _)]
          exact ⟨⟨j+1,by rw [hall];rfl,rfl,Yv,e4.drew.trans e5⟩,ZM (kd := .i64) Yv⟩
     · subst hj
       rw [List.take_length,← hsM]
       simp (disch:=try exact DI) only [↓PR,QR,simprocAttr,ZJ]
       unfold Zat
       simp (disch:=try exact DI) only [↓PR,QR,simprocAttr]
       have sw:=e24.size
       have s0:=e.size
       have hlk:((Yl (d.msgs.take k)).map (·.2)).length=k:=by
        have:=congrArg List.length (Oq (d.msgs.take k))
        simp only [List.length_map,List.length_take] at this ⊢
        omega
       refine VO underlying93 ty4 by4 rfl (by decide) (λ _=>rfl) (Kb (Yl (d.msgs.take k)) m) (by simp only [Le,List.forall_mem_cons];exact ⟨rfl,by simp⟩) (hO.ext (e24.alloc (Obj.cells #[.bool (Kb (Yl (d.msgs.take k)) m)] 4))) (Z6.new _ _) (by simp only [World.size_alloc];omega) (by rw [hlk];omega) ?_
       intro v' w' hO' hext
       have eN:Ext W w':=hext W ((e.trans e24).alloc _) (Nat.le_refl _)
       simp (disch:=try exact DI) only [↓PR,QR,simprocAttr]
       refine ⟨⟨k+1,rfl,by omega,eN,?_⟩,ZM (kd := .i64) hkn⟩
       rw [Z4 hm,CY,List.map_append]
       exact hO'
 · have hke:k=n:=by omega
   subst hke
   have d1:decide ((k:Int) < (k:Int))=false:=by simp
   simp (disch:=try exact DI) only [↓PR,QR,simprocAttr,d1]
   exact ⟨hO.slice (λ _=>rfl) (λ _ _=>rfl),E⟩
def WD (d e f:Vl) (g:WPr) (R:RT) (w:Wd):Prop:=
 Zw e (.bool true) f λ b=>
 Zr (λ (a:Vl) (w:Wd)=>
 Zw b (.bool true) a λ h=>
 Zq h (
 R (.returned (.int .i64 7)) w) (
 g w)) λ c=>
 Zn b false (
 F0 48 d 6 R w λ i w=>
 L0 3 i R w λ j w=>
 B0 .gtr 3 true j (.int .i64 1048576) R w λ a w=>
 c a w) (
 c undef w)
def WE (b e f:Vl) (g:WPr) (R:RT) (w:Wd):Prop:=
 Zw e (.bool true) f λ c=>
 Zr (λ (a:Vl) (w:Wd)=>
 WD b c a g R w) λ d=>
 Zn c false (
 F0 48 b 6 R w λ h w=>
 L0 3 h R w λ i w=>
 B0 .lss 3 true i (.int .i64 0) R w λ a w=>
 d a w) (
 d undef w)
def WG (a b c:Vl) (R:RT) (w:Wd):Prop:=
 B0 .lss 3 true c (.int .i64 0) R w λ d w=>
 Zq d (
 R (.returned (.int .i64 8)) w) (
 L0 24 b R w λ e w=>
 C0 150 #[e,a] R w λ f w=>
 R (.returned f) w)
def WH (b c d a:Vl) (R:RT) (w:Wd):Prop:=
 E0 a 0 R w λ e w=>
 E0 a 1 R w λ f w=>
 L0 28 c R w λ g w=>
 L0 48 d R w λ h w=>
 C0 153 #[g,b,h,e,f] R w λ i w=>
 R (.returned i) w
def WI (a b c d e:Vl) (R:RT) (w:Wd):Prop:=
 F0 24 c 1 R w λ f w=>
 L0 22 f R w λ g w=>
 X0 22 g e R w λ h w=>
 L0 48 h R w λ i w=>
 C0 152 #[i] R w λ j w=>
 WH a b d j R w
def WJ (f g h b c i j k:Vl) (R:RT) (w:Wd):Prop:=
 Zw j (.bool true) k λ d=>
 Zr (λ (a:Vl) (w:Wd)=>
 Zw d (.bool true) a λ l=>
 Zq l (
 R (.returned (.int .i64 8)) w) (
 WI f h b c i R w)) λ e=>
 Zn d false (
 L0 24 b R w λ m w=>
 F0 48 c 9 R w λ n w=>
 L0 9 n R w λ o w=>
 C0 151 #[m,o,g] R w λ a w=>
 e a w) (
 e undef w)
def WK (f g h c i a:Vl) (R:RT) (w:Wd):Prop:=
 B0 .lss 3 true a (.int .i64 0) R w λ d w=>
 Zr (λ (b:Vl) (w:Wd)=>
 WJ f g h c i a d b R w) λ e=>
 Zn d false (
 F0 24 c 1 R w λ j w=>
 L0 22 j R w λ k w=>
 X0 22 k a R w λ l w=>
 L0 48 l R w λ m w=>
 C0 47 #[m] R w λ n w=>
 N0 n R w λ b w=>
 e b w) (
 e undef w)
def WL (b d e:Vl) (f:WPr) (R:RT) (w:Wd):Prop:=
 Zr (λ (a:Vl) (w:Wd)=>
 Zw b a (.bool false) λ g=>
 Zq g (
 R (.returned (.int .i64 6)) w) (
 f w)) λ c=>
 Zn b true (
 Zw d (.bool true) e λ a=>
 c a w) (
 c undef w)
def WM (d e b:Vl) (f:WPr) (R:RT) (w:Wd):Prop:=
 Zr (λ (a:Vl) (w:Wd)=>
 WL e b a f R w) λ c=>
 Zn b false (
 F0 48 d 2 R w λ g w=>
 L0 3 g R w λ h w=>
 B0 .rem 3 true h (.int .i64 8) R w λ i w=>
 B0 .neq 3 true i (.int .i64 0) R w λ a w=>
 c a w) (
 c undef w)
def XQ (b c d:Vl) (g:WPr) (R:RT) (w:Wd):Prop:=
 Zr (λ (a:Vl) (w:Wd)=>
 Zr (λ (h:Vl) (w:Wd)=>
 WM b c h g R w) λ e=>
 Zn c true (
 Zw d (.bool true) a λ i=>
 e i w) (
 e undef w)) λ f=>
 Zn d false (
 F0 48 b 2 R w λ j w=>
 L0 3 j R w λ k w=>
 B0 .gtr 3 true k (.int .i64 512) R w λ a w=>
 f a w) (
 f undef w)
def XR (a d e:Vl) (f:WPr) (R:RT) (w:Wd):Prop:=
 Zw d e (.bool false) λ b=>
 Zr (λ (g:Vl) (w:Wd)=>
 XQ a b g f R w) λ c=>
 Zn b true (
 F0 48 a 2 R w λ h w=>
 L0 3 h R w λ i w=>
 B0 .lss 3 true i (.int .i64 8) R w λ j w=>
 c j w) (
 c undef w)
def XS (a b c:Vl) (d:WPr) (R:RT) (w:Wd):Prop:=
 L0 24 b R w λ e w=>
 F0 48 c 10 R w λ f w=>
 L0 9 f R w λ g w=>
 C0 45 #[e,g,a] R w λ h w=>
 B0 .lss 3 true h (.int .i64 0) R w λ i w=>
 Zq i (
 R (.returned (.int .i64 8)) w) (
 d w)
def XT (a b c d:Vl) (R:RT) (w:Wd):Prop:=
 Zw c (.bool true) d λ e=>
 Zq e (
 R (.returned (.int .i64 8)) w) (
 L0 24 b R w λ f w=>
 C0 150 #[f,a] R w λ g w=>
 R (.returned g) w)
def XU (a b:Vl) (c:KV) (R:RT) (w:Wd):Prop:=
 X0 93 b a R w λ d w=>
 L0 4 d R w λ e w=>
 N0 e R w λ f w=>
 c f w
def XV (d e f g a:Vl) (R:RT) (w:Wd):Prop:=
 B0 .lss 3 true a (.int .i64 0) R w λ b w=>
 Zr (λ (h:Vl) (w:Wd)=>
 XT e g b h R w) λ c=>
 Zn b false (
 L0 28 f R w λ i w=>
 C0 154 #[i,d] R w λ j w=>
 XU a j c R w) (
 c undef w)
def XW (a c b d e:Vl) (R:RT) (w:Wd):Prop:=
 L0 28 b R w λ f w=>
 F0 48 e 8 R w λ g w=>
 L0 9 g R w λ h w=>
 C0 53 #[f,h,a] R w λ i w=>
 XV a c b d i R w
def XX (e f g h a:Vl) (R:RT) (w:Wd):Prop:=
 F0 48 a 13 R w λ i w=>
 L0 3 i R w λ j w=>
 B0 .lss 3 true j (.int .i64 0) R w λ c w=>
 Zr (λ (b:Vl) (w:Wd)=>
 Zw c (.bool true) b λ k=>
 Zq k (
 R (.returned (.int .i64 7)) w) (
 XW e f g h a R w)) λ d=>
 Zn c false (
 F0 48 a 13 R w λ l w=>
 L0 3 l R w λ m w=>
 B0 .gtr 3 true m (.int .i64 4294967295) R w λ b w=>
 d b w) (
 d undef w)
def XY (e f a:Vl) (g:WPr) (R:RT) (w:Wd):Prop:=
 F0 48 a 12 R w λ h w=>
 L0 3 h R w λ i w=>
 B0 .lss 3 true i (.int .i64 1) R w λ c w=>
 Zr (λ (b:Vl) (w:Wd)=>
 Zw c (.bool true) b λ j=>
 Zq j (
 R (.returned (.int .i64 7)) w) (
 XS e f a g R w)) λ d=>
 Zn c false (
 F0 48 a 12 R w λ k w=>
 L0 3 k R w λ l w=>
 B0 .gtr 3 true l (.int .i64 3) R w λ b w=>
 d b w) (
 d undef w)
def XZ (a:Vl) (e:WPr) (R:RT) (w:Wd):Prop:=
 F0 48 a 2 R w λ f w=>
 L0 3 f R w λ g w=>
 B0 .neq 3 true g (.int .i64 2) R w λ c w=>
 Zr (λ (b:Vl) (w:Wd)=>
 XR a c b e R w) λ d=>
 Zn c true (
 F0 48 a 2 R w λ h w=>
 L0 3 h R w λ i w=>
 B0 .neq 3 true i (.int .i64 4) R w λ b w=>
 d b w) (
 d undef w)
def X1 (f a g b c d:Vl) (e:WPr) (R:RT) (w:Wd):Prop:=
 B0 .eql 3 true d (.int .i64 11) R w λ h w=>
 Zq h (
 XY a b c e R w) (
 B0 .eql 3 true d (.int .i64 12) R w λ i w=>
 Zq i (
 XX f a g b c R w) (
 e w))
def X2 (d a e b c:Vl) (R:RT) (w:Wd):Prop:=
 L0 24 b R w λ f w=>
 F0 48 c 9 R w λ g w=>
 L0 9 g R w λ h w=>
 C0 45 #[f,h,a] R w λ i w=>
 WK d a e b c i R w
def X3 (a b c:Vl) (d:WPr) (R:RT) (w:Wd):Prop:=
 L0 28 b R w λ e w=>
 F0 48 c 8 R w λ f w=>
 L0 9 f R w λ g w=>
 C0 53 #[e,g,a] R w λ h w=>
 B0 .lss 3 true h (.int .i64 0) R w λ i w=>
 Zq i (
 R (.returned (.int .i64 8)) w) (
 d w)
def X4 (c d e f a b:Vl) (g:WPr) (R:RT) (w:Wd):Prop:=
 B0 .eql 3 true b (.int .i64 9) R w λ h w=>
 Zq h (
 X2 c d e f a R w) (
 B0 .eql 3 true b (.int .i64 10) R w λ i w=>
 Zq i (
 XZ a g R w) (
 X1 c d e f a b g R w))
def X5 (a b c d e:Vl) (R:RT) (w:Wd):Prop:=
 L0 28 c R w λ f w=>
 F0 48 e 8 R w λ g w=>
 L0 9 g R w λ h w=>
 C0 53 #[f,h,a] R w λ i w=>
 WG b d i R w
def X6 (b:Vl) (e:WPr) (R:RT) (w:Wd):Prop:=
 F0 48 b 6 R w λ f w=>
 L0 3 f R w λ g w=>
 B0 .lss 3 true g (.int .i64 2) R w λ c w=>
 Zr (λ (a:Vl) (w:Wd)=>
 Zw c (.bool true) a λ h=>
 Zq h (
 R (.returned (.int .i64 7)) w) (
 e w)) λ d=>
 Zn c false (
 F0 48 b 6 R w λ i w=>
 L0 3 i R w λ j w=>
 B0 .gtr 3 true j (.int .i64 1048576) R w λ a w=>
 d a w) (
 d undef w)
def X7 (a e b f c d:Vl) (g:WPr) (R:RT) (w:Wd):Prop:=
 B0 .eql 3 true d (.int .i64 7) R w λ h w=>
 Zq h (
 X5 a e b f c R w) (
 B0 .eql 3 true d (.int .i64 8) R w λ i w=>
 Zq i (
 X3 a b c g R w) (
 X4 a e b f c d g R w))
def X8 (a:Vl) (e:WPr) (R:RT) (w:Wd):Prop:=
 F0 48 a 5 R w λ f w=>
 L0 3 f R w λ g w=>
 B0 .lss 3 true g (.int .i64 0) R w λ c w=>
 Zr (λ (b:Vl) (w:Wd)=>
 WE a c b e R w) λ d=>
 Zn c false (
 F0 48 a 5 R w λ h w=>
 L0 3 h R w λ i w=>
 B0 .gtr 3 true i (.int .i64 255) R w λ b w=>
 d b w) (
 d undef w)
def X9 (d e f g a b:Vl) (c:WPr) (R:RT) (w:Wd):Prop:=
 B0 .eql 3 true b (.int .i64 5) R w λ h w=>
 Zq h (
 X8 a c R w) (
 B0 .eql 3 true b (.int .i64 6) R w λ i w=>
 Zq i (
 X6 a c R w) (
 X7 d e f g a b c R w))
def Qa (a:Vl) (b:WPr) (R:RT) (w:Wd):Prop:=
 F0 48 a 5 R w λ c w=>
 L0 3 c R w λ d w=>
 F0 48 a 6 R w λ e w=>
 L0 3 e R w λ f w=>
 C0 149 #[d,f] R w λ g w=>
 N0 g R w λ h w=>
 Zq h (
 R (.returned (.int .i64 7)) w) (
 b w)
def Qb (d a e b f c:Vl) (g:WPr) (R:RT) (w:Wd):Prop:=
 B0 .eql 3 true c (.int .i64 4) R w λ h w=>
 Zq h (
 L0 24 b R w λ i w=>
 C0 150 #[i,a] R w λ j w=>
 R (.returned j) w) (
 X9 d a e b f c g R w)
def Qc (d e f g a b:Vl) (R:RT) (w:Wd):Prop:=
 B0 .eql 3 true b (.int .i64 3) R w λ h w=>
 Zr (λ (w:Wd)=>
 R (.returned (.int .i64 0)) w) λ c=>
 Zq h (
 Qa a c R w) (
 Qb d e f g a b c R w)
def Qd (b c d e a f g:Vl) (R:RT) (w:Wd):Prop:=
 Zq g (
 L0 48 a R w λ h w=>
 C0 148 #[h] R w λ i w=>
 R (.returned i) w) (
 Qc b c d e a f R w)
def n33 (i d e:Vl) (R:RT) (w:Wd):Prop:=
 opV Pg (Instr.box 28 i) (Zh R) w λ f w=>
 F0 28 f 1 R w λ j w=>
 L0 26 j R w λ k w=>
 X0 26 k d R w λ l w=>
 L0 24 l R w λ m w=>
 opV Pg (Instr.alloc 24 true (.tuple #[])) (Zh R) w λ a w=>
 S0 24 a m R w λ w=>
 F0 24 a 1 R w λ n w=>
 L0 22 n R w λ o w=>
 X0 22 o e R w λ p w=>
 L0 48 p R w λ q w=>
 opV Pg (Instr.alloc 48 true (.tuple #[])) (Zh R) w λ b w=>
 S0 48 b q R w λ w=>
 F0 48 b 1 R w λ r w=>
 L0 42 r R w λ c w=>
 B0 .eql 3 true c (.int .i64 1) R w λ g w=>
 Zr (λ (s:Vl) (w:Wd)=>
 Qd d e f a b c s R w) λ h=>
 Zq g (
 h g w) (
 B0 .eql 3 true c (.int .i64 2) R w λ t w=>
 h t w)
set_option maxHeartbeats 40000000 in
theorem Zif {t0 t1 t2:Vl} {R:RT} {w:Wd} (h:n33 t0 t1 t2 R w):Calls Pg 120 #[t0,t1,t2] w R:=by
 refine yD func120 ?_
 refine zs<|zr<|yv h λ _ w h=>zm<|zn<|zk<|zs<|zr<|yv h λ _ w h=>yv h λ _ w h=>zm<|yv h λ _ w h=>yv h λ _ w h=>yv h λ _ w h=>yu h λ w h=>?_
 refine zn<|zk<|zs<|zr<|yv h λ _ w h=>yv h λ _ w h=>zm<|yv h λ _ w h=>yv h λ _ w h=>yv h λ _ w h=>yu h λ w h=>zn<|zk<|zs<|zs ?_
 refine zr<|yv h λ _ w h=>yv h λ _ w h=>zn<|zk<|Zj<|zs<|zs<|zr<|yb h λ _ w h=>zm<|zn<|zk<|yJ1 [25,27] 25 h (λ _ _ hkK1 h=>?_) λ σ w h=>?_
 · refine yC h (λ h=>?_) λ h=>?_
   · refine Zi<|zk ?_
     exact zt hkK1 h
   refine zr<|yb h λ _ w h=>zm<|zn<|zk ?_
   exact zt hkK1 h
 refine zk<|yC h (λ h=>zs<|zr<|yv h λ _ w h=>yc h ZgS λ _ w h=>zm<|zn<|zk<|Ze<|Zf<|Zb<|Zk rfl rfl h) λ h=>zs<|zr<|yb h λ _ w h=>zm<|zn<|zk<|yJ0 [6,9,10,11,12,32,33,34,35,36,37,38,39,40,41,42,43,44,45,46,47,48,49,50,51,52,53,54,55,56,57,58,59,60,61,62,63,64,65,66,67,68,69,70,71,72,73,74,75,76,77,78,79,80,81,82,83,84,85,86,87,88,89,90,91,92,93,94,95,96,97,98,99,100,101,102,103,104,105,106,107,108,109,110,111,112,113,114,115,116,117,118,119,120,121,122,123,124,125,126,127,128,129,130,131,132,133,134,135,136,137,138,139,140,141,142,143,144,145,146,147,148,149,150,151,152,153,154,155,156,157,158,159,160,161,162,163,164,165,166,167,168,169,170,171,172,173,174,175,176,177,178,179,180,181,182,183,184,185,186,187,188,189,190,191,192,193,194,195,196,197,198,199,200,201,202] h (λ _ _ hkK2 h=>?_) λ σ w h=>?_
 · refine yC h (λ h=>?_) λ h=>?_
   · refine zs<|zr<|yv h λ _ w h=>yv h λ _ w h=>yv h λ _ w h=>yv h λ _ w h=>yc h ZgT λ _ w h=>yv h λ _ w h=>zn<|zk<|yC h (λ h=>zs<|zr<|zm<|zn<|zk<|Ze<|Zb<|Zf<|Zb<|Zk rfl rfl h) λ h=>Zi<|zk ?_
     exact zt hkK2 h
   refine zs<|zr<|yb h λ _ w h=>zm<|zn<|zk<|yC h (λ h=>zs<|zr<|yv h λ _ w h=>zm<|yc h ZbM λ _ w h=>zm<|zn<|zk<|Ze<|Zb<|Zf<|Zb<|Zk rfl rfl h) λ h=>zs<|zr<|yb h λ _ w h=>zm<|zn<|zk<|yC h (λ h=>?_) λ h=>?_
   · refine zs<|Zu<|yG 4<|yv h λ _ w h=>yv h λ _ w h=>yb h λ _ w h=>zm<|zn<|yg1 3 3 false [49,50,51] 51 h (λ _ T hT h=>?_) λ σ w h=>?_
     · refine yv h λ _ w h=>yv h λ _ w h=>yb h λ _ w h=>zn ?_
       exact zt hT h
     refine yG 2<|yp h λ _ h=>zm<|zn<|yg1 3 8 false [54,55,56] 56 h (λ _ T hT h=>?_) λ σ w h=>?_
     · refine yv h λ _ w h=>yv h λ _ w h=>yb h λ _ w h=>zn ?_
       exact zt hT h
     refine yG 2<|yp h λ _ h=>zm<|zn<|yg1 3 13 false [59,60,61] 61 h (λ _ T hT h=>?_) λ σ w h=>?_
     · refine yv h λ _ w h=>yv h λ _ w h=>yb h λ _ w h=>zn ?_
       exact zt hT h
     refine yG 1<|yp h λ _ h=>zn<|ZQ<|zk<|yC h (λ h=>zs<|zr<|zm<|zn<|zk<|Ze<|Zb<|Zf<|Zb<|Zk rfl rfl h) λ h=>Zi<|zk ?_
     exact zt hkK2 h
   refine zs<|zr<|yb h λ _ w h=>zm<|zn<|zk<|yC h (λ h=>?_) λ h=>?_
   · refine zs<|Zu<|yG 4<|yv h λ _ w h=>yv h λ _ w h=>yb h λ _ w h=>zm<|zn<|yg1 3 3 false [69,70,71] 71 h (λ _ T hT h=>?_) λ σ w h=>?_
     · refine yv h λ _ w h=>yv h λ _ w h=>yb h λ _ w h=>zn ?_
       exact zt hT h
     refine yG 1<|yp h λ _ h=>zn<|ZQ<|zk<|yC h (λ h=>zs<|zr<|zm<|zn<|zk<|Ze<|Zb<|Zf<|Zb<|Zk rfl rfl h) λ h=>Zi<|zk ?_
     exact zt hkK2 h
   refine zs<|zr<|yb h λ _ w h=>zm<|zn<|zk<|yC h (λ h=>?_) λ h=>?_
   · refine zs<|zs<|zr<|yv h λ _ w h=>yv h λ _ w h=>yv h λ _ w h=>zm<|yc h c53 λ _ w h=>yb h λ _ w h=>zn<|zk<|yC h (λ h=>zs<|zr<|zm<|zn<|zk<|Ze<|Zb<|Zb<|Zf<|Zb<|Zk rfl rfl h) λ h=>Zi<|zk ?_
     exact zs<|zr<|yv h λ _ w h=>zm<|yc h ZbM λ _ w h=>zm<|zn<|zk<|Ze<|Zb<|Zf<|Zb<|Zk rfl rfl h
   refine zs<|zr<|yb h λ _ w h=>zm<|zn<|zk<|yC h (λ h=>?_) λ h=>?_
   · refine zs<|zr<|yv h λ _ w h=>yv h λ _ w h=>yv h λ _ w h=>zm<|yc h c53 λ _ w h=>yb h λ _ w h=>zn<|zk<|yC h (λ h=>zs<|zr<|zm<|zn<|zk<|Ze<|Zb<|Zf<|Zb<|Zk rfl rfl h) λ h=>Zi<|zk ?_
     exact zt hkK2 h
   refine zs<|zr<|yb h λ _ w h=>zm<|zn<|zk<|yC h (λ h=>?_) λ h=>?_
   · refine zs<|zr<|yv h λ _ w h=>yv h λ _ w h=>yv h λ _ w h=>zm<|yc h c45 λ _ w h=>zm<|zn<|zk<|zs<|zs<|Zu<|yG 3<|zm ?_
     refine yb h λ _ w h=>zm<|zn<|yg1 7 2 false [102,103,104,105,106,107,108] 108 h (λ _ T hT h=>?_) λ σ w h=>?_
     · refine yv h λ _ w h=>yv h λ _ w h=>zm<|yv h λ _ w h=>yv h λ _ w h=>yc h c47 λ _ w h=>yv h λ _ w h=>zn ?_
       exact zt hT h
     refine yG 2<|yp h λ _ h=>zm<|zn<|yg1 5 11 false [111,112,113,114,115] 115 h (λ _ T hT h=>?_) λ σ w h=>?_
     · refine yv h λ _ w h=>yv h λ _ w h=>yv h λ _ w h=>zm<|yc h ZgU λ _ w h=>zn ?_
       exact zt hT h
     refine yG 1<|yp h λ _ h=>zn<|ZQ<|zk<|yC h (λ h=>zs<|zr<|zm<|zn<|zk<|Ze<|Zb<|Zb<|Zf<|Zb<|Zk rfl rfl h) λ h=>Zi<|zk<|zs<|zr<|yv h λ _ w h=>yv h λ _ w h=>zm<|yv h λ _ w h=>?_
     refine yv h λ _ w h=>yc h ZbN λ _ w h=>zm<|yv h λ _ w h=>yv h λ _ w h=>zm<|zm<|zn<|zk<|zs<|zr<|yv h λ _ w h=>zm<|yv h λ _ w h=>zm ?_
     exact zm<|yc h ZgV λ _ w h=>zm<|zn<|zk<|Ze<|Zb<|Zf<|Zb<|Zk rfl rfl h
   refine zs<|zr<|yb h λ _ w h=>zm<|zn<|zk<|yC h (λ h=>?_) λ h=>?_
   · refine zs<|Zu<|yG 4<|yv h λ _ w h=>yv h λ _ w h=>yb h λ _ w h=>zm<|zn<|yg1 3 3 true [138,139,140] 140 h (λ _ T hT h=>?_) λ σ w h=>?_
     · refine yv h λ _ w h=>yv h λ _ w h=>yb h λ _ w h=>zn ?_
       exact zt hT h
     refine yG 2<|yp h λ _ h=>zm<|zn<|yg1 4 8 true [143,144,145,146] 146 h (λ _ T hT h=>?_) λ σ w h=>?_
     · refine yv h λ _ w h=>yv h λ _ w h=>yb h λ _ w h=>zm<|zn ?_
       exact zt hT h
     refine yg1 3 12 false [147,148,149] 149 h (λ _ T hT h=>?_) λ σ w h=>?_
     · refine yv h λ _ w h=>yv h λ _ w h=>yb h λ _ w h=>zn ?_
       exact zt hT h
     refine yg1 2 8 true [150,151] 151 h (λ _ T hT h=>?_) λ σ w h=>?_
     · refine yp h λ _ h=>zm<|zn ?_
       exact zt hT h
     refine yg1 4 17 false [152,153,154,155] 155 h (λ _ T hT h=>?_) λ σ w h=>?_
     · refine yv h λ _ w h=>yv h λ _ w h=>yb h λ _ w h=>yb h λ _ w h=>zn ?_
       exact zt hT h
     refine yg1 1 8 true [156] 156 h (λ _ T hT h=>?_) λ σ w h=>?_
     · refine yp h λ _ h=>zn ?_
       exact zt hT h
     refine yG 1<|yp h λ _ h=>zn<|ZQ<|zk<|yC h (λ h=>zs<|zr<|zm<|zn<|zk<|Ze<|Zb<|Zf<|Zb<|Zk rfl rfl h) λ h=>Zi<|zk ?_
     exact zt hkK2 h
   refine zs<|zr<|yb h λ _ w h=>zm<|zn<|zk<|yC h (λ h=>?_) λ h=>?_
   · refine zs<|zs<|Zu<|yG 4<|yv h λ _ w h=>yv h λ _ w h=>yb h λ _ w h=>zm<|zn<|yg1 3 3 false [164,165,166] 166 h (λ _ T hT h=>?_) λ σ w h=>?_
     · refine yv h λ _ w h=>yv h λ _ w h=>yb h λ _ w h=>zn ?_
       exact zt hT h
     refine yG 1<|yp h λ _ h=>zn<|ZQ<|zk<|yC h (λ h=>zs<|zr<|zm<|zn<|zk<|Ze<|Zb<|Zb<|Zf<|Zb<|Zk rfl rfl h) λ h=>Zi<|zk<|zs<|zr<|yv h λ _ w h=>yv h λ _ w h=>yv h λ _ w h=>zm ?_
     refine yc h c45 λ _ w h=>yb h λ _ w h=>zn<|zk<|yC h (λ h=>zs<|zr<|zm<|zn<|zk<|Ze<|Zb<|Zf<|Zb<|Zk rfl rfl h) λ h=>Zi<|zk ?_
     exact zt hkK2 h
   refine zs<|zr<|yb h λ _ w h=>zm<|zn<|zk<|yC h (λ h=>?_) λ h=>?_
   · refine zs<|zs<|Zu<|yG 4<|yv h λ _ w h=>yv h λ _ w h=>yb h λ _ w h=>zm<|zn<|yg1 3 3 false [180,181,182] 182 h (λ _ T hT h=>?_) λ σ w h=>?_
     · refine yv h λ _ w h=>yv h λ _ w h=>yb h λ _ w h=>zn ?_
       exact zt hT h
     refine yG 1<|yp h λ _ h=>zn<|ZQ<|zk<|yC h (λ h=>zs<|zr<|zm<|zn<|zk<|Ze<|Zb<|Zb<|Zf<|Zb<|Zk rfl rfl h) λ h=>Zi<|zk<|zs<|zr<|yv h λ _ w h=>yv h λ _ w h=>yv h λ _ w h=>zm ?_
     refine yc h c53 λ _ w h=>zm<|zn<|zk<|zs<|zs<|Zu<|yG 3<|zm<|yb h λ _ w h=>zm<|zn<|yg1 7 2 false [192,193,194,195,196,197,198] 198 h (λ _ T hT h=>?_) λ σ w h=>?_
     · refine yv h λ _ w h=>zm<|yc h ZgW λ _ w h=>zm<|yv h λ _ w h=>yv h λ _ w h=>yv h λ _ w h=>zn ?_
       exact zt hT h
     refine yG 1<|yp h λ _ h=>zn<|ZQ<|zk<|yC h (λ h=>zs<|zr<|zm<|zn<|zk<|Ze<|Zb<|Zb<|Zf<|Zb<|Zk rfl rfl h) λ h=>Zi<|zk<|zs<|zr<|yv h λ _ w h=>zm<|yc h ZbM λ _ w h=>zm ?_
     exact zn<|zk<|Ze<|Zb<|Zf<|Zb<|Zk rfl rfl h
   refine Zi<|zk ?_
   exact zt hkK2 h
 exact Zg<|zk<|zs<|zr<|zm<|zn<|zk<|Ze<|Zk rfl rfl h
theorem NT (l:List ZC) (hd:Je l) (s:BAr):(ZB (ZN l) s).isSome=l.any λ m=>decide (m.name=s):=by
 rcases VQ (Oo l) hd s with ⟨h1,h2⟩ | ⟨k,b,h1,_,_,h2⟩
 · rw [h2,← Qq,h1];rfl
 · rw [h2,← Qq,h1];simp
theorem Hl {lo hi:Int}:Z2 34359738367 0 [lo,hi]=if WX lo hi then 0 else 7:=by
 rw [jJ]
 unfold WX
 by_cases h1:0≤lo<;>by_cases h2:lo≤hi<;>by_cases h3:hi < 34359738368<;>simp [*]<;>omega
theorem Gz {hi n a:Int}:Z2 hi n [a]=if a < n∨hi < a then 7 else 0:=by
 by_cases h1:a < n<;>by_cases h2:hi < a<;>simp [Z2,Yj,orC, *]<;>omega
theorem IR (w0:Wd) (v:Vl) (d:YQ) (n i:Nat) (m:ZC) (f:Zl) (hd:YT w0 v d) (hm:d.msgs[n]?=some m) (hi:m.fields[i]?=some f) (hN:Je (d.msgs.take n)) (hR:Db d.msgs n) (hD:BJ (m.fields.take i)) (hb:UJ d) (hn1:n≤1048576)
 (hg:∀ g∈m.fields.take i,Y7 g=true → -4611686018427387904≤g.low∧Xk g≤4611686018427387904) (hk:1≤f.kind∧f.kind≤12) :
 Ret Pg 120 #[v,.int .i64 (n:Int),.int .i64 (i:Int)] w0 λ r w'=>r = .int .i64 (ZW (m.fields.take i) (vI (ZN (d.msgs.take n))) (vB (Yl (d.msgs.take n))) f)∧Ext w0 w':=by
 obtain ⟨mv,rfl,hM⟩:=hd
 have hM0:=hM
 have xK:=List.mem_of_getElem? hm
 have hfm:=List.mem_of_getElem? hi
 have hft:=(hb m xK).2 f hfm
 refine Zif (R:=ZO _) ?_;unfold n33
 rw [Wh]
 have Xz:=Z6.new (w:=w0) (Zz d mv) (28)
 have eW:Ext w0 (w0.alloc (Obj.cells (List.toArray (Zz d mv)) (28))):=(Ext.refl _).alloc _
 generalize (w0.alloc (Obj.cells (List.toArray (Zz d mv)) (28)))=W at Xz eW ⊢
 obtain ⟨bm,om,cm,rfl,_,_,_,hnl,Y3⟩:=J4 hM hm
 obtain ⟨csm,_,hAm,hEm⟩:=Y3 n m hm
 obtain ⟨fv,rfl,hF⟩:=hEm
 have hF0:=hF
 have hf1:=Zd.oneCell hF
 simp (disch:=try exact DI) only [↓PR,QR,simprocAttr,Xz.c3 (Ext.refl W),hAm.c2 eW]
 have hBX:=Z6.new (w:=W) (Z8 m fv) (24)
 have eX:Ext W (W.alloc (Obj.cells (List.toArray (Z8 m fv)) (24))):=(Ext.refl _).alloc _
 generalize (W.alloc (Obj.cells (List.toArray (Z8 m fv)) (24)))=X at hBX eX ⊢
 obtain ⟨bf,of,cf,rfl,_,_,_,hil,helf⟩:=J4 hF hi
 obtain ⟨csf,_,hAf,hEf⟩:=helf i f hi
 obtain ⟨tv,cv,rfl,hT,hC,ht1,hc1⟩:=hEf.op
 simp (disch:=try exact DI) only [↓PR,QR,simprocAttr,hBX.c2 (Ext.refl X),hAf.c15 (eW.trans eX)]
 have hBY:=Z6.new (w:=X) (Zm f tv cv) (48)
 have eY:Ext X (X.alloc (Obj.cells (List.toArray (Zm f tv cv)) (48))):=(Ext.refl _).alloc _
 generalize (X.alloc (Obj.cells (List.toArray (Zm f tv cv)) (48)))=Y at hBY eY ⊢
 have hcY:=hBY.c15 (Ext.refl Y)
 have EY:Ext w0 Y:=eW.trans (eX.trans eY)
 have this:f.kind=1∨f.kind=2∨f.kind=3∨f.kind=4∨f.kind=5∨f.kind=6∨f.kind=7∨f.kind=8∨f.kind=9∨f.kind=10∨f.kind=11∨f.kind=12:=by omega
 have hdv:∀ w,Ext Y w→YT w (.agg (Zz d (.slice (some ⟨bm,om,none⟩) d.msgs.length cm)).toArray) d:=λ w e=>⟨_,rfl,hM0.ext (EY.trans e)⟩
 have hmv:∀ w,Ext Y w→Qr w (.agg (Z8 m (.slice (some ⟨bf,of,none⟩) m.fields.length cf)).toArray) m:=λ w e=>⟨_,rfl,hF0.ext (EY.trans e)⟩
 have hfv:∀ w,Ext Y w→Yh w (.agg (Zm f tv cv).toArray) f:=λ w e=>⟨_,_,rfl,hT.ext (EY.trans e),hC.ext (EY.trans e)⟩
 generalize hDD:vI (ZN (d.msgs.take n))=D
 generalize hSS:vB (Yl (d.msgs.take n))=S
 rcases this with hk | hk | hk | hk | hk | hk | hk | hk | hk | hk | hk | hk
 all_goals rw [show Zm f tv cv=[.string f.name,.int .i64 f.kind,.int .i64 f.bits,.bool f.little,.bool f.loose,.int .i64 f.low,.int .i64 f.high,.int .i64 f.base,tv,.string f.of,.string f.tag,.string f.fr,cv,.int .i64 f.check,.int .i64 f.key] from rfl,hk] at hfv
 all_goals simp (disch:=try exact DI) only [↓PR,QR,simprocAttr,hcY,hBX.c2 eY,Xz.c3 (eX.trans eY),hk,↓WD,↓WE,↓WG,↓WH,↓WI,↓WJ,↓WK,↓WL,↓WM,↓XQ,↓XR,↓XS,↓XT,↓XU,↓XV,↓XW,↓XX,↓XY,↓XZ,↓X1,↓X2,↓X3,↓X4,↓X5,↓X6,↓X7,↓X8,↓X9,↓Qa,↓Qb,↓Qc,↓Qd]
 · have hcc:ZW (m.fields.take i) D S f=jA f:=by rw [RI hk];unfold ZW;rw [hk];rfl
   refine zcr (jo _ _ f (hfv _ (Ext.refl Y))) λ w1 e1=>?_
   exact ⟨_,rfl,by rw [hcc],EY.trans e1⟩
 · have hcc:ZW (m.fields.take i) D S f=jA f:=by rw [RJ hk];unfold ZW;rw [hk];rfl
   refine zcr (jo _ _ f (hfv _ (Ext.refl Y))) λ w1 e1=>?_
   exact ⟨_,rfl,by rw [hcc],EY.trans e1⟩
 · have hcc:ZW (m.fields.take i) D S f=if WX f.low f.high then 0 else 7:=by rw [← Hl];unfold ZW;rw [hk];rfl
   refine zcr (Nh _ _ _) λ w1 e1=>?_
   cases hw:WX f.low f.high<;>rw [hw] at hcc<;>simp (disch:=try exact DI) only [↓PR,QR,simprocAttr]<;>exact ⟨by rw [hcc];rfl,EY.trans e1⟩
 · have hcc:ZW (m.fields.take i) D S f=Qz (YD (m.fields.take i)) f:=by unfold ZW;rw [hk];rfl
   refine zcr (zI _ _ m i f (hmv _ (Ext.refl Y)) hi hD hft) λ w1 e1=>?_
   exact ⟨_,rfl,by rw [hcc],EY.trans e1⟩
 · have hcc:ZW (m.fields.take i) D S f=if (decide (f.low < 0)||decide (255 < f.low)||decide (f.high < 0)||decide (1048576 < f.high)) then 7 else 0:=by
    rw [show ZW (m.fields.take i) D S f=orC (Z2 255 0 [f.low]) (Z2 1048576 0 [f.high]) by unfold ZW;rw [hk];rfl,Gz,Gz]
    by_cases h1:f.low < 0<;>by_cases h2:255 < f.low<;>by_cases h3:f.high < 0<;>by_cases h4:1048576 < f.high<;>simp [orC, *]
   refine W0 (λ h=>⟨_,rfl,by rw [hcc,if_pos h],EY⟩) (λ h=>⟨_,rfl,by rw [hcc,if_neg (by rw [h];decide)],EY⟩)
 · have hcc:ZW (m.fields.take i) D S f=if (decide (f.high < 2)||decide (1048576 < f.high)) then 7 else 0:=by
    rw [show ZW (m.fields.take i) D S f=Z2 1048576 2 [f.high] by unfold ZW;rw [hk];rfl,Gz]
    by_cases h3:f.high < 2<;>by_cases h4:1048576 < f.high<;>simp [orC, *]
   refine W0 (λ h=>⟨_,rfl,by rw [hcc,if_pos h],EY⟩) (λ h=>⟨_,rfl,by rw [hcc,if_neg (by rw [h];decide)],EY⟩)
 · have hcc:ZW (m.fields.take i) D S f=orC (Yj (Yz (vI (ZN (d.msgs.take n))) f.of).isSome 8) (Qz (YD (m.fields.take i)) f):=by rw [← hDD];unfold ZW;rw [hk];rfl
   refine zcr (XG _ _ d f.of n (hdv _ (Ext.refl Y)) (Nat.le_of_lt hnl)) λ w1 e1=>?_
   have hdi:=JJ (p:=λ m:ZC=>decide (m.name=f.of)) (l:=d.msgs.take n)
   rw [Va,Option.isSome_map,NT _ hN] at hcc
   cases hs:(d.msgs.take n).any (λ m=>decide (m.name=f.of)) with
   | false=>
    rw [hs] at hdi hcc
    simp (disch:=try exact DI) only [↓PR,QR,simprocAttr,hdi,↓WD,↓WE,↓WG,↓WH,↓WI,↓WJ,↓WK,↓WL,↓WM,↓XQ,↓XR,↓XS,↓XT,↓XU,↓XV,↓XW,↓XX,↓XY,↓XZ,↓X1,↓X2,↓X3,↓X4,↓X5,↓X6,↓X7,↓X8,↓X9,↓Qa,↓Qb,↓Qc,↓Qd]
    exact ⟨by rw [hcc];rfl,EY.trans e1⟩
   | true=>
    rw [hs] at hdi hcc
    simp (disch:=try exact DI) only [↓PR,QR,simprocAttr,hdi,hBX.c2 (eY.trans e1),↓WD,↓WE,↓WG,↓WH,↓WI,↓WJ,↓WK,↓WL,↓WM,↓XQ,↓XR,↓XS,↓XT,↓XU,↓XV,↓XW,↓XX,↓XY,↓XZ,↓X1,↓X2,↓X3,↓X4,↓X5,↓X6,↓X7,↓X8,↓X9,↓Qa,↓Qb,↓Qc,↓Qd]
    refine zcr (zI _ _ m i f (hmv _ e1) hi hD hft) λ w2 e2=>?_
    exact ⟨_,rfl,by rw [hcc];rfl,EY.trans (e1.trans e2)⟩
 · have hcc:ZW (m.fields.take i) D S f=Yj (Yz (vI (ZN (d.msgs.take n))) f.of).isSome 8:=by rw [← hDD];unfold ZW;rw [hk];rfl
   refine zcr (XG _ _ d f.of n (hdv _ (Ext.refl Y)) (Nat.le_of_lt hnl)) λ w1 e1=>?_
   have hdi:=JJ (p:=λ m:ZC=>decide (m.name=f.of)) (l:=d.msgs.take n)
   rw [Va,Option.isSome_map,NT _ hN] at hcc
   cases hs:(d.msgs.take n).any (λ m=>decide (m.name=f.of)) with
   | false=>
    rw [hs] at hdi hcc
    simp (disch:=try exact DI) only [↓PR,QR,simprocAttr,hdi,↓WD,↓WE,↓WG,↓WH,↓WI,↓WJ,↓WK,↓WL,↓WM,↓XQ,↓XR,↓XS,↓XT,↓XU,↓XV,↓XW,↓XX,↓XY,↓XZ,↓X1,↓X2,↓X3,↓X4,↓X5,↓X6,↓X7,↓X8,↓X9,↓Qa,↓Qb,↓Qc,↓Qd]
    exact ⟨by rw [hcc];rfl,EY.trans e1⟩
   | true=>
    rw [hs] at hdi hcc
    simp (disch:=try exact DI) only [↓PR,QR,simprocAttr,hdi,↓WD,↓WE,↓WG,↓WH,↓WI,↓WJ,↓WK,↓WL,↓WM,↓XQ,↓XR,↓XS,↓XT,↓XU,↓XV,↓XW,↓XX,↓XY,↓XZ,↓X1,↓X2,↓X3,↓X4,↓X5,↓X6,↓X7,↓X8,↓X9,↓Qa,↓Qb,↓Qc,↓Qd]
    exact ⟨by rw [hcc];rfl,EY.trans e1⟩
 · have hcc:ZW (m.fields.take i) D S f=Vn (m.fields.take i) (vI (ZN (d.msgs.take n))) f:=by rw [← hDD];unfold ZW;rw [hk];rfl
   refine zcr (Jb _ _ m f.tag i (hmv _ (Ext.refl Y)) (Nat.le_of_lt hil)) λ w1 e1=>?_
   have E1:=EY.trans e1
   unfold Vn at hcc
   rcases CG hD f.tag with ⟨h1,h2⟩ | ⟨k,g,h1,h2,h3⟩
   · rw [h1]
     rw [h2] at hcc
     simp (disch:=try exact DI) only [↓PR,QR,simprocAttr,↓WD,↓WE,↓WG,↓WH,↓WI,↓WJ,↓WK,↓WL,↓WM,↓XQ,↓XR,↓XS,↓XT,↓XU,↓XV,↓XW,↓XX,↓XY,↓XZ,↓X1,↓X2,↓X3,↓X4,↓X5,↓X6,↓X7,↓X8,↓X9,↓Qa,↓Qb,↓Qc,↓Qd]
     exact ⟨by rw [hcc];rfl,E1⟩
   · have hgk:=xi h2
     have hgm:=List.mem_of_getElem? h2
     obtain ⟨csg,_,hAg,hEg⟩:=helf k g hgk
     have hkl:k < m.fields.length:=(List.getElem?_eq_some_iff.1 hgk).1
     obtain ⟨tg,cg,rfl,hTg,hCg,_,_⟩:=hEg.op
     have hd0:decide ((k:Int) < 0)=false:=by simp
     rw [h1]
     simp (disch:=try exact DI) only [↓PR,QR,simprocAttr,hd0,hBX.c2 (eY.trans e1),hAg.c15 E1,↓WD,↓WE,↓WG,↓WH,↓WI,↓WJ,↓WK,↓WL,↓WM,↓XQ,↓XR,↓XS,↓XT,↓XU,↓XV,↓XW,↓XX,↓XY,↓XZ,↓X1,↓X2,↓X3,↓X4,↓X5,↓X6,↓X7,↓X8,↓X9,↓Qa,↓Qb,↓Qc,↓Qd]
     refine zcr (J7 _ _ g ⟨_,_,rfl,hTg.ext E1,hCg.ext E1⟩) λ w2 e2=>?_
     cases hng:Y7 g with
     | false=>
      rw [hng,if_neg (by simp)] at h3
      rw [h3] at hcc
      simp (disch:=try exact DI) only [↓PR,QR,simprocAttr,hd0,↓WD,↓WE,↓WG,↓WH,↓WI,↓WJ,↓WK,↓WL,↓WM,↓XQ,↓XR,↓XS,↓XT,↓XU,↓XV,↓XW,↓XX,↓XY,↓XZ,↓X1,↓X2,↓X3,↓X4,↓X5,↓X6,↓X7,↓X8,↓X9,↓Qa,↓Qb,↓Qc,↓Qd]
      exact ⟨by rw [hcc];rfl,E1.trans e2⟩
     | true=>
     rw [hng,if_pos rfl] at h3
     rw [h3] at hcc
     have f2:Ext Y w2:=e1.trans e2
     simp (disch:=try exact DI) only [↓PR,QR,simprocAttr,hd0,hBX.c2 (eY.trans f2),hBY.c15 f2,↓WD,↓WE,↓WG,↓WH,↓WI,↓WJ,↓WK,↓WL,↓WM,↓XQ,↓XR,↓XS,↓XT,↓XU,↓XV,↓XW,↓XX,↓XY,↓XZ,↓X1,↓X2,↓X3,↓X4,↓X5,↓X6,↓X7,↓X8,↓X9,↓Qa,↓Qb,↓Qc,↓Qd]
     refine zcr (F6 _ _ m f.tag i (hmv _ f2) (Nat.le_of_lt hil)) λ w3 e3=>?_
     have f3:=f2.trans e3
     cases htg:(m.fields.take i).any (WB f.tag) with
     | true=>
      rw [htg] at hcc
      simp (disch:=try exact DI) only [↓PR,QR,simprocAttr,hd0,↓WD,↓WE,↓WG,↓WH,↓WI,↓WJ,↓WK,↓WL,↓WM,↓XQ,↓XR,↓XS,↓XT,↓XU,↓XV,↓XW,↓XX,↓XY,↓XZ,↓X1,↓X2,↓X3,↓X4,↓X5,↓X6,↓X7,↓X8,↓X9,↓Qa,↓Qb,↓Qc,↓Qd]
      exact ⟨by rw [hcc];rfl,EY.trans f3⟩
     | false=>
     rw [htg] at hcc
     simp (disch:=try exact DI) only [↓PR,QR,simprocAttr,hd0,hBX.c2 (eY.trans f3),hAg.c15 (EY.trans f3),↓WD,↓WE,↓WG,↓WH,↓WI,↓WJ,↓WK,↓WL,↓WM,↓XQ,↓XR,↓XS,↓XT,↓XU,↓XV,↓XW,↓XX,↓XY,↓XZ,↓X1,↓X2,↓X3,↓X4,↓X5,↓X6,↓X7,↓X8,↓X9,↓Qa,↓Qb,↓Qc,↓Qd]
     refine zcr (zG _ _ g ⟨_,_,rfl,hTg.ext (EY.trans f3),hCg.ext (EY.trans f3)⟩) λ w4 e4=>?_
     have f4:=f3.trans e4
     simp (disch:=try exact DI) only [↓PR,QR,simprocAttr,Xz.c3 (eX.trans (eY.trans f4)),hBY.c15 f4,↓WD,↓WE,↓WG,↓WH,↓WI,↓WJ,↓WK,↓WL,↓WM,↓XQ,↓XR,↓XS,↓XT,↓XU,↓XV,↓XW,↓XX,↓XY,↓XZ,↓X1,↓X2,↓X3,↓X4,↓X5,↓X6,↓X7,↓X8,↓X9,↓Qa,↓Qb,↓Qc,↓Qd]
     have hgb:=hg g hgm hng
     refine zcr (IF _ _ _ d n f g.low (Xk g) (ZN (d.msgs.take n)) (hdv _ f4) (Nat.le_of_lt hnl) ⟨_,_,rfl,hT.ext (EY.trans f4),hC.ext (EY.trans f4)⟩ (NT _ hN) hgb.1 hgb.2) λ w5 e5=>?_
     exact ⟨_,rfl,by rw [hcc];rfl,EY.trans (f4.trans e5)⟩
 · have hcc:ZW (m.fields.take i) D S f=Yj (zE f) 6:=by unfold ZW;rw [hk];rfl
   have hP:zE f=!((f.bits != 2&&f.bits != 4)&&(decide (f.bits < 8)||decide (512 < f.bits)||f.bits.tmod 8 != 0)):=by
    unfold zE
    rw [show decide (f.bits < 8)=!decide (8≤f.bits) by rw [Bool.eq_iff_iff];simp,show decide (512 < f.bits)=!decide (f.bits≤512) by rw [Bool.eq_iff_iff];simp,bne,bne,bne]
    generalize (f.bits == 2)=a1
    generalize (f.bits == 4)=a2
    generalize decide (8≤f.bits)=a3
    generalize decide (f.bits≤512)=a4
    generalize (f.bits.tmod 8 == 0)=a5
    cases a1<;>cases a2<;>cases a3<;>cases a4<;>cases a5<;>rfl
   rw [hP] at hcc
   clear hP
   repeat' first
    | exact ⟨by rw [hcc];rfl,EY⟩
    | (refine U3 (λ hg=>?_) (λ hg=>?_)<;>(try rw [hg] at hcc)<;>simp (disch:=try exact DI) only [↓PR,QR,simprocAttr,hg,hcY,↓WD,↓WE,↓WG,↓WH,↓WI,↓WJ,↓WK,↓WL,↓WM,↓XQ,↓XR,↓XS,↓XT,↓XU,↓XV,↓XW,↓XX,↓XY,↓XZ,↓X1,↓X2,↓X3,↓X4,↓X5,↓X6,↓X7,↓X8,↓X9,↓Qa,↓Qb,↓Qc,↓Qd])
    | (refine W0 (λ hg=>?_) (λ hg=>?_)<;>(try rw [hg] at hcc)<;>simp (disch:=try exact DI) only [↓PR,QR,simprocAttr,hg,↓WD,↓WE,↓WG,↓WH,↓WI,↓WJ,↓WK,↓WL,↓WM,↓XQ,↓XR,↓XS,↓XT,↓XU,↓XV,↓XW,↓XX,↓XY,↓XZ,↓X1,↓X2,↓X3,↓X4,↓X5,↓X6,↓X7,↓X8,↓X9,↓Qa,↓Qb,↓Qc,↓Qd])
 · have hcc:ZW (m.fields.take i) D S f=orC (Z2 3 1 [f.check]) (Yj ((m.fields.take i).any λ o=>decide (o.name=f.fr)) 8):=by unfold ZW;rw [hk];rfl
   rw [Gz] at hcc
   refine W0 (λ h=>⟨_,rfl,by rw [hcc,if_pos (by simpa using h)];rfl,EY⟩) (λ h=>?_)
   rw [if_neg (by simpa using h)] at hcc
   simp (disch:=try exact DI) only [↓PR,QR,simprocAttr,hBX.c2 eY,hcY,↓WD,↓WE,↓WG,↓WH,↓WI,↓WJ,↓WK,↓WL,↓WM,↓XQ,↓XR,↓XS,↓XT,↓XU,↓XV,↓XW,↓XX,↓XY,↓XZ,↓X1,↓X2,↓X3,↓X4,↓X5,↓X6,↓X7,↓X8,↓X9,↓Qa,↓Qb,↓Qc,↓Qd]
   refine zcr (Jb _ _ m f.fr i (hmv _ (Ext.refl Y)) (Nat.le_of_lt hil)) λ w1 e1=>?_
   have hdi:=JJ (p:=λ m:Zl=>decide (m.name=f.fr)) (l:=m.fields.take i)
   cases hs:(m.fields.take i).any (λ m=>decide (m.name=f.fr))<;>rw [hs] at hdi hcc<;>simp (disch:=try exact DI) only [↓PR,QR,simprocAttr,hdi,↓WD,↓WE,↓WG,↓WH,↓WI,↓WJ,↓WK,↓WL,↓WM,↓XQ,↓XR,↓XS,↓XT,↓XU,↓XV,↓XW,↓XX,↓XY,↓XZ,↓X1,↓X2,↓X3,↓X4,↓X5,↓X6,↓X7,↓X8,↓X9,↓Qa,↓Qb,↓Qc,↓Qd]<;>exact ⟨by rw [hcc];rfl,EY.trans e1⟩
 · have hcc:ZW (m.fields.take i) D S f=orC (Z2 4294967295 0 [f.key]) (orC (Yj (Ei (vB (Yl (d.msgs.take n))) f.of) 8) (Qz (YD (m.fields.take i)) f)):=by rw [← hSS];unfold ZW;rw [hk];rfl
   rw [Gz,Ej] at hcc
   refine W0 (λ h=>⟨_,rfl,by rw [hcc,if_pos (by simpa using h)];rfl,EY⟩) (λ h=>?_)
   rw [if_neg (by simpa using h)] at hcc
   simp (disch:=try exact DI) only [↓PR,QR,simprocAttr,Xz.c3 (eX.trans eY),hcY,↓WD,↓WE,↓WG,↓WH,↓WI,↓WJ,↓WK,↓WL,↓WM,↓XQ,↓XR,↓XS,↓XT,↓XU,↓XV,↓XW,↓XX,↓XY,↓XZ,↓X1,↓X2,↓X3,↓X4,↓X5,↓X6,↓X7,↓X8,↓X9,↓Qa,↓Qb,↓Qc,↓Qd]
   refine zcr (XG _ _ d f.of n (hdv _ (Ext.refl Y)) (Nat.le_of_lt hnl)) λ w1 e1=>?_
   rcases VQ (Oq (d.msgs.take n)) hN f.of with ⟨h1,h2⟩ | ⟨k,b,h1,_,h3,h4⟩
   · rw [h1]
     rw [h2] at hcc
     simp (disch:=try exact DI) only [↓PR,QR,simprocAttr,↓WD,↓WE,↓WG,↓WH,↓WI,↓WJ,↓WK,↓WL,↓WM,↓XQ,↓XR,↓XS,↓XT,↓XU,↓XV,↓XW,↓XX,↓XY,↓XZ,↓X1,↓X2,↓X3,↓X4,↓X5,↓X6,↓X7,↓X8,↓X9,↓Qa,↓Qb,↓Qc,↓Qd]
     exact ⟨by rw [hcc];rfl,EY.trans e1⟩
   · rw [h1]
     rw [h4] at hcc
     have hd0:decide ((k:Int) < 0)=false:=by simp
     simp (disch:=try exact DI) only [↓PR,QR,simprocAttr,hd0,Xz.c3 (eX.trans (eY.trans e1)),↓WD,↓WE,↓WG,↓WH,↓WI,↓WJ,↓WK,↓WL,↓WM,↓XQ,↓XR,↓XS,↓XT,↓XU,↓XV,↓XW,↓XX,↓XY,↓XZ,↓X1,↓X2,↓X3,↓X4,↓X5,↓X6,↓X7,↓X8,↓X9,↓Qa,↓Qb,↓Qc,↓Qd]
     refine Zs (D6 _ _ d n (hdv _ e1) (Nat.le_of_lt hnl) hN hR (λ m hm=>(hb m hm).1) hn1) ?_
     rintro _ w2 ⟨hO,e2⟩
     have hq:((Yl (d.msgs.take n)).map (·.2))[k]?=some b:=by rw [List.getElem?_map,h3];rfl
     obtain ⟨bo,oo,co,rfl,_,_,_,hql,helo⟩:=J4 hO hq
     obtain ⟨cso,_,hAo,rfl⟩:=helo k b hq
     cases b with
     | false=>
      simp (disch:=try exact DI) only [↓PR,QR,simprocAttr,hd0,hAo.c1 (Ext.refl _),↓WD,↓WE,↓WG,↓WH,↓WI,↓WJ,↓WK,↓WL,↓WM,↓XQ,↓XR,↓XS,↓XT,↓XU,↓XV,↓XW,↓XX,↓XY,↓XZ,↓X1,↓X2,↓X3,↓X4,↓X5,↓X6,↓X7,↓X8,↓X9,↓Qa,↓Qb,↓Qc,↓Qd]
      exact ⟨by rw [hcc];rfl,EY.trans (e1.trans e2)⟩
     | true=>
      simp (disch:=try exact DI) only [↓PR,QR,simprocAttr,hd0,hAo.c1 (Ext.refl _),hBX.c2 (eY.trans (e1.trans e2)),↓WD,↓WE,↓WG,↓WH,↓WI,↓WJ,↓WK,↓WL,↓WM,↓XQ,↓XR,↓XS,↓XT,↓XU,↓XV,↓XW,↓XX,↓XY,↓XZ,↓X1,↓X2,↓X3,↓X4,↓X5,↓X6,↓X7,↓X8,↓X9,↓Qa,↓Qb,↓Qc,↓Qd]
      refine zcr (zI _ _ m i f (hmv _ (e1.trans e2)) hi hD hft) λ w3 e3=>?_
      exact ⟨_,rfl,by rw [hcc];rfl,EY.trans (e1.trans (e2.trans e3))⟩
theorem IQ (w0:Wd) (v:Vl) (d:YQ) (n i:Nat) (m:ZC) (f:Zl) (hd:YT w0 v d) (hm:d.msgs[n]?=some m) (hi:m.fields[i]?=some f) (hN:Je (d.msgs.take n)) (hR:Db d.msgs n) (hD:BJ (m.fields.take i)) (hb:UJ d) (hn1:n≤1048576)
 (hg:∀ g∈m.fields.take i,Y7 g=true → -4611686018427387904≤g.low∧Xk g≤4611686018427387904) :
 Ret Pg 90 #[v,.int .i64 (n:Int),.int .i64 (i:Int)] w0 λ r w'=>r = .int .i64 (YL (m.fields.take i) (vI (ZN (d.msgs.take n))) (vB (Yl (d.msgs.take n))) f)∧Ext w0 w':=by
 obtain ⟨mv,rfl,hM⟩:=hd
 have hM0:=hM
 refine Zid (R:=ZO _) ?_;unfold n31
 rw [Wh]
 have Xz:=Z6.new (w:=w0) (Zz d mv) (28)
 have eW:Ext w0 (w0.alloc (Obj.cells (List.toArray (Zz d mv)) (28))):=(Ext.refl _).alloc _
 generalize (w0.alloc (Obj.cells (List.toArray (Zz d mv)) (28)))=W at Xz eW ⊢
 obtain ⟨bm,om,cm,rfl,_,_,_,hnl,Y3⟩:=J4 hM hm
 obtain ⟨csm,_,hAm,hEm⟩:=Y3 n m hm
 obtain ⟨fv,rfl,hF⟩:=hEm
 have hF0:=hF
 obtain ⟨bf,of,cf,rfl,_,_,_,hil,helf⟩:=J4 hF hi
 obtain ⟨csf,_,hAf,hEf⟩:=helf i f hi
 obtain ⟨tv,cv,rfl,hT,hC,ht1,hc1⟩:=hEf.op
 simp (disch:=try exact DI) only [↓PR,QR,simprocAttr,Xz.c3 (Ext.refl W),hAm.c2 eW,hAf.c15 eW]
 have hBX:=Z6.new (w:=W) (Zm f tv cv) (48)
 have eX:Ext W (W.alloc (Obj.cells (List.toArray (Zm f tv cv)) (48))):=(Ext.refl _).alloc _
 generalize (W.alloc (Obj.cells (List.toArray (Zm f tv cv)) (48)))=X at hBX eX ⊢
 have EX:Ext w0 X:=eW.trans eX
 unfold YL
 refine zcr (Gv _ _) λ w1 e1=>?_
 have E1:=EX.trans e1
 cases hnm:Qv f.name with
 | false=>simp (disch:=try exact DI) only [↓PR,QR,simprocAttr];exact ⟨rfl,E1⟩
 | true=>
 simp (disch:=try exact DI) only [↓PR,QR,simprocAttr]
 refine Zy ?_
 simp (disch:=try exact DI) only [↓PR,QR,simprocAttr,Xz.c3 (eX.trans e1),hBX.c15 e1,hAm.c2 E1,↓Cq,↓Cr,↓Ct,↓Cu]
 refine zcr (Jb _ _ m f.name i ⟨_,rfl,hF0.ext E1.drew⟩ (Nat.le_of_lt hil)) λ w2 e2=>?_
 have e12:=e1.drew.trans e2
 refine ⟨e2,?_⟩
 have hdi:=Qq (p:=λ m:Zl=>decide (m.name=f.name)) (l:=m.fields.take i)
 cases hs:(m.fields.take i).any (λ m=>decide (m.name=f.name)) with
 | true=>
  rw [hs] at hdi
  simp (disch:=try exact DI) only [↓PR,QR,simprocAttr,hdi,↓Cq,↓Cr,↓Ct,↓Cu]
  exact ⟨rfl,EX.trans e12⟩
 | false=>
 rw [hs] at hdi
 simp (disch:=try exact DI) only [↓PR,QR,simprocAttr,hdi,hBX.c15 e12,↓Cq,↓Cr,↓Ct,↓Cu]
 have Uv:(decide (f.kind < 1)||decide (12 < f.kind))=!decide (1≤f.kind∧f.kind≤12):=by
  rw [Bool.eq_iff_iff];simp only [Bool.or_eq_true,decide_eq_true_eq,Bool.not_eq_true',decide_eq_false_iff_not];omega
 rw [Uv]
 cases hk:decide (1≤f.kind∧f.kind≤12) with
 | false=>simp (disch:=try exact DI) only [↓PR,QR,simprocAttr];exact ⟨rfl,EX.trans e12⟩
 | true=>
 have hk':1≤f.kind∧f.kind≤12:=by simpa using hk
 simp (disch:=try exact DI) only [↓PR,QR,simprocAttr,hBX.c15 e12]
 refine zcr (Ni _ _ f ⟨_,_,rfl,hT.ext (EX.trans e12),hC.ext (EX.trans e12)⟩ hk') λ w3 e3=>?_
 have e13:=e12.trans e3
 rw [Hn hk']
 cases hz:decide (YB f=Jh f) with
 | false=>simp (disch:=try exact DI) only [↓PR,QR,simprocAttr,↓Cq,↓Cr,↓Ct,↓Cu];exact ⟨rfl,EX.trans e13⟩
 | true=>
 simp (disch:=try exact DI) only [↓PR,QR,simprocAttr,Xz.c3 (eX.trans e13),↓Cq,↓Cr,↓Ct,↓Cu]
 refine zcr (IR _ _ d n i m f ⟨_,rfl,hM0.ext (EX.trans e13)⟩ hm hi hN hR hD hb hn1 hg hk') λ w4 e4=>?_
 exact ⟨_,rfl,rfl,EX.trans (e13.trans e4)⟩
theorem Q2.dist {l:List ZC} (h:Q2 l):Je l:=by
 refine List.pairwise_iff_getElem.2 λ i j hi hj hij hn=>?_
 have h6:=(VZ (h.next (List.getElem?_eq_getElem hj))).2.1
 rw [← Option.not_isSome_iff_eq_none,isD] at h6
 exact h6 ⟨l[i],List.mem_of_getElem? (i:=i) (by rw [List.getElem?_take,if_pos hij];exact List.getElem?_eq_getElem hi),hn⟩
theorem CE {deps:List (BAr×Int)} {strs:List (BAr×Bool)} (hds:∀ s,(ZB strs s).isSome=true→(ZB deps s).isSome=true) {m:ZC} (h:(Xh deps strs [] m.fields).2=0):∀ s∈WN m,(ZB deps s).isSome=true:=
 λ s hs=>(JF (Sub.refl _) (Sub.refl _) hds _ _ h).2 s (Cm hs)
theorem SM {l:List ZC} {s:BAr} (h:(ZB (ZN l) s).isSome=true):(l.any λ m=>decide (m.name=s))=true:=by
 obtain ⟨m,hm,hn⟩:=isD.1 h
 exact List.any_eq_true.2 ⟨m,hm,by simpa using hn⟩
theorem Q2.refsIn {l:List ZC} {n:Nat} (h:Q2 (l.take n)):Db l n:=by
 intro k m hk hm s hs
 have hm':(l.take n)[k]?=some m:=by rw [List.getElem?_take,if_pos hk];exact hm
 obtain ⟨_,_,_,h4,_⟩:=VZ (h.next hm')
 rw [List.take_take,Nat.min_eq_left (by omega)] at h4
 exact SM (CE (Lf _) h4 s hs)
def Ju (deps:List (BAr×Int)) (strs:List (BAr×Bool)) (l:List Zl):Prop:=∀ (j:Nat) (f:Zl),l[j]?=some f→YL (l.take j) (vI deps) (vB strs) f=0
section
variable {deps:List (BAr×Int)} {strs:List (BAr×Bool)} {l:List Zl}
theorem Ag {bef:List Zl} {D S:List (BAr×Vl)} {f:Zl} (h:YL bef D S f=0):(bef.any λ o=>decide (o.name=f.name))=false∧ZW bef D S f=0:=by
 unfold YL at h
 obtain ⟨_,h⟩:=YP.1 h
 obtain ⟨h2,h⟩:=YP.1 h
 obtain ⟨_,h⟩:=YP.1 h
 obtain ⟨_,h⟩:=YP.1 h
 exact ⟨by simpa using (Y0 (by decide)).1 h2,h⟩
theorem Ju.dist (h:Ju deps strs l):BJ l:=by
 refine List.pairwise_iff_getElem.2 λ i j hi hj hij hn=>?_
 have h6:=(Ag (h j _ (List.getElem?_eq_getElem hj))).1
 rw [List.any_eq_false] at h6
 exact h6 l[i] (List.mem_of_getElem? (i:=i) (by rw [List.getElem?_take,if_pos hij];exact List.getElem?_eq_getElem hi)) (by simpa using hn)
theorem Ju.step {k:Nat} {f:Zl} (h:Ju deps strs (l.take k)) (hk:l[k]?=some f) (hf:YL (l.take k) (vI deps) (vB strs) f=0):Ju deps strs (l.take (k+1)):=by
 intro j g hg
 rw [List.getElem?_take] at hg
 split at hg
 · rename_i hj
   rw [List.take_take,Nat.min_eq_left (by omega)]
   by_cases hjk:j=k
   · subst hjk;rw [hk] at hg;injection hg with hg;subst hg;exact hf
   · have:=h j g (by rw [List.getElem?_take,if_pos (by omega)];exact hg)
     rwa [List.take_take,Nat.min_eq_left (by omega)] at this
 · cases hg
theorem FQ {n:Int} (h1:1≤n) (h2:n≤32):(2:Int) ^ n.toNat≤4294967296:=by
 have hle:n.toNat≤32:=by omega
 have hq:(2:Nat) ^ n.toNat≤2 ^ 32:=Nat.pow_le_pow_right (by decide) hle
 have hc:(2:Int) ^ n.toNat=((2 ^ n.toNat:Nat):Int):=by simp
 rw [hc]
 have:(2:Nat) ^ 32=4294967296:=rfl
 omega
theorem Im {bef:List Zl} {D S:List (BAr×Vl)} {g:Zl} (h:ZW bef D S g=0) (hn:Y7 g=true):0≤g.low∧g.low≤Xk g∧Xk g≤34359738367:=by
 unfold Y7 at hn
 simp only [Bool.or_eq_true,beq_iff_eq] at hn
 unfold Xk
 rcases hn with (hk | hk) | hk
 · rw [show ZW bef D S g=orC (Yj (Xo g) 6) (Z2 (Ky g) 0 [g.low,g.high]) by unfold ZW;rw [hk];rfl] at h
   obtain ⟨h1,h2⟩:=YP.1 h
   have hb:=(Y0 (by decide)).1 h1
   unfold Xo at hb
   simp only [Bool.and_eq_true,decide_eq_true_eq] at hb
   have hp:=FQ hb.1.1 hb.1.2
   rw [jJ] at h2
   unfold Ky at h2
   split at h2
   · cases h2
   · rw [hk]
     show 0≤g.low∧g.low≤g.high∧g.high≤34359738367
     omega
 · rw [show ZW bef D S g=orC (Yj (Xo g) 6) (Z2 (Ky g) 0 [g.low]) by unfold ZW;rw [hk];rfl] at h
   obtain ⟨h1,h2⟩:=YP.1 h
   have hb:=(Y0 (by decide)).1 h1
   unfold Xo at hb
   simp only [Bool.and_eq_true,decide_eq_true_eq] at hb
   have hp:=FQ hb.1.1 hb.1.2
   rw [Gz] at h2
   unfold Ky at h2
   split at h2
   · cases h2
   · rw [hk]
     show 0≤g.low∧g.low≤g.low∧g.low≤34359738367
     omega
 · rw [show ZW bef D S g=Z2 34359738367 0 [g.low,g.high] by unfold ZW;rw [hk];rfl,jJ] at h
   split at h
   · cases h
   · rw [hk]
     show 0≤g.low∧g.low≤g.high∧g.high≤34359738367
     omega
theorem Ju.bounds (h:Ju deps strs l):∀ g∈l,Y7 g=true → -4611686018427387904≤g.low∧Xk g≤4611686018427387904:=by
 intro g hg hn
 obtain ⟨j,hj⟩:=List.getElem?_of_mem hg
 have:=Im (Ag (h j g hj)).2 hn
 omega
end
def Jt (w:Wd) (b:Nat) (L:List Int):Prop:=w.heap[b]?=some (.cells (L.map λ n=>Value.int .i64 n).toArray 3 (0,0))
theorem Jt.ext {w w':Wd} {b:Nat} {L:List Int} (h:Jt w b L) (e:Ext w w'):Jt w' b L:=e.obj h
theorem Jt.cell {w:Wd} {b:Nat} {L:List Int} (h:Jt w b L) {k:Nat} {n:Int} (hk:L[k]?=some n):w.cell? ⟨b,k*1,none⟩=some (.int .i64 n):=by
 rw [(Za h).1];simp [hk]
theorem Jt.free {w:Wd} {b:Nat} {L:List Int} (h:Jt w b L) (k:Nat):w.frozen? ⟨b,k,none⟩=false:=(Za h).2 k
theorem Jt.set {w:Wd} {b:Nat} {L:List Int} (h:Jt w b L) (k:Nat) (n:Int):Jt (w.setCell ⟨b,k*1,none⟩ (.int .i64 n)) b (L.set k n):=by
 rw [Nat.mul_one]
 have:=ZE (o:=k) h (.int .i64 n)
 unfold Jt
 rw [this]
 congr 2
 rw [List.setIfInBounds_toArray,List.map_set]
theorem FH {QP:PEn} {w:Wd} {k:KV} (n:Nat) (hn:n≤1048576):opV Pg (Instr.makeSlice 30 (.int .i64 (n:Int)) (.int .i64 (n:Int))) QP w k =
 k (.slice (some ⟨w.heap.size,0,none⟩) n n) (w.alloc (.cells ((List.replicate n (0:Int)).map λ n=>Value.int .i64 n).toArray 3)):=by
 obtain ⟨⟨i,hi,hs,hby,hz⟩,_⟩:=ty3
 have h1:=by3
 rw [Yi (run_make_row (P:=Pg) 30 3 i _ underlying30 hi hz hs rfl .i64 .i64 n (by rw [hby];exact Nat.le_trans (Nat.mul_le_mul h1 hn) (by decide)) (by omega) w)]
 congr 3
 rw [List.map_replicate,← toList_madeCells_one]
section
variable {w0 W w:Wd} {d:YQ} {mv:Vl} (Xz:Z6 W w0.heap.size 0 (Zz d mv)) (eW:Ext w0 W) (hM:Vi w0 mv d.msgs)
include Xz eW hM
theorem FU {k N lo bd:Nat} {m:ZC} {L:List Int} {rv t2:Vl} {R:RT} {ZT:KV} (hkl:k < d.msgs.length) (hN:Je (d.msgs.take k)) (hrefs:∀ s∈WN m,(ZB (ZN (d.msgs.take k)) s).isSome=true) (e:Ext W w) (hbd:W.heap.size≤bd) (hL:Jt w bd L) (Xl:L.length=N)
 (hLk:∀ (j:Nat) (n:Int),((ZN (d.msgs.take k)).map (·.2))[j]?=some n→L[j]?=some n∧j < k) (h0:L[k]?=some 0) (hS:Uz w lo rv (WN m)) (hlo:bd < lo)
 (hn:∀ w',Ext W w'→Jt w' bd (L.set k (QE (ZN (d.msgs.take k)) m))→Lt t2 (.int .i64 (k:Int)) (.slice (some ⟨bd,0,none⟩) N N) ZT R w') :
 YS (λ t10 w Xs=>Lu (.pointer (some ⟨w0.heap.size,0,none⟩)) t2 (.int .i64 (k:Int)) t10 (.slice (some ⟨bd,0,none⟩) N N) rv ZT Xs R w) (.int .i64 0) w:=by
 have hkN:k < N:=by rw [← Xl];exact (List.getElem?_eq_some_iff.1 h0).1
 refine ZF (λ a w'=>∃ j:Nat,a = .int .i64 j∧j≤(WN m).length∧Ext W w'∧Jt w' bd (L.set k (((WN m).take j).foldl (λ d' s=>Qj d' ((ZB (ZN (d.msgs.take k)) s).getD 0)) 0))∧Uz w' lo rv (WN m)) (λ b _=>(WN m).length - (intOf b).toNat) ⟨0,rfl,by omega,e,by
  have:L.set k (((WN m).take 0).foldl (λ d' s=>Qj d' ((ZB (ZN (d.msgs.take k)) s).getD 0)) 0)=L:=by
   refine List.ext_getElem? λ j=>?_
   rw [List.getElem?_set]
   split
   · rename_i h;subst h;rw [h0];simp [Xl,hkN]
   · rfl
  rw [this];exact hL,hS⟩ ?_
 rintro _ w1 ⟨j,rfl,hj,e1,hL1,hS1⟩
 have hSl:=hS1.slice (E:=zM) (λ _=>rfl) (λ _ _=>rfl)
 obtain ⟨Ar,cr,rfl,hlr,hcr,hlmr,helr⟩:=Zd.open hSl
 have E1:=eW.trans e1
 unfold Lu
 rcases ZD hj with ⟨s,hx,hdr,Yv,ZJ⟩ | ⟨hj,hdr,ZJ⟩
 · obtain ⟨bs,os,css,rfl,_,hAs,rfl⟩:=helr j s hx
   have QZ:((WN m).take (j+1)).foldl (λ d' s=>Qj d' ((ZB (ZN (d.msgs.take k)) s).getD 0)) 0=Qj (((WN m).take j).foldl (λ d' s=>Qj d' ((ZB (ZN (d.msgs.take k)) s).getD 0)) 0) ((ZB (ZN (d.msgs.take k)) s).getD 0):=by rw [Z4 hx,List.foldl_append];rfl
   generalize (((WN m).take j).foldl (λ d' s=>Qj d' ((ZB (ZN (d.msgs.take k)) s).getD 0)) 0)=c at hL1 QZ
   have hck:(L.set k c)[k]?=some c:=by rw [List.getElem?_set,if_pos rfl,if_pos (by omega)]
   simp (disch:=try exact DI) only [↓PR,QR,simprocAttr,ZJ]
   refine Zy ?_
   unfold PZ
   simp (disch:=try exact DI) only [↓PR,QR,simprocAttr,hL1.cell hck,Xz.c3 e1,hAs.c1 (Ext.refl w1)]
   refine zcr (XG _ _ d s k ⟨_,rfl,hM.ext E1.drew⟩ (Nat.le_of_lt hkl)) λ w2 e2=>?_
   have e12:Ext w1 w2:=(Ext.refl w1).drew.trans e2
   refine Vv e2 ?_
   unfold PY
   rcases VQ (Oo (d.msgs.take k)) hN s with ⟨_,h2⟩ | ⟨q,b,h1,_,h3,h4⟩
   · have:=hrefs s (List.mem_of_getElem? hx)
     rw [h2] at this
     cases this
   · obtain ⟨hLq,hqk⟩:=hLk q b (by rw [List.getElem?_map,h3];rfl)
     have hcq:(L.set k c)[q]?=some b:=by rw [List.getElem?_set,if_neg (by omega)];exact hLq
     rw [h1]
     have hq2:q < N:=by omega
     have hL2:=hL1.ext e12
     simp (disch:=try exact DI) only [↓PR,QR,simprocAttr,hL1.cell hcq,hL2.cell hck,hL2.free]
     refine Yb ?_
     simp (disch:=try exact DI) only [↓PR,QR,simprocAttr]
     refine ⟨⟨j+1,rfl,Yv,(e1.trans e12).setCell hbd _,?_,((hS1.ext e12).range.only (YY.setCell w2 bd _ _) (.inr (.inl hlo))).1⟩,ZM (kd := .i64) Yv⟩
     rw [QZ,h4]
     have:=hL2.set k (if b > c then b else c)
     rw [List.set_set] at this
     exact this
 · subst hj
   rw [List.take_length] at hL1
   simp (disch:=try exact DI) only [↓PR,QR,simprocAttr,ZJ]
   exact hn w1 e1 hL1
end
theorem Ua {w0 w:Wd} {bt:Nat} {x0 x1 x2:Vl} {QP QP':PEn} {k:KV} (e:Ext w0 w) (hb:w0.heap.size≤bt) (h:w.heap[bt]?=some (.cells #[x0,x1,x2] 90 (0,0))) (a f c:Int) (hk:∀ w',Ext w0 w'→k (KI a f c) w') :
 opV Pg (Instr.build 90 #[(0,.int .i64 a),(1,.int .i64 f),(2,.int .i64 c)]) QP w λ t w=>opU Pg (storeAt 90 (.pointer (some ⟨bt,0,none⟩)) t) QP' w λ w=>qW Pg 90 (.pointer (some ⟨bt,0,none⟩)) w λ r0=>k r0 w:=by
 simp (disch:=try exact DI) only [↓PR,QR,simprocAttr,(Za h).1,(Za h).2]
 exact hk _ (((e.setCell hb _).setCell hb _).setCell hb _)
theorem Ub {d:YQ} {a f c:Int} (h:YA d=(a,f,c)) (h0:c≠0):Value.tuple #[KI a f c,.bool true] = .tuple #[Aj (YA d),.bool (Xy d)]:=by
 unfold Xy Aj
 rw [h]
 simp [h0]
theorem AE {l:List ZC} {k:Nat} (h:Q2 (l.take k)) (hk:k≤l.length):Wg [] [] 0 l=Wg (ZN (l.take k)) (Yl (l.take k)) k (l.drop k):=by
 have:=(Uf (l.drop k) (l.take k) [] [] 0).1 h
 rw [List.take_append_drop] at this
 rw [this,List.length_take,Nat.min_eq_left hk,Nat.zero_add]
 rfl
theorem Q2.step {l:List ZC} {k:Nat} {m:ZC} (h:Q2 (l.take k)) (hm:l[k]?=some m) (h0:(Q0 (ZN (l.take k)) (Yl (l.take k)) m).2=0):Q2 (l.take (k+1)):=by
 rw [Z4 hm]
 unfold Q2
 rw [(Uf [m] (l.take k) [] [] 0).1 h]
 show (Wg (ZN (l.take k)) (Yl (l.take k)) _ [m]).2.2=0
 rw [G9 h0]
 rfl
theorem MG {d:YQ} {k:Nat} {m:ZC} {a c:Int} (h1:Qv d.name=true) (h2:1≤d.msgs.length∧d.msgs.length≤60) (h:Q2 (d.msgs.take k)) (hm:d.msgs[k]?=some m) (hn:Q0 (ZN (d.msgs.take k)) (Yl (d.msgs.take k)) m=(a,c)) (h0:c≠0):YA d=((k:Int),a,c):=by
 have hk:=(List.getElem?_eq_some_iff.1 hm).1
 unfold YA
 rw [if_pos h1,if_pos h2,AE h (Nat.le_of_lt hk),List.drop_eq_getElem_cons hk,KS (by rw [(List.getElem?_eq_some_iff.1 hm).2,hn];exact h0),(List.getElem?_eq_some_iff.1 hm).2,hn]
 unfold HH
 rw [if_neg h0]
def jy (l:List ZC) (k:Nat):List Int:=(ZN (l.take k)).map (·.2)++List.replicate (l.length - k) 0
theorem UN (l:List ZC) {k:Nat} (hk:k≤l.length):((ZN (l.take k)).map (·.2)).length=k:=by
 have:=congrArg List.length (Oo (l.take k))
 simp only [List.length_map,List.length_take] at this ⊢
 omega
theorem EG (l:List ZC) {k:Nat} (hk:k≤l.length):(jy l k).length=l.length:=by
 unfold jy
 rw [List.length_append,UN l hk,List.length_replicate];omega
theorem MK (l:List ZC) {k:Nat} (hk:k < l.length):(jy l k)[k]?=some 0:=by
 unfold jy
 rw [List.getElem?_append_right (by rw [UN l (by omega)];omega),UN l (by omega),List.getElem?_replicate,if_pos (by omega)]
theorem N1 (l:List ZC) {k:Nat} (hk:k < l.length) (j:Nat) (n:Int) (h:((ZN (l.take k)).map (·.2))[j]?=some n):(jy l k)[j]?=some n∧j < k:=by
 have hj:=(List.getElem?_eq_some_iff.1 h).1
 rw [UN l (by omega)] at hj
 unfold jy
 rw [List.getElem?_append_left (by rw [UN l (by omega)];exact hj)]
 exact ⟨h,hj⟩
theorem MJ {l:List ZC} {k:Nat} {m:ZC} (hm:l[k]?=some m):(jy l k).set k (QE (ZN (l.take k)) m+1)=jy l (k+1):=by
 have hk:=(List.getElem?_eq_some_iff.1 hm).1
 unfold jy
 rw [List.set_append_right _ _ (by rw [UN l (by omega)];omega),UN l (by omega),Nat.sub_self,Z4 hm,xI,List.map_append,List.append_assoc]
 congr 1
 rw [show l.length - k=(l.length - (k+1))+1 by omega,List.replicate_succ]
 rfl
theorem qG {deps:List (BAr×Int)} {strs:List (BAr×Bool)}:∀ (l:List Zl) (bef:List Zl) (k:Nat),(∀ (j:Nat) (f:Zl),j < k→l[j]?=some f→YL (bef++l.take j) (vI deps) (vB strs) f=0)→Xh deps strs (bef++l.take k) (l.drop k)=Xh deps strs bef l
 | [],bef,k,_=>by simp
 | f::l,bef,0,_=>by simp
 | f::l,bef,k+1,h=>by
  have h0:=h 0 f (by omega) rfl
  rw [List.take_zero,List.append_nil] at h0
  have ih:=qG l (bef++[f]) k λ j g hj hg=>by
   have:=h (j+1) g (by omega) (by simpa using hg)
   rw [List.take_succ_cons] at this
   rw [List.append_assoc];exact this
  rw [List.take_succ_cons,List.drop_succ_cons,Xh,if_pos h0,← ih,List.append_assoc]
  rfl
theorem Ju.fields {deps:List (BAr×Int)} {strs:List (BAr×Bool)} {l:List Zl} {k:Nat} (h:Ju deps strs (l.take k)):Xh deps strs (l.take k) (l.drop k)=Xh deps strs [] l:=by
 have:=qG (deps:=deps) (strs:=strs) l [] k λ j f hj hf=>by
  have:=h j f (by rw [List.getElem?_take,if_pos hj];exact hf)
  rwa [List.take_take,Nat.min_eq_left (by omega)] at this
 simpa using this
theorem IB (w0:Wd) (v:Vl) (d:YQ) (hd:YT w0 v d) (hb:UJ d):Ret Pg 52 #[v] w0 λ r w'=>r = .tuple #[Aj (YA d),.bool (Xy d)]∧Ext w0 w':=by
 obtain ⟨mv,rfl,hM⟩:=hd
 have hM0:=hM
 refine Zh4 (R:=ZO _) ?_;unfold n22
 rw [Wh]
 have Xz:=Z6.new (w:=w0) (Zz d mv) (28)
 have eW:Ext w0 (w0.alloc (Obj.cells (List.toArray (Zz d mv)) (28))):=(Ext.refl _).alloc _
 generalize (w0.alloc (Obj.cells (List.toArray (Zz d mv)) (28)))=W at Xz eW ⊢
 obtain ⟨A,cm,rfl,hlc,hcm,hlm,Y3⟩:=Zd.open hM
 have sB:w0.heap.size < W.heap.size:=World.block_lt_of_cell? W ⟨w0.heap.size,0,none⟩ (Xz.c3 (Ext.refl W)).1
 simp (disch:=try exact DI) only [↓PR,QR,simprocAttr,Xz.c3 (Ext.refl W)]
 have oV:=ZG W #[.int .i64 0,.int .i64 0,.int .i64 0] 90
 have eV:Ext W (W.alloc (.cells #[.int .i64 0,.int .i64 0,.int .i64 0] 90)):=(Ext.refl W).alloc _
 have sV:(W.alloc (.cells #[.int .i64 0,.int .i64 0,.int .i64 0] 90)).heap.size=W.heap.size+1:=World.size_alloc _ _
 generalize W.alloc (.cells #[.int .i64 0,.int .i64 0,.int .i64 0] 90)=V at oV eV sV ⊢
 have EV:Ext w0 V:=eW.trans eV
 have sW:=eW.size
 refine zcr (Gv _ _) λ w1 e1=>?_
 have E1:=EV.trans e1
 cases hnm:Qv d.name with
 | false=>
  have hc:YA d=(-1,-1,1):=by unfold YA;rw [hnm];rfl
  simp (disch:=try exact DI) only [↓PR,QR,simprocAttr]
  unfold Ic
  exact Ua E1 sW (e1.obj oV) _ _ _ λ w' e'=>⟨_,rfl,Ub hc (by decide),e'⟩
 | true=>
 simp (disch:=try exact DI) only [↓PR,QR,simprocAttr,Xz.c3 (eV.trans e1),Ie]
 have Xl:(decide ((d.msgs.length:Int) < 1)||decide (60 < (d.msgs.length:Int)))=!decide (1≤d.msgs.length∧d.msgs.length≤60):=by
  rw [Bool.eq_iff_iff];simp only [Bool.or_eq_true,decide_eq_true_eq,Bool.not_eq_true',decide_eq_false_iff_not];omega
 rw [Xl]
 by_cases hl:1≤d.msgs.length∧d.msgs.length≤60
 case neg=>
  have hc:YA d=(-1,-1,3):=by unfold YA;rw [hnm,if_pos rfl,if_neg hl]
  simp (disch:=try exact DI) only [↓PR,QR,simprocAttr,show decide (1≤d.msgs.length∧d.msgs.length≤60)=false by simpa using hl]
  unfold Ia
  exact Ua E1 sW (e1.obj oV) _ _ _ λ w' e'=>⟨_,rfl,Ub hc (by decide),e'⟩
 case pos=>
 simp (disch:=try exact DI) only [↓PR,QR,simprocAttr,show decide (1≤d.msgs.length∧d.msgs.length≤60)=true by simpa using hl]
 unfold Ib
 simp (disch:=try exact DI) only [↓PR,QR,simprocAttr,Xz.c3 (eV.trans e1)]
 rw [FH _ (by omega)]
 have oD:Jt (w1.alloc (.cells ((List.replicate d.msgs.length (0:Int)).map λ n=>Value.int .i64 n).toArray 3)) w1.heap.size (jy d.msgs 0):=ZG w1 _ _
 have eD:Ext w1 (w1.alloc (.cells ((List.replicate d.msgs.length (0:Int)).map λ n=>Value.int .i64 n).toArray 3)):=(Ext.refl w1).alloc _
 generalize w1.alloc (.cells ((List.replicate d.msgs.length (0:Int)).map λ n=>Value.int .i64 n).toArray 3)=w2 at oD eD ⊢
 have sw1:=e1.size
 generalize hbd:w1.heap.size=bd at oD sw1 ⊢
 have e2:Ext V w2:=e1.trans eD
 refine ZF (λ a w'=>∃ k:Nat,a = .int .i64 k∧k≤d.msgs.length∧Ext V w'∧Jt w' bd (jy d.msgs k)∧Q2 (d.msgs.take k)) (λ b _=>d.msgs.length - (intOf b).toNat) ⟨0,rfl,by omega,e2,oD,rfl⟩ ?_
 rintro _ w ⟨k,rfl,hk,e,hL,hfine⟩
 have E:=EV.trans e
 have hcW:=Xz.c3 (eV.trans e)
 unfold H9
 rcases ZD hk with ⟨m,hm,hdr,Yv,ZJ⟩ | ⟨hk,hdr,ZJ⟩
 · obtain ⟨bm,om,csm,rfl,_,hAm,fv,rfl,hF⟩:=Y3 k m hm
   have hF0:=hF
   obtain ⟨Af,cf,rfl,hlf,hcf,hlmf,helf⟩:=Zd.open hF
   have hdist:=hfine.dist
   have hbad:=λ (a c:Int)=>MG (d:=d) (k:=k) (m:=m) (a:=a) (c:=c) hnm hl hfine hm
   simp (disch:=try exact DI) only [↓PR,QR,simprocAttr,ZJ,hcW,hAm.c2 E,H8]
   have hBY:=Z6.new (w:=w) (Z8 m (.slice Af m.fields.length cf)) (24)
   have eY:Ext w (w.alloc (Obj.cells (List.toArray (Z8 m (.slice Af m.fields.length cf))) (24))):=(Ext.refl _).alloc _
   generalize (w.alloc (Obj.cells (List.toArray (Z8 m (.slice Af m.fields.length cf))) (24)))=Y at hBY eY ⊢
   have eY':Ext V Y:=e.trans eY
   refine zcr (Gv _ _) λ w3 e3=>?_
   have f3:Ext V w3:=eY'.trans e3
   cases hmn:Qv m.name with
   | false=>
    have hc:=hbad (-1) 1 (by unfold Q0;rw [hmn];rfl) (by decide)
    simp (disch:=try exact DI) only [↓PR,QR,simprocAttr]
    unfold H3
    exact Ua (EV.trans f3) sW (f3.obj oV) _ _ _ λ w' e'=>⟨_,rfl,Ub hc (by decide),e'⟩
   | true=>
   simp (disch:=try exact DI) only [↓PR,QR,simprocAttr,Xz.c3 (eV.trans f3),hBY.c2 e3,H4]
   refine zcr (XG _ _ d m.name k ⟨_,rfl,hM0.ext (EV.trans f3)⟩ hk) λ w4 e4=>?_
   have f4:=f3.trans e4
   have hdi:=Qq (p:=λ x:ZC=>decide (x.name=m.name)) (l:=d.msgs.take k)
   rw [← NT _ hdist] at hdi
   cases hls:(ZB (ZN (d.msgs.take k)) m.name).isSome with
   | true=>
    rw [hls] at hdi
    have hc:=hbad (-1) 2 (by unfold Q0;rw [hmn,hls];rfl) (by decide)
    simp (disch:=try exact DI) only [↓PR,QR,simprocAttr,hdi]
    unfold H2
    exact Ua (EV.trans f4) sW (f4.obj oV) _ _ _ λ w' e'=>⟨_,rfl,Ub hc (by decide),e'⟩
   | false=>
   rw [hls] at hdi
   have hcY4:=hBY.c2 (e3.trans e4)
   simp (disch:=try exact DI) only [↓PR,QR,simprocAttr,hdi,hcY4,↓PU,↓Ls,↓PY,↓PZ,↓P0,↓Lt,↓Lu,↓P1,↓P2,↓PV,↓PW,↓H2,↓PX,↓H3,↓H4,↓H5,↓H6,↓H7,↓H8,↓H9,↓Ia,↓Ib,↓Ic,↓Ie]
   have hlen2:(decide ((m.fields.length:Int) < 1)||decide (40 < (m.fields.length:Int)))=!decide (1≤m.fields.length∧m.fields.length≤40):=by
    rw [Bool.eq_iff_iff];simp only [Bool.or_eq_true,decide_eq_true_eq,Bool.not_eq_true',decide_eq_false_iff_not];omega
   rw [hlen2]
   by_cases hl2:1≤m.fields.length∧m.fields.length≤40
   case neg=>
    have hc:=hbad (-1) 3 (by unfold Q0;rw [hmn,hls,if_pos rfl,if_neg (by simp),if_neg hl2]) (by decide)
    rw [show decide (1≤m.fields.length∧m.fields.length≤40)=false by simpa using hl2]
    exact Ua (EV.trans f4) sW (f4.obj oV) _ _ _ λ w' e'=>⟨_,rfl,Ub hc (by decide),e'⟩
   case pos=>
   have hnx:Q0 (ZN (d.msgs.take k)) (Yl (d.msgs.take k)) m=Gg (ZN (d.msgs.take k)) m (Xh (ZN (d.msgs.take k)) (Yl (d.msgs.take k)) [] m.fields):=by
    unfold Q0;rw [hmn,hls,if_pos rfl,if_neg (by simp),if_pos hl2]
   rw [show decide (1≤m.fields.length∧m.fields.length≤40)=true by simpa using hl2]
   simp (disch:=try exact DI) only [↓PR,QR,simprocAttr]
   refine ZF (λ a w'=>∃ i:Nat,a = .int .i64 i∧i≤m.fields.length∧Ext w4 w'∧Ju (ZN (d.msgs.take k)) (Yl (d.msgs.take k)) (m.fields.take i)) (λ b _=>m.fields.length - (intOf b).toNat) ⟨0,rfl,by omega,Ext.refl _,by intro j f h;simp at h⟩ ?_
   rintro _ w5 ⟨i,rfl,hi,e5,hff⟩
   have f5:=f4.trans e5
   have hsp:=hff.fields
   unfold P2
   rcases ZD hi with ⟨f,hx,hdf,hltf,Oi⟩ | ⟨hi,hdf,Oi⟩
   · rw [hdf,Xh] at hsp
     simp (disch:=try exact DI) only [↓PR,QR,simprocAttr,Oi,hBY.c2 (e3.trans (e4.trans e5)),Xz.c3 (eV.trans f5)]
     refine zcr (IQ _ _ d k i m f ⟨_,rfl,hM0.ext (EV.trans f5)⟩ hm hx hdist hfine.refsIn hff.dist hb (by omega) hff.bounds) λ w6 e6=>?_
     have f6:=f5.trans e6
     by_cases h0:YL (m.fields.take i) (vI (ZN (d.msgs.take k))) (vB (Yl (d.msgs.take k))) f=0
     · simp (disch:=try exact DI) only [↓PR,QR,simprocAttr,h0,Ls,show ((0:Int) != 0)=false from rfl]
       exact ⟨⟨i+1,rfl,hltf,e5.trans e6,hff.step hx h0⟩,ZM (kd := .i64) hltf⟩
     · rw [if_neg h0,List.length_take,Nat.min_eq_left (by omega)] at hsp
       have hc:=hbad i _ (by rw [hnx,← hsp];unfold Gg;rw [if_neg h0]) h0
       simp (disch:=try exact DI) only [↓PR,QR,simprocAttr,Ls,show (YL (m.fields.take i) (vI (ZN (d.msgs.take k))) (vB (Yl (d.msgs.take k))) f != 0)=true by simpa using h0]
       unfold PU
       exact Ua (EV.trans f6) sW (f6.obj oV) _ _ _ λ w' e'=>⟨_,rfl,Ub hc h0,e'⟩
   · subst hi
     rw [hdf,Xh] at hsp
     rw [← hsp] at hnx
     have hfd:(Xh (ZN (d.msgs.take k)) (Yl (d.msgs.take k)) [] m.fields).2=0:=by rw [← hsp]
     simp (disch:=try exact DI) only [↓PR,QR,simprocAttr,Oi,hBY.c2 (e3.trans (e4.trans e5))]
     have hkl:k < d.msgs.length:=(List.getElem?_eq_some_iff.1 hm).1
     have hlow:=hfine.low k
     rw [List.take_take,Nat.min_self] at hlow
     have hdm:=KJ (λ s=>(ZB (ZN (d.msgs.take k)) s).getD 0) (Qn m) 0 (by decide) (λ s _=>hlow.get s) (by decide)
     have hlo5:bd < w5.heap.size:=by
      have:=(Array.getElem?_eq_some_iff.1 hL).1
      have h1:=eY.size
      have h2:=e3.size
      have h3:=e4.size
      have h4:=e5.size
      omega
     unfold P1
     simp (disch:=try exact DI) only [↓PR,QR,simprocAttr,hBY.c2 (e3.trans (e4.trans e5))]
     refine Zs (J8 _ _ m ⟨_,rfl,hF0.ext (EV.trans (e.trans (eY.trans (e3.trans (e4.trans e5)))))⟩ (hb m (List.mem_of_getElem? hm)).1) ?_
     rintro rv w6 ⟨hS,e6⟩
     have f6:=f5.trans e6
     have hL6:Jt w6 bd (jy d.msgs k):=((((hL.ext eY).ext e3).ext e4).ext e5).ext e6
     refine FU (Xz.ext eV) EV hM0 hkl hdist (CE (Lf _) hfd) f6 (by omega) hL6 (EG _ (by omega)) (N1 _ hkl) (MK _ hkl) hS hlo5 ?_
     intro w7 f7 hL7
     have hdp:0≤QE (ZN (d.msgs.take k)) m∧QE (ZN (d.msgs.take k)) m≤16:=hdm
     have hst:=MJ hm
     generalize hDM:QE (ZN (d.msgs.take k)) m=dm at hL7 hdp hst
     have hlL:=EG d.msgs (k:=k) (by omega)
     have hc7:=hL7.cell (k:=k) (n:=dm) (by rw [List.getElem?_set,if_pos rfl,if_pos (by omega)])
     have hL8:=hL7.set k (dm+1)
     rw [List.set_set,hst] at hL8
     unfold Lt
     simp (disch:=try exact DI) only [↓PR,QR,simprocAttr,hc7,hL7.free,show IntKind.i64.wrap (dm+1)=dm+1 from Z0 (by omega) (by omega)]
     have f8:Ext V (w7.setCell ⟨bd,k*1,none⟩ (.int .i64 (dm+1))):=f7.setCell (by omega) _
     have htl:Q0 (ZN (d.msgs.take k)) (Yl (d.msgs.take k)) m=if dm < 16 then (-1,0) else (-1,10):=by rw [hnx];unfold Gg;rw [if_pos rfl,hDM]
     by_cases h16:dm < 16
     · rw [if_pos h16] at htl
       simp (disch:=try exact DI) only [↓PR,QR,simprocAttr,show decide (16 < dm+1)=false by simp only [decide_eq_false_iff_not];omega]
       rw [Z0 (by omega) (by omega)]
       exact ⟨⟨k+1,rfl,Yv,f8,hL8,hfine.step hm (by rw [htl])⟩,ZM (kd := .i64) Yv⟩
     · rw [if_neg h16] at htl
       have hc:=hbad _ _ htl (by decide)
       simp (disch:=try exact DI) only [↓PR,QR,simprocAttr,show decide (16 < dm+1)=true by simp only [decide_eq_true_eq];omega]
       rw [Z0 (by omega) (by omega)]
       unfold P0
       exact Ua (EV.trans f8) sW (f8.obj oV) _ _ _ λ w' e'=>⟨_,rfl,Ub hc (by decide),e'⟩
 · subst hk
   rw [List.take_length] at hfine
   have hmp:Wg [] [] 0 d.msgs=(0,0,0):=by
    have:=AE (l:=d.msgs) (k:=d.msgs.length) (by rw [List.take_length];exact hfine) (Nat.le_refl _)
    rw [this,List.drop_length];rfl
   have hcp:YA d=if (ZB (ZN d.msgs) d.start).isSome then (0,0,0) else (-1,-1,11):=by
    unfold YA;rw [if_pos hnm,if_pos hl,hmp];rfl
   simp (disch:=try exact DI) only [↓PR,QR,simprocAttr,ZJ,hcW,H7]
   refine zcr (XG _ _ d d.start d.msgs.length ⟨_,rfl,hM0.ext E⟩ (Nat.le_refl _)) λ w3 e3=>?_
   have f3:=e.trans e3
   have hdi:=JJ (p:=λ x:ZC=>decide (x.name=d.start)) (l:=d.msgs.take d.msgs.length)
   rw [← NT _ (by rw [List.take_length];exact hfine.dist)] at hdi
   rw [List.take_length] at hdi
   cases hls:(ZB (ZN d.msgs) d.start).isSome with
   | false=>
    rw [hls] at hdi hcp
    simp (disch:=try exact DI) only [↓PR,QR,simprocAttr,hdi,List.take_length]
    unfold H5
    exact Ua (EV.trans f3) sW (f3.obj oV) _ _ _ λ w' e'=>⟨_,rfl,Ub hcp (by decide),e'⟩
   | true=>
    rw [hls] at hdi hcp
    simp (disch:=try exact DI) only [↓PR,QR,simprocAttr,hdi,List.take_length,H6,(Za (f3.obj oV)).1,(Za (f3.obj oV)).2]
    rw [if_pos rfl] at hcp
    exact ⟨by unfold Xy Aj;rw [hcp];rfl,(((EV.trans f3).setCell sW _).setCell sW _).setCell sW _⟩
def upI (v n:Int):Int:=(v+n - 1).tdiv n*n
def okA (f:Zl):Prop:=(f.kind=1∨f.kind=2→1≤f.bits∧f.bits≤32)∧(f.kind=10→zE f=true)
theorem qk {f:Zl} (h:zE f=true):2≤f.bits∧f.bits≤512∧(f.bits=2∨f.bits=4∨∃ q,1≤q∧f.bits=8*q):=by
 unfold zE at h
 simp only [Bool.or_eq_true,Bool.and_eq_true,beq_iff_eq,decide_eq_true_eq] at h
 rcases h with (h | h) | ⟨⟨h1,h2⟩,h3⟩
 · omega
 · omega
 · rw [Int.tmod_eq_emod_of_nonneg (by omega)] at h3
   exact ⟨by omega,h2,.inr (.inr ⟨f.bits / 8,by omega,by omega⟩)⟩
theorem xn {v n:Int} (hv:0≤v) (hn:1≤n):∃ q,0≤q∧upI v n=n*q∧v≤n*q∧n*q < v+n:=by
 unfold upI
 rw [Int.tdiv_eq_ediv_of_nonneg (by omega)]
 have h1:=Int.emod_add_mul_ediv (v+n - 1) n
 have h2:=Int.emod_nonneg (v+n - 1) (b:=n) (by omega)
 have h3:=Int.emod_lt_of_pos (v+n - 1) (b:=n) (by omega)
 refine ⟨(v+n - 1) / n,Int.ediv_nonneg (by omega) (by omega),Int.mul_comm _ _,?_,?_⟩<;>omega
theorem Ah {deps:List (BAr×Int)} {strs:List (BAr×Bool)}:∀ (l bef:List Zl),(Xh deps strs bef l).2=0→∀ (j:Nat) (f:Zl),l[j]?=some f→YL (bef++l.take j) (vI deps) (vB strs) f=0
 | [],bef,_,j,f,hj=>by simp at hj
 | g::l,bef,h,j,f,hj=>by
  rw [Xh] at h
  split at h
  · rename_i h0
    cases j with
    | zero=>
     injection hj with hj
     subst hj
     simpa using h0
    | succ j=>
     have:=Ah l (bef++[g]) h j f (by simpa using hj)
     rw [List.append_assoc] at this
     simpa using this
  · rename_i h0;exact absurd h h0
theorem Zcc {bef:List Zl} {D S:List (BAr×Vl)} {f:Zl} (h:YL bef D S f=0):okA f:=by
 unfold YL at h
 obtain ⟨_,h⟩:=YP.1 h
 obtain ⟨_,h⟩:=YP.1 h
 obtain ⟨_,h⟩:=YP.1 h
 obtain ⟨_,h⟩:=YP.1 h
 have hbits:Xo f=true→1≤f.bits∧f.bits≤32:=by
  unfold Xo
  simp only [Bool.and_eq_true,decide_eq_true_eq]
  exact λ h=>h.1
 refine ⟨λ hk=>?_,λ hk=>?_⟩
 · rcases hk with hk | hk
   · rw [show ZW bef D S f=orC (Yj (Xo f) 6) (Z2 (Ky f) 0 [f.low,f.high]) by unfold ZW;rw [hk];rfl] at h
     exact hbits ((Y0 (by decide)).1 (YP.1 h).1)
   · rw [show ZW bef D S f=orC (Yj (Xo f) 6) (Z2 (Ky f) 0 [f.low]) by unfold ZW;rw [hk];rfl] at h
     exact hbits ((Y0 (by decide)).1 (YP.1 h).1)
 · rw [show ZW bef D S f=Yj (zE f) 6 by unfold ZW;rw [hk];rfl] at h
   exact (Y0 (by decide)).1 h
def O6 (b a c:Vl) (R:RT) (w:Wd):Prop:=
 L0 124 c R w λ d w=>
 XB Pg b #[d] (Zh R) w λ e w=>
 S0 74 a e R w λ w=>
 qW Pg 74 a w λ r0=>
 R (.returned (.tuple #[r0,(.int .i64 0)])) w
def AN (c a d b:Vl) (R:RT) (w:Wd):Prop:=
 B0 .neq 31 true b (.int .i64 0) R w λ e w=>
 Zq e (
 opV Pg (Instr.build 74 #[]) (Zh R) w λ f w=>
 S0 74 a f R w λ w=>
 qW Pg 74 a w λ r0=>
 R (.returned (.tuple #[r0,b])) w) (
 O6 c a d R w)
def AO (e f g h b i j:Vl) (R:RT) (w:Wd):Prop:=
 Zr (λ (a:Vl) (w:Wd)=>
 Zw b a (.bool false) λ k=>
 Zr (λ (l:Vl) (w:Wd)=>
 AN e f g l R w) λ c=>
 Zq k (
 c (.int .i64 3) w) (
 c h w)) λ d=>
 Zn b true (
 Zw i (.bool true) j λ a=>
 d a w) (
 d undef w)
def AP (e f g b h i c:Vl) (R:RT) (w:Wd):Prop:=
 Zr (λ (a:Vl) (w:Wd)=>
 AO f g b h i c a R w) λ d=>
 Zn c false (
 F0 124 b 0 R w λ j w=>
 F0 24 j 1 R w λ k w=>
 L0 22 k R w λ l w=>
 G0 22 3 l R w λ m w=>
 B0 .geq 3 false e m R w λ a w=>
 d a w) (
 d undef w)
def O7 (a g h b:Vl) (R:RT) (w:Wd):Prop:=
 E0 b 0 R w λ i w=>
 E0 b 1 R w λ c w=>
 opV Pg (Instr.alloc 124 true (.tuple #[])) (Zh R) w λ d w=>
 S0 124 d i R w λ w=>
 B0 .eql 31 true c (.int .i64 0) R w λ e w=>
 Zr (λ (j:Vl) (w:Wd)=>
 AP a g h d c e j R w) λ f=>
 Zn e true (
 B0 .lss 3 true a (.int .i64 0) R w λ k w=>
 f k w) (
 f undef w)
def Ze0 (a b c d:Vl) (R:RT) (w:Wd):Prop:=
 opV Pg (Instr.box 28 a) (Zh R) w λ e w=>
 opV Pg (Instr.alloc 74 true (.tuple #[])) (Zh R) w λ f w=>
 L0 28 e R w λ g w=>
 C0 125 #[g,b] R w λ h w=>
 O7 c d f h R w
theorem Ze1 {t0 t1 t2 t3:Vl} {R:RT} {w:Wd} (h:Ze0 t0 t1 t2 t3 R w):Calls Pg 99 #[t0,t1,t2,t3] w R:=by
 refine yD func99 ?_
 refine zs<|zr<|yv h λ _ w h=>yv h λ _ w h=>zm<|zn<|zk<|zs<|zr<|yv h λ _ w h=>zm<|yc h ZgM λ _ w h=>zm<|yv h λ _ w h=>yv h λ _ w h=>?_
 refine yv h λ _ w h=>yu h λ w h=>zm<|zn<|zk<|zs<|zs<|Zu<|yG 3<|zm<|yb h λ _ w h=>zm<|zn<|yg1 3 2 true [21,22,23] 23 h (λ _ T hT h=>?_) λ σ w h=>?_
 · refine zm<|yb h λ _ w h=>zm<|zn ?_
   exact zt hT h
 refine yg1 6 5 false [24,25,26,27,28,29] 29 h (λ _ T hT h=>?_) λ σ w h=>?_
 · refine zm<|yv h λ _ w h=>yv h λ _ w h=>yv h λ _ w h=>yx h λ _ w h=>yb h λ _ w h=>zn ?_
   exact zt hT h
 refine yg1 1 2 true [30] 30 h (λ _ T hT h=>?_) λ σ w h=>?_
 · refine yp h λ _ h=>zn ?_
   exact zt hT h
 refine yG 1<|yp h λ _ h=>zn<|ZQ<|zk<|yJ1 [11] 11 h (λ _ _ hkK4 h=>?_) λ σ w h=>?_
 · refine yC h (λ h=>?_) λ h=>?_
   · refine zr<|zm<|zn<|zk ?_
     exact zt hkK4 h
   refine Zi<|zk ?_
   exact zt hkK4 h
 refine zk<|zs<|zs<|zr<|zm<|yb h λ _ w h=>zn<|zk<|yC h (λ h=>zs<|zr<|yB h λ _ w h=>zm<|yu h λ w h=>zm<|zn<|zk<|Ze<|Zb<|Yw rfl rfl rfl h) λ h=>Zi<|zk<|zs<|zr<|zm ?_
 exact yv h λ _ w h=>yV h λ _ w h=>yu h λ w h=>zm<|zn<|zk<|Ze<|Yw rfl rfl rfl h
def ZeO (c:Vl) (R:RT) (w:Wd):Prop:=
 opV Pg (Instr.box 124 c) (Zh R) w λ a w=>
 opV Pg (Instr.alloc 74 true (.tuple #[])) (Zh R) w λ b w=>
 F0 124 a 1 R w λ d w=>
 L0 122 d R w λ e w=>
 F0 124 a 0 R w λ f w=>
 F0 24 f 0 R w λ g w=>
 L0 9 g R w λ h w=>
 opV Pg (Instr.lookup 122 e h false) (Zh R) w λ i w=>
 S0 74 b i R w λ w=>
 qW Pg 74 b w λ r0=>
 R (.returned r0) w
theorem ZeP {t0:Vl} {R:RT} {w:Wd} (h:ZeO t0 R w):Calls Pg 100 #[t0] w R:=by
 refine yD func100 ?_
 refine zs<|zr<|yv h λ _ w h=>yv h λ _ w h=>zn<|zk<|zs<|zr<|yv h λ _ w h=>yv h λ _ w h=>yv h λ _ w h=>yv h λ _ w h=>yv h λ _ w h=>yv h λ _ w h=>yu h λ w h=>?_
 exact zn<|zk<|Ze<|Ya rfl rfl h
def O4 (a b c:Vl) (d:WPr) (R:RT) (w:Wd):Prop:=
 qV Pg d (Instr.build 74 #[(0,b),(1,c)]) λ e=>
 S0 74 a e R w λ w=>
 Xt w λ f w=>
 qW Pg 74 a w λ r0=>
 R (.returned r0) w
def O5 (b c d e:Vl) (a:WPr) (R:RT) (w:Wd):Prop:=
 J0 74 c 0 a λ f=>
 I0 3 f a λ g=>
 J0 74 d 0 a λ h=>
 I0 3 h a λ i=>
 J0 74 c 1 a λ j=>
 I0 3 j a λ k=>
 J0 74 d 1 a λ l=>
 I0 3 l a λ m=>
 XB Pg b #[g,i] (Zh R) w λ n w=>
 a w∧(
 XB Pg b #[k,m] (Zh R) w λ o w=>
 a w∧(
 O4 e n o a R w))
def ZeY (a b c:Vl) (R:RT) (w:Wd):Prop:=
 opV Pg (Instr.box 74 a) (Zh R) w λ d w=>
 opV Pg (Instr.box 74 b) (Zh R) w λ e w=>
 opV Pg (Instr.alloc 74 true (.tuple #[])) (Zh R) w λ f w=>
 Yy w λ g w=>
 O5 c d e f g R w
theorem ZeZ {t0 t1 t2:Vl} {R:RT} {w:Wd} (h:ZeY t0 t1 t2 R w):Calls Pg 101 #[t0,t1,t2] w R:=by
 refine yD func101 ?_
 refine zs<|zr<|yv h λ _ w h=>yv h λ _ w h=>yv h λ _ w h=>zn<|zk<|zs<|yh [7,8,9,10,11,12,13,14,15,16,17,18,19] h λ C hC h=>yw 0 hC ?_
 refine ye 1 hC h λ _ h=>?_
 refine ye 2 hC h λ _ h=>?_
 refine ye 3 hC h λ _ h=>?_
 refine ye 4 hC h λ _ h=>?_
 refine yw 6 hC ?_
 refine ye 7 hC h λ _ h=>?_
 refine ye 8 hC h λ _ h=>?_
 refine ye 9 hC h λ _ h=>?_
 refine ye 10 hC h λ _ h=>?_
 refine yo 5 ?_
 refine yV h λ _ w h=>zn ?_
 obtain ⟨hC,h⟩:=h
 refine ⟨hC,?_⟩
 refine yo 11 ?_
 refine yV h λ _ w h=>zn ?_
 obtain ⟨hC,h⟩:=h
 refine ⟨hC,?_⟩
 refine ye 12 hC h λ _ h=>?_
 refine yq 13 1 ?_
 refine yu h λ w h=>zn ?_
 obtain ⟨C2,hC,h⟩:=h
 refine ⟨C2,hC,?_⟩
 exact yz<|zk<|Ze<|Ya rfl rfl h
def ZfE (a:Vl) (R:RT) (w:Wd):Prop:=
 opV Pg (Instr.alloc 74 true (.tuple #[])) (Zh R) w λ b w=>
 opV Pg (Instr.build 74 #[(0,a),(1,a)]) (Zh R) w λ c w=>
 S0 74 b c R w λ w=>
 qW Pg 74 b w λ r0=>
 R (.returned r0) w
theorem ZfF {t0:Vl} {R:RT} {w:Wd} (h:ZfE t0 R w):Calls Pg 102 #[t0] w R:=by
 refine yD func102 ?_
 exact zs<|zr<|yv h λ _ w h=>zn<|zk<|zs<|zr<|zm<|zm<|yB h λ _ w h=>yu h λ w h=>zn<|zk<|Ze<|Ya rfl rfl h
def ZeK (b a:Vl) (R:RT) (w:Wd):Prop:=
 B0 .add 3 false b a R w λ c w=>
 B0 .sub 3 true c (.int .i64 1) R w λ d w=>
 B0 .quo 3 false d a R w λ e w=>
 R (.returned e) w
theorem ZeL {t0 t1:Vl} {R:RT} {w:Wd} (h:ZeK t0 t1 R w):Calls Pg 103 #[t0,t1] w R:=by
 refine yD func103 ?_
 refine zs<|zr<|zm<|zn<|zk<|zs<|zr<|zm<|zm<|yb h λ _ w h=>yb h λ _ w h=>zm<|yb h λ _ w h=>zm<|zn ?_
 exact zk<|Ze<|Zk rfl rfl h
def OT (a b:Vl) (R:RT) (w:Wd):Prop:=
 E0 b 0 R w λ c w=>
 E0 b 1 R w λ d w=>
 S0 74 a c R w λ w=>
 qW Pg 74 a w λ r0=>
 R (.returned (.tuple #[r0,d])) w
def ZeC (b c d:Vl) (R:RT) (w:Wd):Prop:=
 opV Pg (Instr.box 28 b) (Zh R) w λ e w=>
 opV Pg (Instr.box 3 d) (Zh R) w λ a w=>
 opV Pg (Instr.alloc 74 true (.tuple #[])) (Zh R) w λ f w=>
 L0 28 e R w λ g w=>
 L0 3 a R w λ h w=>
 opV Pg (makeFunc (.func 126) #[] #[a]) (Zh R) w λ i w=>
 C0 99 #[g,c,h,i] R w λ j w=>
 OT f j R w
theorem ZeD {t0 t1 t2:Vl} {R:RT} {w:Wd} (h:ZeC t0 t1 t2 R w):Calls Pg 104 #[t0,t1,t2] w R:=by
 refine yD func104 ?_
 refine zs<|zr<|yv h λ _ w h=>yv h λ _ w h=>yv h λ _ w h=>zm<|zn<|zk<|zs<|zr<|yv h λ _ w h=>zm<|yv h λ _ w h=>yF h λ _ w h=>yc h c99 λ _ w h=>?_
 exact yv h λ _ w h=>yv h λ _ w h=>yu h λ w h=>zm<|zn<|zk<|Ze<|Yw rfl rfl rfl h
def O0 (a b:Vl) (R:RT) (w:Wd):Prop:=
 E0 b 0 R w λ c w=>
 E0 b 1 R w λ d w=>
 S0 74 a c R w λ w=>
 qW Pg 74 a w λ r0=>
 R (.returned (.tuple #[r0,d])) w
def ZeQ (b c d:Vl) (R:RT) (w:Wd):Prop:=
 opV Pg (Instr.box 28 b) (Zh R) w λ e w=>
 opV Pg (Instr.box 3 d) (Zh R) w λ a w=>
 opV Pg (Instr.alloc 74 true (.tuple #[])) (Zh R) w λ f w=>
 L0 28 e R w λ g w=>
 L0 3 a R w λ h w=>
 opV Pg (makeFunc (.func 128) #[] #[a]) (Zh R) w λ i w=>
 C0 99 #[g,c,h,i] R w λ j w=>
 O0 f j R w
theorem ZeR {t0 t1 t2:Vl} {R:RT} {w:Wd} (h:ZeQ t0 t1 t2 R w):Calls Pg 105 #[t0,t1,t2] w R:=by
 refine yD func105 ?_
 refine zs<|zr<|yv h λ _ w h=>yv h λ _ w h=>yv h λ _ w h=>zm<|zn<|zk<|zs<|zr<|yv h λ _ w h=>zm<|yv h λ _ w h=>yF h λ _ w h=>yc h c99 λ _ w h=>?_
 exact yv h λ _ w h=>yv h λ _ w h=>yu h λ w h=>zm<|zn<|zk<|Ze<|Yw rfl rfl rfl h
def O9 (b c d e:Vl) (f:WPr) (a:PEn) (g:Nat→Wd→Prop) (R:RT) (w:Wd):Prop:=
 opV Pg (loadAt 74 d) a w λ h w=>
 opU Pg (storeAt 74 c h) a w λ w=>
 opV Pg (loadAt 3 b) a w λ i w=>
 opV Pg (ZI .eql 3 false e i) a w λ j w=>
 Zq j (
 g 0 w) (
 f w)
def Pa (b c d e:Vl) (f:WPr) (g:PEn) (h:Nat→Wd→Prop) (l1:Nat) (R:RT) (w:Wd):Prop:=
 opV Pg (Instr.alloc 74 true (.tuple #[])) (λ _ _=>False) w λ a w=>
 opU Pg (storeAt 74 a e) (λ _ _=>False) w λ w=>
 zW l1 w λ w=>
 O9 b c a d f g h R w
def Zb2 (a:Vl) (ds:LDf) (R:RT) (w:Wd):Prop:=
 opV Pg (loadAt 74 a) (OQ0 ds 74 a R) w λ b w=>
 opU Pg (storeAt 74 a b) (OQ0 ds 74 a R) w λ w=>
 Us Pg ds [(some 74,a)] R w
def HZ (a:Vl) (ds:LDf) (R:RT) (w:Wd):Prop:=
 opV Pg (loadAt 74 a) (OQ0 ds 74 a R) w λ b w=>
 opU Pg (storeAt 74 a b) (OQ0 ds 74 a R) w λ w=>
 Us Pg ds [(some 74,a)] R w
def Pb (b a c:Vl) (ds:LDf) (R:RT) (w:Wd):Prop:=
 Ma Pg c ds (λ l1 d e w f g h=>
 Pa b a d e f h g l1 R w) (λ ch ds w=>OQ0 ds 74 a R ch w) w (λ ds w=>
 Zb2 a ds R w) [λ ds w=>
 HZ a ds R w]
def Zb1 (b c:Vl) (R:RT) (w:Wd):Prop:=
 (λ (ds:LDf)=>
 opV Pg (Instr.box 124 b) (ZP Pg ds [(some 74,undef)] R) w λ d w=>
 opV Pg (Instr.box 3 c) (ZP Pg ds [(some 74,undef)] R) w λ e w=>
 opV Pg (Instr.alloc 74 true (.tuple #[])) (ZP Pg ds [(some 74,undef)] R) w λ a w=>
 opV Pg (loadAt 124 d) (OQ0 ds 74 a R) w λ f w=>
 Yt Pg 129 #[f] (OQ0 ds 74 a R) w λ g w=>
 Pb e a g ds R w) []
theorem Ze4 {t0 t1:Vl} {R:RT} {w:Wd} (h:Zb1 t0 t1 R w):Calls Pg 106 #[t0,t1] w R:=by
 refine yE func106 ?_
 unfold Zb1 at h
 dsimp only at h
 refine zs<|zr<|yv h λ _ w h=>yv h λ _ w h=>yv h λ _ w h=>zn<|zk<|Ns<|zs<|Nq<|zk<|zs<|zs<|zr<|yv h λ _ w h=>?_
 refine yc h ZgP λ _ w h=>zn<|zk<|Zj<|IW [.exit 0] h rfl (λ l1 t9 t10 w Kr1 Xr1 Qr1 h=>?_) (λ ds w h=>?_) (λ c ds w h=>?_) (λ ch ds w h=>Ql rfl h)
 · refine zs<|zr<|zm<|zn<|zk<|zr<|yv h λ _ w h=>yu h λ w h=>zn<|zk ?_
   obtain ⟨hr,h⟩:=h
   refine ⟨rfl,hr,λ w hb=>?_⟩
   have h:=h w hb
   refine Zj<|zs<|zr<|yv h λ _ w h=>yu h λ w h=>zn<|zk<|zs<|zr<|zm<|yv h λ _ w h=>yb h λ _ w h=>zn<|zk<|yC h (λ h=>ZA<|Gd rfl<|⟨rfl,0,rfl,h⟩) λ h=>?_
   exact Zi<|Zg<|⟨rfl,h⟩
 · exact Zg<|zk<|zs<|zr<|yv h λ _ w h=>yu h λ w h=>zn<|zk<|Ze<|Y9 rfl h
 rcases c with _ | c
 · refine ⟨_,rfl,.inr ⟨_,rfl,?_⟩⟩
   exact Zp<|zk<|zs<|zr<|yv h λ _ w h=>yu h λ w h=>zn<|zk<|Ze<|Y9 rfl h
 exact h.elim
def capF (v:Int):Int:=if v < 1099511627776 then v else 1099511627776
theorem U1 {v:Int} (h:0≤v):0≤capF v∧capF v≤1099511627776:=by unfold capF;split<;>omega
theorem V9 {v:Int} (h:v≤1099511627776):capF v=v:=by unfold capF;split<;>omega
theorem Cf (v:Nat) (h:¬ v < 128):v / 128 < v:=Nat.div_lt_self (by omega) (by decide)
def WY:Nat→Nat→Nat
 | 0,_=>1
 | n+1,v=>if v < 128 then 1 else 1+WY n (v / 128)
theorem An:∀ (n k v:Nat),v≤n→v≤k→WY n v=WY k v
 | 0,0,_,_,_=>rfl
 | 0,k+1,v,h,_=>by rw [WY,WY,if_pos (by omega)]
 | n+1,0,v,_,h=>by rw [WY,WY,if_pos (by omega)]
 | n+1,k+1,v,h1,h2=>by
  rw [WY,WY]
  split
  · rfl
  · rw [An n k (v / 128) (by omega) (by omega)]
def YG (v:Nat):Nat:=WY v v
theorem V4 {v:Nat} (h:v < 128):YG v=1:=by
 unfold YG
 cases v with
 | zero=>rfl
 | succ n=>rw [WY,if_pos h]
theorem Uc {v:Nat} (h:¬ v < 128):YG v=1+YG (v / 128):=by
 unfold YG
 cases v with
 | zero=>omega
 | succ n=>rw [WY,if_neg h,An n ((n+1) / 128) _ (by omega) (Nat.le_refl _)]
theorem W3:∀ (k v:Nat),v < 128 ^ k→1≤k→YG v≤k
 | 0,_,_,h=>by omega
 | k+1,v,hv,_=>by
  by_cases h:v < 128
  · rw [V4 h];omega
  · rw [Uc h]
    cases k with
    | zero=>simp at hv;omega
    | succ k=>
     have:=W3 (k+1) (v / 128) (by rw [Nat.div_lt_iff_lt_mul (by decide)];rw [Nat.pow_succ] at hv;exact hv) (by omega)
     omega
theorem EO (v:Nat):1≤YG v:=by
 by_cases h:v < 128
 · rw [V4 h];exact Nat.le_refl 1
 · rw [Uc h];omega
section
variable (w0:Wd)
theorem FL (a b:Int) (ha:0≤a∧a≤1099511627776) (hb:0≤b∧b≤1099511627776):Ret Pg 173 #[.int .i64 a,.int .i64 b] w0 λ r w'=>r = .int .i64 (capF (a+b))∧Ext w0 w':=by
 refine ZfD (R:=ZO _) ?_;unfold ZfC
 simp (disch:=try exact DI) only [↓PR,QR,simprocAttr,Z0]
 refine ⟨?_,Ext.refl _⟩
 unfold capF;rfl
theorem CO (a b:Int) (ha:0≤a∧a≤1099511627776) (hb:0≤b∧b≤1099511627776):Ret Pg 109 #[.int .i64 a,.int .i64 b] w0 λ r w'=>r = .int .i64 (capF (a+b))∧Ext w0 w':=by
 refine Zis (R:=ZO _) ?_;unfold n47
 simp (disch:=try exact DI) only [↓PR,QR,simprocAttr,Z0]
 refine ⟨?_,Ext.refl _⟩
 unfold capF;rfl
theorem Ml (v n:Int) (hv:0≤v∧v≤1099511627776) (hn:1≤n∧n≤512):Ret Pg 172 #[.int .i64 v,.int .i64 n] w0 λ r w'=>r = .int .i64 (capF (upI v n))∧Ext w0 w':=by
 obtain ⟨q,hq,he,h1,h2⟩:=xn hv.1 hn.1
 have hd:(v+n - 1).tdiv n*n=upI v n:=rfl
 have hd0:0≤(v+n - 1).tdiv n∧(v+n - 1).tdiv n≤v+n:=by
  rw [Int.tdiv_eq_ediv_of_nonneg (by omega)]
  exact ⟨Int.ediv_nonneg (by omega) (by omega),Int.le_trans (Int.ediv_le_self _ (by omega)) (by omega)⟩
 have hn0:n≠0:=by omega
 refine ZfJ (R:=ZO _) ?_;unfold ZfI
 have hb:0≤(v+n - 1).tdiv n*n∧(v+n - 1).tdiv n*n≤v+n:=by rw [hd];omega
 simp (disch:=try exact DI) only [↓PR,QR,simprocAttr,Bh,Z0,hd]
 refine ⟨?_,Ext.refl _⟩
 unfold capF;rfl
theorem Ul (v:Int):Ret Pg 102 #[.int .i64 v] w0 λ r w'=>r=Zv v v∧Ext w0 w':=by
 refine ZfF (R:=ZO _) ?_;unfold ZfE
 simp (disch:=try exact DI) only [↓PR,QR,simprocAttr]
 exact ⟨by first | trivial | rfl,ee⟩
theorem Fh (v:Int) (hv:0≤v∧v≤1099511627776):Ret Pg 103 #[.int .i64 v,.int .i64 8] w0 λ r w'=>r = .int .i64 ((v+7).tdiv 8)∧Ext w0 w':=by
 have hd:0≤(v+7).tdiv 8∧(v+7).tdiv 8≤v+7:=by
  rw [Int.tdiv_eq_ediv_of_nonneg (by omega)]
  exact ⟨Int.ediv_nonneg (by omega) (by omega),Int.ediv_le_self _ (by omega)⟩
 have h8:(8:Int)≠0:=by decide
 have hs:v+8 - 1=v+7:=by omega
 refine ZeL (R:=ZO _) ?_;unfold ZeK
 simp (disch:=try exact DI) only [↓PR,QR,simprocAttr,Bh,Z0,hs]
 exact ⟨by first | trivial | rfl,ee⟩
theorem HM (v:Nat) (hv:v < 9223372036854775808):Ret Pg 187 #[.int .i64 (v:Int)] w0 λ r w'=>r = .int .i64 ((YG v:Nat):Int)∧Ext w0 w':=by
 refine Ze3 (R:=ZO _) ?_;unfold Ze2
 have hb:=W3 9 v (Nat.lt_of_lt_of_le hv (by decide)) (by decide)
 refine Yn (λ x n w=>∃ (y k:Nat),x = .int .i64 (y:Int)∧n = .int .i64 (k:Int)∧y≤v∧1≤k∧k+YG y=1+YG v∧Ext w0 w) (λ x _ _=>(intOf x).toNat) ⟨v,1,rfl,rfl,Nat.le_refl _,Nat.le_refl _,by omega,Ext.refl _⟩ ?_
 rintro _ _ w ⟨y,k,rfl,rfl,hy,hk,hg,e⟩
 have hp:=EO y
 unfold O8
 by_cases h:y < 128
 · have d:decide ((y:Int)≥128)=false:=decide_eq_false (by omega)
   rw [V4 h] at hg
   simp (disch:=try exact DI) only [↓PR,QR,simprocAttr,d]
   exact ⟨by rw [show k=YG v by omega],e⟩
 · have d:decide ((y:Int)≥128)=true:=decide_eq_true (by omega)
   rw [Uc h] at hg
   have hw:IntKind.i64.wrap ((k:Int)+1)=((k+1:Nat):Int):=by rw [Z0 (by omega) (by omega)];omega
   have hsh:∀ (QP:PEn) (K:KV),opV Pg (ZI .shr 3 true (.int .i64 (y:Int)) (.int .u64 7)) QP w K=K (.int .i64 ((y / 128:Nat):Int)) w:=λ QP K=>R3 (P:=Pg) (QP:=QP) (w:=w) (k:=K) 3 true y .u64 7 (by decide)
   simp (disch:=try exact DI) only [↓PR,QR,simprocAttr,d,hsh,hw]
   have:=Cf y h
   refine ⟨⟨y / 128,k+1,rfl,rfl,by omega,by omega,by omega,e⟩,?_⟩
   simp only [intOf];omega
theorem U6:∀ (n v:Nat) (w0:Wd),v < n→v < 9223372036854775808→Ret Pg 132 #[.int .i64 (v:Int)] w0 λ r w'=>r = .int .i64 ((YG v:Nat):Int)∧Ext w0 w'
 | 0,_,_,h,_=>by omega
 | n+1,v,w0,hn,hv=>by
  have hb:=W3 9 v (Nat.lt_of_lt_of_le hv (by decide)) (by decide)
  refine Zir (R:=ZO _) ?_;unfold n46
  by_cases h:v < 128
  · have d:decide ((v:Int) < 128)=true:=decide_eq_true (by omega)
    rw [V4 h]
    simp (disch:=try exact DI) only [↓PR,QR,simprocAttr,d]
    exact ⟨by first | trivial | rfl,Ext.refl _⟩
  · have d:decide ((v:Int) < 128)=false:=decide_eq_false (by omega)
    have h128:(128:Int)≠0:=by decide
    have hq:(v:Int).tdiv 128=((v / 128:Nat):Int):=by rw [Int.tdiv_eq_ediv_of_nonneg (by omega)];omega
    have hw:IntKind.i64.wrap ((v / 128:Nat):Int)=((v / 128:Nat):Int):=Z0 (by omega) (by omega)
    have Yv:=Cf v h
    simp (disch:=try exact DI) only [↓PR,QR,simprocAttr,d,↓Za2,Bh _ _ _ _ _ h128,hq,hw]
    refine zcr (U6 n (v / 128) w0 (by omega) (by omega)) λ w1 e1=>?_
    rw [Uc h] at hb
    have hw2:IntKind.i64.wrap (1+((YG (v / 128):Nat):Int))=((1+YG (v / 128):Nat):Int):=by rw [Z0 (by omega) (by omega)];omega
    simp (disch:=try exact DI) only [↓PR,QR,simprocAttr,hw2]
    exact ⟨by rw [Uc h],e1⟩
end
theorem w64 {n:Nat} (h:n < 18446744073709551616):IntKind.u64.wrap (n:Int)=n:=by
 simp [IntKind.wrap,IntKind.bits,IntKind.signed]
 omega
section
variable {QP:PEn} {w:Wd} {k:KV}
theorem Ba (t:TypeId) (c:Bool) (a:Nat) (h:a < 18446744073709551616):opV Pg (ZI .and t c (.int .u64 (a:Int)) (.int .u64 4294967295)) QP w k=k (.int .u64 ((a % 4294967296:Nat):Int)) w:=Yi (by
 rw [Xe _ _ _ _ _ _ rfl]
 have h1:(BitVec.ofInt IntKind.u64.bits (a:Int) &&& BitVec.ofInt IntKind.u64.bits 4294967295).toNat=a % 4294967296:=by
  rw [BitVec.toNat_and]
  have e1:(BitVec.ofInt IntKind.u64.bits (a:Int)).toNat=a:=by
   rw [BitVec.toNat_ofInt]
   show ((a:Int) % ((2 ^ 64:Nat):Int)).toNat=a
   omega
  have e2:(BitVec.ofInt IntKind.u64.bits 4294967295).toNat=2 ^ 32 - 1:=by decide
  rw [e1,e2,Nat.and_two_pow_sub_one_eq_mod]
 show Sem.run _ (Op.intBits .and .u64 (a:Int) 4294967295) w=_
 unfold Op.intBits
 show Result.ok (Value.int .u64 (IntKind.u64.wrap _)) w=_
 rw [h1,w64 (by omega)])
theorem J3 (t:TypeId) (c:Bool) (x:Nat):opV Pg (ZI .shr t c (.int .u64 (x:Int)) (.int .u64 32)) QP w k=k (.int .u64 ((x / 4294967296:Nat):Int)) w:=Yi (by
 have h3:(x:Int).fdiv (2 ^ 32)=((x / 4294967296:Nat):Int):=by
  rw [Int.fdiv_eq_ediv_of_nonneg _ (by decide)]
  omega
 simp [ZI,go_sem,h3])
end
theorem Mq (w0:Wd) (x y:Nat) (hx:x≤2097152) (hy:y≤1099511627776):Ret Pg 222 #[.int .u64 (x:Int),.int .u64 (y:Int)] w0 λ r w'=>r = .tuple #[.int .u64 0,.int .u64 ((x*y:Nat):Int)]∧Ext w0 w':=by
 have m1:x*(y % 4294967296)≤2097152*4294967296:=Nat.mul_le_mul hx (by omega)
 have m2:x*(y / 4294967296)≤2097152*256:=Nat.mul_le_mul hx (by omega)
 have m3:x*y≤2097152*1099511627776:=Nat.mul_le_mul hx hy
 have e1:x % 4294967296=x:=by omega
 have e2:x / 4294967296=0:=by omega
 have q1:IntKind.u64.wrap ((x:Int)*((y % 4294967296:Nat):Int))=((x*(y % 4294967296):Nat):Int):=by rw [← Int.natCast_mul,w64 (by omega)]
 have q2:IntKind.u64.wrap ((x:Int)*((y / 4294967296:Nat):Int))=((x*(y / 4294967296):Nat):Int):=by rw [← Int.natCast_mul,w64 (by omega)]
 have q3:IntKind.u64.wrap ((x:Int)*(y:Int))=((x*y:Nat):Int):=by rw [← Int.natCast_mul,w64 (by omega)]
 have q4:∀ n:Nat,IntKind.u64.wrap (((0:Nat):Int)*(n:Int))=((0:Nat):Int):=λ n=>by simp;decide
 generalize x*(y % 4294967296)=u at m1 q1
 generalize x*(y / 4294967296)=v at m2 q2
 have e3:u / 4294967296 % 4294967296=u / 4294967296:=by omega
 have e4:u / 4294967296 / 4294967296=0:=by omega
 have q5:IntKind.u64.wrap (((0:Nat):Int)+((u / 4294967296:Nat):Int))=((u / 4294967296:Nat):Int):=by rw [← Int.natCast_add,Nat.zero_add,w64 (by omega)]
 have q6:IntKind.u64.wrap (((u / 4294967296:Nat):Int)+(v:Int))=((u / 4294967296+v:Nat):Int):=by rw [← Int.natCast_add,w64 (by omega)]
 have e5:(u / 4294967296+v) / 4294967296=0:=by omega
 have q7:IntKind.u64.wrap (((0:Nat):Int)+((0:Nat):Int))=((0:Nat):Int):=by decide
 have hu:u < 18446744073709551616:=by omega
 refine n5s (R:=ZO _) ?_;unfold n5
 try unfold B0
 rw [Ba _ _ x (by omega),J3,Ba _ _ y (by omega),J3,e1,e2,zz,q1,zz,q4,J3,qg,q5,Ba _ _ _ (by omega),J3,e3,e4,zz,q2,qg,q6,zz,q4,qg,q7,J3,e5,qg,q7,zz,q3]
 exact ⟨_,rfl,rfl,Ext.refl _⟩
theorem Nz (w0:Wd) (x y:Int) (hx:0≤x∧x≤2097152) (hy:0≤y∧y≤1099511627776):Ret Pg 189 #[.int .i64 x,.int .i64 y] w0 λ r w'=>r = .int .i64 (capF (x*y))∧Ext w0 w':=by
 obtain ⟨x,rfl⟩:∃ n:Nat,x=n:=⟨x.toNat,by omega⟩
 obtain ⟨y,rfl⟩:∃ n:Nat,y=n:=⟨y.toNat,by omega⟩
 have m3:x*y≤2097152*1099511627776:=Nat.mul_le_mul (by omega) (by omega)
 have h1:=w64 (n:=x) (by omega)
 have h2:=w64 (n:=y) (by omega)
 refine ZfH (R:=ZO _) ?_;unfold ZfG
 simp (disch:=try exact DI) only [↓PR,QR,Int.reduceBEq,Int.reduceBNe,Int.reduceLT,Int.reduceLE,Int.reduceGT,Int.reduceGE,Int.reduceNeg,h1,h2]
 refine zcr (Mq w0 x y (by omega) (by omega)) λ w1 e1=>?_
 unfold PN
 have d0:decide ((0:Int) > 0)=false:=by decide
 by_cases h:1099511627776 < x*y
 · have d:decide (((x*y:Nat):Int) > 1099511627776)=true:=decide_eq_true (by omega)
   simp (disch:=try exact DI) only [↓PR,QR,Int.reduceBEq,Int.reduceBNe,Int.reduceLT,Int.reduceLE,Int.reduceGT,Int.reduceGE,Int.reduceNeg,d0,d]
   refine ⟨?_,e1⟩
   unfold capF
   rw [if_neg (by rw [← Int.natCast_mul];omega)]
 · have d:decide (((x*y:Nat):Int) > 1099511627776)=false:=decide_eq_false (by omega)
   have h3:IntKind.i64.wrap ((x*y:Nat):Int)=((x*y:Nat):Int):=Z0 (by omega) (by omega)
   simp (disch:=try exact DI) only [↓PR,QR,Int.reduceBEq,Int.reduceBNe,Int.reduceLT,Int.reduceLE,Int.reduceGT,Int.reduceGE,Int.reduceNeg,d0,d,h3]
   refine ⟨?_,e1⟩
   rw [V9 (by rw [← Int.natCast_mul];omega),Int.natCast_mul]
theorem Bu (w0:Wd) (x y:Int) (hx:0≤x∧x≤2097152) (hy:0≤y∧y≤1099511627776):Ret Pg 133 #[.int .i64 x,.int .i64 y] w0 λ r w'=>r = .int .i64 (capF (x*y))∧Ext w0 w':=by
 obtain ⟨x,rfl⟩:∃ n:Nat,x=n:=⟨x.toNat,by omega⟩
 obtain ⟨y,rfl⟩:∃ n:Nat,y=n:=⟨y.toNat,by omega⟩
 have m3:x*y≤2097152*1099511627776:=Nat.mul_le_mul (by omega) (by omega)
 refine Ziu (R:=ZO _) ?_;unfold n49
 by_cases h0:0 < x
 · have d0:decide ((x:Int) > 0)=true:=decide_eq_true (by omega)
   have hx0:(x:Int)≠0:=by omega
   have hq:(1099511627776:Int).tdiv (x:Int)=((1099511627776 / x:Nat):Int):=by
    rw [Int.tdiv_eq_ediv_of_nonneg (by decide)];rfl
   have hq2:1099511627776 / x≤1099511627776:=Nat.div_le_self _ _
   have Yv:(1099511627776 / x < y)↔1099511627776 < x*y:=by rw [Nat.div_lt_iff_lt_mul h0,Nat.mul_comm]
   generalize 1099511627776 / x=D at hq hq2 Yv
   have hw:IntKind.i64.wrap (D:Int)=(D:Int):=Z0 (by omega) (by omega)
   by_cases h:1099511627776 < x*y
   · have d:decide ((y:Int) > (D:Int))=true:=decide_eq_true (by have:=Yv.2 h;omega)
     simp (disch:=try exact DI) only [↓PR,QR,Int.reduceBEq,Int.reduceBNe,Int.reduceLT,Int.reduceLE,Int.reduceGT,Int.reduceGE,Int.reduceNeg,d0,d,Bh _ _ _ _ _ hx0,hq,hw]
     refine ⟨?_,Ext.refl _⟩
     unfold capF
     rw [if_neg (by rw [← Int.natCast_mul];omega)]
   · have d:decide ((y:Int) > (D:Int))=false:=decide_eq_false (by have:=λ hh=>h (Yv.1 hh);omega)
     have hw2:IntKind.i64.wrap ((x:Int)*(y:Int))=(x:Int)*(y:Int):=by rw [← Int.natCast_mul];exact Z0 (by omega) (by omega)
     simp (disch:=try exact DI) only [↓PR,QR,Int.reduceBEq,Int.reduceBNe,Int.reduceLT,Int.reduceLE,Int.reduceGT,Int.reduceGE,Int.reduceNeg,d0,d,Bh _ _ _ _ _ hx0,hq,hw,hw2]
     refine ⟨?_,Ext.refl _⟩
     rw [V9 (by rw [← Int.natCast_mul];omega)]
 · obtain rfl:x=0:=by omega
   have d0:decide (((0:Nat):Int) > 0)=false:=by decide
   have hw2:IntKind.i64.wrap (((0:Nat):Int)*(y:Int))=0:=by simp;decide
   simp (disch:=try exact DI) only [↓PR,QR,Int.reduceBEq,Int.reduceBNe,Int.reduceLT,Int.reduceLE,Int.reduceGT,Int.reduceGE,Int.reduceNeg,d0,hw2]
   refine ⟨?_,Ext.refl _⟩
   rw [V9 (by simp)];simp
theorem TO {n p k:Int} (hn:1≤n) (hp:0≤p) (h1:p≤k) (h2:k≤upI p n) (hz:k.tmod n=0):k=upI p n:=by
 obtain ⟨q,hq,he,hq1,hq2⟩:=xn hp hn
 rw [Int.tmod_eq_emod_of_nonneg (by omega)] at hz
 obtain ⟨r,rfl⟩:=Int.dvd_of_emod_eq_zero hz
 rw [he] at h2 ⊢
 have hrq:r≤q:=Int.le_of_mul_le_mul_left h2 (by omega)
 by_cases h:r=q
 · rw [h]
 · exfalso
   have:=Int.mul_le_mul_of_nonneg_left (show r+1≤q by omega) (show 0≤n by omega)
   rw [Int.mul_add] at this
   omega
theorem TP {n p:Int} (hn:1≤n) (hp:0≤p):(upI p n).tmod n=0:=by
 obtain ⟨q,hq,he,hq1,hq2⟩:=xn hp hn
 rw [he,Int.mul_tmod_right]
theorem Mf (w0:Wd) (v n:Int) (hv:0≤v∧v≤1099511627776) (hn:1≤n∧n≤512):Ret Pg 108 #[.int .i64 v,.int .i64 n] w0 λ r w'=>r = .int .i64 (capF (upI v n))∧Ext w0 w':=by
 obtain ⟨q,hq,he,h1,h2⟩:=xn hv.1 hn.1
 have hn0:n≠0:=by omega
 refine Ziv (R:=ZO _) ?_;unfold n50
 refine ZF (λ a w=>∃ k:Int,a = .int .i64 k∧v≤k∧k≤upI v n∧k≤1099511627776∧Ext w0 w) (λ a _=>(upI v n - intOf a).toNat) ⟨v,rfl,by omega,by omega,by omega,Ext.refl _⟩ ?_
 rintro _ w ⟨k,rfl,hk0,hk,hk1,e⟩
 unfold Za8
 by_cases hz:k.tmod n=0
 · have hz':(k.tmod n != 0)=false:=by simp [hz]
   have:=TO hn.1 hv.1 hk0 hk hz
   simp (disch:=try exact DI) only [↓PR,QR,Int.reduceBEq,Int.reduceBNe,Int.reduceLT,Int.reduceLE,Int.reduceGT,Int.reduceGE,Int.reduceNeg,D2 _ _ _ _ _ hn0,hz']
   exact ⟨by rw [← this,V9 (by omega)],e⟩
 · have hz':(k.tmod n != 0)=true:=by simpa using hz
   have Xv:k≠upI v n:=λ hh=>hz (by rw [hh];exact TP hn.1 hv.1)
   by_cases Yv:k < 1099511627776
   · have d:decide (k < 1099511627776)=true:=decide_eq_true Yv
     have hw:IntKind.i64.wrap (k+1)=k+1:=Z0 (by omega) (by omega)
     simp (disch:=try exact DI) only [↓PR,QR,Int.reduceBEq,Int.reduceBNe,Int.reduceLT,Int.reduceLE,Int.reduceGT,Int.reduceGE,Int.reduceNeg,D2 _ _ _ _ _ hn0,hz',d,hw]
     refine ⟨⟨k+1,rfl,by omega,by omega,by omega,e⟩,?_⟩
     simp only [intOf]
     omega
   · have d:decide (k < 1099511627776)=false:=decide_eq_false Yv
     simp (disch:=try exact DI) only [↓PR,QR,Int.reduceBEq,Int.reduceBNe,Int.reduceLT,Int.reduceLE,Int.reduceGT,Int.reduceGE,Int.reduceNeg,D2 _ _ _ _ _ hn0,hz',d]
     refine ⟨?_,e⟩
     have:k=1099511627776:=by omega
     unfold capF
     rw [if_neg (by omega),this]
def Two (w0:Wd) (g:FuncId) (a b c:Int):Prop:=∀ w,Ext w0 w→Ret Pg g #[.int .i64 a,.int .i64 b] w λ r w'=>r = .int .i64 c∧Ext w w'
theorem Kn (w0:Wd) (a1 a2 b1 b2 c1 c2:Int) (g:FuncId) (hg:Callable Pg g) (h1:Two w0 g a1 b1 c1) (h2:Two w0 g a2 b2 c2):Ret Pg 101 #[Zv a1 a2,Zv b1 b2,.func (.func g) #[] #[]] w0 λ r w'=>r=Zv c1 c2∧Ext w0 w':=by
 refine ZeZ (R:=ZO _) ?_;unfold ZeY
 simp (disch:=try exact DI) only [↓PR,QR,simprocAttr]
 generalize hW:World.alloc (World.alloc (World.alloc w0 _) _) _=W
 have e0:Ext w0 W:=by rw [← hW];exact ee
 have o3:W.heap[w0.heap.size]?=some (.cells #[.int .i64 a1,.int .i64 a2] 74 (0,0)):=by rw [← hW];simp (disch:=try exact DI) only [↓PR,QR,simprocAttr]
 have o4:W.heap[w0.heap.size+1]?=some (.cells #[.int .i64 b1,.int .i64 b2] 74 (0,0)):=by rw [← hW];simp (disch:=try exact DI) only [↓PR,QR,simprocAttr]
 have o6:W.heap[w0.heap.size+1+1]?=some (.cells #[.int .i64 0,.int .i64 0] 74 (0,0)):=by rw [← hW];simp (disch:=try exact DI) only [↓PR,QR,simprocAttr]
 clear hW
 refine Zy ?_
 have eD:Ext W W.drew:=(Ext.refl _).wdrew
 unfold O5
 simp (disch:=try exact DI) only [↓PR,QR,simprocAttr,(Za o3).1,(Za o4).1]
 rw [YZ hg]
 refine zcr (h1 _ (e0.trans eD)) λ w1 e1=>?_
 refine ⟨e1,?_⟩
 rw [YZ hg]
 refine zcr (h2 _ (e0.trans (eD.trans e1))) λ w2 e2=>?_
 refine ⟨e1.trans e2,?_⟩
 have x6:=(eD.trans (e1.trans e2)).obj o6
 have E2:=e0.trans (eD.trans (e1.trans e2))
 have l6:=(Array.getElem?_eq_some_iff.1 x6).1
 unfold O4
 simp (disch:=try exact DI) only [↓PR,QR,simprocAttr,(Za x6).1,(Za x6).2]
 refine Yb ?_
 simp (disch:=try exact DI) only [↓PR,QR,simprocAttr,(Za x6).1]
 exact ⟨by first | trivial | rfl,ee⟩
abbrev ZZ (m:ZC) (fl:Vl) (mr:Nat):List Vl:=[.string m.name,fl,.map (some mr)]
def Z5 (sp:List (BAr×Int×Int)) (s:BAr):Int×Int:=(Ym sp s).getD (0,0)
abbrev ivL (l:List Zl) (f:Zl):Int:=Y5 f.base f.terms (YD l)
abbrev ivH (l:List Zl) (f:Zl):Int:=Y4 f.base f.terms (YD l)
section
variable (w0:Wd) (m:ZC) (fl tv cv:Vl) (mr:Nat) (f:Zl)
theorem LV (hT:ZV w0 tv f.terms) (hC:Yc w0 cv f.cases):Ret Pg 161 #[.agg (Zm f tv cv).toArray] w0 λ r w'=>r=Zv f.bits f.bits∧Ext w0 w':=by
 have ht1:=Zd.oneCell hT
 have hc1:=Zd.oneCell hC
 refine Zfk (R:=ZO _) ?_;unfold Zfj
 simp (disch:=try exact DI) only [↓PR,QR,simprocAttr]
 generalize hW:World.alloc (World.alloc w0 _) _=W
 have e0:Ext w0 W:=by rw [← hW];exact ee
 have o2:W.heap[w0.heap.size+1]?=some (.cells #[.int .i64 0,.int .i64 0] 74 (0,0)):=by rw [← hW];simp (disch:=try exact DI) only [↓PR,QR,simprocAttr]
 clear hW
 refine zcr (Ul _ f.bits) λ w1 e1=>?_
 have x2:=e1.obj o2
 have E1:=e0.trans e1
 have l2:=(Array.getElem?_eq_some_iff.1 x2).1
 simp (disch:=try exact DI) only [↓PR,QR,simprocAttr,(Za x2).1,(Za x2).2]
 exact ⟨by first | trivial | rfl,ee⟩
theorem To (hT:ZV w0 tv f.terms) (hC:Yc w0 cv f.cases) (hb:0≤f.high∧f.high≤1048576):Ret Pg 164 #[.agg (Zm f tv cv).toArray] w0 λ r w'=>r=Zv 8 (8*(f.high+1))∧Ext w0 w':=by
 have ht1:=Zd.oneCell hT
 have hc1:=Zd.oneCell hC
 refine Zfm (R:=ZO _) ?_;unfold Zfl
 simp (disch:=try exact DI) only [↓PR,QR,simprocAttr,Z0]
 exact ⟨by first | trivial | rfl,ee⟩
theorem Tp (hT:ZV w0 tv f.terms) (hC:Yc w0 cv f.cases) (hb:0≤f.high∧f.high≤1048576):Ret Pg 165 #[.agg (Zm f tv cv).toArray] w0 λ r w'=>r=Zv 16 (8*f.high)∧Ext w0 w':=by
 have ht1:=Zd.oneCell hT
 have hc1:=Zd.oneCell hC
 refine Zfo (R:=ZO _) ?_;unfold Zfn
 simp (disch:=try exact DI) only [↓PR,QR,simprocAttr,Z0]
 exact ⟨by first | trivial | rfl,ee⟩
theorem Tr (hT:ZV w0 tv f.terms) (hC:Yc w0 cv f.cases) (hb:0≤f.bits∧f.bits≤1048576):Ret Pg 169 #[.agg (Zm f tv cv).toArray] w0 λ r w'=>r=Zv 0 (f.bits - 1)∧Ext w0 w':=by
 have ht1:=Zd.oneCell hT
 have hc1:=Zd.oneCell hC
 refine Zfs (R:=ZO _) ?_;unfold Zfr
 simp (disch:=try exact DI) only [↓PR,QR,simprocAttr,Z0]
 exact ⟨by first | trivial | rfl,ee⟩
theorem Tq (sp:List (BAr×Int×Int)) (p:Nat) (hM:Yr w0 mr (RP sp)) (hp:w0.heap[p]?=some (.cells (ZZ m fl mr).toArray 124 (0,0))) (hT:ZV w0 tv f.terms) (hC:Yc w0 cv f.cases):Ret Pg 167 #[.agg (Zm f tv cv).toArray,.pointer (some ⟨p,0,none⟩)] w0 λ r w'=>r=Zv (Z5 sp f.of).1 (Z5 sp f.of).2∧Ext w0 w':=by
 have ht1:=Zd.oneCell hT
 have hc1:=Zd.oneCell hC
 have lp:=(Array.getElem?_eq_some_iff.1 hp).1
 refine Zfq (R:=ZO _) ?_;unfold Zfp
 simp (disch:=try exact DI) only [↓PR,QR,simprocAttr]
 generalize hW:World.alloc (World.alloc w0 _) _=W
 have e0:Ext w0 W:=by rw [← hW];exact ee
 have o2:W.heap[w0.heap.size]?=some (.cells (Zm f tv cv).toArray 48 (0,0)):=by rw [← hW];simp (disch:=try exact DI) only [↓PR,QR,simprocAttr]
 have o3:W.heap[w0.heap.size+1]?=some (.cells #[.int .i64 0,.int .i64 0] 74 (0,0)):=by rw [← hW];simp (disch:=try exact DI) only [↓PR,QR,simprocAttr]
 clear hW
 have hlk:∀ (w:Wd) (QP:PEn) (K:KV),Ext W w→opV Pg (Instr.lookup 122 (.map (some mr)) (.string f.of) false) QP w K=K (Zv (Z5 sp f.of).1 (Z5 sp f.of).2) w:=λ w QP K e=>by
  rw [QC underlying122 underlying9 UY ((hM.ext e0).ext e),Qg]
  unfold Z5
  cases Ym sp f.of<;>rfl
 have l3:=(Array.getElem?_eq_some_iff.1 o3).1
 simp (disch:=try exact DI) only [↓PR,QR,simprocAttr,(Za hp).1,(Za o2).1,hlk W _ _ (Ext.refl W),(Za o3).1,(Za o3).2]
 exact ⟨by first | trivial | rfl,ee⟩
end
end Go.Proofs.YtfjjgjjlebllmaaGreat
