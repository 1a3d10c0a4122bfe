/-
  Lemmas for the claim.
-/
import Derived.Test.YtiajhbbmgglmlaaGreatFh1
set_option linter.all false
set_option maxHeartbeats 4000000
set_option maxRecDepth 100000
namespace Go.Sw
open Go.RowKit (Below)
section
variable {P:Program} {QP:List PanicEntry→World→Prop} {w:World} {k:Value→World→Prop} {ku:World→Prop}
theorem op_indexS {t:TypeId} (hu:P.underlying t=some .string) (s:ByteArray) (kd:IntKind) (i:Nat) {b:UInt8} (hb:s.data.toList[i]?=some b) :
 opV P (Instr.index t (.string s) (.int kd (i:Int))) QP w k=k (.int .u8 b.toNat) w:=by
 refine opV_ok ?_
 have hs:s[i]?=some b:=by
  obtain ⟨h1,h2⟩:=List.getElem?_eq_some_iff.1 hb
  have h3:i < s.data.size:=by simpa using h1
  rw [getElem?_pos s i h3]
  exact congrArg some h2
 unfold Instr.index
 have hai:(asIntOf (.int kd (i:Int))).run P w = .ok (kd,(i:Int)) w:=rfl
 simp only [Sem.run_bind,hai,Result.andThen_ok,run_underlying hu]
 have:(if (0:Int)≤(i:Int) then s[(i:Int).toNat]? else none)=some b:=by rw [if_pos (by omega),Int.toNat_natCast];exact hs
 rw [this];rfl
theorem op_indexS0 {t:TypeId} (hu:P.underlying t=some .string) (s:ByteArray) (kd:IntKind) {b:UInt8} (hb:s.data.toList[0]?=some b) :
 opV P (Instr.index t (.string s) (.int kd 0)) QP w k=k (.int .u8 b.toNat) w:=op_indexS hu s kd 0 hb
theorem op_shl (t:TypeId) (c:Bool) (x:Int) (yk:IntKind) (y:Int) (h0:0≤y) (h1:y≤64):opV P (binS .shl t c (.int .i64 x) (.int yk y)) QP w k=k (.int .i64 (IntKind.i64.wrap (x*2 ^ y.toNat))) w:=opV_ok (by
 simp [binS,go_sem,h0,h1])
theorem op_sliceTo {t e:TypeId} {agg:Bool} {n m:Nat} {z:Value} (hu:P.underlying t=some (.slice e)) (ht:TyInfo P e agg n m z) (b o len cap:Nat) (kd:IntKind) (h:Nat) (hh:h≤cap) :
 opV P (Instr.sliceAt t (.slice (some ⟨b,o,none⟩) len cap) none (some (.int kd (h:Int))) none) QP w k=k (.slice (some ⟨b,o,none⟩) h cap) w:=by
 refine opV_ok ?_
 have h1:(h:Int)≤(cap:Int):=by omega
 have h2:(0:Int)≤(h:Int):=by omega
 simp [Instr.sliceAt,run_underlying hu,Instr.slice,Instr.sliceBounds,run_sliceBound,h1,h2,run_sizeOf ht,Addr.add_lit]
theorem op_rem (t:TypeId) (c:Bool) (kd:IntKind) (a b:Int) (hb:b≠0):opV P (binS .rem t c (.int kd a) (.int kd b)) QP w k=k (.int kd (a.tmod b)) w:=opV_ok (by
 rw [run_bin_int _ _ _ _ _ _ rfl]
 show Sem.run P (Op.intDiv .rem kd a b) w=_
 unfold Op.intDiv
 rw [if_neg hb];rfl)
theorem run_eqv {t:TypeId} {a b:Value} {r:Bool} (h:(Op.equalIn (9999+1) t a b).run P w = .ok r w):(do pure (.bool (← Op.equal t a b)):Sem Value).run P w = .ok (.bool r) w:=by
 have h':(Op.equal t a b).run P w = .ok r w:=h
 rw [Sem.run_bind,h'];rfl
theorem run_nev {t:TypeId} {a b:Value} {r:Bool} (h:(Op.equalIn (9999+1) t a b).run P w = .ok r w):(do pure (.bool (!(← Op.equal t a b))):Sem Value).run P w = .ok (.bool (!r)) w:=by
 have h':(Op.equal t a b).run P w = .ok r w:=h
 rw [Sem.run_bind,h'];rfl
theorem op_iface {t:TypeId} {d:TypeDesc} (hu:P.underlying t=some d) (hn:(match d with | .interface _=>false | _=>true)=true) (v:Value):opV P (Instr.makeInterface t v) QP w k=k (.iface t v) w:=by
 refine opV_ok ?_
 unfold Instr.makeInterface
 simp only [Sem.run_bind,run_underlying hu,Result.andThen_ok]
 cases d<;>simp at hn<;>rfl
theorem op_assert_ok {xt t:TypeId} {d:TypeDesc} (hu:P.underlying t=some d) (hn:(match d with | .interface _=>false | _=>true)=true) (v:Value):opV P (Instr.typeAssert (.iface t v) xt t true) QP w k=k (.tuple #[v,.bool true]) w:=by
 refine opV_ok ?_
 unfold Instr.typeAssert
 simp only [Sem.run_bind,run_underlying hu,Result.andThen_ok]
 cases d<;>simp at hn<;>simp
theorem op_panic (t:TypeId) (v:Value):opV P (Instr.panic (.iface t v)) QP w k=QP [{ v := .iface t v,recovered:=false }] w:=opV_panic rfl
theorem eqNil_i (d0:Nat) {t:TypeId} {m:Array (String×TypeId)} (hu:P.underlying t=some (.interface m)) (d:TypeId) (v:Value):(Op.equalIn (d0+1) t (.iface d v) .nilIface).run P w = .ok false w:=by simp [Op.equalIn,run_underlying hu]
theorem eqNil_n (d0:Nat) {t:TypeId} {m:Array (String×TypeId)} (hu:P.underlying t=some (.interface m)):(Op.equalIn (d0+1) t .nilIface .nilIface).run P w = .ok true w:=by simp [Op.equalIn,run_underlying hu]
theorem eqNil_s (d0:Nat) {t e:TypeId} (hu:P.underlying t=some (.slice e)) (A:Option Addr) (n m:Nat):(Op.equalIn (d0+1) t (.slice A n m) (.slice none 0 0)).run P w = .ok A.isNone w:=by cases A<;>simp [Op.equalIn,run_underlying hu]
theorem op_neqNil_some {t:TypeId} {m:Array (String×TypeId)} (hu:P.underlying t=some (.interface m)) (d:TypeId) (v:Value):opV P (binS .neq t true (.iface d v) .nilIface) QP w k=k (.bool true) w :=
 opV_ok (run_nev (r:=false) (eqNil_i 9999 hu d v))
theorem op_neqNil_none {t:TypeId} {m:Array (String×TypeId)} (hu:P.underlying t=some (.interface m)):opV P (binS .neq t true .nilIface .nilIface) QP w k=k (.bool false) w :=
 opV_ok (run_nev (r:=true) (eqNil_n 9999 hu))
theorem op_eqNilS {t e:TypeId} (hu:P.underlying t=some (.slice e)) (c:Bool) (A:Option Addr) (n m:Nat):opV P (binS .eql t c (.slice A n m) (.slice none 0 0)) QP w k=k (.bool A.isNone) w :=
 opV_ok (run_eqv (eqNil_s 9999 hu A n m))
theorem op_aggEq {t:TypeId} {xs ys:Array Value} {r:Bool} (hm:P.eqGuardType P.depth t=false) (h:∀ w,(Op.equalIn (9999+1) t (.agg xs) (.agg ys)).run P w = .ok r w) (c:Bool):opV P (binS .eql t c (.agg xs) (.agg ys)) QP w k=k (.bool r) w:=by
 refine opV_ok ?_
 show Sem.run P (do (do if !(← program).eqGuardType (← program).depth t then pure () else if ← Op.eqGuardIn Op.maxDepth t (.agg xs) (.agg ys) then unsupported (.noEntry "binop/eql: two nil values of an interface type with methods, in a part of a struct or an array")); (do pure (.bool (← Op.equal t (.agg xs) (.agg ys)))):Sem Value) w=_
 simp only [Sem.run_bind,run_program,Result.andThen_ok,hm,Bool.not_false,if_true,Sem.run_pure]
 have h':=run_eqv (h w)
 simp only [Sem.run_bind,Sem.run_pure] at h'
 exact h'
theorem op_aggNe {t:TypeId} {xs ys:Array Value} {r:Bool} (hm:P.eqGuardType P.depth t=false) (h:∀ w,(Op.equalIn (9999+1) t (.agg xs) (.agg ys)).run P w = .ok r w) (c:Bool):opV P (binS .neq t c (.agg xs) (.agg ys)) QP w k=k (.bool (!r)) w:=by
 refine opV_ok ?_
 show Sem.run P (do (do if !(← program).eqGuardType (← program).depth t then pure () else if ← Op.eqGuardIn Op.maxDepth t (.agg xs) (.agg ys) then unsupported (.noEntry "binop/eql: two nil values of an interface type with methods, in a part of a struct or an array")); (do pure (.bool (!(← Op.equal t (.agg xs) (.agg ys))))):Sem Value) w=_
 simp only [Sem.run_bind,run_program,Result.andThen_ok,hm,Bool.not_false,if_true,Sem.run_pure]
 have h':=run_nev (h w)
 simp only [Sem.run_bind,Sem.run_pure] at h'
 exact h'
theorem op_bytes {src dst e:TypeId} (hs:P.underlying src=some .string) (hd:P.underlying dst=some (.slice e)) (he:P.underlying e=some (.int .u8)) (s:ByteArray) (hlen:s.size≤9223372036854775807)
 (h:∀ v w',Ext w w'→(∃ A c,v = .slice A s.size c∧s.size≤c∧c≤9223372036854775807∧∃ b,A=some ⟨b,0,none⟩∧∀ j x,s.data.toList[j]?=some x→w'.cell? ⟨b,j,none⟩=some (.int .u8 (x.toNat:Int)))→k v w'):opV P (Go.convert src dst (.string s)) QP w k:=by
 have:=run_bytes_of_string (P:=P) w src dst e s hs hd he
 rw [opV_ok this]
 refine h _ _ ((Ext.refl w).wdrew.alloc _) ⟨_,_,rfl,grownCap_ge _ _ _ _,?_,?_⟩
 · have:=grownCap_le_maxLen w s.size 0 e (by simp only [maxLen];omega)
   simp only [maxLen] at this;omega
 · refine ⟨_,rfl,fun j x hx=>?_⟩
   obtain ⟨h1,h2⟩:=List.getElem?_eq_some_iff.1 hx
   have h3:j < s.data.size:=by simpa using h1
   have h4:=bytesRow_at s (grownCap w s.size 0 e) j h3
   show World.cell? _ ⟨w.drew.heap.size,j,none⟩=_
   unfold World.cell?
   rw [World.alloc_heap_new]
   show (if (none:Option _).isSome then none else (bytesRow s (grownCap w s.size 0 e))[j]?)=_
   rw [h4,← h2]
   rfl
theorem cells_agg (cs:Array Value):(Value.agg cs).cells=cs:=rfl
theorem equalIn_struct {d:Nat} {t:TypeId} {fs:Array Field} {xs ys:Array Value} {r:Bool} (hu:P.underlying t=some (.struct fs)) (hs:P.stoodInHeld t=false) (h:(Op.eqFields d xs ys fs.toList).run P w = .ok r w) :
 (Op.equalIn (d+1) t (.agg xs) (.agg ys)).run P w = .ok r w:=by
 have hf:P.fieldsOf t=fs:=by simp [Program.fieldsOf,hu]
 rw [run_equalIn_agg w d t xs ys (by rw [hf];exact hu) hs,hf]
 exact h
theorem eqFields_nil {d:Nat} {xs ys:Array Value}:(Op.eqFields d xs ys []).run P w = .ok true w:=rfl
theorem eqFields_step {d:Nat} {xs ys:Array Value} {f:Field} {fs:List Field} {x y:Value} {b r:Bool} (hn:(f.name == "_")=false) (hx:(part f.type xs f.offset).run P w = .ok x w) (hy:(part f.type ys f.offset).run P w = .ok y w)
 (he:(Op.equalIn d f.type x y).run P w = .ok b w) (hr:(Op.eqFields d xs ys fs).run P w = .ok r w):(Op.eqFields d xs ys (f::fs)).run P w = .ok (b&&r) w:=by
 have hn':f.name ≠ "_" := by simpa using hn
 simp only [Op.eqFields]
 rw [if_pos hn']
 simp only [Sem.run_bind,hx,hy,he,Result.andThen_ok]
 cases b with
 | true=>simpa using hr
 | false=>rfl
theorem part1 {T:TypeId} {n m:Nat} {z v:Value} {cs:Array Value} {off:Nat} (h:TyInfo P T false n m z) (hc:cs[off]?=some v):(part T cs off).run P w = .ok v w:=by
 unfold part
 rw [Sem.run_bind,run_isAgg h]
 simp [hc]
theorem op_fieldV1 {s:TypeId} {fs:Array Field} {i off ft:Nat} {n m:Nat} {z v:Value} {cs:Array Value} {k:Value→World→Prop} (hu:P.underlying s=some (.struct fs)) (hf:(fs[i]?).map (fun f=>(f.type,f.offset))=some (ft,off)) (ht:TyInfo P ft false n m z) (hc:cs[off]?=some v) :
 opV P (Instr.field s (.agg cs) i) QP w k=k v w:=by
 obtain ⟨f,h1,h2⟩:=Option.map_eq_some_iff.1 hf
 simp only [Prod.mk.injEq] at h2
 obtain ⟨rfl,rfl⟩:=h2
 refine opV_ok ?_
 have ha:(asAgg (.agg cs)).run P w = .ok cs w:=rfl
 simp [Instr.field,run_underlying hu,h1,ha,part1 (w:=w) ht hc]
theorem eqInt {d:Nat} {t:TypeId} {q:IntKind} (hu:P.underlying t=some (.int q)) {kd:IntKind} {a b:Int}:(Op.equalIn (d+1) t (.int kd a) (.int kd b)).run P w = .ok (decide (a=b)) w:=by
 rw [run_equalIn_int w d t kd q a b hu];congr 1
theorem eqBool {d:Nat} {t:TypeId} (hu:P.underlying t=some .bool) {a b:Bool}:(Op.equalIn (d+1) t (.bool a) (.bool b)).run P w = .ok (decide (a=b)) w:=by
 rw [run_equalIn_bool w d t a b hu];congr 1
theorem eqString {d:Nat} {t:TypeId} (hu:P.underlying t=some .string) {a b:ByteArray}:(Op.equalIn (d+1) t (.string a) (.string b)).run P w = .ok (decide (a=b)) w:=by
 rw [run_equalIn_string w d t a b hu,bytes_eq]
theorem cells_one {v:Value} (h:v.oneCell'=true):v.cells = #[v]:=by cases v<;>first | rfl | simp [Value.oneCell'] at h
theorem op_build {T:TypeId} {fs:Array Field} {n m:Nat} {z cs:Array Value} {parts:Array (Nat×Value)} {places:Array (Nat×Nat)} (hu:P.underlying T=some (.struct fs)) (hz:TyInfo P T true n m (.agg z))
 (hp:∀ w:World,(fs.mapM (m:=Sem) (fun f=>do pure (f.offset,← sizeOf f.type))).run P w = .ok places w) (hf:Instr.fill (places[·]?) z parts.toList=some cs):opV P (Instr.build T parts) QP w k=k (.agg cs) w:=by
 obtain ⟨⟨i,hi,_,_,hzz⟩,_⟩:=hz
 refine opV_ok ?_
 unfold Instr.build
 have hz0:(zeroValue T).run P w = .ok (.agg z) w:=by simp [zeroValue,typeInfo,hi,hzz]
 simp only [Sem.run_bind,hz0,Result.andThen_ok,run_underlying hu,hp]
 have:(Value.agg z).cells=z:=rfl
 rw [this,hf]
 rfl
theorem op_buildSlice {T e:TypeId} {agg:Bool} {n m:Nat} {z:Value} {len:Nat} {cs:Array Value} {parts:Array (Nat×Value)} (hu:P.underlying T=some (.slice e)) (hz:TyInfo P e agg n m z) (hl:len*n≤16777216)
 {base:Array Value} (hb:(Array.range (len*n)).map ((if len*n=0 then #[] else z.cells)[· % (if len*n=0 then #[] else z.cells).size]!)=base) (hf:Instr.fill (fun i=>some (i*n,n)) base parts.toList=some cs) :
 opV P (Instr.buildSlice T len parts) QP w k=k (.slice (some ⟨w.heap.size,0,none⟩) len len) (w.alloc (.cells cs e)):=by
 subst hb
 have hsz:=run_sizeOf (w:=w) hz
 obtain ⟨⟨i,hi,_,_,hzz⟩,_⟩:=hz
 refine opV_ok ?_
 unfold Instr.buildSlice
 have hl':¬ (2 ^ 24 < len*n):=by omega
 simp only [Sem.run_bind,run_underlying hu,hsz,Result.andThen_ok,gt_iff_lt,hl',if_false]
 have hz0:(zeroValue e).run P w = .ok z w:=by simp [zeroValue,typeInfo,hi,hzz]
 by_cases h0:len*n=0
 · rw [if_pos h0] at hf
   rw [if_pos h0]
   simp only [Sem.run_bind,Sem.run_pure,Result.andThen_ok]
   rw [hf]
   simp [newRow]
 · rw [if_neg h0] at hf
   rw [if_neg h0]
   simp only [Sem.run_bind,hz0,Sem.run_pure,Result.andThen_ok]
   rw [hf]
   simp [newRow]
def EC (w:World):World→Prop:=fun w'=>Ext w w'
class ClassNe (C:World→Prop):Prop where
 ne:∃ w,C w
instance (w:World):ClassNe (EC w):=⟨⟨w,Ext.refl w⟩⟩
def KB (w:World) (b1 b2:Nat):World→Prop:=fun w'=>∀ b,b < w.heap.size→b≠b1→b≠b2→w'.heap[b]?=w.heap[b]?
instance (w:World) (b1 b2:Nat):ClassNe (KB w b1 b2):=⟨⟨w,fun _ _ _ _=>rfl⟩⟩
theorem KB.cell {w w':World} {b1 b2 b o:Nat} {v:Value} (h:KB w b1 b2 w') (h1:b≠b1) (h2:b≠b2) (hc:w.cell? ⟨b,o,none⟩=some v):w'.cell? ⟨b,o,none⟩=some v :=
 (World.cell?_of_block (h b (World.block_lt_of_cell? w _ hc) h1 h2)).trans hc
theorem run_of_op {s:Sem Value} {v:Value} (h:∀ (QP:List PanicEntry→World→Prop) (k:Value→World→Prop),opV P s QP w k=k v w):s.run P w = .ok v w:=by
 have h1:=h (fun _ _=>False) (fun u x=>u=v∧x=w)
 simp only [and_self] at h1
 have h2:opV P s (fun _ _=>False) w (fun u x=>u=v∧x=w):=by rw [h1];trivial
 unfold opV at h2
 split at h2
 · rename_i a b he;obtain ⟨rfl,rfl⟩:=h2;exact he
 · exact h2.elim
 · exact h2.elim
theorem qV_eq {s:Sem Value} {v:Value} {k:Value→Prop} (h:∀ w',Ext w w'→s.run P w' = .ok v w'):qV P (EC w) s k=k v:=by
 apply propext
 constructor
 · rintro ⟨v',h1,h2⟩
   have a:=h1 w (Ext.refl w)
   rw [h w (Ext.refl w)] at a
   injection a with a _
   rw [a];exact h2
 · exact fun hk=>⟨v,h,hk⟩
theorem qV_eqC {C:World→Prop} [hne:ClassNe C] {s:Sem Value} {v:Value} {k:Value→Prop} (h:∀ w',C w'→s.run P w' = .ok v w'):qV P C s k=k v:=by
 apply propext
 obtain ⟨w0,hw0⟩:=hne.ne
 constructor
 · rintro ⟨v',h1,h2⟩
   have a:=h1 w0 hw0
   rw [h w0 hw0] at a
   injection a with a _
   rw [a];exact h2
 · exact fun hk=>⟨v,h,hk⟩
theorem qV_of {C:World→Prop} [ClassNe C] {s:Sem Value} {v:Value} {k:Value→Prop} (h:∀ (QP:List PanicEntry→World→Prop) (w':World) (k:Value→World→Prop),opV P s QP w' k=k v w'):qV P C s k=k v:=qV_eqC fun w' _=>run_of_op fun QP k=>h QP w' k
theorem qN_eqC {C:World→Prop} [hne:ClassNe C] {s:Sem Next} {v:Value} {k:Value→Prop} (h:∀ w',C w'→s.run P w' = .ok (.value v) w'):qN P C s k=k v:=by
 apply propext
 obtain ⟨w0,hw0⟩:=hne.ne
 constructor
 · rintro ⟨v',h1,h2⟩
   have a:=h1 w0 hw0
   rw [h w0 hw0] at a
   injection a with a _
   injection a with a
   rw [a];exact h2
 · exact fun hk=>⟨v,h,hk⟩
theorem qN_nil {C:World→Prop} [ClassNe C] {k:Value→Prop} (a:Addr):qN P C (nilN (.pointer (some a))) k=k (.pointer (some a)):=qN_eqC fun w' _=>by simp [nilN,execOp]
def qVx (P:Program) (C:World→Prop) (s:Sem Value) (k:Value→Prop):Prop:=qV P C s k
theorem qV_loadC {T:TypeId} {n m:Nat} {z:Value} {k:Value→Prop} (h:TyInfo P T false n m z) (b o:Nat):qV P (EC w) (Instr.loadAt T (.pointer (some ⟨b,o,none⟩))) k=onCell (w.cell? ⟨b,o,none⟩) k (qVx P (EC w) (Instr.loadAt T (.pointer (some ⟨b,o,none⟩))) k):=by
 cases hc:w.cell? ⟨b,o,none⟩ with
 | some v =>
  rw [onCell_some]
  refine qV_eq fun w' e=>?_
  have:=run_of_op (P:=P) (w:=w') (s:=Instr.loadAt T (.pointer (some ⟨b,o,none⟩))) (v:=v) (fun QP k=>op_load1 h (e.cell hc))
  exact this
 | none=>rfl
theorem qV_loadKB {T:TypeId} {n m:Nat} {z:Value} {k:Value→Prop} (h:TyInfo P T false n m z) (b1 b2 b o:Nat) (h1:b≠b1) (h2:b≠b2):qV P (KB w b1 b2) (Instr.loadAt T (.pointer (some ⟨b,o,none⟩))) k=onCell (w.cell? ⟨b,o,none⟩) k (qVx P (KB w b1 b2) (Instr.loadAt T (.pointer (some ⟨b,o,none⟩))) k):=by
 cases hc:w.cell? ⟨b,o,none⟩ with
 | some v =>
  rw [onCell_some]
  exact qV_eqC fun w' e=>run_of_op (P:=P) (w:=w') (s:=Instr.loadAt T (.pointer (some ⟨b,o,none⟩))) (v:=v) (fun QP k=>op_load1 h (e.cell h1 h2 hc))
 | none=>rfl
theorem qV_load {T:TypeId} {a:Addr} {v:Value} {k:Value→Prop} (h:∀ w',Ext w w'→Loads P w' T a v):qV P (EC w) (Instr.loadAt T (.pointer (some a))) k=k v :=
 qV_eq fun w' e=>run_of_op fun QP k=>op_load (h w' e)
def onCells:List (Option Value)→(List Value→Prop)→Prop→Prop
 | [],k,_=>k []
 | some v::l,k,d=>onCells l (fun vs=>k (v::vs)) d
 | none::_,_,d=>d
theorem onCells_nil (k:List Value→Prop) (d:Prop):onCells [] k d=k []:=rfl
theorem onCells_some (v:Value) (l:List (Option Value)) (k:List Value→Prop) (d:Prop):onCells (some v::l) k d=onCells l (fun vs=>k (v::vs)) d:=rfl
theorem onCells_all:∀ (vs:List Value) (k:List Value→Prop) (d:Prop),onCells (vs.map some) k d=k vs
 | [],_,_=>rfl
 | v::vs,k,d=>onCells_all vs (fun l=>k (v::l)) d
theorem onCells_cases (l:List (Option Value)):(∃ vs:List Value,l=vs.map some)∨∀ k d,onCells l k d=d:=by
 induction l with
 | nil=>exact .inl ⟨[],rfl⟩
 | cons a l ih =>
  cases a with
  | none=>exact .inr fun k d=>rfl
  | some v =>
   rcases ih with ⟨vs,rfl⟩ | h
   · exact .inl ⟨v::vs,rfl⟩
   · exact .inr fun k d=>h _ d
@[congr] theorem onCells_congr {l l':List (Option Value)} {k:List Value→Prop} {p:Prop} {d:Nat} (h:l=l') (hd:dirty=d):onCells l k p=onCells l' k p:=by rw [h]
theorem loads_cells {T:TypeId} {n m:Nat} {z:Value} (h:TyInfo P T true n m z) (b o:Nat) {vs:List Value} (hc:(List.range n).map (fun j=>w.cell? ⟨b,o+j,none⟩)=vs.map some):Loads P w T ⟨b,o,none⟩ (.agg vs.toArray):=by
 have hl:vs.length=n:=by have:=congrArg List.length hc;simpa using this.symm
 refine Loads.many h hl fun j v hv=>?_
 have hj:j < n:=by have:=(List.getElem?_eq_some_iff.1 hv).1;omega
 have:=congrArg (fun l=>l[j]?) hc
 simp only [List.getElem?_map,List.getElem?_range hj,hv,Option.map_some] at this
 rw [Addr.add_lit]
 exact Option.some.inj this
theorem op_loadA {T:TypeId} {n m:Nat} {z:Value} {k:Value→World→Prop} (h:TyInfo P T true n m z) (b o:Nat) (l:List (Option Value)) (hl:l=(List.range n).map (fun j=>w.cell? ⟨b,o+j,none⟩)) :
 opV P (Instr.loadAt T (.pointer (some ⟨b,o,none⟩))) QP w k=onCells l (fun vs=>k (.agg vs.toArray) w) (opVx P (Instr.loadAt T (.pointer (some ⟨b,o,none⟩))) QP w k):=by
 rcases onCells_cases l with ⟨vs,hv⟩ | hd
 · rw [hv,onCells_all]
   exact op_load (loads_cells h b o (by rw [← hl,hv]))
 · rw [hd];rfl
theorem qV_loadA {T:TypeId} {n m:Nat} {z:Value} {k:Value→Prop} (h:TyInfo P T true n m z) (b o:Nat) (l:List (Option Value)) (hl:l=(List.range n).map (fun j=>w.cell? ⟨b,o+j,none⟩)) :
 qV P (EC w) (Instr.loadAt T (.pointer (some ⟨b,o,none⟩))) k=onCells l (fun vs=>k (.agg vs.toArray)) (qVx P (EC w) (Instr.loadAt T (.pointer (some ⟨b,o,none⟩))) k):=by
 rcases onCells_cases l with ⟨vs,hv⟩ | hd
 · rw [hv,onCells_all]
   refine qV_load fun w' e=>loads_cells h b o ?_
   rw [← hv,hl]
   have hm:∀ j,j∈List.range n→∃ v,w.cell? ⟨b,o+j,none⟩=some v:=by
    intro j hj
    have:w.cell? ⟨b,o+j,none⟩∈l:=by rw [hl];exact List.mem_map_of_mem hj
    rw [hv] at this
    obtain ⟨v,_,hv⟩:=List.mem_map.1 this
    exact ⟨v,hv.symm⟩
   apply List.map_congr_left
   intro j hj
   obtain ⟨v,hv⟩:=hm j hj
   rw [hv];exact e.cell hv
 · rw [hd];rfl
def qWx (P:Program) (t:TypeId) (a:Value) (w:World) (k:Value→Prop):Prop:=qW P t a w k
theorem qW_load {T:TypeId} {a:Addr} {v:Value} {k:Value→Prop} (h:Loads P w T a v):qW P T (.pointer (some a)) w k=k v:=by
 have hr:(do loadVar T (← asAddr (.pointer (some a))):Sem Value).run P w = .ok v w:=h
 unfold qW
 rw [hr]
 apply propext
 constructor
 · rintro ⟨v',h1,h2⟩;injection h1 with h1 _;rw [h1];exact h2
 · exact fun hk=>⟨v,rfl,hk⟩
theorem qW_loadC {T:TypeId} {n m:Nat} {z:Value} {k:Value→Prop} (h:TyInfo P T false n m z) (b o:Nat):qW P T (.pointer (some ⟨b,o,none⟩)) w k=onCell (w.cell? ⟨b,o,none⟩) k (qWx P T (.pointer (some ⟨b,o,none⟩)) w k):=by
 cases hc:w.cell? ⟨b,o,none⟩ with
 | some v=>exact qW_load (Loads.one h hc)
 | none=>rfl
theorem qW_loadA {T:TypeId} {n m:Nat} {z:Value} {k:Value→Prop} (h:TyInfo P T true n m z) (b o:Nat) (l:List (Option Value)) (hl:l=(List.range n).map (fun j=>w.cell? ⟨b,o+j,none⟩)) :
 qW P T (.pointer (some ⟨b,o,none⟩)) w k=onCells l (fun vs=>k (.agg vs.toArray)) (qWx P T (.pointer (some ⟨b,o,none⟩)) w k):=by
 rcases onCells_cases l with ⟨vs,hv⟩ | hd
 · rw [hv,onCells_all]
   exact qW_load (loads_cells h b o (by rw [← hl,hv]))
 · rw [hd];rfl
@[congr] theorem qW_congr {T:TypeId} {a a':Value} {w':World} {k:Value→Prop} {d:Nat} (h:a=a') (hw:w=w') (hd:dirty=d):qW P T a w k=qW P T a' w' k:=by rw [h,hw]
def onFree:List Bool→Prop→Prop→Prop
 | [],p,_=>p
 | false::l,p,d=>onFree l p d
 | true::_,_,d=>d
theorem onFree_nil (p d:Prop):onFree [] p d=p:=rfl
theorem onFree_false (l:List Bool) (p d:Prop):onFree (false::l) p d=onFree l p d:=rfl
theorem onFree_cases (l:List Bool):(∀ b∈l,b=false)∧(∀ p d,onFree l p d=p)∨∀ p d,onFree l p d=d:=by
 induction l with
 | nil=>exact .inl ⟨by simp,fun _ _=>rfl⟩
 | cons a l ih =>
  cases a with
  | true=>exact .inr fun _ _=>rfl
  | false =>
   rcases ih with ⟨h1,h2⟩ | h
   · exact .inl ⟨by simpa using h1,h2⟩
   · exact .inr h
@[congr] theorem onFree_congr {l l':List Bool} {p q:Prop} {d:Nat} (h:l=l') (hd:dirty=d):onFree l p q=onFree l' p q:=by rw [h]
@[congr] theorem qVx_congr {s:Sem Value} {C:World→Prop} {k:Value→Prop} {d:Nat} (hd:dirty=d):qVx P C s k=qVx P C s k:=rfl
@[congr] theorem qWx_congr {T:TypeId} {a:Value} {k:Value→Prop} {d:Nat} (hd:dirty=d):qWx P T a w k=qWx P T a w k:=rfl
def setCells (w:World) (b o:Nat):List Value→World
 | []=>w
 | v::vs=>setCells (w.setCell ⟨b,o,none⟩ v) b (o+1) vs
theorem run_storeCellsA (b o:Nat):∀ (vs:List Value) (i:Nat) (w:World),(∀ j,j < vs.length→∃ u,w.cell? ⟨b,o+(i+j),none⟩=some u)→(∀ j,j < vs.length→w.frozen? ⟨b,o+(i+j),none⟩=false)→(∀ v∈vs,v.oneCell'=true) →
 (storeCells ⟨b,o,none⟩ vs i).run P w = .ok () (setCells w b (o+i) vs)
 | [],_,_,_,_,_=>rfl
 | v::vs,i,w,hc,hf,hv=>by
  obtain ⟨u,hu⟩:=hc 0 (by simp)
  have hf':w.frozen? ⟨b,o+i,none⟩=false:=hf 0 (by simp)
  simp only [Nat.add_zero] at hu
  simp only [storeCells,Sem.run_bind,Addr.add_lit,run_store P _ _ v .plain (hv v (List.mem_cons_self ..)),hu,hf',Nat.add_zero,Bool.false_eq_true,if_false,Result.andThen_ok]
  have hs:∀ j,j < vs.length→∃ u,(w.setCell ⟨b,o+i,none⟩ v).cell? ⟨b,o+(i+1+j),none⟩=some u:=by
   intro j hj
   obtain ⟨u,hu⟩:=hc (j+1) (by simp;omega)
   refine ⟨u,?_⟩
   rw [cell_set_other (by omega)]
   rw [← hu];congr 2;omega
  have:=run_storeCellsA b o vs (i+1) (w.setCell ⟨b,o+i,none⟩ v) hs (fun j hj=>by rw [frozen_set];have:=hf (j+1) (by simp;omega);rw [← this];congr 2;omega) (fun u hu=>hv u (List.mem_cons_of_mem _ hu))
  simpa [hf',hu,setCells,Nat.add_assoc] using this
theorem op_storeA {T:TypeId} {n m:Nat} {z:Value} {ku:World→Prop} (h:TyInfo P T true n m z) (b o:Nat) (vs:List Value) (hn:vs.length=n) (hv:∀ v∈vs,v.oneCell'=true) (l:List (Option Value)) (hl:l=(List.range n).map (fun j=>w.cell? ⟨b,o+j,none⟩))
 (lf:List Bool) (hlf:lf=(List.range n).map (fun j=>w.frozen? ⟨b,o+j,none⟩)) :
 opU P (Instr.storeAt T (.pointer (some ⟨b,o,none⟩)) (.agg vs.toArray)) QP w ku=onCells l (fun _=>onFree lf (ku (setCells w b o vs)) (opUx P (Instr.storeAt T (.pointer (some ⟨b,o,none⟩)) (.agg vs.toArray)) QP w ku)) (opUx P (Instr.storeAt T (.pointer (some ⟨b,o,none⟩)) (.agg vs.toArray)) QP w ku):=by
 rcases onCells_cases l with ⟨us,hu⟩ | hd
 · rw [hu,onCells_all]
   rcases onFree_cases lf with ⟨h1,h2⟩ | h2
   · rw [h2]
     refine opU_ok (u:=()) ?_
     have hc:∀ j,j < vs.length→∃ u,w.cell? ⟨b,o+(0+j),none⟩=some u:=by
      intro j hj
      have:w.cell? ⟨b,o+j,none⟩∈l:=by rw [hl];exact List.mem_map_of_mem (List.mem_range.2 (by omega))
      rw [hu] at this
      obtain ⟨v,_,hv⟩:=List.mem_map.1 this
      exact ⟨v,by rw [Nat.zero_add,hv]⟩
     have hf:∀ j,j < vs.length→w.frozen? ⟨b,o+(0+j),none⟩=false:=by
      intro j hj
      refine h1 _ ?_
      rw [hlf,Nat.zero_add]
      exact List.mem_map_of_mem (f:=fun j=>w.frozen? ⟨b,o+j,none⟩) (List.mem_range.2 (by omega))
     have:=run_storeCellsA (P:=P) b o vs 0 w hc hf hv
     simp [Instr.storeAt,Instr.sureAddr,storeVar,run_sizeOf h,cells_agg,hn,this]
   · rw [h2];rfl
 · rw [hd];rfl
theorem op_storeN {T:TypeId} {n m:Nat} {z:Value} {ku:World→Prop} (h:TyInfo P T true n m z) (b:Nat) (hb:b=w.heap.size) (o:Array Value) (T':TypeId) (vs:List Value) (ho:o.size=n) (hn:vs.length=n) (hv:∀ v∈vs,v.oneCell'=true) :
 opU P (Instr.storeAt T (.pointer (some ⟨b,0,none⟩)) (.agg vs.toArray)) QP (w.alloc (.cells o T')) ku=ku (w.alloc (.cells vs.toArray T')):=by
 subst hb
 refine opU_ok (u:=()) ?_
 obtain ⟨o',h1,h2,h3⟩:=storeCells_new (P:=P) (w:=w) T' vs 0 o (by simp;omega) hv
 have he:o'=vs.toArray:=by
  apply Array.ext_getElem?
  intro j
  rw [h3 j]
  by_cases hj:j < vs.length
  · rw [if_pos (by omega)];simp
  · rw [if_neg (by omega)]
    rw [Array.getElem?_eq_none (by omega),Array.getElem?_eq_none (by simp;omega)]
 subst he
 simp [Instr.storeAt,Instr.sureAddr,storeVar,run_sizeOf h,cells_agg,hn,h1]
theorem GENQ {C:World→Prop} [ClassNe C] {k:Value→Prop}:(∀ t c kd a b,qV P C (binS .add t c (.int kd a) (.int kd b)) k=k (.int kd (kd.wrap (a+b)))) ∧
 (∀ t c kd a b,qV P C (binS .sub t c (.int kd a) (.int kd b)) k=k (.int kd (kd.wrap (a - b)))) ∧
 (∀ t c kd a b,qV P C (binS .mul t c (.int kd a) (.int kd b)) k=k (.int kd (kd.wrap (a*b)))) ∧
 (∀ t c kd a b,qV P C (binS .eql t c (.int kd a) (.int kd b)) k=k (.bool (a == b))) ∧
 (∀ t c kd a b,qV P C (binS .neq t c (.int kd a) (.int kd b)) k=k (.bool (a != b))) ∧
 (∀ t c kd a b,qV P C (binS .lss t c (.int kd a) (.int kd b)) k=k (.bool (decide (a < b)))) ∧
 (∀ t c kd a b,qV P C (binS .leq t c (.int kd a) (.int kd b)) k=k (.bool (decide (a≤b)))) ∧
 (∀ t c kd a b,qV P C (binS .gtr t c (.int kd a) (.int kd b)) k=k (.bool (decide (b < a)))) ∧
 (∀ t c kd a b,qV P C (binS .geq t c (.int kd a) (.int kd b)) k=k (.bool (decide (b≤a)))) ∧
 (∀ t c a b,qV P C (binS .eql t c (.string a) (.string b)) k=k (.bool (decide (a=b)))) ∧
 (∀ t c a b,qV P C (binS .neq t c (.string a) (.string b)) k=k (.bool (!decide (a=b)))) ∧
 (∀ b,qV P C (Op.unary .not (.bool b)) k=k (.bool !b)) ∧
 (∀ ts t kd a b,qV P C (Builtin.max_ ts t #[.int kd a,.int kd b]) k=k (.int kd (if b > a then b else a))) ∧
 (∀ ts t kd a b,qV P C (Builtin.min_ ts t #[.int kd a,.int kd b]) k=k (.int kd (if b < a then b else a))) ∧
 (∀ a b,qV P C (Instr.extract (.tuple #[a,b]) 0) k=k a)∧(∀ a b,qV P C (Instr.extract (.tuple #[a,b]) 1) k=k b) ∧
 (∀ a b c,qV P C (Instr.extract (.tuple #[a,b,c]) 0) k=k a)∧(∀ a b c,qV P C (Instr.extract (.tuple #[a,b,c]) 1) k=k b)∧(∀ a b c,qV P C (Instr.extract (.tuple #[a,b,c]) 2) k=k c) ∧
 (∀ fn a b,qV P C (Instr.makeFunc fn a b) k=k (.func fn a b)) ∧
 (∀ a,qN P C (nilN (.pointer (some a))) k=k (.pointer (some a))) :=
 ⟨fun t c kd a b=>qV_of fun _ _ _=>op_add t c kd a b,fun t c kd a b=>qV_of fun _ _ _=>op_sub t c kd a b,fun t c kd a b=>qV_of fun _ _ _=>op_mul t c kd a b,fun t c kd a b=>qV_of fun _ _ _=>op_eql t c kd a b,fun t c kd a b=>qV_of fun _ _ _=>op_neq t c kd a b,
  fun t c kd a b=>qV_of fun _ _ _=>op_lss t c kd a b,fun t c kd a b=>qV_of fun _ _ _=>op_leq t c kd a b,fun t c kd a b=>qV_of fun _ _ _=>op_gtr t c kd a b,fun t c kd a b=>qV_of fun _ _ _=>op_geq t c kd a b,
  fun t c a b=>qV_of fun _ _ _=>op_seql t c a b,fun t c a b=>qV_of fun _ _ _=>op_sneq t c a b,fun b=>qV_of fun _ _ _=>op_not b,fun ts t kd a b=>qV_of fun _ _ _=>op_max ts t kd a b,fun ts t kd a b=>qV_of fun _ _ _=>op_min ts t kd a b,
  fun a b=>qV_of fun _ _ _=>op_extract20 a b,fun a b=>qV_of fun _ _ _=>op_extract21 a b,fun a b c=>qV_of fun _ _ _=>op_extract30 a b c,fun a b c=>qV_of fun _ _ _=>op_extract31 a b c,fun a b c=>qV_of fun _ _ _=>op_extract32 a b c,fun fn a b=>qV_of fun _ _ _=>op_makeFunc fn a b,qN_nil⟩
def KL (w:World) (r:Nat) (ps:List (ByteArray×Value)):World→Prop:=fun x=>Ext w x∧MapOf x r ps
theorem qV_lookupKL {mt kt et r:TypeId} {agg:Bool} {n m:Nat} {z:Value} {ps:List (ByteArray×Value)} {k:Value→Prop} (hm:P.underlying mt=some (.map kt et)) (hk:P.underlying kt=some .string) (hz:TyInfo P et agg n m z) (hne:∃ x,KL w r ps x) (s:ByteArray) :
 qV P (KL w r ps) (Instr.lookup mt (.map (some r)) (.string s) true) k=k (.tuple #[(lastOf ps s).getD z,.bool (lastOf ps s).isSome]):=by
 haveI:ClassNe (KL w r ps):=⟨hne⟩
 exact qV_eqC fun w' e=>run_of_op fun QP k=>op_lookupO hm hk hz e.2 s
theorem qV_lookup1E {mt kt et r:TypeId} {agg:Bool} {n m:Nat} {z:Value} {ps:List (ByteArray×Value)} {k:Value→Prop} (hm:P.underlying mt=some (.map kt et)) (hk:P.underlying kt=some .string) (hz:TyInfo P et agg n m z) (h:MapOf w r ps) (s:ByteArray) :
 qV P (EC w) (Instr.lookup mt (.map (some r)) (.string s) false) k=k ((lastOf ps s).getD z):=qV_eqC fun w' e=>run_of_op fun QP k=>op_lookup1O hm hk hz (h.ext e) s
theorem qV_lookupE {mt kt et r:TypeId} {agg:Bool} {n m:Nat} {z:Value} {ps:List (ByteArray×Value)} {k:Value→Prop} (hm:P.underlying mt=some (.map kt et)) (hk:P.underlying kt=some .string) (hz:TyInfo P et agg n m z) (h:MapOf w r ps) (s:ByteArray) :
 qV P (EC w) (Instr.lookup mt (.map (some r)) (.string s) true) k=k (.tuple #[(lastOf ps s).getD z,.bool (lastOf ps s).isSome]):=qV_eqC fun w' e=>run_of_op fun QP k=>op_lookupO hm hk hz (h.ext e) s
theorem narrowK_same {C:World→Prop} {f:(World→Prop)→World→Prop} (hC:C w) (h:f C w):narrowK C w f:=⟨C,fun _ h=>h,hC,h⟩
theorem narrowK_KL {w1:World} {r:Nat} {ps:List (ByteArray×Value)} {f:(World→Prop)→World→Prop} (e:Ext w1 w) (hm:MapOf w r ps) (h:f (KL w1 r ps) w):narrowK (EC w1) w f:=⟨KL w1 r ps,fun _ h=>h.1,⟨e,hm⟩,h⟩
theorem narrowK_EC {w1:World} {f:(World→Prop)→World→Prop} (e:Ext w1 w) (h:f (EC w) w):narrowK (EC w1) w f:=⟨EC w,fun _ h=>e.trans h,Ext.refl _,h⟩
theorem qV_shl {C:World→Prop} [ClassNe C] {k:Value→Prop} (t:TypeId) (c:Bool) (x:Int) (yk:IntKind) (y:Int) (h0:0≤y) (h1:y≤64):qV P C (binS .shl t c (.int .i64 x) (.int yk y)) k=k (.int .i64 (IntKind.i64.wrap (x*2 ^ y.toNat))):=qV_of fun _ _ _=>op_shl t c x yk y h0 h1
def KM {α:Type} [DecidableEq α] (w:World) (r:Nat) (enc:α→Value) (L:List (α×Value×Nat)) (c:Nat):World→Prop:=fun x=>Ext w x∧MapB x r enc L c
theorem qV_lookupKM {α:Type} [DecidableEq α] {mt kt et r c:TypeId} {agg:Bool} {n m:Nat} {z:Value} {enc:α→Value} {L:List (α×Value×Nat)} {k:Value→Prop} (hm:P.underlying mt=some (.map kt et)) (K:KeyOK P kt enc) (hz:TyInfo P et agg n m z) (hne:∃ x,KM w r enc L c x) (s:α) :
 qV P (KM w r enc L c) (Instr.lookup mt (.map (some r)) (enc s) true) k=k (.tuple #[(look L s).getD z,.bool (look L s).isSome]):=by
 haveI:ClassNe (KM w r enc L c):=⟨hne⟩
 exact qV_eqC fun w' e=>run_of_op fun QP k=>op_lookup hm K hz e.2 s
theorem narrowK_KM {α:Type} [DecidableEq α] {w1:World} {r c:Nat} {enc:α→Value} {L:List (α×Value×Nat)} {f:(World→Prop)→World→Prop} (e:Ext w1 w) (hm:MapB w r enc L c) (h:f (KM w1 r enc L c) w):narrowK (EC w1) w f:=⟨KM w1 r enc L c,fun _ h=>h.1,⟨e,hm⟩,h⟩
theorem drawK_intro {f:(World→Prop)→World→Prop} (h:f (EC (drew w)) (drew w)):drawK w f:=⟨EC (drew w),Ext.refl _,h⟩
theorem drawK_introE {w1:World} {f:(World→Prop)→World→Prop} (e:Ext w1 w) (h:f (EC w1) (drew w)):drawK w f:=⟨EC w1,e.drew,h⟩
theorem drawK_introB {w1:World} (b1 b2:Nat) {f:(World→Prop)→World→Prop} (e:KB w1 b1 b2 w) (h:f (KB w1 b1 b2) (drew w)):drawK w f:=⟨KB w1 b1 b2,e,h⟩
theorem turnK_intro {f:(World→Prop)→World→Prop} (h:f (EC w) w):turnK w f:=⟨EC w,Ext.refl _,h⟩
@[congr] theorem turnK_congr {w':World} {f:(World→Prop)→World→Prop} {d:Nat} (hw:w=w') (hd:dirty=d):turnK w f=turnK w' f:=by rw [hw]
end
end Go.Sw
namespace Go.Sw
open Go.RowKit (Below)
def OwnE {α:Type} (w:World) (base:Nat) (T:TypeId) (n:Nat) (enc:α→List Value) (v:Value) (l:List α):Prop :=
 w.ownsRow base T n v l.length (l.flatMap enc)
theorem ownsRow_ext {w w':World} {base n m:Nat} {T:TypeId} {v:Value} {xs:List Value} (h:w.ownsRow base T n v m xs) (e:Ext w w'):w'.ownsRow base T n v m xs :=
 h.kept (row:=none) ⟨e.os,e.tape,e.output,e.size,fun k hk _=>e.block k hk⟩ (by cases hv:v.ownBlock<;>simp)
theorem ownsRow_base {w:World} {base base' n m:Nat} {T:TypeId} {v:Value} {xs:List Value} (h:w.ownsRow base T n v m xs) (hb:base'≤base):w.ownsRow base' T n v m xs:=by
 refine ⟨h.1,?_⟩
 rcases h.2 with h2 | ⟨g,cap,cur,h1,h2,h3⟩
 · exact .inl h2
 · exact .inr ⟨g,cap,cur,h1,Nat.le_trans hb h2,h3⟩
theorem OwnE.ext {α:Type} {w w':World} {base n:Nat} {T:TypeId} {enc:α→List Value} {v:Value} {l:List α} (h:OwnE w base T n enc v l) (e:Ext w w'):OwnE w' base T n enc v l:=ownsRow_ext h e
theorem OwnE.base {α:Type} {w:World} {base base' n:Nat} {T:TypeId} {enc:α→List Value} {v:Value} {l:List α} (h:OwnE w base T n enc v l) (hb:base'≤base):OwnE w base' T n enc v l:=ownsRow_base h hb
theorem OwnE.nil {α:Type} (w:World) (base n:Nat) (T:TypeId) (enc:α→List Value):OwnE w base T n enc (.slice none 0 0) []:=w.ownsRow_nil base T n
theorem flatMap_get {α:Type} {enc:α→List Value} {n:Nat} (hn:∀ x,(enc x).length=n):∀ (l:List α) (k:Nat) (x:α) (j:Nat) (v:Value),l[k]?=some x→(enc x)[j]?=some v→(l.flatMap enc)[k*n+j]?=some v
 | [],k,x,j,v,h,_=>by simp at h
 | y::l,0,x,j,v,h,hv=>by
  simp only [List.getElem?_cons_zero,Option.some.injEq] at h
  subst h
  have hj:j < (enc y).length:=(List.getElem?_eq_some_iff.1 hv).1
  rw [List.flatMap_cons,Nat.zero_mul,Nat.zero_add,List.getElem?_append_left hj];exact hv
 | y::l,k+1,x,j,v,h,hv=>by
  rw [List.flatMap_cons,List.getElem?_append_right (by rw [hn,Nat.add_mul];omega)]
  have:=flatMap_get hn l k x j v (by simpa using h) hv
  rw [hn,Nat.add_mul]
  rw [show k*n+1*n+j - n=k*n+j by omega]
  exact this
theorem OwnE.slice {α:Type} {w:World} {base n:Nat} {T:TypeId} {enc:α→List Value} {v:Value} {l:List α} {E:World→List Value→α→Prop} (h:OwnE w base T n enc v l) (hn:∀ x,(enc x).length=n) (hE:∀ x,x∈l→E w (enc x) x):SliceOf w n E v l:=by
 obtain ⟨h1,h2⟩:=h
 rcases h2 with ⟨rfl,h0⟩ | ⟨g,cap,cur,rfl,hb,hg,hc,hm,hs,ht⟩
 · have:l=[]:=List.eq_nil_of_length_eq_zero h0
   subst this;exact SliceOf.nil w n E
 · refine ⟨_,cap,rfl,hc,by simp only [maxLen] at hm;omega,fun _=>⟨g,0,rfl,fun k x hx=>⟨enc x,hn x,fun j v hv=>?_,hE x (List.mem_of_getElem? hx)⟩⟩⟩
   have hk:k < l.length:=(List.getElem?_eq_some_iff.1 hx).1
   have hj:j < n:=by have:=(List.getElem?_eq_some_iff.1 hv).1;rwa [hn] at this
   have:=flatMap_get hn l k x j v hx hv
   rw [← ht,List.getElem?_take] at this
   split at this
   · rw [cell_of_row w g _ cur T (0,0) hg,Nat.zero_add]
     simpa using this
   · cases this
theorem OwnE.new {α:Type} (w:World) (T:TypeId) (n:Nat) (enc:α→List Value) (l:List α) (hn:∀ x,(enc x).length=n) (hl:l.length≤9223372036854775807):OwnE (w.alloc (.cells (l.flatMap enc).toArray T)) w.heap.size T n enc (.slice (some ⟨w.heap.size,0,none⟩) l.length l.length) l:=by
 have hlen:(l.flatMap enc).length=l.length*n:=by
  clear hl
  induction l with
  | nil=>simp
  | cons a l ih=>rw [List.flatMap_cons,List.length_append,hn,ih,List.length_cons,Nat.add_mul];omega
 exact ⟨hlen,.inr ⟨_,_,_,rfl,Nat.le_refl _,World.alloc_heap_new w _,Nat.le_refl _,by simp only [maxLen];omega,by simpa using hlen,by rw [← hlen];exact List.take_length⟩⟩
abbrev Cs (n:Nat):Type:={cs:List Value // cs.length=n}
def Mates {α:Type} (n:Nat) (E:List Value→α→Prop) (css:List (Cs n)) (l:List α):Prop:=css.length=l.length∧∀ (k:Nat) (x:α) (cs:Cs n),l[k]?=some x→css[k]?=some cs→E cs.1 x
theorem Mates.imp {α:Type} {n:Nat} {E E':List Value→α→Prop} {css:List (Cs n)} {l:List α} (h:Mates n E css l) (hE:∀ cs x,E cs x→E' cs x):Mates n E' css l:=⟨h.1,fun k x cs hx hc=>hE _ _ (h.2 k x cs hx hc)⟩
theorem Mates.mem {α:Type} {n:Nat} {E:List Value→α→Prop} {css:List (Cs n)} {l:List α} (h:Mates n E css l) {cs:Cs n} (hc:cs∈css):∃ x∈l,E cs.1 x:=by
 obtain ⟨k,hk⟩:=List.getElem?_of_mem hc
 obtain ⟨x,hx⟩:=getElem?_lt (l:=l) (k:=k) (by rw [← h.1];exact (List.getElem?_eq_some_iff.1 hk).1)
 exact ⟨x,List.mem_of_getElem? hx,h.2 k x cs hx hk⟩
theorem keptRaw {n:Nat}:Kept (fun (_:World) (cs:List Value) (x:Cs n)=>cs=x.1):=fun _ _ _ _ _ h=>h
theorem SliceOf.raw {α:Type} {w:World} {n:Nat} {E:World→List Value→α→Prop} {v:Value} {l:List α} (h:SliceOf w n E v l) :
 ∃ css:List (Cs n),SliceOf w n (fun _ cs x=>cs=x.1) v css∧Mates n (E w) css l:=by
 obtain ⟨A,c,rfl,hlc,hcm,hlm,hel⟩:=SliceOf.open h
 have hex:∀ k,∃ cs:Cs n,∀ x,l[k]?=some x→∃ b o,A=some ⟨b,o,none⟩∧ElemAt w b (o+k*n) cs.1∧E w cs.1 x:=by
  intro k
  cases hx:l[k]? with
  | none=>exact ⟨⟨List.replicate n .nilIface,by simp⟩,fun x h=>by cases h⟩
  | some x =>
   obtain ⟨b,o,cs,h1,h2,h3,h4⟩:=hel k x hx
   exact ⟨⟨cs,h2⟩,fun y hy=>by injection hy with hy;subst hy;exact ⟨b,o,h1,h3,h4⟩⟩
 let f:=fun k=>Classical.choose (hex k)
 have hf:∀ k x,l[k]?=some x→∃ b o,A=some ⟨b,o,none⟩∧ElemAt w b (o+k*n) (f k).1∧E w (f k).1 x:=fun k=>Classical.choose_spec (hex k)
 refine ⟨(List.range l.length).map f,⟨A,c,by simp,by simpa using hlc,hcm,fun hne=>?_⟩,by simp,fun k x cs hx hcs=>?_⟩
 · have hl0:0 < l.length:=by
    cases hl:l with
    | nil=>rw [hl] at hne;simp at hne
    | cons=>simp
   obtain ⟨x,hx⟩:=getElem?_lt hl0
   obtain ⟨b,o,hA,_⟩:=hf 0 x hx
   refine ⟨b,o,hA,fun k cs hcs=>?_⟩
   simp only [List.getElem?_map,Option.map_eq_some_iff] at hcs
   obtain ⟨i,hi,rfl⟩:=hcs
   obtain ⟨hk,he⟩:=List.getElem?_eq_some_iff.1 hi
   simp only [List.length_range] at hk
   rw [List.getElem_range] at he
   subst he
   obtain ⟨y,hy⟩:=getElem?_lt hk
   obtain ⟨b',o',hA',h3,h4⟩:=hf k y hy
   rw [hA] at hA'
   injection hA' with hA'
   injection hA' with h5 h6
   subst h5 h6
   exact ⟨(f k).1,(f k).2,h3,rfl⟩
 · obtain ⟨_,_,_,_,h4⟩:=hf k x hx
   have hk:k < l.length:=(List.getElem?_eq_some_iff.1 hx).1
   simp only [List.getElem?_map,List.getElem?_range hk,Option.map_some,Option.some.injEq] at hcs
   rw [← hcs];exact h4
theorem OwnE.reads {α:Type} {w:World} {base n:Nat} {T:TypeId} {v:Value} {css:List (Cs n)} {l:List α} {E:World→List Value→α→Prop} (h:OwnE w base T n Subtype.val v css) (hm:Mates n (E w) css l):SliceOf w n E v l:=by
 have hs:SliceOf w n (fun _ cs (x:Cs n)=>cs=x.1) v css:=h.slice (fun x=>x.2) (fun _ _=>rfl)
 obtain ⟨A,c,h1,h2,h3,h4⟩:=hs
 rw [hm.1] at h1 h2
 refine ⟨A,c,h1,h2,h3,fun hne=>?_⟩
 have hne':css≠[]:=by
  rintro rfl
  have:=hm.1
  exact hne (List.eq_nil_of_length_eq_zero (by simpa using this.symm))
 obtain ⟨b,o,hA,h5⟩:=h4 hne'
 refine ⟨b,o,hA,fun k x hx=>?_⟩
 obtain ⟨cs,hcs⟩:=getElem?_lt (l:=css) (k:=k) (by rw [hm.1];exact (List.getElem?_eq_some_iff.1 hx).1)
 obtain ⟨cs',h6,h7,rfl⟩:=h5 k cs hcs
 exact ⟨cs.1,cs.2,h7,hm.2 k x cs hx hcs⟩
theorem cells_of_heap {w:World} {b:Nat} {cs:Array Value} {T:TypeId} (h:w.heap[b]?=some (.cells cs T (0,0))):(∀ o,w.cell? ⟨b,o,none⟩=cs[o]?)∧∀ o,w.frozen? ⟨b,o,none⟩=false :=
 ⟨fun o=>cell_of_row w b o cs T (0,0) h,fun o=>by unfold World.frozen?;rw [h];simp⟩
theorem heap_set {w:World} {b o:Nat} {cs:Array Value} {T:TypeId} {fr:Nat×Nat} (h:w.heap[b]?=some (.cells cs T fr)) (v:Value):(w.setCell ⟨b,o,none⟩ v).heap[b]?=some (.cells (cs.setIfInBounds o v) T fr):=by
 simp only [World.setCell,Array.getElem?_modify,h]
 simp
def setObj (o:Nat) (v:Value):Obj→Obj
 | .cells cs T fr => .cells (cs.setIfInBounds o v) T fr
 | x=>x
theorem setObj_cells (o:Nat) (v:Value) (cs:Array Value) (T:TypeId) (fr:Nat×Nat):setObj o v (.cells cs T fr) = .cells (cs.setIfInBounds o v) T fr:=rfl
theorem heap_set_map {w:World} {b o:Nat} {v:Value}:(w.setCell ⟨b,o,none⟩ v).heap[b]?=(w.heap[b]?).map (setObj o v):=by
 simp only [World.setCell,Array.getElem?_modify]
 cases w.heap[b]? with
 | none=>simp
 | some x=>simp;cases x<;>rfl
theorem heap_new (w:World) (cs:Array Value) (T:TypeId):(w.alloc (.cells cs T)).heap[w.heap.size]?=some (.cells cs T (0,0)):=World.alloc_heap_new w _
def TypeAt (w:World) (b:Nat) (T:TypeId):Prop:=∃ cur fr,w.heap[b]?=some (.cells cur T fr)
def Only (b:Nat) (w w':World):Prop:=∀ g,g≠b→w'.heap[g]?=w.heap[g]?
theorem Only.setCell (w:World) (b o:Nat) (v:Value):Only b w (w.setCell ⟨b,o,none⟩ v):=fun g hg=>Below.heap_setCell w ⟨b,o,none⟩ v g hg
def OwnR {α:Type} (w:World) (lo hi:Nat) (T:TypeId) (n:Nat) (enc:α→List Value) (v:Value) (l:List α):Prop:=OwnE w lo T n enc v l∧∀ b,v.ownBlock=some b→b < hi
theorem OwnE.range {α:Type} {w:World} {lo n:Nat} {T:TypeId} {enc:α→List Value} {v:Value} {l:List α} (h:OwnE w lo T n enc v l):OwnR w lo w.heap.size T n enc v l:=⟨h,fun b hb=>(h.lt b hb).2⟩
theorem OwnR.ext {α:Type} {w w':World} {lo hi n:Nat} {T:TypeId} {enc:α→List Value} {v:Value} {l:List α} (h:OwnR w lo hi T n enc v l) (e:Ext w w'):OwnR w' lo hi T n enc v l:=⟨h.1.ext e,h.2⟩
theorem OwnR.mono {α:Type} {w:World} {lo lo' hi hi' n:Nat} {T:TypeId} {enc:α→List Value} {v:Value} {l:List α} (h:OwnR w lo hi T n enc v l) (h1:lo'≤lo) (h2:hi≤hi'):OwnR w lo' hi' T n enc v l:=⟨h.1.base h1,fun b hb=>Nat.lt_of_lt_of_le (h.2 b hb) h2⟩
theorem OwnR.only {α:Type} {w w':World} {lo hi n b:Nat} {T:TypeId} {enc:α→List Value} {v:Value} {l:List α} (h:OwnR w lo hi T n enc v l) (ho:Only b w w') (hb:hi≤b∨b < lo∨∃ T',TypeAt w b T'∧T'≠T):OwnR w' lo hi T n enc v l:=by
 refine ⟨⟨h.1.1,?_⟩,h.2⟩
 rcases h.1.2 with h2 | ⟨g,cap,cur,h1,h2,h3,h4⟩
 · exact .inl h2
 · refine .inr ⟨g,cap,cur,h1,h2,?_,h4⟩
   rw [ho g ?_];exact h3
   rintro rfl
   rcases hb with hb | hb | ⟨T',⟨cur',fr,hc⟩,hT⟩
   · have:=h.2 g (by rw [h1];rfl)
     omega
   · omega
   · rw [h3] at hc;injection hc with hc;injection hc with _ hc _;exact hT hc.symm
theorem OwnE.row {α:Type} {w:World} {lo n:Nat} {T:TypeId} {enc:α→List Value} {v:Value} {l:List α} (h:OwnE w lo T n enc v l) (hn:∀ x,(enc x).length=n) (hl:0 < l.length) :
 ∃ g cap,v = .slice (some ⟨g,0,none⟩) l.length cap∧lo≤g∧g < w.heap.size∧TypeAt w g T∧(∀ o,w.frozen? ⟨g,o,none⟩=false)∧∀ k x,l[k]?=some x→ElemAt w g (k*n) (enc x):=by
 rcases h.2 with ⟨rfl,h0⟩ | ⟨g,cap,cur,rfl,hb,hg,hc,hm,hs,ht⟩
 · omega
 · refine ⟨g,cap,rfl,hb,(Array.getElem?_eq_some_iff.1 hg).1,⟨_,_,hg⟩,fun o=>by unfold World.frozen?;rw [hg];simp,fun k x hx j v hv=>?_⟩
   have:=flatMap_get hn l k x j v hx hv
   rw [← ht,List.getElem?_take] at this
   split at this
   · rw [cell_of_row w g _ cur T (0,0) hg]
     simpa using this
   · cases this
theorem flatMap_set {n:Nat}:∀ (css:List (Cs n)) (k:Nat) (cs:Cs n) (j:Nat) (u:Value),css[k]?=some cs→j < n→(css.flatMap Subtype.val).set (k*n+j) u=(css.set k ⟨cs.1.set j u,by simp [cs.2]⟩).flatMap Subtype.val
 | [],k,cs,j,u,h,_=>by simp at h
 | y::l,0,cs,j,u,h,hj=>by
  simp only [List.getElem?_cons_zero,Option.some.injEq] at h
  subst h
  rw [List.set_cons_zero,List.flatMap_cons,List.flatMap_cons,Nat.zero_mul,Nat.zero_add,List.set_append_left _ _ (by rw [y.2];exact hj)]
 | y::l,k+1,cs,j,u,h,hj=>by
  have hk:(k+1)*n=k*n+n:=by rw [Nat.add_mul,Nat.one_mul]
  rw [List.set_cons_succ,List.flatMap_cons,List.flatMap_cons,List.set_append_right _ _ (by rw [y.2,hk];omega),y.2,hk,show k*n+n+j - n=k*n+j by omega]
  rw [flatMap_set l k cs j u (by simpa using h) hj]
theorem OwnE.set {w:World} {lo n g cap len:Nat} {T:TypeId} {css:List (Cs n)} (h:OwnE w lo T n Subtype.val (.slice (some ⟨g,0,none⟩) len cap) css) {k:Nat} {cs:Cs n} (hk:css[k]?=some cs) {j:Nat} (hj:j < n) (u:Value) :
 OwnE (w.setCell ⟨g,k*n+j,none⟩ u) lo T n Subtype.val (.slice (some ⟨g,0,none⟩) len cap) (css.set k ⟨cs.1.set j u,by simp [cs.2]⟩):=by
 have hkl:k < css.length:=(List.getElem?_eq_some_iff.1 hk).1
 refine ⟨?_,?_⟩
 · rw [← flatMap_set css k cs j u hk hj,List.length_set,List.length_set];exact h.1
 rcases h.2 with ⟨h0,_⟩ | ⟨g',cap',cur,h1,hb,hg,hc,hm,hs,ht⟩
 · cases h0
 · injection h1 with h1 h1' h1''
   injection h1 with h1
   injection h1 with h1
   subst h1 h1''
   refine .inr ⟨g,cap,cur.setIfInBounds (k*n+j) u,by rw [List.length_set,← h1'],hb,?_,by rw [List.length_set];exact hc,hm,by simpa using hs,?_⟩
   · simp only [World.setCell,Array.getElem?_modify,hg]
     simp
   · rw [List.length_set,← flatMap_set css k cs j u hk hj,← ht,Array.toList_setIfInBounds,List.take_set]
theorem TypeAt.only {w w':World} {b b':Nat} {T:TypeId} (h:TypeAt w b T) (ho:Only b' w w') (hb:b≠b'):TypeAt w' b T:=by
 obtain ⟨cur,fr,h⟩:=h
 exact ⟨cur,fr,by rw [ho b hb];exact h⟩
theorem TypeAt.ext {w w':World} {b:Nat} {T:TypeId} (h:TypeAt w b T) (e:Ext w w'):TypeAt w' b T:=by
 obtain ⟨cur,fr,h⟩:=h
 exact ⟨cur,fr,e.obj h⟩
theorem OwnE.mates {α:Type} {w:World} {lo n:Nat} {T:TypeId} {enc:α→List Value} {v:Value} {css:List (Cs n)} {l:List α} (h:OwnE w lo T n Subtype.val v css) (hm:Mates n (fun cs x=>cs=enc x) css l):OwnE w lo T n enc v l:=by
 have he:css.flatMap Subtype.val=l.flatMap enc:=by
  have:css.map Subtype.val=l.map enc:=by
   apply List.ext_getElem?
   intro i
   rw [List.getElem?_map,List.getElem?_map]
   cases hc:css[i]? with
   | none =>
    have:l[i]?=none:=by rw [List.getElem?_eq_none_iff] at hc ⊢;rw [← hm.1];exact hc
    rw [this];rfl
   | some cs =>
    obtain ⟨x,hx⟩:=getElem?_lt (l:=l) (k:=i) (by rw [← hm.1];exact (List.getElem?_eq_some_iff.1 hc).1)
    rw [hx]
    simp only [Option.map_some,Option.some.injEq]
    exact hm.2 i x cs hx hc
  rw [List.flatMap_def,List.flatMap_def,this]
 unfold OwnE at *
 rw [← he,← hm.1];exact h
section
variable {P:Program} {QP:List PanicEntry→World→Prop} {w:World}
theorem op_append0 {t ty T n m:Nat} {z:Value} {agg:Bool} {k:Value→World→Prop} (ht:P.underlying t=some (.slice T)) (hT:TyInfo P T agg n m z) (B A:Option Addr) (len cap c:Nat) (hc:len≤cap) :
 opV P (Builtin.append_ #[t,t] ty #[.slice B len cap,.slice A 0 c]) QP w k=k (.slice B len cap) w:=by
 obtain ⟨⟨i,hi,hs,hby,hzz⟩,_⟩:=hT
 refine opV_ok ?_
 cases A with
 | none=>cases B<;>simp [Builtin.append_,run_underlying ht,sizeOf,typeInfo,hi,Builtin.lenOf,Builtin.firstCells,hc,storeCells]
 | some a=>cases B<;>simp [Builtin.append_,run_underlying ht,sizeOf,typeInfo,hi,Builtin.lenOf,Builtin.firstCells,hc,storeCells,loadCells,loadCellsFrom]
theorem op_appendE {α:Type} {t ty T n m:Nat} {z:Value} {agg:Bool} {enc:α→List Value} {v:Value} {l l':List α} {base:Nat} {k:Value→World→Prop}
 (ht:P.underlying t=some (.slice T)) (hT:TyInfo P T agg n m z) (hz:z.cells.size=n) (h0:0 < n) (hn:∀ x,(enc x).length=n) (h1:∀ x,x∈l'→∀ u∈enc x,u.oneCell'=true)
 (hown:OwnE w base T n enc v l) {b o c:Nat} (hc:∀ j x,l'[j]?=some x→ElemAt w b (o+j*n) (enc x)) (hbase:base≤w.heap.size) (hm:(l.length+l'.length)*m≤140737488355328) (hb:l.length+l'.length≤140737488355328)
 (hk:∀ v' w',OwnE w' base T n enc v' (l++l')→w.grownBy w' v.ownBlock→k v' w') :
 opV P (Builtin.append_ #[t,t] ty #[v,.slice (some ⟨b,o,none⟩) l'.length c]) QP w k:=by
 obtain ⟨⟨i,hi,hs,hby,hzz⟩,_⟩:=hT
 have hfl:(l'.flatMap enc).length=l'.length*n:=by
  clear hm hb hc h1 hk
  induction l' with
  | nil=>simp
  | cons a l ih=>rw [List.flatMap_cons,List.length_append,hn,ih,List.length_cons,Nat.add_mul];omega
 have hcells:∀ j u,(l'.flatMap enc)[j]?=some u→w.cell? ((⟨b,o,none⟩:Addr).add j)=some u:=by
  intro j u hu
  have hj:j < l'.length*n:=by have:=(List.getElem?_eq_some_iff.1 hu).1;rwa [hfl] at this
  have hq:j / n < l'.length:=Nat.div_lt_of_lt_mul (by rw [Nat.mul_comm];exact hj)
  obtain ⟨x,hx⟩:=getElem?_lt hq
  have hjn:j % n < (enc x).length:=by rw [hn];exact Nat.mod_lt _ h0
  have hdm:j / n*n+j % n=j:=by rw [Nat.mul_comm];exact Nat.div_add_mod j n
  have hg:=flatMap_get hn l' (j / n) x (j % n) _ hx (List.getElem?_eq_getElem hjn)
  rw [hdm,hu] at hg
  injection hg with hg
  rw [Addr.add_lit]
  have:=hc _ _ hx (j % n) _ (List.getElem?_eq_getElem hjn)
  rw [hg,← this]
  congr 2;omega
 obtain ⟨v',w',hr,ho,hg,_⟩:=run_append_own (P:=P) w base t ty T i z n m ht hi hzz hs hby hz h0 v l.length (l.flatMap enc) hown ⟨b,o,none⟩ l'.length c (l'.flatMap enc) hfl hcells
  (by intro u hu;obtain ⟨x,hx,hux⟩:=List.mem_flatMap.1 hu;exact h1 x hx u hux) (by simp only [maxLen];omega) hm hbase
 rw [opV_ok hr]
 refine hk v' w' ?_ hg
 unfold OwnE
 rw [List.flatMap_append,List.length_append];exact ho
end
end Go.Sw
namespace Go.Proofs.YtiajhbbmgglmlaaGreat
open Sw
noncomputable abbrev Pg:=Tryz.prog
def L0 (T:TypeId) (a:Value) (R:RT) (w:World) (k:KV):Prop:=opV Pg (Instr.loadAt T a) (panK R) w k
theorem L0_eq (T:TypeId) (a:Value) (R:RT) (w:World) (k:KV):L0 T a R w k=opV Pg (Instr.loadAt T a) (panK R) w k:=rfl
def F0 (T:TypeId) (a:Value) (i:Nat) (R:RT) (w:World) (k:KV):Prop:=opV Pg (Instr.fieldAt T a i) (panK R) w k
theorem F0_eq (T:TypeId) (a:Value) (i:Nat) (R:RT) (w:World) (k:KV):F0 T a i R w k=opV Pg (Instr.fieldAt T a i) (panK R) w k:=rfl
def X0 (T:TypeId) (a i:Value) (R:RT) (w:World) (k:KV):Prop:=opV Pg (Instr.indexAt T a i) (panK R) w k
theorem X0_eq (T:TypeId) (a i:Value) (R:RT) (w:World) (k:KV):X0 T a i R w k=opV Pg (Instr.indexAt T a i) (panK R) w k:=rfl
def B0 (o:BinOp) (T:TypeId) (c:Bool) (a b:Value) (R:RT) (w:World) (k:KV):Prop:=opV Pg (binS o T c a b) (panK R) w k
theorem B0_eq (o:BinOp) (T:TypeId) (c:Bool) (a b:Value) (R:RT) (w:World) (k:KV):B0 o T c a b R w k=opV Pg (binS o T c a b) (panK R) w k:=rfl
def C0 (f:FuncId) (a:Array Value) (R:RT) (w:World) (k:KV):Prop:=callK Pg f a (panK R) w k
theorem C0_eq (f:FuncId) (a:Array Value) (R:RT) (w:World) (k:KV):C0 f a R w k=callK Pg f a (panK R) w k:=rfl
def isAggD (d:TypeDesc):Bool:=match d with | .struct _ | .array _ _=>true | _=>false
theorem ty_mk {P:Program} {T:TypeId} {agg:Bool} {n:Nat} {z:Value} {d:TypeDesc} (h:(P.info? T).map (fun i=>(i.size,i.zero))=some (n,some z)) (hu:P.underlying T=some d) (ha:isAggD d=agg):TyInfo P T agg n (P.bytesOf T) z:=by
 obtain ⟨i,hi,he⟩:=Option.map_eq_some_iff.1 h
 simp only [Prod.mk.injEq] at he
 exact ⟨⟨i,hi,he.1,by simp [Program.bytesOf,hi],he.2⟩,d,hu,ha⟩
theorem ty3:TyInfo Pg 3 false 1 (Pg.bytesOf 3) (.int .i64 0):=ty_mk (by kernel_rfl) Tryz.underlying3 rfl
theorem by3:Pg.bytesOf 3≤4096:=Nat.le_of_ble_eq_true (by kernel_rfl)
theorem ty4:TyInfo Pg 4 false 1 (Pg.bytesOf 4) (.bool false):=ty_mk (by kernel_rfl) Tryz.underlying4 rfl
theorem by4:Pg.bytesOf 4≤4096:=Nat.le_of_ble_eq_true (by kernel_rfl)
theorem ty5:TyInfo Pg 5 false 1 (Pg.bytesOf 5) (.int .u8 0):=ty_mk (by kernel_rfl) Tryz.underlying5 rfl
theorem ty9:TyInfo Pg 9 false 1 (Pg.bytesOf 9) (.string ByteArray.empty):=ty_mk (by kernel_rfl) Tryz.underlying9 rfl
theorem by9:Pg.bytesOf 9≤4096:=Nat.le_of_ble_eq_true (by kernel_rfl)
theorem ty22:TyInfo Pg 22 false 1 (Pg.bytesOf 22) (.slice none 0 0):=ty_mk (by kernel_rfl) Tryz.underlying22 rfl
theorem ty24:TyInfo Pg 24 true 3 (Pg.bytesOf 24) (.agg #[.string ByteArray.empty,.slice none 0 0,.string ByteArray.empty]):=ty_mk (by kernel_rfl) Tryz.underlying24 rfl
theorem ty27:TyInfo Pg 27 false 1 (Pg.bytesOf 27) (.int .i64 0):=ty_mk (by kernel_rfl) Tryz.underlying27 rfl
theorem ty37:TyInfo Pg 37 false 1 (Pg.bytesOf 37) (.int .i64 0):=ty_mk (by kernel_rfl) Tryz.underlying37 rfl
theorem ty39:TyInfo Pg 39 true 3 (Pg.bytesOf 39) (.agg #[.int .i64 0,.int .i64 0,.int .i64 0]):=ty_mk (by kernel_rfl) Tryz.underlying39 rfl
theorem ty43:TyInfo Pg 43 false 1 (Pg.bytesOf 43) (.slice none 0 0):=ty_mk (by kernel_rfl) Tryz.underlying43 rfl
theorem ty45:TyInfo Pg 45 true 2 (Pg.bytesOf 45) (.agg #[.string ByteArray.empty,.slice none 0 0]):=ty_mk (by kernel_rfl) Tryz.underlying45 rfl
theorem ty46:TyInfo Pg 46 false 1 (Pg.bytesOf 46) (.int .i64 0):=ty_mk (by kernel_rfl) Tryz.underlying46 rfl
theorem ty47:TyInfo Pg 47 false 1 (Pg.bytesOf 47) (.slice none 0 0):=ty_mk (by kernel_rfl) Tryz.underlying47 rfl
theorem ty49:TyInfo Pg 49 true 2 (Pg.bytesOf 49) (.agg #[.int .i64 0,.slice none 0 0]):=ty_mk (by kernel_rfl) Tryz.underlying49 rfl
theorem ty50:TyInfo Pg 50 false 1 (Pg.bytesOf 50) (.slice none 0 0):=ty_mk (by kernel_rfl) Tryz.underlying50 rfl
theorem ty52:TyInfo Pg 52 true 15 (Pg.bytesOf 52) (.agg #[.string ByteArray.empty,.int .i64 0,.int .i64 0,.bool false,.bool false,.int .i64 0,.int .i64 0,.int .i64 0,.slice none 0 0,.string ByteArray.empty,.string ByteArray.empty,.string ByteArray.empty,.slice none 0 0,.int .i64 0,.int .i64 0]):=ty_mk (by kernel_rfl) Tryz.underlying52 rfl
theorem by52:Pg.bytesOf 52≤4096:=Nat.le_of_ble_eq_true (by kernel_rfl)
theorem ty55:TyInfo Pg 55 false 1 (Pg.bytesOf 55) (.map none):=ty_mk (by kernel_rfl) Tryz.underlying55 rfl
theorem ty58:TyInfo Pg 58 true 2 (Pg.bytesOf 58) (.agg #[.int .i64 0,.int .i64 0]):=ty_mk (by kernel_rfl) Tryz.underlying58 rfl
theorem ty61:TyInfo Pg 61 false 1 (Pg.bytesOf 61) (.pointer none):=ty_mk (by kernel_rfl) Tryz.underlying61 rfl
theorem ty62:TyInfo Pg 62 false 1 (Pg.bytesOf 62) (.map none):=ty_mk (by kernel_rfl) Tryz.underlying62 rfl
theorem ty63:TyInfo Pg 63 false 1 (Pg.bytesOf 63) (.map none):=ty_mk (by kernel_rfl) Tryz.underlying63 rfl
theorem ty65:TyInfo Pg 65 true 9 (Pg.bytesOf 65) (.agg #[.string ByteArray.empty,.slice none 0 0,.string ByteArray.empty,.map none,.map none,.int .i64 0,.int .i64 0,.string ByteArray.empty,.slice none 0 0]):=ty_mk (by kernel_rfl) Tryz.underlying65 rfl
theorem ty69:TyInfo Pg 69 false 1 (Pg.bytesOf 69) (.slice none 0 0):=ty_mk (by kernel_rfl) Tryz.underlying69 rfl
theorem ty78:TyInfo Pg 78 true 2 (Pg.bytesOf 78) (.agg #[.string ByteArray.empty,.int .i64 0]):=ty_mk (by kernel_rfl) Tryz.underlying78 rfl
theorem by78:Pg.bytesOf 78≤4096:=Nat.le_of_ble_eq_true (by kernel_rfl)
theorem ty81:TyInfo Pg 81 true 3 (Pg.bytesOf 81) (.agg #[.int .i64 0,.int .i64 0,.string ByteArray.empty]):=ty_mk (by kernel_rfl) Tryz.underlying81 rfl
theorem ty118:TyInfo Pg 118 false 1 (Pg.bytesOf 118) (.nilFunc):=ty_mk (by kernel_rfl) Tryz.underlying118 rfl
theorem ty119:TyInfo Pg 119 false 1 (Pg.bytesOf 119) (.nilFunc):=ty_mk (by kernel_rfl) Tryz.underlying119 rfl
theorem ty121:TyInfo Pg 121 true 2 (Pg.bytesOf 121) (.agg #[.nilFunc,.nilFunc]):=ty_mk (by kernel_rfl) Tryz.underlying121 rfl
theorem ty129:TyInfo Pg 129 true 3 (Pg.bytesOf 129) (.agg #[.string ByteArray.empty,.int .i64 0,.int .i64 0]):=ty_mk (by kernel_rfl) Tryz.underlying129 rfl
theorem by129:Pg.bytesOf 129≤4096:=Nat.le_of_ble_eq_true (by kernel_rfl)
theorem ty137:TyInfo Pg 137 true 13 (Pg.bytesOf 137) (.agg #[.string ByteArray.empty,.string ByteArray.empty,.string ByteArray.empty,.string ByteArray.empty,.int .i64 0,.int .i64 0,.int .i64 0,.int .i64 0,.int .i64 0,.int .i64 0,.int .i64 0,.bool false,.bool false]):=ty_mk (by kernel_rfl) Tryz.underlying137 rfl
theorem ty150:TyInfo Pg 150 false 1 (Pg.bytesOf 150) (.nilFunc):=ty_mk (by kernel_rfl) Tryz.underlying150 rfl
theorem eq39 {w:World} (a0 b0:Int) (a1 b1:Int) (a2 b2:Int):(Op.equalIn (9999+1) 39 (.agg #[.int .i64 a0,.int .i64 a1,.int .i64 a2]) (.agg #[.int .i64 b0,.int .i64 b1,.int .i64 b2])).run Pg w = .ok (decide (a0=b0)&&(decide (a1=b1)&&(decide (a2=b2)&&true))) w :=
 equalIn_struct Tryz.underlying39 (by kernel_rfl) (eqFields_step rfl (part1 ty3 rfl) (part1 ty3 rfl) (eqInt Tryz.underlying3) (eqFields_step rfl (part1 ty3 rfl) (part1 ty3 rfl) (eqInt Tryz.underlying3) (eqFields_step rfl (part1 ty37 rfl) (part1 ty37 rfl) (eqInt Tryz.underlying37) eqFields_nil)))
theorem eq58 {w:World} (a0 b0:Int) (a1 b1:Int):(Op.equalIn (9999+1) 58 (.agg #[.int .i64 a0,.int .i64 a1]) (.agg #[.int .i64 b0,.int .i64 b1])).run Pg w = .ok (decide (a0=b0)&&(decide (a1=b1)&&true)) w :=
 equalIn_struct Tryz.underlying58 (by kernel_rfl) (eqFields_step rfl (part1 ty3 rfl) (part1 ty3 rfl) (eqInt Tryz.underlying3) (eqFields_step rfl (part1 ty3 rfl) (part1 ty3 rfl) (eqInt Tryz.underlying3) eqFields_nil))
theorem eq78 {w:World} (a0 b0:ByteArray) (a1 b1:Int):(Op.equalIn (9999+1) 78 (.agg #[.string a0,.int .i64 a1]) (.agg #[.string b0,.int .i64 b1])).run Pg w = .ok (decide (a0=b0)&&(decide (a1=b1)&&true)) w :=
 equalIn_struct Tryz.underlying78 (by kernel_rfl) (eqFields_step rfl (part1 ty9 rfl) (part1 ty9 rfl) (eqString Tryz.underlying9) (eqFields_step rfl (part1 ty3 rfl) (part1 ty3 rfl) (eqInt Tryz.underlying3) eqFields_nil))
theorem eq81 {w:World} (a0 b0:Int) (a1 b1:Int) (a2 b2:ByteArray):(Op.equalIn (9999+1) 81 (.agg #[.int .i64 a0,.int .i64 a1,.string a2]) (.agg #[.int .i64 b0,.int .i64 b1,.string b2])).run Pg w = .ok (decide (a0=b0)&&(decide (a1=b1)&&(decide (a2=b2)&&true))) w :=
 equalIn_struct Tryz.underlying81 (by kernel_rfl) (eqFields_step rfl (part1 ty3 rfl) (part1 ty3 rfl) (eqInt Tryz.underlying3) (eqFields_step rfl (part1 ty3 rfl) (part1 ty3 rfl) (eqInt Tryz.underlying3) (eqFields_step rfl (part1 ty9 rfl) (part1 ty9 rfl) (eqString Tryz.underlying9) eqFields_nil)))
theorem eq137 {w:World} (a0 b0:ByteArray) (a1 b1:ByteArray) (a2 b2:ByteArray) (a3 b3:ByteArray) (a4 b4:Int) (a5 b5:Int) (a6 b6:Int) (a7 b7:Int) (a8 b8:Int) (a9 b9:Int) (a10 b10:Int) (a11 b11:Bool) (a12 b12:Bool):(Op.equalIn (9999+1) 137 (.agg #[.string a0,.string a1,.string a2,.string a3,.int .i64 a4,.int .i64 a5,.int .i64 a6,.int .i64 a7,.int .i64 a8,.int .i64 a9,.int .i64 a10,.bool a11,.bool a12]) (.agg #[.string b0,.string b1,.string b2,.string b3,.int .i64 b4,.int .i64 b5,.int .i64 b6,.int .i64 b7,.int .i64 b8,.int .i64 b9,.int .i64 b10,.bool b11,.bool b12])).run Pg w = .ok (decide (a0=b0)&&(decide (a1=b1)&&(decide (a2=b2)&&(decide (a3=b3)&&(decide (a4=b4)&&(decide (a5=b5)&&(decide (a6=b6)&&(decide (a7=b7)&&(decide (a8=b8)&&(decide (a9=b9)&&(decide (a10=b10)&&(decide (a11=b11)&&(decide (a12=b12)&&true))))))))))))) w :=
 equalIn_struct Tryz.underlying137 (by kernel_rfl) (eqFields_step rfl (part1 ty9 rfl) (part1 ty9 rfl) (eqString Tryz.underlying9) (eqFields_step rfl (part1 ty9 rfl) (part1 ty9 rfl) (eqString Tryz.underlying9) (eqFields_step rfl (part1 ty9 rfl) (part1 ty9 rfl) (eqString Tryz.underlying9) (eqFields_step rfl (part1 ty9 rfl) (part1 ty9 rfl) (eqString Tryz.underlying9) (eqFields_step rfl (part1 ty46 rfl) (part1 ty46 rfl) (eqInt Tryz.underlying46) (eqFields_step rfl (part1 ty3 rfl) (part1 ty3 rfl) (eqInt Tryz.underlying3) (eqFields_step rfl (part1 ty3 rfl) (part1 ty3 rfl) (eqInt Tryz.underlying3) (eqFields_step rfl (part1 ty3 rfl) (part1 ty3 rfl) (eqInt Tryz.underlying3) (eqFields_step rfl (part1 ty3 rfl) (part1 ty3 rfl) (eqInt Tryz.underlying3) (eqFields_step rfl (part1 ty3 rfl) (part1 ty3 rfl) (eqInt Tryz.underlying3) (eqFields_step rfl (part1 ty3 rfl) (part1 ty3 rfl) (eqInt Tryz.underlying3) (eqFields_step rfl (part1 ty4 rfl) (part1 ty4 rfl) (eqBool Tryz.underlying4) (eqFields_step rfl (part1 ty4 rfl) (part1 ty4 rfl) (eqBool Tryz.underlying4) eqFields_nil)))))))))))))
section
variable {QP:List PanicEntry→World→Prop} {w:World} {k:Value→World→Prop}
def o0:=op_loadC (QP:=QP) (w:=w) (k:=k) ty3
theorem o1:(∀ u,opV Pg (Instr.alloc 3 true u) QP w k=k (.pointer (some ⟨w.heap.size,0,none⟩)) (w.alloc (.cells ((.int .i64 0):Value).cells 3))):=(op_alloc ty3)
def o2:=op_loadC (QP:=QP) (w:=w) (k:=k) ty4
theorem o3:(∀ c a b,opV Pg (binS .eql 4 c (.bool a) (.bool b)) QP w k=k (.bool (a == b)) w):=(op_beql Tryz.underlying4)
theorem o4:(∀ c a b,opV Pg (binS .neq 4 c (.bool a) (.bool b)) QP w k=k (.bool (a != b)) w):=(op_bneq Tryz.underlying4)
theorem o5:(∀ u,opV Pg (Instr.alloc 4 true u) QP w k=k (.pointer (some ⟨w.heap.size,0,none⟩)) (w.alloc (.cells ((.bool false):Value).cells 4))):=(op_alloc ty4)
def o6:=op_loadC (QP:=QP) (w:=w) (k:=k) ty5
def o7:=op_loadC (QP:=QP) (w:=w) (k:=k) ty9
theorem o8:(∀ r s,opV Pg (Builtin.len_ #[9] r #[.string s]) QP w k=k (.int .i64 (s.size:Int)) w):=(fun r=>op_len_string (r:=r) Tryz.underlying9)
def o9:=op_loadC (QP:=QP) (w:=w) (k:=k) ty22
theorem o10:(∀ r a n c,opV Pg (Builtin.len_ #[22] r #[.slice a n c]) QP w k=k (.int .i64 (n:Int)) w):=(fun r=>op_len_slice (r:=r) Tryz.underlying22)
theorem o11:(∀ b o len cap ik (i:Nat),i < len→opV Pg (Instr.indexAt 22 (.slice (some ⟨b,o,none⟩) len cap) (.int ik (i:Int))) QP w k=k (.pointer (some ⟨b,o+i*2,none⟩)) w):=(op_indexN Tryz.underlying22 ty45)
def o12:=op_field0 (QP:=QP) (w:=w) (k:=k) (i:=0) (ft:=9) (n:=1) Tryz.underlying24 rfl ty9 rfl
def o13:=op_fieldO (QP:=QP) (w:=w) (k:=k) (i:=1) (ft:=22) (off:=1) (n:=1) Tryz.underlying24 rfl ty22 rfl
def o14:=op_fieldO (QP:=QP) (w:=w) (k:=k) (i:=2) (ft:=9) (off:=2) (n:=1) Tryz.underlying24 rfl ty9 rfl
theorem o15:(∀ v0 v1 v2,opV Pg (Instr.field 24 (.agg #[v0,v1,v2]) 1) QP w k=k v1 w):=(by intro v0 v1 v2;exact op_fieldV1 Tryz.underlying24 rfl ty22 rfl)
theorem o16:(∀ b o,opV Pg (Instr.loadAt 24 (.pointer (some ⟨b,o,none⟩))) QP w k=onCells [w.cell? ⟨b,o,none⟩,w.cell? ⟨b,o+1,none⟩,w.cell? ⟨b,o+2,none⟩] (fun vs=>k (.agg vs.toArray) w) (opVx Pg (Instr.loadAt 24 (.pointer (some ⟨b,o,none⟩))) QP w k)):=(by intro b o;exact op_loadA ty24 b o _ rfl)
theorem o17:(∀ u,opV Pg (Instr.alloc 24 true u) QP w k=k (.pointer (some ⟨w.heap.size,0,none⟩)) (w.alloc (.cells ((.agg #[.string ByteArray.empty,.slice none 0 0,.string ByteArray.empty]):Value).cells 24))):=(op_alloc ty24)
theorem o18:(∀ u,opV Pg (Instr.alloc 27 true u) QP w k=k (.pointer (some ⟨w.heap.size,0,none⟩)) (w.alloc (.cells ((.int .i64 0):Value).cells 27))):=(op_alloc ty27)
theorem o19:(∀ r a n c,opV Pg (Builtin.len_ #[33] r #[.slice a n c]) QP w k=k (.int .i64 (n:Int)) w):=(fun r=>op_len_slice (r:=r) Tryz.underlying33)
theorem o20:(∀ b o len cap ik (i:Nat),i < len→opV Pg (Instr.indexAt 33 (.slice (some ⟨b,o,none⟩) len cap) (.int ik (i:Int))) QP w k=k (.pointer (some ⟨b,o+i*1,none⟩)) w):=(op_indexN Tryz.underlying33 ty4)
theorem o21:(∀ b o,opV Pg (Instr.loadAt 39 (.pointer (some ⟨b,o,none⟩))) QP w k=onCells [w.cell? ⟨b,o,none⟩,w.cell? ⟨b,o+1,none⟩,w.cell? ⟨b,o+2,none⟩] (fun vs=>k (.agg vs.toArray) w) (opVx Pg (Instr.loadAt 39 (.pointer (some ⟨b,o,none⟩))) QP w k)):=(by intro b o;exact op_loadA ty39 b o _ rfl)
theorem o22:(∀ u,opV Pg (Instr.alloc 39 true u) QP w k=k (.pointer (some ⟨w.heap.size,0,none⟩)) (w.alloc (.cells ((.agg #[.int .i64 0,.int .i64 0,.int .i64 0]):Value).cells 39))):=(op_alloc ty39)
def o23:=op_loadC (QP:=QP) (w:=w) (k:=k) ty43
theorem o24:(∀ r a n c,opV Pg (Builtin.len_ #[43] r #[.slice a n c]) QP w k=k (.int .i64 (n:Int)) w):=(fun r=>op_len_slice (r:=r) Tryz.underlying43)
theorem o25:(∀ b o len cap ik (i:Nat),i < len→opV Pg (Instr.indexAt 43 (.slice (some ⟨b,o,none⟩) len cap) (.int ik (i:Int))) QP w k=k (.pointer (some ⟨b,o+i*15,none⟩)) w):=(op_indexN Tryz.underlying43 ty52)
def o26:=op_field0 (QP:=QP) (w:=w) (k:=k) (i:=0) (ft:=9) (n:=1) Tryz.underlying45 rfl ty9 rfl
def o27:=op_fieldO (QP:=QP) (w:=w) (k:=k) (i:=1) (ft:=43) (off:=1) (n:=1) Tryz.underlying45 rfl ty43 rfl
theorem o28:(∀ b o,opV Pg (Instr.loadAt 45 (.pointer (some ⟨b,o,none⟩))) QP w k=onCells [w.cell? ⟨b,o,none⟩,w.cell? ⟨b,o+1,none⟩] (fun vs=>k (.agg vs.toArray) w) (opVx Pg (Instr.loadAt 45 (.pointer (some ⟨b,o,none⟩))) QP w k)):=(by intro b o;exact op_loadA ty45 b o _ rfl)
theorem o29:(∀ u,opV Pg (Instr.alloc 45 true u) QP w k=k (.pointer (some ⟨w.heap.size,0,none⟩)) (w.alloc (.cells ((.agg #[.string ByteArray.empty,.slice none 0 0]):Value).cells 45))):=(op_alloc ty45)
def o30:=op_loadC (QP:=QP) (w:=w) (k:=k) ty46
def o31:=op_loadC (QP:=QP) (w:=w) (k:=k) ty47
theorem o32:(∀ r a n c,opV Pg (Builtin.len_ #[47] r #[.slice a n c]) QP w k=k (.int .i64 (n:Int)) w):=(fun r=>op_len_slice (r:=r) Tryz.underlying47)
theorem o33:(∀ b o len cap ik (i:Nat),i < len→opV Pg (Instr.indexAt 47 (.slice (some ⟨b,o,none⟩) len cap) (.int ik (i:Int))) QP w k=k (.pointer (some ⟨b,o+i*2,none⟩)) w):=(op_indexN Tryz.underlying47 ty78)
theorem o34:(∀ u,opV Pg (Instr.alloc 47 true u) QP w k=k (.pointer (some ⟨w.heap.size,0,none⟩)) (w.alloc (.cells ((.slice none 0 0):Value).cells 47))):=(op_alloc ty47)
def o35:=op_field0 (QP:=QP) (w:=w) (k:=k) (i:=0) (ft:=3) (n:=1) Tryz.underlying49 rfl ty3 rfl
def o36:=op_fieldO (QP:=QP) (w:=w) (k:=k) (i:=1) (ft:=47) (off:=1) (n:=1) Tryz.underlying49 rfl ty47 rfl
theorem o37:(∀ b o,opV Pg (Instr.loadAt 49 (.pointer (some ⟨b,o,none⟩))) QP w k=onCells [w.cell? ⟨b,o,none⟩,w.cell? ⟨b,o+1,none⟩] (fun vs=>k (.agg vs.toArray) w) (opVx Pg (Instr.loadAt 49 (.pointer (some ⟨b,o,none⟩))) QP w k)):=(by intro b o;exact op_loadA ty49 b o _ rfl)
theorem o38:(∀ u,opV Pg (Instr.alloc 49 true u) QP w k=k (.pointer (some ⟨w.heap.size,0,none⟩)) (w.alloc (.cells ((.agg #[.int .i64 0,.slice none 0 0]):Value).cells 49))):=(op_alloc ty49)
def o39:=op_loadC (QP:=QP) (w:=w) (k:=k) ty50
theorem o40:(∀ r a n c,opV Pg (Builtin.len_ #[50] r #[.slice a n c]) QP w k=k (.int .i64 (n:Int)) w):=(fun r=>op_len_slice (r:=r) Tryz.underlying50)
theorem o41:(∀ b o len cap ik (i:Nat),i < len→opV Pg (Instr.indexAt 50 (.slice (some ⟨b,o,none⟩) len cap) (.int ik (i:Int))) QP w k=k (.pointer (some ⟨b,o+i*3,none⟩)) w):=(op_indexN Tryz.underlying50 ty81)
def o42:=op_field0 (QP:=QP) (w:=w) (k:=k) (i:=0) (ft:=9) (n:=1) Tryz.underlying52 rfl ty9 rfl
def o43:=op_fieldO (QP:=QP) (w:=w) (k:=k) (i:=1) (ft:=46) (off:=1) (n:=1) Tryz.underlying52 rfl ty46 rfl
def o44:=op_fieldO (QP:=QP) (w:=w) (k:=k) (i:=2) (ft:=3) (off:=2) (n:=1) Tryz.underlying52 rfl ty3 rfl
def o45:=op_fieldO (QP:=QP) (w:=w) (k:=k) (i:=3) (ft:=4) (off:=3) (n:=1) Tryz.underlying52 rfl ty4 rfl
def o46:=op_fieldO (QP:=QP) (w:=w) (k:=k) (i:=4) (ft:=4) (off:=4) (n:=1) Tryz.underlying52 rfl ty4 rfl
def o47:=op_fieldO (QP:=QP) (w:=w) (k:=k) (i:=5) (ft:=3) (off:=5) (n:=1) Tryz.underlying52 rfl ty3 rfl
def o48:=op_fieldO (QP:=QP) (w:=w) (k:=k) (i:=6) (ft:=3) (off:=6) (n:=1) Tryz.underlying52 rfl ty3 rfl
def o49:=op_fieldO (QP:=QP) (w:=w) (k:=k) (i:=7) (ft:=49) (off:=7) (n:=2) Tryz.underlying52 rfl ty49 rfl
def o50:=op_fieldO (QP:=QP) (w:=w) (k:=k) (i:=8) (ft:=9) (off:=9) (n:=1) Tryz.underlying52 rfl ty9 rfl
def o51:=op_fieldO (QP:=QP) (w:=w) (k:=k) (i:=9) (ft:=9) (off:=10) (n:=1) Tryz.underlying52 rfl ty9 rfl
def o52:=op_fieldO (QP:=QP) (w:=w) (k:=k) (i:=10) (ft:=9) (off:=11) (n:=1) Tryz.underlying52 rfl ty9 rfl
def o53:=op_fieldO (QP:=QP) (w:=w) (k:=k) (i:=11) (ft:=50) (off:=12) (n:=1) Tryz.underlying52 rfl ty50 rfl
def o54:=op_fieldO (QP:=QP) (w:=w) (k:=k) (i:=12) (ft:=3) (off:=13) (n:=1) Tryz.underlying52 rfl ty3 rfl
def o55:=op_fieldO (QP:=QP) (w:=w) (k:=k) (i:=13) (ft:=3) (off:=14) (n:=1) Tryz.underlying52 rfl ty3 rfl
theorem o56:(∀ b o,opV Pg (Instr.loadAt 52 (.pointer (some ⟨b,o,none⟩))) QP w k=onCells [w.cell? ⟨b,o,none⟩,w.cell? ⟨b,o+1,none⟩,w.cell? ⟨b,o+2,none⟩,w.cell? ⟨b,o+3,none⟩,w.cell? ⟨b,o+4,none⟩,w.cell? ⟨b,o+5,none⟩,w.cell? ⟨b,o+6,none⟩,w.cell? ⟨b,o+7,none⟩,w.cell? ⟨b,o+8,none⟩,w.cell? ⟨b,o+9,none⟩,w.cell? ⟨b,o+10,none⟩,w.cell? ⟨b,o+11,none⟩,w.cell? ⟨b,o+12,none⟩,w.cell? ⟨b,o+13,none⟩,w.cell? ⟨b,o+14,none⟩] (fun vs=>k (.agg vs.toArray) w) (opVx Pg (Instr.loadAt 52 (.pointer (some ⟨b,o,none⟩))) QP w k)):=(by intro b o;exact op_loadA ty52 b o _ rfl)
theorem o57:(∀ u,opV Pg (Instr.alloc 52 true u) QP w k=k (.pointer (some ⟨w.heap.size,0,none⟩)) (w.alloc (.cells ((.agg #[.string ByteArray.empty,.int .i64 0,.int .i64 0,.bool false,.bool false,.int .i64 0,.int .i64 0,.int .i64 0,.slice none 0 0,.string ByteArray.empty,.string ByteArray.empty,.string ByteArray.empty,.slice none 0 0,.int .i64 0,.int .i64 0]):Value).cells 52))):=(op_alloc ty52)
def o58:=op_loadC (QP:=QP) (w:=w) (k:=k) ty55
theorem o59:(∀ u,opV Pg (Instr.alloc 55 true u) QP w k=k (.pointer (some ⟨w.heap.size,0,none⟩)) (w.alloc (.cells ((.map none):Value).cells 55))):=(op_alloc ty55)
def o60:=op_field0 (QP:=QP) (w:=w) (k:=k) (i:=0) (ft:=3) (n:=1) Tryz.underlying58 rfl ty3 rfl
def o61:=op_fieldO (QP:=QP) (w:=w) (k:=k) (i:=1) (ft:=3) (off:=1) (n:=1) Tryz.underlying58 rfl ty3 rfl
theorem o62:(∀ v0 v1,opV Pg (Instr.field 58 (.agg #[v0,v1]) 1) QP w k=k v1 w):=(by intro v0 v1;exact op_fieldV1 Tryz.underlying58 rfl ty3 rfl)
theorem o63:(∀ b o,opV Pg (Instr.loadAt 58 (.pointer (some ⟨b,o,none⟩))) QP w k=onCells [w.cell? ⟨b,o,none⟩,w.cell? ⟨b,o+1,none⟩] (fun vs=>k (.agg vs.toArray) w) (opVx Pg (Instr.loadAt 58 (.pointer (some ⟨b,o,none⟩))) QP w k)):=(by intro b o;exact op_loadA ty58 b o _ rfl)
theorem o64:(∀ u,opV Pg (Instr.alloc 58 true u) QP w k=k (.pointer (some ⟨w.heap.size,0,none⟩)) (w.alloc (.cells ((.agg #[.int .i64 0,.int .i64 0]):Value).cells 58))):=(op_alloc ty58)
def o65:=op_loadC (QP:=QP) (w:=w) (k:=k) ty61
def o66:=op_loadC (QP:=QP) (w:=w) (k:=k) ty62
def o67:=op_loadC (QP:=QP) (w:=w) (k:=k) ty63
theorem o68:(∀ u,opV Pg (Instr.alloc 63 true u) QP w k=k (.pointer (some ⟨w.heap.size,0,none⟩)) (w.alloc (.cells ((.map none):Value).cells 63))):=(op_alloc ty63)
def o69:=op_fieldO (QP:=QP) (w:=w) (k:=k) (i:=1) (ft:=62) (off:=3) (n:=1) Tryz.underlying65 rfl ty62 rfl
def o70:=op_fieldO (QP:=QP) (w:=w) (k:=k) (i:=2) (ft:=63) (off:=4) (n:=1) Tryz.underlying65 rfl ty63 rfl
def o71:=op_fieldO (QP:=QP) (w:=w) (k:=k) (i:=3) (ft:=3) (off:=5) (n:=1) Tryz.underlying65 rfl ty3 rfl
def o72:=op_fieldO (QP:=QP) (w:=w) (k:=k) (i:=4) (ft:=3) (off:=6) (n:=1) Tryz.underlying65 rfl ty3 rfl
def o73:=op_fieldO (QP:=QP) (w:=w) (k:=k) (i:=5) (ft:=45) (off:=7) (n:=2) Tryz.underlying65 rfl ty45 rfl
def o74:=op_loadC (QP:=QP) (w:=w) (k:=k) ty69
theorem o75:(∀ r a n c,opV Pg (Builtin.len_ #[69] r #[.slice a n c]) QP w k=k (.int .i64 (n:Int)) w):=(fun r=>op_len_slice (r:=r) Tryz.underlying69)
theorem o76:(∀ b o len cap ik (i:Nat),i < len→opV Pg (Instr.indexAt 69 (.slice (some ⟨b,o,none⟩) len cap) (.int ik (i:Int))) QP w k=k (.pointer (some ⟨b,o+i*1,none⟩)) w):=(op_indexN Tryz.underlying69 ty9)
theorem o77:(∀ u,opV Pg (Instr.alloc 69 true u) QP w k=k (.pointer (some ⟨w.heap.size,0,none⟩)) (w.alloc (.cells ((.slice none 0 0):Value).cells 69))):=(op_alloc ty69)
def o78:=op_field0 (QP:=QP) (w:=w) (k:=k) (i:=0) (ft:=9) (n:=1) Tryz.underlying78 rfl ty9 rfl
def o79:=op_fieldO (QP:=QP) (w:=w) (k:=k) (i:=1) (ft:=3) (off:=1) (n:=1) Tryz.underlying78 rfl ty3 rfl
theorem o80:(∀ b o,opV Pg (Instr.loadAt 78 (.pointer (some ⟨b,o,none⟩))) QP w k=onCells [w.cell? ⟨b,o,none⟩,w.cell? ⟨b,o+1,none⟩] (fun vs=>k (.agg vs.toArray) w) (opVx Pg (Instr.loadAt 78 (.pointer (some ⟨b,o,none⟩))) QP w k)):=(by intro b o;exact op_loadA ty78 b o _ rfl)
theorem o81:(∀ u,opV Pg (Instr.alloc 78 true u) QP w k=k (.pointer (some ⟨w.heap.size,0,none⟩)) (w.alloc (.cells ((.agg #[.string ByteArray.empty,.int .i64 0]):Value).cells 78))):=(op_alloc ty78)
def o82:=op_field0 (QP:=QP) (w:=w) (k:=k) (i:=0) (ft:=3) (n:=1) Tryz.underlying81 rfl ty3 rfl
def o83:=op_fieldO (QP:=QP) (w:=w) (k:=k) (i:=1) (ft:=3) (off:=1) (n:=1) Tryz.underlying81 rfl ty3 rfl
def o84:=op_fieldO (QP:=QP) (w:=w) (k:=k) (i:=2) (ft:=9) (off:=2) (n:=1) Tryz.underlying81 rfl ty9 rfl
theorem o85:(∀ b o,opV Pg (Instr.loadAt 81 (.pointer (some ⟨b,o,none⟩))) QP w k=onCells [w.cell? ⟨b,o,none⟩,w.cell? ⟨b,o+1,none⟩,w.cell? ⟨b,o+2,none⟩] (fun vs=>k (.agg vs.toArray) w) (opVx Pg (Instr.loadAt 81 (.pointer (some ⟨b,o,none⟩))) QP w k)):=(by intro b o;exact op_loadA ty81 b o _ rfl)
theorem o86:(∀ u,opV Pg (Instr.alloc 81 true u) QP w k=k (.pointer (some ⟨w.heap.size,0,none⟩)) (w.alloc (.cells ((.agg #[.int .i64 0,.int .i64 0,.string ByteArray.empty]):Value).cells 81))):=(op_alloc ty81)
theorem o87:(∀ r a n c,opV Pg (Builtin.len_ #[85] r #[.slice a n c]) QP w k=k (.int .i64 (n:Int)) w):=(fun r=>op_len_slice (r:=r) Tryz.underlying85)
theorem o88:(∀ b o len cap ik (i:Nat),i < len→opV Pg (Instr.indexAt 85 (.slice (some ⟨b,o,none⟩) len cap) (.int ik (i:Int))) QP w k=k (.pointer (some ⟨b,o+i*1,none⟩)) w):=(op_indexN Tryz.underlying85 ty3)
theorem o89:(∀ r a n c,opV Pg (Builtin.len_ #[100] r #[.slice a n c]) QP w k=k (.int .i64 (n:Int)) w):=(fun r=>op_len_slice (r:=r) Tryz.underlying100)
theorem o90:(∀ b o len cap ik (i:Nat),i < len→opV Pg (Instr.indexAt 100 (.slice (some ⟨b,o,none⟩) len cap) (.int ik (i:Int))) QP w k=k (.pointer (some ⟨b,o+i*1,none⟩)) w):=(op_indexN Tryz.underlying100 ty5)
def o91:=op_loadC (QP:=QP) (w:=w) (k:=k) ty118
def o92:=op_loadC (QP:=QP) (w:=w) (k:=k) ty119
def o93:=op_field0 (QP:=QP) (w:=w) (k:=k) (i:=0) (ft:=118) (n:=1) Tryz.underlying121 rfl ty118 rfl
def o94:=op_fieldO (QP:=QP) (w:=w) (k:=k) (i:=1) (ft:=119) (off:=1) (n:=1) Tryz.underlying121 rfl ty119 rfl
theorem o95:(∀ u,opV Pg (Instr.alloc 121 true u) QP w k=k (.pointer (some ⟨w.heap.size,0,none⟩)) (w.alloc (.cells ((.agg #[.nilFunc,.nilFunc]):Value).cells 121))):=(op_alloc ty121)
theorem o96:(∀ r a n c,opV Pg (Builtin.len_ #[127] r #[.slice a n c]) QP w k=k (.int .i64 (n:Int)) w):=(fun r=>op_len_slice (r:=r) Tryz.underlying127)
theorem o97:(∀ b o len cap ik (i:Nat),i < len→opV Pg (Instr.indexAt 127 (.slice (some ⟨b,o,none⟩) len cap) (.int ik (i:Int))) QP w k=k (.pointer (some ⟨b,o+i*3,none⟩)) w):=(op_indexN Tryz.underlying127 ty129)
def o98:=op_field0 (QP:=QP) (w:=w) (k:=k) (i:=0) (ft:=9) (n:=1) Tryz.underlying129 rfl ty9 rfl
def o99:=op_fieldO (QP:=QP) (w:=w) (k:=k) (i:=1) (ft:=3) (off:=1) (n:=1) Tryz.underlying129 rfl ty3 rfl
def o100:=op_fieldO (QP:=QP) (w:=w) (k:=k) (i:=2) (ft:=3) (off:=2) (n:=1) Tryz.underlying129 rfl ty3 rfl
theorem o101:(∀ b o,opV Pg (Instr.loadAt 129 (.pointer (some ⟨b,o,none⟩))) QP w k=onCells [w.cell? ⟨b,o,none⟩,w.cell? ⟨b,o+1,none⟩,w.cell? ⟨b,o+2,none⟩] (fun vs=>k (.agg vs.toArray) w) (opVx Pg (Instr.loadAt 129 (.pointer (some ⟨b,o,none⟩))) QP w k)):=(by intro b o;exact op_loadA ty129 b o _ rfl)
theorem o102:(∀ u,opV Pg (Instr.alloc 129 true u) QP w k=k (.pointer (some ⟨w.heap.size,0,none⟩)) (w.alloc (.cells ((.agg #[.string ByteArray.empty,.int .i64 0,.int .i64 0]):Value).cells 129))):=(op_alloc ty129)
theorem o103:(∀ u,opV Pg (Instr.alloc 137 true u) QP w k=k (.pointer (some ⟨w.heap.size,0,none⟩)) (w.alloc (.cells ((.agg #[.string ByteArray.empty,.string ByteArray.empty,.string ByteArray.empty,.string ByteArray.empty,.int .i64 0,.int .i64 0,.int .i64 0,.int .i64 0,.int .i64 0,.int .i64 0,.int .i64 0,.bool false,.bool false]):Value).cells 137))):=(op_alloc ty137)
def o104:=op_loadC (QP:=QP) (w:=w) (k:=k) ty150
theorem o105:(∀ v0 v2 v1:Value,v0.oneCell'=true→v2.oneCell'=true→v1.oneCell'=true→opV Pg (Instr.build 24 #[(0,v0),(2,v2),(1,v1)]) QP w k=k (.agg #[v0,v1,v2]) w):=(by intro v0 v2 v1 hv0 hv2 hv1;exact op_build (places := #[(0,1),(1,1),(2,1)]) Tryz.underlying24 ty24 (by intro w;simp [List.mapM_cons,Sem.run_bind,Sw.run_sizeOf ty22,Sw.run_sizeOf ty9]) (by simp [Instr.fill,cells_agg,cells_one hv0,cells_one hv2,cells_one hv1]))
theorem o106:(opV Pg (Instr.build 39 #[]) QP w k=k (.agg #[.int .i64 0,.int .i64 0,.int .i64 0]) w):=(by exact op_build (places := #[(0,1),(1,1),(2,1)]) Tryz.underlying39 ty39 (by intro w;simp [List.mapM_cons,Sem.run_bind,Sw.run_sizeOf ty3,Sw.run_sizeOf ty37]) (by simp [Instr.fill,cells_agg]))
theorem o107:(∀ v0 v1 v2:Value,v0.oneCell'=true→v1.oneCell'=true→v2.oneCell'=true→opV Pg (Instr.build 39 #[(0,v0),(1,v1),(2,v2)]) QP w k=k (.agg #[v0,v1,v2]) w):=(by intro v0 v1 v2 hv0 hv1 hv2;exact op_build (places := #[(0,1),(1,1),(2,1)]) Tryz.underlying39 ty39 (by intro w;simp [List.mapM_cons,Sem.run_bind,Sw.run_sizeOf ty3,Sw.run_sizeOf ty37]) (by simp [Instr.fill,cells_agg,cells_one hv0,cells_one hv1,cells_one hv2]))
theorem o108:(∀ v0 v1:Value,v0.oneCell'=true→v1.oneCell'=true→opV Pg (Instr.build 45 #[(0,v0),(1,v1)]) QP w k=k (.agg #[v0,v1]) w):=(by intro v0 v1 hv0 hv1;exact op_build (places := #[(0,1),(1,1)]) Tryz.underlying45 ty45 (by intro w;simp [List.mapM_cons,Sem.run_bind,Sw.run_sizeOf ty43,Sw.run_sizeOf ty9]) (by simp [Instr.fill,cells_agg,cells_one hv0,cells_one hv1]))
theorem o109:(∀ v1:Value,v1.oneCell'=true→opV Pg (Instr.build 45 #[(1,v1)]) QP w k=k (.agg #[.string ByteArray.empty,v1]) w):=(by intro v1 hv1;exact op_build (places := #[(0,1),(1,1)]) Tryz.underlying45 ty45 (by intro w;simp [List.mapM_cons,Sem.run_bind,Sw.run_sizeOf ty43,Sw.run_sizeOf ty9]) (by simp [Instr.fill,cells_agg,cells_one hv1]))
theorem o110:(opV Pg (Instr.build 49 #[]) QP w k=k (.agg #[.int .i64 0,.slice none 0 0]) w):=(by exact op_build (places := #[(0,1),(1,1)]) Tryz.underlying49 ty49 (by intro w;simp [List.mapM_cons,Sem.run_bind,Sw.run_sizeOf ty3,Sw.run_sizeOf ty47]) (by simp [Instr.fill,cells_agg]))
theorem o111:(∀ v1:Value,v1.oneCell'=true→opV Pg (Instr.build 49 #[(1,v1)]) QP w k=k (.agg #[.int .i64 0,v1]) w):=(by intro v1 hv1;exact op_build (places := #[(0,1),(1,1)]) Tryz.underlying49 ty49 (by intro w;simp [List.mapM_cons,Sem.run_bind,Sw.run_sizeOf ty3,Sw.run_sizeOf ty47]) (by simp [Instr.fill,cells_agg,cells_one hv1]))
theorem o112:(∀ v0 v1:Value,v0.oneCell'=true→v1.oneCell'=true→opV Pg (Instr.build 52 #[(0,v0),(1,v1)]) QP w k=k (.agg #[v0,v1,.int .i64 0,.bool false,.bool false,.int .i64 0,.int .i64 0,.int .i64 0,.slice none 0 0,.string ByteArray.empty,.string ByteArray.empty,.string ByteArray.empty,.slice none 0 0,.int .i64 0,.int .i64 0]) w):=(by intro v0 v1 hv0 hv1;exact op_build (places := #[(0,1),(1,1),(2,1),(3,1),(4,1),(5,1),(6,1),(7,2),(9,1),(10,1),(11,1),(12,1),(13,1),(14,1)]) Tryz.underlying52 ty52 (by intro w;simp [List.mapM_cons,Sem.run_bind,Sw.run_sizeOf ty3,Sw.run_sizeOf ty4,Sw.run_sizeOf ty46,Sw.run_sizeOf ty49,Sw.run_sizeOf ty50,Sw.run_sizeOf ty9]) (by simp [Instr.fill,cells_agg,cells_one hv0,cells_one hv1]))
theorem o113:(∀ v0 v1 v2 v6:Value,v0.oneCell'=true→v1.oneCell'=true→v2.oneCell'=true→v6.oneCell'=true→opV Pg (Instr.build 52 #[(0,v0),(1,v1),(2,v2),(6,v6)]) QP w k=k (.agg #[v0,v1,v2,.bool false,.bool false,.int .i64 0,v6,.int .i64 0,.slice none 0 0,.string ByteArray.empty,.string ByteArray.empty,.string ByteArray.empty,.slice none 0 0,.int .i64 0,.int .i64 0]) w):=(by intro v0 v1 v2 v6 hv0 hv1 hv2 hv6;exact op_build (places := #[(0,1),(1,1),(2,1),(3,1),(4,1),(5,1),(6,1),(7,2),(9,1),(10,1),(11,1),(12,1),(13,1),(14,1)]) Tryz.underlying52 ty52 (by intro w;simp [List.mapM_cons,Sem.run_bind,Sw.run_sizeOf ty3,Sw.run_sizeOf ty4,Sw.run_sizeOf ty46,Sw.run_sizeOf ty49,Sw.run_sizeOf ty50,Sw.run_sizeOf ty9]) (by simp [Instr.fill,cells_agg,cells_one hv0,cells_one hv1,cells_one hv2,cells_one hv6]))
theorem o114:(∀ v0 v1 v7_0 v7_1:Value,v0.oneCell'=true→v1.oneCell'=true→opV Pg (Instr.build 52 #[(0,v0),(1,v1),(7,(.agg #[v7_0,v7_1]))]) QP w k=k (.agg #[v0,v1,.int .i64 0,.bool false,.bool false,.int .i64 0,.int .i64 0,v7_0,v7_1,.string ByteArray.empty,.string ByteArray.empty,.string ByteArray.empty,.slice none 0 0,.int .i64 0,.int .i64 0]) w):=(by intro v0 v1 v7_0 v7_1 hv0 hv1;exact op_build (places := #[(0,1),(1,1),(2,1),(3,1),(4,1),(5,1),(6,1),(7,2),(9,1),(10,1),(11,1),(12,1),(13,1),(14,1)]) Tryz.underlying52 ty52 (by intro w;simp [List.mapM_cons,Sem.run_bind,Sw.run_sizeOf ty3,Sw.run_sizeOf ty4,Sw.run_sizeOf ty46,Sw.run_sizeOf ty49,Sw.run_sizeOf ty50,Sw.run_sizeOf ty9]) (by simp [Instr.fill,cells_agg,cells_one hv0,cells_one hv1]))
theorem o115:(∀ v0 v1 v8:Value,v0.oneCell'=true→v1.oneCell'=true→v8.oneCell'=true→opV Pg (Instr.build 52 #[(0,v0),(1,v1),(8,v8)]) QP w k=k (.agg #[v0,v1,.int .i64 0,.bool false,.bool false,.int .i64 0,.int .i64 0,.int .i64 0,.slice none 0 0,v8,.string ByteArray.empty,.string ByteArray.empty,.slice none 0 0,.int .i64 0,.int .i64 0]) w):=(by intro v0 v1 v8 hv0 hv1 hv8;exact op_build (places := #[(0,1),(1,1),(2,1),(3,1),(4,1),(5,1),(6,1),(7,2),(9,1),(10,1),(11,1),(12,1),(13,1),(14,1)]) Tryz.underlying52 ty52 (by intro w;simp [List.mapM_cons,Sem.run_bind,Sw.run_sizeOf ty3,Sw.run_sizeOf ty4,Sw.run_sizeOf ty46,Sw.run_sizeOf ty49,Sw.run_sizeOf ty50,Sw.run_sizeOf ty9]) (by simp [Instr.fill,cells_agg,cells_one hv0,cells_one hv1,cells_one hv8]))
theorem o116:(∀ v1:Value,v1.oneCell'=true→opV Pg (Instr.build 52 #[(1,v1)]) QP w k=k (.agg #[.string ByteArray.empty,v1,.int .i64 0,.bool false,.bool false,.int .i64 0,.int .i64 0,.int .i64 0,.slice none 0 0,.string ByteArray.empty,.string ByteArray.empty,.string ByteArray.empty,.slice none 0 0,.int .i64 0,.int .i64 0]) w):=(by intro v1 hv1;exact op_build (places := #[(0,1),(1,1),(2,1),(3,1),(4,1),(5,1),(6,1),(7,2),(9,1),(10,1),(11,1),(12,1),(13,1),(14,1)]) Tryz.underlying52 ty52 (by intro w;simp [List.mapM_cons,Sem.run_bind,Sw.run_sizeOf ty3,Sw.run_sizeOf ty4,Sw.run_sizeOf ty46,Sw.run_sizeOf ty49,Sw.run_sizeOf ty50,Sw.run_sizeOf ty9]) (by simp [Instr.fill,cells_agg,cells_one hv1]))
theorem o117:(opV Pg (Instr.build 58 #[]) QP w k=k (.agg #[.int .i64 0,.int .i64 0]) w):=(by exact op_build (places := #[(0,1),(1,1)]) Tryz.underlying58 ty58 (by intro w;simp [List.mapM_cons,Sem.run_bind,Sw.run_sizeOf ty3]) (by simp [Instr.fill,cells_agg]))
theorem o118:(∀ v0 v1:Value,v0.oneCell'=true→v1.oneCell'=true→opV Pg (Instr.build 58 #[(0,v0),(1,v1)]) QP w k=k (.agg #[v0,v1]) w):=(by intro v0 v1 hv0 hv1;exact op_build (places := #[(0,1),(1,1)]) Tryz.underlying58 ty58 (by intro w;simp [List.mapM_cons,Sem.run_bind,Sw.run_sizeOf ty3]) (by simp [Instr.fill,cells_agg,cells_one hv0,cells_one hv1]))
theorem o119:(∀ v1:Value,v1.oneCell'=true→opV Pg (Instr.build 58 #[(1,v1)]) QP w k=k (.agg #[.int .i64 0,v1]) w):=(by intro v1 hv1;exact op_build (places := #[(0,1),(1,1)]) Tryz.underlying58 ty58 (by intro w;simp [List.mapM_cons,Sem.run_bind,Sw.run_sizeOf ty3]) (by simp [Instr.fill,cells_agg,cells_one hv1]))
theorem o120:(∀ v0_0 v0_1 v0_2 v1 v2 v3 v4:Value,v1.oneCell'=true→v2.oneCell'=true→v3.oneCell'=true→v4.oneCell'=true→opV Pg (Instr.build 65 #[(0,(.agg #[v0_0,v0_1,v0_2])),(1,v1),(2,v2),(3,v3),(4,v4)]) QP w k=k (.agg #[v0_0,v0_1,v0_2,v1,v2,v3,v4,.string ByteArray.empty,.slice none 0 0]) w):=(by intro v0_0 v0_1 v0_2 v1 v2 v3 v4 hv1 hv2 hv3 hv4;exact op_build (places := #[(0,3),(3,1),(4,1),(5,1),(6,1),(7,2)]) Tryz.underlying65 ty65 (by intro w;simp [List.mapM_cons,Sem.run_bind,Sw.run_sizeOf ty24,Sw.run_sizeOf ty3,Sw.run_sizeOf ty45,Sw.run_sizeOf ty62,Sw.run_sizeOf ty63]) (by simp [Instr.fill,cells_agg,cells_one hv1,cells_one hv2,cells_one hv3,cells_one hv4]))
theorem o121:(∀ v0 v1:Value,v0.oneCell'=true→v1.oneCell'=true→opV Pg (Instr.build 78 #[(0,v0),(1,v1)]) QP w k=k (.agg #[v0,v1]) w):=(by intro v0 v1 hv0 hv1;exact op_build (places := #[(0,1),(1,1)]) Tryz.underlying78 ty78 (by intro w;simp [List.mapM_cons,Sem.run_bind,Sw.run_sizeOf ty3,Sw.run_sizeOf ty9]) (by simp [Instr.fill,cells_agg,cells_one hv0,cells_one hv1]))
theorem o122:(∀ v0 v1:Value,v0.oneCell'=true→v1.oneCell'=true→opV Pg (Instr.build 121 #[(0,v0),(1,v1)]) QP w k=k (.agg #[v0,v1]) w):=(by intro v0 v1 hv0 hv1;exact op_build (places := #[(0,1),(1,1)]) Tryz.underlying121 ty121 (by intro w;simp [List.mapM_cons,Sem.run_bind,Sw.run_sizeOf ty118,Sw.run_sizeOf ty119]) (by simp [Instr.fill,cells_agg,cells_one hv0,cells_one hv1]))
theorem o123:(∀ v0 v1 v2:Value,v0.oneCell'=true→v1.oneCell'=true→v2.oneCell'=true→opV Pg (Instr.build 129 #[(0,v0),(1,v1),(2,v2)]) QP w k=k (.agg #[v0,v1,v2]) w):=(by intro v0 v1 v2 hv0 hv1 hv2;exact op_build (places := #[(0,1),(1,1),(2,1)]) Tryz.underlying129 ty129 (by intro w;simp [List.mapM_cons,Sem.run_bind,Sw.run_sizeOf ty3,Sw.run_sizeOf ty9]) (by simp [Instr.fill,cells_agg,cells_one hv0,cells_one hv1,cells_one hv2]))
theorem o124:(∀ v0 v1 v2 v3 v4 v5 v6 v7 v8 v9 v10 v11 v12:Value,v0.oneCell'=true→v1.oneCell'=true→v2.oneCell'=true→v3.oneCell'=true→v4.oneCell'=true→v5.oneCell'=true→v6.oneCell'=true→v7.oneCell'=true→v8.oneCell'=true→v9.oneCell'=true→v10.oneCell'=true→v11.oneCell'=true→v12.oneCell'=true→opV Pg (Instr.build 137 #[(0,v0),(1,v1),(2,v2),(3,v3),(4,v4),(5,v5),(6,v6),(7,v7),(8,v8),(9,v9),(10,v10),(11,v11),(12,v12)]) QP w k=k (.agg #[v0,v1,v2,v3,v4,v5,v6,v7,v8,v9,v10,v11,v12]) w):=(by intro v0 v1 v2 v3 v4 v5 v6 v7 v8 v9 v10 v11 v12 hv0 hv1 hv2 hv3 hv4 hv5 hv6 hv7 hv8 hv9 hv10 hv11 hv12;exact op_build (places := #[(0,1),(1,1),(2,1),(3,1),(4,1),(5,1),(6,1),(7,1),(8,1),(9,1),(10,1),(11,1),(12,1)]) Tryz.underlying137 ty137 (by intro w;simp [List.mapM_cons,Sem.run_bind,Sw.run_sizeOf ty3,Sw.run_sizeOf ty4,Sw.run_sizeOf ty46,Sw.run_sizeOf ty9]) (by simp [Instr.fill,cells_agg,cells_one hv0,cells_one hv1,cells_one hv2,cells_one hv3,cells_one hv4,cells_one hv5,cells_one hv6,cells_one hv7,cells_one hv8,cells_one hv9,cells_one hv10,cells_one hv11,cells_one hv12]))
theorem o125:(opV Pg (Instr.buildSlice 22 0 #[]) QP w k=k (.slice (some ⟨w.heap.size,0,none⟩) 0 0) (w.alloc (.cells #[] 45))):=(by exact op_buildSlice Tryz.underlying22 ty45 (by decide) (base := #[]) (by kernel_rfl) (by simp [Instr.fill,cells_agg]))
theorem o126:(∀ v0_0 v0_1:Value,opV Pg (Instr.buildSlice 22 1 #[(0,(.agg #[v0_0,v0_1]))]) QP w k=k (.slice (some ⟨w.heap.size,0,none⟩) 1 1) (w.alloc (.cells #[v0_0,v0_1] 45))):=(by intro v0_0 v0_1;exact op_buildSlice Tryz.underlying22 ty45 (by decide) (base := #[.string ByteArray.empty,.slice none 0 0]) (by kernel_rfl) (by simp [Instr.fill,cells_agg]))
theorem o127:(∀ v0:Value,v0.oneCell'=true→opV Pg (Instr.buildSlice 33 1 #[(0,v0)]) QP w k=k (.slice (some ⟨w.heap.size,0,none⟩) 1 1) (w.alloc (.cells #[v0] 4))):=(by intro v0 hv0;exact op_buildSlice Tryz.underlying33 ty4 (by decide) (base := #[.bool false]) (by kernel_rfl) (by simp [Instr.fill,cells_agg,cells_one hv0]))
theorem o128:(∀ v0 v1:Value,v0.oneCell'=true→v1.oneCell'=true→opV Pg (Instr.buildSlice 33 2 #[(0,v0),(1,v1)]) QP w k=k (.slice (some ⟨w.heap.size,0,none⟩) 2 2) (w.alloc (.cells #[v0,v1] 4))):=(by intro v0 v1 hv0 hv1;exact op_buildSlice Tryz.underlying33 ty4 (by decide) (base := #[.bool false,.bool false]) (by kernel_rfl) (by simp [Instr.fill,cells_agg,cells_one hv0,cells_one hv1]))
theorem o129:(∀ v0 v1 v2:Value,v0.oneCell'=true→v1.oneCell'=true→v2.oneCell'=true→opV Pg (Instr.buildSlice 33 3 #[(0,v0),(1,v1),(2,v2)]) QP w k=k (.slice (some ⟨w.heap.size,0,none⟩) 3 3) (w.alloc (.cells #[v0,v1,v2] 4))):=(by intro v0 v1 v2 hv0 hv1 hv2;exact op_buildSlice Tryz.underlying33 ty4 (by decide) (base := #[.bool false,.bool false,.bool false]) (by kernel_rfl) (by simp [Instr.fill,cells_agg,cells_one hv0,cells_one hv1,cells_one hv2]))
theorem o130:(opV Pg (Instr.buildSlice 43 0 #[]) QP w k=k (.slice (some ⟨w.heap.size,0,none⟩) 0 0) (w.alloc (.cells #[] 52))):=(by exact op_buildSlice Tryz.underlying43 ty52 (by decide) (base := #[]) (by kernel_rfl) (by simp [Instr.fill,cells_agg]))
theorem o131:(∀ v0_0 v0_1 v0_2 v0_3 v0_4 v0_5 v0_6 v0_7 v0_8 v0_9 v0_10 v0_11 v0_12 v0_13 v0_14:Value,opV Pg (Instr.buildSlice 43 1 #[(0,(.agg #[v0_0,v0_1,v0_2,v0_3,v0_4,v0_5,v0_6,v0_7,v0_8,v0_9,v0_10,v0_11,v0_12,v0_13,v0_14]))]) QP w k=k (.slice (some ⟨w.heap.size,0,none⟩) 1 1) (w.alloc (.cells #[v0_0,v0_1,v0_2,v0_3,v0_4,v0_5,v0_6,v0_7,v0_8,v0_9,v0_10,v0_11,v0_12,v0_13,v0_14] 52))):=(by intro v0_0 v0_1 v0_2 v0_3 v0_4 v0_5 v0_6 v0_7 v0_8 v0_9 v0_10 v0_11 v0_12 v0_13 v0_14;exact op_buildSlice Tryz.underlying43 ty52 (by decide) (base := #[.string ByteArray.empty,.int .i64 0,.int .i64 0,.bool false,.bool false,.int .i64 0,.int .i64 0,.int .i64 0,.slice none 0 0,.string ByteArray.empty,.string ByteArray.empty,.string ByteArray.empty,.slice none 0 0,.int .i64 0,.int .i64 0]) (by kernel_rfl) (by simp [Instr.fill,cells_agg]))
theorem o132:(∀ v0_0 v0_1 v0_2 v0_3 v0_4 v0_5 v0_6 v0_7 v0_8 v0_9 v0_10 v0_11 v0_12 v0_13 v0_14 v1_0 v1_1 v1_2 v1_3 v1_4 v1_5 v1_6 v1_7 v1_8 v1_9 v1_10 v1_11 v1_12 v1_13 v1_14:Value,opV Pg (Instr.buildSlice 43 2 #[(0,(.agg #[v0_0,v0_1,v0_2,v0_3,v0_4,v0_5,v0_6,v0_7,v0_8,v0_9,v0_10,v0_11,v0_12,v0_13,v0_14])),(1,(.agg #[v1_0,v1_1,v1_2,v1_3,v1_4,v1_5,v1_6,v1_7,v1_8,v1_9,v1_10,v1_11,v1_12,v1_13,v1_14]))]) QP w k=k (.slice (some ⟨w.heap.size,0,none⟩) 2 2) (w.alloc (.cells #[v0_0,v0_1,v0_2,v0_3,v0_4,v0_5,v0_6,v0_7,v0_8,v0_9,v0_10,v0_11,v0_12,v0_13,v0_14,v1_0,v1_1,v1_2,v1_3,v1_4,v1_5,v1_6,v1_7,v1_8,v1_9,v1_10,v1_11,v1_12,v1_13,v1_14] 52))):=(by intro v0_0 v0_1 v0_2 v0_3 v0_4 v0_5 v0_6 v0_7 v0_8 v0_9 v0_10 v0_11 v0_12 v0_13 v0_14 v1_0 v1_1 v1_2 v1_3 v1_4 v1_5 v1_6 v1_7 v1_8 v1_9 v1_10 v1_11 v1_12 v1_13 v1_14;exact op_buildSlice Tryz.underlying43 ty52 (by decide) (base := #[.string ByteArray.empty,.int .i64 0,.int .i64 0,.bool false,.bool false,.int .i64 0,.int .i64 0,.int .i64 0,.slice none 0 0,.string ByteArray.empty,.string ByteArray.empty,.string ByteArray.empty,.slice none 0 0,.int .i64 0,.int .i64 0,.string ByteArray.empty,.int .i64 0,.int .i64 0,.bool false,.bool false,.int .i64 0,.int .i64 0,.int .i64 0,.slice none 0 0,.string ByteArray.empty,.string ByteArray.empty,.string ByteArray.empty,.slice none 0 0,.int .i64 0,.int .i64 0]) (by kernel_rfl) (by simp [Instr.fill,cells_agg]))
theorem o133:(opV Pg (Instr.buildSlice 47 0 #[]) QP w k=k (.slice (some ⟨w.heap.size,0,none⟩) 0 0) (w.alloc (.cells #[] 78))):=(by exact op_buildSlice Tryz.underlying47 ty78 (by decide) (base := #[]) (by kernel_rfl) (by simp [Instr.fill,cells_agg]))
theorem o134:(∀ v0_0 v0_1:Value,opV Pg (Instr.buildSlice 47 1 #[(0,(.agg #[v0_0,v0_1]))]) QP w k=k (.slice (some ⟨w.heap.size,0,none⟩) 1 1) (w.alloc (.cells #[v0_0,v0_1] 78))):=(by intro v0_0 v0_1;exact op_buildSlice Tryz.underlying47 ty78 (by decide) (base := #[.string ByteArray.empty,.int .i64 0]) (by kernel_rfl) (by simp [Instr.fill,cells_agg]))
theorem o135:(opV Pg (Instr.buildSlice 50 0 #[]) QP w k=k (.slice (some ⟨w.heap.size,0,none⟩) 0 0) (w.alloc (.cells #[] 81))):=(by exact op_buildSlice Tryz.underlying50 ty81 (by decide) (base := #[]) (by kernel_rfl) (by simp [Instr.fill,cells_agg]))
theorem o136:(∀ v0:Value,v0.oneCell'=true→opV Pg (Instr.buildSlice 69 1 #[(0,v0)]) QP w k=k (.slice (some ⟨w.heap.size,0,none⟩) 1 1) (w.alloc (.cells #[v0] 9))):=(by intro v0 hv0;exact op_buildSlice Tryz.underlying69 ty9 (by decide) (base := #[.string ByteArray.empty]) (by kernel_rfl) (by simp [Instr.fill,cells_agg,cells_one hv0]))
theorem o137:(∀ v0 v1 v2 v3 v4 v5 v6 v7 v8 v9 v10 v11 v12:Value,v0.oneCell'=true→v1.oneCell'=true→v2.oneCell'=true→v3.oneCell'=true→v4.oneCell'=true→v5.oneCell'=true→v6.oneCell'=true→v7.oneCell'=true→v8.oneCell'=true→v9.oneCell'=true→v10.oneCell'=true→v11.oneCell'=true→v12.oneCell'=true→opV Pg (Instr.buildSlice 69 13 #[(0,v0),(1,v1),(2,v2),(3,v3),(4,v4),(5,v5),(6,v6),(7,v7),(8,v8),(9,v9),(10,v10),(11,v11),(12,v12)]) QP w k=k (.slice (some ⟨w.heap.size,0,none⟩) 13 13) (w.alloc (.cells #[v0,v1,v2,v3,v4,v5,v6,v7,v8,v9,v10,v11,v12] 9))):=(by intro v0 v1 v2 v3 v4 v5 v6 v7 v8 v9 v10 v11 v12 hv0 hv1 hv2 hv3 hv4 hv5 hv6 hv7 hv8 hv9 hv10 hv11 hv12;exact op_buildSlice Tryz.underlying69 ty9 (by decide) (base := #[.string ByteArray.empty,.string ByteArray.empty,.string ByteArray.empty,.string ByteArray.empty,.string ByteArray.empty,.string ByteArray.empty,.string ByteArray.empty,.string ByteArray.empty,.string ByteArray.empty,.string ByteArray.empty,.string ByteArray.empty,.string ByteArray.empty,.string ByteArray.empty]) (by kernel_rfl) (by simp [Instr.fill,cells_agg,cells_one hv0,cells_one hv1,cells_one hv2,cells_one hv3,cells_one hv4,cells_one hv5,cells_one hv6,cells_one hv7,cells_one hv8,cells_one hv9,cells_one hv10,cells_one hv11,cells_one hv12]))
theorem o138:(∀ v0:Value,v0.oneCell'=true→opV Pg (Instr.buildSlice 85 1 #[(0,v0)]) QP w k=k (.slice (some ⟨w.heap.size,0,none⟩) 1 1) (w.alloc (.cells #[v0] 3))):=(by intro v0 hv0;exact op_buildSlice Tryz.underlying85 ty3 (by decide) (base := #[.int .i64 0]) (by kernel_rfl) (by simp [Instr.fill,cells_agg,cells_one hv0]))
theorem o139:(∀ v0 v1:Value,v0.oneCell'=true→v1.oneCell'=true→opV Pg (Instr.buildSlice 85 2 #[(0,v0),(1,v1)]) QP w k=k (.slice (some ⟨w.heap.size,0,none⟩) 2 2) (w.alloc (.cells #[v0,v1] 3))):=(by intro v0 v1 hv0 hv1;exact op_buildSlice Tryz.underlying85 ty3 (by decide) (base := #[.int .i64 0,.int .i64 0]) (by kernel_rfl) (by simp [Instr.fill,cells_agg,cells_one hv0,cells_one hv1]))
theorem o140:(∀ v0_0 v0_1 v0_2:Value,opV Pg (Instr.buildSlice 127 1 #[(0,(.agg #[v0_0,v0_1,v0_2]))]) QP w k=k (.slice (some ⟨w.heap.size,0,none⟩) 1 1) (w.alloc (.cells #[v0_0,v0_1,v0_2] 129))):=(by intro v0_0 v0_1 v0_2;exact op_buildSlice Tryz.underlying127 ty129 (by decide) (base := #[.string ByteArray.empty,.int .i64 0,.int .i64 0]) (by kernel_rfl) (by simp [Instr.fill,cells_agg]))
theorem o141:(∀ v,opV Pg (Instr.makeInterface 39 v) QP w k=k (.iface 39 v) w):=(op_iface Tryz.underlying39 rfl)
theorem o145:(∀ c A n m,opV Pg (binS .eql 22 c (.slice A n m) (.slice none 0 0)) QP w k=k (.bool A.isNone) w):=(op_eqNilS Tryz.underlying22)
theorem o146:(∀ c (a0 b0:Int) (a1 b1:Int) (a2 b2:Int),opV Pg (binS .eql 39 c (.agg #[.int .i64 a0,.int .i64 a1,.int .i64 a2]) (.agg #[.int .i64 b0,.int .i64 b1,.int .i64 b2])) QP w k=k (.bool (decide (a0=b0)&&(decide (a1=b1)&&(decide (a2=b2)&&true)))) w):=(by intro c a0 b0 a1 b1 a2 b2;exact op_aggEq (by kernel_rfl) (fun w=>eq39 a0 b0 a1 b1 a2 b2) c)
theorem o148:(∀ c A n m,opV Pg (binS .eql 43 c (.slice A n m) (.slice none 0 0)) QP w k=k (.bool A.isNone) w):=(op_eqNilS Tryz.underlying43)
theorem o149:(∀ c A n m,opV Pg (binS .eql 47 c (.slice A n m) (.slice none 0 0)) QP w k=k (.bool A.isNone) w):=(op_eqNilS Tryz.underlying47)
theorem o150:(∀ c A n m,opV Pg (binS .eql 50 c (.slice A n m) (.slice none 0 0)) QP w k=k (.bool A.isNone) w):=(op_eqNilS Tryz.underlying50)
theorem o151:(∀ c (a0 b0:Int) (a1 b1:Int),opV Pg (binS .eql 58 c (.agg #[.int .i64 a0,.int .i64 a1]) (.agg #[.int .i64 b0,.int .i64 b1])) QP w k=k (.bool (decide (a0=b0)&&(decide (a1=b1)&&true))) w):=(by intro c a0 b0 a1 b1;exact op_aggEq (by kernel_rfl) (fun w=>eq58 a0 b0 a1 b1) c)
theorem o154:(∀ c (a0 b0:ByteArray) (a1 b1:Int),opV Pg (binS .neq 78 c (.agg #[.string a0,.int .i64 a1]) (.agg #[.string b0,.int .i64 b1])) QP w k=k (.bool (!(decide (a0=b0)&&(decide (a1=b1)&&true)))) w):=(by intro c a0 b0 a1 b1;exact op_aggNe (by kernel_rfl) (fun w=>eq78 a0 b0 a1 b1) c)
theorem o156:(∀ c (a0 b0:Int) (a1 b1:Int) (a2 b2:ByteArray),opV Pg (binS .neq 81 c (.agg #[.int .i64 a0,.int .i64 a1,.string a2]) (.agg #[.int .i64 b0,.int .i64 b1,.string b2])) QP w k=k (.bool (!(decide (a0=b0)&&(decide (a1=b1)&&(decide (a2=b2)&&true))))) w):=(by intro c a0 b0 a1 b1 a2 b2;exact op_aggNe (by kernel_rfl) (fun w=>eq81 a0 b0 a1 b1 a2 b2) c)
theorem o157:(∀ c (a0 b0:ByteArray) (a1 b1:ByteArray) (a2 b2:ByteArray) (a3 b3:ByteArray) (a4 b4:Int) (a5 b5:Int) (a6 b6:Int) (a7 b7:Int) (a8 b8:Int) (a9 b9:Int) (a10 b10:Int) (a11 b11:Bool) (a12 b12:Bool),opV Pg (binS .eql 137 c (.agg #[.string a0,.string a1,.string a2,.string a3,.int .i64 a4,.int .i64 a5,.int .i64 a6,.int .i64 a7,.int .i64 a8,.int .i64 a9,.int .i64 a10,.bool a11,.bool a12]) (.agg #[.string b0,.string b1,.string b2,.string b3,.int .i64 b4,.int .i64 b5,.int .i64 b6,.int .i64 b7,.int .i64 b8,.int .i64 b9,.int .i64 b10,.bool b11,.bool b12])) QP w k=k (.bool (decide (a0=b0)&&(decide (a1=b1)&&(decide (a2=b2)&&(decide (a3=b3)&&(decide (a4=b4)&&(decide (a5=b5)&&(decide (a6=b6)&&(decide (a7=b7)&&(decide (a8=b8)&&(decide (a9=b9)&&(decide (a10=b10)&&(decide (a11=b11)&&(decide (a12=b12)&&true)))))))))))))) w):=(by intro c a0 b0 a1 b1 a2 b2 a3 b3 a4 b4 a5 b5 a6 b6 a7 b7 a8 b8 a9 b9 a10 b10 a11 b11 a12 b12;exact op_aggEq (by kernel_rfl) (fun w=>eq137 a0 b0 a1 b1 a2 b2 a3 b3 a4 b4 a5 b5 a6 b6 a7 b7 a8 b8 a9 b9 a10 b10 a11 b11 a12 b12) c)
end
theorem qV_two {P:Program} {C:World→Prop} [ClassNe C] {k:Value→Prop} {s:Nat→Nat→Sem Value} {v:Nat→Nat→Value} (h:∀ QP w k b o,opV P (s b o) QP w k=k (v b o) w) (b o:Nat):qV P C (s b o) k=k (v b o):=qV_of fun QP w k=>h QP w k b o
def OPU0 {QP:List PanicEntry→World→Prop} {w:World} {ku:World→Prop}:=And.intro (op_storeC (QP:=QP) (w:=w) (ku:=ku) ty3)<|And.intro (op_storeC (QP:=QP) (w:=w) (ku:=ku) ty4)<|And.intro (op_storeC (QP:=QP) (w:=w) (ku:=ku) ty9)<|And.intro (op_storeC (QP:=QP) (w:=w) (ku:=ku) ty22)<|And.intro (op_storeC (QP:=QP) (w:=w) (ku:=ku) ty27)<|And.intro (op_storeC (QP:=QP) (w:=w) (ku:=ku) ty43)<|And.intro (op_storeC (QP:=QP) (w:=w) (ku:=ku) ty47)<|And.intro (op_storeC (QP:=QP) (w:=w) (ku:=ku) ty50)<|And.intro ((by intro b T' u0 u1 u2 u3 u4 u5 u6 u7 u8 u9 u10 u11 u12 u13 u14 v0 v1 v2 v3 v4 v5 v6 v7 v8 v9 v10 v11 v12 v13 v14 hb h0 h1 h2 h3 h4 h5 h6 h7 h8 h9 h10 h11 h12 h13 h14;exact op_storeN ty52 b hb _ T' _ rfl rfl (by intro v hv;simp only [List.mem_cons,List.not_mem_nil,or_false] at hv;rcases hv with rfl | rfl | rfl | rfl | rfl | rfl | rfl | rfl | rfl | rfl | rfl | rfl | rfl | rfl | rfl<;>assumption)):(∀ (b:Nat) (T':TypeId) u0 u1 u2 u3 u4 u5 u6 u7 u8 u9 u10 u11 u12 u13 u14 v0 v1 v2 v3 v4 v5 v6 v7 v8 v9 v10 v11 v12 v13 v14,b=w.heap.size→v0.oneCell'=true→v1.oneCell'=true→v2.oneCell'=true→v3.oneCell'=true→v4.oneCell'=true→v5.oneCell'=true→v6.oneCell'=true→v7.oneCell'=true→v8.oneCell'=true→v9.oneCell'=true→v10.oneCell'=true→v11.oneCell'=true→v12.oneCell'=true→v13.oneCell'=true→v14.oneCell'=true→opU Pg (Instr.storeAt 52 (.pointer (some ⟨b,0,none⟩)) (.agg #[v0,v1,v2,v3,v4,v5,v6,v7,v8,v9,v10,v11,v12,v13,v14])) QP (w.alloc (.cells #[u0,u1,u2,u3,u4,u5,u6,u7,u8,u9,u10,u11,u12,u13,u14] T')) ku=ku (w.alloc (.cells #[v0,v1,v2,v3,v4,v5,v6,v7,v8,v9,v10,v11,v12,v13,v14] T'))))<|And.intro (op_storeC (QP:=QP) (w:=w) (ku:=ku) ty55)<|And.intro (op_storeC (QP:=QP) (w:=w) (ku:=ku) ty63)<|((by intro b T' u0 u1 u2 u3 u4 u5 u6 u7 u8 u9 u10 u11 u12 v0 v1 v2 v3 v4 v5 v6 v7 v8 v9 v10 v11 v12 hb h0 h1 h2 h3 h4 h5 h6 h7 h8 h9 h10 h11 h12;exact op_storeN ty137 b hb _ T' _ rfl rfl (by intro v hv;simp only [List.mem_cons,List.not_mem_nil,or_false] at hv;rcases hv with rfl | rfl | rfl | rfl | rfl | rfl | rfl | rfl | rfl | rfl | rfl | rfl | rfl<;>assumption)):(∀ (b:Nat) (T':TypeId) u0 u1 u2 u3 u4 u5 u6 u7 u8 u9 u10 u11 u12 v0 v1 v2 v3 v4 v5 v6 v7 v8 v9 v10 v11 v12,b=w.heap.size→v0.oneCell'=true→v1.oneCell'=true→v2.oneCell'=true→v3.oneCell'=true→v4.oneCell'=true→v5.oneCell'=true→v6.oneCell'=true→v7.oneCell'=true→v8.oneCell'=true→v9.oneCell'=true→v10.oneCell'=true→v11.oneCell'=true→v12.oneCell'=true→opU Pg (Instr.storeAt 137 (.pointer (some ⟨b,0,none⟩)) (.agg #[v0,v1,v2,v3,v4,v5,v6,v7,v8,v9,v10,v11,v12])) QP (w.alloc (.cells #[u0,u1,u2,u3,u4,u5,u6,u7,u8,u9,u10,u11,u12] T')) ku=ku (w.alloc (.cells #[v0,v1,v2,v3,v4,v5,v6,v7,v8,v9,v10,v11,v12] T'))))
def OPA0 {QP:List PanicEntry→World→Prop} {w:World} {ku:World→Prop}:=And.intro ((by intro b o v0 v1 v2 h0 h1 h2;exact op_storeA ty24 b o _ rfl (by intro v hv;simp only [List.mem_cons,List.not_mem_nil,or_false] at hv;rcases hv with rfl | rfl | rfl<;>assumption) _ rfl _ rfl):(∀ b o v0 v1 v2,v0.oneCell'=true→v1.oneCell'=true→v2.oneCell'=true→opU Pg (Instr.storeAt 24 (.pointer (some ⟨b,o,none⟩)) (.agg #[v0,v1,v2])) QP w ku=onCells [w.cell? ⟨b,o,none⟩,w.cell? ⟨b,o+1,none⟩,w.cell? ⟨b,o+2,none⟩] (fun _=>onFree [w.frozen? ⟨b,o,none⟩,w.frozen? ⟨b,o+1,none⟩,w.frozen? ⟨b,o+2,none⟩] (ku (((w.setCell ⟨b,o,none⟩ v0).setCell ⟨b,o+1,none⟩ v1).setCell ⟨b,o+2,none⟩ v2)) (opUx Pg (Instr.storeAt 24 (.pointer (some ⟨b,o,none⟩)) (.agg #[v0,v1,v2])) QP w ku)) (opUx Pg (Instr.storeAt 24 (.pointer (some ⟨b,o,none⟩)) (.agg #[v0,v1,v2])) QP w ku)))<|And.intro ((by intro b o v0 v1 v2 h0 h1 h2;exact op_storeA ty39 b o _ rfl (by intro v hv;simp only [List.mem_cons,List.not_mem_nil,or_false] at hv;rcases hv with rfl | rfl | rfl<;>assumption) _ rfl _ rfl):(∀ b o v0 v1 v2,v0.oneCell'=true→v1.oneCell'=true→v2.oneCell'=true→opU Pg (Instr.storeAt 39 (.pointer (some ⟨b,o,none⟩)) (.agg #[v0,v1,v2])) QP w ku=onCells [w.cell? ⟨b,o,none⟩,w.cell? ⟨b,o+1,none⟩,w.cell? ⟨b,o+2,none⟩] (fun _=>onFree [w.frozen? ⟨b,o,none⟩,w.frozen? ⟨b,o+1,none⟩,w.frozen? ⟨b,o+2,none⟩] (ku (((w.setCell ⟨b,o,none⟩ v0).setCell ⟨b,o+1,none⟩ v1).setCell ⟨b,o+2,none⟩ v2)) (opUx Pg (Instr.storeAt 39 (.pointer (some ⟨b,o,none⟩)) (.agg #[v0,v1,v2])) QP w ku)) (opUx Pg (Instr.storeAt 39 (.pointer (some ⟨b,o,none⟩)) (.agg #[v0,v1,v2])) QP w ku)))<|And.intro ((by intro b o v0 v1 h0 h1;exact op_storeA ty45 b o _ rfl (by intro v hv;simp only [List.mem_cons,List.not_mem_nil,or_false] at hv;rcases hv with rfl | rfl<;>assumption) _ rfl _ rfl):(∀ b o v0 v1,v0.oneCell'=true→v1.oneCell'=true→opU Pg (Instr.storeAt 45 (.pointer (some ⟨b,o,none⟩)) (.agg #[v0,v1])) QP w ku=onCells [w.cell? ⟨b,o,none⟩,w.cell? ⟨b,o+1,none⟩] (fun _=>onFree [w.frozen? ⟨b,o,none⟩,w.frozen? ⟨b,o+1,none⟩] (ku ((w.setCell ⟨b,o,none⟩ v0).setCell ⟨b,o+1,none⟩ v1)) (opUx Pg (Instr.storeAt 45 (.pointer (some ⟨b,o,none⟩)) (.agg #[v0,v1])) QP w ku)) (opUx Pg (Instr.storeAt 45 (.pointer (some ⟨b,o,none⟩)) (.agg #[v0,v1])) QP w ku)))<|And.intro ((by intro b o v0 v1 h0 h1;exact op_storeA ty49 b o _ rfl (by intro v hv;simp only [List.mem_cons,List.not_mem_nil,or_false] at hv;rcases hv with rfl | rfl<;>assumption) _ rfl _ rfl):(∀ b o v0 v1,v0.oneCell'=true→v1.oneCell'=true→opU Pg (Instr.storeAt 49 (.pointer (some ⟨b,o,none⟩)) (.agg #[v0,v1])) QP w ku=onCells [w.cell? ⟨b,o,none⟩,w.cell? ⟨b,o+1,none⟩] (fun _=>onFree [w.frozen? ⟨b,o,none⟩,w.frozen? ⟨b,o+1,none⟩] (ku ((w.setCell ⟨b,o,none⟩ v0).setCell ⟨b,o+1,none⟩ v1)) (opUx Pg (Instr.storeAt 49 (.pointer (some ⟨b,o,none⟩)) (.agg #[v0,v1])) QP w ku)) (opUx Pg (Instr.storeAt 49 (.pointer (some ⟨b,o,none⟩)) (.agg #[v0,v1])) QP w ku)))<|And.intro ((by intro b o v0 v1 h0 h1;exact op_storeA ty58 b o _ rfl (by intro v hv;simp only [List.mem_cons,List.not_mem_nil,or_false] at hv;rcases hv with rfl | rfl<;>assumption) _ rfl _ rfl):(∀ b o v0 v1,v0.oneCell'=true→v1.oneCell'=true→opU Pg (Instr.storeAt 58 (.pointer (some ⟨b,o,none⟩)) (.agg #[v0,v1])) QP w ku=onCells [w.cell? ⟨b,o,none⟩,w.cell? ⟨b,o+1,none⟩] (fun _=>onFree [w.frozen? ⟨b,o,none⟩,w.frozen? ⟨b,o+1,none⟩] (ku ((w.setCell ⟨b,o,none⟩ v0).setCell ⟨b,o+1,none⟩ v1)) (opUx Pg (Instr.storeAt 58 (.pointer (some ⟨b,o,none⟩)) (.agg #[v0,v1])) QP w ku)) (opUx Pg (Instr.storeAt 58 (.pointer (some ⟨b,o,none⟩)) (.agg #[v0,v1])) QP w ku)))<|And.intro ((by intro b o v0 v1 h0 h1;exact op_storeA ty78 b o _ rfl (by intro v hv;simp only [List.mem_cons,List.not_mem_nil,or_false] at hv;rcases hv with rfl | rfl<;>assumption) _ rfl _ rfl):(∀ b o v0 v1,v0.oneCell'=true→v1.oneCell'=true→opU Pg (Instr.storeAt 78 (.pointer (some ⟨b,o,none⟩)) (.agg #[v0,v1])) QP w ku=onCells [w.cell? ⟨b,o,none⟩,w.cell? ⟨b,o+1,none⟩] (fun _=>onFree [w.frozen? ⟨b,o,none⟩,w.frozen? ⟨b,o+1,none⟩] (ku ((w.setCell ⟨b,o,none⟩ v0).setCell ⟨b,o+1,none⟩ v1)) (opUx Pg (Instr.storeAt 78 (.pointer (some ⟨b,o,none⟩)) (.agg #[v0,v1])) QP w ku)) (opUx Pg (Instr.storeAt 78 (.pointer (some ⟨b,o,none⟩)) (.agg #[v0,v1])) QP w ku)))<|And.intro ((by intro b o v0 v1 v2 h0 h1 h2;exact op_storeA ty81 b o _ rfl (by intro v hv;simp only [List.mem_cons,List.not_mem_nil,or_false] at hv;rcases hv with rfl | rfl | rfl<;>assumption) _ rfl _ rfl):(∀ b o v0 v1 v2,v0.oneCell'=true→v1.oneCell'=true→v2.oneCell'=true→opU Pg (Instr.storeAt 81 (.pointer (some ⟨b,o,none⟩)) (.agg #[v0,v1,v2])) QP w ku=onCells [w.cell? ⟨b,o,none⟩,w.cell? ⟨b,o+1,none⟩,w.cell? ⟨b,o+2,none⟩] (fun _=>onFree [w.frozen? ⟨b,o,none⟩,w.frozen? ⟨b,o+1,none⟩,w.frozen? ⟨b,o+2,none⟩] (ku (((w.setCell ⟨b,o,none⟩ v0).setCell ⟨b,o+1,none⟩ v1).setCell ⟨b,o+2,none⟩ v2)) (opUx Pg (Instr.storeAt 81 (.pointer (some ⟨b,o,none⟩)) (.agg #[v0,v1,v2])) QP w ku)) (opUx Pg (Instr.storeAt 81 (.pointer (some ⟨b,o,none⟩)) (.agg #[v0,v1,v2])) QP w ku)))<|And.intro ((by intro b o v0 v1 h0 h1;exact op_storeA ty121 b o _ rfl (by intro v hv;simp only [List.mem_cons,List.not_mem_nil,or_false] at hv;rcases hv with rfl | rfl<;>assumption) _ rfl _ rfl):(∀ b o v0 v1,v0.oneCell'=true→v1.oneCell'=true→opU Pg (Instr.storeAt 121 (.pointer (some ⟨b,o,none⟩)) (.agg #[v0,v1])) QP w ku=onCells [w.cell? ⟨b,o,none⟩,w.cell? ⟨b,o+1,none⟩] (fun _=>onFree [w.frozen? ⟨b,o,none⟩,w.frozen? ⟨b,o+1,none⟩] (ku ((w.setCell ⟨b,o,none⟩ v0).setCell ⟨b,o+1,none⟩ v1)) (opUx Pg (Instr.storeAt 121 (.pointer (some ⟨b,o,none⟩)) (.agg #[v0,v1])) QP w ku)) (opUx Pg (Instr.storeAt 121 (.pointer (some ⟨b,o,none⟩)) (.agg #[v0,v1])) QP w ku)))<|((by intro b o v0 v1 v2 h0 h1 h2;exact op_storeA ty129 b o _ rfl (by intro v hv;simp only [List.mem_cons,List.not_mem_nil,or_false] at hv;rcases hv with rfl | rfl | rfl<;>assumption) _ rfl _ rfl):(∀ b o v0 v1 v2,v0.oneCell'=true→v1.oneCell'=true→v2.oneCell'=true→opU Pg (Instr.storeAt 129 (.pointer (some ⟨b,o,none⟩)) (.agg #[v0,v1,v2])) QP w ku=onCells [w.cell? ⟨b,o,none⟩,w.cell? ⟨b,o+1,none⟩,w.cell? ⟨b,o+2,none⟩] (fun _=>onFree [w.frozen? ⟨b,o,none⟩,w.frozen? ⟨b,o+1,none⟩,w.frozen? ⟨b,o+2,none⟩] (ku (((w.setCell ⟨b,o,none⟩ v0).setCell ⟨b,o+1,none⟩ v1).setCell ⟨b,o+2,none⟩ v2)) (opUx Pg (Instr.storeAt 129 (.pointer (some ⟨b,o,none⟩)) (.agg #[v0,v1,v2])) QP w ku)) (opUx Pg (Instr.storeAt 129 (.pointer (some ⟨b,o,none⟩)) (.agg #[v0,v1,v2])) QP w ku)))
section
def OPW0 {w:World} {k:Value→Prop}:=And.intro (qV_loadC (w:=w) (k:=k) ty3)<|And.intro (qV_loadKB (w:=w) (k:=k) ty3)<|And.intro (qV_loadC (w:=w) (k:=k) ty4)<|And.intro (qV_loadKB (w:=w) (k:=k) ty4)<|And.intro (qV_loadC (w:=w) (k:=k) ty9)<|And.intro (qV_loadKB (w:=w) (k:=k) ty9)<|And.intro (qV_loadC (w:=w) (k:=k) ty22)<|And.intro (qV_loadKB (w:=w) (k:=k) ty22)<|And.intro ((by intro b o;exact qV_loadA ty24 b o _ rfl):(∀ b o,qV Pg (EC w) (Instr.loadAt 24 (.pointer (some ⟨b,o,none⟩))) k=onCells [w.cell? ⟨b,o,none⟩,w.cell? ⟨b,o+1,none⟩,w.cell? ⟨b,o+2,none⟩] (fun vs=>k (.agg vs.toArray)) (qVx Pg (EC w) (Instr.loadAt 24 (.pointer (some ⟨b,o,none⟩))) k)))<|And.intro (qV_loadC (w:=w) (k:=k) ty43)<|And.intro (qV_loadKB (w:=w) (k:=k) ty43)<|And.intro ((by intro b o;exact qV_loadA ty45 b o _ rfl):(∀ b o,qV Pg (EC w) (Instr.loadAt 45 (.pointer (some ⟨b,o,none⟩))) k=onCells [w.cell? ⟨b,o,none⟩,w.cell? ⟨b,o+1,none⟩] (fun vs=>k (.agg vs.toArray)) (qVx Pg (EC w) (Instr.loadAt 45 (.pointer (some ⟨b,o,none⟩))) k)))<|And.intro (qV_loadC (w:=w) (k:=k) ty46)<|And.intro (qV_loadC (w:=w) (k:=k) ty47)<|And.intro ((by intro b o;exact qV_loadA ty49 b o _ rfl):(∀ b o,qV Pg (EC w) (Instr.loadAt 49 (.pointer (some ⟨b,o,none⟩))) k=onCells [w.cell? ⟨b,o,none⟩,w.cell? ⟨b,o+1,none⟩] (fun vs=>k (.agg vs.toArray)) (qVx Pg (EC w) (Instr.loadAt 49 (.pointer (some ⟨b,o,none⟩))) k)))<|And.intro (qV_loadC (w:=w) (k:=k) ty50)<|And.intro ((by intro b o;exact qV_loadA ty52 b o _ rfl):(∀ b o,qV Pg (EC w) (Instr.loadAt 52 (.pointer (some ⟨b,o,none⟩))) k=onCells [w.cell? ⟨b,o,none⟩,w.cell? ⟨b,o+1,none⟩,w.cell? ⟨b,o+2,none⟩,w.cell? ⟨b,o+3,none⟩,w.cell? ⟨b,o+4,none⟩,w.cell? ⟨b,o+5,none⟩,w.cell? ⟨b,o+6,none⟩,w.cell? ⟨b,o+7,none⟩,w.cell? ⟨b,o+8,none⟩,w.cell? ⟨b,o+9,none⟩,w.cell? ⟨b,o+10,none⟩,w.cell? ⟨b,o+11,none⟩,w.cell? ⟨b,o+12,none⟩,w.cell? ⟨b,o+13,none⟩,w.cell? ⟨b,o+14,none⟩] (fun vs=>k (.agg vs.toArray)) (qVx Pg (EC w) (Instr.loadAt 52 (.pointer (some ⟨b,o,none⟩))) k)))<|And.intro (qV_loadC (w:=w) (k:=k) ty61)<|And.intro (qV_loadKB (w:=w) (k:=k) ty61)<|And.intro (qV_loadC (w:=w) (k:=k) ty62)<|And.intro (qV_loadKB (w:=w) (k:=k) ty62)<|And.intro (qV_loadC (w:=w) (k:=k) ty63)<|And.intro (qV_loadKB (w:=w) (k:=k) ty63)<|And.intro ((by intro b o;exact qV_loadA ty78 b o _ rfl):(∀ b o,qV Pg (EC w) (Instr.loadAt 78 (.pointer (some ⟨b,o,none⟩))) k=onCells [w.cell? ⟨b,o,none⟩,w.cell? ⟨b,o+1,none⟩] (fun vs=>k (.agg vs.toArray)) (qVx Pg (EC w) (Instr.loadAt 78 (.pointer (some ⟨b,o,none⟩))) k)))<|((by intro b o;exact qV_loadA ty81 b o _ rfl):(∀ b o,qV Pg (EC w) (Instr.loadAt 81 (.pointer (some ⟨b,o,none⟩))) k=onCells [w.cell? ⟨b,o,none⟩,w.cell? ⟨b,o+1,none⟩,w.cell? ⟨b,o+2,none⟩] (fun vs=>k (.agg vs.toArray)) (qVx Pg (EC w) (Instr.loadAt 81 (.pointer (some ⟨b,o,none⟩))) k)))
def OPW1 {w:World} {k:Value→Prop}:=And.intro (qW_loadC (w:=w) (k:=k) ty4)<|And.intro ((by intro b o;exact qW_loadA ty24 b o _ rfl):(∀ b o,qW Pg 24 (.pointer (some ⟨b,o,none⟩)) w k=onCells [w.cell? ⟨b,o,none⟩,w.cell? ⟨b,o+1,none⟩,w.cell? ⟨b,o+2,none⟩] (fun vs=>k (.agg vs.toArray)) (qWx Pg 24 (.pointer (some ⟨b,o,none⟩)) w k)))<|And.intro (qW_loadC (w:=w) (k:=k) ty27)<|And.intro ((by intro b o;exact qW_loadA ty39 b o _ rfl):(∀ b o,qW Pg 39 (.pointer (some ⟨b,o,none⟩)) w k=onCells [w.cell? ⟨b,o,none⟩,w.cell? ⟨b,o+1,none⟩,w.cell? ⟨b,o+2,none⟩] (fun vs=>k (.agg vs.toArray)) (qWx Pg 39 (.pointer (some ⟨b,o,none⟩)) w k)))<|And.intro ((by intro b o;exact qW_loadA ty58 b o _ rfl):(∀ b o,qW Pg 58 (.pointer (some ⟨b,o,none⟩)) w k=onCells [w.cell? ⟨b,o,none⟩,w.cell? ⟨b,o+1,none⟩] (fun vs=>k (.agg vs.toArray)) (qWx Pg 58 (.pointer (some ⟨b,o,none⟩)) w k)))<|((by intro b o;exact qW_loadA ty137 b o _ rfl):(∀ b o,qW Pg 137 (.pointer (some ⟨b,o,none⟩)) w k=onCells [w.cell? ⟨b,o,none⟩,w.cell? ⟨b,o+1,none⟩,w.cell? ⟨b,o+2,none⟩,w.cell? ⟨b,o+3,none⟩,w.cell? ⟨b,o+4,none⟩,w.cell? ⟨b,o+5,none⟩,w.cell? ⟨b,o+6,none⟩,w.cell? ⟨b,o+7,none⟩,w.cell? ⟨b,o+8,none⟩,w.cell? ⟨b,o+9,none⟩,w.cell? ⟨b,o+10,none⟩,w.cell? ⟨b,o+11,none⟩,w.cell? ⟨b,o+12,none⟩] (fun vs=>k (.agg vs.toArray)) (qWx Pg 137 (.pointer (some ⟨b,o,none⟩)) w k)))
def OPQ0 {C:World→Prop} [ClassNe C] {k:Value→Prop}:=And.intro ((by intros;apply qV_of;intros;apply o11<;>assumption):(∀ b o len cap ik (i:Nat),i < len→qV Pg C (Instr.indexAt 22 (.slice (some ⟨b,o,none⟩) len cap) (.int ik (i:Int))) k=k (.pointer (some ⟨b,o+i*2,none⟩))))<|And.intro (qV_two (C:=C) (k:=k) fun QP w k => @o13 QP w k)<|And.intro (qV_two (C:=C) (k:=k) fun QP w k => @o14 QP w k)<|And.intro ((by intros;apply qV_of;intros;apply o20<;>assumption):(∀ b o len cap ik (i:Nat),i < len→qV Pg C (Instr.indexAt 33 (.slice (some ⟨b,o,none⟩) len cap) (.int ik (i:Int))) k=k (.pointer (some ⟨b,o+i*1,none⟩))))<|And.intro (qV_two (C:=C) (k:=k) fun QP w k => @o26 QP w k)<|And.intro (qV_two (C:=C) (k:=k) fun QP w k => @o27 QP w k)<|And.intro ((by intros;apply qV_of;intros;apply o32<;>assumption):(∀ r a n c,qV Pg C (Builtin.len_ #[47] r #[.slice a n c]) k=k (.int .i64 (n:Int))))<|And.intro ((by intros;apply qV_of;intros;apply o33<;>assumption):(∀ b o len cap ik (i:Nat),i < len→qV Pg C (Instr.indexAt 47 (.slice (some ⟨b,o,none⟩) len cap) (.int ik (i:Int))) k=k (.pointer (some ⟨b,o+i*2,none⟩))))<|And.intro (qV_two (C:=C) (k:=k) fun QP w k => @o35 QP w k)<|And.intro (qV_two (C:=C) (k:=k) fun QP w k => @o36 QP w k)<|And.intro ((by intros;apply qV_of;intros;apply o41<;>assumption):(∀ b o len cap ik (i:Nat),i < len→qV Pg C (Instr.indexAt 50 (.slice (some ⟨b,o,none⟩) len cap) (.int ik (i:Int))) k=k (.pointer (some ⟨b,o+i*3,none⟩))))<|And.intro (qV_two (C:=C) (k:=k) fun QP w k => @o42 QP w k)<|And.intro (qV_two (C:=C) (k:=k) fun QP w k => @o43 QP w k)<|And.intro (qV_two (C:=C) (k:=k) fun QP w k => @o44 QP w k)<|And.intro (qV_two (C:=C) (k:=k) fun QP w k => @o47 QP w k)<|And.intro (qV_two (C:=C) (k:=k) fun QP w k => @o48 QP w k)<|And.intro (qV_two (C:=C) (k:=k) fun QP w k => @o49 QP w k)<|And.intro (qV_two (C:=C) (k:=k) fun QP w k => @o50 QP w k)<|And.intro (qV_two (C:=C) (k:=k) fun QP w k => @o51 QP w k)<|And.intro (qV_two (C:=C) (k:=k) fun QP w k => @o52 QP w k)<|And.intro (qV_two (C:=C) (k:=k) fun QP w k => @o53 QP w k)<|And.intro (qV_two (C:=C) (k:=k) fun QP w k => @o69 QP w k)<|(qV_two (C:=C) (k:=k) fun QP w k => @o70 QP w k)
def OPQ1 {C:World→Prop} [ClassNe C] {k:Value→Prop}:=And.intro (qV_two (C:=C) (k:=k) fun QP w k => @o71 QP w k)<|And.intro (qV_two (C:=C) (k:=k) fun QP w k => @o72 QP w k)<|And.intro (qV_two (C:=C) (k:=k) fun QP w k => @o73 QP w k)<|And.intro ((by intros;apply qV_of;intros;apply o76<;>assumption):(∀ b o len cap ik (i:Nat),i < len→qV Pg C (Instr.indexAt 69 (.slice (some ⟨b,o,none⟩) len cap) (.int ik (i:Int))) k=k (.pointer (some ⟨b,o+i*1,none⟩))))<|And.intro (qV_two (C:=C) (k:=k) fun QP w k => @o78 QP w k)<|And.intro (qV_two (C:=C) (k:=k) fun QP w k => @o79 QP w k)<|And.intro (qV_two (C:=C) (k:=k) fun QP w k => @o82 QP w k)<|And.intro (qV_two (C:=C) (k:=k) fun QP w k => @o83 QP w k)<|And.intro ((by intros;apply qV_of;intros;apply o88<;>assumption):(∀ b o len cap ik (i:Nat),i < len→qV Pg C (Instr.indexAt 85 (.slice (some ⟨b,o,none⟩) len cap) (.int ik (i:Int))) k=k (.pointer (some ⟨b,o+i*1,none⟩))))<|And.intro ((by intros;apply qV_of;intros;apply o97<;>assumption):(∀ b o len cap ik (i:Nat),i < len→qV Pg C (Instr.indexAt 127 (.slice (some ⟨b,o,none⟩) len cap) (.int ik (i:Int))) k=k (.pointer (some ⟨b,o+i*3,none⟩))))<|And.intro (qV_two (C:=C) (k:=k) fun QP w k => @o99 QP w k)<|And.intro (qV_two (C:=C) (k:=k) fun QP w k => @o100 QP w k)<|And.intro ((by intros;apply qV_of;intros;apply o107<;>assumption):(∀ v0 v1 v2:Value,v0.oneCell'=true→v1.oneCell'=true→v2.oneCell'=true→qV Pg C (Instr.build 39 #[(0,v0),(1,v1),(2,v2)]) k=k (.agg #[v0,v1,v2])))<|And.intro ((by intros;apply qV_of;intros;apply o109<;>assumption):(∀ v1:Value,v1.oneCell'=true→qV Pg C (Instr.build 45 #[(1,v1)]) k=k (.agg #[.string ByteArray.empty,v1])))<|((by intros;apply qV_of;intros;apply o115<;>assumption):(∀ v0 v1 v8:Value,v0.oneCell'=true→v1.oneCell'=true→v8.oneCell'=true→qV Pg C (Instr.build 52 #[(0,v0),(1,v1),(8,v8)]) k=k (.agg #[v0,v1,.int .i64 0,.bool false,.bool false,.int .i64 0,.int .i64 0,.int .i64 0,.slice none 0 0,v8,.string ByteArray.empty,.string ByteArray.empty,.slice none 0 0,.int .i64 0,.int .i64 0])))
def OPQ2 {C:World→Prop} [ClassNe C] {k:Value→Prop}:=And.intro ((by intros;apply qV_of;intros;apply o141<;>assumption):(∀ v,qV Pg C (Instr.makeInterface 39 v) k=k (.iface 39 v)))<|And.intro ((by intros;apply qV_of;intros;apply o154<;>assumption):(∀ c (a0 b0:ByteArray) (a1 b1:Int),qV Pg C (binS .neq 78 c (.agg #[.string a0,.int .i64 a1]) (.agg #[.string b0,.int .i64 b1])) k=k (.bool (!(decide (a0=b0)&&(decide (a1=b1)&&true))))))<|And.intro ((by intros;apply qV_of;intros;apply o156<;>assumption):(∀ c (a0 b0:Int) (a1 b1:Int) (a2 b2:ByteArray),qV Pg C (binS .neq 81 c (.agg #[.int .i64 a0,.int .i64 a1,.string a2]) (.agg #[.int .i64 b0,.int .i64 b1,.string b2])) k=k (.bool (!(decide (a0=b0)&&(decide (a1=b1)&&(decide (a2=b2)&&true)))))))<|((by intros;apply qV_of;intros;apply o157<;>assumption):(∀ c (a0 b0:ByteArray) (a1 b1:ByteArray) (a2 b2:ByteArray) (a3 b3:ByteArray) (a4 b4:Int) (a5 b5:Int) (a6 b6:Int) (a7 b7:Int) (a8 b8:Int) (a9 b9:Int) (a10 b10:Int) (a11 b11:Bool) (a12 b12:Bool),qV Pg C (binS .eql 137 c (.agg #[.string a0,.string a1,.string a2,.string a3,.int .i64 a4,.int .i64 a5,.int .i64 a6,.int .i64 a7,.int .i64 a8,.int .i64 a9,.int .i64 a10,.bool a11,.bool a12]) (.agg #[.string b0,.string b1,.string b2,.string b3,.int .i64 b4,.int .i64 b5,.int .i64 b6,.int .i64 b7,.int .i64 b8,.int .i64 b9,.int .i64 b10,.bool b11,.bool b12])) k=k (.bool (decide (a0=b0)&&(decide (a1=b1)&&(decide (a2=b2)&&(decide (a3=b3)&&(decide (a4=b4)&&(decide (a5=b5)&&(decide (a6=b6)&&(decide (a7=b7)&&(decide (a8=b8)&&(decide (a9=b9)&&(decide (a10=b10)&&(decide (a11=b11)&&(decide (a12=b12)&&true))))))))))))))))
end
def PR:=And.intro @L0_eq<|And.intro @F0_eq<|And.intro @X0_eq<|And.intro @B0_eq<|And.intro @C0_eq<|And.intro @GEN<|And.intro @op_makeMap<|And.intro @CTL<|And.intro @GENQ<|And.intro @o0<|And.intro @o1<|And.intro @o2<|And.intro @o3<|And.intro @o5<|And.intro @o6<|And.intro @o7<|And.intro @o8<|And.intro @o9<|And.intro @o10<|And.intro @o11<|And.intro @o12<|And.intro @o13<|And.intro @o14<|And.intro @o15<|And.intro @o16<|And.intro @o17<|And.intro @o18<|And.intro @o19<|And.intro @o20<|And.intro @o21<|And.intro @o22<|And.intro @o23<|And.intro @o24<|And.intro @o25<|And.intro @o26<|And.intro @o27<|And.intro @o28<|And.intro @o29<|And.intro @o30<|And.intro @o31<|And.intro @o32<|And.intro @o33<|And.intro @o34<|And.intro @o35<|And.intro @o36<|And.intro @o37<|And.intro @o38<|And.intro @o39<|And.intro @o40<|And.intro @o41<|And.intro @o42<|And.intro @o43<|And.intro @o44<|And.intro @o45<|And.intro @o46<|And.intro @o47<|And.intro @o48<|And.intro @o49<|And.intro @o50<|And.intro @o51<|And.intro @o52<|And.intro @o53<|And.intro @o54<|And.intro @o55<|And.intro @o56<|And.intro @o57<|And.intro @o58<|And.intro @o59<|And.intro @o60<|And.intro @o61<|And.intro @o62<|And.intro @o63<|And.intro @o64<|And.intro @o65<|And.intro @o66<|And.intro @o67<|And.intro @o68<|And.intro @o69<|And.intro @o70<|And.intro @o71<|And.intro @o72<|And.intro @o74<|And.intro @o75<|And.intro @o76<|And.intro @o77<|And.intro @o78<|And.intro @o79<|And.intro @o80<|And.intro @o81<|And.intro @o82<|And.intro @o83<|And.intro @o84<|And.intro @o85<|And.intro @o86<|And.intro @o87<|And.intro @o88<|And.intro @o89<|And.intro @o90<|And.intro @o91<|And.intro @o92<|And.intro @o93<|And.intro @o94<|And.intro @o95<|And.intro @o96<|And.intro @o97<|And.intro @o98<|And.intro @o99<|And.intro @o100<|And.intro @o101<|And.intro @o102<|And.intro @o103<|And.intro @o104<|And.intro @o105<|And.intro @o106<|And.intro @o107<|And.intro @o108<|And.intro @o110<|And.intro @o111<|And.intro @o112<|And.intro @o113<|And.intro @o114<|And.intro @o116<|And.intro @o117<|And.intro @o118<|And.intro @o119<|And.intro @o120<|And.intro @o121<|And.intro @o122<|And.intro @o123<|And.intro @o124<|And.intro @o125<|And.intro @o126<|And.intro @o127<|And.intro @o128<|And.intro @o129<|And.intro @o130<|And.intro @o131<|And.intro @o132<|And.intro @o133<|And.intro @o134<|And.intro @o135<|And.intro @o136<|And.intro @o137<|And.intro @o138<|And.intro @o139<|And.intro @o140<|And.intro @o145<|And.intro @o146<|And.intro @o148<|And.intro @o149<|And.intro @o150<|And.intro @o151<|And.intro @OPU0<|And.intro @OPW0<|And.intro @OPW1<|And.intro @OPQ0<|And.intro @OPQ1<|And.intro @OPQ2<|And.intro @joinK_eq<|And.intro @op_rem<|And.intro @qV_shl<|And.intro @guard_undef <| @op_shl
def QR:=And.intro @OPA0<|And.intro @dirty_eq<|And.intro @onCells_nil<|And.intro @onCells_some<|And.intro @onFree_nil<|And.intro @onFree_false<|And.intro @guard_or<|And.intro @guard_and<|And.intro @STD<|And.intro @heap_newE<|And.intro @heap_oldE<|And.intro @heap_setE<|And.intro @cell_newE<|And.intro @frozen_newE<|And.intro @set_newE<|And.intro @cell_old<|And.intro @frozen_old<|And.intro @set_old<|And.intro @wrap_succ<|And.intro @List.setIfInBounds_toArray.{0}<|And.intro @List.set_cons_zero.{0}<|And.intro @List.set_cons_succ.{0}<|And.intro @decide_true<|And.intro @Bool.false_eq_true<|And.intro @if_false.{1}<|And.intro @if_true.{1}<|And.intro @Option.isSome_some.{0}<|And.intro @Option.isSome_none.{0}<|And.intro @Option.getD_some.{0}<|And.intro @Option.getD_none.{0}<|And.intro @cell_set_map<|And.intro @cell_set_other<|And.intro @Option.map_some.{0,0}<|And.intro @List.getElem?_toArray.{0}<|And.intro @List.getElem?_cons_succ.{0}<|And.intro @List.getElem?_cons_zero.{0}<|And.intro @Nat.zero_add<|And.intro @World.size_alloc<|And.intro @World.size_setCell<|And.intro @World.size_drew<|And.intro @Bool.not_true<|And.intro @Bool.not_false<|And.intro @Bool.and_true<|And.intro @Bool.true_and<|And.intro @Bool.and_false<|And.intro @Bool.false_and<|And.intro @Bool.or_true<|And.intro @Bool.true_or<|And.intro @Bool.or_false<|And.intro @Bool.false_or <| @Bool.not_not
theorem SZ:type_of% (And.intro @World.size_alloc<|And.intro @World.size_setCell<|And.intro @World.size_drew<|And.intro @World.putObj_size <| @putW_size):=(And.intro @World.size_alloc<|And.intro @World.size_setCell<|And.intro @World.size_drew<|And.intro @World.putObj_size <| @putW_size)
theorem DI {p:Prop} (h:p:=by first | assumption | (simp only [ONE];done) | rfl | (simp only [SZ];done) | omega | (simp only [SZ] at *;omega)):p:=h
theorem ee {a b:World} (h:Ext a b:=by repeat' first | exact Ext.refl _ | assumption | apply Ext.alloc | apply Ext.wdrew | apply Ext.drew | (refine Ext.setCell ?_ (by first | omega | (simp only [SZ] at *;omega)) _) | (refine Ext.putObj ?_ (by first | omega | (simp only [SZ] at *;omega)) _) | (refine Ext.trans ?_ (by assumption))):Ext a b:=h
end Go.Proofs.YtiajhbbmgglmlaaGreat
namespace Go.Proofs.YtiajhbbmgglmlaaGreat
open Sw
structure TermD where
 field:ByteArray
 factor:Int
 deriving DecidableEq
structure CaseD where
 low:Int
 high:Int
 of:ByteArray
 deriving DecidableEq
structure FieldD where
 name:ByteArray
 kind:Int
 bits:Int
 little:Bool
 loose:Bool
 low:Int
 high:Int
 base:Int
 terms:List TermD
 of:ByteArray
 tag:ByteArray
 fr:ByteArray
 cases:List CaseD
 check:Int
 key:Int
 deriving DecidableEq
structure MsgD where
 name:ByteArray
 fields:List FieldD
 deriving DecidableEq
structure DefD where
 name:ByteArray
 msgs:List MsgD
 start:ByteArray
 deriving DecidableEq
abbrev termCells (t:TermD):List Value:=[.string t.field,.int .i64 t.factor]
abbrev caseCells (c:CaseD):List Value:=[.int .i64 c.low,.int .i64 c.high,.string c.of]
abbrev fieldCells (f:FieldD) (tv cv:Value):List Value:=[.string f.name,.int .i64 f.kind,.int .i64 f.bits,.bool f.little,.bool f.loose,.int .i64 f.low,.int .i64 f.high,.int .i64 f.base,tv,.string f.of,.string f.tag,.string f.fr,cv,.int .i64 f.check,.int .i64 f.key]
abbrev msgCells (m:MsgD) (fv:Value):List Value:=[.string m.name,fv]
abbrev defCells (d:DefD) (mv:Value):List Value:=[.string d.name,mv,.string d.start]
def ETerm (_:World) (cs:List Value) (t:TermD):Prop:=cs=termCells t
def ECase (_:World) (cs:List Value) (c:CaseD):Prop:=cs=caseCells c
def TermsOf (w:World) (v:Value) (l:List TermD):Prop:=SliceOf w 2 ETerm v l
def CasesOf (w:World) (v:Value) (l:List CaseD):Prop:=SliceOf w 3 ECase v l
def EField (w:World) (cs:List Value) (f:FieldD):Prop:=∃ tv cv,cs=fieldCells f tv cv∧TermsOf w tv f.terms∧CasesOf w cv f.cases
def FieldsOf (w:World) (v:Value) (l:List FieldD):Prop:=SliceOf w 15 EField v l
def EMsg (w:World) (cs:List Value) (m:MsgD):Prop:=∃ fv,cs=msgCells m fv∧FieldsOf w fv m.fields
def MsgsOf (w:World) (v:Value) (l:List MsgD):Prop:=SliceOf w 2 EMsg v l
def EByte (_:World) (cs:List Value) (b:UInt8):Prop:=cs=[.int .u8 b.toNat]
def EBool (_:World) (cs:List Value) (b:Bool):Prop:=cs=[.bool b]
def EStr (_:World) (cs:List Value) (s:ByteArray):Prop:=cs=[.string s]
def EInt (_:World) (cs:List Value) (n:Int):Prop:=cs=[.int .i64 n]
theorem keptTerm:Kept ETerm:=fun _ _ _ _ _ h=>h
theorem keptCase:Kept ECase:=fun _ _ _ _ _ h=>h
theorem keptStr:Kept EStr:=fun _ _ _ _ _ h=>h
theorem keptField:Kept EField:=fun _ _ _ _ e ⟨tv,cv,h,h1,h2⟩=>⟨tv,cv,h,h1.ext keptTerm e,h2.ext keptCase e⟩
theorem keptMsg:Kept EMsg:=fun _ _ _ _ e ⟨fv,h,h1⟩=>⟨fv,h,h1.ext keptField e⟩
theorem TermsOf.ext {w w':World} {v:Value} {l:List TermD} (h:TermsOf w v l) (e:Ext w w'):TermsOf w' v l:=SliceOf.ext keptTerm h e
theorem CasesOf.ext {w w':World} {v:Value} {l:List CaseD} (h:CasesOf w v l) (e:Ext w w'):CasesOf w' v l:=SliceOf.ext keptCase h e
theorem FieldsOf.ext {w w':World} {v:Value} {l:List FieldD} (h:FieldsOf w v l) (e:Ext w w'):FieldsOf w' v l:=SliceOf.ext keptField h e
theorem MsgsOf.ext {w w':World} {v:Value} {l:List MsgD} (h:MsgsOf w v l) (e:Ext w w'):MsgsOf w' v l:=SliceOf.ext keptMsg h e
theorem EField.op {w:World} {cs:List Value} {f:FieldD} (h:EField w cs f):∃ tv cv,cs=fieldCells f tv cv∧TermsOf w tv f.terms∧CasesOf w cv f.cases∧tv.oneCell'=true∧cv.oneCell'=true:=by
 obtain ⟨tv,cv,h1,h2,h3⟩:=h;exact ⟨tv,cv,h1,h2,h3,SliceOf.oneCell h2,SliceOf.oneCell h3⟩
def FieldVal (w:World) (v:Value) (f:FieldD):Prop:=∃ tv cv,v = .agg (fieldCells f tv cv).toArray∧TermsOf w tv f.terms∧CasesOf w cv f.cases
def MsgVal (w:World) (v:Value) (m:MsgD):Prop:=∃ fv,v = .agg (msgCells m fv).toArray∧FieldsOf w fv m.fields
def DefVal (w:World) (v:Value) (d:DefD):Prop:=∃ mv,v = .agg (defCells d mv).toArray∧MsgsOf w mv d.msgs
def SizeVal (w:World) (v:Value) (base:Int) (ts:List TermD):Prop:=∃ tv,v = .agg #[.int .i64 base,tv]∧TermsOf w tv ts
def termVal (t:TermD):Value := .agg (termCells t).toArray
theorem FieldVal.ext {w w':World} {v:Value} {f:FieldD} (h:FieldVal w v f) (e:Ext w w'):FieldVal w' v f:=by obtain ⟨tv,cv,h,h1,h2⟩:=h;exact ⟨tv,cv,h,h1.ext e,h2.ext e⟩
theorem FieldVal.op {w:World} {v:Value} {f:FieldD} (h:FieldVal w v f):∃ tv cv,v = .agg (fieldCells f tv cv).toArray∧TermsOf w tv f.terms∧CasesOf w cv f.cases∧tv.oneCell'=true∧cv.oneCell'=true:=by
 obtain ⟨tv,cv,h1,h2,h3⟩:=h;exact ⟨tv,cv,h1,h2,h3,SliceOf.oneCell h2,SliceOf.oneCell h3⟩
theorem MsgVal.ext {w w':World} {v:Value} {m:MsgD} (h:MsgVal w v m) (e:Ext w w'):MsgVal w' v m:=by obtain ⟨fv,h,h1⟩:=h;exact ⟨fv,h,h1.ext e⟩
theorem DefVal.ext {w w':World} {v:Value} {d:DefD} (h:DefVal w v d) (e:Ext w w'):DefVal w' v d:=by obtain ⟨fv,h,h1⟩:=h;exact ⟨fv,h,h1.ext e⟩
theorem SizeVal.ext {w w':World} {v:Value} {b:Int} {ts:List TermD} (h:SizeVal w v b ts) (e:Ext w w'):SizeVal w' v b ts:=by obtain ⟨fv,h,h1⟩:=h;exact ⟨fv,h,h1.ext e⟩
def Tests {α:Type} (w0:World) (V:World→Value→α→Prop) (g:FuncId) (caps:Array Value) (p:α→Bool) (l:List α):Prop :=
 ∀ w v x,x∈l→Ext w0 w→V w v x→Ret Pg g (#[v]++caps) w fun r w'=>r = .bool (p x)∧Ext w w'
end Go.Proofs.YtiajhbbmgglmlaaGreat
namespace Go.Sw
section
variable {P:Program} {N:Nat} {ro:Option Nat} {QP:KP} {T:Env→List Deferred→World→Prop} {o:Oper} {rest:List Oper} {ρ:Env} {ds:List Deferred} {w:World}
theorem zm {v:Value} (h:denSeq P N ro QP T rest (put N ρ o.dst v) ds w) (hs:execOp (ev ρ) o=Sem.pure (.value v):=by exact rfl) (hd:isDefer o.op=false:=by exact rfl):denSeq P N ro QP T (o::rest) ρ ds w:=sim_move hd hs h
theorem zv {s:Sem Value} {QP':List PanicEntry→World→Prop} {k:Value→World→Prop} (h:opV P s QP' w k) (hk:∀ v w,k v w→denSeq P N ro QP T rest (put N ρ o.dst v) ds w) (hs:execOp (ev ρ) o=(do pure (.value (← s))):=by exact rfl) (hd:isDefer o.op=false:=by exact rfl) (hp:∀ ch w,QP' ch w→QP ch ρ ds w:=by exact fun _ _ h=>⟨rfl,h⟩):denSeq P N ro QP T (o::rest) ρ ds w:=sim_val h hd hs hp hk
theorem zq {s:Sem Value} {QP':List PanicEntry→World→Prop} {k:Value→World→Prop} (h:opV P s QP' w k) (hk:∀ v w,k v w→denSeq P N ro QP T rest (put N ρ o.dst v) ds w) (hs:execOp (ev ρ) o=(do pure (.value (← s))):=by exact rfl) (hd:isDefer o.op=false:=by exact rfl) (hp:∀ ch w,QP' ch w→QP ch ρ ds w:=by exact fun _ _ h=>outQ_of rfl h):denSeq P N ro QP T (o::rest) ρ ds w:=sim_val h hd hs hp hk
theorem zu {s:Sem Unit} {QP':List PanicEntry→World→Prop} {k:World→Prop} (h:opU P s QP' w k) (hk:∀ w,k w→denSeq P N ro QP T rest (put N ρ o.dst undef) ds w) (hs:execOp (ev ρ) o=(do s;pure .skip):=by exact rfl) (hd:isDefer o.op=false:=by exact rfl) (hp:∀ ch w,QP' ch w→QP ch ρ ds w:=by exact fun _ _ h=>⟨rfl,h⟩):denSeq P N ro QP T (o::rest) ρ ds w:=sim_unit h hd hs hp hk
theorem zb {op:BinOp} {t ty:TypeId} {x y:Operand} {d:Nat} {t2:TypeId} {pos:String} {after:Array Edge} {g:Option (Nat×Bool)} {c:Bool} {a b:Value} {QP':List PanicEntry→World→Prop} {k:Value→World→Prop}
 (h:opV P (binS op t c a b) QP' w k) (hk:∀ v w',k v w'→denSeq P N ro QP T rest (put N ρ (some d) v) ds w') (hc:(isConst x||isConst y)=c:=by exact rfl) (h1:ev ρ x=a:=by exact rfl) (h2:ev ρ y=b:=by exact rfl) (hp:∀ ch w,QP' ch w→QP ch ρ ds w:=by exact fun _ _ h=>⟨rfl,h⟩) :
 denSeq P N ro QP T (⟨some d,.binOp op t x y t2,ty,pos,after,g⟩::rest) ρ ds w:=sim_bin h hc h1 h2 hp hk
theorem zc {f:FuncId} {l:List Operand} {ats:Array TypeId} {ty:TypeId} {dst:Option Nat} {pos:String} {after:Array Edge} {g:Option (Nat×Bool)} {args:List Value} {QP':List PanicEntry→World→Prop} {k:Value→World→Prop}
 (h:callK P f args.toArray QP' w k) (hf:Callable P f) (hk:∀ v w',k v w'→denSeq P N ro QP T rest (put N ρ dst v) ds w') (h2:l.map (ev ρ)=args:=by exact rfl) (hp:∀ ch w,QP' ch w→QP ch ρ ds w:=by exact fun _ _ h=>⟨rfl,h⟩) :
 denSeq P N ro QP T (⟨dst,.call ⟨.value (.func f),l.toArray,ats⟩,ty,pos,after,g⟩::rest) ρ ds w:=sim_call h hf h2 hp hk
theorem zx {b:Builtin} {l:List Operand} {ats:Array TypeId} {ty:TypeId} {d:Nat} {pos:String} {after:Array Edge} {g:Option (Nat×Bool)} {s:Sem Value} {QP':List PanicEntry→World→Prop} {k:Value→World→Prop}
 (h:opV P s QP' w k) (hk:∀ v w',k v w'→denSeq P N ro QP T rest (put N ρ (some d) v) ds w') (hs:builtin b ats ty ((l.map fun | .const _=>true | _=>false).toArray) (l.map (ev ρ)).toArray=(do pure (.value (← s))):=by exact rfl) (hp:∀ ch w,QP' ch w→QP ch ρ ds w:=by exact fun _ _ h=>⟨rfl,h⟩) :
 denSeq P N ro QP T (⟨some d,.call ⟨.builtin b,l.toArray,ats⟩,ty,pos,after,g⟩::rest) ρ ds w:=sim_builtin h hs hp hk
theorem zt {S:List Nat} {J G:Env→World→Prop} (hT:∀ ρ' w,Fr S ρ ρ'→J ρ' w→G ρ' w) {ρ':Env} {w:World} (h:J ρ' w) (hf:Fr S ρ ρ':=by repeat (first | exact Fr.refl _ _ | refine Fr.put rfl ?_ | refine Fr.put_none ?_ | refine Fr.mix rfl ?_ | refine Fr.skipAll rfl ?_)):G ρ' w:=hT ρ' w hf h
end
section
variable {P:Program} {N:Nat} {ro:Option Nat} {ops:Array Oper} {Q:Env→List Deferred→World→Prop} {QP0:List PanicEntry→List Deferred→World→Prop} {C:World→Prop}
theorem ze (i:Nat) {fuel:Nat} {done:List Nat} {o:Oper} {ρ:Env} {ds:List Deferred} {w:World} {k:Value→Prop} (hC:C w) {s:Sem Value} (h:qV P C s k) (hk:∀ v,k v→denD P N ro ops Q (fun ch _ ds w=>QP0 ch ds w) C fuel (i::done) (put N ρ o.dst v) ds w)
 (hi:ops[i]?=some o:=by exact rfl) (hr:(readyL ops done).contains i=true:=by kernel_rfl) (hf:freeB ops done i=true:=by kernel_rfl) (hg:∀ p q,guardO ops o ρ p q=p:=by exact fun _ _=>rfl) (hd:isDefer o.op=false:=by exact rfl) (hs:execOp (ev ρ) o=(do pure (.value (← s))):=by exact rfl) :
 denD P N ro ops Q (fun ch _ ds w=>QP0 ch ds w) C (fuel+1) done ρ ds w:=let ⟨v,hv,hkv⟩:=h;sim_dsilent i hC hi hr hf hg hd (qV_run hs hv) (hk v hkv)
theorem zw (i:Nat) {fuel:Nat} {done:List Nat} {o:Oper} {v:Value} {ρ:Env} {ds:List Deferred} {w:World} (hC:C w) (h:denD P N ro ops Q (fun ch _ ds w=>QP0 ch ds w) C fuel (i::done) (put N ρ o.dst v) ds w)
 (hi:ops[i]?=some o:=by exact rfl) (hr:(readyL ops done).contains i=true:=by kernel_rfl) (hf:freeB ops done i=true:=by kernel_rfl) (hg:∀ p q,guardO ops o ρ p q=p:=by exact fun _ _=>rfl) (hd:isDefer o.op=false:=by exact rfl) (hs:execOp (ev ρ) o=Sem.pure (.value v):=by exact rfl) :
 denD P N ro ops Q (fun ch _ ds w=>QP0 ch ds w) C (fuel+1) done ρ ds w:=sim_dsilent i hC hi hr hf hg hd (move_run hs) h
end
theorem zr {P:Program} {N:Nat} {ro:Option Nat} {id:Nat} {l:List Oper} {Q:K} {QP:KP} {ρ:Env} {ds:List Deferred} {w:World} (h:denSeq P N ro QP (fun ρ ds w=>Q .normal ρ ds w) l ρ ds w) (hu:unguarded l=true:=by exact rfl):den P N ro (.region id l.toArray false) Q QP ρ ds w:=sim_region hu h
theorem zn:type_of% @sim_nil := @sim_nil
theorem zk:type_of% @sim_then := @sim_then
theorem zs:type_of% @sim_seq := @sim_seq
end Go.Sw
namespace Go.Proofs.YtiajhbbmgglmlaaGreat
open Sw
theorem c3:Sw.Callable Pg 3:=⟨_,Tryz.func3,by kernel_rfl,rfl⟩
theorem c4:Sw.Callable Pg 4:=⟨_,Tryz.func4,by kernel_rfl,rfl⟩
theorem c5:Sw.Callable Pg 5:=⟨_,Tryz.func5,by kernel_rfl,rfl⟩
theorem c6:Sw.Callable Pg 6:=⟨_,Tryz.func6,by kernel_rfl,rfl⟩
theorem c7:Sw.Callable Pg 7:=⟨_,Tryz.func7,by kernel_rfl,rfl⟩
theorem c8:Sw.Callable Pg 8:=⟨_,Tryz.func8,by kernel_rfl,rfl⟩
theorem c9:Sw.Callable Pg 9:=⟨_,Tryz.func9,by kernel_rfl,rfl⟩
theorem c10:Sw.Callable Pg 10:=⟨_,Tryz.func10,by kernel_rfl,rfl⟩
theorem c11:Sw.Callable Pg 11:=⟨_,Tryz.func11,by kernel_rfl,rfl⟩
theorem c12:Sw.Callable Pg 12:=⟨_,Tryz.func12,by kernel_rfl,rfl⟩
theorem c13:Sw.Callable Pg 13:=⟨_,Tryz.func13,by kernel_rfl,rfl⟩
theorem c14:Sw.Callable Pg 14:=⟨_,Tryz.func14,by kernel_rfl,rfl⟩
theorem c15:Sw.Callable Pg 15:=⟨_,Tryz.func15,by kernel_rfl,rfl⟩
theorem c17:Sw.Callable Pg 17:=⟨_,Tryz.func17,by kernel_rfl,rfl⟩
theorem c18:Sw.Callable Pg 18:=⟨_,Tryz.func18,by kernel_rfl,rfl⟩
theorem c19:Sw.Callable Pg 19:=⟨_,Tryz.func19,by kernel_rfl,rfl⟩
theorem c20:Sw.Callable Pg 20:=⟨_,Tryz.func20,by kernel_rfl,rfl⟩
theorem c21:Sw.Callable Pg 21:=⟨_,Tryz.func21,by kernel_rfl,rfl⟩
theorem c22:Sw.Callable Pg 22:=⟨_,Tryz.func22,by kernel_rfl,rfl⟩
theorem c23:Sw.Callable Pg 23:=⟨_,Tryz.func23,by kernel_rfl,rfl⟩
theorem c24:Sw.Callable Pg 24:=⟨_,Tryz.func24,by kernel_rfl,rfl⟩
theorem c25:Sw.Callable Pg 25:=⟨_,Tryz.func25,by kernel_rfl,rfl⟩
theorem c26:Sw.Callable Pg 26:=⟨_,Tryz.func26,by kernel_rfl,rfl⟩
theorem c29:Sw.Callable Pg 29:=⟨_,Tryz.func29,by kernel_rfl,rfl⟩
theorem c31:Sw.Callable Pg 31:=⟨_,Tryz.func31,by kernel_rfl,rfl⟩
theorem c32:Sw.Callable Pg 32:=⟨_,Tryz.func32,by kernel_rfl,rfl⟩
theorem c33:Sw.Callable Pg 33:=⟨_,Tryz.func33,by kernel_rfl,rfl⟩
theorem c35:Sw.Callable Pg 35:=⟨_,Tryz.func35,by kernel_rfl,rfl⟩
theorem c36:Sw.Callable Pg 36:=⟨_,Tryz.func36,by kernel_rfl,rfl⟩
theorem c37:Sw.Callable Pg 37:=⟨_,Tryz.func37,by kernel_rfl,rfl⟩
theorem c38:Sw.Callable Pg 38:=⟨_,Tryz.func38,by kernel_rfl,rfl⟩
theorem c39:Sw.Callable Pg 39:=⟨_,Tryz.func39,by kernel_rfl,rfl⟩
theorem c40:Sw.Callable Pg 40:=⟨_,Tryz.func40,by kernel_rfl,rfl⟩
theorem c41:Sw.Callable Pg 41:=⟨_,Tryz.func41,by kernel_rfl,rfl⟩
theorem c42:Sw.Callable Pg 42:=⟨_,Tryz.func42,by kernel_rfl,rfl⟩
theorem c43:Sw.Callable Pg 43:=⟨_,Tryz.func43,by kernel_rfl,rfl⟩
theorem c44:Sw.Callable Pg 44:=⟨_,Tryz.func44,by kernel_rfl,rfl⟩
theorem c47:Sw.Callable Pg 47:=⟨_,Tryz.func47,by kernel_rfl,rfl⟩
theorem c48:Sw.Callable Pg 48:=⟨_,Tryz.func48,by kernel_rfl,rfl⟩
theorem c49:Sw.Callable Pg 49:=⟨_,Tryz.func49,by kernel_rfl,rfl⟩
theorem c50:Sw.Callable Pg 50:=⟨_,Tryz.func50,by kernel_rfl,rfl⟩
theorem c51:Sw.Callable Pg 51:=⟨_,Tryz.func51,by kernel_rfl,rfl⟩
theorem c52:Sw.Callable Pg 52:=⟨_,Tryz.func52,by kernel_rfl,rfl⟩
theorem c53:Sw.Callable Pg 53:=⟨_,Tryz.func53,by kernel_rfl,rfl⟩
theorem c54:Sw.Callable Pg 54:=⟨_,Tryz.func54,by kernel_rfl,rfl⟩
theorem c55:Sw.Callable Pg 55:=⟨_,Tryz.func55,by kernel_rfl,rfl⟩
theorem c56:Sw.Callable Pg 56:=⟨_,Tryz.func56,by kernel_rfl,rfl⟩
theorem c57:Sw.Callable Pg 57:=⟨_,Tryz.func57,by kernel_rfl,rfl⟩
theorem c58:Sw.Callable Pg 58:=⟨_,Tryz.func58,by kernel_rfl,rfl⟩
theorem c59:Sw.Callable Pg 59:=⟨_,Tryz.func59,by kernel_rfl,rfl⟩
theorem c60:Sw.Callable Pg 60:=⟨_,Tryz.func60,by kernel_rfl,rfl⟩
theorem c61:Sw.Callable Pg 61:=⟨_,Tryz.func61,by kernel_rfl,rfl⟩
theorem c62:Sw.Callable Pg 62:=⟨_,Tryz.func62,by kernel_rfl,rfl⟩
theorem c63:Sw.Callable Pg 63:=⟨_,Tryz.func63,by kernel_rfl,rfl⟩
theorem c64:Sw.Callable Pg 64:=⟨_,Tryz.func64,by kernel_rfl,rfl⟩
theorem c65:Sw.Callable Pg 65:=⟨_,Tryz.func65,by kernel_rfl,rfl⟩
theorem c66:Sw.Callable Pg 66:=⟨_,Tryz.func66,by kernel_rfl,rfl⟩
theorem c67:Sw.Callable Pg 67:=⟨_,Tryz.func67,by kernel_rfl,rfl⟩
theorem c68:Sw.Callable Pg 68:=⟨_,Tryz.func68,by kernel_rfl,rfl⟩
theorem c69:Sw.Callable Pg 69:=⟨_,Tryz.func69,by kernel_rfl,rfl⟩
theorem c70:Sw.Callable Pg 70:=⟨_,Tryz.func70,by kernel_rfl,rfl⟩
theorem c71:Sw.Callable Pg 71:=⟨_,Tryz.func71,by kernel_rfl,rfl⟩
theorem c72:Sw.Callable Pg 72:=⟨_,Tryz.func72,by kernel_rfl,rfl⟩
theorem c73:Sw.Callable Pg 73:=⟨_,Tryz.func73,by kernel_rfl,rfl⟩
theorem c74:Sw.Callable Pg 74:=⟨_,Tryz.func74,by kernel_rfl,rfl⟩
theorem c75:Sw.Callable Pg 75:=⟨_,Tryz.func75,by kernel_rfl,rfl⟩
theorem c76:Sw.Callable Pg 76:=⟨_,Tryz.func76,by kernel_rfl,rfl⟩
theorem c77:Sw.Callable Pg 77:=⟨_,Tryz.func77,by kernel_rfl,rfl⟩
theorem c78:Sw.Callable Pg 78:=⟨_,Tryz.func78,by kernel_rfl,rfl⟩
theorem c79:Sw.Callable Pg 79:=⟨_,Tryz.func79,by kernel_rfl,rfl⟩
theorem c80:Sw.Callable Pg 80:=⟨_,Tryz.func80,by kernel_rfl,rfl⟩
theorem c81:Sw.Callable Pg 81:=⟨_,Tryz.func81,by kernel_rfl,rfl⟩
theorem c82:Sw.Callable Pg 82:=⟨_,Tryz.func82,by kernel_rfl,rfl⟩
theorem c83:Sw.Callable Pg 83:=⟨_,Tryz.func83,by kernel_rfl,rfl⟩
theorem c84:Sw.Callable Pg 84:=⟨_,Tryz.func84,by kernel_rfl,rfl⟩
theorem c85:Sw.Callable Pg 85:=⟨_,Tryz.func85,by kernel_rfl,rfl⟩
theorem c86:Sw.Callable Pg 86:=⟨_,Tryz.func86,by kernel_rfl,rfl⟩
theorem c87:Sw.Callable Pg 87:=⟨_,Tryz.func87,by kernel_rfl,rfl⟩
theorem c88:Sw.Callable Pg 88:=⟨_,Tryz.func88,by kernel_rfl,rfl⟩
theorem c89:Sw.Callable Pg 89:=⟨_,Tryz.func89,by kernel_rfl,rfl⟩
theorem c90:Sw.Callable Pg 90:=⟨_,Tryz.func90,by kernel_rfl,rfl⟩
theorem c91:Sw.Callable Pg 91:=⟨_,Tryz.func91,by kernel_rfl,rfl⟩
theorem c92:Sw.Callable Pg 92:=⟨_,Tryz.func92,by kernel_rfl,rfl⟩
theorem c93:Sw.Callable Pg 93:=⟨_,Tryz.func93,by kernel_rfl,rfl⟩
theorem c94:Sw.Callable Pg 94:=⟨_,Tryz.func94,by kernel_rfl,rfl⟩
theorem c95:Sw.Callable Pg 95:=⟨_,Tryz.func95,by kernel_rfl,rfl⟩
theorem c96:Sw.Callable Pg 96:=⟨_,Tryz.func96,by kernel_rfl,rfl⟩
theorem c97:Sw.Callable Pg 97:=⟨_,Tryz.func97,by kernel_rfl,rfl⟩
theorem c98:Sw.Callable Pg 98:=⟨_,Tryz.func98,by kernel_rfl,rfl⟩
theorem c99:Sw.Callable Pg 99:=⟨_,Tryz.func99,by kernel_rfl,rfl⟩
theorem c100:Sw.Callable Pg 100:=⟨_,Tryz.func100,by kernel_rfl,rfl⟩
theorem c101:Sw.Callable Pg 101:=⟨_,Tryz.func101,by kernel_rfl,rfl⟩
theorem c102:Sw.Callable Pg 102:=⟨_,Tryz.func102,by kernel_rfl,rfl⟩
theorem c103:Sw.Callable Pg 103:=⟨_,Tryz.func103,by kernel_rfl,rfl⟩
theorem c104:Sw.Callable Pg 104:=⟨_,Tryz.func104,by kernel_rfl,rfl⟩
theorem c105:Sw.Callable Pg 105:=⟨_,Tryz.func105,by kernel_rfl,rfl⟩
theorem c106:Sw.Callable Pg 106:=⟨_,Tryz.func106,by kernel_rfl,rfl⟩
theorem c107:Sw.Callable Pg 107:=⟨_,Tryz.func107,by kernel_rfl,rfl⟩
theorem c108:Sw.Callable Pg 108:=⟨_,Tryz.func108,by kernel_rfl,rfl⟩
theorem c109:Sw.Callable Pg 109:=⟨_,Tryz.func109,by kernel_rfl,rfl⟩
theorem c110:Sw.Callable Pg 110:=⟨_,Tryz.func110,by kernel_rfl,rfl⟩
theorem c111:Sw.Callable Pg 111:=⟨_,Tryz.func111,by kernel_rfl,rfl⟩
theorem c112:Sw.Callable Pg 112:=⟨_,Tryz.func112,by kernel_rfl,rfl⟩
theorem c113:Sw.Callable Pg 113:=⟨_,Tryz.func113,by kernel_rfl,rfl⟩
theorem c114:Sw.Callable Pg 114:=⟨_,Tryz.func114,by kernel_rfl,rfl⟩
theorem c115:Sw.Callable Pg 115:=⟨_,Tryz.func115,by kernel_rfl,rfl⟩
theorem c116:Sw.Callable Pg 116:=⟨_,Tryz.func116,by kernel_rfl,rfl⟩
theorem c117:Sw.Callable Pg 117:=⟨_,Tryz.func117,by kernel_rfl,rfl⟩
theorem c118:Sw.Callable Pg 118:=⟨_,Tryz.func118,by kernel_rfl,rfl⟩
theorem c119:Sw.Callable Pg 119:=⟨_,Tryz.func119,by kernel_rfl,rfl⟩
theorem c120:Sw.Callable Pg 120:=⟨_,Tryz.func120,by kernel_rfl,rfl⟩
theorem c121:Sw.Callable Pg 121:=⟨_,Tryz.func121,by kernel_rfl,rfl⟩
theorem c122:Sw.Callable Pg 122:=⟨_,Tryz.func122,by kernel_rfl,rfl⟩
theorem c123:Sw.Callable Pg 123:=⟨_,Tryz.func123,by kernel_rfl,rfl⟩
theorem c124:Sw.Callable Pg 124:=⟨_,Tryz.func124,by kernel_rfl,rfl⟩
theorem c125:Sw.Callable Pg 125:=⟨_,Tryz.func125,by kernel_rfl,rfl⟩
theorem c126:Sw.Callable Pg 126:=⟨_,Tryz.func126,by kernel_rfl,rfl⟩
end Go.Proofs.YtiajhbbmgglmlaaGreat
namespace Go.Proofs.YtiajhbbmgglmlaaGreat
open Sw
def n20 (t0:Value) (R:RT) (w:World):Prop :=
 opV Pg (Instr.box 52 t0) (panK R) w fun t1 w =>
 F0 52 t1 1 R w fun t3 w =>
 L0 46 t3 R w fun t4 w =>
 B0 .geq 46 true t4 (.int .i64 1) R w fun t5 w =>
 joinK (fun (t9:Value) (w:World) =>
 pickK t5 t9 (.bool false) fun t10 =>
 R (.returned t10) w) fun K1 =>
 guardP t5 true (
 F0 52 t1 1 R w fun t7 w =>
 L0 46 t7 R w fun t8 w =>
 B0 .leq 46 true t8 (.int .i64 3) R w fun t9 w =>
 K1 t9 w) (
 K1 undef w)
theorem n20s {t0:Value} {R:RT} {w:World} (h:n20 t0 R w):Calls Pg 60 #[t0] w R:=by
 refine calls_of_den (args:=[t0]) Tryz.func60 rfl (Nat.le_of_ble_eq_true rfl) ?_
 unfold n20 at h
 refine zs<|zr ?_
 refine zv h fun t1 w h=>?_
 refine zm<|zn<|zk<|zs<|sim_regionG ?_
 refine sim_seg 4 rfl ?_
 refine zv h fun t3 w h=>?_
 refine zv h fun t4 w h=>?_
 refine zb h fun t5 w h=>?_
 refine zm<|zn ?_
 refine joinK_elim h (fun K1 hK h=>?_)
 refine sim_groupJ 3 3 true [7,8,9] (fun ρ w=>K1 (ρ 9) w) rfl rfl (fun T hT=>guardP_mono h (fun h=>?_) (fun h=>?_)) (fun σ w h=>?_)
 · refine zv h fun t7 w h=>?_
   refine zv h fun t8 w h=>?_
   refine zb h fun t9 w h=>?_
   refine zn ?_
   exact zt hT h
 · exact zt hT h
 subst hK
 refine sim_seg 2 rfl ?_
 refine sim_pick h rfl rfl rfl ?_;intro t10 h
 refine zm<|zn<|sim_end<|zk<|sim_ret ?_
 exact body_ret1 rfl rfl h
def n31c1 (t1 t3 t7:Value) (next1:KV) (R:RT) (w:World):Prop :=
 F0 45 t3 1 R w fun t13 w =>
 L0 43 t13 R w fun t14 w =>
 X0 43 t14 t7 R w fun t16 w =>
 F0 52 t16 1 R w fun t17 w =>
 L0 46 t17 R w fun t18 w =>
 B0 .eql 46 true t18 (.int .i64 9) R w fun t19 w =>
 joinK (fun (t28:Value) (w:World) =>
 pickK t19 t28 (.bool false) fun t29 =>
 condP t29 (
 R (.returned (.bool true)) w) (
 B0 .add 3 true t7 (.int .i64 1) R w fun t12 w =>
 next1 t12 w)) fun K2 =>
 guardP t19 true (
 F0 45 t3 1 R w fun t21 w =>
 L0 43 t21 R w fun t22 w =>
 X0 43 t22 t7 R w fun t24 w =>
 F0 52 t24 9 R w fun t25 w =>
 L0 9 t25 R w fun t26 w =>
 B0 .eql 9 false t26 t1 R w fun t28 w =>
 K2 t28 w) (
 K2 undef w)
def n31 (t0 t1 t2:Value) (R:RT) (w:World):Prop :=
 opV Pg (Instr.box 45 t0) (panK R) w fun t3 w =>
 loop1 (fun t7 w next1 =>
 B0 .lss 3 false t7 t2 R w fun t10 w =>
 condP t10 (
 n31c1 t1 t3 t7 next1 R w) (
 R (.returned (.bool false)) w)) (.int .i64 0) w
theorem n31s {t0 t1 t2:Value} {R:RT} {w:World} (h:n31 t0 t1 t2 R w):Calls Pg 61 #[t0,t1,t2] w R:=by
 refine calls_of_den (args:=[t0,t1,t2]) Tryz.func61 rfl (Nat.le_of_ble_eq_true rfl) ?_
 unfold n31 at h
 refine zs<|zr ?_
 refine zv h fun t3 w h=>?_
 refine zm<|zn<|zk<|zs<|zs<|zr<|zm<|zn<|zk<|sim_block ?_
 obtain ⟨I,μ,h0,hr⟩:=h
 refine sim_loop [6,7,8,9,10,11,12,13,14,15,16,17,18,19,20,21,22,23,24,25,26,27,28,29] (by kernel_rfl) (fun ρ w=>I (ρ 7) w) (fun ρ w=>μ (ρ 7) w) h0 (fun σ w hI=>?_)
 have h:=hr _ _ hI
 clear hr h0 hI
 refine zs<|zs<|zr<|zm<|zm ?_
 refine zb h fun t10 w h=>?_
 refine zn<|zk ?_
 refine sim_cond h rfl (fun h=>?_) (fun h=>?_)
 · refine sim_skip<|zk<|zs<|sim_block<|zs<|sim_regionG ?_
   refine sim_seg 8 rfl ?_
   refine zv h fun t13 w h=>?_
   refine zv h fun t14 w h=>?_
   refine zm ?_
   refine zv h fun t16 w h=>?_
   refine zv h fun t17 w h=>?_
   refine zv h fun t18 w h=>?_
   refine zb h fun t19 w h=>?_
   refine zm<|zn ?_
   refine joinK_elim h (fun K2 hK h=>?_)
   refine sim_groupJ 8 7 true [21,22,23,24,25,26,27,28] (fun ρ w=>K2 (ρ 28) w) rfl rfl (fun T hT=>guardP_mono h (fun h=>?_) (fun h=>?_)) (fun σ w h=>?_)
   · refine zv h fun t21 w h=>?_
     refine zv h fun t22 w h=>?_
     refine zm ?_
     refine zv h fun t24 w h=>?_
     refine zv h fun t25 w h=>?_
     refine zv h fun t26 w h=>?_
     refine zm ?_
     refine zb h fun t28 w h=>?_
     refine zn ?_
     exact zt hT h
   · exact zt hT h
   subst hK
   refine sim_seg 1 rfl ?_
   refine sim_pick h rfl rfl rfl ?_;intro t29 h
   refine zn<|sim_end<|zk ?_
   refine sim_cond h rfl (fun h=>?_) (fun h=>?_)
   · refine zs<|zr<|zm<|zn<|zk<|sim_ret<|sim_block_ret<|sim_then_ret<|sim_then_ret<|sim_block_ret<|sim_then_ret ?_
     exact body_ret1 rfl rfl h
   · refine sim_skip<|sim_block_normal<|zk<|zr<|zm ?_
     refine zb h fun t12 w h=>?_
     refine zm<|zn<|zk ?_
     exact ⟨rfl,h⟩
 · refine sim_exit<|sim_then_exit<|sim_then_exit<|sim_block_hit<|zk<|zs<|zr<|zm<|zn<|zk<|sim_ret ?_
   exact body_ret1 rfl rfl h
def n21c1 (t1:Value) (C1:World→Prop) (R:RT) (w:World):Prop :=
 qV Pg C1 (Instr.fieldAt 52 t1 5) fun t7 =>
 qV Pg C1 (Instr.loadAt 3 t7) fun t8 =>
 qV Pg C1 (Instr.fieldAt 52 t1 5) fun t9 =>
 qV Pg C1 (Instr.loadAt 3 t9) fun t10 =>
 R (.returned (.tuple #[t8,t10])) w
def n21c2 (t1:Value) (C2:World→Prop) (R:RT) (w:World):Prop :=
 qV Pg C2 (Instr.fieldAt 52 t1 5) fun t11 =>
 qV Pg C2 (Instr.loadAt 3 t11) fun t12 =>
 qV Pg C2 (Instr.fieldAt 52 t1 6) fun t13 =>
 qV Pg C2 (Instr.loadAt 3 t13) fun t14 =>
 R (.returned (.tuple #[t12,t14])) w
def n21 (t0:Value) (R:RT) (w:World):Prop :=
 opV Pg (Instr.box 52 t0) (panK R) w fun t1 w =>
 F0 52 t1 1 R w fun t4 w =>
 L0 46 t4 R w fun t5 w =>
 B0 .eql 46 true t5 (.int .i64 2) R w fun t6 w =>
 condP t6 (
 drawK w fun C1 w =>
 n21c1 t1 C1 R w) (
 drawK w fun C2 w =>
 n21c2 t1 C2 R w)
theorem n21s {t0:Value} {R:RT} {w:World} (h:n21 t0 R w):Calls Pg 62 #[t0] w R:=by
 refine calls_of_den (args:=[t0]) Tryz.func62 rfl (Nat.le_of_ble_eq_true rfl) ?_
 unfold n21 at h
 refine zs<|zr ?_
 refine zv h fun t1 w h=>?_
 refine zm<|zm<|zn<|zk<|zs<|zs<|zr ?_
 refine zv h fun t4 w h=>?_
 refine zv h fun t5 w h=>?_
 refine zb h fun t6 w h=>?_
 refine zn<|zk ?_
 refine sim_cond h rfl (fun h=>?_) (fun h=>?_)
 · refine zs ?_
   obtain ⟨C1,hC,h⟩:=h
   refine sim_draw [2,3,7,8,9,10] (by kernel_rfl) (by kernel_rfl) C1 ?_
   refine ze 0 hC h fun t7 h=>?_
   refine ze 1 hC h fun t8 h=>?_
   refine ze 2 hC h fun t9 h=>?_
   refine ze 3 hC h fun t10 h=>?_
   refine zw 4 hC ?_
   refine zw 5 hC ?_
   refine sim_dend (by kernel_rfl) ?_
   refine zk<|sim_ret<|sim_then_ret ?_
   exact body_ret2 rfl rfl rfl h
 · refine sim_skip<|zk<|zs ?_
   obtain ⟨C2,hC,h⟩:=h
   refine sim_draw [2,3,11,12,13,14] (by kernel_rfl) (by kernel_rfl) C2 ?_
   refine ze 0 hC h fun t11 h=>?_
   refine ze 1 hC h fun t12 h=>?_
   refine ze 2 hC h fun t13 h=>?_
   refine ze 3 hC h fun t14 h=>?_
   refine zw 4 hC ?_
   refine zw 5 hC ?_
   refine sim_dend (by kernel_rfl) ?_
   refine zk<|sim_ret ?_
   exact body_ret2 rfl rfl rfl h
def n25c1 (t11 t72:Value) (next2:KV) (R:RT) (w:World):Prop :=
 B0 .lss 3 true t72 (.int .i64 0) R w fun t73 w =>
 condP t73 (
 R (.returned (.int .i64 8)) w) (
 B0 .add 3 true t11 (.int .i64 1) R w fun t29 w =>
 next2 t29 w)
def n25c2 (t1 t5 t11 t12:Value) (next2:KV) (R:RT) (w:World):Prop :=
 L0 24 t5 R w fun t68 w =>
 F0 81 t12 2 R w fun t69 w =>
 L0 9 t69 R w fun t70 w =>
 C0 26 #[t68,t70,t1] R w fun t72 w =>
 n25c1 t11 t72 next2 R w
def n25c3 (t1 t5 t11 t12 t51 t55 t65:Value) (next2:KV) (R:RT) (w:World):Prop :=
 joinK (fun (t66:Value) (w:World) =>
 pickK t51 (.bool true) t66 fun t67 =>
 condP t67 (
 R (.returned (.int .i64 7)) w) (
 n25c2 t1 t5 t11 t12 next2 R w)) fun K8 =>
 guardP t51 false (
 pickK t55 t65 (.bool false) fun t66 =>
 K8 t66 w) (
 K8 undef w)
def n25c4 (t7 t11 t12:Value) (C3:World→Prop) (K7:KV) (R:RT) (w:World):Prop :=
 qV Pg C3 (Instr.fieldAt 81 t12 0) fun t56 =>
 qV Pg C3 (Instr.loadAt 3 t56) fun t57 =>
 qV Pg C3 (Instr.fieldAt 52 t7 11) fun t58 =>
 qV Pg C3 (Instr.loadAt 50 t58) fun t59 =>
 qV Pg C3 (binS .sub 3 true t11 (.int .i64 1)) fun t61 =>
 qV Pg C3 (Instr.indexAt 50 t59 t61) fun t62 =>
 qV Pg C3 (Instr.fieldAt 81 t62 1) fun t63 =>
 qV Pg C3 (Instr.loadAt 3 t63) fun t64 =>
 qV Pg C3 (binS .leq 3 false t57 t64) fun t65 =>
 K7 t65 w
def n25c5 (t1 t5 t7 t11 t12 t45 t50:Value) (C3:World→Prop) (next2:KV) (R:RT) (w:World):Prop :=
 pickK t45 (.bool true) t50 fun t51 =>
 joinK (fun (t55:Value) (w:World) =>
 joinK (fun (t65:Value) (w:World) =>
 n25c3 t1 t5 t11 t12 t51 t55 t65 next2 R w) fun K7 =>
 guardP t55 true (
 n25c4 t7 t11 t12 C3 K7 R w) (
 K7 undef w)) fun K6 =>
 guardP t51 false (
 qV Pg C3 (binS .gtr 3 true t11 (.int .i64 0)) fun t54 =>
 K6 t54 w) (
 K6 undef w)
def n25c6 (t1 t4 t5 t7 t11 t12 t38 t44:Value) (C3:World→Prop) (next2:KV) (R:RT) (w:World):Prop :=
 pickK t38 (.bool true) t44 fun t45 =>
 joinK (fun (t50:Value) (w:World) =>
 n25c5 t1 t5 t7 t11 t12 t45 t50 C3 next2 R w) fun K5 =>
 guardP t45 false (
 qV Pg C3 (Instr.fieldAt 81 t12 1) fun t47 =>
 qV Pg C3 (Instr.loadAt 3 t47) fun t48 =>
 qV Pg C3 (binS .gtr 3 false t48 t4) fun t50 =>
 K5 t50 w) (
 K5 undef w)
def n25c7 (t1 t3 t4 t5 t7 t11 t12:Value) (C3:World→Prop) (next2:KV) (R:RT) (w:World):Prop :=
 qV Pg C3 (Instr.fieldAt 81 t12 0) fun t35 =>
 qV Pg C3 (Instr.loadAt 3 t35) fun t36 =>
 qV Pg C3 (binS .lss 3 false t36 t3) fun t38 =>
 joinK (fun (t44:Value) (w:World) =>
 n25c6 t1 t4 t5 t7 t11 t12 t38 t44 C3 next2 R w) fun K4 =>
 guardP t38 false (
 qV Pg C3 (Instr.fieldAt 81 t12 0) fun t40 =>
 qV Pg C3 (Instr.loadAt 3 t40) fun t41 =>
 qV Pg C3 (Instr.fieldAt 81 t12 1) fun t42 =>
 qV Pg C3 (Instr.loadAt 3 t42) fun t43 =>
 qV Pg C3 (binS .gtr 3 false t41 t43) fun t44 =>
 K4 t44 w) (
 K4 undef w)
def n25c8 (t1 t3 t4 t5 t7 t11:Value) (next2:KV) (R:RT) (w:World):Prop :=
 F0 52 t7 11 R w fun t30 w =>
 L0 50 t30 R w fun t31 w =>
 X0 50 t31 t11 R w fun t33 w =>
 L0 81 t33 R w fun t34 w =>
 opV Pg (Instr.alloc 81 true (.tuple #[])) (panK R) w fun t12 w =>
 opU Pg (Instr.storeAt 81 t12 t34) (panK R) w fun w =>
 drawK w fun C3 w =>
 n25c7 t1 t3 t4 t5 t7 t11 t12 C3 next2 R w
def n25c9 (t1 t3 t4 t5 t7 t11:Value) (next2:KV) (R:RT) (w:World):Prop :=
 F0 52 t7 11 R w fun t24 w =>
 L0 50 t24 R w fun t25 w =>
 opV Pg (Builtin.len_ #[50] 3 #[t25]) (panK R) w fun t26 w =>
 B0 .lss 3 false t11 t26 R w fun t27 w =>
 condP t27 (
 n25c8 t1 t3 t4 t5 t7 t11 next2 R w) (
 R (.returned (.int .i64 0)) w)
def n25 (t0 t1 t2 t3 t4:Value) (R:RT) (w:World):Prop :=
 opV Pg (Instr.box 24 t0) (panK R) w fun t5 w =>
 opV Pg (Instr.box 52 t2) (panK R) w fun t7 w =>
 F0 52 t7 11 R w fun t13 w =>
 L0 50 t13 R w fun t14 w =>
 opV Pg (Builtin.len_ #[50] 3 #[t14]) (panK R) w fun t15 w =>
 B0 .lss 3 true t15 (.int .i64 1) R w fun t16 w =>
 joinK (fun (t21:Value) (w:World) =>
 pickK t16 (.bool true) t21 fun t22 =>
 condP t22 (
 R (.returned (.int .i64 3)) w) (
 loop1 (fun t11 w next2 =>
 n25c9 t1 t3 t4 t5 t7 t11 next2 R w) (.int .i64 0) w)) fun K1 =>
 guardP t16 false (
 F0 52 t7 11 R w fun t18 w =>
 L0 50 t18 R w fun t19 w =>
 opV Pg (Builtin.len_ #[50] 3 #[t19]) (panK R) w fun t20 w =>
 B0 .gtr 3 true t20 (.int .i64 40) R w fun t21 w =>
 K1 t21 w) (
 K1 undef w)
theorem n25s {t0 t1 t2 t3 t4:Value} {R:RT} {w:World} (h:n25 t0 t1 t2 t3 t4 R w):Calls Pg 63 #[t0,t1,t2,t3,t4] w R:=by
 refine calls_of_den (args:=[t0,t1,t2,t3,t4]) Tryz.func63 rfl (Nat.le_of_ble_eq_true rfl) ?_
 unfold n25 at h
 refine zs<|zr ?_
 refine zv h fun t5 w h=>?_
 refine zv h fun t7 w h=>?_
 refine zm<|zn<|zk<|zs<|zs<|sim_regionG ?_
 refine sim_seg 5 rfl ?_
 refine zv h fun t13 w h=>?_
 refine zv h fun t14 w h=>?_
 refine zx h fun t15 w h=>?_
 refine zb h fun t16 w h=>?_
 refine zm<|zn ?_
 refine joinK_elim h (fun K1 hK h=>?_)
 refine sim_groupJ 4 4 false [18,19,20,21] (fun ρ w=>K1 (ρ 21) w) rfl rfl (fun T hT=>guardP_mono h (fun h=>?_) (fun h=>?_)) (fun σ w h=>?_)
 · refine zv h fun t18 w h=>?_
   refine zv h fun t19 w h=>?_
   refine zx h fun t20 w h=>?_
   refine zb h fun t21 w h=>?_
   refine zn ?_
   exact zt hT h
 · exact zt hT h
 subst hK
 refine sim_seg 1 rfl ?_
 refine sim_pick h rfl rfl rfl ?_;intro t22 h
 refine zn<|sim_end<|zk ?_
 refine sim_cond h rfl (fun h=>?_) (fun h=>?_)
 · refine zs<|zr<|zm<|zn<|zk<|sim_ret<|sim_then_ret ?_
   exact body_ret1 rfl rfl h
 · refine sim_skip<|zk<|zs<|zs<|zr<|zm<|zn<|zk<|sim_block ?_
   obtain ⟨I,μ,h0,hr⟩:=h
   refine sim_loop [10,11,12,23,24,25,26,27,28,29,30,31,32,33,34,35,36,37,38,39,40,41,42,43,44,45,46,47,48,49,50,51,52,53,54,55,56,57,58,59,60,61,62,63,64,65,66,67,68,69,70,71,72,73] (by kernel_rfl) (fun ρ w=>I (ρ 11) w) (fun ρ w=>μ (ρ 11) w) h0 (fun σ w hI=>?_)
   have h:=hr _ _ hI
   clear hr h0 hI
   refine zs<|zs<|zr<|zm ?_
   refine zv h fun t24 w h=>?_
   refine zv h fun t25 w h=>?_
   refine zx h fun t26 w h=>?_
   refine zb h fun t27 w h=>?_
   refine zn<|zk ?_
   refine sim_cond h rfl (fun h=>?_) (fun h=>?_)
   · refine sim_skip<|zk<|zs<|sim_block<|zs<|zr ?_
     refine zv h fun t30 w h=>?_
     refine zv h fun t31 w h=>?_
     refine zm ?_
     refine zv h fun t33 w h=>?_
     refine zv h fun t34 w h=>?_
     refine zv h fun t12 w h=>?_
     refine zu h fun w h=>?_
     refine zn<|zk<|zs<|zs ?_
     obtain ⟨C3,hC,h⟩:=h
     refine sim_draw [35,36,37,38,39,40,41,42,43,44,45,46,47,48,49,50,51,52,53,54,55,56,57,58,59,60,61,62,63,64,65,66,67] (by kernel_rfl) (by kernel_rfl) C3 ?_
     refine ze 0 hC h fun t35 h=>?_
     refine ze 1 hC h fun t36 h=>?_
     refine zw 2 hC ?_
     obtain ⟨t38,hv,h⟩:=h
     refine sim_dsilent 3 hC rfl (by kernel_rfl) (by kernel_rfl) (fun _ _=>rfl) rfl (Sw.qV_bin rfl rfl rfl hv) ?_
     refine zw 4 hC ?_
     refine joinK_elim h (fun K4 hK h=>?_)
     refine sim_djoin 23 [9,8,7,6,5,4,3,2,1,0] [40,41,42,43,44] (fun ρ w=>K4 (ρ 44) w) (fun _ hT=>?_) (fun σ w hC h=>?_)
     · rcases Sw.guardP_cases h with ⟨hb,h⟩ | ⟨hb,h⟩
       · obtain ⟨t40,hv,h⟩:=h
         refine sim_dsilent 5 hC rfl (by kernel_rfl) (by kernel_rfl) (fun _ _=>Sw.guardP_true hb) rfl (Sw.qV_run rfl hv) ?_
         obtain ⟨t41,hv,h⟩:=h
         refine sim_dsilent 6 hC rfl (by kernel_rfl) (by kernel_rfl) (fun _ _=>Sw.guardP_true hb) rfl (Sw.qV_run rfl hv) ?_
         obtain ⟨t42,hv,h⟩:=h
         refine sim_dsilent 7 hC rfl (by kernel_rfl) (by kernel_rfl) (fun _ _=>Sw.guardP_true hb) rfl (Sw.qV_run rfl hv) ?_
         obtain ⟨t43,hv,h⟩:=h
         refine sim_dsilent 8 hC rfl (by kernel_rfl) (by kernel_rfl) (fun _ _=>Sw.guardP_true hb) rfl (Sw.qV_run rfl hv) ?_
         obtain ⟨t44,hv,h⟩:=h
         refine sim_dsilent 9 hC rfl (by kernel_rfl) (by kernel_rfl) (fun _ _=>Sw.guardP_true hb) rfl (Sw.qV_bin rfl rfl rfl hv) ?_
         exact hT _ _ (by repeat (first | exact Sw.Fr.refl _ _ | refine Sw.Fr.put rfl ?_ | refine Sw.Fr.put_none ?_ | refine Sw.Fr.mix rfl ?_ | refine Sw.Fr.skipAll rfl ?_)) hC h
       · refine sim_dskip 5 hC rfl (by kernel_rfl) (by kernel_rfl) (fun _ _=>Sw.guardP_false hb) ?_
         refine sim_dskip 6 hC rfl (by kernel_rfl) (by kernel_rfl) (fun _ _=>Sw.guardP_false hb) ?_
         refine sim_dskip 7 hC rfl (by kernel_rfl) (by kernel_rfl) (fun _ _=>Sw.guardP_false hb) ?_
         refine sim_dskip 8 hC rfl (by kernel_rfl) (by kernel_rfl) (fun _ _=>Sw.guardP_false hb) ?_
         refine sim_dskip 9 hC rfl (by kernel_rfl) (by kernel_rfl) (fun _ _=>Sw.guardP_false hb) ?_
         exact hT _ _ (by repeat (first | exact Sw.Fr.refl _ _ | refine Sw.Fr.put rfl ?_ | refine Sw.Fr.put_none ?_ | refine Sw.Fr.mix rfl ?_ | refine Sw.Fr.skipAll rfl ?_)) hC h
     subst hK
     obtain ⟨b45,hb45,h⟩:=Sw.pickK_elim h
     refine sim_dsilent 10 hC rfl (by kernel_rfl) (by kernel_rfl) (fun _ _=>rfl) rfl (Sw.pick_run hb45 rfl rfl) ?_
     refine zw 11 hC ?_
     refine joinK_elim h (fun K5 hK h=>?_)
     refine sim_djoin 17 [15,14,13,12,11,10,9,8,7,6,5,4,3,2,1,0] [47,48,49,50] (fun ρ w=>K5 (ρ 50) w) (fun _ hT=>?_) (fun σ w hC h=>?_)
     · rcases Sw.guardP_cases h with ⟨hb,h⟩ | ⟨hb,h⟩
       · obtain ⟨t47,hv,h⟩:=h
         refine sim_dsilent 12 hC rfl (by kernel_rfl) (by kernel_rfl) (fun _ _=>Sw.guardP_true hb) rfl (Sw.qV_run rfl hv) ?_
         obtain ⟨t48,hv,h⟩:=h
         refine sim_dsilent 13 hC rfl (by kernel_rfl) (by kernel_rfl) (fun _ _=>Sw.guardP_true hb) rfl (Sw.qV_run rfl hv) ?_
         refine sim_dsilent 14 hC rfl (by kernel_rfl) (by kernel_rfl) (fun _ _=>Sw.guardP_true hb) rfl (Sw.move_run rfl) ?_
         obtain ⟨t50,hv,h⟩:=h
         refine sim_dsilent 15 hC rfl (by kernel_rfl) (by kernel_rfl) (fun _ _=>Sw.guardP_true hb) rfl (Sw.qV_bin rfl rfl rfl hv) ?_
         exact hT _ _ (by repeat (first | exact Sw.Fr.refl _ _ | refine Sw.Fr.put rfl ?_ | refine Sw.Fr.put_none ?_ | refine Sw.Fr.mix rfl ?_ | refine Sw.Fr.skipAll rfl ?_)) hC h
       · refine sim_dskip 12 hC rfl (by kernel_rfl) (by kernel_rfl) (fun _ _=>Sw.guardP_false hb) ?_
         refine sim_dskip 13 hC rfl (by kernel_rfl) (by kernel_rfl) (fun _ _=>Sw.guardP_false hb) ?_
         refine sim_dskip 14 hC rfl (by kernel_rfl) (by kernel_rfl) (fun _ _=>Sw.guardP_false hb) ?_
         refine sim_dskip 15 hC rfl (by kernel_rfl) (by kernel_rfl) (fun _ _=>Sw.guardP_false hb) ?_
         exact hT _ _ (by repeat (first | exact Sw.Fr.refl _ _ | refine Sw.Fr.put rfl ?_ | refine Sw.Fr.put_none ?_ | refine Sw.Fr.mix rfl ?_ | refine Sw.Fr.skipAll rfl ?_)) hC h
     subst hK
     obtain ⟨b51,hb51,h⟩:=Sw.pickK_elim h
     refine sim_dsilent 16 hC rfl (by kernel_rfl) (by kernel_rfl) (fun _ _=>rfl) rfl (Sw.pick_run hb51 rfl rfl) ?_
     refine zw 17 hC ?_
     refine joinK_elim h (fun K6 hK h=>?_)
     refine sim_djoin 12 [20,19,18,17,16,15,14,13,12,11,10,9,8,7,6,5,4,3,2,1,0] [53,54,55] (fun ρ w=>K6 (ρ 55) w) (fun _ hT=>?_) (fun σ w hC h=>?_)
     · rcases Sw.guardP_cases h with ⟨hb,h⟩ | ⟨hb,h⟩
       · refine sim_dsilent 18 hC rfl (by kernel_rfl) (by kernel_rfl) (fun _ _=>Sw.guardP_true hb) rfl (Sw.move_run rfl) ?_
         obtain ⟨t54,hv,h⟩:=h
         refine sim_dsilent 19 hC rfl (by kernel_rfl) (by kernel_rfl) (fun _ _=>Sw.guardP_true hb) rfl (Sw.qV_bin rfl rfl rfl hv) ?_
         refine sim_dsilent 20 hC rfl (by kernel_rfl) (by kernel_rfl) (fun _ _=>Sw.guardP_true hb) rfl (Sw.move_run rfl) ?_
         exact hT _ _ (by repeat (first | exact Sw.Fr.refl _ _ | refine Sw.Fr.put rfl ?_ | refine Sw.Fr.put_none ?_ | refine Sw.Fr.mix rfl ?_ | refine Sw.Fr.skipAll rfl ?_)) hC h
       · refine sim_dskip 18 hC rfl (by kernel_rfl) (by kernel_rfl) (fun _ _=>Sw.guardP_false hb) ?_
         refine sim_dskip 19 hC rfl (by kernel_rfl) (by kernel_rfl) (fun _ _=>Sw.guardP_false hb) ?_
         refine sim_dskip 20 hC rfl (by kernel_rfl) (by kernel_rfl) (fun _ _=>Sw.guardP_false hb) ?_
         exact hT _ _ (by repeat (first | exact Sw.Fr.refl _ _ | refine Sw.Fr.put rfl ?_ | refine Sw.Fr.put_none ?_ | refine Sw.Fr.mix rfl ?_ | refine Sw.Fr.skipAll rfl ?_)) hC h
     subst hK
     refine joinK_elim h (fun K7 hK h=>?_)
     refine sim_djoin 2 [30,29,28,27,26,25,24,23,22,21,20,19,18,17,16,15,14,13,12,11,10,9,8,7,6,5,4,3,2,1,0] [56,57,58,59,60,61,62,63,64,65] (fun ρ w=>K7 (ρ 65) w) (fun _ hT=>?_) (fun σ w hC h=>?_)
     · rcases Sw.guardP_cases h with ⟨hb,h⟩ | ⟨hb,h⟩
       · obtain ⟨t56,hv,h⟩:=h
         refine sim_dsilent 21 hC rfl (by kernel_rfl) (by kernel_rfl) (fun _ _=>Sw.guardP_true hb) rfl (Sw.qV_run rfl hv) ?_
         obtain ⟨t57,hv,h⟩:=h
         refine sim_dsilent 22 hC rfl (by kernel_rfl) (by kernel_rfl) (fun _ _=>Sw.guardP_true hb) rfl (Sw.qV_run rfl hv) ?_
         obtain ⟨t58,hv,h⟩:=h
         refine sim_dsilent 23 hC rfl (by kernel_rfl) (by kernel_rfl) (fun _ _=>Sw.guardP_true hb) rfl (Sw.qV_run rfl hv) ?_
         obtain ⟨t59,hv,h⟩:=h
         refine sim_dsilent 24 hC rfl (by kernel_rfl) (by kernel_rfl) (fun _ _=>Sw.guardP_true hb) rfl (Sw.qV_run rfl hv) ?_
         refine sim_dsilent 25 hC rfl (by kernel_rfl) (by kernel_rfl) (fun _ _=>Sw.guardP_true hb) rfl (Sw.move_run rfl) ?_
         obtain ⟨t61,hv,h⟩:=h
         refine sim_dsilent 26 hC rfl (by kernel_rfl) (by kernel_rfl) (fun _ _=>Sw.guardP_true hb) rfl (Sw.qV_bin rfl rfl rfl hv) ?_
         obtain ⟨t62,hv,h⟩:=h
         refine sim_dsilent 27 hC rfl (by kernel_rfl) (by kernel_rfl) (fun _ _=>Sw.guardP_true hb) rfl (Sw.qV_run rfl hv) ?_
         obtain ⟨t63,hv,h⟩:=h
         refine sim_dsilent 28 hC rfl (by kernel_rfl) (by kernel_rfl) (fun _ _=>Sw.guardP_true hb) rfl (Sw.qV_run rfl hv) ?_
         obtain ⟨t64,hv,h⟩:=h
         refine sim_dsilent 29 hC rfl (by kernel_rfl) (by kernel_rfl) (fun _ _=>Sw.guardP_true hb) rfl (Sw.qV_run rfl hv) ?_
         obtain ⟨t65,hv,h⟩:=h
         refine sim_dsilent 30 hC rfl (by kernel_rfl) (by kernel_rfl) (fun _ _=>Sw.guardP_true hb) rfl (Sw.qV_bin rfl rfl rfl hv) ?_
         exact hT _ _ (by repeat (first | exact Sw.Fr.refl _ _ | refine Sw.Fr.put rfl ?_ | refine Sw.Fr.put_none ?_ | refine Sw.Fr.mix rfl ?_ | refine Sw.Fr.skipAll rfl ?_)) hC h
       · refine sim_dskip 21 hC rfl (by kernel_rfl) (by kernel_rfl) (fun _ _=>Sw.guardP_false hb) ?_
         refine sim_dskip 22 hC rfl (by kernel_rfl) (by kernel_rfl) (fun _ _=>Sw.guardP_false hb) ?_
         refine sim_dskip 23 hC rfl (by kernel_rfl) (by kernel_rfl) (fun _ _=>Sw.guardP_false hb) ?_
         refine sim_dskip 24 hC rfl (by kernel_rfl) (by kernel_rfl) (fun _ _=>Sw.guardP_false hb) ?_
         refine sim_dskip 25 hC rfl (by kernel_rfl) (by kernel_rfl) (fun _ _=>Sw.guardP_false hb) ?_
         refine sim_dskip 26 hC rfl (by kernel_rfl) (by kernel_rfl) (fun _ _=>Sw.guardP_false hb) ?_
         refine sim_dskip 27 hC rfl (by kernel_rfl) (by kernel_rfl) (fun _ _=>Sw.guardP_false hb) ?_
         refine sim_dskip 28 hC rfl (by kernel_rfl) (by kernel_rfl) (fun _ _=>Sw.guardP_false hb) ?_
         refine sim_dskip 29 hC rfl (by kernel_rfl) (by kernel_rfl) (fun _ _=>Sw.guardP_false hb) ?_
         refine sim_dskip 30 hC rfl (by kernel_rfl) (by kernel_rfl) (fun _ _=>Sw.guardP_false hb) ?_
         exact hT _ _ (by repeat (first | exact Sw.Fr.refl _ _ | refine Sw.Fr.put rfl ?_ | refine Sw.Fr.put_none ?_ | refine Sw.Fr.mix rfl ?_ | refine Sw.Fr.skipAll rfl ?_)) hC h
     subst hK
     refine joinK_elim h (fun K8 hK h=>?_)
     refine sim_djoin 1 [31,30,29,28,27,26,25,24,23,22,21,20,19,18,17,16,15,14,13,12,11,10,9,8,7,6,5,4,3,2,1,0] [66] (fun ρ w=>K8 (ρ 66) w) (fun _ hT=>?_) (fun σ w hC h=>?_)
     · rcases Sw.guardP_cases h with ⟨hb,h⟩ | ⟨hb,h⟩
       · obtain ⟨b66,hb66,h⟩:=Sw.pickK_elim h
         refine sim_dsilent 31 hC rfl (by kernel_rfl) (by kernel_rfl) (fun _ _=>Sw.guardP_true hb) rfl (Sw.pick_run hb66 rfl rfl) ?_
         exact hT _ _ (by repeat (first | exact Sw.Fr.refl _ _ | refine Sw.Fr.put rfl ?_ | refine Sw.Fr.put_none ?_ | refine Sw.Fr.mix rfl ?_ | refine Sw.Fr.skipAll rfl ?_)) hC h
       · refine sim_dskip 31 hC rfl (by kernel_rfl) (by kernel_rfl) (fun _ _=>Sw.guardP_false hb) ?_
         exact hT _ _ (by repeat (first | exact Sw.Fr.refl _ _ | refine Sw.Fr.put rfl ?_ | refine Sw.Fr.put_none ?_ | refine Sw.Fr.mix rfl ?_ | refine Sw.Fr.skipAll rfl ?_)) hC h
     subst hK
     obtain ⟨b67,hb67,h⟩:=Sw.pickK_elim h
     refine sim_dsilent 32 hC rfl (by kernel_rfl) (by kernel_rfl) (fun _ _=>rfl) rfl (Sw.pick_run hb67 rfl rfl) ?_
     refine sim_dend (by kernel_rfl) ?_
     refine zk ?_
     refine sim_cond h rfl (fun h=>?_) (fun h=>?_)
     · refine zs<|zr<|zm<|zn<|zk<|sim_ret<|sim_then_ret<|sim_block_ret<|sim_then_ret<|sim_then_ret<|sim_block_ret<|sim_then_ret ?_
       exact body_ret1 rfl rfl h
     · refine sim_skip<|zk<|zs<|zr ?_
       refine zv h fun t68 w h=>?_
       refine zv h fun t69 w h=>?_
       refine zv h fun t70 w h=>?_
       refine zm ?_
       refine zc h c26 fun t72 w h=>?_
       refine zb h fun t73 w h=>?_
       refine zn<|zk ?_
       refine sim_cond h rfl (fun h=>?_) (fun h=>?_)
       · refine zs<|zr<|zm<|zn<|zk<|sim_ret<|sim_block_ret<|sim_then_ret<|sim_then_ret<|sim_block_ret<|sim_then_ret ?_
         exact body_ret1 rfl rfl h
       · refine sim_skip<|sim_block_normal<|zk<|zr<|zm ?_
         refine zb h fun t29 w h=>?_
         refine zm<|zn<|zk ?_
         exact ⟨rfl,h⟩
   · refine sim_exit<|sim_then_exit<|sim_then_exit<|sim_block_hit<|zk<|zs<|zr<|zm<|zn<|zk<|sim_ret ?_
     exact body_ret1 rfl rfl h
def n41c1 (t1 t5 t9:Value) (R:RT) (w:World):Prop :=
 pickK t5 (.bool true) t9 fun t10 =>
 joinK (fun (t14:Value) (w:World) =>
 pickK t10 (.bool true) t14 fun t15 =>
 R (.returned t15) w) fun K2 =>
 guardP t10 false (
 F0 52 t1 1 R w fun t12 w =>
 L0 46 t12 R w fun t13 w =>
 B0 .eql 46 true t13 (.int .i64 3) R w fun t14 w =>
 K2 t14 w) (
 K2 undef w)
def n41 (t0:Value) (R:RT) (w:World):Prop :=
 opV Pg (Instr.box 52 t0) (panK R) w fun t1 w =>
 F0 52 t1 1 R w fun t3 w =>
 L0 46 t3 R w fun t4 w =>
 B0 .eql 46 true t4 (.int .i64 1) R w fun t5 w =>
 joinK (fun (t9:Value) (w:World) =>
 n41c1 t1 t5 t9 R w) fun K1 =>
 guardP t5 false (
 F0 52 t1 1 R w fun t7 w =>
 L0 46 t7 R w fun t8 w =>
 B0 .eql 46 true t8 (.int .i64 2) R w fun t9 w =>
 K1 t9 w) (
 K1 undef w)
theorem n41s {t0:Value} {R:RT} {w:World} (h:n41 t0 R w):Calls Pg 64 #[t0] w R:=by
 refine calls_of_den (args:=[t0]) Tryz.func64 rfl (Nat.le_of_ble_eq_true rfl) ?_
 unfold n41 at h
 refine zs<|zr ?_
 refine zv h fun t1 w h=>?_
 refine zm<|zn<|zk<|zs<|sim_regionG ?_
 refine sim_seg 4 rfl ?_
 refine zv h fun t3 w h=>?_
 refine zv h fun t4 w h=>?_
 refine zb h fun t5 w h=>?_
 refine zm<|zn ?_
 refine joinK_elim h (fun K1 hK h=>?_)
 refine sim_groupJ 3 3 false [7,8,9] (fun ρ w=>K1 (ρ 9) w) rfl rfl (fun T hT=>guardP_mono h (fun h=>?_) (fun h=>?_)) (fun σ w h=>?_)
 · refine zv h fun t7 w h=>?_
   refine zv h fun t8 w h=>?_
   refine zb h fun t9 w h=>?_
   refine zn ?_
   exact zt hT h
 · exact zt hT h
 subst hK
 refine sim_seg 2 rfl ?_
 refine sim_pick h rfl rfl rfl ?_;intro t10 h
 refine zm<|zn ?_
 refine joinK_elim h (fun K2 hK h=>?_)
 refine sim_groupJ 3 8 false [12,13,14] (fun ρ w=>K2 (ρ 14) w) rfl rfl (fun T hT=>guardP_mono h (fun h=>?_) (fun h=>?_)) (fun σ w h=>?_)
 · refine zv h fun t12 w h=>?_
   refine zv h fun t13 w h=>?_
   refine zb h fun t14 w h=>?_
   refine zn ?_
   exact zt hT h
 · exact zt hT h
 subst hK
 refine sim_seg 2 rfl ?_
 refine sim_pick h rfl rfl rfl ?_;intro t15 h
 refine zm<|zn<|sim_end<|zk<|sim_ret ?_
 exact body_ret1 rfl rfl h
def n110 (t0 t1:Value) (R:RT) (w:World):Prop :=
 C0 75 #[t0,t1] R w fun t7 w =>
 B0 .geq 3 true t7 (.int .i64 0) R w fun t8 w =>
 R (.returned t8) w
theorem n110s {t0 t1:Value} {R:RT} {w:World} (h:n110 t0 t1 R w):Calls Pg 65 #[t0,t1] w R:=by
 refine calls_of_den (args:=[t0,t1]) Tryz.func65 rfl (Nat.le_of_ble_eq_true rfl) ?_
 unfold n110 at h
 refine zs<|zr<|zm<|zn<|zk<|zs<|zr<|zm<|zm ?_
 refine zc h c75 fun t7 w h=>?_
 refine zb h fun t8 w h=>?_
 refine zm<|zn<|zk<|sim_ret ?_
 exact body_ret1 rfl rfl h
def n116c1 (t0 t1 t8:Value) (next1:KV) (R:RT) (w:World):Prop :=
 X0 100 t0 t8 R w fun t14 w =>
 L0 5 t14 R w fun t15 w =>
 callV Pg t1 #[t15] (panK R) w fun t16 w =>
 condP t16 (
 R (.returned t8) w) (
 B0 .add 3 true t8 (.int .i64 1) R w fun t18 w =>
 next1 t18 w)
def n116 (t0 t1:Value) (R:RT) (w:World):Prop :=
 opV Pg (Builtin.len_ #[100] 3 #[t0]) (panK R) w fun t7 w =>
 loop1 (fun t8 w next1 =>
 B0 .lss 3 false t8 t7 R w fun t9 w =>
 condP t9 (
 n116c1 t0 t1 t8 next1 R w) (
 R (.returned (.int .i64 (-1))) w)) (.int .i64 0) w
theorem n116s {t0 t1:Value} {R:RT} {w:World} (h:n116 t0 t1 R w):Calls Pg 66 #[t0,t1] w R:=by
 refine calls_of_den (args:=[t0,t1]) Tryz.func66 rfl (Nat.le_of_ble_eq_true rfl) ?_
 unfold n116 at h
 refine zs<|zr<|zm<|zn<|zk<|zs<|zs<|zr<|zm ?_
 refine zx h fun t7 w h=>?_
 refine zm<|zn<|zk<|sim_block ?_
 obtain ⟨I,μ,h0,hr⟩:=h
 refine sim_loop [4,5,8,9,10,11,12,13,14,15,16,17,18] (by kernel_rfl) (fun ρ w=>I (ρ 8) w) (fun ρ w=>μ (ρ 8) w) h0 (fun σ w hI=>?_)
 have h:=hr _ _ hI
 clear hr h0 hI
 refine zs<|zr ?_
 refine zb h fun t9 w h=>?_
 refine zn<|zk<|zs ?_
 refine sim_cond h rfl (fun h=>?_) (fun h=>?_)
 · refine sim_skip<|zk<|zs<|sim_block<|zs<|zr<|zm<|zm<|zn<|zk<|zs<|zr<|zm<|zm<|zm ?_
   refine zv h fun t14 w h=>?_
   refine zv h fun t15 w h=>?_
   refine sim_callV h rfl rfl (fun _ _ h=>⟨rfl,h⟩) ?_;intro t16 w h
   refine zn<|zk ?_
   refine sim_cond h rfl (fun h=>?_) (fun h=>?_)
   · refine zs<|zr<|zm<|zm<|zn<|zk<|sim_ret<|sim_block_ret<|sim_then_ret<|sim_then_ret<|sim_block_ret<|sim_then_ret ?_
     exact body_ret1 rfl rfl h
   · refine sim_skip<|sim_block_normal<|zk<|zr ?_
     refine zb h fun t18 w h=>?_
     refine zm<|zn<|zk ?_
     exact ⟨rfl,h⟩
 · refine sim_exit<|sim_then_exit<|sim_then_exit<|sim_block_hit<|zk<|zs<|zr<|zm<|zn<|zk<|sim_ret ?_
   exact body_ret1 rfl rfl h
def n38 (t0 t1:Value) (R:RT) (w:World):Prop :=
 opV Pg (Instr.box 45 t0) (panK R) w fun t2 w =>
 opV Pg (Instr.box 9 t1) (panK R) w fun t3 w =>
 F0 45 t2 1 R w fun t6 w =>
 L0 43 t6 R w fun t7 w =>
 opV Pg (Instr.makeFunc (.func 77) #[] #[t3]) (panK R) w fun t8 w =>
 C0 76 #[t7,t8] R w fun t9 w =>
 opV Pg (Instr.extract t9 0) (panK R) w fun t10 w =>
 opV Pg (Instr.extract t9 1) (panK R) w fun t11 w =>
 R (.returned (.tuple #[t10,t11])) w
theorem n38s {t0 t1:Value} {R:RT} {w:World} (h:n38 t0 t1 R w):Calls Pg 67 #[t0,t1] w R:=by
 refine calls_of_den (args:=[t0,t1]) Tryz.func67 rfl (Nat.le_of_ble_eq_true rfl) ?_
 unfold n38 at h
 refine zs<|zr ?_
 refine zv h fun t2 w h=>?_
 refine zv h fun t3 w h=>?_
 refine zm<|zm<|zn<|zk<|zs<|zr ?_
 refine zv h fun t6 w h=>?_
 refine zv h fun t7 w h=>?_
 refine sim_makeFunc h rfl rfl (fun _ _ h=>⟨rfl,h⟩) ?_;intro t8 w h
 refine zc h c76 fun t9 w h=>?_
 refine zv h fun t10 w h=>?_
 refine zv h fun t11 w h=>?_
 refine zm<|zm<|zn<|zk<|sim_ret ?_
 exact body_ret2 rfl rfl rfl h
def n49c1 (t0:Value) (C1:World→Prop) (R:RT) (w:World):Prop :=
 qN Pg C1 (nilN t0) fun t4 =>
 qV Pg C1 (Instr.fieldAt 65 t4 5) fun t5 =>
 qV Pg C1 (Instr.fieldAt 45 t5 1) fun t6 =>
 qV Pg C1 (Instr.loadAt 43 t6) fun t7 =>
 qN Pg C1 (nilN t0) fun t9 =>
 qV Pg C1 (Instr.fieldAt 65 t9 4) fun t10 =>
 qV Pg C1 (Instr.loadAt 3 t10) fun t11 =>
 qV Pg C1 (Instr.sliceAt 43 t7 none (some t11) none) fun t12 =>
 R (.returned t12) w
def n49 (t0:Value) (R:RT) (w:World):Prop :=
 drawK w fun C1 w =>
 n49c1 t0 C1 R w
theorem n49s {t0:Value} {R:RT} {w:World} (h:n49 t0 R w):Calls Pg 68 #[t0] w R:=by
 refine calls_of_den (args:=[t0]) Tryz.func68 rfl (Nat.le_of_ble_eq_true rfl) ?_
 unfold n49 at h
 refine zs<|zr<|zm<|zn<|zk<|zs ?_
 obtain ⟨C1,hC,h⟩:=h
 refine sim_draw [2,3,4,5,6,7,8,9,10,11,12] (by kernel_rfl) (by kernel_rfl) C1 ?_
 refine zw 0 hC ?_
 obtain ⟨t4,hv,h⟩:=h
 refine sim_dsilent 1 hC rfl (by kernel_rfl) (by kernel_rfl) (fun _ _=>rfl) rfl (Sw.qN_run rfl hv) ?_
 refine ze 2 hC h fun t5 h=>?_
 refine ze 3 hC h fun t6 h=>?_
 refine ze 4 hC h fun t7 h=>?_
 refine zw 5 hC ?_
 obtain ⟨t9,hv,h⟩:=h
 refine sim_dsilent 6 hC rfl (by kernel_rfl) (by kernel_rfl) (fun _ _=>rfl) rfl (Sw.qN_run rfl hv) ?_
 refine ze 7 hC h fun t10 h=>?_
 refine ze 8 hC h fun t11 h=>?_
 refine ze 9 hC h fun t12 h=>?_
 refine zw 10 hC ?_
 refine sim_dend (by kernel_rfl) ?_
 refine zk<|sim_ret ?_
 exact body_ret1 rfl rfl h
def n62 (R:RT) (w:World):Prop :=
 opV Pg (Instr.makeMap 123 none) (panK R) w fun t1 w =>
 opV Pg (Instr.build 121 #[(0,(.func (.func 78) #[] #[])),(1,(.func (.func 79) #[] #[]))]) (panK R) w fun t2 w =>
 opU Pg (Instr.mapUpdate 123 t1 (.int .i64 1) t2) (panK R) w fun w =>
 opV Pg (Instr.build 121 #[(0,(.func (.func 82) #[] #[])),(1,(.func (.func 83) #[] #[]))]) (panK R) w fun t3 w =>
 opU Pg (Instr.mapUpdate 123 t1 (.int .i64 2) t3) (panK R) w fun w =>
 opV Pg (Instr.build 121 #[(0,(.func (.func 84) #[] #[])),(1,(.func (.func 85) #[] #[]))]) (panK R) w fun t4 w =>
 opU Pg (Instr.mapUpdate 123 t1 (.int .i64 3) t4) (panK R) w fun w =>
 opV Pg (Instr.build 121 #[(0,(.func (.func 86) #[] #[])),(1,(.func (.func 87) #[] #[]))]) (panK R) w fun t5 w =>
 opU Pg (Instr.mapUpdate 123 t1 (.int .i64 4) t5) (panK R) w fun w =>
 opV Pg (Instr.build 121 #[(0,(.func (.func 88) #[] #[])),(1,(.func (.func 89) #[] #[]))]) (panK R) w fun t6 w =>
 opU Pg (Instr.mapUpdate 123 t1 (.int .i64 5) t6) (panK R) w fun w =>
 opV Pg (Instr.build 121 #[(0,(.func (.func 90) #[] #[])),(1,(.func (.func 91) #[] #[]))]) (panK R) w fun t7 w =>
 opU Pg (Instr.mapUpdate 123 t1 (.int .i64 6) t7) (panK R) w fun w =>
 opV Pg (Instr.build 121 #[(0,(.func (.func 92) #[] #[])),(1,(.func (.func 93) #[] #[]))]) (panK R) w fun t8 w =>
 opU Pg (Instr.mapUpdate 123 t1 (.int .i64 7) t8) (panK R) w fun w =>
 opV Pg (Instr.build 121 #[(0,(.func (.func 95) #[] #[])),(1,(.func (.func 96) #[] #[]))]) (panK R) w fun t9 w =>
 opU Pg (Instr.mapUpdate 123 t1 (.int .i64 8) t9) (panK R) w fun w =>
 opV Pg (Instr.build 121 #[(0,(.func (.func 97) #[] #[])),(1,(.func (.func 98) #[] #[]))]) (panK R) w fun t10 w =>
 opU Pg (Instr.mapUpdate 123 t1 (.int .i64 9) t10) (panK R) w fun w =>
 opV Pg (Instr.build 121 #[(0,(.func (.func 99) #[] #[])),(1,(.func (.func 100) #[] #[]))]) (panK R) w fun t11 w =>
 opU Pg (Instr.mapUpdate 123 t1 (.int .i64 10) t11) (panK R) w fun w =>
 opV Pg (Instr.build 121 #[(0,(.func (.func 101) #[] #[])),(1,(.func (.func 102) #[] #[]))]) (panK R) w fun t12 w =>
 opU Pg (Instr.mapUpdate 123 t1 (.int .i64 11) t12) (panK R) w fun w =>
 opV Pg (Instr.build 121 #[(0,(.func (.func 103) #[] #[])),(1,(.func (.func 104) #[] #[]))]) (panK R) w fun t13 w =>
 opU Pg (Instr.mapUpdate 123 t1 (.int .i64 12) t13) (panK R) w fun w =>
 R (.returned t1) w
theorem n62s {R:RT} {w:World} (h:n62 R w):Calls Pg 69 #[] w R:=by
 refine calls_of_den (args:=[]) Tryz.func69 rfl (Nat.le_of_ble_eq_true rfl) ?_
 unfold n62 at h
 refine zs<|zr<|zm<|zn<|zk<|zs<|zr ?_
 refine zv h fun t1 w h=>?_
 refine sim_build h rfl (fun _ _ h=>⟨rfl,h⟩) ?_;intro t2 w h
 refine zu h fun w h=>?_
 refine sim_build h rfl (fun _ _ h=>⟨rfl,h⟩) ?_;intro t3 w h
 refine zu h fun w h=>?_
 refine sim_build h rfl (fun _ _ h=>⟨rfl,h⟩) ?_;intro t4 w h
 refine zu h fun w h=>?_
 refine sim_build h rfl (fun _ _ h=>⟨rfl,h⟩) ?_;intro t5 w h
 refine zu h fun w h=>?_
 refine sim_build h rfl (fun _ _ h=>⟨rfl,h⟩) ?_;intro t6 w h
 refine zu h fun w h=>?_
 refine sim_build h rfl (fun _ _ h=>⟨rfl,h⟩) ?_;intro t7 w h
 refine zu h fun w h=>?_
 refine sim_build h rfl (fun _ _ h=>⟨rfl,h⟩) ?_;intro t8 w h
 refine zu h fun w h=>?_
 refine sim_build h rfl (fun _ _ h=>⟨rfl,h⟩) ?_;intro t9 w h
 refine zu h fun w h=>?_
 refine sim_build h rfl (fun _ _ h=>⟨rfl,h⟩) ?_;intro t10 w h
 refine zu h fun w h=>?_
 refine sim_build h rfl (fun _ _ h=>⟨rfl,h⟩) ?_;intro t11 w h
 refine zu h fun w h=>?_
 refine sim_build h rfl (fun _ _ h=>⟨rfl,h⟩) ?_;intro t12 w h
 refine zu h fun w h=>?_
 refine sim_build h rfl (fun _ _ h=>⟨rfl,h⟩) ?_;intro t13 w h
 refine zu h fun w h=>?_
 refine zm<|zm<|zn<|zk<|sim_ret ?_
 exact body_ret1 rfl rfl h
end Go.Proofs.YtiajhbbmgglmlaaGreat
namespace Go.Proofs.YtiajhbbmgglmlaaGreat
open Sw
def n118c1 (t0 t1 t8:Value) (next1:KV) (R:RT) (w:World):Prop :=
 X0 69 t0 t8 R w fun t14 w =>
 L0 9 t14 R w fun t15 w =>
 B0 .eql 9 false t1 t15 R w fun t16 w =>
 condP t16 (
 R (.returned t8) w) (
 B0 .add 3 true t8 (.int .i64 1) R w fun t18 w =>
 next1 t18 w)
def n118 (t0 t1:Value) (R:RT) (w:World):Prop :=
 opV Pg (Builtin.len_ #[69] 3 #[t0]) (panK R) w fun t7 w =>
 loop1 (fun t8 w next1 =>
 B0 .lss 3 false t8 t7 R w fun t9 w =>
 condP t9 (
 n118c1 t0 t1 t8 next1 R w) (
 R (.returned (.int .i64 (-1))) w)) (.int .i64 0) w
theorem n118s {t0 t1:Value} {R:RT} {w:World} (h:n118 t0 t1 R w):Calls Pg 108 #[t0,t1] w R:=by
 refine calls_of_den (args:=[t0,t1]) Tryz.func108 rfl (Nat.le_of_ble_eq_true rfl) ?_
 unfold n118 at h
 refine zs<|zr<|zm<|zn<|zk<|zs<|zs<|zr<|zm ?_
 refine zx h fun t7 w h=>?_
 refine zm<|zn<|zk<|sim_block ?_
 obtain ⟨I,μ,h0,hr⟩:=h
 refine sim_loop [4,5,8,9,10,11,12,13,14,15,16,17,18] (by kernel_rfl) (fun ρ w=>I (ρ 8) w) (fun ρ w=>μ (ρ 8) w) h0 (fun σ w hI=>?_)
 have h:=hr _ _ hI
 clear hr h0 hI
 refine zs<|zr ?_
 refine zb h fun t9 w h=>?_
 refine zn<|zk<|zs ?_
 refine sim_cond h rfl (fun h=>?_) (fun h=>?_)
 · refine sim_skip<|zk<|zs<|sim_block<|zs<|zr<|zm<|zm<|zn<|zk<|zs<|zr<|zm<|zm<|zm ?_
   refine zv h fun t14 w h=>?_
   refine zv h fun t15 w h=>?_
   refine zb h fun t16 w h=>?_
   refine zn<|zk ?_
   refine sim_cond h rfl (fun h=>?_) (fun h=>?_)
   · refine zs<|zr<|zm<|zm<|zn<|zk<|sim_ret<|sim_block_ret<|sim_then_ret<|sim_then_ret<|sim_block_ret<|sim_then_ret ?_
     exact body_ret1 rfl rfl h
   · refine sim_skip<|sim_block_normal<|zk<|zr ?_
     refine zb h fun t18 w h=>?_
     refine zm<|zn<|zk ?_
     exact ⟨rfl,h⟩
 · refine sim_exit<|sim_then_exit<|sim_then_exit<|sim_block_hit<|zk<|zs<|zr<|zm<|zn<|zk<|sim_ret ?_
   exact body_ret1 rfl rfl h
def n15 (t0:Value) (R:RT) (w:World):Prop :=
 opV Pg (binS .geq 3 true t0 (.int .i64 (-1048576))) (panK R) w fun t4 w =>
 joinK (fun (t7:Value) (w:World) =>
 pickK t4 t7 (.bool false) fun t8 =>
 R (.returned t8) w) fun K1 =>
 guardP t4 true (
 B0 .leq 3 true t0 (.int .i64 1048576) R w fun t7 w =>
 K1 t7 w) (
 K1 undef w)
theorem n15s {t0:Value} {R:RT} {w:World} (h:n15 t0 R w):Calls Pg 109 #[t0] w R:=by
 refine calls_of_den (args:=[t0]) Tryz.func109 rfl (Nat.le_of_ble_eq_true rfl) ?_
 unfold n15 at h
 refine zs<|zr<|zm<|zn<|zk<|zs<|sim_regionG ?_
 refine sim_seg 3 rfl ?_
 refine zm ?_
 refine zb h fun t4 w h=>?_
 refine zm<|zn ?_
 refine joinK_elim h (fun K1 hK h=>?_)
 refine sim_groupJ 2 2 true [6,7] (fun ρ w=>K1 (ρ 7) w) rfl rfl (fun T hT=>guardP_mono h (fun h=>?_) (fun h=>?_)) (fun σ w h=>?_)
 · refine zm ?_
   refine zb h fun t7 w h=>?_
   refine zn ?_
   exact zt hT h
 · exact zt hT h
 subst hK
 refine sim_seg 2 rfl ?_
 refine sim_pick h rfl rfl rfl ?_;intro t8 h
 refine zm<|zn<|sim_end<|zk<|sim_ret ?_
 exact body_ret1 rfl rfl h
def n9c1 (t0 t1 t5 t6:Value) (next1:KW) (R:RT) (w:World):Prop :=
 X0 127 t0 t6 R w fun t15 w =>
 F0 129 t15 0 R w fun t16 w =>
 L0 9 t16 R w fun t17 w =>
 B0 .eql 9 false t17 t1 R w fun t19 w =>
 joinK (fun (t5:Value) (w:World) =>
 B0 .add 3 true t6 (.int .i64 1) R w fun t12 w =>
 next1 t5 t12 w) fun K2 =>
 condP t19 (
 K2 t6 w) (
 K2 t5 w)
def n9c2 (t0 t1 t5 t6:Value) (next1:KW) (R:RT) (w:World):Prop :=
 opV Pg (Builtin.len_ #[127] 3 #[t0]) (panK R) w fun t9 w =>
 B0 .lss 3 false t6 t9 R w fun t10 w =>
 condP t10 (
 n9c1 t0 t1 t5 t6 next1 R w) (
 R (.returned t5) w)
def n9 (t0 t1:Value) (R:RT) (w:World):Prop :=
 loop2 (fun t5 t6 w next1 =>
 n9c2 t0 t1 t5 t6 next1 R w) (.int .i64 (-1)) (.int .i64 0) w
theorem n9s {t0 t1:Value} {R:RT} {w:World} (h:n9 t0 t1 R w):Calls Pg 110 #[t0,t1] w R:=by
 refine calls_of_den (args:=[t0,t1]) Tryz.func110 rfl (Nat.le_of_ble_eq_true rfl) ?_
 unfold n9 at h
 refine zs<|zr<|zm<|zn<|zk<|zs<|zr<|zm<|zn<|zk<|zs<|zs<|zr<|zm<|zn<|zk<|sim_block ?_
 obtain ⟨I,μ,h0,hr⟩:=h
 refine sim_loop [5,6,7,8,9,10,11,12,13,14,15,16,17,18,19,20] (by kernel_rfl) (fun ρ w=>I (ρ 5) (ρ 6) w) (fun ρ w=>μ (ρ 5) (ρ 6) w) h0 (fun σ w hI=>?_)
 have h:=hr _ _ _ hI
 clear hr h0 hI
 refine zs<|zs<|zr<|zm<|zm ?_
 refine zx h fun t9 w h=>?_
 refine zb h fun t10 w h=>?_
 refine zn<|zk ?_
 refine sim_cond h rfl (fun h=>?_) (fun h=>?_)
 · refine sim_skip<|zk<|zs<|sim_block<|zs<|zr<|zm<|zm ?_
   refine zv h fun t15 w h=>?_
   refine zv h fun t16 w h=>?_
   refine zv h fun t17 w h=>?_
   refine zm ?_
   refine zb h fun t19 w h=>?_
   refine zn<|zk ?_
   refine joinK_elim h (fun K2 hK h=>?_)
   refine sim_joinQ [5,20] (fun ρ w=>K2 (ρ 5) w) (fun _ hkK2=>?_) (fun σ w h=>?_)
   · refine sim_cond h rfl (fun h=>?_) (fun h=>?_)
     · refine zr<|zm<|zm<|zn<|zk ?_
       exact zt hkK2 h
     · refine sim_skip<|zk ?_
       exact zt hkK2 h
   subst hK
   refine sim_block_normal<|zk<|zr<|zm ?_
   refine zb h fun t12 w h=>?_
   refine zm<|zn<|zk ?_
   exact ⟨rfl,h⟩
 · refine sim_exit<|sim_then_exit<|sim_then_exit<|sim_block_hit<|zk<|zs<|zr<|zm<|zm<|zn<|zk<|sim_ret ?_
   exact body_ret1 rfl rfl h
def n114c1 (t0 t1 t8:Value) (next1:KV) (R:RT) (w:World):Prop :=
 X0 43 t0 t8 R w fun t14 w =>
 L0 52 t14 R w fun t15 w =>
 callV Pg t1 #[t15] (panK R) w fun t16 w =>
 condP t16 (
 R (.returned t8) w) (
 B0 .add 3 true t8 (.int .i64 1) R w fun t18 w =>
 next1 t18 w)
def n114 (t0 t1:Value) (R:RT) (w:World):Prop :=
 opV Pg (Builtin.len_ #[43] 3 #[t0]) (panK R) w fun t7 w =>
 loop1 (fun t8 w next1 =>
 B0 .lss 3 false t8 t7 R w fun t9 w =>
 condP t9 (
 n114c1 t0 t1 t8 next1 R w) (
 R (.returned (.int .i64 (-1))) w)) (.int .i64 0) w
theorem n114s {t0 t1:Value} {R:RT} {w:World} (h:n114 t0 t1 R w):Calls Pg 111 #[t0,t1] w R:=by
 refine calls_of_den (args:=[t0,t1]) Tryz.func111 rfl (Nat.le_of_ble_eq_true rfl) ?_
 unfold n114 at h
 refine zs<|zr<|zm<|zn<|zk<|zs<|zs<|zr<|zm ?_
 refine zx h fun t7 w h=>?_
 refine zm<|zn<|zk<|sim_block ?_
 obtain ⟨I,μ,h0,hr⟩:=h
 refine sim_loop [4,5,8,9,10,11,12,13,14,15,16,17,18] (by kernel_rfl) (fun ρ w=>I (ρ 8) w) (fun ρ w=>μ (ρ 8) w) h0 (fun σ w hI=>?_)
 have h:=hr _ _ hI
 clear hr h0 hI
 refine zs<|zr ?_
 refine zb h fun t9 w h=>?_
 refine zn<|zk<|zs ?_
 refine sim_cond h rfl (fun h=>?_) (fun h=>?_)
 · refine sim_skip<|zk<|zs<|sim_block<|zs<|zr<|zm<|zm<|zn<|zk<|zs<|zr<|zm<|zm<|zm ?_
   refine zv h fun t14 w h=>?_
   refine zv h fun t15 w h=>?_
   refine sim_callV h rfl rfl (fun _ _ h=>⟨rfl,h⟩) ?_;intro t16 w h
   refine zn<|zk ?_
   refine sim_cond h rfl (fun h=>?_) (fun h=>?_)
   · refine zs<|zr<|zm<|zm<|zn<|zk<|sim_ret<|sim_block_ret<|sim_then_ret<|sim_then_ret<|sim_block_ret<|sim_then_ret ?_
     exact body_ret1 rfl rfl h
   · refine sim_skip<|sim_block_normal<|zk<|zr ?_
     refine zb h fun t18 w h=>?_
     refine zm<|zn<|zk ?_
     exact ⟨rfl,h⟩
 · refine sim_exit<|sim_then_exit<|sim_then_exit<|sim_block_hit<|zk<|zs<|zr<|zm<|zn<|zk<|sim_ret ?_
   exact body_ret1 rfl rfl h
def n98c1 (t1 t6 t15:Value) (C1:World→Prop) (R:RT) (w:World):Prop :=
 joinK (fun (t21:Value) (w:World) =>
 pickK t15 t21 (.bool false) fun t22 =>
 R (.returned t22) w) fun K2 =>
 guardP t15 true (
 qV Pg C1 (Instr.fieldAt 49 t1 1) fun t17 =>
 qV Pg C1 (Instr.loadAt 47 t17) fun t18 =>
 C0 119 #[t18,t6] R w fun t20 w =>
 C1 w∧(
 qV Pg C1 (Op.unary .not t20) fun t21 =>
 K2 t21 w)) (
 K2 undef w)
def n98c2 (t1 t6 t9 t13:Value) (C1:World→Prop) (R:RT) (w:World):Prop :=
 C1 w∧(
 opV Pg (Instr.buildSlice 33 2 #[(0,t9),(1,t13)]) (panK R) w fun t14 w =>
 C1 w∧(
 C0 51 #[t14] R w fun t15 w =>
 C1 w∧(
 n98c1 t1 t6 t15 C1 R w)))
def n98c3 (t1 t6:Value) (C1:World→Prop) (R:RT) (w:World):Prop :=
 qV Pg C1 (Instr.fieldAt 49 t1 0) fun t7 =>
 qV Pg C1 (Instr.loadAt 3 t7) fun t8 =>
 qV Pg C1 (Instr.fieldAt 49 t1 1) fun t10 =>
 qV Pg C1 (Instr.loadAt 47 t10) fun t11 =>
 qV Pg C1 (Builtin.len_ #[47] 3 #[t11]) fun t12 =>
 qV Pg C1 (binS .leq 3 true t12 (.int .i64 4)) fun t13 =>
 C0 118 #[t8] R w fun t9 w =>
 n98c2 t1 t6 t9 t13 C1 R w
def n98 (t0:Value) (R:RT) (w:World):Prop :=
 opV Pg (Instr.box 49 t0) (panK R) w fun t1 w =>
 opV Pg (Instr.makeMap 63 none) (panK R) w fun t5 w =>
 opV Pg (Instr.alloc 63 true (.tuple #[])) (panK R) w fun t3 w =>
 opU Pg (Instr.storeAt 63 t3 t5) (panK R) w fun w =>
 opV Pg (Instr.makeFunc (.func 117) #[] #[t3]) (panK R) w fun t6 w =>
 drawK w fun C1 w =>
 n98c3 t1 t6 C1 R w
theorem n98s {t0:Value} {R:RT} {w:World} (h:n98 t0 R w):Calls Pg 112 #[t0] w R:=by
 refine calls_of_den (args:=[t0]) Tryz.func112 rfl (Nat.le_of_ble_eq_true rfl) ?_
 unfold n98 at h
 refine zs<|zr ?_
 refine zv h fun t1 w h=>?_
 refine zm<|zn<|zk<|zs<|zr ?_
 refine zv h fun t5 w h=>?_
 refine zv h fun t3 w h=>?_
 refine zu h fun w h=>?_
 refine zn<|zk<|zs<|zr ?_
 refine sim_makeFunc h rfl rfl (fun _ _ h=>⟨rfl,h⟩) ?_;intro t6 w h
 refine zm<|zn<|zk<|zs ?_
 obtain ⟨C1,hC,h⟩:=h
 refine sim_draw [2,7,8,9,10,11,12,13,14,15,16,17,18,19,20,21,22] (by kernel_rfl) (by kernel_rfl) C1 ?_
 refine ze 0 hC h fun t7 h=>?_
 refine ze 1 hC h fun t8 h=>?_
 refine ze 3 hC h fun t10 h=>?_
 refine ze 4 hC h fun t11 h=>?_
 obtain ⟨t12,hv,h⟩:=h
 refine sim_dsilent 5 hC rfl (by kernel_rfl) (by kernel_rfl) (fun _ _=>rfl) rfl (Sw.qV_builtin rfl hv) ?_
 obtain ⟨t13,hv,h⟩:=h
 refine sim_dsilent 6 hC rfl (by kernel_rfl) (by kernel_rfl) (fun _ _=>rfl) rfl (Sw.qV_bin rfl rfl rfl hv) ?_
 refine sim_dloud 2 rfl (by kernel_rfl) (fun _ _=>rfl) ?_
 refine sim_call h c118 rfl (fun _ _ h _ _=>⟨rfl,h⟩) ?_;intro t9 w h
 refine zn ?_
 obtain ⟨hC,h⟩:=h
 refine ⟨hC,?_⟩
 refine sim_dloud 7 rfl (by kernel_rfl) (fun _ _=>rfl) ?_
 refine sim_buildSlice h rfl (fun _ _ h _ _=>⟨rfl,h⟩) ?_;intro t14 w h
 refine zn ?_
 obtain ⟨hC,h⟩:=h
 refine ⟨hC,?_⟩
 refine sim_dloud 8 rfl (by kernel_rfl) (fun _ _=>rfl) ?_
 refine sim_call h c51 rfl (fun _ _ h _ _=>⟨rfl,h⟩) ?_;intro t15 w h
 refine zn ?_
 obtain ⟨hC,h⟩:=h
 refine ⟨hC,?_⟩
 refine zw 9 hC ?_
 refine joinK_elim h (fun K2 hK h=>?_)
 refine sim_djoin 2 [14,13,12,11,10,9,8,7,2,6,5,4,3,1,0] [17,18,19,20,21] (fun ρ w=>K2 (ρ 21) w) (fun _ hT=>?_) (fun σ w hC h=>?_)
 · rcases Sw.guardP_cases h with ⟨hb,h⟩ | ⟨hb,h⟩
   · obtain ⟨t17,hv,h⟩:=h
     refine sim_dsilent 10 hC rfl (by kernel_rfl) (by kernel_rfl) (fun _ _=>Sw.guardP_true hb) rfl (Sw.qV_run rfl hv) ?_
     obtain ⟨t18,hv,h⟩:=h
     refine sim_dsilent 11 hC rfl (by kernel_rfl) (by kernel_rfl) (fun _ _=>Sw.guardP_true hb) rfl (Sw.qV_run rfl hv) ?_
     refine sim_dsilent 12 hC rfl (by kernel_rfl) (by kernel_rfl) (fun _ _=>Sw.guardP_true hb) rfl (Sw.move_run rfl) ?_
     refine sim_dloud 13 rfl (by kernel_rfl) (fun _ _=>Sw.guardP_true hb) ?_
     refine sim_call h c119 rfl (fun _ _ h _ _=>⟨rfl,h⟩) ?_;intro t20 w h
     refine zn ?_
     obtain ⟨hC,h⟩:=h
     refine ⟨hC,?_⟩
     obtain ⟨t21,hv,h⟩:=h
     refine sim_dsilent 14 hC rfl (by kernel_rfl) (by kernel_rfl) (fun _ _=>Sw.guardP_true hb) rfl (Sw.qV_run rfl hv) ?_
     exact hT _ _ (by repeat (first | exact Sw.Fr.refl _ _ | refine Sw.Fr.put rfl ?_ | refine Sw.Fr.put_none ?_ | refine Sw.Fr.mix rfl ?_ | refine Sw.Fr.skipAll rfl ?_)) hC h
   · refine sim_dskip 10 hC rfl (by kernel_rfl) (by kernel_rfl) (fun _ _=>Sw.guardP_false hb) ?_
     refine sim_dskip 11 hC rfl (by kernel_rfl) (by kernel_rfl) (fun _ _=>Sw.guardP_false hb) ?_
     refine sim_dskip 12 hC rfl (by kernel_rfl) (by kernel_rfl) (fun _ _=>Sw.guardP_false hb) ?_
     refine sim_dskip 13 hC rfl (by kernel_rfl) (by kernel_rfl) (fun _ _=>Sw.guardP_false hb) ?_
     refine sim_dskip 14 hC rfl (by kernel_rfl) (by kernel_rfl) (fun _ _=>Sw.guardP_false hb) ?_
     exact hT _ _ (by repeat (first | exact Sw.Fr.refl _ _ | refine Sw.Fr.put rfl ?_ | refine Sw.Fr.put_none ?_ | refine Sw.Fr.mix rfl ?_ | refine Sw.Fr.skipAll rfl ?_)) hC h
 subst hK
 obtain ⟨b22,hb22,h⟩:=Sw.pickK_elim h
 refine sim_dsilent 15 hC rfl (by kernel_rfl) (by kernel_rfl) (fun _ _=>rfl) rfl (Sw.pick_run hb22 rfl rfl) ?_
 refine zw 16 hC ?_
 refine sim_dend (by kernel_rfl) ?_
 refine zk<|sim_ret ?_
 exact body_ret1 rfl rfl h
def n96c1 (t1 t3:Value) (K1:World→Prop) (R:RT) (w:World):Prop :=
 F0 49 t1 1 R w fun t6 w =>
 L0 47 t6 R w fun t7 w =>
 C0 29 #[t7] R w fun t8 w =>
 opU Pg (Instr.storeAt 47 t3 t8) (panK R) w fun w =>
 K1 w
def n96 (t0:Value) (R:RT) (w:World):Prop :=
 opV Pg (Instr.box 49 t0) (panK R) w fun t1 w =>
 opV Pg (Instr.alloc 47 true (.tuple #[])) (panK R) w fun t3 w =>
 L0 49 t1 R w fun t4 w =>
 C0 112 #[t4] R w fun t5 w =>
 joinK (fun (w:World) =>
 opV Pg (Instr.makeFunc (.func 120) #[] #[t3]) (panK R) w fun t9 w =>
 R (.returned t9) w) fun K1 =>
 condP t5 (
 n96c1 t1 t3 K1 R w) (
 K1 w)
theorem n96s {t0:Value} {R:RT} {w:World} (h:n96 t0 R w):Calls Pg 113 #[t0] w R:=by
 refine calls_of_den (args:=[t0]) Tryz.func113 rfl (Nat.le_of_ble_eq_true rfl) ?_
 unfold n96 at h
 refine zs<|zr ?_
 refine zv h fun t1 w h=>?_
 refine zm<|zn<|zk<|zs<|zr ?_
 refine zv h fun t3 w h=>?_
 refine zn<|zk<|zs<|zs<|zr ?_
 refine zv h fun t4 w h=>?_
 refine zc h c112 fun t5 w h=>?_
 refine zn<|zk ?_
 refine joinK_elim h (fun K1 hK h=>?_)
 refine sim_joinQ [6,7,8] (fun ρ w=>K1 w) (fun _ hkK1=>?_) (fun σ w h=>?_)
 · refine sim_cond h rfl (fun h=>?_) (fun h=>?_)
   · refine zr ?_
     refine zv h fun t6 w h=>?_
     refine zv h fun t7 w h=>?_
     refine zc h c29 fun t8 w h=>?_
     refine zu h fun w h=>?_
     refine zn<|zk ?_
     exact zt hkK1 h
   · refine sim_skip<|zk ?_
     exact zt hkK1 h
 subst hK
 refine zk<|zs<|zr ?_
 refine sim_makeFunc h rfl rfl (fun _ _ h=>⟨rfl,h⟩) ?_;intro t9 w h
 refine zm<|zn<|zk<|sim_ret ?_
 exact body_ret1 rfl rfl h
def n90c1 (t4 t19 t21:Value) (R:RT) (w:World):Prop :=
 opV Pg (Instr.build 58 #[(0,t19),(1,t21)]) (panK R) w fun t22 w =>
 opU Pg (Instr.storeAt 58 t4 t22) (panK R) w fun w =>
 qW Pg 58 t4 w fun r0 =>
 R (.returned (.tuple #[r0,(.int .i64 0)])) w
def n90c2 (t2 t3 t4:Value) (R:RT) (w:World):Prop :=
 opV Pg (Instr.makeFunc (.func 123) #[] #[t2,t3]) (panK R) w fun t17 w =>
 callV Pg t17 #[(.bool true)] (panK R) w fun t19 w =>
 callV Pg t17 #[(.bool false)] (panK R) w fun t21 w =>
 n90c1 t4 t19 t21 R w
def n90c3 (t2 t3 t4 t12:Value) (R:RT) (w:World):Prop :=
 B0 .neq 27 true t12 (.int .i64 0) R w fun t14 w =>
 condP t14 (
 opV Pg (Instr.build 58 #[]) (panK R) w fun t15 w =>
 opU Pg (Instr.storeAt 58 t4 t15) (panK R) w fun w =>
 qW Pg 58 t4 w fun r0 =>
 R (.returned (.tuple #[r0,t12])) w) (
 n90c2 t2 t3 t4 R w)
def n90 (t0 t1:Value) (R:RT) (w:World):Prop :=
 opV Pg (Instr.box 49 t0) (panK R) w fun t2 w =>
 opV Pg (Instr.box 55 t1) (panK R) w fun t3 w =>
 opV Pg (Instr.alloc 58 true (.tuple #[])) (panK R) w fun t4 w =>
 L0 49 t2 R w fun t9 w =>
 L0 55 t3 R w fun t10 w =>
 callK Pg 122 #[t9,(.string { data := #[] }),t10,(.func (.func 121) #[] #[])] (panK R) w fun t12 w =>
 n90c3 t2 t3 t4 t12 R w
theorem n90s {t0 t1:Value} {R:RT} {w:World} (h:n90 t0 t1 R w):Calls Pg 114 #[t0,t1] w R:=by
 refine calls_of_den (args:=[t0,t1]) Tryz.func114 rfl (Nat.le_of_ble_eq_true rfl) ?_
 unfold n90 at h
 refine zs<|zr ?_
 refine zv h fun t2 w h=>?_
 refine zv h fun t3 w h=>?_
 refine zv h fun t4 w h=>?_
 refine zm<|zn<|zk<|zs<|zr<|zm<|zn<|zk<|zs<|zs<|zr ?_
 refine zv h fun t9 w h=>?_
 refine zv h fun t10 w h=>?_
 refine zm ?_
 refine zc h c122 fun t12 w h=>?_
 refine zm<|zn<|zk<|zs<|zr<|zm ?_
 refine zb h fun t14 w h=>?_
 refine zn<|zk ?_
 refine sim_cond h rfl (fun h=>?_) (fun h=>?_)
 · refine zs<|zr ?_
   refine sim_build h rfl (fun _ _ h=>⟨rfl,h⟩) ?_;intro t15 w h
   refine zm ?_
   refine zu h fun w h=>?_
   refine zm<|zn<|zk<|sim_ret<|sim_then_ret ?_
   exact body_retCT rfl rfl rfl h
 · refine sim_skip<|zk<|zs<|zr ?_
   refine sim_makeFunc h rfl rfl (fun _ _ h=>⟨rfl,h⟩) ?_;intro t17 w h
   refine zm<|zn<|zk<|zs<|zr<|zm ?_
   refine sim_callV h rfl rfl (fun _ _ h=>⟨rfl,h⟩) ?_;intro t19 w h
   refine zm ?_
   refine sim_callV h rfl rfl (fun _ _ h=>⟨rfl,h⟩) ?_;intro t21 w h
   refine sim_build h rfl (fun _ _ h=>⟨rfl,h⟩) ?_;intro t22 w h
   refine zu h fun w h=>?_
   refine zm<|zn<|zk<|sim_ret ?_
   exact body_retCT rfl rfl rfl h
def n107 (t0 t1:Value) (R:RT) (w:World):Prop :=
 C0 111 #[t0,t1] R w fun t7 w =>
 B0 .geq 3 true t7 (.int .i64 0) R w fun t8 w =>
 R (.returned t8) w
theorem n107s {t0 t1:Value} {R:RT} {w:World} (h:n107 t0 t1 R w):Calls Pg 115 #[t0,t1] w R:=by
 refine calls_of_den (args:=[t0,t1]) Tryz.func115 rfl (Nat.le_of_ble_eq_true rfl) ?_
 unfold n107 at h
 refine zs<|zr<|zm<|zn<|zk<|zs<|zr<|zm<|zm ?_
 refine zc h c111 fun t7 w h=>?_
 refine zb h fun t8 w h=>?_
 refine zm<|zn<|zk<|sim_ret ?_
 exact body_ret1 rfl rfl h
def n52 (t0 t1:Value) (R:RT) (w:World):Prop :=
 opV Pg (Instr.box 52 t0) (panK R) w fun t2 w =>
 F0 52 t2 1 R w fun t4 w =>
 L0 46 t4 R w fun t5 w =>
 B0 .eql 46 true t5 (.int .i64 9) R w fun t6 w =>
 joinK (fun (t12:Value) (w:World) =>
 pickK t6 t12 (.bool false) fun t13 =>
 R (.returned t13) w) fun K1 =>
 guardP t6 true (
 F0 52 t2 9 R w fun t8 w =>
 L0 9 t8 R w fun t9 w =>
 F0 52 t1 9 R w fun t10 w =>
 L0 9 t10 R w fun t11 w =>
 B0 .eql 9 false t9 t11 R w fun t12 w =>
 K1 t12 w) (
 K1 undef w)
theorem n52s {t0 t1:Value} {R:RT} {w:World} (h:n52 t0 t1 R w):Calls Pg 116 #[t0,t1] w R:=by
 refine calls_of_den (args:=[t0,t1]) Tryz.func116 rfl (Nat.le_of_ble_eq_true rfl) ?_
 unfold n52 at h
 refine zs<|zr ?_
 refine zv h fun t2 w h=>?_
 refine zm<|zn<|zk<|zs<|sim_regionG ?_
 refine sim_seg 4 rfl ?_
 refine zv h fun t4 w h=>?_
 refine zv h fun t5 w h=>?_
 refine zb h fun t6 w h=>?_
 refine zm<|zn ?_
 refine joinK_elim h (fun K1 hK h=>?_)
 refine sim_groupJ 5 3 true [8,9,10,11,12] (fun ρ w=>K1 (ρ 12) w) rfl rfl (fun T hT=>guardP_mono h (fun h=>?_) (fun h=>?_)) (fun σ w h=>?_)
 · refine zv h fun t8 w h=>?_
   refine zv h fun t9 w h=>?_
   refine zv h fun t10 w h=>?_
   refine zv h fun t11 w h=>?_
   refine zb h fun t12 w h=>?_
   refine zn ?_
   exact zt hT h
 · exact zt hT h
 subst hK
 refine sim_seg 2 rfl ?_
 refine sim_pick h rfl rfl rfl ?_;intro t13 h
 refine zm<|zn<|sim_end<|zk<|sim_ret ?_
 exact body_ret1 rfl rfl h
def n99c1 (t16 t19 t22:Value) (C1:World→Prop) (K2:KV) (R:RT) (w:World):Prop :=
 opV Pg (Instr.buildSlice 33 3 #[(0,t16),(1,t19),(2,t22)]) (panK R) w fun t23 w =>
 C1 w∧(
 C0 51 #[t23] R w fun t24 w =>
 C1 w∧(
 qV Pg C1 (Op.unary .not t24) fun t25 =>
 K2 t25 w))
def n99c2 (t2:Value) (C1:World→Prop) (K2:KV) (R:RT) (w:World):Prop :=
 qV Pg C1 (Instr.fieldAt 78 t2 0) fun t14 =>
 qV Pg C1 (Instr.loadAt 9 t14) fun t15 =>
 qV Pg C1 (Instr.fieldAt 78 t2 1) fun t17 =>
 qV Pg C1 (Instr.loadAt 3 t17) fun t18 =>
 qV Pg C1 (binS .neq 3 true t18 (.int .i64 0)) fun t19 =>
 qV Pg C1 (Instr.fieldAt 78 t2 1) fun t20 =>
 qV Pg C1 (Instr.loadAt 3 t20) fun t21 =>
 C0 38 #[t15] R w fun t16 w =>
 C1 w∧(
 C0 118 #[t21] R w fun t22 w =>
 C1 w∧(
 n99c1 t16 t19 t22 C1 K2 R w))
def n99 (t0 t1:Value) (R:RT) (w:World):Prop :=
 opV Pg (Instr.box 78 t0) (panK R) w fun t2 w =>
 L0 63 t1 R w fun t5 w =>
 F0 78 t2 0 R w fun t6 w =>
 L0 9 t6 R w fun t7 w =>
 opV Pg (Instr.lookup 63 t5 t7 false) (panK R) w fun t8 w =>
 L0 63 t1 R w fun t9 w =>
 F0 78 t2 0 R w fun t10 w =>
 L0 9 t10 R w fun t11 w =>
 opU Pg (Instr.mapUpdate 63 t9 t11 (.bool true)) (panK R) w fun w =>
 drawK w fun C1 w =>
 joinK (fun (t25:Value) (w:World) =>
 pickK t8 (.bool true) t25 fun t26 =>
 R (.returned t26) w) fun K2 =>
 guardP t8 false (
 n99c2 t2 C1 K2 R w) (
 K2 undef w)
theorem n99s {t0 t1:Value} {R:RT} {w:World} (h:n99 t0 t1 R w):Calls Pg 117 #[t0,t1] w R:=by
 refine calls_of_den (args:=[t0,t1]) Tryz.func117 rfl (Nat.le_of_ble_eq_true rfl) ?_
 unfold n99 at h
 refine zs<|zr ?_
 refine zv h fun t2 w h=>?_
 refine zm<|zn<|zk<|zs<|zr ?_
 refine zv h fun t5 w h=>?_
 refine zv h fun t6 w h=>?_
 refine zv h fun t7 w h=>?_
 refine zv h fun t8 w h=>?_
 refine zm<|zn<|zk<|zs<|zr ?_
 refine zv h fun t9 w h=>?_
 refine zv h fun t10 w h=>?_
 refine zv h fun t11 w h=>?_
 refine zu h fun w h=>?_
 refine zn<|zk<|zs ?_
 obtain ⟨C1,hC,h⟩:=h
 refine sim_draw [3,12,13,14,15,16,17,18,19,20,21,22,23,24,25,26] (by kernel_rfl) (by kernel_rfl) C1 ?_
 refine zw 0 hC ?_
 refine zw 1 hC ?_
 refine joinK_elim h (fun K2 hK h=>?_)
 refine sim_djoin 2 [13,12,11,10,4,9,8,7,6,5,3,2,1,0] [14,15,16,17,18,19,20,21,22,23,24,25] (fun ρ w=>K2 (ρ 25) w) (fun _ hT=>?_) (fun σ w hC h=>?_)
 · rcases Sw.guardP_cases h with ⟨hb,h⟩ | ⟨hb,h⟩
   · obtain ⟨t14,hv,h⟩:=h
     refine sim_dsilent 2 hC rfl (by kernel_rfl) (by kernel_rfl) (fun _ _=>Sw.guardP_true hb) rfl (Sw.qV_run rfl hv) ?_
     obtain ⟨t15,hv,h⟩:=h
     refine sim_dsilent 3 hC rfl (by kernel_rfl) (by kernel_rfl) (fun _ _=>Sw.guardP_true hb) rfl (Sw.qV_run rfl hv) ?_
     obtain ⟨t17,hv,h⟩:=h
     refine sim_dsilent 5 hC rfl (by kernel_rfl) (by kernel_rfl) (fun _ _=>Sw.guardP_true hb) rfl (Sw.qV_run rfl hv) ?_
     obtain ⟨t18,hv,h⟩:=h
     refine sim_dsilent 6 hC rfl (by kernel_rfl) (by kernel_rfl) (fun _ _=>Sw.guardP_true hb) rfl (Sw.qV_run rfl hv) ?_
     obtain ⟨t19,hv,h⟩:=h
     refine sim_dsilent 7 hC rfl (by kernel_rfl) (by kernel_rfl) (fun _ _=>Sw.guardP_true hb) rfl (Sw.qV_bin rfl rfl rfl hv) ?_
     obtain ⟨t20,hv,h⟩:=h
     refine sim_dsilent 8 hC rfl (by kernel_rfl) (by kernel_rfl) (fun _ _=>Sw.guardP_true hb) rfl (Sw.qV_run rfl hv) ?_
     obtain ⟨t21,hv,h⟩:=h
     refine sim_dsilent 9 hC rfl (by kernel_rfl) (by kernel_rfl) (fun _ _=>Sw.guardP_true hb) rfl (Sw.qV_run rfl hv) ?_
     refine sim_dloud 4 rfl (by kernel_rfl) (fun _ _=>Sw.guardP_true hb) ?_
     refine sim_call h c38 rfl (fun _ _ h _ _=>⟨rfl,h⟩) ?_;intro t16 w h
     refine zn ?_
     obtain ⟨hC,h⟩:=h
     refine ⟨hC,?_⟩
     refine sim_dloud 10 rfl (by kernel_rfl) (fun _ _=>Sw.guardP_true hb) ?_
     refine sim_call h c118 rfl (fun _ _ h _ _=>⟨rfl,h⟩) ?_;intro t22 w h
     refine zn ?_
     obtain ⟨hC,h⟩:=h
     refine ⟨hC,?_⟩
     refine sim_dloud 11 rfl (by kernel_rfl) (fun _ _=>Sw.guardP_true hb) ?_
     refine sim_buildSlice h rfl (fun _ _ h _ _=>⟨rfl,h⟩) ?_;intro t23 w h
     refine zn ?_
     obtain ⟨hC,h⟩:=h
     refine ⟨hC,?_⟩
     refine sim_dloud 12 rfl (by kernel_rfl) (fun _ _=>Sw.guardP_true hb) ?_
     refine sim_call h c51 rfl (fun _ _ h _ _=>⟨rfl,h⟩) ?_;intro t24 w h
     refine zn ?_
     obtain ⟨hC,h⟩:=h
     refine ⟨hC,?_⟩
     obtain ⟨t25,hv,h⟩:=h
     refine sim_dsilent 13 hC rfl (by kernel_rfl) (by kernel_rfl) (fun _ _=>Sw.guardP_true hb) rfl (Sw.qV_run rfl hv) ?_
     exact hT _ _ (by repeat (first | exact Sw.Fr.refl _ _ | refine Sw.Fr.put rfl ?_ | refine Sw.Fr.put_none ?_ | refine Sw.Fr.mix rfl ?_ | refine Sw.Fr.skipAll rfl ?_)) hC h
   · refine sim_dskip 2 hC rfl (by kernel_rfl) (by kernel_rfl) (fun _ _=>Sw.guardP_false hb) ?_
     refine sim_dskip 3 hC rfl (by kernel_rfl) (by kernel_rfl) (fun _ _=>Sw.guardP_false hb) ?_
     refine sim_dskip 5 hC rfl (by kernel_rfl) (by kernel_rfl) (fun _ _=>Sw.guardP_false hb) ?_
     refine sim_dskip 6 hC rfl (by kernel_rfl) (by kernel_rfl) (fun _ _=>Sw.guardP_false hb) ?_
     refine sim_dskip 7 hC rfl (by kernel_rfl) (by kernel_rfl) (fun _ _=>Sw.guardP_false hb) ?_
     refine sim_dskip 8 hC rfl (by kernel_rfl) (by kernel_rfl) (fun _ _=>Sw.guardP_false hb) ?_
     refine sim_dskip 9 hC rfl (by kernel_rfl) (by kernel_rfl) (fun _ _=>Sw.guardP_false hb) ?_
     refine sim_dskip 4 hC rfl (by kernel_rfl) (by kernel_rfl) (fun _ _=>Sw.guardP_false hb) ?_
     refine sim_dskip 10 hC rfl (by kernel_rfl) (by kernel_rfl) (fun _ _=>Sw.guardP_false hb) ?_
     refine sim_dskip 11 hC rfl (by kernel_rfl) (by kernel_rfl) (fun _ _=>Sw.guardP_false hb) ?_
     refine sim_dskip 12 hC rfl (by kernel_rfl) (by kernel_rfl) (fun _ _=>Sw.guardP_false hb) ?_
     refine sim_dskip 13 hC rfl (by kernel_rfl) (by kernel_rfl) (fun _ _=>Sw.guardP_false hb) ?_
     exact hT _ _ (by repeat (first | exact Sw.Fr.refl _ _ | refine Sw.Fr.put rfl ?_ | refine Sw.Fr.put_none ?_ | refine Sw.Fr.mix rfl ?_ | refine Sw.Fr.skipAll rfl ?_)) hC h
 subst hK
 obtain ⟨b26,hb26,h⟩:=Sw.pickK_elim h
 refine sim_dsilent 14 hC rfl (by kernel_rfl) (by kernel_rfl) (fun _ _=>rfl) rfl (Sw.pick_run hb26 rfl rfl) ?_
 refine zw 15 hC ?_
 refine sim_dend (by kernel_rfl) ?_
 refine zk<|sim_ret ?_
 exact body_ret1 rfl rfl h
def n105 (t0:Value) (R:RT) (w:World):Prop :=
 opV Pg (binS .geq 3 true t0 (.int .i64 (-1048576))) (panK R) w fun t4 w =>
 joinK (fun (t7:Value) (w:World) =>
 pickK t4 t7 (.bool false) fun t8 =>
 R (.returned t8) w) fun K1 =>
 guardP t4 true (
 B0 .leq 3 true t0 (.int .i64 1048576) R w fun t7 w =>
 K1 t7 w) (
 K1 undef w)
theorem n105s {t0:Value} {R:RT} {w:World} (h:n105 t0 R w):Calls Pg 118 #[t0] w R:=by
 refine calls_of_den (args:=[t0]) Tryz.func118 rfl (Nat.le_of_ble_eq_true rfl) ?_
 unfold n105 at h
 refine zs<|zr<|zm<|zn<|zk<|zs<|sim_regionG ?_
 refine sim_seg 3 rfl ?_
 refine zm ?_
 refine zb h fun t4 w h=>?_
 refine zm<|zn ?_
 refine joinK_elim h (fun K1 hK h=>?_)
 refine sim_groupJ 2 2 true [6,7] (fun ρ w=>K1 (ρ 7) w) rfl rfl (fun T hT=>guardP_mono h (fun h=>?_) (fun h=>?_)) (fun σ w h=>?_)
 · refine zm ?_
   refine zb h fun t7 w h=>?_
   refine zn ?_
   exact zt hT h
 · exact zt hT h
 subst hK
 refine sim_seg 2 rfl ?_
 refine sim_pick h rfl rfl rfl ?_;intro t8 h
 refine zm<|zn<|sim_end<|zk<|sim_ret ?_
 exact body_ret1 rfl rfl h
def n108 (t0 t1:Value) (R:RT) (w:World):Prop :=
 C0 126 #[t0,t1] R w fun t7 w =>
 B0 .geq 3 true t7 (.int .i64 0) R w fun t8 w =>
 R (.returned t8) w
theorem n108s {t0 t1:Value} {R:RT} {w:World} (h:n108 t0 t1 R w):Calls Pg 119 #[t0,t1] w R:=by
 refine calls_of_den (args:=[t0,t1]) Tryz.func119 rfl (Nat.le_of_ble_eq_true rfl) ?_
 unfold n108 at h
 refine zs<|zr<|zm<|zn<|zk<|zs<|zr<|zm<|zm ?_
 refine zc h c126 fun t7 w h=>?_
 refine zb h fun t8 w h=>?_
 refine zm<|zn<|zk<|sim_ret ?_
 exact body_ret1 rfl rfl h
def n97c1 (t7 t14:Value) (next1:KV) (R:RT) (w:World):Prop :=
 opV Pg (Op.unary .not t14) (panK R) w fun t15 w =>
 condP t15 (
 R (.returned (.tuple #[])) w) (
 B0 .add 3 true t7 (.int .i64 1) R w fun t16 w =>
 next1 t16 w)
def n97c2 (t0 t5 t7:Value) (next1:KV) (R:RT) (w:World):Prop :=
 X0 47 t5 t7 R w fun t9 w =>
 L0 78 t9 R w fun t10 w =>
 opV Pg (Instr.alloc 78 true (.tuple #[])) (panK R) w fun t4 w =>
 opU Pg (Instr.storeAt 78 t4 t10) (panK R) w fun w =>
 F0 78 t4 0 R w fun t12 w =>
 L0 9 t12 R w fun t13 w =>
 callV Pg t0 #[t13] (panK R) w fun t14 w =>
 n97c1 t7 t14 next1 R w
def n97 (t0 t1:Value) (R:RT) (w:World):Prop :=
 L0 47 t1 R w fun t5 w =>
 opV Pg (Builtin.len_ #[47] 3 #[t5]) (panK R) w fun t6 w =>
 loop1 (fun t7 w next1 =>
 B0 .lss 3 false t7 t6 R w fun t8 w =>
 condP t8 (
 n97c2 t0 t5 t7 next1 R w) (
 R (.returned (.tuple #[])) w)) (.int .i64 0) w
theorem n97s {t0 t1:Value} {R:RT} {w:World} (h:n97 t0 t1 R w):Calls Pg 120 #[t0,t1] w R:=by
 refine calls_of_den (args:=[t0,t1]) Tryz.func120 rfl (Nat.le_of_ble_eq_true rfl) ?_
 unfold n97 at h
 refine zs<|zr ?_
 refine zv h fun t5 w h=>?_
 refine zx h fun t6 w h=>?_
 refine zm<|zn<|zk<|sim_block ?_
 obtain ⟨I,μ,h0,hr⟩:=h
 refine sim_loop [4,7,8,9,10,11,12,13,14,15,16] (by kernel_rfl) (fun ρ w=>I (ρ 7) w) (fun ρ w=>μ (ρ 7) w) h0 (fun σ w hI=>?_)
 have h:=hr _ _ hI
 clear hr h0 hI
 refine zs<|zr ?_
 refine zb h fun t8 w h=>?_
 refine zn<|zk<|zs ?_
 refine sim_cond h rfl (fun h=>?_) (fun h=>?_)
 · refine sim_skip<|zk<|zs<|sim_block<|zs<|zr ?_
   refine zv h fun t9 w h=>?_
   refine zv h fun t10 w h=>?_
   refine zv h fun t4 w h=>?_
   refine zu h fun w h=>?_
   refine zn<|zk<|zs<|zr<|zm ?_
   refine zv h fun t12 w h=>?_
   refine zv h fun t13 w h=>?_
   refine sim_callV h rfl rfl (fun _ _ h=>⟨rfl,h⟩) ?_;intro t14 w h
   refine zv h fun t15 w h=>?_
   refine zn<|zk ?_
   refine sim_cond h rfl (fun h=>?_) (fun h=>?_)
   · refine sim_ret<|sim_block_ret<|sim_then_ret<|sim_then_ret<|sim_block_ret ?_
     exact body_ret0 rfl h
   · refine sim_skip<|sim_block_normal<|zk<|zr ?_
     refine zb h fun t16 w h=>?_
     refine zm<|zn<|zk ?_
     exact ⟨rfl,h⟩
 · refine sim_exit<|sim_then_exit<|sim_then_exit<|sim_block_hit ?_
   refine body_normal ?_
   exact body_ret0 rfl h
def n91 (t0:Value) (R:RT) (w:World):Prop :=
 opV Pg (Instr.box 58 t0) (panK R) w fun t1 w =>
 F0 58 t1 0 R w fun t3 w =>
 L0 3 t3 R w fun t4 w =>
 B0 .geq 3 true t4 (.int .i64 0) R w fun t5 w =>
 F0 58 t1 0 R w fun t6 w =>
 L0 3 t6 R w fun t7 w =>
 F0 58 t1 1 R w fun t8 w =>
 L0 3 t8 R w fun t9 w =>
 B0 .leq 3 false t7 t9 R w fun t10 w =>
 F0 58 t1 1 R w fun t11 w =>
 L0 3 t11 R w fun t12 w =>
 B0 .lss 3 true t12 (.int .i64 34359738368) R w fun t13 w =>
 opV Pg (Instr.buildSlice 33 3 #[(0,t5),(1,t10),(2,t13)]) (panK R) w fun t14 w =>
 C0 51 #[t14] R w fun t15 w =>
 R (.returned t15) w
theorem n91s {t0:Value} {R:RT} {w:World} (h:n91 t0 R w):Calls Pg 121 #[t0] w R:=by
 refine calls_of_den (args:=[t0]) Tryz.func121 rfl (Nat.le_of_ble_eq_true rfl) ?_
 unfold n91 at h
 refine zs<|zr ?_
 refine zv h fun t1 w h=>?_
 refine zm<|zn<|zk<|zs<|zr ?_
 refine zv h fun t3 w h=>?_
 refine zv h fun t4 w h=>?_
 refine zb h fun t5 w h=>?_
 refine zv h fun t6 w h=>?_
 refine zv h fun t7 w h=>?_
 refine zv h fun t8 w h=>?_
 refine zv h fun t9 w h=>?_
 refine zb h fun t10 w h=>?_
 refine zv h fun t11 w h=>?_
 refine zv h fun t12 w h=>?_
 refine zb h fun t13 w h=>?_
 refine sim_buildSlice h rfl (fun _ _ h=>⟨rfl,h⟩) ?_;intro t14 w h
 refine zc h c51 fun t15 w h=>?_
 refine zm<|zn<|zk<|sim_ret ?_
 exact body_ret1 rfl rfl h
end Go.Proofs.YtiajhbbmgglmlaaGreat
namespace Go.Proofs.YtiajhbbmgglmlaaGreat
open Sw
def n101c1 (t7 t8 t11:Value) (K2:World→Prop) (Qr1:List PanicEntry→World→Prop) (Xr1:Nat→World→Prop) (R:RT) (w:World):Prop :=
 opV Pg (Instr.loadAt 150 t7) Qr1 w fun t33 w =>
 opV Pg (Instr.loadAt 58 t11) Qr1 w fun t34 w =>
 callV Pg t33 #[t34] Qr1 w fun t35 w =>
 opV Pg (Op.unary .not t35) Qr1 w fun t36 w =>
 condP t36 (
 opU Pg (Instr.storeAt 27 t8 (.int .i64 2)) Qr1 w fun w =>
 Xr1 0 w) (
 K2 w)
def n101c2 (t5 t6 t7 t8 t9 t18:Value) (Kr1:World→Prop) (Qr1:List PanicEntry→World→Prop) (Xr1:Nat→World→Prop) (R:RT) (w:World):Prop :=
 opV Pg (Instr.loadAt 55 t6) Qr1 w fun t20 w =>
 opV Pg (Instr.lookup 55 t20 t18 true) Qr1 w fun t22 w =>
 opV Pg (Instr.extract t22 0) Qr1 w fun t23 w =>
 opV Pg (Instr.extract t22 1) Qr1 w fun t24 w =>
 opV Pg (Instr.alloc 58 true (.tuple #[])) Qr1 w fun t11 w =>
 opU Pg (Instr.storeAt 58 t11 t23) Qr1 w fun w =>
 opV Pg (Instr.loadAt 9 t5) Qr1 w fun t27 w =>
 opV Pg (binS .eql 9 false t18 t27) Qr1 w fun t28 w =>
 joinK (fun (w:World) =>
 Kr1 w) fun K2 =>
 condP t28 (
 K2 w) (
 opV Pg (Op.unary .not t24) Qr1 w fun t31 w =>
 condP t31 (
 opU Pg (Instr.storeAt 4 t9 (.bool true)) Qr1 w fun w =>
 K2 w) (
 n101c1 t7 t8 t11 K2 Qr1 Xr1 R w))
def n101c3 (t8 t9:Value) (ds:List Deferred) (R:RT) (w:World):Prop :=
 opV Pg (Instr.loadAt 4 t9) (outQ Pg ds [(some 27,t8)] R) w fun t37 w =>
 condP t37 (
 opU Pg (Instr.storeAt 27 t8 (.int .i64 9)) (outQ Pg ds [(some 27,t8)] R) w fun w =>
 outX Pg ds [(some 27,t8)] R w) (
 opU Pg (Instr.storeAt 27 t8 (.int .i64 0)) (outQ Pg ds [(some 27,t8)] R) w fun w =>
 outX Pg ds [(some 27,t8)] R w)
def n101c4 (t5 t6 t7 t8 t9 t17:Value) (ds:List Deferred) (R:RT) (w:World):Prop :=
 rangeN Pg t17 ds (fun l1 t18 w Kr1 Xr1 Qr1 =>
 busyK l1 w fun w =>
 n101c2 t5 t6 t7 t8 t9 t18 Kr1 Qr1 Xr1 R w) (fun ch ds w=>outQ Pg ds [(some 27,t8)] R ch w) w (fun ds w =>
 n101c3 t8 t9 ds R w) [fun ds w =>
 outX Pg ds [(some 27,t8)] R w]
def n101c5 (t4 t5 t6 t7 t8:Value) (ds:List Deferred) (R:RT) (w:World):Prop :=
 opV Pg (Instr.alloc 4 true (.tuple #[])) (outQ Pg ds [(some 27,t8)] R) w fun t9 w =>
 opU Pg (Instr.storeAt 4 t9 (.bool false)) (outQ Pg ds [(some 27,t8)] R) w fun w =>
 opV Pg (Instr.loadAt 49 t4) (outQ Pg ds [(some 27,t8)] R) w fun t16 w =>
 callK Pg 113 #[t16] (outQ Pg ds [(some 27,t8)] R) w fun t17 w =>
 n101c4 t5 t6 t7 t8 t9 t17 ds R w
def n101c6 (t4 t5 t6 t7 t8 t14:Value) (ds:List Deferred) (R:RT) (w:World):Prop :=
 opV Pg (Op.unary .not t14) (outQ Pg ds [(some 27,t8)] R) w fun t15 w =>
 condP t15 (
 opU Pg (Instr.storeAt 27 t8 (.int .i64 2)) (outQ Pg ds [(some 27,t8)] R) w fun w =>
 outX Pg ds [(some 27,t8)] R w) (
 n101c5 t4 t5 t6 t7 t8 ds R w)
def n101 (t0 t1 t2 t3:Value) (R:RT) (w:World):Prop :=
 (fun (ds:List Deferred) =>
 opV Pg (Instr.box 49 t0) (outQ Pg ds [(some 27,undef)] R) w fun t4 w =>
 opV Pg (Instr.box 9 t1) (outQ Pg ds [(some 27,undef)] R) w fun t5 w =>
 opV Pg (Instr.box 55 t2) (outQ Pg ds [(some 27,undef)] R) w fun t6 w =>
 opV Pg (Instr.box 150 t3) (outQ Pg ds [(some 27,undef)] R) w fun t7 w =>
 opV Pg (Instr.alloc 27 true (.tuple #[])) (outQ Pg ds [(some 27,undef)] R) w fun t8 w =>
 opV Pg (Instr.loadAt 49 t4) (outQ Pg ds [(some 27,t8)] R) w fun t13 w =>
 callK Pg 112 #[t13] (outQ Pg ds [(some 27,t8)] R) w fun t14 w =>
 n101c6 t4 t5 t6 t7 t8 t14 ds R w) []
theorem n101s {t0 t1 t2 t3:Value} {R:RT} {w:World} (h:n101 t0 t1 t2 t3 R w):Calls Pg 122 #[t0,t1,t2,t3] w R:=by
 refine calls_of_denM (args:=[t0,t1,t2,t3]) Tryz.func122 rfl (Nat.le_of_ble_eq_true rfl) ?_
 unfold n101 at h
 dsimp only at h
 refine zs<|zr ?_
 refine zq h fun t4 w h=>?_
 refine zq h fun t5 w h=>?_
 refine zq h fun t6 w h=>?_
 refine zq h fun t7 w h=>?_
 refine zq h fun t8 w h=>?_
 refine zn<|zk<|zs<|zs<|zr ?_
 refine zq h fun t13 w h=>?_
 refine sim_call h c112 rfl (fun _ _ h=>outQ_of rfl h) ?_;intro t14 w h
 refine zq h fun t15 w h=>?_
 refine zn<|zk ?_
 refine sim_cond h rfl (fun h=>?_) (fun h=>?_)
 · refine zs<|zr ?_
   refine sim_unit h rfl rfl (fun _ _ h=>outQ_of rfl h) ?_;intro w h
   refine zn<|zk<|sim_ret<|sim_then_ret ?_
   exact Sw.bodyM_ret rfl h
 · refine sim_skip<|zk<|zs<|zr ?_
   refine zq h fun t9 w h=>?_
   refine sim_unit h rfl rfl (fun _ _ h=>outQ_of rfl h) ?_;intro w h
   refine zn<|zk<|zs<|zs<|zr ?_
   refine zq h fun t16 w h=>?_
   refine sim_call h c113 rfl (fun _ _ h=>outQ_of rfl h) ?_;intro t17 w h
   refine zn<|zk<|sim_block ?_
   refine sim_range [.ret] h rfl (fun l1 t18 w Kr1 Xr1 Qr1 h=>?_) (fun ds w h=>?_) (fun c ds w h=>?_) (fun ch ds w h=>outQ_of rfl h)
   · refine zr<|zm<|zn<|zk ?_
     obtain ⟨hr,h⟩:=h
     refine ⟨rfl,hr,fun w hb=>?_⟩
     have h:=h w hb
     refine sim_block<|zs<|zr ?_
     refine zv h fun t20 w h=>?_
     refine zm ?_
     refine zv h fun t22 w h=>?_
     refine zm ?_
     refine zv h fun t23 w h=>?_
     refine zv h fun t24 w h=>?_
     refine zv h fun t11 w h=>?_
     refine zu h fun w h=>?_
     refine zm<|zn<|zk<|sim_block<|zs<|zr<|zm ?_
     refine zv h fun t27 w h=>?_
     refine zb h fun t28 w h=>?_
     refine zm<|zn<|zk ?_
     refine joinK_elim h (fun K2 hK h=>?_)
     refine sim_joinQ [29,30,31,32,33,34,35,36] (fun ρ w=>K2 w) (fun _ hkK2=>?_) (fun σ w h=>?_)
     · refine sim_cond h rfl (fun h=>?_) (fun h=>?_)
       · refine sim_skip<|zk ?_
         exact zt hkK2 h
       · refine zs<|zr<|zm ?_
         refine zv h fun t31 w h=>?_
         refine zm<|zn<|zk ?_
         refine sim_cond h rfl (fun h=>?_) (fun h=>?_)
         · refine zr ?_
           refine zu h fun w h=>?_
           refine zn<|zk ?_
           exact zt hkK2 h
         · refine zs<|zr ?_
           refine zv h fun t33 w h=>?_
           refine zv h fun t34 w h=>?_
           refine sim_callV h rfl rfl (fun _ _ h=>⟨rfl,h⟩) ?_;intro t35 w h
           refine zv h fun t36 w h=>?_
           refine zm<|zn<|zk ?_
           refine sim_cond h rfl (fun h=>?_) (fun h=>?_)
           · refine zs<|zr ?_
             refine zu h fun w h=>?_
             refine zn<|zk<|sim_ret<|sim_then_ret<|sim_block_ret<|sim_block_ret ?_
             exact ⟨rfl,0,rfl,h⟩
           · refine sim_skip<|zk ?_
             exact zt hkK2 h
     subst hK
     refine sim_block_normal<|sim_block_normal ?_
     exact ⟨rfl,h⟩
   · refine sim_block_normal<|zk<|zs<|zs<|zr ?_
     refine zq h fun t37 w h=>?_
     refine zn<|zk ?_
     refine sim_cond h rfl (fun h=>?_) (fun h=>?_)
     · refine zs<|zr ?_
       refine sim_unit h rfl rfl (fun _ _ h=>outQ_of rfl h) ?_;intro w h
       refine zn<|zk<|sim_ret<|sim_then_ret ?_
       exact Sw.bodyM_ret rfl h
     · refine sim_skip<|zk<|zs<|zr ?_
       refine sim_unit h rfl rfl (fun _ _ h=>outQ_of rfl h) ?_;intro w h
       refine zn<|zk<|sim_ret ?_
       exact Sw.bodyM_ret rfl h
   · rcases c with _ | c
     · refine ⟨_,rfl,.inl ⟨rfl,?_⟩⟩
       refine sim_block_ret<|sim_then_ret ?_
       exact Sw.bodyM_ret rfl h
     exact h.elim
def n92 (t0 t1 t2:Value) (R:RT) (w:World):Prop :=
 opV Pg (Instr.box 4 t0) (panK R) w fun t3 w =>
 L0 49 t1 R w fun t5 w =>
 opV Pg (Instr.makeFunc (.func 125) #[] #[t2,t3]) (panK R) w fun t6 w =>
 C0 124 #[t5,t6] R w fun t7 w =>
 R (.returned t7) w
theorem n92s {t0 t1 t2:Value} {R:RT} {w:World} (h:n92 t0 t1 t2 R w):Calls Pg 123 #[t0,t1,t2] w R:=by
 refine calls_of_den (args:=[t0,t1,t2]) Tryz.func123 rfl (Nat.le_of_ble_eq_true rfl) ?_
 unfold n92 at h
 refine zs<|zr ?_
 refine zv h fun t3 w h=>?_
 refine zm<|zn<|zk<|zs<|zr ?_
 refine zv h fun t5 w h=>?_
 refine sim_makeFunc h rfl rfl (fun _ _ h=>⟨rfl,h⟩) ?_;intro t6 w h
 refine zc h c124 fun t7 w h=>?_
 refine zm<|zn<|zk<|sim_ret ?_
 exact body_ret1 rfl rfl h
def n104c1 (t5 t13 t19 t22:Value) (C2:World→Prop) (next1:KW) (R:RT) (w:World):Prop :=
 qV Pg C2 (binS .mul 3 false t19 t22) fun t23 =>
 qV Pg C2 (binS .add 3 false t5 t23) fun t24 =>
 B0 .add 3 true t13 (.int .i64 1) R w fun t25 w =>
 next1 t24 t25 w
def n104c2 (t1 t5 t7 t13:Value) (C2:World→Prop) (next1:KW) (R:RT) (w:World):Prop :=
 qV Pg C2 (Instr.fieldAt 78 t7 1) fun t18 =>
 qV Pg C2 (Instr.loadAt 3 t18) fun t19 =>
 qV Pg C2 (Instr.loadAt 78 t7) fun t21 =>
 callV Pg t1 #[t21] (panK R) w fun t22 w =>
 C2 w∧(
 n104c1 t5 t13 t19 t22 C2 next1 R w)
def n104c3 (t1 t5 t11 t13:Value) (next1:KW) (R:RT) (w:World):Prop :=
 X0 47 t11 t13 R w fun t15 w =>
 L0 78 t15 R w fun t16 w =>
 opV Pg (Instr.alloc 78 true (.tuple #[])) (panK R) w fun t7 w =>
 opU Pg (Instr.storeAt 78 t7 t16) (panK R) w fun w =>
 drawK w fun C2 w =>
 n104c2 t1 t5 t7 t13 C2 next1 R w
def n104 (t0 t1:Value) (R:RT) (w:World):Prop :=
 opV Pg (Instr.box 49 t0) (panK R) w fun t2 w =>
 F0 49 t2 0 R w fun t8 w =>
 L0 3 t8 R w fun t9 w =>
 F0 49 t2 1 R w fun t10 w =>
 L0 47 t10 R w fun t11 w =>
 opV Pg (Builtin.len_ #[47] 3 #[t11]) (panK R) w fun t12 w =>
 loop2 (fun t5 t13 w next1 =>
 B0 .lss 3 false t13 t12 R w fun t14 w =>
 condP t14 (
 n104c3 t1 t5 t11 t13 next1 R w) (
 R (.returned t5) w)) t9 (.int .i64 0) w
theorem n104s {t0 t1:Value} {R:RT} {w:World} (h:n104 t0 t1 R w):Calls Pg 124 #[t0,t1] w R:=by
 refine calls_of_den (args:=[t0,t1]) Tryz.func124 rfl (Nat.le_of_ble_eq_true rfl) ?_
 unfold n104 at h
 refine zs<|zr ?_
 refine zv h fun t2 w h=>?_
 refine zm<|zn<|zk<|zs<|zr ?_
 refine zv h fun t8 w h=>?_
 refine zv h fun t9 w h=>?_
 refine zm<|zn<|zk<|zs<|zs<|zr ?_
 refine zv h fun t10 w h=>?_
 refine zv h fun t11 w h=>?_
 refine zx h fun t12 w h=>?_
 refine zm<|zn<|zk<|sim_block ?_
 obtain ⟨I,μ,h0,hr⟩:=h
 refine sim_loop [5,7,13,14,15,16,17,18,19,20,21,22,23,24,25] (by kernel_rfl) (fun ρ w=>I (ρ 5) (ρ 13) w) (fun ρ w=>μ (ρ 5) (ρ 13) w) h0 (fun σ w hI=>?_)
 have h:=hr _ _ _ hI
 clear hr h0 hI
 refine zs<|zr ?_
 refine zb h fun t14 w h=>?_
 refine zn<|zk<|zs ?_
 refine sim_cond h rfl (fun h=>?_) (fun h=>?_)
 · refine sim_skip<|zk<|zs<|sim_block<|zs<|zr ?_
   refine zv h fun t15 w h=>?_
   refine zv h fun t16 w h=>?_
   refine zv h fun t7 w h=>?_
   refine zu h fun w h=>?_
   refine zn<|zk ?_
   obtain ⟨C2,hC,h⟩:=h
   refine sim_draw [5,17,18,19,20,21,22,23,24] (by kernel_rfl) (by kernel_rfl) C2 ?_
   refine zw 0 hC ?_
   refine ze 1 hC h fun t18 h=>?_
   refine ze 2 hC h fun t19 h=>?_
   refine zw 3 hC ?_
   refine ze 4 hC h fun t21 h=>?_
   refine sim_dloud 5 rfl (by kernel_rfl) (fun _ _=>rfl) ?_
   refine sim_callV h rfl rfl (fun _ _ h _ _=>⟨rfl,h⟩) ?_;intro t22 w h
   refine zn ?_
   obtain ⟨hC,h⟩:=h
   refine ⟨hC,?_⟩
   obtain ⟨t23,hv,h⟩:=h
   refine sim_dsilent 6 hC rfl (by kernel_rfl) (by kernel_rfl) (fun _ _=>rfl) rfl (Sw.qV_bin rfl rfl rfl hv) ?_
   obtain ⟨t24,hv,h⟩:=h
   refine sim_dsilent 7 hC rfl (by kernel_rfl) (by kernel_rfl) (fun _ _=>rfl) rfl (Sw.qV_bin rfl rfl rfl hv) ?_
   refine zw 8 hC ?_
   refine sim_dend (by kernel_rfl) ?_
   refine sim_block_normal<|zk<|zr ?_
   refine zb h fun t25 w h=>?_
   refine zm<|zn<|zk ?_
   exact ⟨rfl,h⟩
 · refine sim_exit<|sim_then_exit<|sim_then_exit<|sim_block_hit<|zk<|zs<|zr<|zm<|zm<|zn<|zk<|sim_ret ?_
   exact body_ret1 rfl rfl h
def n93c1 (t1 t3:Value) (R:RT) (w:World):Prop :=
 L0 55 t1 R w fun t17 w =>
 F0 78 t3 0 R w fun t18 w =>
 L0 9 t18 R w fun t19 w =>
 opV Pg (Instr.lookup 55 t17 t19 false) (panK R) w fun t20 w =>
 opV Pg (Instr.field 58 t20 1) (panK R) w fun t21 w =>
 R (.returned t21) w
def n93 (t0 t1 t2:Value) (R:RT) (w:World):Prop :=
 opV Pg (Instr.box 78 t0) (panK R) w fun t3 w =>
 L0 55 t1 R w fun t6 w =>
 F0 78 t3 0 R w fun t7 w =>
 L0 9 t7 R w fun t8 w =>
 opV Pg (Instr.lookup 55 t6 t8 false) (panK R) w fun t9 w =>
 opV Pg (Instr.alloc 58 true (.tuple #[])) (panK R) w fun t5 w =>
 opU Pg (Instr.storeAt 58 t5 t9) (panK R) w fun w =>
 L0 4 t2 R w fun t10 w =>
 F0 78 t3 1 R w fun t11 w =>
 L0 3 t11 R w fun t12 w =>
 B0 .gtr 3 true t12 (.int .i64 0) R w fun t13 w =>
 B0 .eql 4 false t10 t13 R w fun t14 w =>
 condP t14 (
 F0 58 t5 0 R w fun t15 w =>
 L0 3 t15 R w fun t16 w =>
 R (.returned t16) w) (
 n93c1 t1 t3 R w)
theorem n93s {t0 t1 t2:Value} {R:RT} {w:World} (h:n93 t0 t1 t2 R w):Calls Pg 125 #[t0,t1,t2] w R:=by
 refine calls_of_den (args:=[t0,t1,t2]) Tryz.func125 rfl (Nat.le_of_ble_eq_true rfl) ?_
 unfold n93 at h
 refine zs<|zr ?_
 refine zv h fun t3 w h=>?_
 refine zm<|zn<|zk<|zs<|zs<|zr ?_
 refine zv h fun t6 w h=>?_
 refine zv h fun t7 w h=>?_
 refine zv h fun t8 w h=>?_
 refine zv h fun t9 w h=>?_
 refine zv h fun t5 w h=>?_
 refine zu h fun w h=>?_
 refine zn<|zk<|zs<|zr ?_
 refine zv h fun t10 w h=>?_
 refine zv h fun t11 w h=>?_
 refine zv h fun t12 w h=>?_
 refine zb h fun t13 w h=>?_
 refine zb h fun t14 w h=>?_
 refine zn<|zk ?_
 refine sim_cond h rfl (fun h=>?_) (fun h=>?_)
 · refine zs<|zr ?_
   refine zv h fun t15 w h=>?_
   refine zv h fun t16 w h=>?_
   refine zm<|zn<|zk<|sim_ret<|sim_then_ret ?_
   exact body_ret1 rfl rfl h
 · refine sim_skip<|zk<|zs<|zr ?_
   refine zv h fun t17 w h=>?_
   refine zv h fun t18 w h=>?_
   refine zv h fun t19 w h=>?_
   refine zv h fun t20 w h=>?_
   refine zv h fun t21 w h=>?_
   refine zm<|zn<|zk<|sim_ret ?_
   exact body_ret1 rfl rfl h
def n115c1 (t0 t1 t8:Value) (next1:KV) (R:RT) (w:World):Prop :=
 X0 47 t0 t8 R w fun t14 w =>
 L0 78 t14 R w fun t15 w =>
 callV Pg t1 #[t15] (panK R) w fun t16 w =>
 condP t16 (
 R (.returned t8) w) (
 B0 .add 3 true t8 (.int .i64 1) R w fun t18 w =>
 next1 t18 w)
def n115 (t0 t1:Value) (R:RT) (w:World):Prop :=
 opV Pg (Builtin.len_ #[47] 3 #[t0]) (panK R) w fun t7 w =>
 loop1 (fun t8 w next1 =>
 B0 .lss 3 false t8 t7 R w fun t9 w =>
 condP t9 (
 n115c1 t0 t1 t8 next1 R w) (
 R (.returned (.int .i64 (-1))) w)) (.int .i64 0) w
theorem n115s {t0 t1:Value} {R:RT} {w:World} (h:n115 t0 t1 R w):Calls Pg 126 #[t0,t1] w R:=by
 refine calls_of_den (args:=[t0,t1]) Tryz.func126 rfl (Nat.le_of_ble_eq_true rfl) ?_
 unfold n115 at h
 refine zs<|zr<|zm<|zn<|zk<|zs<|zs<|zr<|zm ?_
 refine zx h fun t7 w h=>?_
 refine zm<|zn<|zk<|sim_block ?_
 obtain ⟨I,μ,h0,hr⟩:=h
 refine sim_loop [4,5,8,9,10,11,12,13,14,15,16,17,18] (by kernel_rfl) (fun ρ w=>I (ρ 8) w) (fun ρ w=>μ (ρ 8) w) h0 (fun σ w hI=>?_)
 have h:=hr _ _ hI
 clear hr h0 hI
 refine zs<|zr ?_
 refine zb h fun t9 w h=>?_
 refine zn<|zk<|zs ?_
 refine sim_cond h rfl (fun h=>?_) (fun h=>?_)
 · refine sim_skip<|zk<|zs<|sim_block<|zs<|zr<|zm<|zm<|zn<|zk<|zs<|zr<|zm<|zm<|zm ?_
   refine zv h fun t14 w h=>?_
   refine zv h fun t15 w h=>?_
   refine sim_callV h rfl rfl (fun _ _ h=>⟨rfl,h⟩) ?_;intro t16 w h
   refine zn<|zk ?_
   refine sim_cond h rfl (fun h=>?_) (fun h=>?_)
   · refine zs<|zr<|zm<|zm<|zn<|zk<|sim_ret<|sim_block_ret<|sim_then_ret<|sim_then_ret<|sim_block_ret<|sim_then_ret ?_
     exact body_ret1 rfl rfl h
   · refine sim_skip<|sim_block_normal<|zk<|zr ?_
     refine zb h fun t18 w h=>?_
     refine zm<|zn<|zk ?_
     exact ⟨rfl,h⟩
 · refine sim_exit<|sim_then_exit<|sim_then_exit<|sim_block_hit<|zk<|zs<|zr<|zm<|zn<|zk<|sim_ret ?_
   exact body_ret1 rfl rfl h
end Go.Proofs.YtiajhbbmgglmlaaGreat
namespace Go.Proofs.YtiajhbbmgglmlaaGreat
open Sw
open Go.RowKit (intOf)
theorem IndexFunc_Field_ret (w0:World) (v:Value) (l:List FieldD) (g:FuncId) (caps:Array Value) (p:FieldD→Bool) (hs:FieldsOf w0 v l) (hg:Callable Pg g) (hc:Tests w0 FieldVal g caps p l) :
 Ret Pg 111 #[v,.func (.func g) #[] caps] w0 fun r w'=>r = .int .i64 (idx p l)∧Ext w0 w':=by
 obtain ⟨A,c,rfl,hlc,hcm,hlm,hel⟩:=SliceOf.open hs
 refine n114s (R:=retR _) ?_
 unfold n114
 simp (disch:=try exact DI) only [↓PR,QR,Int.reduceBEq,Int.reduceBNe,Int.reduceLT,Int.reduceLE,Int.reduceGT,Int.reduceGE,Int.reduceNeg]
 refine loop1_intro (fun i w=>∃ k:Nat,i = .int .i64 k∧k≤l.length∧Ext w0 w∧∀ (j:Nat) y,j < k→l[j]?=some y→p y=false) (fun i _=>l.length - (intOf i).toNat) ⟨0,rfl,by omega,Ext.refl _,fun j y h=>by omega⟩ ?_
 rintro i w ⟨k,rfl,hk,e,hb⟩
 by_cases hlt:k < l.length
 · obtain ⟨x,hx⟩:=getElem?_lt hlt
   obtain ⟨b,o,cs,rfl,hl,hA,hE⟩:=hel k x hx
   have hd:decide ((k:Int) < (l.length:Int))=true:=by simp;omega
   simp (disch:=try exact DI) only [↓PR,QR,Int.reduceBEq,Int.reduceBNe,Int.reduceLT,Int.reduceLE,Int.reduceGT,Int.reduceGE,Int.reduceNeg,hd]
   unfold n114c1
   simp (disch:=try exact DI) only [↓PR,QR,Int.reduceBEq,Int.reduceBNe,Int.reduceLT,Int.reduceLE,Int.reduceGT,Int.reduceGE,Int.reduceNeg]
   unfold EField at hE
   obtain ⟨tv,cv,hcs,hT,hC⟩:=hE
   subst hcs
   have hV:FieldVal w0 (.agg (fieldCells x tv cv).toArray) x:=⟨tv,cv,rfl,hT,hC⟩
   simp (disch:=try exact DI) only [↓PR,QR,Int.reduceBEq,Int.reduceBNe,Int.reduceLT,Int.reduceLE,Int.reduceGT,Int.reduceGE,Int.reduceNeg,hA.c15]
   rw [callV_func hg]
   simp only [Array.empty_append]
   refine callK_ret (hc w _ x (List.mem_of_getElem? hx) e (hV.ext e)) ?_
   rintro r w' ⟨rfl,e'⟩
   cases hp:p x with
   | true => 
    simp (disch:=try exact DI) only [↓PR,QR,Int.reduceBEq,Int.reduceBNe,Int.reduceLT,Int.reduceLE,Int.reduceGT,Int.reduceGE,Int.reduceNeg]
    exact ⟨by rw [idx_here hx hp hb],e.trans e'⟩
   | false =>
    simp (disch:=try exact DI) only [↓PR,QR,Int.reduceBEq,Int.reduceBNe,Int.reduceLT,Int.reduceLE,Int.reduceGT,Int.reduceGE,Int.reduceNeg]
    refine ⟨⟨k+1,rfl,by omega,e.trans e',fun j y hj hy=>?_⟩,by simp [intOf];omega⟩
    by_cases hjk:j=k
    · subst hjk;rw [hx] at hy;injection hy with hy;subst hy;exact hp
    · exact hb j y (by omega) hy
 · have hd:decide ((k:Int) < (l.length:Int))=false:=by simp;omega
   simp (disch:=try exact DI) only [↓PR,QR,Int.reduceBEq,Int.reduceBNe,Int.reduceLT,Int.reduceLE,Int.reduceGT,Int.reduceGE,Int.reduceNeg,hd]
   exact ⟨by rw [idx_none fun j y hy=>hb j y (by have:=(List.getElem?_eq_some_iff.1 hy).1;omega) hy],e⟩
theorem IndexFunc_byte_ret (w0:World) (v:Value) (l:List UInt8) (g:FuncId) (caps:Array Value) (p:UInt8→Bool) (hs:(fun w v l=>SliceOf w 1 EByte v l) w0 v l) (hg:Callable Pg g) (hc:Tests w0 (fun _ v x=>v = .int .u8 (x.toNat:Int)) g caps p l) :
 Ret Pg 66 #[v,.func (.func g) #[] caps] w0 fun r w'=>r = .int .i64 (idx p l)∧Ext w0 w':=by
 obtain ⟨A,c,rfl,hlc,hcm,hlm,hel⟩:=SliceOf.open hs
 refine n116s (R:=retR _) ?_
 unfold n116
 simp (disch:=try exact DI) only [↓PR,QR,Int.reduceBEq,Int.reduceBNe,Int.reduceLT,Int.reduceLE,Int.reduceGT,Int.reduceGE,Int.reduceNeg]
 refine loop1_intro (fun i w=>∃ k:Nat,i = .int .i64 k∧k≤l.length∧Ext w0 w∧∀ (j:Nat) y,j < k→l[j]?=some y→p y=false) (fun i _=>l.length - (intOf i).toNat) ⟨0,rfl,by omega,Ext.refl _,fun j y h=>by omega⟩ ?_
 rintro i w ⟨k,rfl,hk,e,hb⟩
 by_cases hlt:k < l.length
 · obtain ⟨x,hx⟩:=getElem?_lt hlt
   obtain ⟨b,o,cs,rfl,hl,hA,hE⟩:=hel k x hx
   have hd:decide ((k:Int) < (l.length:Int))=true:=by simp;omega
   simp (disch:=try exact DI) only [↓PR,QR,Int.reduceBEq,Int.reduceBNe,Int.reduceLT,Int.reduceLE,Int.reduceGT,Int.reduceGE,Int.reduceNeg,hd]
   unfold n116c1
   simp (disch:=try exact DI) only [↓PR,QR,Int.reduceBEq,Int.reduceBNe,Int.reduceLT,Int.reduceLE,Int.reduceGT,Int.reduceGE,Int.reduceNeg]
   obtain rfl:=hE
   have hV:(.int .u8 (x.toNat:Int):Value) = .int .u8 (x.toNat:Int):=rfl
   simp (disch:=try exact DI) only [↓PR,QR,Int.reduceBEq,Int.reduceBNe,Int.reduceLT,Int.reduceLE,Int.reduceGT,Int.reduceGE,Int.reduceNeg,hA.c1]
   rw [callV_func hg]
   simp only [Array.empty_append]
   refine callK_ret (hc w _ x (List.mem_of_getElem? hx) e (hV)) ?_
   rintro r w' ⟨rfl,e'⟩
   cases hp:p x with
   | true => 
    simp (disch:=try exact DI) only [↓PR,QR,Int.reduceBEq,Int.reduceBNe,Int.reduceLT,Int.reduceLE,Int.reduceGT,Int.reduceGE,Int.reduceNeg]
    exact ⟨by rw [idx_here hx hp hb],e.trans e'⟩
   | false =>
    simp (disch:=try exact DI) only [↓PR,QR,Int.reduceBEq,Int.reduceBNe,Int.reduceLT,Int.reduceLE,Int.reduceGT,Int.reduceGE,Int.reduceNeg]
    refine ⟨⟨k+1,rfl,by omega,e.trans e',fun j y hj hy=>?_⟩,by simp [intOf];omega⟩
    by_cases hjk:j=k
    · subst hjk;rw [hx] at hy;injection hy with hy;subst hy;exact hp
    · exact hb j y (by omega) hy
 · have hd:decide ((k:Int) < (l.length:Int))=false:=by simp;omega
   simp (disch:=try exact DI) only [↓PR,QR,Int.reduceBEq,Int.reduceBNe,Int.reduceLT,Int.reduceLE,Int.reduceGT,Int.reduceGE,Int.reduceNeg,hd]
   exact ⟨by rw [idx_none fun j y hy=>hb j y (by have:=(List.getElem?_eq_some_iff.1 hy).1;omega) hy],e⟩
theorem IndexFunc_Term_st (w0 w1:World) (v:Value) (l:List TermD) (g:FuncId) (caps:Array Value) (p:Nat→Bool) (J:Nat→World→Prop) (hs:TermsOf w0 v l) (hg:Callable Pg g) (hJ:∀ k w,J k w→Ext w0 w) (h0:J 0 w1)
 (hc:∀ k x w u,l[k]?=some x→J k w→(fun _ v x=>v=termVal x) w u x→Ret Pg g (#[u]++caps) w fun r w'=>r = .bool (p k)∧J (k+1) w') :
 Ret Pg 126 #[v,.func (.func g) #[] caps] w1 fun r w'=>r = .int .i64 (idx p (List.range l.length))∧∃ k,J k w':=by
 obtain ⟨A,c,rfl,hlc,hcm,hlm,hel⟩:=SliceOf.open hs
 refine n115s (R:=retR _) ?_
 unfold n115
 simp (disch:=try exact DI) only [↓PR,QR,Int.reduceBEq,Int.reduceBNe,Int.reduceLT,Int.reduceLE,Int.reduceGT,Int.reduceGE,Int.reduceNeg]
 refine loop1_intro (fun i w=>∃ k:Nat,i = .int .i64 k∧k≤l.length∧J k w∧∀ (j:Nat) y,j < k→(List.range l.length)[j]?=some y→p y=false) (fun i _=>l.length - (intOf i).toNat) ⟨0,rfl,by omega,h0,fun j y h=>by omega⟩ ?_
 rintro i w ⟨k,rfl,hk,hj,hb⟩
 have e:=hJ _ _ hj
 by_cases hlt:k < l.length
 · obtain ⟨x,hx⟩:=getElem?_lt hlt
   have hr:(List.range l.length)[k]?=some k:=by simp [hlt]
   obtain ⟨b,o,cs,rfl,hl,hA,hE⟩:=hel k x hx
   have hd:decide ((k:Int) < (l.length:Int))=true:=by simp;omega
   simp (disch:=try exact DI) only [↓PR,QR,Int.reduceBEq,Int.reduceBNe,Int.reduceLT,Int.reduceLE,Int.reduceGT,Int.reduceGE,Int.reduceNeg,hd]
   unfold n115c1
   simp (disch:=try exact DI) only [↓PR,QR,Int.reduceBEq,Int.reduceBNe,Int.reduceLT,Int.reduceLE,Int.reduceGT,Int.reduceGE,Int.reduceNeg]
   obtain rfl:=hE
   have hV:(.agg (termCells x).toArray:Value)=termVal x:=rfl
   simp (disch:=try exact DI) only [↓PR,QR,Int.reduceBEq,Int.reduceBNe,Int.reduceLT,Int.reduceLE,Int.reduceGT,Int.reduceGE,Int.reduceNeg,hA.c2]
   rw [callV_func hg]
   simp only [Array.empty_append]
   refine callK_ret (hc k x w _ hx hj hV) ?_
   rintro r w' ⟨rfl,hj'⟩
   cases hp:p k with
   | true => 
    simp (disch:=try exact DI) only [↓PR,QR,Int.reduceBEq,Int.reduceBNe,Int.reduceLT,Int.reduceLE,Int.reduceGT,Int.reduceGE,Int.reduceNeg]
    exact ⟨by rw [idx_here hr hp hb],_,hj'⟩
   | false =>
    simp (disch:=try exact DI) only [↓PR,QR,Int.reduceBEq,Int.reduceBNe,Int.reduceLT,Int.reduceLE,Int.reduceGT,Int.reduceGE,Int.reduceNeg]
    exact ⟨⟨k+1,rfl,by omega,hj',before_succ hb hr hp⟩,by simp [intOf];omega⟩
 · have hd:decide ((k:Int) < (l.length:Int))=false:=by simp;omega
   simp (disch:=try exact DI) only [↓PR,QR,Int.reduceBEq,Int.reduceBNe,Int.reduceLT,Int.reduceLE,Int.reduceGT,Int.reduceGE,Int.reduceNeg,hd]
   exact ⟨by rw [idx_none fun j y hy=>hb j y (by have:=(List.getElem?_eq_some_iff.1 hy).1;simp at this;omega) hy],_,hj⟩
end Go.Proofs.YtiajhbbmgglmlaaGreat
namespace Go.Proofs.YtiajhbbmgglmlaaGreat
open Sw
def n42c1 (t1 t2:Value) (R:RT) (w:World):Prop :=
 F0 52 t1 5 R w fun t13 w =>
 L0 3 t13 R w fun t14 w =>
 F0 52 t1 5 R w fun t15 w =>
 L0 3 t15 R w fun t16 w =>
 opV Pg (Instr.build 58 #[(0,t14),(1,t16)]) (panK R) w fun t17 w =>
 opU Pg (Instr.storeAt 58 t2 t17) (panK R) w fun w =>
 qW Pg 58 t2 w fun r0 =>
 R (.returned (.tuple #[r0,(.int .i64 0)])) w
def n42c2 (t1 t2:Value) (R:RT) (w:World):Prop :=
 F0 52 t1 5 R w fun t18 w =>
 L0 3 t18 R w fun t19 w =>
 F0 52 t1 6 R w fun t20 w =>
 L0 3 t20 R w fun t21 w =>
 opV Pg (Instr.build 58 #[(0,t19),(1,t21)]) (panK R) w fun t22 w =>
 opU Pg (Instr.storeAt 58 t2 t22) (panK R) w fun w =>
 qW Pg 58 t2 w fun r0 =>
 R (.returned (.tuple #[r0,(.int .i64 0)])) w
def n42c3 (t2:Value) (R:RT) (w:World):Prop :=
 opV Pg (Instr.build 58 #[]) (panK R) w fun t8 w =>
 opU Pg (Instr.storeAt 58 t2 t8) (panK R) w fun w =>
 qW Pg 58 t2 w fun r0 =>
 R (.returned (.tuple #[r0,(.int .i64 2)])) w
def n42c4 (t1 t2:Value) (R:RT) (w:World):Prop :=
 F0 52 t1 1 R w fun t10 w =>
 L0 46 t10 R w fun t11 w =>
 B0 .eql 46 true t11 (.int .i64 2) R w fun t12 w =>
 condP t12 (
 n42c1 t1 t2 R w) (
 n42c2 t1 t2 R w)
def n42 (t0:Value) (R:RT) (w:World):Prop :=
 opV Pg (Instr.box 52 t0) (panK R) w fun t1 w =>
 opV Pg (Instr.alloc 58 true (.tuple #[])) (panK R) w fun t2 w =>
 L0 52 t1 R w fun t5 w =>
 C0 64 #[t5] R w fun t6 w =>
 opV Pg (Op.unary .not t6) (panK R) w fun t7 w =>
 condP t7 (
 n42c3 t2 R w) (
 n42c4 t1 t2 R w)
theorem n42s {t0:Value} {R:RT} {w:World} (h:n42 t0 R w):Calls Pg 47 #[t0] w R:=by
 refine calls_of_den (args:=[t0]) Tryz.func47 rfl (Nat.le_of_ble_eq_true rfl) ?_
 unfold n42 at h
 refine zs<|zr ?_
 refine zv h fun t1 w h=>?_
 refine zv h fun t2 w h=>?_
 refine zm<|zn<|zk<|zs<|sim_block<|zs<|zr ?_
 refine zv h fun t5 w h=>?_
 refine zc h c64 fun t6 w h=>?_
 refine zv h fun t7 w h=>?_
 refine zm<|zn<|zk ?_
 refine sim_cond h rfl (fun h=>?_) (fun h=>?_)
 · refine zs<|zr ?_
   refine sim_build h rfl (fun _ _ h=>⟨rfl,h⟩) ?_;intro t8 w h
   refine zu h fun w h=>?_
   refine zm<|zn<|zk<|sim_ret<|sim_block_ret<|sim_then_ret ?_
   exact body_retCT rfl rfl rfl h
 · refine zs<|zr ?_
   refine zv h fun t10 w h=>?_
   refine zv h fun t11 w h=>?_
   refine zb h fun t12 w h=>?_
   refine zm<|zn<|zk ?_
   refine sim_cond h rfl (fun h=>?_) (fun h=>?_)
   · refine zs<|zr ?_
     refine zv h fun t13 w h=>?_
     refine zv h fun t14 w h=>?_
     refine zv h fun t15 w h=>?_
     refine zv h fun t16 w h=>?_
     refine sim_build h rfl (fun _ _ h=>⟨rfl,h⟩) ?_;intro t17 w h
     refine zu h fun w h=>?_
     refine zm<|zn<|zk<|sim_ret<|sim_block_ret<|sim_then_ret ?_
     exact body_retCT rfl rfl rfl h
   · refine sim_skip<|sim_block_normal<|zk<|zs<|zr ?_
     refine zv h fun t18 w h=>?_
     refine zv h fun t19 w h=>?_
     refine zv h fun t20 w h=>?_
     refine zv h fun t21 w h=>?_
     refine sim_build h rfl (fun _ _ h=>⟨rfl,h⟩) ?_;intro t22 w h
     refine zu h fun w h=>?_
     refine zm<|zn<|zk<|sim_ret ?_
     exact body_retCT rfl rfl rfl h
def n95c1 (t0 t5 t9:Value) (R:RT) (w:World):Prop :=
 pickK t5 t9 (.bool false) fun t10 =>
 joinK (fun (t13:Value) (w:World) =>
 pickK t10 t13 (.bool false) fun t14 =>
 R (.returned t14) w) fun K2 =>
 guardP t10 true (
 opV Pg (binS .neq 5 true t0 (.int .u8 95)) (panK R) w fun t13 w =>
 K2 t13 w) (
 K2 undef w)
def n95c2 (t0 t4:Value) (R:RT) (w:World):Prop :=
 opV Pg (Op.unary .not t4) (panK R) w fun t5 w =>
 joinK (fun (t9:Value) (w:World) =>
 n95c1 t0 t5 t9 R w) fun K1 =>
 guardP t5 true (
 C0 50 #[t0] R w fun t8 w =>
 opV Pg (Op.unary .not t8) (panK R) w fun t9 w =>
 K1 t9 w) (
 K1 undef w)
def n95 (t0:Value) (R:RT) (w:World):Prop :=
 C0 49 #[t0] R w fun t4 w =>
 n95c2 t0 t4 R w
theorem n95s {t0:Value} {R:RT} {w:World} (h:n95 t0 R w):Calls Pg 48 #[t0] w R:=by
 refine calls_of_den (args:=[t0]) Tryz.func48 rfl (Nat.le_of_ble_eq_true rfl) ?_
 unfold n95 at h
 refine zs<|zr<|zm<|zn<|zk<|zs<|sim_regionG ?_
 refine sim_seg 4 rfl ?_
 refine zm ?_
 refine zc h c49 fun t4 w h=>?_
 refine zv h fun t5 w h=>?_
 refine zm<|zn ?_
 refine joinK_elim h (fun K1 hK h=>?_)
 refine sim_groupJ 3 3 true [7,8,9] (fun ρ w=>K1 (ρ 9) w) rfl rfl (fun T hT=>guardP_mono h (fun h=>?_) (fun h=>?_)) (fun σ w h=>?_)
 · refine zm ?_
   refine zc h c50 fun t8 w h=>?_
   refine zv h fun t9 w h=>?_
   refine zn ?_
   exact zt hT h
 · exact zt hT h
 subst hK
 refine sim_seg 2 rfl ?_
 refine sim_pick h rfl rfl rfl ?_;intro t10 h
 refine zm<|zn ?_
 refine joinK_elim h (fun K2 hK h=>?_)
 refine sim_groupJ 2 8 true [12,13] (fun ρ w=>K2 (ρ 13) w) rfl rfl (fun T hT=>guardP_mono h (fun h=>?_) (fun h=>?_)) (fun σ w h=>?_)
 · refine zm ?_
   refine zb h fun t13 w h=>?_
   refine zn ?_
   exact zt hT h
 · exact zt hT h
 subst hK
 refine sim_seg 2 rfl ?_
 refine sim_pick h rfl rfl rfl ?_;intro t14 h
 refine zm<|zn<|sim_end<|zk<|sim_ret ?_
 exact body_ret1 rfl rfl h
def n103c1 (t0 t8 t12:Value) (R:RT) (w:World):Prop :=
 joinK (fun (t14:Value) (w:World) =>
 joinK (fun (t15:Value) (w:World) =>
 pickK t8 (.bool true) t15 fun t16 =>
 R (.returned t16) w) fun K4 =>
 guardP t8 false (
 pickK t12 t14 (.bool false) fun t15 =>
 K4 t15 w) (
 K4 undef w)) fun K3 =>
 guardP t12 true (
 opV Pg (binS .leq 5 true t0 (.int .u8 122)) (panK R) w fun t14 w =>
 K3 t14 w) (
 K3 undef w)
def n103c2 (t0 t4 t7:Value) (R:RT) (w:World):Prop :=
 pickK t4 t7 (.bool false) fun t8 =>
 joinK (fun (t12:Value) (w:World) =>
 n103c1 t0 t8 t12 R w) fun K2 =>
 guardP t8 false (
 opV Pg (binS .geq 5 true t0 (.int .u8 97)) (panK R) w fun t11 w =>
 K2 t11 w) (
 K2 undef w)
def n103 (t0:Value) (R:RT) (w:World):Prop :=
 opV Pg (binS .geq 5 true t0 (.int .u8 65)) (panK R) w fun t4 w =>
 joinK (fun (t7:Value) (w:World) =>
 n103c2 t0 t4 t7 R w) fun K1 =>
 guardP t4 true (
 opV Pg (binS .leq 5 true t0 (.int .u8 90)) (panK R) w fun t7 w =>
 K1 t7 w) (
 K1 undef w)
theorem n103s {t0:Value} {R:RT} {w:World} (h:n103 t0 R w):Calls Pg 49 #[t0] w R:=by
 refine calls_of_den (args:=[t0]) Tryz.func49 rfl (Nat.le_of_ble_eq_true rfl) ?_
 unfold n103 at h
 refine zs<|zr<|zm<|zn<|zk<|zs<|sim_regionG ?_
 refine sim_seg 3 rfl ?_
 refine zm ?_
 refine zb h fun t4 w h=>?_
 refine zm<|zn ?_
 refine joinK_elim h (fun K1 hK h=>?_)
 refine sim_groupJ 2 2 true [6,7] (fun ρ w=>K1 (ρ 7) w) rfl rfl (fun T hT=>guardP_mono h (fun h=>?_) (fun h=>?_)) (fun σ w h=>?_)
 · refine zm ?_
   refine zb h fun t7 w h=>?_
   refine zn ?_
   exact zt hT h
 · exact zt hT h
 subst hK
 refine sim_seg 2 rfl ?_
 refine sim_pick h rfl rfl rfl ?_;intro t8 h
 refine zm<|zn ?_
 refine joinK_elim h (fun K2 hK h=>?_)
 refine sim_groupJ 3 6 false [10,11,12] (fun ρ w=>K2 (ρ 12) w) rfl rfl (fun T hT=>guardP_mono h (fun h=>?_) (fun h=>?_)) (fun σ w h=>?_)
 · refine zm ?_
   refine zb h fun t11 w h=>?_
   refine zm<|zn ?_
   exact zt hT h
 · exact zt hT h
 subst hK
 refine joinK_elim h (fun K3 hK h=>?_)
 refine sim_groupJ 2 9 true [13,14] (fun ρ w=>K3 (ρ 14) w) rfl rfl (fun T hT=>guardP_mono h (fun h=>?_) (fun h=>?_)) (fun σ w h=>?_)
 · refine zm ?_
   refine zb h fun t14 w h=>?_
   refine zn ?_
   exact zt hT h
 · exact zt hT h
 subst hK
 refine joinK_elim h (fun K4 hK h=>?_)
 refine sim_groupJ 1 6 false [15] (fun ρ w=>K4 (ρ 15) w) rfl rfl (fun T hT=>guardP_mono h (fun h=>?_) (fun h=>?_)) (fun σ w h=>?_)
 · refine sim_pick h rfl rfl rfl ?_;intro t15 h
   refine zn ?_
   exact zt hT h
 · exact zt hT h
 subst hK
 refine sim_seg 2 rfl ?_
 refine sim_pick h rfl rfl rfl ?_;intro t16 h
 refine zm<|zn<|sim_end<|zk<|sim_ret ?_
 exact body_ret1 rfl rfl h
def n102 (t0:Value) (R:RT) (w:World):Prop :=
 opV Pg (binS .geq 5 true t0 (.int .u8 48)) (panK R) w fun t4 w =>
 joinK (fun (t7:Value) (w:World) =>
 pickK t4 t7 (.bool false) fun t8 =>
 R (.returned t8) w) fun K1 =>
 guardP t4 true (
 opV Pg (binS .leq 5 true t0 (.int .u8 57)) (panK R) w fun t7 w =>
 K1 t7 w) (
 K1 undef w)
theorem n102s {t0:Value} {R:RT} {w:World} (h:n102 t0 R w):Calls Pg 50 #[t0] w R:=by
 refine calls_of_den (args:=[t0]) Tryz.func50 rfl (Nat.le_of_ble_eq_true rfl) ?_
 unfold n102 at h
 refine zs<|zr<|zm<|zn<|zk<|zs<|sim_regionG ?_
 refine sim_seg 3 rfl ?_
 refine zm ?_
 refine zb h fun t4 w h=>?_
 refine zm<|zn ?_
 refine joinK_elim h (fun K1 hK h=>?_)
 refine sim_groupJ 2 2 true [6,7] (fun ρ w=>K1 (ρ 7) w) rfl rfl (fun T hT=>guardP_mono h (fun h=>?_) (fun h=>?_)) (fun σ w h=>?_)
 · refine zm ?_
   refine zb h fun t7 w h=>?_
   refine zn ?_
   exact zt hT h
 · exact zt hT h
 subst hK
 refine sim_seg 2 rfl ?_
 refine sim_pick h rfl rfl rfl ?_;intro t8 h
 refine zm<|zn<|sim_end<|zk<|sim_ret ?_
 exact body_ret1 rfl rfl h
def n100 (t0:Value) (R:RT) (w:World):Prop :=
 C0 65 #[t0,(.bool false)] R w fun t4 w =>
 opV Pg (Op.unary .not t4) (panK R) w fun t5 w =>
 R (.returned t5) w
theorem n100s {t0:Value} {R:RT} {w:World} (h:n100 t0 R w):Calls Pg 51 #[t0] w R:=by
 refine calls_of_den (args:=[t0]) Tryz.func51 rfl (Nat.le_of_ble_eq_true rfl) ?_
 unfold n100 at h
 refine zs<|zr<|zm<|zn<|zk<|zs<|zr<|zm ?_
 refine zc h c65 fun t4 w h=>?_
 refine zv h fun t5 w h=>?_
 refine zm<|zn<|zk<|sim_ret ?_
 exact body_ret1 rfl rfl h
def n109 (t0 t1:Value) (R:RT) (w:World):Prop :=
 C0 66 #[t0,t1] R w fun t7 w =>
 B0 .geq 3 true t7 (.int .i64 0) R w fun t8 w =>
 R (.returned t8) w
theorem n109s {t0 t1:Value} {R:RT} {w:World} (h:n109 t0 t1 R w):Calls Pg 52 #[t0,t1] w R:=by
 refine calls_of_den (args:=[t0,t1]) Tryz.func52 rfl (Nat.le_of_ble_eq_true rfl) ?_
 unfold n109 at h
 refine zs<|zr<|zm<|zn<|zk<|zs<|zr<|zm<|zm ?_
 refine zc h c66 fun t7 w h=>?_
 refine zb h fun t8 w h=>?_
 refine zm<|zn<|zk<|sim_ret ?_
 exact body_ret1 rfl rfl h
def n53c1 (t0 t3 t6:Value) (R:RT) (w:World):Prop :=
 F0 121 t6 1 R w fun t49 w =>
 L0 119 t49 R w fun t50 w =>
 L0 52 t3 R w fun t52 w =>
 callV Pg t50 #[t0,t52] (panK R) w fun t53 w =>
 R (.returned (.tuple #[])) w
def n53c2 (t0 t3 t6 t7:Value) (R:RT) (w:World):Prop :=
 L0 52 t7 R w fun t41 w =>
 F0 52 t3 0 R w fun t42 w =>
 L0 9 t42 R w fun t43 w =>
 F0 52 t3 1 R w fun t44 w =>
 L0 46 t44 R w fun t45 w =>
 opV Pg (Instr.build 52 #[(0,t43),(1,t45)]) (panK R) w fun t46 w =>
 C0 70 #[t41,t46] R w fun t47 w =>
 C0 37 #[t0,t47,(.int .i64 5)] R w fun t48 w =>
 n53c1 t0 t3 t6 R w
def n53c3 (t0 t3 t6:Value) (R:RT) (w:World):Prop :=
 L0 52 t3 R w fun t36 w =>
 opV Pg (Instr.alloc 52 true (.tuple #[])) (panK R) w fun t7 w =>
 opU Pg (Instr.storeAt 52 t7 t36) (panK R) w fun w =>
 F0 121 t6 0 R w fun t37 w =>
 L0 118 t37 R w fun t38 w =>
 callV Pg t38 #[t7] (panK R) w fun t39 w =>
 n53c2 t0 t3 t6 t7 R w
def n53c4 (t27 t29:Value) (C4:World→Prop) (K3:KW) (R:RT) (w:World):Prop :=
 qV Pg C4 (Instr.lookup 123 t27 t29 true) fun t30 =>
 qV Pg C4 (Instr.extract t30 0) fun t31 =>
 qV Pg C4 (Instr.extract t30 1) fun t32 =>
 opV Pg (Instr.alloc 121 true (.tuple #[])) (panK R) w fun t6 w =>
 C4 w∧(
 opU Pg (Instr.storeAt 121 t6 t31) (panK R) w fun w =>
 C4 w∧(
 K3 t32 t6 w))
def n53c5 (t6 t27 t29:Value) (C5:World→Prop) (K3:KW) (R:RT) (w:World):Prop :=
 qV Pg C5 (Instr.lookup 123 t27 t29 true) fun t30 =>
 qV Pg C5 (Instr.extract t30 0) fun t31 =>
 qV Pg C5 (Instr.extract t30 1) fun t32 =>
 opU Pg (Instr.storeAt 121 t6 t31) (panK R) w fun w =>
 C5 w∧(
 K3 t32 t6 w)
def n53c6 (t0 t3:Value) (C2:World→Prop) (R:RT) (w:World):Prop :=
 qV Pg C2 (Instr.fieldAt 52 t3 1) fun t28 =>
 qV Pg C2 (Instr.loadAt 46 t28) fun t29 =>
 joinK (fun (t5:Value) (t6:Value) (w:World) =>
 C0 37 #[t0,t5,(.int .i64 4)] R w fun t35 w =>
 n53c3 t0 t3 t6 R w) fun K3 =>
 (
 C0 69 #[] R w fun t27 w =>
 narrowK C2 w fun C4 w =>
 n53c4 t27 t29 C4 K3 R w)∧(
 opV Pg (Instr.alloc 121 true (.tuple #[])) (panK R) w fun t6 w =>
 C2 w∧(
 C0 69 #[] R w fun t27 w =>
 narrowK C2 w fun C5 w =>
 n53c5 t6 t27 t29 C5 K3 R w))
def n53c7 (t0 t3 t19:Value) (C1:World→Prop) (R:RT) (w:World):Prop :=
 qV Pg C1 (Instr.extract t19 0) fun t20 =>
 qV Pg C1 (Instr.extract t19 1) fun t21 =>
 opV Pg (Op.unary .not t21) (panK R) w fun t24 w =>
 C0 37 #[t0,t24,(.int .i64 2)] R w fun t25 w =>
 drawK w fun C2 w =>
 n53c6 t0 t3 C2 R w
def n53c8 (t0 t3:Value) (C1:World→Prop) (R:RT) (w:World):Prop :=
 qV Pg C1 (Instr.fieldAt 52 t3 0) fun t17 =>
 qV Pg C1 (Instr.loadAt 9 t17) fun t18 =>
 C0 68 #[t0] R w fun t15 w =>
 C1 w∧(
 qV Pg C1 (Instr.build 45 #[(1,t15)]) fun t16 =>
 C0 67 #[t16,t18] R w fun t19 w =>
 C1 w∧(
 n53c7 t0 t3 t19 C1 R w))
def n53 (t0 t1:Value) (R:RT) (w:World):Prop :=
 opV Pg (Instr.box 52 t1) (panK R) w fun t3 w =>
 F0 52 t3 0 R w fun t9 w =>
 L0 9 t9 R w fun t10 w =>
 C0 38 #[t10] R w fun t11 w =>
 C0 37 #[t0,t11,(.int .i64 1)] R w fun t12 w =>
 drawK w fun C1 w =>
 n53c8 t0 t3 C1 R w
theorem n53s {t0 t1:Value} {R:RT} {w:World} (h:n53 t0 t1 R w):Calls Pg 53 #[t0,t1] w R:=by
 refine calls_of_den (args:=[t0,t1]) Tryz.func53 rfl (Nat.le_of_ble_eq_true rfl) ?_
 unfold n53 at h
 refine zs<|zr ?_
 refine zv h fun t3 w h=>?_
 refine zn<|zk<|zs<|zr<|zm ?_
 refine zv h fun t9 w h=>?_
 refine zv h fun t10 w h=>?_
 refine zc h c38 fun t11 w h=>?_
 refine zc h c37 fun t12 w h=>?_
 refine zn<|zk<|zs ?_
 obtain ⟨C1,hC,h⟩:=h
 refine sim_draw [4,5,13,14,15,16,17,18,19,20,21] (by kernel_rfl) (by kernel_rfl) C1 ?_
 refine zw 0 hC ?_
 refine ze 3 hC h fun t17 h=>?_
 refine ze 4 hC h fun t18 h=>?_
 refine sim_dloud 1 rfl (by kernel_rfl) (fun _ _=>rfl) ?_
 refine sim_call h c68 rfl (fun _ _ h _ _=>⟨rfl,h⟩) ?_;intro t15 w h
 refine zn ?_
 obtain ⟨hC,h⟩:=h
 refine ⟨hC,?_⟩
 obtain ⟨t16,hv,h⟩:=h
 refine sim_dsilent 2 hC rfl (by kernel_rfl) (by kernel_rfl) (fun _ _=>rfl) rfl (Sw.qV_build rfl hv) ?_
 refine sim_dloud 5 rfl (by kernel_rfl) (fun _ _=>rfl) ?_
 refine sim_call h c67 rfl (fun _ _ h _ _=>⟨rfl,h⟩) ?_;intro t19 w h
 refine zn ?_
 obtain ⟨hC,h⟩:=h
 refine ⟨hC,?_⟩
 refine zw 6 hC ?_
 refine ze 7 hC h fun t20 h=>?_
 refine ze 8 hC h fun t21 h=>?_
 refine zw 9 hC ?_
 refine zw 10 hC ?_
 refine sim_dend (by kernel_rfl) ?_
 refine zk<|zs<|zr<|zm<|zm ?_
 refine zv h fun t24 w h=>?_
 refine zc h c37 fun t25 w h=>?_
 refine zn<|zk<|zs ?_
 obtain ⟨C2,hC,h⟩:=h
 refine sim_draw [5,6,26,27,28,29,30,31,32] (by kernel_rfl) (by kernel_rfl) C2 ?_
 refine ze 1 hC h fun t28 h=>?_
 refine ze 2 hC h fun t29 h=>?_
 refine joinK_elim h (fun K3 hK h=>?_)
 refine sim_dmeet [5,6,26,27,30,31,32] (fun ρ w=>K3 (ρ 5) (ρ 6) w) (fun T hT=>?_) (fun σ w h=>?_)
 · obtain ⟨h0,h1⟩:=h
   refine sim_dloud2 0 7 rfl rfl (by kernel_rfl) (fun _ _=>rfl) (fun _ _=>rfl) ?_ ?_
   · have h:=h0
     refine sim_call h c69 rfl (fun _ _ h _ _=>⟨rfl,h⟩) ?_;intro t27 w h
     refine zn ?_
     obtain ⟨C4,hs,hC,h⟩:=h
     refine ⟨C4,hs,hC,?_⟩
     refine ze 3 hC h fun t30 h=>?_
     refine zw 4 hC ?_
     refine ze 5 hC h fun t31 h=>?_
     refine ze 6 hC h fun t32 h=>?_
     refine sim_dloud 7 rfl (by kernel_rfl) (fun _ _=>rfl) ?_
     refine sim_val h rfl rfl (fun _ _ h _ _=>⟨rfl,h⟩) ?_;intro t6 w h
     refine zn ?_
     obtain ⟨hC,h⟩:=h
     refine ⟨hC,?_⟩
     refine sim_dloud 8 rfl (by kernel_rfl) (fun _ _=>rfl) ?_
     refine sim_unit h rfl rfl (fun _ _ h _ _=>⟨rfl,h⟩) ?_;intro w h
     refine zn ?_
     obtain ⟨hC,h⟩:=h
     refine ⟨hC,?_⟩
     refine zw 9 hC ?_
     refine sim_dend (by kernel_rfl) ?_
     exact zt hT h
   · have h:=h1
     refine sim_val h rfl rfl (fun _ _ h _ _=>⟨rfl,h⟩) ?_;intro t6 w h
     refine zn ?_
     obtain ⟨hC,h⟩:=h
     refine ⟨_,fun _ h=>h,hC,?_⟩
     refine sim_dnarrow 0 rfl (by kernel_rfl) (fun _ _=>rfl) ?_
     refine sim_call h c69 rfl (fun _ _ h _ _=>⟨rfl,h⟩) ?_;intro t27 w h
     refine zn ?_
     obtain ⟨C5,hs,hC,h⟩:=h
     refine ⟨C5,hs,hC,?_⟩
     refine ze 3 hC h fun t30 h=>?_
     refine zw 4 hC ?_
     refine ze 5 hC h fun t31 h=>?_
     refine ze 6 hC h fun t32 h=>?_
     refine sim_dloud 8 rfl (by kernel_rfl) (fun _ _=>rfl) ?_
     refine sim_unit h rfl rfl (fun _ _ h _ _=>⟨rfl,h⟩) ?_;intro w h
     refine zn ?_
     obtain ⟨hC,h⟩:=h
     refine ⟨hC,?_⟩
     refine zw 9 hC ?_
     refine sim_dend (by kernel_rfl) ?_
     exact zt hT h
 subst hK
 refine zk<|zs<|zr<|zm<|zm ?_
 refine zc h c37 fun t35 w h=>?_
 refine zn<|zk<|zs<|zr ?_
 refine zv h fun t36 w h=>?_
 refine zv h fun t7 w h=>?_
 refine zu h fun w h=>?_
 refine zn<|zk<|zs<|zr ?_
 refine zv h fun t37 w h=>?_
 refine zv h fun t38 w h=>?_
 refine sim_callV h rfl rfl (fun _ _ h=>⟨rfl,h⟩) ?_;intro t39 w h
 refine zn<|zk<|zs<|zr<|zm ?_
 refine zv h fun t41 w h=>?_
 refine zv h fun t42 w h=>?_
 refine zv h fun t43 w h=>?_
 refine zv h fun t44 w h=>?_
 refine zv h fun t45 w h=>?_
 refine sim_build h rfl (fun _ _ h=>⟨rfl,h⟩) ?_;intro t46 w h
 refine zc h c70 fun t47 w h=>?_
 refine zc h c37 fun t48 w h=>?_
 refine zn<|zk<|zr ?_
 refine zv h fun t49 w h=>?_
 refine zv h fun t50 w h=>?_
 refine zm ?_
 refine zv h fun t52 w h=>?_
 refine sim_callV h rfl rfl (fun _ _ h=>⟨rfl,h⟩) ?_;intro t53 w h
 refine zn ?_
 refine body_normal ?_
 exact body_ret0 rfl h
end Go.Proofs.YtiajhbbmgglmlaaGreat
