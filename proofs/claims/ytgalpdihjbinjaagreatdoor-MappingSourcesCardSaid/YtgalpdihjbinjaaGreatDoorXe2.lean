/-
  Lemmas for the claim.
-/
import Derived.Test.YtgalpdihjbinjaaGreatDoorXe1
set_option linter.all false
set_option maxHeartbeats 40000000
set_option maxRecDepth 100000
namespace Go.Sw
open Go.RowKit (Below)
section
variable {P:Program} {QP:List PanicEntry→World→Prop} {w:World} {k:Value→World→Prop} {ku:World→Prop}
theorem op_indexS {t:TypeId} (hu:P.underlying t=some .string) (s:ByteArray) (kd:IntKind) (i:Nat) {b:UInt8} (hb:s.data.toList[i]?=some b) :
 opV P (Instr.index t (.string s) (.int kd (i:Int))) QP w k=k (.int .u8 b.toNat) w:=by
 refine opV_ok ?_
 have hs:s[i]?=some b:=by
  obtain ⟨h1,h2⟩:=Qv hb
  have h3:i < s.data.size:=by simpa using h1
  rw [getElem?_pos s i h3]
  exact congrArg some h2
 unfold Instr.index
 have hai:(asIntOf (.int kd (i:Int))).run P w = .ok (kd,(i:Int)) w:=rfl
 simp only [Sem.run_bind,hai,Result.andThen_ok,run_underlying hu]
 have:(if (0:Int)≤(i:Int) then s[(i:Int).toNat]? else none)=some b:=by rw [if_pos Qx,Int.toNat_natCast];exact hs
 rw [this];rfl
theorem op_indexS0 {t:TypeId} (hu:P.underlying t=some .string) (s:ByteArray) (kd:IntKind) {b:UInt8} (hb:s.data.toList[0]?=some b) :
 opV P (Instr.index t (.string s) (.int kd 0)) QP w k=k (.int .u8 b.toNat) w:=op_indexS hu s kd 0 hb
theorem op_shl (t:TypeId) (c:Bool) (x:Int) (yk:IntKind) (y:Int) (h0:0≤y) (h1:y≤64):opV P (binS .shl t c (.int .i64 x) (.int yk y)) QP w k=k (.int .i64 (IntKind.i64.wrap (x*2 ^ y.toNat))) w:=opV_ok (by
 simp [binS,go_sem,h0,h1])
theorem op_sliceTo {t e:TypeId} {agg:Bool} {n m:Nat} {z:Value} (hu:P.underlying t=some (.slice e)) (ht:TyInfo P e agg n m z) (b o len cap:Nat) (kd:IntKind) (h:Nat) (hh:h≤cap) :
 opV P (Instr.sliceAt t (.slice (some ⟨b,o,none⟩) len cap) none (some (.int kd (h:Int))) none) QP w k=k (.slice (some ⟨b,o,none⟩) h cap) w:=by
 refine opV_ok ?_
 have h1:(h:Int)≤(cap:Int):=Qx
 have h2:(0:Int)≤(h:Int):=Qx
 simp [Instr.sliceAt,run_underlying hu,Instr.slice,Instr.sliceBounds,run_sliceBound,h1,h2,run_sizeOf ht,Addr.add_lit]
theorem op_convInt {src dst:TypeId} {kd:IntKind} (hs:(P.underlying src).isSome=true) (hd:P.underlying dst=some (.int kd)) (q:IntKind) (n:Int) :
 opV P (Go.convert src dst (.int q n)) QP w k=k (.int kd (kd.wrap n)) w:=opV_ok (by
 have hk:P.intKind dst=kd:=by simp [Program.intKind,hd]
 have:=run_convert_int (P:=P) w src dst q n hs (by rw [hk];exact hd)
 rw [hk] at this;exact this)
theorem op_rem (t:TypeId) (c:Bool) (kd:IntKind) (a b:Int) (hb:b≠0):opV P (binS .rem t c (.int kd a) (.int kd b)) QP w k=k (.int kd (a.tmod b)) w:=opV_ok (by
 rw [run_bin_int _ _ _ _ _ _ rfl]
 show Sem.run P (Op.intDiv .rem kd a b) w=_
 unfold Op.intDiv
 rw [if_neg hb];rfl)
theorem run_eqv {t:TypeId} {a b:Value} {r:Bool} (h:(Op.equalIn (9999+1) t a b).run P w = .ok r w):(do pure (.bool (← Op.equal t a b)):Sem Value).run P w = .ok (.bool r) w:=by
 have h':(Op.equal t a b).run P w = .ok r w:=h
 rw [Sem.run_bind,h'];rfl
theorem run_nev {t:TypeId} {a b:Value} {r:Bool} (h:(Op.equalIn (9999+1) t a b).run P w = .ok r w):(do pure (.bool (!(← Op.equal t a b))):Sem Value).run P w = .ok (.bool (!r)) w:=by
 have h':(Op.equal t a b).run P w = .ok r w:=h
 rw [Sem.run_bind,h'];rfl
theorem op_iface {t:TypeId} {d:TypeDesc} (hu:P.underlying t=some d) (hn:(match d with | .interface _=>false | _=>true)=true) (v:Value):opV P (Instr.makeInterface t v) QP w k=k (.iface t v) w:=by
 refine opV_ok ?_
 unfold Instr.makeInterface
 simp only [Sem.run_bind,run_underlying hu,Result.andThen_ok]
 cases d<;>simp at hn<;>rfl
theorem op_assert_ok {xt t:TypeId} {d:TypeDesc} (hu:P.underlying t=some d) (hn:(match d with | .interface _=>false | _=>true)=true) (v:Value):opV P (Instr.typeAssert (.iface t v) xt t true) QP w k=k (.tuple #[v,.bool true]) w:=by
 refine opV_ok ?_
 unfold Instr.typeAssert
 simp only [Sem.run_bind,run_underlying hu,Result.andThen_ok]
 cases d<;>simp at hn<;>simp
theorem op_panic (t:TypeId) (v:Value):opV P (Instr.panic (.iface t v)) QP w k=QP [{ v := .iface t v,recovered:=false }] w:=opV_panic rfl
theorem eqNil_i (d0:Nat) {t:TypeId} {m:Array (String×TypeId)} (hu:P.underlying t=some (.interface m)) (d:TypeId) (v:Value):(Op.equalIn (d0+1) t (.iface d v) .nilIface).run P w = .ok false w:=by simp [Op.equalIn,run_underlying hu]
theorem eqNil_n (d0:Nat) {t:TypeId} {m:Array (String×TypeId)} (hu:P.underlying t=some (.interface m)):(Op.equalIn (d0+1) t .nilIface .nilIface).run P w = .ok true w:=by simp [Op.equalIn,run_underlying hu]
theorem eqNil_f (d0:Nat) {t:TypeId} {a b:Array TypeId} {vr:Bool} (hu:P.underlying t=some (.func a b vr)) (f:Fn) (x y:Array Value):(Op.equalIn (d0+1) t (.func f x y) .nilFunc).run P w = .ok false w:=by simp [Op.equalIn,run_underlying hu]
theorem eqNil_s (d0:Nat) {t e:TypeId} (hu:P.underlying t=some (.slice e)) (A:Option Addr) (n m:Nat):(Op.equalIn (d0+1) t (.slice A n m) (.slice none 0 0)).run P w = .ok A.isNone w:=by cases A<;>simp [Op.equalIn,run_underlying hu]
theorem op_neqNil_some {t:TypeId} {m:Array (String×TypeId)} (hu:P.underlying t=some (.interface m)) (d:TypeId) (v:Value):opV P (binS .neq t true (.iface d v) .nilIface) QP w k=k (.bool true) w :=
 opV_ok (run_nev (r:=false) (eqNil_i 9999 hu d v))
theorem op_neqNil_none {t:TypeId} {m:Array (String×TypeId)} (hu:P.underlying t=some (.interface m)):opV P (binS .neq t true .nilIface .nilIface) QP w k=k (.bool false) w :=
 opV_ok (run_nev (r:=true) (eqNil_n 9999 hu))
theorem op_eqNilF {t:TypeId} {a b:Array TypeId} {vr:Bool} (hu:P.underlying t=some (.func a b vr)) (c:Bool) (f:Fn) (x y:Array Value):opV P (binS .eql t c (.func f x y) .nilFunc) QP w k=k (.bool false) w :=
 opV_ok (run_eqv (eqNil_f 9999 hu f x y))
theorem op_eqNilS {t e:TypeId} (hu:P.underlying t=some (.slice e)) (c:Bool) (A:Option Addr) (n m:Nat):opV P (binS .eql t c (.slice A n m) (.slice none 0 0)) QP w k=k (.bool A.isNone) w :=
 opV_ok (run_eqv (eqNil_s 9999 hu A n m))
theorem op_aggEq {t:TypeId} {xs ys:Array Value} {r:Bool} (hm:P.eqGuardType P.depth t=false) (h:∀ w,(Op.equalIn (9999+1) t (.agg xs) (.agg ys)).run P w = .ok r w) (c:Bool):opV P (binS .eql t c (.agg xs) (.agg ys)) QP w k=k (.bool r) w:=by
 refine opV_ok ?_
 show Sem.run P (do (do if !(← program).eqGuardType (← program).depth t then pure () else if ← Op.eqGuardIn Op.maxDepth t (.agg xs) (.agg ys) then unsupported (.noEntry "binop/eql: two nil values of an interface type with methods, in a part of a struct or an array")); (do pure (.bool (← Op.equal t (.agg xs) (.agg ys)))):Sem Value) w=_
 simp only [Sem.run_bind,run_program,Result.andThen_ok,hm,Bool.not_false,if_true,Sem.run_pure]
 have h':=run_eqv (h w)
 simp only [Sem.run_bind,Sem.run_pure] at h'
 exact h'
theorem op_aggNe {t:TypeId} {xs ys:Array Value} {r:Bool} (hm:P.eqGuardType P.depth t=false) (h:∀ w,(Op.equalIn (9999+1) t (.agg xs) (.agg ys)).run P w = .ok r w) (c:Bool):opV P (binS .neq t c (.agg xs) (.agg ys)) QP w k=k (.bool (!r)) w:=by
 refine opV_ok ?_
 show Sem.run P (do (do if !(← program).eqGuardType (← program).depth t then pure () else if ← Op.eqGuardIn Op.maxDepth t (.agg xs) (.agg ys) then unsupported (.noEntry "binop/eql: two nil values of an interface type with methods, in a part of a struct or an array")); (do pure (.bool (!(← Op.equal t (.agg xs) (.agg ys))))):Sem Value) w=_
 simp only [Sem.run_bind,run_program,Result.andThen_ok,hm,Bool.not_false,if_true,Sem.run_pure]
 have h':=run_nev (h w)
 simp only [Sem.run_bind,Sem.run_pure] at h'
 exact h'
theorem op_bytes {src dst e:TypeId} (hs:P.underlying src=some .string) (hd:P.underlying dst=some (.slice e)) (he:P.underlying e=some (.int .u8)) (s:ByteArray) (hlen:s.size≤9223372036854775807)
 (h:∀ v w',Ext w w'→(∃ A c,v = .slice A s.size c∧s.size≤c∧c≤9223372036854775807∧∃ b,A=some ⟨b,0,none⟩∧∀ j x,s.data.toList[j]?=some x→w'.cell? ⟨b,j,none⟩=some (.int .u8 (x.toNat:Int)))→k v w'):opV P (Go.convert src dst (.string s)) QP w k:=by
 have:=run_bytes_of_string (P:=P) w src dst e s hs hd he
 rw [opV_ok this]
 refine h _ _ ((Ext.refl w).wdrew.alloc _) ⟨_,_,rfl,grownCap_ge _ _ _ _,?_,?_⟩
 · have:=grownCap_le_maxLen w s.size 0 e (by simp only [maxLen];omega)
   simp only [maxLen] at this;omega
 · refine ⟨_,rfl,fun j x hx=>?_⟩
   obtain ⟨h1,h2⟩:=Qv hx
   have h3:j < s.data.size:=by simpa using h1
   have h4:=bytesRow_at s (grownCap w s.size 0 e) j h3
   show World.cell? _ ⟨w.drew.heap.size,j,none⟩=_
   unfold World.cell?
   rw [World.alloc_heap_new]
   show (if (none:Option _).isSome then none else (bytesRow s (grownCap w s.size 0 e))[j]?)=_
   rw [h4,← h2]
   rfl
theorem cells_agg (cs:Array Value):(Value.agg cs).cells=cs:=rfl
theorem equalIn_struct {d:Nat} {t:TypeId} {fs:Array Field} {xs ys:Array Value} {r:Bool} (hu:P.underlying t=some (.struct fs)) (hs:P.stoodInHeld t=false) (h:(Op.eqFields d xs ys fs.toList).run P w = .ok r w) :
 (Op.equalIn (d+1) t (.agg xs) (.agg ys)).run P w = .ok r w:=by
 have hf:P.fieldsOf t=fs:=by simp [Program.fieldsOf,hu]
 rw [run_equalIn_agg w d t xs ys (by rw [hf];exact hu) hs,hf]
 exact h
theorem eqFields_nil {d:Nat} {xs ys:Array Value}:(Op.eqFields d xs ys []).run P w = .ok true w:=rfl
theorem eqFields_step {d:Nat} {xs ys:Array Value} {f:Field} {fs:List Field} {x y:Value} {b r:Bool} (hn:(f.name == "_")=false) (hx:(part f.type xs f.offset).run P w = .ok x w) (hy:(part f.type ys f.offset).run P w = .ok y w)
 (he:(Op.equalIn d f.type x y).run P w = .ok b w) (hr:(Op.eqFields d xs ys fs).run P w = .ok r w):(Op.eqFields d xs ys (f::fs)).run P w = .ok (b&&r) w:=by
 have hn':f.name ≠ "_" := by simpa using hn
 simp only [Op.eqFields]
 rw [if_pos hn']
 simp only [Sem.run_bind,hx,hy,he,Result.andThen_ok]
 cases b with
 | true=>simpa using hr
 | false=>rfl
theorem part1 {T:TypeId} {n m:Nat} {z v:Value} {cs:Array Value} {off:Nat} (h:TyInfo P T false n m z) (hc:cs[off]?=some v):(part T cs off).run P w = .ok v w:=by
 unfold part
 rw [Sem.run_bind,run_isAgg h]
 simp [hc]
theorem op_fieldV1 {s:TypeId} {fs:Array Field} {i off ft:Nat} {n m:Nat} {z v:Value} {cs:Array Value} {k:Value→World→Prop} (hu:P.underlying s=some (.struct fs)) (hf:(fs[i]?).map (fun f=>(f.type,f.offset))=some (ft,off)) (ht:TyInfo P ft false n m z) (hc:cs[off]?=some v) :
 opV P (Instr.field s (.agg cs) i) QP w k=k v w:=by
 obtain ⟨f,h1,h2⟩:=Option.map_eq_some_iff.1 hf
 simp only [Prod.mk.injEq] at h2
 obtain ⟨rfl,rfl⟩:=h2
 refine opV_ok ?_
 have ha:(asAgg (.agg cs)).run P w = .ok cs w:=rfl
 simp [Instr.field,run_underlying hu,h1,ha,part1 (w:=w) ht hc]
theorem eqInt {d:Nat} {t:TypeId} {q:IntKind} (hu:P.underlying t=some (.int q)) {kd:IntKind} {a b:Int}:(Op.equalIn (d+1) t (.int kd a) (.int kd b)).run P w = .ok (decide (a=b)) w:=by
 rw [run_equalIn_int w d t kd q a b hu];congr 1
theorem eqBool {d:Nat} {t:TypeId} (hu:P.underlying t=some .bool) {a b:Bool}:(Op.equalIn (d+1) t (.bool a) (.bool b)).run P w = .ok (decide (a=b)) w:=by
 rw [run_equalIn_bool w d t a b hu];congr 1
theorem eqString {d:Nat} {t:TypeId} (hu:P.underlying t=some .string) {a b:ByteArray}:(Op.equalIn (d+1) t (.string a) (.string b)).run P w = .ok (decide (a=b)) w:=by
 rw [run_equalIn_string w d t a b hu,bytes_eq]
theorem cells_one {v:Value} (h:v.oneCell'=true):v.cells = #[v]:=by cases v<;>first | rfl | simp [Value.oneCell'] at h
theorem op_build {T:TypeId} {fs:Array Field} {n m:Nat} {z cs:Array Value} {parts:Array (Nat×Value)} {places:Array (Nat×Nat)} (hu:P.underlying T=some (.struct fs)) (hz:TyInfo P T true n m (.agg z))
 (hp:∀ w:World,(fs.mapM (m:=Sem) (fun f=>do pure (f.offset,← sizeOf f.type))).run P w = .ok places w) (hf:Instr.fill (places[·]?) z parts.toList=some cs):opV P (Instr.build T parts) QP w k=k (.agg cs) w:=by
 obtain ⟨⟨i,hi,_,_,hzz⟩,_⟩:=hz
 refine opV_ok ?_
 unfold Instr.build
 have hz0:(zeroValue T).run P w = .ok (.agg z) w:=by simp [zeroValue,typeInfo,hi,hzz]
 simp only [Sem.run_bind,hz0,Result.andThen_ok,run_underlying hu,hp]
 have:(Value.agg z).cells=z:=rfl
 rw [this,hf]
 rfl
theorem op_buildSlice {T e:TypeId} {agg:Bool} {n m:Nat} {z:Value} {len:Nat} {cs:Array Value} {parts:Array (Nat×Value)} (hu:P.underlying T=some (.slice e)) (hz:TyInfo P e agg n m z) (hl:len*n≤16777216)
 {base:Array Value} (hb:(Array.range (len*n)).map ((if len*n=0 then #[] else z.cells)[· % (if len*n=0 then #[] else z.cells).size]!)=base) (hf:Instr.fill (fun i=>some (i*n,n)) base parts.toList=some cs) :
 opV P (Instr.buildSlice T len parts) QP w k=k (.slice (some ⟨w.heap.size,0,none⟩) len len) (w.alloc (.cells cs e)):=by
 subst hb
 have hsz:=run_sizeOf (w:=w) hz
 obtain ⟨⟨i,hi,_,_,hzz⟩,_⟩:=hz
 refine opV_ok ?_
 unfold Instr.buildSlice
 have hl':¬ (2 ^ 24 < len*n):=Qx
 simp only [Sem.run_bind,run_underlying hu,hsz,Result.andThen_ok,gt_iff_lt,hl',if_false]
 have hz0:(zeroValue e).run P w = .ok z w:=by simp [zeroValue,typeInfo,hi,hzz]
 by_cases h0:len*n=0
 · rw [if_pos h0] at hf
   rw [if_pos h0]
   simp only [Sem.run_bind,Sem.run_pure,Result.andThen_ok]
   rw [hf]
   simp [newRow]
 · rw [if_neg h0] at hf
   rw [if_neg h0]
   simp only [Sem.run_bind,hz0,Sem.run_pure,Result.andThen_ok]
   rw [hf]
   simp [newRow]
def EC (w:World):World→Prop:=fun w'=>Ext w w'
class ClassNe (C:World→Prop):Prop where
 ne:∃ w,C w
instance (w:World):ClassNe (EC w):=⟨⟨w,Ext.refl w⟩⟩
def KB (w:World) (b1 b2:Nat):World→Prop:=fun w'=>∀ b,b < w.heap.size→b≠b1→b≠b2→w'.heap[b]?=w.heap[b]?
instance (w:World) (b1 b2:Nat):ClassNe (KB w b1 b2):=⟨⟨w,fun _ _ _ _=>rfl⟩⟩
theorem KB.cell {w w':World} {b1 b2 b o:Nat} {v:Value} (h:KB w b1 b2 w') (h1:b≠b1) (h2:b≠b2) (hc:w.cell? ⟨b,o,none⟩=some v):w'.cell? ⟨b,o,none⟩=some v :=
 (World.cell?_of_block (h b (World.block_lt_of_cell? w _ hc) h1 h2)).trans hc
theorem run_of_op {s:Sem Value} {v:Value} (h:∀ (QP:List PanicEntry→World→Prop) (k:Value→World→Prop),opV P s QP w k=k v w):s.run P w = .ok v w:=by
 have h1:=h (fun _ _=>False) (fun u x=>u=v∧x=w)
 simp only [and_self] at h1
 have h2:opV P s (fun _ _=>False) w (fun u x=>u=v∧x=w):=by rw [h1];trivial
 unfold opV at h2
 split at h2
 · rename_i a b he;obtain ⟨rfl,rfl⟩:=h2;exact he
 · exact h2.elim
 · exact h2.elim
theorem qV_eq {s:Sem Value} {v:Value} {k:Value→Prop} (h:∀ w',Ext w w'→s.run P w' = .ok v w'):qV P (EC w) s k=k v:=by
 apply propext
 constructor
 · rintro ⟨v',h1,h2⟩
   have a:=h1 w (Ext.refl w)
   rw [h w (Ext.refl w)] at a
   injection a with a _
   rw [a];exact h2
 · exact fun hk=>⟨v,h,hk⟩
theorem qV_eqC {C:World→Prop} [hne:ClassNe C] {s:Sem Value} {v:Value} {k:Value→Prop} (h:∀ w',C w'→s.run P w' = .ok v w'):qV P C s k=k v:=by
 apply propext
 obtain ⟨w0,hw0⟩:=hne.ne
 constructor
 · rintro ⟨v',h1,h2⟩
   have a:=h1 w0 hw0
   rw [h w0 hw0] at a
   injection a with a _
   rw [a];exact h2
 · exact fun hk=>⟨v,h,hk⟩
theorem qV_of {C:World→Prop} [ClassNe C] {s:Sem Value} {v:Value} {k:Value→Prop} (h:∀ (QP:List PanicEntry→World→Prop) (w':World) (k:Value→World→Prop),opV P s QP w' k=k v w'):qV P C s k=k v:=qV_eqC fun w' _=>run_of_op fun QP k=>h QP w' k
theorem qN_eqC {C:World→Prop} [hne:ClassNe C] {s:Sem Next} {v:Value} {k:Value→Prop} (h:∀ w',C w'→s.run P w' = .ok (.value v) w'):qN P C s k=k v:=by
 apply propext
 obtain ⟨w0,hw0⟩:=hne.ne
 constructor
 · rintro ⟨v',h1,h2⟩
   have a:=h1 w0 hw0
   rw [h w0 hw0] at a
   injection a with a _
   injection a with a
   rw [a];exact h2
 · exact fun hk=>⟨v,h,hk⟩
theorem qN_nil {C:World→Prop} [ClassNe C] {k:Value→Prop} (a:Addr):qN P C (nilN (.pointer (some a))) k=k (.pointer (some a)):=qN_eqC fun w' _=>by simp [nilN,execOp]
def qVx (P:Program) (C:World→Prop) (s:Sem Value) (k:Value→Prop):Prop:=qV P C s k
theorem qV_loadC {T:TypeId} {n m:Nat} {z:Value} {k:Value→Prop} (h:TyInfo P T false n m z) (b o:Nat):qV P (EC w) (Instr.loadAt T (.pointer (some ⟨b,o,none⟩))) k=onCell (w.cell? ⟨b,o,none⟩) k (qVx P (EC w) (Instr.loadAt T (.pointer (some ⟨b,o,none⟩))) k):=by
 cases hc:w.cell? ⟨b,o,none⟩ with
 | some v =>
  rw [onCell_some]
  refine qV_eq fun w' e=>?_
  have:=run_of_op (P:=P) (w:=w') (s:=Instr.loadAt T (.pointer (some ⟨b,o,none⟩))) (v:=v) (fun QP k=>op_load1 h (e.cell hc))
  exact this
 | none=>rfl
theorem qV_loadKB {T:TypeId} {n m:Nat} {z:Value} {k:Value→Prop} (h:TyInfo P T false n m z) (b1 b2 b o:Nat) (h1:b≠b1) (h2:b≠b2):qV P (KB w b1 b2) (Instr.loadAt T (.pointer (some ⟨b,o,none⟩))) k=onCell (w.cell? ⟨b,o,none⟩) k (qVx P (KB w b1 b2) (Instr.loadAt T (.pointer (some ⟨b,o,none⟩))) k):=by
 cases hc:w.cell? ⟨b,o,none⟩ with
 | some v =>
  rw [onCell_some]
  exact qV_eqC fun w' e=>run_of_op (P:=P) (w:=w') (s:=Instr.loadAt T (.pointer (some ⟨b,o,none⟩))) (v:=v) (fun QP k=>op_load1 h (e.cell h1 h2 hc))
 | none=>rfl
theorem qV_load {T:TypeId} {a:Addr} {v:Value} {k:Value→Prop} (h:∀ w',Ext w w'→Loads P w' T a v):qV P (EC w) (Instr.loadAt T (.pointer (some a))) k=k v :=
 qV_eq fun w' e=>run_of_op fun QP k=>op_load (h w' e)
def onCells:List (Option Value)→(List Value→Prop)→Prop→Prop
 | [],k,_=>k []
 | some v::l,k,d=>onCells l (fun vs=>k (v::vs)) d
 | none::_,_,d=>d
theorem onCells_nil (k:List Value→Prop) (d:Prop):onCells [] k d=k []:=rfl
theorem onCells_some (v:Value) (l:List (Option Value)) (k:List Value→Prop) (d:Prop):onCells (some v::l) k d=onCells l (fun vs=>k (v::vs)) d:=rfl
theorem onCells_all:∀ (vs:List Value) (k:List Value→Prop) (d:Prop),onCells (vs.map some) k d=k vs
 | [],_,_=>rfl
 | v::vs,k,d=>onCells_all vs (fun l=>k (v::l)) d
theorem onCells_cases (l:List (Option Value)):(∃ vs:List Value,l=vs.map some)∨∀ k d,onCells l k d=d:=by
 induction l with
 | nil=>exact .inl ⟨[],rfl⟩
 | cons a l ih =>
  cases a with
  | none=>exact .inr fun k d=>rfl
  | some v =>
   rcases ih with ⟨vs,rfl⟩ | h
   · exact .inl ⟨v::vs,rfl⟩
   · exact .inr fun k d=>h _ d
@[congr] theorem onCells_congr {l l':List (Option Value)} {k:List Value→Prop} {p:Prop} {d:Nat} (h:l=l') (hd:dirty=d):onCells l k p=onCells l' k p:=by rw [h]
theorem loads_cells {T:TypeId} {n m:Nat} {z:Value} (h:TyInfo P T true n m z) (b o:Nat) {vs:List Value} (hc:(List.range n).map (fun j=>w.cell? ⟨b,o+j,none⟩)=vs.map some):Loads P w T ⟨b,o,none⟩ (.agg vs.toArray):=by
 have hl:vs.length=n:=by have:=congrArg List.length hc;simpa using this.symm
 refine Loads.many h hl fun j v hv=>?_
 have hj:j < n:=by have:=(Qv hv).1;omega
 have:=congrArg (fun l=>l[j]?) hc
 simp only [List.getElem?_map,List.getElem?_range hj,hv,Option.map_some] at this
 rw [Addr.add_lit]
 exact Option.some.inj this
theorem op_loadA {T:TypeId} {n m:Nat} {z:Value} {k:Value→World→Prop} (h:TyInfo P T true n m z) (b o:Nat) (l:List (Option Value)) (hl:l=(List.range n).map (fun j=>w.cell? ⟨b,o+j,none⟩)) :
 opV P (Instr.loadAt T (.pointer (some ⟨b,o,none⟩))) QP w k=onCells l (fun vs=>k (.agg vs.toArray) w) (opVx P (Instr.loadAt T (.pointer (some ⟨b,o,none⟩))) QP w k):=by
 rcases onCells_cases l with ⟨vs,hv⟩ | hd
 · rw [hv,onCells_all]
   exact op_load (loads_cells h b o (by rw [← hl,hv]))
 · rw [hd];rfl
theorem qV_loadA {T:TypeId} {n m:Nat} {z:Value} {k:Value→Prop} (h:TyInfo P T true n m z) (b o:Nat) (l:List (Option Value)) (hl:l=(List.range n).map (fun j=>w.cell? ⟨b,o+j,none⟩)) :
 qV P (EC w) (Instr.loadAt T (.pointer (some ⟨b,o,none⟩))) k=onCells l (fun vs=>k (.agg vs.toArray)) (qVx P (EC w) (Instr.loadAt T (.pointer (some ⟨b,o,none⟩))) k):=by
 rcases onCells_cases l with ⟨vs,hv⟩ | hd
 · rw [hv,onCells_all]
   refine qV_load fun w' e=>loads_cells h b o ?_
   rw [← hv,hl]
   have hm:∀ j,j∈List.range n→∃ v,w.cell? ⟨b,o+j,none⟩=some v:=by
    intro j hj
    have:w.cell? ⟨b,o+j,none⟩∈l:=by rw [hl];exact List.mem_map_of_mem hj
    rw [hv] at this
    obtain ⟨v,_,hv⟩:=List.mem_map.1 this
    exact ⟨v,hv.symm⟩
   apply List.map_congr_left
   intro j hj
   obtain ⟨v,hv⟩:=hm j hj
   rw [hv];exact e.cell hv
 · rw [hd];rfl
def qWx (P:Program) (t:TypeId) (a:Value) (w:World) (k:Value→Prop):Prop:=qW P t a w k
theorem qW_load {T:TypeId} {a:Addr} {v:Value} {k:Value→Prop} (h:Loads P w T a v):qW P T (.pointer (some a)) w k=k v:=by
 have hr:(do loadVar T (← asAddr (.pointer (some a))):Sem Value).run P w = .ok v w:=h
 unfold qW
 rw [hr]
 apply propext
 constructor
 · rintro ⟨v',h1,h2⟩;injection h1 with h1 _;rw [h1];exact h2
 · exact fun hk=>⟨v,rfl,hk⟩
theorem qW_loadC {T:TypeId} {n m:Nat} {z:Value} {k:Value→Prop} (h:TyInfo P T false n m z) (b o:Nat):qW P T (.pointer (some ⟨b,o,none⟩)) w k=onCell (w.cell? ⟨b,o,none⟩) k (qWx P T (.pointer (some ⟨b,o,none⟩)) w k):=by
 cases hc:w.cell? ⟨b,o,none⟩ with
 | some v=>exact qW_load (Loads.one h hc)
 | none=>rfl
theorem qW_loadA {T:TypeId} {n m:Nat} {z:Value} {k:Value→Prop} (h:TyInfo P T true n m z) (b o:Nat) (l:List (Option Value)) (hl:l=(List.range n).map (fun j=>w.cell? ⟨b,o+j,none⟩)) :
 qW P T (.pointer (some ⟨b,o,none⟩)) w k=onCells l (fun vs=>k (.agg vs.toArray)) (qWx P T (.pointer (some ⟨b,o,none⟩)) w k):=by
 rcases onCells_cases l with ⟨vs,hv⟩ | hd
 · rw [hv,onCells_all]
   exact qW_load (loads_cells h b o (by rw [← hl,hv]))
 · rw [hd];rfl
@[congr] theorem qW_congr {T:TypeId} {a a':Value} {w':World} {k:Value→Prop} {d:Nat} (h:a=a') (hw:w=w') (hd:dirty=d):qW P T a w k=qW P T a' w' k:=by rw [h,hw]
def onFree:List Bool→Prop→Prop→Prop
 | [],p,_=>p
 | false::l,p,d=>onFree l p d
 | true::_,_,d=>d
theorem onFree_nil (p d:Prop):onFree [] p d=p:=rfl
theorem onFree_false (l:List Bool) (p d:Prop):onFree (false::l) p d=onFree l p d:=rfl
theorem onFree_cases (l:List Bool):(∀ b∈l,b=false)∧(∀ p d,onFree l p d=p)∨∀ p d,onFree l p d=d:=by
 induction l with
 | nil=>exact .inl ⟨by simp,fun _ _=>rfl⟩
 | cons a l ih =>
  cases a with
  | true=>exact .inr fun _ _=>rfl
  | false =>
   rcases ih with ⟨h1,h2⟩ | h
   · exact .inl ⟨by simpa using h1,h2⟩
   · exact .inr h
@[congr] theorem onFree_congr {l l':List Bool} {p q:Prop} {d:Nat} (h:l=l') (hd:dirty=d):onFree l p q=onFree l' p q:=by rw [h]
@[congr] theorem qVx_congr {s:Sem Value} {C:World→Prop} {k:Value→Prop} {d:Nat} (hd:dirty=d):qVx P C s k=qVx P C s k:=rfl
@[congr] theorem qWx_congr {T:TypeId} {a:Value} {k:Value→Prop} {d:Nat} (hd:dirty=d):qWx P T a w k=qWx P T a w k:=rfl
def setCells (w:World) (b o:Nat):List Value→World
 | []=>w
 | v::vs=>setCells (w.setCell ⟨b,o,none⟩ v) b (o+1) vs
theorem run_storeCellsA (b o:Nat):∀ (vs:List Value) (i:Nat) (w:World),(∀ j,j < vs.length→∃ u,w.cell? ⟨b,o+(i+j),none⟩=some u)→(∀ j,j < vs.length→w.frozen? ⟨b,o+(i+j),none⟩=false)→(∀ v∈vs,v.oneCell'=true) →
 (storeCells ⟨b,o,none⟩ vs i).run P w = .ok () (setCells w b (o+i) vs)
 | [],_,_,_,_,_=>rfl
 | v::vs,i,w,hc,hf,hv=>by
  obtain ⟨u,hu⟩:=hc 0 (by simp)
  have hf':w.frozen? ⟨b,o+i,none⟩=false:=hf 0 (by simp)
  simp only [Nat.add_zero] at hu
  simp only [storeCells,Sem.run_bind,Addr.add_lit,run_store P _ _ v .plain (hv v (List.mem_cons_self ..)),hu,hf',Nat.add_zero,Bool.false_eq_true,if_false,Result.andThen_ok]
  have hs:∀ j,j < vs.length→∃ u,(w.setCell ⟨b,o+i,none⟩ v).cell? ⟨b,o+(i+1+j),none⟩=some u:=by
   intro j hj
   obtain ⟨u,hu⟩:=hc (j+1) (by simp;omega)
   refine ⟨u,?_⟩
   rw [cell_set_other Qx]
   rw [← hu];congr 2;omega
  have:=run_storeCellsA b o vs (i+1) (w.setCell ⟨b,o+i,none⟩ v) hs (fun j hj=>by rw [frozen_set];have:=hf (j+1) (by simp;omega);rw [← this];congr 2;omega) (fun u hu=>hv u (List.mem_cons_of_mem _ hu))
  simpa [hf',hu,setCells,Nat.add_assoc] using this
theorem op_storeA {T:TypeId} {n m:Nat} {z:Value} {ku:World→Prop} (h:TyInfo P T true n m z) (b o:Nat) (vs:List Value) (hn:vs.length=n) (hv:∀ v∈vs,v.oneCell'=true) (l:List (Option Value)) (hl:l=(List.range n).map (fun j=>w.cell? ⟨b,o+j,none⟩))
 (lf:List Bool) (hlf:lf=(List.range n).map (fun j=>w.frozen? ⟨b,o+j,none⟩)) :
 opU P (Instr.storeAt T (.pointer (some ⟨b,o,none⟩)) (.agg vs.toArray)) QP w ku=onCells l (fun _=>onFree lf (ku (setCells w b o vs)) (opUx P (Instr.storeAt T (.pointer (some ⟨b,o,none⟩)) (.agg vs.toArray)) QP w ku)) (opUx P (Instr.storeAt T (.pointer (some ⟨b,o,none⟩)) (.agg vs.toArray)) QP w ku):=by
 rcases onCells_cases l with ⟨us,hu⟩ | hd
 · rw [hu,onCells_all]
   rcases onFree_cases lf with ⟨h1,h2⟩ | h2
   · rw [h2]
     refine opU_ok (u:=()) ?_
     have hc:∀ j,j < vs.length→∃ u,w.cell? ⟨b,o+(0+j),none⟩=some u:=by
      intro j hj
      have:w.cell? ⟨b,o+j,none⟩∈l:=by rw [hl];exact List.mem_map_of_mem (List.mem_range.2 Qx)
      rw [hu] at this
      obtain ⟨v,_,hv⟩:=List.mem_map.1 this
      exact ⟨v,by rw [Nat.zero_add,hv]⟩
     have hf:∀ j,j < vs.length→w.frozen? ⟨b,o+(0+j),none⟩=false:=by
      intro j hj
      refine h1 _ ?_
      rw [hlf,Nat.zero_add]
      exact List.mem_map_of_mem (f:=fun j=>w.frozen? ⟨b,o+j,none⟩) (List.mem_range.2 Qx)
     have:=run_storeCellsA (P:=P) b o vs 0 w hc hf hv
     simp [Instr.storeAt,Instr.sureAddr,storeVar,run_sizeOf h,cells_agg,hn,this]
   · rw [h2];rfl
 · rw [hd];rfl
theorem op_storeN {T:TypeId} {n m:Nat} {z:Value} {ku:World→Prop} (h:TyInfo P T true n m z) (b:Nat) (hb:b=w.heap.size) (o:Array Value) (T':TypeId) (vs:List Value) (ho:o.size=n) (hn:vs.length=n) (hv:∀ v∈vs,v.oneCell'=true) :
 opU P (Instr.storeAt T (.pointer (some ⟨b,0,none⟩)) (.agg vs.toArray)) QP (w.alloc (.cells o T')) ku=ku (w.alloc (.cells vs.toArray T')):=by
 subst hb
 refine opU_ok (u:=()) ?_
 obtain ⟨o',h1,h2,h3⟩:=storeCells_new (P:=P) (w:=w) T' vs 0 o (by simp;omega) hv
 have he:o'=vs.toArray:=by
  apply Array.ext_getElem?
  intro j
  rw [h3 j]
  by_cases hj:j < vs.length
  · rw [if_pos Qx];simp
  · rw [if_neg Qx]
    rw [Array.getElem?_eq_none Qx,Array.getElem?_eq_none (by simp;omega)]
 subst he
 simp [Instr.storeAt,Instr.sureAddr,storeVar,run_sizeOf h,cells_agg,hn,h1]
theorem GENQ {C:World→Prop} [ClassNe C] {k:Value→Prop}:(∀ t c kd a b,qV P C (binS .add t c (.int kd a) (.int kd b)) k=k (.int kd (kd.wrap (a+b)))) ∧
 (∀ t c kd a b,qV P C (binS .sub t c (.int kd a) (.int kd b)) k=k (.int kd (kd.wrap (a - b)))) ∧
 (∀ t c kd a b,qV P C (binS .mul t c (.int kd a) (.int kd b)) k=k (.int kd (kd.wrap (a*b)))) ∧
 (∀ t c kd a b,qV P C (binS .eql t c (.int kd a) (.int kd b)) k=k (.bool (a == b))) ∧
 (∀ t c kd a b,qV P C (binS .neq t c (.int kd a) (.int kd b)) k=k (.bool (a != b))) ∧
 (∀ t c kd a b,qV P C (binS .lss t c (.int kd a) (.int kd b)) k=k (.bool (decide (a < b)))) ∧
 (∀ t c kd a b,qV P C (binS .leq t c (.int kd a) (.int kd b)) k=k (.bool (decide (a≤b)))) ∧
 (∀ t c kd a b,qV P C (binS .gtr t c (.int kd a) (.int kd b)) k=k (.bool (decide (b < a)))) ∧
 (∀ t c kd a b,qV P C (binS .geq t c (.int kd a) (.int kd b)) k=k (.bool (decide (b≤a)))) ∧
 (∀ t c a b,qV P C (binS .eql t c (.string a) (.string b)) k=k (.bool (decide (a=b)))) ∧
 (∀ t c a b,qV P C (binS .neq t c (.string a) (.string b)) k=k (.bool (!decide (a=b)))) ∧
 (∀ b,qV P C (Op.unary .not (.bool b)) k=k (.bool !b)) ∧
 (∀ ts t kd a b,qV P C (Builtin.max_ ts t #[.int kd a,.int kd b]) k=k (.int kd (if b > a then b else a))) ∧
 (∀ ts t kd a b,qV P C (Builtin.min_ ts t #[.int kd a,.int kd b]) k=k (.int kd (if b < a then b else a))) ∧
 (∀ a b,qV P C (Instr.extract (.tuple #[a,b]) 0) k=k a)∧(∀ a b,qV P C (Instr.extract (.tuple #[a,b]) 1) k=k b) ∧
 (∀ a b c,qV P C (Instr.extract (.tuple #[a,b,c]) 0) k=k a)∧(∀ a b c,qV P C (Instr.extract (.tuple #[a,b,c]) 1) k=k b)∧(∀ a b c,qV P C (Instr.extract (.tuple #[a,b,c]) 2) k=k c) ∧
 (∀ fn a b,qV P C (Instr.makeFunc fn a b) k=k (.func fn a b)) ∧
 (∀ a,qN P C (nilN (.pointer (some a))) k=k (.pointer (some a))) :=
 ⟨fun t c kd a b=>qV_of fun _ _ _=>op_add t c kd a b,fun t c kd a b=>qV_of fun _ _ _=>op_sub t c kd a b,fun t c kd a b=>qV_of fun _ _ _=>op_mul t c kd a b,fun t c kd a b=>qV_of fun _ _ _=>op_eql t c kd a b,fun t c kd a b=>qV_of fun _ _ _=>op_neq t c kd a b,
  fun t c kd a b=>qV_of fun _ _ _=>op_lss t c kd a b,fun t c kd a b=>qV_of fun _ _ _=>op_leq t c kd a b,fun t c kd a b=>qV_of fun _ _ _=>op_gtr t c kd a b,fun t c kd a b=>qV_of fun _ _ _=>op_geq t c kd a b,
  fun t c a b=>qV_of fun _ _ _=>op_seql t c a b,fun t c a b=>qV_of fun _ _ _=>op_sneq t c a b,fun b=>qV_of fun _ _ _=>op_not b,fun ts t kd a b=>qV_of fun _ _ _=>op_max ts t kd a b,fun ts t kd a b=>qV_of fun _ _ _=>op_min ts t kd a b,
  fun a b=>qV_of fun _ _ _=>op_extract20 a b,fun a b=>qV_of fun _ _ _=>op_extract21 a b,fun a b c=>qV_of fun _ _ _=>op_extract30 a b c,fun a b c=>qV_of fun _ _ _=>op_extract31 a b c,fun a b c=>qV_of fun _ _ _=>op_extract32 a b c,fun fn a b=>qV_of fun _ _ _=>op_makeFunc fn a b,qN_nil⟩
def KL (w:World) (r:Nat) (ps:List (ByteArray×Value)):World→Prop:=fun x=>Ext w x∧MapOf x r ps
theorem qV_lookupKL {mt kt et r:TypeId} {agg:Bool} {n m:Nat} {z:Value} {ps:List (ByteArray×Value)} {k:Value→Prop} (hm:P.underlying mt=some (.map kt et)) (hk:P.underlying kt=some .string) (hz:TyInfo P et agg n m z) (hne:∃ x,KL w r ps x) (s:ByteArray) :
 qV P (KL w r ps) (Instr.lookup mt (.map (some r)) (.string s) true) k=k (.tuple #[(lastOf ps s).getD z,.bool (lastOf ps s).isSome]):=by
 haveI:ClassNe (KL w r ps):=⟨hne⟩
 exact qV_eqC fun w' e=>run_of_op fun QP k=>op_lookupO hm hk hz e.2 s
theorem qV_lookup1E {mt kt et r:TypeId} {agg:Bool} {n m:Nat} {z:Value} {ps:List (ByteArray×Value)} {k:Value→Prop} (hm:P.underlying mt=some (.map kt et)) (hk:P.underlying kt=some .string) (hz:TyInfo P et agg n m z) (h:MapOf w r ps) (s:ByteArray) :
 qV P (EC w) (Instr.lookup mt (.map (some r)) (.string s) false) k=k ((lastOf ps s).getD z):=qV_eqC fun w' e=>run_of_op fun QP k=>op_lookup1O hm hk hz (h.ext e) s
theorem qV_lookupE {mt kt et r:TypeId} {agg:Bool} {n m:Nat} {z:Value} {ps:List (ByteArray×Value)} {k:Value→Prop} (hm:P.underlying mt=some (.map kt et)) (hk:P.underlying kt=some .string) (hz:TyInfo P et agg n m z) (h:MapOf w r ps) (s:ByteArray) :
 qV P (EC w) (Instr.lookup mt (.map (some r)) (.string s) true) k=k (.tuple #[(lastOf ps s).getD z,.bool (lastOf ps s).isSome]):=qV_eqC fun w' e=>run_of_op fun QP k=>op_lookupO hm hk hz (h.ext e) s
theorem narrowK_same {C:World→Prop} {f:(World→Prop)→World→Prop} (hC:C w) (h:f C w):narrowK C w f:=⟨C,fun _ h=>h,hC,h⟩
theorem narrowK_KL {w1:World} {r:Nat} {ps:List (ByteArray×Value)} {f:(World→Prop)→World→Prop} (e:Ext w1 w) (hm:MapOf w r ps) (h:f (KL w1 r ps) w):narrowK (EC w1) w f:=⟨KL w1 r ps,fun _ h=>h.1,⟨e,hm⟩,h⟩
theorem narrowK_EC {w1:World} {f:(World→Prop)→World→Prop} (e:Ext w1 w) (h:f (EC w) w):narrowK (EC w1) w f:=⟨EC w,fun _ h=>e.trans h,Ext.refl _,h⟩
theorem qV_shl {C:World→Prop} [ClassNe C] {k:Value→Prop} (t:TypeId) (c:Bool) (x:Int) (yk:IntKind) (y:Int) (h0:0≤y) (h1:y≤64):qV P C (binS .shl t c (.int .i64 x) (.int yk y)) k=k (.int .i64 (IntKind.i64.wrap (x*2 ^ y.toNat))):=qV_of fun _ _ _=>op_shl t c x yk y h0 h1
theorem qV_rem {C:World→Prop} [ClassNe C] {k:Value→Prop} (t:TypeId) (c:Bool) (kd:IntKind) (a b:Int) (hb:b≠0):qV P C (binS .rem t c (.int kd a) (.int kd b)) k=k (.int kd (a.tmod b)):=qV_of fun _ _ _=>op_rem t c kd a b hb
def KM {α:Type} [DecidableEq α] (w:World) (r:Nat) (enc:α→Value) (L:List (α×Value×Nat)) (c:Nat):World→Prop:=fun x=>Ext w x∧MapB x r enc L c
theorem qV_lookupKM {α:Type} [DecidableEq α] {mt kt et r c:TypeId} {agg:Bool} {n m:Nat} {z:Value} {enc:α→Value} {L:List (α×Value×Nat)} {k:Value→Prop} (hm:P.underlying mt=some (.map kt et)) (K:KeyOK P kt enc) (hz:TyInfo P et agg n m z) (hne:∃ x,KM w r enc L c x) (s:α) :
 qV P (KM w r enc L c) (Instr.lookup mt (.map (some r)) (enc s) true) k=k (.tuple #[(look L s).getD z,.bool (look L s).isSome]):=by
 haveI:ClassNe (KM w r enc L c):=⟨hne⟩
 exact qV_eqC fun w' e=>run_of_op fun QP k=>op_lookup hm K hz e.2 s
theorem narrowK_KM {α:Type} [DecidableEq α] {w1:World} {r c:Nat} {enc:α→Value} {L:List (α×Value×Nat)} {f:(World→Prop)→World→Prop} (e:Ext w1 w) (hm:MapB w r enc L c) (h:f (KM w1 r enc L c) w):narrowK (EC w1) w f:=⟨KM w1 r enc L c,fun _ h=>h.1,⟨e,hm⟩,h⟩
theorem drawK_intro {f:(World→Prop)→World→Prop} (h:f (EC (drew w)) (drew w)):drawK w f:=⟨EC (drew w),Ext.refl _,h⟩
theorem drawK_introE {w1:World} {f:(World→Prop)→World→Prop} (e:Ext w1 w) (h:f (EC w1) (drew w)):drawK w f:=⟨EC w1,e.drew,h⟩
theorem drawK_introB {w1:World} (b1 b2:Nat) {f:(World→Prop)→World→Prop} (e:KB w1 b1 b2 w) (h:f (KB w1 b1 b2) (drew w)):drawK w f:=⟨KB w1 b1 b2,e,h⟩
theorem turnK_intro {f:(World→Prop)→World→Prop} (h:f (EC w) w):turnK w f:=⟨EC w,Ext.refl _,h⟩
@[congr] theorem turnK_congr {w':World} {f:(World→Prop)→World→Prop} {d:Nat} (hw:w=w') (hd:dirty=d):turnK w f=turnK w' f:=by rw [hw]
end
end Go.Sw
namespace Go.Sw
open Go.RowKit (Below)
def OwnE {α:Type} (w:World) (base:Nat) (T:TypeId) (n:Nat) (enc:α→List Value) (v:Value) (l:List α):Prop :=
 w.ownsRow base T n v l.length (l.flatMap enc)
theorem ownsRow_ext {w w':World} {base n m:Nat} {T:TypeId} {v:Value} {xs:List Value} (h:w.ownsRow base T n v m xs) (e:Ext w w'):w'.ownsRow base T n v m xs :=
 h.kept (row:=none) ⟨e.os,e.tape,e.output,e.size,fun k hk _=>e.block k hk⟩ (by cases hv:v.ownBlock<;>simp)
theorem ownsRow_base {w:World} {base base' n m:Nat} {T:TypeId} {v:Value} {xs:List Value} (h:w.ownsRow base T n v m xs) (hb:base'≤base):w.ownsRow base' T n v m xs:=by
 refine ⟨h.1,?_⟩
 rcases h.2 with h2 | ⟨g,cap,cur,h1,h2,h3⟩
 · exact .inl h2
 · exact .inr ⟨g,cap,cur,h1,Nat.le_trans hb h2,h3⟩
theorem OwnE.ext {α:Type} {w w':World} {base n:Nat} {T:TypeId} {enc:α→List Value} {v:Value} {l:List α} (h:OwnE w base T n enc v l) (e:Ext w w'):OwnE w' base T n enc v l:=ownsRow_ext h e
theorem OwnE.base {α:Type} {w:World} {base base' n:Nat} {T:TypeId} {enc:α→List Value} {v:Value} {l:List α} (h:OwnE w base T n enc v l) (hb:base'≤base):OwnE w base' T n enc v l:=ownsRow_base h hb
theorem OwnE.nil {α:Type} (w:World) (base n:Nat) (T:TypeId) (enc:α→List Value):OwnE w base T n enc (.slice none 0 0) []:=w.ownsRow_nil base T n
theorem flatMap_get {α:Type} {enc:α→List Value} {n:Nat} (hn:∀ x,(enc x).length=n):∀ (l:List α) (k:Nat) (x:α) (j:Nat) (v:Value),l[k]?=some x→(enc x)[j]?=some v→(l.flatMap enc)[k*n+j]?=some v
 | [],k,x,j,v,h,_=>by simp at h
 | y::l,0,x,j,v,h,hv=>by
  simp only [List.getElem?_cons_zero,Option.some.injEq] at h
  subst h
  have hj:j < (enc y).length:=(Qv hv).1
  rw [List.flatMap_cons,Nat.zero_mul,Nat.zero_add,List.getElem?_append_left hj];exact hv
 | y::l,k+1,x,j,v,h,hv=>by
  rw [List.flatMap_cons,List.getElem?_append_right (by rw [hn,Nat.add_mul];omega)]
  have:=flatMap_get hn l k x j v (by simpa using h) hv
  rw [hn,Nat.add_mul]
  rw [show k*n+1*n+j - n=k*n+j by omega]
  exact this
theorem OwnE.slice {α:Type} {w:World} {base n:Nat} {T:TypeId} {enc:α→List Value} {v:Value} {l:List α} {E:World→List Value→α→Prop} (h:OwnE w base T n enc v l) (hn:∀ x,(enc x).length=n) (hE:∀ x,x∈l→E w (enc x) x):SliceOf w n E v l:=by
 obtain ⟨h1,h2⟩:=h
 rcases h2 with ⟨rfl,h0⟩ | ⟨g,cap,cur,rfl,hb,hg,hc,hm,hs,ht⟩
 · have:l=[]:=List.eq_nil_of_length_eq_zero h0
   subst this;exact SliceOf.nil w n E
 · refine ⟨_,cap,rfl,hc,by simp only [maxLen] at hm;omega,fun _=>⟨g,0,rfl,fun k x hx=>⟨enc x,hn x,fun j v hv=>?_,hE x (List.mem_of_getElem? hx)⟩⟩⟩
   have hk:k < l.length:=(Qv hx).1
   have hj:j < n:=by have:=(Qv hv).1;rwa [hn] at this
   have:=flatMap_get hn l k x j v hx hv
   rw [← ht,List.getElem?_take] at this
   split at this
   · rw [cell_of_row w g _ cur T (0,0) hg,Nat.zero_add]
     simpa using this
   · cases this
theorem OwnE.new {α:Type} (w:World) (T:TypeId) (n:Nat) (enc:α→List Value) (l:List α) (hn:∀ x,(enc x).length=n) (hl:l.length≤9223372036854775807):OwnE (w.alloc (.cells (l.flatMap enc).toArray T)) w.heap.size T n enc (.slice (some ⟨w.heap.size,0,none⟩) l.length l.length) l:=by
 have hlen:(l.flatMap enc).length=l.length*n:=by
  clear hl
  induction l with
  | nil=>simp
  | cons a l ih=>rw [List.flatMap_cons,List.length_append,hn,ih,List.length_cons,Nat.add_mul];omega
 exact ⟨hlen,.inr ⟨_,_,_,rfl,Nat.le_refl _,World.alloc_heap_new w _,Nat.le_refl _,by simp only [maxLen];omega,by simpa using hlen,by rw [← hlen];exact List.take_length⟩⟩
abbrev Cs (n:Nat):Type:={cs:List Value // cs.length=n}
def Mates {α:Type} (n:Nat) (E:List Value→α→Prop) (css:List (Cs n)) (l:List α):Prop:=css.length=l.length∧∀ (k:Nat) (x:α) (cs:Cs n),l[k]?=some x→css[k]?=some cs→E cs.1 x
theorem Mates.imp {α:Type} {n:Nat} {E E':List Value→α→Prop} {css:List (Cs n)} {l:List α} (h:Mates n E css l) (hE:∀ cs x,E cs x→E' cs x):Mates n E' css l:=⟨h.1,fun k x cs hx hc=>hE _ _ (h.2 k x cs hx hc)⟩
theorem Mates.mem {α:Type} {n:Nat} {E:List Value→α→Prop} {css:List (Cs n)} {l:List α} (h:Mates n E css l) {cs:Cs n} (hc:cs∈css):∃ x∈l,E cs.1 x:=by
 obtain ⟨k,hk⟩:=List.getElem?_of_mem hc
 obtain ⟨x,hx⟩:=getElem?_lt (l:=l) (k:=k) (by rw [← h.1];exact (Qv hk).1)
 exact ⟨x,List.mem_of_getElem? hx,h.2 k x cs hx hk⟩
theorem keptRaw {n:Nat}:Kept (fun (_:World) (cs:List Value) (x:Cs n)=>cs=x.1):=fun _ _ _ _ _ h=>h
theorem SliceOf.raw {α:Type} {w:World} {n:Nat} {E:World→List Value→α→Prop} {v:Value} {l:List α} (h:SliceOf w n E v l) :
 ∃ css:List (Cs n),SliceOf w n (fun _ cs x=>cs=x.1) v css∧Mates n (E w) css l:=by
 obtain ⟨A,c,rfl,hlc,hcm,hlm,hel⟩:=SliceOf.open h
 have hex:∀ k,∃ cs:Cs n,∀ x,l[k]?=some x→∃ b o,A=some ⟨b,o,none⟩∧ElemAt w b (o+k*n) cs.1∧E w cs.1 x:=by
  intro k
  cases hx:l[k]? with
  | none=>exact ⟨⟨List.replicate n .nilIface,by simp⟩,fun x h=>by cases h⟩
  | some x =>
   obtain ⟨b,o,cs,h1,h2,h3,h4⟩:=hel k x hx
   exact ⟨⟨cs,h2⟩,fun y hy=>by injection hy with hy;subst hy;exact ⟨b,o,h1,h3,h4⟩⟩
 let f:=fun k=>Classical.choose (hex k)
 have hf:∀ k x,l[k]?=some x→∃ b o,A=some ⟨b,o,none⟩∧ElemAt w b (o+k*n) (f k).1∧E w (f k).1 x:=fun k=>Classical.choose_spec (hex k)
 refine ⟨(List.range l.length).map f,⟨A,c,by simp,by simpa using hlc,hcm,fun hne=>?_⟩,by simp,fun k x cs hx hcs=>?_⟩
 · have hl0:0 < l.length:=by
    cases hl:l with
    | nil=>rw [hl] at hne;simp at hne
    | cons=>simp
   obtain ⟨x,hx⟩:=getElem?_lt hl0
   obtain ⟨b,o,hA,_⟩:=hf 0 x hx
   refine ⟨b,o,hA,fun k cs hcs=>?_⟩
   simp only [List.getElem?_map,Option.map_eq_some_iff] at hcs
   obtain ⟨i,hi,rfl⟩:=hcs
   obtain ⟨hk,he⟩:=Qv hi
   simp only [List.length_range] at hk
   rw [List.getElem_range] at he
   subst he
   obtain ⟨y,hy⟩:=getElem?_lt hk
   obtain ⟨b',o',hA',h3,h4⟩:=hf k y hy
   rw [hA] at hA'
   injection hA' with hA'
   injection hA' with h5 h6
   subst h5 h6
   exact ⟨(f k).1,(f k).2,h3,rfl⟩
 · obtain ⟨_,_,_,_,h4⟩:=hf k x hx
   have hk:k < l.length:=(Qv hx).1
   simp only [List.getElem?_map,List.getElem?_range hk,Option.map_some,Option.some.injEq] at hcs
   rw [← hcs];exact h4
theorem OwnE.reads {α:Type} {w:World} {base n:Nat} {T:TypeId} {v:Value} {css:List (Cs n)} {l:List α} {E:World→List Value→α→Prop} (h:OwnE w base T n Subtype.val v css) (hm:Mates n (E w) css l):SliceOf w n E v l:=by
 have hs:SliceOf w n (fun _ cs (x:Cs n)=>cs=x.1) v css:=h.slice (fun x=>x.2) (fun _ _=>rfl)
 obtain ⟨A,c,h1,h2,h3,h4⟩:=hs
 rw [hm.1] at h1 h2
 refine ⟨A,c,h1,h2,h3,fun hne=>?_⟩
 have hne':css≠[]:=by
  rintro rfl
  have:=hm.1
  exact hne (List.eq_nil_of_length_eq_zero (by simpa using this.symm))
 obtain ⟨b,o,hA,h5⟩:=h4 hne'
 refine ⟨b,o,hA,fun k x hx=>?_⟩
 obtain ⟨cs,hcs⟩:=getElem?_lt (l:=css) (k:=k) (by rw [hm.1];exact (Qv hx).1)
 obtain ⟨cs',h6,h7,rfl⟩:=h5 k cs hcs
 exact ⟨cs.1,cs.2,h7,hm.2 k x cs hx hcs⟩
theorem cells_of_heap {w:World} {b:Nat} {cs:Array Value} {T:TypeId} (h:w.heap[b]?=some (.cells cs T (0,0))):(∀ o,w.cell? ⟨b,o,none⟩=cs[o]?)∧∀ o,w.frozen? ⟨b,o,none⟩=false :=
 ⟨fun o=>cell_of_row w b o cs T (0,0) h,fun o=>by unfold World.frozen?;rw [h];simp⟩
theorem heap_set {w:World} {b o:Nat} {cs:Array Value} {T:TypeId} {fr:Nat×Nat} (h:w.heap[b]?=some (.cells cs T fr)) (v:Value):(w.setCell ⟨b,o,none⟩ v).heap[b]?=some (.cells (cs.setIfInBounds o v) T fr):=by
 simp only [World.setCell,Array.getElem?_modify,h]
 simp
def setObj (o:Nat) (v:Value):Obj→Obj
 | .cells cs T fr => .cells (cs.setIfInBounds o v) T fr
 | x=>x
theorem setObj_cells (o:Nat) (v:Value) (cs:Array Value) (T:TypeId) (fr:Nat×Nat):setObj o v (.cells cs T fr) = .cells (cs.setIfInBounds o v) T fr:=rfl
theorem heap_set_map {w:World} {b o:Nat} {v:Value}:(w.setCell ⟨b,o,none⟩ v).heap[b]?=(w.heap[b]?).map (setObj o v):=by
 simp only [World.setCell,Array.getElem?_modify]
 cases w.heap[b]? with
 | none=>simp
 | some x=>simp;cases x<;>rfl
theorem heap_new (w:World) (cs:Array Value) (T:TypeId):(w.alloc (.cells cs T)).heap[w.heap.size]?=some (.cells cs T (0,0)):=World.alloc_heap_new w _
def TypeAt (w:World) (b:Nat) (T:TypeId):Prop:=∃ cur fr,w.heap[b]?=some (.cells cur T fr)
def Only (b:Nat) (w w':World):Prop:=∀ g,g≠b→w'.heap[g]?=w.heap[g]?
theorem Only.setCell (w:World) (b o:Nat) (v:Value):Only b w (w.setCell ⟨b,o,none⟩ v):=fun g hg=>Below.heap_setCell w ⟨b,o,none⟩ v g hg
def OwnR {α:Type} (w:World) (lo hi:Nat) (T:TypeId) (n:Nat) (enc:α→List Value) (v:Value) (l:List α):Prop:=OwnE w lo T n enc v l∧∀ b,v.ownBlock=some b→b < hi
theorem OwnE.range {α:Type} {w:World} {lo n:Nat} {T:TypeId} {enc:α→List Value} {v:Value} {l:List α} (h:OwnE w lo T n enc v l):OwnR w lo w.heap.size T n enc v l:=⟨h,fun b hb=>(h.lt b hb).2⟩
theorem OwnR.only {α:Type} {w w':World} {lo hi n b:Nat} {T:TypeId} {enc:α→List Value} {v:Value} {l:List α} (h:OwnR w lo hi T n enc v l) (ho:Only b w w') (hb:hi≤b∨b < lo∨∃ T',TypeAt w b T'∧T'≠T):OwnR w' lo hi T n enc v l:=by
 refine ⟨⟨h.1.1,?_⟩,h.2⟩
 rcases h.1.2 with h2 | ⟨g,cap,cur,h1,h2,h3,h4⟩
 · exact .inl h2
 · refine .inr ⟨g,cap,cur,h1,h2,?_,h4⟩
   rw [ho g ?_];exact h3
   rintro rfl
   rcases hb with hb | hb | ⟨T',⟨cur',fr,hc⟩,hT⟩
   · have:=h.2 g (by rw [h1];rfl)
     omega
   · omega
   · rw [h3] at hc;injection hc with hc;injection hc with _ hc _;exact hT hc.symm
theorem OwnE.row {α:Type} {w:World} {lo n:Nat} {T:TypeId} {enc:α→List Value} {v:Value} {l:List α} (h:OwnE w lo T n enc v l) (hn:∀ x,(enc x).length=n) (hl:0 < l.length) :
 ∃ g cap,v = .slice (some ⟨g,0,none⟩) l.length cap∧lo≤g∧g < w.heap.size∧TypeAt w g T∧(∀ o,w.frozen? ⟨g,o,none⟩=false)∧∀ k x,l[k]?=some x→ElemAt w g (k*n) (enc x):=by
 rcases h.2 with ⟨rfl,h0⟩ | ⟨g,cap,cur,rfl,hb,hg,hc,hm,hs,ht⟩
 · omega
 · refine ⟨g,cap,rfl,hb,(Qk hg).1,⟨_,_,hg⟩,fun o=>by unfold World.frozen?;rw [hg];simp,fun k x hx j v hv=>?_⟩
   have:=flatMap_get hn l k x j v hx hv
   rw [← ht,List.getElem?_take] at this
   split at this
   · rw [cell_of_row w g _ cur T (0,0) hg]
     simpa using this
   · cases this
theorem TypeAt.ext {w w':World} {b:Nat} {T:TypeId} (h:TypeAt w b T) (e:Ext w w'):TypeAt w' b T:=by
 obtain ⟨cur,fr,h⟩:=h
 exact ⟨cur,fr,e.obj h⟩
theorem OwnE.mates {α:Type} {w:World} {lo n:Nat} {T:TypeId} {enc:α→List Value} {v:Value} {css:List (Cs n)} {l:List α} (h:OwnE w lo T n Subtype.val v css) (hm:Mates n (fun cs x=>cs=enc x) css l):OwnE w lo T n enc v l:=by
 have he:css.flatMap Subtype.val=l.flatMap enc:=by
  have:css.map Subtype.val=l.map enc:=by
   apply List.ext_getElem?
   intro i
   rw [List.getElem?_map,List.getElem?_map]
   cases hc:css[i]? with
   | none =>
    have:l[i]?=none:=by rw [List.getElem?_eq_none_iff] at hc ⊢;rw [← hm.1];exact hc
    rw [this];rfl
   | some cs =>
    obtain ⟨x,hx⟩:=getElem?_lt (l:=l) (k:=i) (by rw [← hm.1];exact (Qv hc).1)
    rw [hx]
    simp only [Option.map_some,Option.some.injEq]
    exact hm.2 i x cs hx hc
  rw [List.flatMap_def,List.flatMap_def,this]
 unfold OwnE at *
 rw [← he,← hm.1];exact h
section
variable {P:Program} {QP:List PanicEntry→World→Prop} {w:World}
theorem op_append0 {t ty T n m:Nat} {z:Value} {agg:Bool} {k:Value→World→Prop} (ht:P.underlying t=some (.slice T)) (hT:TyInfo P T agg n m z) (B A:Option Addr) (len cap c:Nat) (hc:len≤cap) :
 opV P (Builtin.append_ #[t,t] ty #[.slice B len cap,.slice A 0 c]) QP w k=k (.slice B len cap) w:=by
 obtain ⟨⟨i,hi,hs,hby,hzz⟩,_⟩:=hT
 refine opV_ok ?_
 cases A with
 | none=>cases B<;>simp [Builtin.append_,run_underlying ht,sizeOf,typeInfo,hi,Builtin.lenOf,Builtin.firstCells,hc,storeCells]
 | some a=>cases B<;>simp [Builtin.append_,run_underlying ht,sizeOf,typeInfo,hi,Builtin.lenOf,Builtin.firstCells,hc,storeCells,loadCells,loadCellsFrom]
theorem op_appendE {α:Type} {t ty T n m:Nat} {z:Value} {agg:Bool} {enc:α→List Value} {v:Value} {l l':List α} {base:Nat} {k:Value→World→Prop}
 (ht:P.underlying t=some (.slice T)) (hT:TyInfo P T agg n m z) (hz:z.cells.size=n) (h0:0 < n) (hn:∀ x,(enc x).length=n) (h1:∀ x,x∈l'→∀ u∈enc x,u.oneCell'=true)
 (hown:OwnE w base T n enc v l) {b o c:Nat} (hc:∀ j x,l'[j]?=some x→ElemAt w b (o+j*n) (enc x)) (hbase:base≤w.heap.size) (hm:(l.length+l'.length)*m≤140737488355328) (hb:l.length+l'.length≤140737488355328)
 (hk:∀ v' w',OwnE w' base T n enc v' (l++l')→w.grownBy w' v.ownBlock→k v' w') :
 opV P (Builtin.append_ #[t,t] ty #[v,.slice (some ⟨b,o,none⟩) l'.length c]) QP w k:=by
 obtain ⟨⟨i,hi,hs,hby,hzz⟩,_⟩:=hT
 have hfl:(l'.flatMap enc).length=l'.length*n:=by
  clear hm hb hc h1 hk
  induction l' with
  | nil=>simp
  | cons a l ih=>rw [List.flatMap_cons,List.length_append,hn,ih,List.length_cons,Nat.add_mul];omega
 have hcells:∀ j u,(l'.flatMap enc)[j]?=some u→w.cell? ((⟨b,o,none⟩:Addr).add j)=some u:=by
  intro j u hu
  have hj:j < l'.length*n:=by have:=(Qv hu).1;rwa [hfl] at this
  have hq:j / n < l'.length:=Nat.div_lt_of_lt_mul (by rw [Nat.mul_comm];exact hj)
  obtain ⟨x,hx⟩:=getElem?_lt hq
  have hjn:j % n < (enc x).length:=by rw [hn];exact Nat.mod_lt _ h0
  have hdm:j / n*n+j % n=j:=by rw [Nat.mul_comm];exact Nat.div_add_mod j n
  have hg:=flatMap_get hn l' (j / n) x (j % n) _ hx (List.getElem?_eq_getElem hjn)
  rw [hdm,hu] at hg
  injection hg with hg
  rw [Addr.add_lit]
  have:=hc _ _ hx (j % n) _ (List.getElem?_eq_getElem hjn)
  rw [hg,← this]
  congr 2;omega
 obtain ⟨v',w',hr,ho,hg,_⟩:=run_append_own (P:=P) w base t ty T i z n m ht hi hzz hs hby hz h0 v l.length (l.flatMap enc) hown ⟨b,o,none⟩ l'.length c (l'.flatMap enc) hfl hcells
  (by intro u hu;obtain ⟨x,hx,hux⟩:=List.mem_flatMap.1 hu;exact h1 x hx u hux) (by simp only [maxLen];omega) hm hbase
 rw [opV_ok hr]
 refine hk v' w' ?_ hg
 unfold OwnE
 rw [List.flatMap_append,List.length_append];exact ho
end
end Go.Sw
namespace Go.Proofs.YtgalpdihjbinjaaGreatDoor
open Sw
noncomputable abbrev Pg:=Tryz.prog
def L0 (T:TypeId) (a:Value) (R:RT) (w:World) (k:KV):Prop:=opV Pg (Instr.loadAt T a) (panK R) w k
theorem L0_eq (T:TypeId) (a:Value) (R:RT) (w:World) (k:KV):L0 T a R w k=opV Pg (Instr.loadAt T a) (panK R) w k:=rfl
def F0 (T:TypeId) (a:Value) (i:Nat) (R:RT) (w:World) (k:KV):Prop:=opV Pg (Instr.fieldAt T a i) (panK R) w k
theorem F0_eq (T:TypeId) (a:Value) (i:Nat) (R:RT) (w:World) (k:KV):F0 T a i R w k=opV Pg (Instr.fieldAt T a i) (panK R) w k:=rfl
def X0 (T:TypeId) (a i:Value) (R:RT) (w:World) (k:KV):Prop:=opV Pg (Instr.indexAt T a i) (panK R) w k
theorem X0_eq (T:TypeId) (a i:Value) (R:RT) (w:World) (k:KV):X0 T a i R w k=opV Pg (Instr.indexAt T a i) (panK R) w k:=rfl
def B0 (o:BinOp) (T:TypeId) (c:Bool) (a b:Value) (R:RT) (w:World) (k:KV):Prop:=opV Pg (binS o T c a b) (panK R) w k
theorem B0_eq (o:BinOp) (T:TypeId) (c:Bool) (a b:Value) (R:RT) (w:World) (k:KV):B0 o T c a b R w k=opV Pg (binS o T c a b) (panK R) w k:=rfl
def C0 (f:FuncId) (a:Array Value) (R:RT) (w:World) (k:KV):Prop:=callK Pg f a (panK R) w k
theorem C0_eq (f:FuncId) (a:Array Value) (R:RT) (w:World) (k:KV):C0 f a R w k=callK Pg f a (panK R) w k:=rfl
def isAggD (d:TypeDesc):Bool:=match d with | .struct _ | .array _ _=>true | _=>false
theorem ty_mk {P:Program} {T:TypeId} {agg:Bool} {n:Nat} {z:Value} {d:TypeDesc} (h:(P.info? T).map (fun i=>(i.size,i.zero))=some (n,some z)) (hu:P.underlying T=some d) (ha:isAggD d=agg):TyInfo P T agg n (P.bytesOf T) z:=by
 obtain ⟨i,hi,he⟩:=Option.map_eq_some_iff.1 h
 simp only [Prod.mk.injEq] at he
 exact ⟨⟨i,hi,he.1,by simp [Program.bytesOf,hi],he.2⟩,d,hu,ha⟩
theorem ty3:TyInfo Pg 3 false 1 (Pg.bytesOf 3) (.int .i64 0):=ty_mk Qq Tryz.underlying3 rfl
theorem by3:Pg.bytesOf 3≤4096:=Nat.le_of_ble_eq_true Qq
theorem ty4:TyInfo Pg 4 false 1 (Pg.bytesOf 4) (.bool false):=ty_mk Qq Tryz.underlying4 rfl
theorem ty5:TyInfo Pg 5 false 1 (Pg.bytesOf 5) (.int .u8 0):=ty_mk Qq Tryz.underlying5 rfl
theorem by5:Pg.bytesOf 5≤4096:=Nat.le_of_ble_eq_true Qq
theorem ty9:TyInfo Pg 9 false 1 (Pg.bytesOf 9) (.string Qy):=ty_mk Qq Tryz.underlying9 rfl
theorem by9:Pg.bytesOf 9≤4096:=Nat.le_of_ble_eq_true Qq
theorem ty22:TyInfo Pg 22 false 1 (Pg.bytesOf 22) (.slice none 0 0):=ty_mk Qq Tryz.underlying22 rfl
theorem ty24:TyInfo Pg 24 true 2 (Pg.bytesOf 24) (.agg #[.string Qy,.slice none 0 0]):=ty_mk Qq Tryz.underlying24 rfl
theorem ty25:TyInfo Pg 25 false 1 (Pg.bytesOf 25) (.slice none 0 0):=ty_mk Qq Tryz.underlying25 rfl
theorem ty27:TyInfo Pg 27 true 3 (Pg.bytesOf 27) (.agg #[.string Qy,.slice none 0 0,.string Qy]):=ty_mk Qq Tryz.underlying27 rfl
theorem ty32:TyInfo Pg 32 false 1 (Pg.bytesOf 32) (.int .i64 0):=ty_mk Qq Tryz.underlying32 rfl
theorem ty34:TyInfo Pg 34 true 3 (Pg.bytesOf 34) (.agg #[.int .i64 0,.int .i64 0,.int .i64 0]):=ty_mk Qq Tryz.underlying34 rfl
theorem ty39:TyInfo Pg 39 false 1 (Pg.bytesOf 39) (.int .i64 0):=ty_mk Qq Tryz.underlying39 rfl
theorem ty40:TyInfo Pg 40 false 1 (Pg.bytesOf 40) (.slice none 0 0):=ty_mk Qq Tryz.underlying40 rfl
theorem ty41:TyInfo Pg 41 false 1 (Pg.bytesOf 41) (.slice none 0 0):=ty_mk Qq Tryz.underlying41 rfl
theorem ty43:TyInfo Pg 43 true 7 (Pg.bytesOf 43) (.agg #[.string Qy,.int .i64 0,.string Qy,.int .i64 0,.int .i64 0,.slice none 0 0,.slice none 0 0]):=ty_mk Qq Tryz.underlying43 rfl
theorem by43:Pg.bytesOf 43≤4096:=Nat.le_of_ble_eq_true Qq
theorem ty49:TyInfo Pg 49 false 1 (Pg.bytesOf 49) (.int .i64 0):=ty_mk Qq Tryz.underlying49 rfl
theorem ty58:TyInfo Pg 58 false 1 (Pg.bytesOf 58) (.slice none 0 0):=ty_mk Qq Tryz.underlying58 rfl
theorem ty60:TyInfo Pg 60 true 3 (Pg.bytesOf 60) (.agg #[.string Qy,.string Qy,.slice none 0 0]):=ty_mk Qq Tryz.underlying60 rfl
theorem by60:Pg.bytesOf 60≤4096:=Nat.le_of_ble_eq_true Qq
theorem ty61:TyInfo Pg 61 false 1 (Pg.bytesOf 61) (.slice none 0 0):=ty_mk Qq Tryz.underlying61 rfl
theorem ty72:TyInfo Pg 72 false 1 (Pg.bytesOf 72) (.slice none 0 0):=ty_mk Qq Tryz.underlying72 rfl
theorem ty74:TyInfo Pg 74 true 2 (Pg.bytesOf 74) (.agg #[.string Qy,.slice none 0 0]):=ty_mk Qq Tryz.underlying74 rfl
theorem ty78:TyInfo Pg 78 true 3 (Pg.bytesOf 78) (.agg #[.int .i64 0,.int .i64 0,.int .i64 0]):=ty_mk Qq Tryz.underlying78 rfl
theorem by78:Pg.bytesOf 78≤4096:=Nat.le_of_ble_eq_true Qq
theorem ty81:TyInfo Pg 81 true 10 (Pg.bytesOf 81) (.agg #[.string Qy,.slice none 0 0,.string Qy,.slice none 0 0,.string Qy,.string Qy,.slice none 0 0,.string Qy,.int .i64 0,.int .i64 0]):=ty_mk Qq Tryz.underlying81 rfl
theorem ty82:TyInfo Pg 82 true 3 (Pg.bytesOf 82) (.agg #[.int .i64 0,.int .i64 0,.int .i64 0]):=ty_mk Qq Tryz.underlying82 rfl
theorem ty88:TyInfo Pg 88 false 1 (Pg.bytesOf 88) (.nilFunc):=ty_mk Qq Tryz.underlying88 rfl
theorem ty94:TyInfo Pg 94 false 1 (Pg.bytesOf 94) (.slice none 0 0):=ty_mk Qq Tryz.underlying94 rfl
theorem ty105:TyInfo Pg 105 true 5 (Pg.bytesOf 105) (.agg #[.bool false,.bool false,.bool false,.bool false,.bool false]):=ty_mk Qq Tryz.underlying105 rfl
theorem ty117:TyInfo Pg 117 false 1 (Pg.bytesOf 117) (.int .i64 0):=ty_mk Qq Tryz.underlying117 rfl
theorem ty118:TyInfo Pg 118 false 1 (Pg.bytesOf 118) (.slice none 0 0):=ty_mk Qq Tryz.underlying118 rfl
theorem ty120:TyInfo Pg 120 true 2 (Pg.bytesOf 120) (.agg #[.int .i64 0,.slice none 0 0]):=ty_mk Qq Tryz.underlying120 rfl
theorem ty121:TyInfo Pg 121 false 1 (Pg.bytesOf 121) (.slice none 0 0):=ty_mk Qq Tryz.underlying121 rfl
theorem ty123:TyInfo Pg 123 true 15 (Pg.bytesOf 123) (.agg #[.string Qy,.int .i64 0,.int .i64 0,.bool false,.bool false,.int .i64 0,.int .i64 0,.int .i64 0,.slice none 0 0,.string Qy,.string Qy,.string Qy,.slice none 0 0,.int .i64 0,.int .i64 0]):=ty_mk Qq Tryz.underlying123 rfl
theorem ty128:TyInfo Pg 128 true 2 (Pg.bytesOf 128) (.agg #[.string Qy,.int .i64 0]):=ty_mk Qq Tryz.underlying128 rfl
theorem by128:Pg.bytesOf 128≤4096:=Nat.le_of_ble_eq_true Qq
theorem ty129:TyInfo Pg 129 false 1 (Pg.bytesOf 129) (.int .i64 0):=ty_mk Qq Tryz.underlying129 rfl
theorem ty131:TyInfo Pg 131 true 3 (Pg.bytesOf 131) (.agg #[.int .i64 0,.int .i64 0,.int .i64 0]):=ty_mk Qq Tryz.underlying131 rfl
theorem ty159:TyInfo Pg 159 true 2 (Pg.bytesOf 159) (.agg #[.pointer none,.slice none 0 0]):=ty_mk Qq Tryz.underlying159 rfl
theorem ty167:TyInfo Pg 167 false 1 (Pg.bytesOf 167) (.pointer none):=ty_mk Qq Tryz.underlying167 rfl
theorem ty198:TyInfo Pg 198 false 1 (Pg.bytesOf 198) (.map none):=ty_mk Qq Tryz.underlying198 rfl
theorem ty199:TyInfo Pg 199 false 1 (Pg.bytesOf 199) (.map none):=ty_mk Qq Tryz.underlying199 rfl
theorem ty201:TyInfo Pg 201 true 9 (Pg.bytesOf 201) (.agg #[.string Qy,.slice none 0 0,.string Qy,.map none,.map none,.int .i64 0,.int .i64 0,.string Qy,.slice none 0 0]):=ty_mk Qq Tryz.underlying201 rfl
theorem ty213:TyInfo Pg 213 true 3 (Pg.bytesOf 213) (.agg #[.int .i64 0,.int .i64 0,.string Qy]):=ty_mk Qq Tryz.underlying213 rfl
theorem ty252:TyInfo Pg 252 false 1 (Pg.bytesOf 252) (.nilFunc):=ty_mk Qq Tryz.underlying252 rfl
theorem ty253:TyInfo Pg 253 false 1 (Pg.bytesOf 253) (.nilFunc):=ty_mk Qq Tryz.underlying253 rfl
theorem ty255:TyInfo Pg 255 true 2 (Pg.bytesOf 255) (.agg #[.nilFunc,.nilFunc]):=ty_mk Qq Tryz.underlying255 rfl
theorem ty266:TyInfo Pg 266 true 3 (Pg.bytesOf 266) (.agg #[.string Qy,.int .i64 0,.int .i64 0]):=ty_mk Qq Tryz.underlying266 rfl
theorem ty287:TyInfo Pg 287 true 13 (Pg.bytesOf 287) (.agg #[.string Qy,.string Qy,.string Qy,.string Qy,.int .i64 0,.int .i64 0,.int .i64 0,.int .i64 0,.int .i64 0,.int .i64 0,.int .i64 0,.bool false,.bool false]):=ty_mk Qq Tryz.underlying287 rfl
theorem ty296:TyInfo Pg 296 false 1 (Pg.bytesOf 296) (.map none):=ty_mk Qq Tryz.underlying296 rfl
theorem ty300:TyInfo Pg 300 true 2 (Pg.bytesOf 300) (.agg #[.int .i64 0,.int .i64 0]):=ty_mk Qq Tryz.underlying300 rfl
theorem ty311:TyInfo Pg 311 false 1 (Pg.bytesOf 311) (.nilFunc):=ty_mk Qq Tryz.underlying311 rfl
theorem eq34 {w:World} (a0 b0:Int) (a1 b1:Int) (a2 b2:Int):(Op.equalIn (9999+1) 34 (.agg #[.int .i64 a0,.int .i64 a1,.int .i64 a2]) (.agg #[.int .i64 b0,.int .i64 b1,.int .i64 b2])).run Pg w = .ok (decide (a0=b0)&&(decide (a1=b1)&&(decide (a2=b2)&&true))) w :=
 equalIn_struct Tryz.underlying34 Qq (eqFields_step rfl (part1 ty3 rfl) (part1 ty3 rfl) (eqInt Tryz.underlying3) (eqFields_step rfl (part1 ty3 rfl) (part1 ty3 rfl) (eqInt Tryz.underlying3) (eqFields_step rfl (part1 ty32 rfl) (part1 ty32 rfl) (eqInt Tryz.underlying32) eqFields_nil)))
theorem eq78 {w:World} (a0 b0:Int) (a1 b1:Int) (a2 b2:Int):(Op.equalIn (9999+1) 78 (.agg #[.int .i64 a0,.int .i64 a1,.int .i64 a2]) (.agg #[.int .i64 b0,.int .i64 b1,.int .i64 b2])).run Pg w = .ok (decide (a0=b0)&&(decide (a1=b1)&&(decide (a2=b2)&&true))) w :=
 equalIn_struct Tryz.underlying78 Qq (eqFields_step rfl (part1 ty3 rfl) (part1 ty3 rfl) (eqInt Tryz.underlying3) (eqFields_step rfl (part1 ty3 rfl) (part1 ty3 rfl) (eqInt Tryz.underlying3) (eqFields_step rfl (part1 ty3 rfl) (part1 ty3 rfl) (eqInt Tryz.underlying3) eqFields_nil)))
theorem eq128 {w:World} (a0 b0:ByteArray) (a1 b1:Int):(Op.equalIn (9999+1) 128 (.agg #[.string a0,.int .i64 a1]) (.agg #[.string b0,.int .i64 b1])).run Pg w = .ok (decide (a0=b0)&&(decide (a1=b1)&&true)) w :=
 equalIn_struct Tryz.underlying128 Qq (eqFields_step rfl (part1 ty9 rfl) (part1 ty9 rfl) (eqString Tryz.underlying9) (eqFields_step rfl (part1 ty3 rfl) (part1 ty3 rfl) (eqInt Tryz.underlying3) eqFields_nil))
theorem eq213 {w:World} (a0 b0:Int) (a1 b1:Int) (a2 b2:ByteArray):(Op.equalIn (9999+1) 213 (.agg #[.int .i64 a0,.int .i64 a1,.string a2]) (.agg #[.int .i64 b0,.int .i64 b1,.string b2])).run Pg w = .ok (decide (a0=b0)&&(decide (a1=b1)&&(decide (a2=b2)&&true))) w :=
 equalIn_struct Tryz.underlying213 Qq (eqFields_step rfl (part1 ty3 rfl) (part1 ty3 rfl) (eqInt Tryz.underlying3) (eqFields_step rfl (part1 ty3 rfl) (part1 ty3 rfl) (eqInt Tryz.underlying3) (eqFields_step rfl (part1 ty9 rfl) (part1 ty9 rfl) (eqString Tryz.underlying9) eqFields_nil)))
theorem eq287 {w:World} (a0 b0:ByteArray) (a1 b1:ByteArray) (a2 b2:ByteArray) (a3 b3:ByteArray) (a4 b4:Int) (a5 b5:Int) (a6 b6:Int) (a7 b7:Int) (a8 b8:Int) (a9 b9:Int) (a10 b10:Int) (a11 b11:Bool) (a12 b12:Bool):(Op.equalIn (9999+1) 287 (.agg #[.string a0,.string a1,.string a2,.string a3,.int .i64 a4,.int .i64 a5,.int .i64 a6,.int .i64 a7,.int .i64 a8,.int .i64 a9,.int .i64 a10,.bool a11,.bool a12]) (.agg #[.string b0,.string b1,.string b2,.string b3,.int .i64 b4,.int .i64 b5,.int .i64 b6,.int .i64 b7,.int .i64 b8,.int .i64 b9,.int .i64 b10,.bool b11,.bool b12])).run Pg w = .ok (decide (a0=b0)&&(decide (a1=b1)&&(decide (a2=b2)&&(decide (a3=b3)&&(decide (a4=b4)&&(decide (a5=b5)&&(decide (a6=b6)&&(decide (a7=b7)&&(decide (a8=b8)&&(decide (a9=b9)&&(decide (a10=b10)&&(decide (a11=b11)&&(decide (a12=b12)&&true))))))))))))) w :=
 equalIn_struct Tryz.underlying287 Qq (eqFields_step rfl (part1 ty9 rfl) (part1 ty9 rfl) (eqString Tryz.underlying9) (eqFields_step rfl (part1 ty9 rfl) (part1 ty9 rfl) (eqString Tryz.underlying9) (eqFields_step rfl (part1 ty9 rfl) (part1 ty9 rfl) (eqString Tryz.underlying9) (eqFields_step rfl (part1 ty9 rfl) (part1 ty9 rfl) (eqString Tryz.underlying9) (eqFields_step rfl (part1 ty117 rfl) (part1 ty117 rfl) (eqInt Tryz.underlying117) (eqFields_step rfl (part1 ty3 rfl) (part1 ty3 rfl) (eqInt Tryz.underlying3) (eqFields_step rfl (part1 ty3 rfl) (part1 ty3 rfl) (eqInt Tryz.underlying3) (eqFields_step rfl (part1 ty3 rfl) (part1 ty3 rfl) (eqInt Tryz.underlying3) (eqFields_step rfl (part1 ty3 rfl) (part1 ty3 rfl) (eqInt Tryz.underlying3) (eqFields_step rfl (part1 ty3 rfl) (part1 ty3 rfl) (eqInt Tryz.underlying3) (eqFields_step rfl (part1 ty3 rfl) (part1 ty3 rfl) (eqInt Tryz.underlying3) (eqFields_step rfl (part1 ty4 rfl) (part1 ty4 rfl) (eqBool Tryz.underlying4) (eqFields_step rfl (part1 ty4 rfl) (part1 ty4 rfl) (eqBool Tryz.underlying4) eqFields_nil)))))))))))))
section
variable {QP:List PanicEntry→World→Prop} {w:World} {k:Value→World→Prop}
def o0:=op_loadC (QP:=QP) (w:=w) (k:=k) ty3
theorem o1:(∀ u,opV Pg (Instr.alloc 3 true u) QP w k=k (.pointer (some ⟨w.heap.size,0,none⟩)) (w.alloc (.cells ((.int .i64 0):Value).cells 3))):=(op_alloc ty3)
def o2:=op_loadC (QP:=QP) (w:=w) (k:=k) ty4
theorem o3:(∀ c a b,opV Pg (binS .eql 4 c (.bool a) (.bool b)) QP w k=k (.bool (a == b)) w):=(op_beql Tryz.underlying4)
theorem o4:(∀ c a b,opV Pg (binS .neq 4 c (.bool a) (.bool b)) QP w k=k (.bool (a != b)) w):=(op_bneq Tryz.underlying4)
theorem o5:(∀ u,opV Pg (Instr.alloc 4 true u) QP w k=k (.pointer (some ⟨w.heap.size,0,none⟩)) (w.alloc (.cells ((.bool false):Value).cells 4))):=(op_alloc ty4)
def o6:=op_loadC (QP:=QP) (w:=w) (k:=k) ty5
def o7:=op_loadC (QP:=QP) (w:=w) (k:=k) ty9
theorem o8:(∀ r s,opV Pg (Builtin.len_ #[9] r #[.string s]) QP w k=k (.int .i64 (s.size:Int)) w):=(fun r=>op_len_string (r:=r) Tryz.underlying9)
def o9:=op_loadC (QP:=QP) (w:=w) (k:=k) ty22
theorem o10:(∀ r a n c,opV Pg (Builtin.len_ #[22] r #[.slice a n c]) QP w k=k (.int .i64 (n:Int)) w):=(fun r=>op_len_slice (r:=r) Tryz.underlying22)
theorem o11:(∀ b o len cap ik (i:Nat),i < len→opV Pg (Instr.indexAt 22 (.slice (some ⟨b,o,none⟩) len cap) (.int ik (i:Int))) QP w k=k (.pointer (some ⟨b,o+i*3,none⟩)) w):=(op_indexN Tryz.underlying22 ty60)
def o12:=op_field0 (QP:=QP) (w:=w) (k:=k) (i:=0) (ft:=9) (n:=1) Tryz.underlying24 rfl ty9 rfl
def o13:=op_fieldO (QP:=QP) (w:=w) (k:=k) (i:=1) (ft:=22) (off:=1) (n:=1) Tryz.underlying24 rfl ty22 rfl
theorem o14:(∀ b o,opV Pg (Instr.loadAt 24 (.pointer (some ⟨b,o,none⟩))) QP w k=onCells [w.cell? ⟨b,o,none⟩,w.cell? ⟨b,o+1,none⟩] (fun vs=>k (.agg vs.toArray) w) (opVx Pg (Instr.loadAt 24 (.pointer (some ⟨b,o,none⟩))) QP w k)):=(by intro b o;exact op_loadA ty24 b o _ rfl)
theorem o15:(∀ u,opV Pg (Instr.alloc 24 true u) QP w k=k (.pointer (some ⟨w.heap.size,0,none⟩)) (w.alloc (.cells ((.agg #[.string Qy,.slice none 0 0]):Value).cells 24))):=(op_alloc ty24)
def o16:=op_loadC (QP:=QP) (w:=w) (k:=k) ty25
theorem o17:(∀ r a n c,opV Pg (Builtin.len_ #[25] r #[.slice a n c]) QP w k=k (.int .i64 (n:Int)) w):=(fun r=>op_len_slice (r:=r) Tryz.underlying25)
theorem o18:(∀ b o len cap ik (i:Nat),i < len→opV Pg (Instr.indexAt 25 (.slice (some ⟨b,o,none⟩) len cap) (.int ik (i:Int))) QP w k=k (.pointer (some ⟨b,o+i*2,none⟩)) w):=(op_indexN Tryz.underlying25 ty74)
def o19:=op_field0 (QP:=QP) (w:=w) (k:=k) (i:=0) (ft:=9) (n:=1) Tryz.underlying27 rfl ty9 rfl
def o20:=op_fieldO (QP:=QP) (w:=w) (k:=k) (i:=1) (ft:=25) (off:=1) (n:=1) Tryz.underlying27 rfl ty25 rfl
def o21:=op_fieldO (QP:=QP) (w:=w) (k:=k) (i:=2) (ft:=9) (off:=2) (n:=1) Tryz.underlying27 rfl ty9 rfl
theorem o22:(∀ b o,opV Pg (Instr.loadAt 27 (.pointer (some ⟨b,o,none⟩))) QP w k=onCells [w.cell? ⟨b,o,none⟩,w.cell? ⟨b,o+1,none⟩,w.cell? ⟨b,o+2,none⟩] (fun vs=>k (.agg vs.toArray) w) (opVx Pg (Instr.loadAt 27 (.pointer (some ⟨b,o,none⟩))) QP w k)):=(by intro b o;exact op_loadA ty27 b o _ rfl)
theorem o23:(∀ u,opV Pg (Instr.alloc 27 true u) QP w k=k (.pointer (some ⟨w.heap.size,0,none⟩)) (w.alloc (.cells ((.agg #[.string Qy,.slice none 0 0,.string Qy]):Value).cells 27))):=(op_alloc ty27)
theorem o26:(∀ b o,opV Pg (Instr.loadAt 34 (.pointer (some ⟨b,o,none⟩))) QP w k=onCells [w.cell? ⟨b,o,none⟩,w.cell? ⟨b,o+1,none⟩,w.cell? ⟨b,o+2,none⟩] (fun vs=>k (.agg vs.toArray) w) (opVx Pg (Instr.loadAt 34 (.pointer (some ⟨b,o,none⟩))) QP w k)):=(by intro b o;exact op_loadA ty34 b o _ rfl)
theorem o27:(∀ u,opV Pg (Instr.alloc 34 true u) QP w k=k (.pointer (some ⟨w.heap.size,0,none⟩)) (w.alloc (.cells ((.agg #[.int .i64 0,.int .i64 0,.int .i64 0]):Value).cells 34))):=(op_alloc ty34)
def o28:=op_loadC (QP:=QP) (w:=w) (k:=k) ty39
def o29:=op_loadC (QP:=QP) (w:=w) (k:=k) ty40
theorem o30:(∀ r a n c,opV Pg (Builtin.len_ #[40] r #[.slice a n c]) QP w k=k (.int .i64 (n:Int)) w):=(fun r=>op_len_slice (r:=r) Tryz.underlying40)
theorem o31:(∀ b o len cap ik (i:Nat),i < len→opV Pg (Instr.indexAt 40 (.slice (some ⟨b,o,none⟩) len cap) (.int ik (i:Int))) QP w k=k (.pointer (some ⟨b,o+i*1,none⟩)) w):=(op_indexN Tryz.underlying40 ty5)
theorem o32:(∀ u,opV Pg (Instr.alloc 40 true u) QP w k=k (.pointer (some ⟨w.heap.size,0,none⟩)) (w.alloc (.cells ((.slice none 0 0):Value).cells 40))):=(op_alloc ty40)
def o33:=op_loadC (QP:=QP) (w:=w) (k:=k) ty41
theorem o34:(∀ r a n c,opV Pg (Builtin.len_ #[41] r #[.slice a n c]) QP w k=k (.int .i64 (n:Int)) w):=(fun r=>op_len_slice (r:=r) Tryz.underlying41)
theorem o35:(∀ b o len cap ik (i:Nat),i < len→opV Pg (Instr.indexAt 41 (.slice (some ⟨b,o,none⟩) len cap) (.int ik (i:Int))) QP w k=k (.pointer (some ⟨b,o+i*3,none⟩)) w):=(op_indexN Tryz.underlying41 ty78)
def o36:=op_field0 (QP:=QP) (w:=w) (k:=k) (i:=0) (ft:=9) (n:=1) Tryz.underlying43 rfl ty9 rfl
def o37:=op_fieldO (QP:=QP) (w:=w) (k:=k) (i:=1) (ft:=39) (off:=1) (n:=1) Tryz.underlying43 rfl ty39 rfl
def o38:=op_fieldO (QP:=QP) (w:=w) (k:=k) (i:=2) (ft:=9) (off:=2) (n:=1) Tryz.underlying43 rfl ty9 rfl
def o39:=op_fieldO (QP:=QP) (w:=w) (k:=k) (i:=3) (ft:=3) (off:=3) (n:=1) Tryz.underlying43 rfl ty3 rfl
def o40:=op_fieldO (QP:=QP) (w:=w) (k:=k) (i:=4) (ft:=3) (off:=4) (n:=1) Tryz.underlying43 rfl ty3 rfl
def o41:=op_fieldO (QP:=QP) (w:=w) (k:=k) (i:=5) (ft:=40) (off:=5) (n:=1) Tryz.underlying43 rfl ty40 rfl
def o42:=op_fieldO (QP:=QP) (w:=w) (k:=k) (i:=6) (ft:=41) (off:=6) (n:=1) Tryz.underlying43 rfl ty41 rfl
theorem o43:(∀ b o,opV Pg (Instr.loadAt 43 (.pointer (some ⟨b,o,none⟩))) QP w k=onCells [w.cell? ⟨b,o,none⟩,w.cell? ⟨b,o+1,none⟩,w.cell? ⟨b,o+2,none⟩,w.cell? ⟨b,o+3,none⟩,w.cell? ⟨b,o+4,none⟩,w.cell? ⟨b,o+5,none⟩,w.cell? ⟨b,o+6,none⟩] (fun vs=>k (.agg vs.toArray) w) (opVx Pg (Instr.loadAt 43 (.pointer (some ⟨b,o,none⟩))) QP w k)):=(by intro b o;exact op_loadA ty43 b o _ rfl)
theorem o44:(∀ u,opV Pg (Instr.alloc 43 true u) QP w k=k (.pointer (some ⟨w.heap.size,0,none⟩)) (w.alloc (.cells ((.agg #[.string Qy,.int .i64 0,.string Qy,.int .i64 0,.int .i64 0,.slice none 0 0,.slice none 0 0]):Value).cells 43))):=(op_alloc ty43)
theorem o45:(∀ u,opV Pg (Instr.alloc 49 true u) QP w k=k (.pointer (some ⟨w.heap.size,0,none⟩)) (w.alloc (.cells ((.int .i64 0):Value).cells 49))):=(op_alloc ty49)
def o46:=op_loadC (QP:=QP) (w:=w) (k:=k) ty58
theorem o47:(∀ r a n c,opV Pg (Builtin.len_ #[58] r #[.slice a n c]) QP w k=k (.int .i64 (n:Int)) w):=(fun r=>op_len_slice (r:=r) Tryz.underlying58)
theorem o48:(∀ b o len cap ik (i:Nat),i < len→opV Pg (Instr.indexAt 58 (.slice (some ⟨b,o,none⟩) len cap) (.int ik (i:Int))) QP w k=k (.pointer (some ⟨b,o+i*7,none⟩)) w):=(op_indexN Tryz.underlying58 ty43)
theorem o49:(∀ u,opV Pg (Instr.alloc 58 true u) QP w k=k (.pointer (some ⟨w.heap.size,0,none⟩)) (w.alloc (.cells ((.slice none 0 0):Value).cells 58))):=(op_alloc ty58)
def o50:=op_field0 (QP:=QP) (w:=w) (k:=k) (i:=0) (ft:=9) (n:=1) Tryz.underlying60 rfl ty9 rfl
def o51:=op_fieldO (QP:=QP) (w:=w) (k:=k) (i:=1) (ft:=9) (off:=1) (n:=1) Tryz.underlying60 rfl ty9 rfl
def o52:=op_fieldO (QP:=QP) (w:=w) (k:=k) (i:=2) (ft:=58) (off:=2) (n:=1) Tryz.underlying60 rfl ty58 rfl
theorem o53:(∀ b o,opV Pg (Instr.loadAt 60 (.pointer (some ⟨b,o,none⟩))) QP w k=onCells [w.cell? ⟨b,o,none⟩,w.cell? ⟨b,o+1,none⟩,w.cell? ⟨b,o+2,none⟩] (fun vs=>k (.agg vs.toArray) w) (opVx Pg (Instr.loadAt 60 (.pointer (some ⟨b,o,none⟩))) QP w k)):=(by intro b o;exact op_loadA ty60 b o _ rfl)
theorem o54:(∀ u,opV Pg (Instr.alloc 60 true u) QP w k=k (.pointer (some ⟨w.heap.size,0,none⟩)) (w.alloc (.cells ((.agg #[.string Qy,.string Qy,.slice none 0 0]):Value).cells 60))):=(op_alloc ty60)
def o55:=op_loadC (QP:=QP) (w:=w) (k:=k) ty61
theorem o56:(∀ r a n c,opV Pg (Builtin.len_ #[61] r #[.slice a n c]) QP w k=k (.int .i64 (n:Int)) w):=(fun r=>op_len_slice (r:=r) Tryz.underlying61)
theorem o57:(∀ b o len cap ik (i:Nat),i < len→opV Pg (Instr.indexAt 61 (.slice (some ⟨b,o,none⟩) len cap) (.int ik (i:Int))) QP w k=k (.pointer (some ⟨b,o+i*1,none⟩)) w):=(op_indexN Tryz.underlying61 ty3)
theorem o58:(∀ u,opV Pg (Instr.alloc 61 true u) QP w k=k (.pointer (some ⟨w.heap.size,0,none⟩)) (w.alloc (.cells ((.slice none 0 0):Value).cells 61))):=(op_alloc ty61)
def o59:=op_loadC (QP:=QP) (w:=w) (k:=k) ty72
theorem o60:(∀ r a n c,opV Pg (Builtin.len_ #[72] r #[.slice a n c]) QP w k=k (.int .i64 (n:Int)) w):=(fun r=>op_len_slice (r:=r) Tryz.underlying72)
theorem o61:(∀ b o len cap ik (i:Nat),i < len→opV Pg (Instr.indexAt 72 (.slice (some ⟨b,o,none⟩) len cap) (.int ik (i:Int))) QP w k=k (.pointer (some ⟨b,o+i*15,none⟩)) w):=(op_indexN Tryz.underlying72 ty123)
def o62:=op_field0 (QP:=QP) (w:=w) (k:=k) (i:=0) (ft:=9) (n:=1) Tryz.underlying74 rfl ty9 rfl
def o63:=op_fieldO (QP:=QP) (w:=w) (k:=k) (i:=1) (ft:=72) (off:=1) (n:=1) Tryz.underlying74 rfl ty72 rfl
theorem o64:(∀ b o,opV Pg (Instr.loadAt 74 (.pointer (some ⟨b,o,none⟩))) QP w k=onCells [w.cell? ⟨b,o,none⟩,w.cell? ⟨b,o+1,none⟩] (fun vs=>k (.agg vs.toArray) w) (opVx Pg (Instr.loadAt 74 (.pointer (some ⟨b,o,none⟩))) QP w k)):=(by intro b o;exact op_loadA ty74 b o _ rfl)
theorem o65:(∀ u,opV Pg (Instr.alloc 74 true u) QP w k=k (.pointer (some ⟨w.heap.size,0,none⟩)) (w.alloc (.cells ((.agg #[.string Qy,.slice none 0 0]):Value).cells 74))):=(op_alloc ty74)
def o66:=op_field0 (QP:=QP) (w:=w) (k:=k) (i:=0) (ft:=3) (n:=1) Tryz.underlying78 rfl ty3 rfl
def o67:=op_fieldO (QP:=QP) (w:=w) (k:=k) (i:=1) (ft:=3) (off:=1) (n:=1) Tryz.underlying78 rfl ty3 rfl
def o68:=op_fieldO (QP:=QP) (w:=w) (k:=k) (i:=2) (ft:=3) (off:=2) (n:=1) Tryz.underlying78 rfl ty3 rfl
theorem o69:(∀ b o,opV Pg (Instr.loadAt 78 (.pointer (some ⟨b,o,none⟩))) QP w k=onCells [w.cell? ⟨b,o,none⟩,w.cell? ⟨b,o+1,none⟩,w.cell? ⟨b,o+2,none⟩] (fun vs=>k (.agg vs.toArray) w) (opVx Pg (Instr.loadAt 78 (.pointer (some ⟨b,o,none⟩))) QP w k)):=(by intro b o;exact op_loadA ty78 b o _ rfl)
theorem o70:(∀ u,opV Pg (Instr.alloc 78 true u) QP w k=k (.pointer (some ⟨w.heap.size,0,none⟩)) (w.alloc (.cells ((.agg #[.int .i64 0,.int .i64 0,.int .i64 0]):Value).cells 78))):=(op_alloc ty78)
def o71:=op_field0 (QP:=QP) (w:=w) (k:=k) (i:=0) (ft:=24) (n:=2) Tryz.underlying81 rfl ty24 rfl
def o72:=op_fieldO (QP:=QP) (w:=w) (k:=k) (i:=1) (ft:=27) (off:=2) (n:=3) Tryz.underlying81 rfl ty27 rfl
def o73:=op_fieldO (QP:=QP) (w:=w) (k:=k) (i:=2) (ft:=27) (off:=5) (n:=3) Tryz.underlying81 rfl ty27 rfl
def o74:=op_fieldO (QP:=QP) (w:=w) (k:=k) (i:=3) (ft:=3) (off:=8) (n:=1) Tryz.underlying81 rfl ty3 rfl
def o75:=op_fieldO (QP:=QP) (w:=w) (k:=k) (i:=4) (ft:=3) (off:=9) (n:=1) Tryz.underlying81 rfl ty3 rfl
def o76:=op_loadC (QP:=QP) (w:=w) (k:=k) ty88
theorem o77:(∀ u,opV Pg (Instr.alloc 88 true u) QP w k=k (.pointer (some ⟨w.heap.size,0,none⟩)) (w.alloc (.cells ((.nilFunc):Value).cells 88))):=(op_alloc ty88)
def o78:=op_loadC (QP:=QP) (w:=w) (k:=k) ty94
theorem o79:(∀ r a n c,opV Pg (Builtin.len_ #[94] r #[.slice a n c]) QP w k=k (.int .i64 (n:Int)) w):=(fun r=>op_len_slice (r:=r) Tryz.underlying94)
theorem o80:(∀ b o len cap ik (i:Nat),i < len→opV Pg (Instr.indexAt 94 (.slice (some ⟨b,o,none⟩) len cap) (.int ik (i:Int))) QP w k=k (.pointer (some ⟨b,o+i*1,none⟩)) w):=(op_indexN Tryz.underlying94 ty9)
theorem o81:(∀ u,opV Pg (Instr.alloc 94 true u) QP w k=k (.pointer (some ⟨w.heap.size,0,none⟩)) (w.alloc (.cells ((.slice none 0 0):Value).cells 94))):=(op_alloc ty94)
def o82:=op_field0 (QP:=QP) (w:=w) (k:=k) (i:=0) (ft:=4) (n:=1) Tryz.underlying105 rfl ty4 rfl
def o83:=op_fieldO (QP:=QP) (w:=w) (k:=k) (i:=1) (ft:=4) (off:=1) (n:=1) Tryz.underlying105 rfl ty4 rfl
def o84:=op_fieldO (QP:=QP) (w:=w) (k:=k) (i:=2) (ft:=4) (off:=2) (n:=1) Tryz.underlying105 rfl ty4 rfl
def o85:=op_fieldO (QP:=QP) (w:=w) (k:=k) (i:=3) (ft:=4) (off:=3) (n:=1) Tryz.underlying105 rfl ty4 rfl
def o86:=op_fieldO (QP:=QP) (w:=w) (k:=k) (i:=4) (ft:=4) (off:=4) (n:=1) Tryz.underlying105 rfl ty4 rfl
theorem o87:(∀ v0 v1 v2 v3 v4,opV Pg (Instr.field 105 (.agg #[v0,v1,v2,v3,v4]) 0) QP w k=k v0 w):=(by intro v0 v1 v2 v3 v4;exact op_fieldV1 Tryz.underlying105 rfl ty4 rfl)
theorem o88:(∀ b o,opV Pg (Instr.loadAt 105 (.pointer (some ⟨b,o,none⟩))) QP w k=onCells [w.cell? ⟨b,o,none⟩,w.cell? ⟨b,o+1,none⟩,w.cell? ⟨b,o+2,none⟩,w.cell? ⟨b,o+3,none⟩,w.cell? ⟨b,o+4,none⟩] (fun vs=>k (.agg vs.toArray) w) (opVx Pg (Instr.loadAt 105 (.pointer (some ⟨b,o,none⟩))) QP w k)):=(by intro b o;exact op_loadA ty105 b o _ rfl)
theorem o89:(∀ u,opV Pg (Instr.alloc 105 true u) QP w k=k (.pointer (some ⟨w.heap.size,0,none⟩)) (w.alloc (.cells ((.agg #[.bool false,.bool false,.bool false,.bool false,.bool false]):Value).cells 105))):=(op_alloc ty105)
def o90:=op_loadC (QP:=QP) (w:=w) (k:=k) ty117
def o91:=op_loadC (QP:=QP) (w:=w) (k:=k) ty118
theorem o92:(∀ r a n c,opV Pg (Builtin.len_ #[118] r #[.slice a n c]) QP w k=k (.int .i64 (n:Int)) w):=(fun r=>op_len_slice (r:=r) Tryz.underlying118)
theorem o93:(∀ b o len cap ik (i:Nat),i < len→opV Pg (Instr.indexAt 118 (.slice (some ⟨b,o,none⟩) len cap) (.int ik (i:Int))) QP w k=k (.pointer (some ⟨b,o+i*2,none⟩)) w):=(op_indexN Tryz.underlying118 ty128)
theorem o94:(∀ u,opV Pg (Instr.alloc 118 true u) QP w k=k (.pointer (some ⟨w.heap.size,0,none⟩)) (w.alloc (.cells ((.slice none 0 0):Value).cells 118))):=(op_alloc ty118)
def o95:=op_field0 (QP:=QP) (w:=w) (k:=k) (i:=0) (ft:=3) (n:=1) Tryz.underlying120 rfl ty3 rfl
def o96:=op_fieldO (QP:=QP) (w:=w) (k:=k) (i:=1) (ft:=118) (off:=1) (n:=1) Tryz.underlying120 rfl ty118 rfl
theorem o97:(∀ b o,opV Pg (Instr.loadAt 120 (.pointer (some ⟨b,o,none⟩))) QP w k=onCells [w.cell? ⟨b,o,none⟩,w.cell? ⟨b,o+1,none⟩] (fun vs=>k (.agg vs.toArray) w) (opVx Pg (Instr.loadAt 120 (.pointer (some ⟨b,o,none⟩))) QP w k)):=(by intro b o;exact op_loadA ty120 b o _ rfl)
def o99:=op_loadC (QP:=QP) (w:=w) (k:=k) ty121
theorem o100:(∀ r a n c,opV Pg (Builtin.len_ #[121] r #[.slice a n c]) QP w k=k (.int .i64 (n:Int)) w):=(fun r=>op_len_slice (r:=r) Tryz.underlying121)
theorem o101:(∀ b o len cap ik (i:Nat),i < len→opV Pg (Instr.indexAt 121 (.slice (some ⟨b,o,none⟩) len cap) (.int ik (i:Int))) QP w k=k (.pointer (some ⟨b,o+i*3,none⟩)) w):=(op_indexN Tryz.underlying121 ty213)
def o102:=op_field0 (QP:=QP) (w:=w) (k:=k) (i:=0) (ft:=9) (n:=1) Tryz.underlying123 rfl ty9 rfl
def o103:=op_fieldO (QP:=QP) (w:=w) (k:=k) (i:=1) (ft:=117) (off:=1) (n:=1) Tryz.underlying123 rfl ty117 rfl
def o104:=op_fieldO (QP:=QP) (w:=w) (k:=k) (i:=2) (ft:=3) (off:=2) (n:=1) Tryz.underlying123 rfl ty3 rfl
def o105:=op_fieldO (QP:=QP) (w:=w) (k:=k) (i:=3) (ft:=4) (off:=3) (n:=1) Tryz.underlying123 rfl ty4 rfl
def o106:=op_fieldO (QP:=QP) (w:=w) (k:=k) (i:=4) (ft:=4) (off:=4) (n:=1) Tryz.underlying123 rfl ty4 rfl
def o107:=op_fieldO (QP:=QP) (w:=w) (k:=k) (i:=5) (ft:=3) (off:=5) (n:=1) Tryz.underlying123 rfl ty3 rfl
def o108:=op_fieldO (QP:=QP) (w:=w) (k:=k) (i:=6) (ft:=3) (off:=6) (n:=1) Tryz.underlying123 rfl ty3 rfl
def o109:=op_fieldO (QP:=QP) (w:=w) (k:=k) (i:=7) (ft:=120) (off:=7) (n:=2) Tryz.underlying123 rfl ty120 rfl
def o110:=op_fieldO (QP:=QP) (w:=w) (k:=k) (i:=8) (ft:=9) (off:=9) (n:=1) Tryz.underlying123 rfl ty9 rfl
def o111:=op_fieldO (QP:=QP) (w:=w) (k:=k) (i:=9) (ft:=9) (off:=10) (n:=1) Tryz.underlying123 rfl ty9 rfl
def o112:=op_fieldO (QP:=QP) (w:=w) (k:=k) (i:=10) (ft:=9) (off:=11) (n:=1) Tryz.underlying123 rfl ty9 rfl
def o113:=op_fieldO (QP:=QP) (w:=w) (k:=k) (i:=11) (ft:=121) (off:=12) (n:=1) Tryz.underlying123 rfl ty121 rfl
def o114:=op_fieldO (QP:=QP) (w:=w) (k:=k) (i:=12) (ft:=3) (off:=13) (n:=1) Tryz.underlying123 rfl ty3 rfl
def o115:=op_fieldO (QP:=QP) (w:=w) (k:=k) (i:=13) (ft:=3) (off:=14) (n:=1) Tryz.underlying123 rfl ty3 rfl
theorem o116:(∀ b o,opV Pg (Instr.loadAt 123 (.pointer (some ⟨b,o,none⟩))) QP w k=onCells [w.cell? ⟨b,o,none⟩,w.cell? ⟨b,o+1,none⟩,w.cell? ⟨b,o+2,none⟩,w.cell? ⟨b,o+3,none⟩,w.cell? ⟨b,o+4,none⟩,w.cell? ⟨b,o+5,none⟩,w.cell? ⟨b,o+6,none⟩,w.cell? ⟨b,o+7,none⟩,w.cell? ⟨b,o+8,none⟩,w.cell? ⟨b,o+9,none⟩,w.cell? ⟨b,o+10,none⟩,w.cell? ⟨b,o+11,none⟩,w.cell? ⟨b,o+12,none⟩,w.cell? ⟨b,o+13,none⟩,w.cell? ⟨b,o+14,none⟩] (fun vs=>k (.agg vs.toArray) w) (opVx Pg (Instr.loadAt 123 (.pointer (some ⟨b,o,none⟩))) QP w k)):=(by intro b o;exact op_loadA ty123 b o _ rfl)
theorem o117:(∀ u,opV Pg (Instr.alloc 123 true u) QP w k=k (.pointer (some ⟨w.heap.size,0,none⟩)) (w.alloc (.cells ((.agg #[.string Qy,.int .i64 0,.int .i64 0,.bool false,.bool false,.int .i64 0,.int .i64 0,.int .i64 0,.slice none 0 0,.string Qy,.string Qy,.string Qy,.slice none 0 0,.int .i64 0,.int .i64 0]):Value).cells 123))):=(op_alloc ty123)
def o118:=op_field0 (QP:=QP) (w:=w) (k:=k) (i:=0) (ft:=9) (n:=1) Tryz.underlying128 rfl ty9 rfl
def o119:=op_fieldO (QP:=QP) (w:=w) (k:=k) (i:=1) (ft:=3) (off:=1) (n:=1) Tryz.underlying128 rfl ty3 rfl
theorem o120:(∀ b o,opV Pg (Instr.loadAt 128 (.pointer (some ⟨b,o,none⟩))) QP w k=onCells [w.cell? ⟨b,o,none⟩,w.cell? ⟨b,o+1,none⟩] (fun vs=>k (.agg vs.toArray) w) (opVx Pg (Instr.loadAt 128 (.pointer (some ⟨b,o,none⟩))) QP w k)):=(by intro b o;exact op_loadA ty128 b o _ rfl)
theorem o121:(∀ u,opV Pg (Instr.alloc 128 true u) QP w k=k (.pointer (some ⟨w.heap.size,0,none⟩)) (w.alloc (.cells ((.agg #[.string Qy,.int .i64 0]):Value).cells 128))):=(op_alloc ty128)
theorem o122:(∀ b o,opV Pg (Instr.loadAt 131 (.pointer (some ⟨b,o,none⟩))) QP w k=onCells [w.cell? ⟨b,o,none⟩,w.cell? ⟨b,o+1,none⟩,w.cell? ⟨b,o+2,none⟩] (fun vs=>k (.agg vs.toArray) w) (opVx Pg (Instr.loadAt 131 (.pointer (some ⟨b,o,none⟩))) QP w k)):=(by intro b o;exact op_loadA ty131 b o _ rfl)
theorem o123:(∀ u,opV Pg (Instr.alloc 131 true u) QP w k=k (.pointer (some ⟨w.heap.size,0,none⟩)) (w.alloc (.cells ((.agg #[.int .i64 0,.int .i64 0,.int .i64 0]):Value).cells 131))):=(op_alloc ty131)
theorem o127:(∀ u,opV Pg (Instr.alloc 159 true u) QP w k=k (.pointer (some ⟨w.heap.size,0,none⟩)) (w.alloc (.cells ((.agg #[.pointer none,.slice none 0 0]):Value).cells 159))):=(op_alloc ty159)
def o129:=op_loadC (QP:=QP) (w:=w) (k:=k) ty167
theorem o130:(∀ r a n c,opV Pg (Builtin.len_ #[170] r #[.slice a n c]) QP w k=k (.int .i64 (n:Int)) w):=(fun r=>op_len_slice (r:=r) Tryz.underlying170)
theorem o131:(∀ b o len cap ik (i:Nat),i < len→opV Pg (Instr.indexAt 170 (.slice (some ⟨b,o,none⟩) len cap) (.int ik (i:Int))) QP w k=k (.pointer (some ⟨b,o+i*1,none⟩)) w):=(op_indexN Tryz.underlying170 ty4)
def o133:=op_loadC (QP:=QP) (w:=w) (k:=k) ty198
def o134:=op_loadC (QP:=QP) (w:=w) (k:=k) ty199
theorem o135:(∀ u,opV Pg (Instr.alloc 199 true u) QP w k=k (.pointer (some ⟨w.heap.size,0,none⟩)) (w.alloc (.cells ((.map none):Value).cells 199))):=(op_alloc ty199)
def o136:=op_fieldO (QP:=QP) (w:=w) (k:=k) (i:=1) (ft:=198) (off:=3) (n:=1) Tryz.underlying201 rfl ty198 rfl
def o137:=op_fieldO (QP:=QP) (w:=w) (k:=k) (i:=2) (ft:=199) (off:=4) (n:=1) Tryz.underlying201 rfl ty199 rfl
def o138:=op_fieldO (QP:=QP) (w:=w) (k:=k) (i:=3) (ft:=3) (off:=5) (n:=1) Tryz.underlying201 rfl ty3 rfl
def o139:=op_fieldO (QP:=QP) (w:=w) (k:=k) (i:=4) (ft:=3) (off:=6) (n:=1) Tryz.underlying201 rfl ty3 rfl
def o140:=op_fieldO (QP:=QP) (w:=w) (k:=k) (i:=5) (ft:=74) (off:=7) (n:=2) Tryz.underlying201 rfl ty74 rfl
def o141:=op_field0 (QP:=QP) (w:=w) (k:=k) (i:=0) (ft:=3) (n:=1) Tryz.underlying213 rfl ty3 rfl
def o142:=op_fieldO (QP:=QP) (w:=w) (k:=k) (i:=1) (ft:=3) (off:=1) (n:=1) Tryz.underlying213 rfl ty3 rfl
def o143:=op_fieldO (QP:=QP) (w:=w) (k:=k) (i:=2) (ft:=9) (off:=2) (n:=1) Tryz.underlying213 rfl ty9 rfl
theorem o144:(∀ b o,opV Pg (Instr.loadAt 213 (.pointer (some ⟨b,o,none⟩))) QP w k=onCells [w.cell? ⟨b,o,none⟩,w.cell? ⟨b,o+1,none⟩,w.cell? ⟨b,o+2,none⟩] (fun vs=>k (.agg vs.toArray) w) (opVx Pg (Instr.loadAt 213 (.pointer (some ⟨b,o,none⟩))) QP w k)):=(by intro b o;exact op_loadA ty213 b o _ rfl)
theorem o145:(∀ u,opV Pg (Instr.alloc 213 true u) QP w k=k (.pointer (some ⟨w.heap.size,0,none⟩)) (w.alloc (.cells ((.agg #[.int .i64 0,.int .i64 0,.string Qy]):Value).cells 213))):=(op_alloc ty213)
def o147:=op_loadC (QP:=QP) (w:=w) (k:=k) ty252
def o148:=op_loadC (QP:=QP) (w:=w) (k:=k) ty253
def o149:=op_field0 (QP:=QP) (w:=w) (k:=k) (i:=0) (ft:=252) (n:=1) Tryz.underlying255 rfl ty252 rfl
def o150:=op_fieldO (QP:=QP) (w:=w) (k:=k) (i:=1) (ft:=253) (off:=1) (n:=1) Tryz.underlying255 rfl ty253 rfl
theorem o151:(∀ u,opV Pg (Instr.alloc 255 true u) QP w k=k (.pointer (some ⟨w.heap.size,0,none⟩)) (w.alloc (.cells ((.agg #[.nilFunc,.nilFunc]):Value).cells 255))):=(op_alloc ty255)
theorem o152:(∀ r a n c,opV Pg (Builtin.len_ #[264] r #[.slice a n c]) QP w k=k (.int .i64 (n:Int)) w):=(fun r=>op_len_slice (r:=r) Tryz.underlying264)
theorem o153:(∀ b o len cap ik (i:Nat),i < len→opV Pg (Instr.indexAt 264 (.slice (some ⟨b,o,none⟩) len cap) (.int ik (i:Int))) QP w k=k (.pointer (some ⟨b,o+i*3,none⟩)) w):=(op_indexN Tryz.underlying264 ty266)
def o154:=op_field0 (QP:=QP) (w:=w) (k:=k) (i:=0) (ft:=9) (n:=1) Tryz.underlying266 rfl ty9 rfl
def o155:=op_fieldO (QP:=QP) (w:=w) (k:=k) (i:=1) (ft:=3) (off:=1) (n:=1) Tryz.underlying266 rfl ty3 rfl
def o156:=op_fieldO (QP:=QP) (w:=w) (k:=k) (i:=2) (ft:=3) (off:=2) (n:=1) Tryz.underlying266 rfl ty3 rfl
theorem o157:(∀ b o,opV Pg (Instr.loadAt 266 (.pointer (some ⟨b,o,none⟩))) QP w k=onCells [w.cell? ⟨b,o,none⟩,w.cell? ⟨b,o+1,none⟩,w.cell? ⟨b,o+2,none⟩] (fun vs=>k (.agg vs.toArray) w) (opVx Pg (Instr.loadAt 266 (.pointer (some ⟨b,o,none⟩))) QP w k)):=(by intro b o;exact op_loadA ty266 b o _ rfl)
theorem o158:(∀ u,opV Pg (Instr.alloc 266 true u) QP w k=k (.pointer (some ⟨w.heap.size,0,none⟩)) (w.alloc (.cells ((.agg #[.string Qy,.int .i64 0,.int .i64 0]):Value).cells 266))):=(op_alloc ty266)
theorem o163:(∀ u,opV Pg (Instr.alloc 287 true u) QP w k=k (.pointer (some ⟨w.heap.size,0,none⟩)) (w.alloc (.cells ((.agg #[.string Qy,.string Qy,.string Qy,.string Qy,.int .i64 0,.int .i64 0,.int .i64 0,.int .i64 0,.int .i64 0,.int .i64 0,.int .i64 0,.bool false,.bool false]):Value).cells 287))):=(op_alloc ty287)
def o164:=op_loadC (QP:=QP) (w:=w) (k:=k) ty296
theorem o165:(∀ u,opV Pg (Instr.alloc 296 true u) QP w k=k (.pointer (some ⟨w.heap.size,0,none⟩)) (w.alloc (.cells ((.map none):Value).cells 296))):=(op_alloc ty296)
def o166:=op_field0 (QP:=QP) (w:=w) (k:=k) (i:=0) (ft:=3) (n:=1) Tryz.underlying300 rfl ty3 rfl
def o167:=op_fieldO (QP:=QP) (w:=w) (k:=k) (i:=1) (ft:=3) (off:=1) (n:=1) Tryz.underlying300 rfl ty3 rfl
theorem o168:(∀ v0 v1,opV Pg (Instr.field 300 (.agg #[v0,v1]) 1) QP w k=k v1 w):=(by intro v0 v1;exact op_fieldV1 Tryz.underlying300 rfl ty3 rfl)
theorem o169:(∀ b o,opV Pg (Instr.loadAt 300 (.pointer (some ⟨b,o,none⟩))) QP w k=onCells [w.cell? ⟨b,o,none⟩,w.cell? ⟨b,o+1,none⟩] (fun vs=>k (.agg vs.toArray) w) (opVx Pg (Instr.loadAt 300 (.pointer (some ⟨b,o,none⟩))) QP w k)):=(by intro b o;exact op_loadA ty300 b o _ rfl)
theorem o170:(∀ u,opV Pg (Instr.alloc 300 true u) QP w k=k (.pointer (some ⟨w.heap.size,0,none⟩)) (w.alloc (.cells ((.agg #[.int .i64 0,.int .i64 0]):Value).cells 300))):=(op_alloc ty300)
def o171:=op_loadC (QP:=QP) (w:=w) (k:=k) ty311
theorem o172:(opV Pg (Instr.build 24 #[]) QP w k=k (.agg #[.string Qy,.slice none 0 0]) w):=(by exact op_build (places := #[(0,1),(1,1)]) Tryz.underlying24 ty24 (by intro w;simp [List.mapM_cons,Sem.run_bind,Sw.run_sizeOf ty22,Sw.run_sizeOf ty9]) (by simp [Instr.fill,cells_agg]))
theorem o173:(∀ v0:Value,v0.oneCell'=true→opV Pg (Instr.build 24 #[(0,v0)]) QP w k=k (.agg #[v0,.slice none 0 0]) w):=(by intro v0 hv0;exact op_build (places := #[(0,1),(1,1)]) Tryz.underlying24 ty24 (by intro w;simp [List.mapM_cons,Sem.run_bind,Sw.run_sizeOf ty22,Sw.run_sizeOf ty9]) (by simp [Instr.fill,cells_agg,cells_one hv0]))
theorem o174:(∀ v0 v1:Value,v0.oneCell'=true→v1.oneCell'=true→opV Pg (Instr.build 24 #[(0,v0),(1,v1)]) QP w k=k (.agg #[v0,v1]) w):=(by intro v0 v1 hv0 hv1;exact op_build (places := #[(0,1),(1,1)]) Tryz.underlying24 ty24 (by intro w;simp [List.mapM_cons,Sem.run_bind,Sw.run_sizeOf ty22,Sw.run_sizeOf ty9]) (by simp [Instr.fill,cells_agg,cells_one hv0,cells_one hv1]))
theorem o175:(∀ v0 v1 v2:Value,v0.oneCell'=true→v1.oneCell'=true→v2.oneCell'=true→opV Pg (Instr.build 27 #[(0,v0),(1,v1),(2,v2)]) QP w k=k (.agg #[v0,v1,v2]) w):=(by intro v0 v1 v2 hv0 hv1 hv2;exact op_build (places := #[(0,1),(1,1),(2,1)]) Tryz.underlying27 ty27 (by intro w;simp [List.mapM_cons,Sem.run_bind,Sw.run_sizeOf ty25,Sw.run_sizeOf ty9]) (by simp [Instr.fill,cells_agg,cells_one hv0,cells_one hv1,cells_one hv2]))
theorem o176:(opV Pg (Instr.build 34 #[]) QP w k=k (.agg #[.int .i64 0,.int .i64 0,.int .i64 0]) w):=(by exact op_build (places := #[(0,1),(1,1),(2,1)]) Tryz.underlying34 ty34 (by intro w;simp [List.mapM_cons,Sem.run_bind,Sw.run_sizeOf ty3,Sw.run_sizeOf ty32]) (by simp [Instr.fill,cells_agg]))
theorem o177:(∀ v0 v1 v2:Value,v0.oneCell'=true→v1.oneCell'=true→v2.oneCell'=true→opV Pg (Instr.build 34 #[(0,v0),(1,v1),(2,v2)]) QP w k=k (.agg #[v0,v1,v2]) w):=(by intro v0 v1 v2 hv0 hv1 hv2;exact op_build (places := #[(0,1),(1,1),(2,1)]) Tryz.underlying34 ty34 (by intro w;simp [List.mapM_cons,Sem.run_bind,Sw.run_sizeOf ty3,Sw.run_sizeOf ty32]) (by simp [Instr.fill,cells_agg,cells_one hv0,cells_one hv1,cells_one hv2]))
theorem o178:(∀ v2:Value,v2.oneCell'=true→opV Pg (Instr.build 34 #[(2,v2)]) QP w k=k (.agg #[.int .i64 0,.int .i64 0,v2]) w):=(by intro v2 hv2;exact op_build (places := #[(0,1),(1,1),(2,1)]) Tryz.underlying34 ty34 (by intro w;simp [List.mapM_cons,Sem.run_bind,Sw.run_sizeOf ty3,Sw.run_sizeOf ty32]) (by simp [Instr.fill,cells_agg,cells_one hv2]))
theorem o179:(opV Pg (Instr.build 43 #[]) QP w k=k (.agg #[.string Qy,.int .i64 0,.string Qy,.int .i64 0,.int .i64 0,.slice none 0 0,.slice none 0 0]) w):=(by exact op_build (places := #[(0,1),(1,1),(2,1),(3,1),(4,1),(5,1),(6,1)]) Tryz.underlying43 ty43 (by intro w;simp [List.mapM_cons,Sem.run_bind,Sw.run_sizeOf ty3,Sw.run_sizeOf ty39,Sw.run_sizeOf ty40,Sw.run_sizeOf ty41,Sw.run_sizeOf ty9]) (by simp [Instr.fill,cells_agg]))
theorem o181:(∀ v0 v1:Value,v0.oneCell'=true→v1.oneCell'=true→opV Pg (Instr.build 43 #[(0,v0),(1,v1)]) QP w k=k (.agg #[v0,v1,.string Qy,.int .i64 0,.int .i64 0,.slice none 0 0,.slice none 0 0]) w):=(by intro v0 v1 hv0 hv1;exact op_build (places := #[(0,1),(1,1),(2,1),(3,1),(4,1),(5,1),(6,1)]) Tryz.underlying43 ty43 (by intro w;simp [List.mapM_cons,Sem.run_bind,Sw.run_sizeOf ty3,Sw.run_sizeOf ty39,Sw.run_sizeOf ty40,Sw.run_sizeOf ty41,Sw.run_sizeOf ty9]) (by simp [Instr.fill,cells_agg,cells_one hv0,cells_one hv1]))
theorem o182:(∀ v0 v1 v2:Value,v0.oneCell'=true→v1.oneCell'=true→v2.oneCell'=true→opV Pg (Instr.build 43 #[(0,v0),(1,v1),(2,v2)]) QP w k=k (.agg #[v0,v1,v2,.int .i64 0,.int .i64 0,.slice none 0 0,.slice none 0 0]) w):=(by intro v0 v1 v2 hv0 hv1 hv2;exact op_build (places := #[(0,1),(1,1),(2,1),(3,1),(4,1),(5,1),(6,1)]) Tryz.underlying43 ty43 (by intro w;simp [List.mapM_cons,Sem.run_bind,Sw.run_sizeOf ty3,Sw.run_sizeOf ty39,Sw.run_sizeOf ty40,Sw.run_sizeOf ty41,Sw.run_sizeOf ty9]) (by simp [Instr.fill,cells_agg,cells_one hv0,cells_one hv1,cells_one hv2]))
theorem o183:(∀ v1 v3:Value,v1.oneCell'=true→v3.oneCell'=true→opV Pg (Instr.build 43 #[(1,v1),(3,v3)]) QP w k=k (.agg #[.string Qy,v1,.string Qy,v3,.int .i64 0,.slice none 0 0,.slice none 0 0]) w):=(by intro v1 v3 hv1 hv3;exact op_build (places := #[(0,1),(1,1),(2,1),(3,1),(4,1),(5,1),(6,1)]) Tryz.underlying43 ty43 (by intro w;simp [List.mapM_cons,Sem.run_bind,Sw.run_sizeOf ty3,Sw.run_sizeOf ty39,Sw.run_sizeOf ty40,Sw.run_sizeOf ty41,Sw.run_sizeOf ty9]) (by simp [Instr.fill,cells_agg,cells_one hv1,cells_one hv3]))
theorem o184:(∀ v1 v6:Value,v1.oneCell'=true→v6.oneCell'=true→opV Pg (Instr.build 43 #[(1,v1),(6,v6)]) QP w k=k (.agg #[.string Qy,v1,.string Qy,.int .i64 0,.int .i64 0,.slice none 0 0,v6]) w):=(by intro v1 v6 hv1 hv6;exact op_build (places := #[(0,1),(1,1),(2,1),(3,1),(4,1),(5,1),(6,1)]) Tryz.underlying43 ty43 (by intro w;simp [List.mapM_cons,Sem.run_bind,Sw.run_sizeOf ty3,Sw.run_sizeOf ty39,Sw.run_sizeOf ty40,Sw.run_sizeOf ty41,Sw.run_sizeOf ty9]) (by simp [Instr.fill,cells_agg,cells_one hv1,cells_one hv6]))
theorem o185:(∀ v0 v1:Value,v0.oneCell'=true→v1.oneCell'=true→opV Pg (Instr.build 60 #[(0,v0),(1,v1)]) QP w k=k (.agg #[v0,v1,.slice none 0 0]) w):=(by intro v0 v1 hv0 hv1;exact op_build (places := #[(0,1),(1,1),(2,1)]) Tryz.underlying60 ty60 (by intro w;simp [List.mapM_cons,Sem.run_bind,Sw.run_sizeOf ty58,Sw.run_sizeOf ty9]) (by simp [Instr.fill,cells_agg,cells_one hv0,cells_one hv1]))
theorem o186:(∀ v0 v1 v2:Value,v0.oneCell'=true→v1.oneCell'=true→v2.oneCell'=true→opV Pg (Instr.build 60 #[(0,v0),(1,v1),(2,v2)]) QP w k=k (.agg #[v0,v1,v2]) w):=(by intro v0 v1 v2 hv0 hv1 hv2;exact op_build (places := #[(0,1),(1,1),(2,1)]) Tryz.underlying60 ty60 (by intro w;simp [List.mapM_cons,Sem.run_bind,Sw.run_sizeOf ty58,Sw.run_sizeOf ty9]) (by simp [Instr.fill,cells_agg,cells_one hv0,cells_one hv1,cells_one hv2]))
theorem o187:(opV Pg (Instr.build 74 #[]) QP w k=k (.agg #[.string Qy,.slice none 0 0]) w):=(by exact op_build (places := #[(0,1),(1,1)]) Tryz.underlying74 ty74 (by intro w;simp [List.mapM_cons,Sem.run_bind,Sw.run_sizeOf ty72,Sw.run_sizeOf ty9]) (by simp [Instr.fill,cells_agg]))
theorem o188:(∀ v0 v1:Value,v0.oneCell'=true→v1.oneCell'=true→opV Pg (Instr.build 74 #[(0,v0),(1,v1)]) QP w k=k (.agg #[v0,v1]) w):=(by intro v0 v1 hv0 hv1;exact op_build (places := #[(0,1),(1,1)]) Tryz.underlying74 ty74 (by intro w;simp [List.mapM_cons,Sem.run_bind,Sw.run_sizeOf ty72,Sw.run_sizeOf ty9]) (by simp [Instr.fill,cells_agg,cells_one hv0,cells_one hv1]))
theorem o189:(∀ v1:Value,v1.oneCell'=true→opV Pg (Instr.build 74 #[(1,v1)]) QP w k=k (.agg #[.string Qy,v1]) w):=(by intro v1 hv1;exact op_build (places := #[(0,1),(1,1)]) Tryz.underlying74 ty74 (by intro w;simp [List.mapM_cons,Sem.run_bind,Sw.run_sizeOf ty72,Sw.run_sizeOf ty9]) (by simp [Instr.fill,cells_agg,cells_one hv1]))
theorem o190:(∀ v0 v1 v2:Value,v0.oneCell'=true→v1.oneCell'=true→v2.oneCell'=true→opV Pg (Instr.build 78 #[(0,v0),(1,v1),(2,v2)]) QP w k=k (.agg #[v0,v1,v2]) w):=(by intro v0 v1 v2 hv0 hv1 hv2;exact op_build (places := #[(0,1),(1,1),(2,1)]) Tryz.underlying78 ty78 (by intro w;simp [List.mapM_cons,Sem.run_bind,Sw.run_sizeOf ty3]) (by simp [Instr.fill,cells_agg,cells_one hv0,cells_one hv1,cells_one hv2]))
theorem o191:(∀ v0_0 v0_1 v1_0 v1_1 v1_2 v2_0 v2_1 v2_2 v3 v4:Value,v3.oneCell'=true→v4.oneCell'=true→opV Pg (Instr.build 81 #[(0,(.agg #[v0_0,v0_1])),(1,(.agg #[v1_0,v1_1,v1_2])),(2,(.agg #[v2_0,v2_1,v2_2])),(3,v3),(4,v4)]) QP w k=k (.agg #[v0_0,v0_1,v1_0,v1_1,v1_2,v2_0,v2_1,v2_2,v3,v4]) w):=(by intro v0_0 v0_1 v1_0 v1_1 v1_2 v2_0 v2_1 v2_2 v3 v4 hv3 hv4;exact op_build (places := #[(0,2),(2,3),(5,3),(8,1),(9,1)]) Tryz.underlying81 ty81 (by intro w;simp [List.mapM_cons,Sem.run_bind,Sw.run_sizeOf ty24,Sw.run_sizeOf ty27,Sw.run_sizeOf ty3]) (by simp [Instr.fill,cells_agg,cells_one hv3,cells_one hv4]))
theorem o192:(∀ v0 v1 v2:Value,v0.oneCell'=true→v1.oneCell'=true→v2.oneCell'=true→opV Pg (Instr.build 82 #[(0,v0),(1,v1),(2,v2)]) QP w k=k (.agg #[v0,v1,v2]) w):=(by intro v0 v1 v2 hv0 hv1 hv2;exact op_build (places := #[(0,1),(1,1),(2,1)]) Tryz.underlying82 ty82 (by intro w;simp [List.mapM_cons,Sem.run_bind,Sw.run_sizeOf ty3,Sw.run_sizeOf ty32]) (by simp [Instr.fill,cells_agg,cells_one hv0,cells_one hv1,cells_one hv2]))
theorem o193:(opV Pg (Instr.build 105 #[]) QP w k=k (.agg #[.bool false,.bool false,.bool false,.bool false,.bool false]) w):=(by exact op_build (places := #[(0,1),(1,1),(2,1),(3,1),(4,1)]) Tryz.underlying105 ty105 (by intro w;simp [List.mapM_cons,Sem.run_bind,Sw.run_sizeOf ty4]) (by simp [Instr.fill,cells_agg]))
theorem o194:(∀ v0:Value,v0.oneCell'=true→opV Pg (Instr.build 105 #[(0,v0)]) QP w k=k (.agg #[v0,.bool false,.bool false,.bool false,.bool false]) w):=(by intro v0 hv0;exact op_build (places := #[(0,1),(1,1),(2,1),(3,1),(4,1)]) Tryz.underlying105 ty105 (by intro w;simp [List.mapM_cons,Sem.run_bind,Sw.run_sizeOf ty4]) (by simp [Instr.fill,cells_agg,cells_one hv0]))
theorem o195:(∀ v0 v1:Value,v0.oneCell'=true→v1.oneCell'=true→opV Pg (Instr.build 105 #[(0,v0),(1,v1)]) QP w k=k (.agg #[v0,v1,.bool false,.bool false,.bool false]) w):=(by intro v0 v1 hv0 hv1;exact op_build (places := #[(0,1),(1,1),(2,1),(3,1),(4,1)]) Tryz.underlying105 ty105 (by intro w;simp [List.mapM_cons,Sem.run_bind,Sw.run_sizeOf ty4]) (by simp [Instr.fill,cells_agg,cells_one hv0,cells_one hv1]))
theorem o196:(∀ v0 v4:Value,v0.oneCell'=true→v4.oneCell'=true→opV Pg (Instr.build 105 #[(0,v0),(4,v4)]) QP w k=k (.agg #[v0,.bool false,.bool false,.bool false,v4]) w):=(by intro v0 v4 hv0 hv4;exact op_build (places := #[(0,1),(1,1),(2,1),(3,1),(4,1)]) Tryz.underlying105 ty105 (by intro w;simp [List.mapM_cons,Sem.run_bind,Sw.run_sizeOf ty4]) (by simp [Instr.fill,cells_agg,cells_one hv0,cells_one hv4]))
theorem o197:(∀ v2:Value,v2.oneCell'=true→opV Pg (Instr.build 105 #[(2,v2)]) QP w k=k (.agg #[.bool false,.bool false,v2,.bool false,.bool false]) w):=(by intro v2 hv2;exact op_build (places := #[(0,1),(1,1),(2,1),(3,1),(4,1)]) Tryz.underlying105 ty105 (by intro w;simp [List.mapM_cons,Sem.run_bind,Sw.run_sizeOf ty4]) (by simp [Instr.fill,cells_agg,cells_one hv2]))
theorem o198:(∀ v3:Value,v3.oneCell'=true→opV Pg (Instr.build 105 #[(3,v3)]) QP w k=k (.agg #[.bool false,.bool false,.bool false,v3,.bool false]) w):=(by intro v3 hv3;exact op_build (places := #[(0,1),(1,1),(2,1),(3,1),(4,1)]) Tryz.underlying105 ty105 (by intro w;simp [List.mapM_cons,Sem.run_bind,Sw.run_sizeOf ty4]) (by simp [Instr.fill,cells_agg,cells_one hv3]))
theorem o199:(opV Pg (Instr.build 120 #[]) QP w k=k (.agg #[.int .i64 0,.slice none 0 0]) w):=(by exact op_build (places := #[(0,1),(1,1)]) Tryz.underlying120 ty120 (by intro w;simp [List.mapM_cons,Sem.run_bind,Sw.run_sizeOf ty118,Sw.run_sizeOf ty3]) (by simp [Instr.fill,cells_agg]))
theorem o200:(∀ v1:Value,v1.oneCell'=true→opV Pg (Instr.build 120 #[(1,v1)]) QP w k=k (.agg #[.int .i64 0,v1]) w):=(by intro v1 hv1;exact op_build (places := #[(0,1),(1,1)]) Tryz.underlying120 ty120 (by intro w;simp [List.mapM_cons,Sem.run_bind,Sw.run_sizeOf ty118,Sw.run_sizeOf ty3]) (by simp [Instr.fill,cells_agg,cells_one hv1]))
theorem o201:(opV Pg (Instr.build 123 #[]) QP w k=k (.agg #[.string Qy,.int .i64 0,.int .i64 0,.bool false,.bool false,.int .i64 0,.int .i64 0,.int .i64 0,.slice none 0 0,.string Qy,.string Qy,.string Qy,.slice none 0 0,.int .i64 0,.int .i64 0]) w):=(by exact op_build (places := #[(0,1),(1,1),(2,1),(3,1),(4,1),(5,1),(6,1),(7,2),(9,1),(10,1),(11,1),(12,1),(13,1),(14,1)]) Tryz.underlying123 ty123 (by intro w;simp [List.mapM_cons,Sem.run_bind,Sw.run_sizeOf ty117,Sw.run_sizeOf ty120,Sw.run_sizeOf ty121,Sw.run_sizeOf ty3,Sw.run_sizeOf ty4,Sw.run_sizeOf ty9]) (by simp [Instr.fill,cells_agg]))
theorem o202:(∀ v0 v1:Value,v0.oneCell'=true→v1.oneCell'=true→opV Pg (Instr.build 123 #[(0,v0),(1,v1)]) QP w k=k (.agg #[v0,v1,.int .i64 0,.bool false,.bool false,.int .i64 0,.int .i64 0,.int .i64 0,.slice none 0 0,.string Qy,.string Qy,.string Qy,.slice none 0 0,.int .i64 0,.int .i64 0]) w):=(by intro v0 v1 hv0 hv1;exact op_build (places := #[(0,1),(1,1),(2,1),(3,1),(4,1),(5,1),(6,1),(7,2),(9,1),(10,1),(11,1),(12,1),(13,1),(14,1)]) Tryz.underlying123 ty123 (by intro w;simp [List.mapM_cons,Sem.run_bind,Sw.run_sizeOf ty117,Sw.run_sizeOf ty120,Sw.run_sizeOf ty121,Sw.run_sizeOf ty3,Sw.run_sizeOf ty4,Sw.run_sizeOf ty9]) (by simp [Instr.fill,cells_agg,cells_one hv0,cells_one hv1]))
theorem o203:(∀ v0 v1 v2 v6:Value,v0.oneCell'=true→v1.oneCell'=true→v2.oneCell'=true→v6.oneCell'=true→opV Pg (Instr.build 123 #[(0,v0),(1,v1),(2,v2),(6,v6)]) QP w k=k (.agg #[v0,v1,v2,.bool false,.bool false,.int .i64 0,v6,.int .i64 0,.slice none 0 0,.string Qy,.string Qy,.string Qy,.slice none 0 0,.int .i64 0,.int .i64 0]) w):=(by intro v0 v1 v2 v6 hv0 hv1 hv2 hv6;exact op_build (places := #[(0,1),(1,1),(2,1),(3,1),(4,1),(5,1),(6,1),(7,2),(9,1),(10,1),(11,1),(12,1),(13,1),(14,1)]) Tryz.underlying123 ty123 (by intro w;simp [List.mapM_cons,Sem.run_bind,Sw.run_sizeOf ty117,Sw.run_sizeOf ty120,Sw.run_sizeOf ty121,Sw.run_sizeOf ty3,Sw.run_sizeOf ty4,Sw.run_sizeOf ty9]) (by simp [Instr.fill,cells_agg,cells_one hv0,cells_one hv1,cells_one hv2,cells_one hv6]))
theorem o204:(∀ v0 v1 v7_0 v7_1:Value,v0.oneCell'=true→v1.oneCell'=true→opV Pg (Instr.build 123 #[(0,v0),(1,v1),(7,(.agg #[v7_0,v7_1]))]) QP w k=k (.agg #[v0,v1,.int .i64 0,.bool false,.bool false,.int .i64 0,.int .i64 0,v7_0,v7_1,.string Qy,.string Qy,.string Qy,.slice none 0 0,.int .i64 0,.int .i64 0]) w):=(by intro v0 v1 v7_0 v7_1 hv0 hv1;exact op_build (places := #[(0,1),(1,1),(2,1),(3,1),(4,1),(5,1),(6,1),(7,2),(9,1),(10,1),(11,1),(12,1),(13,1),(14,1)]) Tryz.underlying123 ty123 (by intro w;simp [List.mapM_cons,Sem.run_bind,Sw.run_sizeOf ty117,Sw.run_sizeOf ty120,Sw.run_sizeOf ty121,Sw.run_sizeOf ty3,Sw.run_sizeOf ty4,Sw.run_sizeOf ty9]) (by simp [Instr.fill,cells_agg,cells_one hv0,cells_one hv1]))
theorem o205:(∀ v0 v1:Value,v0.oneCell'=true→v1.oneCell'=true→opV Pg (Instr.build 128 #[(0,v0),(1,v1)]) QP w k=k (.agg #[v0,v1]) w):=(by intro v0 v1 hv0 hv1;exact op_build (places := #[(0,1),(1,1)]) Tryz.underlying128 ty128 (by intro w;simp [List.mapM_cons,Sem.run_bind,Sw.run_sizeOf ty3,Sw.run_sizeOf ty9]) (by simp [Instr.fill,cells_agg,cells_one hv0,cells_one hv1]))
theorem o206:(opV Pg (Instr.build 131 #[]) QP w k=k (.agg #[.int .i64 0,.int .i64 0,.int .i64 0]) w):=(by exact op_build (places := #[(0,1),(1,1),(2,1)]) Tryz.underlying131 ty131 (by intro w;simp [List.mapM_cons,Sem.run_bind,Sw.run_sizeOf ty129,Sw.run_sizeOf ty3]) (by simp [Instr.fill,cells_agg]))
theorem o207:(∀ v0 v1 v2:Value,v0.oneCell'=true→v1.oneCell'=true→v2.oneCell'=true→opV Pg (Instr.build 131 #[(0,v0),(1,v1),(2,v2)]) QP w k=k (.agg #[v0,v1,v2]) w):=(by intro v0 v1 v2 hv0 hv1 hv2;exact op_build (places := #[(0,1),(1,1),(2,1)]) Tryz.underlying131 ty131 (by intro w;simp [List.mapM_cons,Sem.run_bind,Sw.run_sizeOf ty129,Sw.run_sizeOf ty3]) (by simp [Instr.fill,cells_agg,cells_one hv0,cells_one hv1,cells_one hv2]))
theorem o208:(∀ v0_0 v0_1 v0_2 v1 v2 v3 v4:Value,v1.oneCell'=true→v2.oneCell'=true→v3.oneCell'=true→v4.oneCell'=true→opV Pg (Instr.build 201 #[(0,(.agg #[v0_0,v0_1,v0_2])),(1,v1),(2,v2),(3,v3),(4,v4)]) QP w k=k (.agg #[v0_0,v0_1,v0_2,v1,v2,v3,v4,.string Qy,.slice none 0 0]) w):=(by intro v0_0 v0_1 v0_2 v1 v2 v3 v4 hv1 hv2 hv3 hv4;exact op_build (places := #[(0,3),(3,1),(4,1),(5,1),(6,1),(7,2)]) Tryz.underlying201 ty201 (by intro w;simp [List.mapM_cons,Sem.run_bind,Sw.run_sizeOf ty198,Sw.run_sizeOf ty199,Sw.run_sizeOf ty27,Sw.run_sizeOf ty3,Sw.run_sizeOf ty74]) (by simp [Instr.fill,cells_agg,cells_one hv1,cells_one hv2,cells_one hv3,cells_one hv4]))
theorem o209:(∀ v0 v1:Value,v0.oneCell'=true→v1.oneCell'=true→opV Pg (Instr.build 255 #[(0,v0),(1,v1)]) QP w k=k (.agg #[v0,v1]) w):=(by intro v0 v1 hv0 hv1;exact op_build (places := #[(0,1),(1,1)]) Tryz.underlying255 ty255 (by intro w;simp [List.mapM_cons,Sem.run_bind,Sw.run_sizeOf ty252,Sw.run_sizeOf ty253]) (by simp [Instr.fill,cells_agg,cells_one hv0,cells_one hv1]))
theorem o213:(∀ v0 v1 v2 v3 v4 v5 v6 v7 v8 v9 v10 v11 v12:Value,v0.oneCell'=true→v1.oneCell'=true→v2.oneCell'=true→v3.oneCell'=true→v4.oneCell'=true→v5.oneCell'=true→v6.oneCell'=true→v7.oneCell'=true→v8.oneCell'=true→v9.oneCell'=true→v10.oneCell'=true→v11.oneCell'=true→v12.oneCell'=true→opV Pg (Instr.build 287 #[(0,v0),(1,v1),(2,v2),(3,v3),(4,v4),(5,v5),(6,v6),(7,v7),(8,v8),(9,v9),(10,v10),(11,v11),(12,v12)]) QP w k=k (.agg #[v0,v1,v2,v3,v4,v5,v6,v7,v8,v9,v10,v11,v12]) w):=(by intro v0 v1 v2 v3 v4 v5 v6 v7 v8 v9 v10 v11 v12 hv0 hv1 hv2 hv3 hv4 hv5 hv6 hv7 hv8 hv9 hv10 hv11 hv12;exact op_build (places := #[(0,1),(1,1),(2,1),(3,1),(4,1),(5,1),(6,1),(7,1),(8,1),(9,1),(10,1),(11,1),(12,1)]) Tryz.underlying287 ty287 (by intro w;simp [List.mapM_cons,Sem.run_bind,Sw.run_sizeOf ty117,Sw.run_sizeOf ty3,Sw.run_sizeOf ty4,Sw.run_sizeOf ty9]) (by simp [Instr.fill,cells_agg,cells_one hv0,cells_one hv1,cells_one hv2,cells_one hv3,cells_one hv4,cells_one hv5,cells_one hv6,cells_one hv7,cells_one hv8,cells_one hv9,cells_one hv10,cells_one hv11,cells_one hv12]))
theorem o215:(opV Pg (Instr.build 300 #[]) QP w k=k (.agg #[.int .i64 0,.int .i64 0]) w):=(by exact op_build (places := #[(0,1),(1,1)]) Tryz.underlying300 ty300 (by intro w;simp [List.mapM_cons,Sem.run_bind,Sw.run_sizeOf ty3]) (by simp [Instr.fill,cells_agg]))
theorem o216:(∀ v0 v1:Value,v0.oneCell'=true→v1.oneCell'=true→opV Pg (Instr.build 300 #[(0,v0),(1,v1)]) QP w k=k (.agg #[v0,v1]) w):=(by intro v0 v1 hv0 hv1;exact op_build (places := #[(0,1),(1,1)]) Tryz.underlying300 ty300 (by intro w;simp [List.mapM_cons,Sem.run_bind,Sw.run_sizeOf ty3]) (by simp [Instr.fill,cells_agg,cells_one hv0,cells_one hv1]))
theorem o217:(∀ v0_0 v0_1 v0_2:Value,opV Pg (Instr.buildSlice 22 1 #[(0,(.agg #[v0_0,v0_1,v0_2]))]) QP w k=k (.slice (some ⟨w.heap.size,0,none⟩) 1 1) (w.alloc (.cells #[v0_0,v0_1,v0_2] 60))):=(by intro v0_0 v0_1 v0_2;exact op_buildSlice Tryz.underlying22 ty60 Qj (base := #[.string Qy,.string Qy,.slice none 0 0]) Qq (by simp [Instr.fill,cells_agg]))
theorem o218:(∀ v0_0 v0_1:Value,opV Pg (Instr.buildSlice 25 1 #[(0,(.agg #[v0_0,v0_1]))]) QP w k=k (.slice (some ⟨w.heap.size,0,none⟩) 1 1) (w.alloc (.cells #[v0_0,v0_1] 74))):=(by intro v0_0 v0_1;exact op_buildSlice Tryz.underlying25 ty74 Qj (base := #[.string Qy,.slice none 0 0]) Qq (by simp [Instr.fill,cells_agg]))
theorem o219:(∀ v0:Value,v0.oneCell'=true→opV Pg (Instr.buildSlice 40 1 #[(0,v0)]) QP w k=k (.slice (some ⟨w.heap.size,0,none⟩) 1 1) (w.alloc (.cells #[v0] 5))):=(by intro v0 hv0;exact op_buildSlice Tryz.underlying40 ty5 Qj (base := #[.int .u8 0]) Qq (by simp [Instr.fill,cells_agg,cells_one hv0]))
theorem o220:(∀ v0_0 v0_1 v0_2:Value,opV Pg (Instr.buildSlice 41 1 #[(0,(.agg #[v0_0,v0_1,v0_2]))]) QP w k=k (.slice (some ⟨w.heap.size,0,none⟩) 1 1) (w.alloc (.cells #[v0_0,v0_1,v0_2] 78))):=(by intro v0_0 v0_1 v0_2;exact op_buildSlice Tryz.underlying41 ty78 Qj (base := #[.int .i64 0,.int .i64 0,.int .i64 0]) Qq (by simp [Instr.fill,cells_agg]))
theorem o221:(opV Pg (Instr.buildSlice 58 0 #[]) QP w k=k (.slice (some ⟨w.heap.size,0,none⟩) 0 0) (w.alloc (.cells #[] 43))):=(by exact op_buildSlice Tryz.underlying58 ty43 Qj (base := #[]) Qq (by simp [Instr.fill,cells_agg]))
theorem o222:(∀ v0_0 v0_1 v0_2 v0_3 v0_4 v0_5 v0_6:Value,opV Pg (Instr.buildSlice 58 1 #[(0,(.agg #[v0_0,v0_1,v0_2,v0_3,v0_4,v0_5,v0_6]))]) QP w k=k (.slice (some ⟨w.heap.size,0,none⟩) 1 1) (w.alloc (.cells #[v0_0,v0_1,v0_2,v0_3,v0_4,v0_5,v0_6] 43))):=(by intro v0_0 v0_1 v0_2 v0_3 v0_4 v0_5 v0_6;exact op_buildSlice Tryz.underlying58 ty43 Qj (base := #[.string Qy,.int .i64 0,.string Qy,.int .i64 0,.int .i64 0,.slice none 0 0,.slice none 0 0]) Qq (by simp [Instr.fill,cells_agg]))
theorem o223:(∀ v0_0 v0_1 v0_2 v0_3 v0_4 v0_5 v0_6 v1_0 v1_1 v1_2 v1_3 v1_4 v1_5 v1_6:Value,opV Pg (Instr.buildSlice 58 2 #[(0,(.agg #[v0_0,v0_1,v0_2,v0_3,v0_4,v0_5,v0_6])),(1,(.agg #[v1_0,v1_1,v1_2,v1_3,v1_4,v1_5,v1_6]))]) QP w k=k (.slice (some ⟨w.heap.size,0,none⟩) 2 2) (w.alloc (.cells #[v0_0,v0_1,v0_2,v0_3,v0_4,v0_5,v0_6,v1_0,v1_1,v1_2,v1_3,v1_4,v1_5,v1_6] 43))):=(by intro v0_0 v0_1 v0_2 v0_3 v0_4 v0_5 v0_6 v1_0 v1_1 v1_2 v1_3 v1_4 v1_5 v1_6;exact op_buildSlice Tryz.underlying58 ty43 Qj (base := #[.string Qy,.int .i64 0,.string Qy,.int .i64 0,.int .i64 0,.slice none 0 0,.slice none 0 0,.string Qy,.int .i64 0,.string Qy,.int .i64 0,.int .i64 0,.slice none 0 0,.slice none 0 0]) Qq (by simp [Instr.fill,cells_agg]))
theorem o224:(∀ v0:Value,v0.oneCell'=true→opV Pg (Instr.buildSlice 61 1 #[(0,v0)]) QP w k=k (.slice (some ⟨w.heap.size,0,none⟩) 1 1) (w.alloc (.cells #[v0] 3))):=(by intro v0 hv0;exact op_buildSlice Tryz.underlying61 ty3 Qj (base := #[.int .i64 0]) Qq (by simp [Instr.fill,cells_agg,cells_one hv0]))
theorem o225:(∀ v0 v1:Value,v0.oneCell'=true→v1.oneCell'=true→opV Pg (Instr.buildSlice 61 2 #[(0,v0),(1,v1)]) QP w k=k (.slice (some ⟨w.heap.size,0,none⟩) 2 2) (w.alloc (.cells #[v0,v1] 3))):=(by intro v0 v1 hv0 hv1;exact op_buildSlice Tryz.underlying61 ty3 Qj (base := #[.int .i64 0,.int .i64 0]) Qq (by simp [Instr.fill,cells_agg,cells_one hv0,cells_one hv1]))
theorem o226:(∀ v0_0 v0_1 v0_2 v0_3 v0_4 v0_5 v0_6 v0_7 v0_8 v0_9 v0_10 v0_11 v0_12 v0_13 v0_14:Value,opV Pg (Instr.buildSlice 72 1 #[(0,(.agg #[v0_0,v0_1,v0_2,v0_3,v0_4,v0_5,v0_6,v0_7,v0_8,v0_9,v0_10,v0_11,v0_12,v0_13,v0_14]))]) QP w k=k (.slice (some ⟨w.heap.size,0,none⟩) 1 1) (w.alloc (.cells #[v0_0,v0_1,v0_2,v0_3,v0_4,v0_5,v0_6,v0_7,v0_8,v0_9,v0_10,v0_11,v0_12,v0_13,v0_14] 123))):=(by intro v0_0 v0_1 v0_2 v0_3 v0_4 v0_5 v0_6 v0_7 v0_8 v0_9 v0_10 v0_11 v0_12 v0_13 v0_14;exact op_buildSlice Tryz.underlying72 ty123 Qj (base := #[.string Qy,.int .i64 0,.int .i64 0,.bool false,.bool false,.int .i64 0,.int .i64 0,.int .i64 0,.slice none 0 0,.string Qy,.string Qy,.string Qy,.slice none 0 0,.int .i64 0,.int .i64 0]) Qq (by simp [Instr.fill,cells_agg]))
theorem o227:(∀ v0_0 v0_1 v0_2 v0_3 v0_4 v0_5 v0_6 v0_7 v0_8 v0_9 v0_10 v0_11 v0_12 v0_13 v0_14 v1_0 v1_1 v1_2 v1_3 v1_4 v1_5 v1_6 v1_7 v1_8 v1_9 v1_10 v1_11 v1_12 v1_13 v1_14:Value,opV Pg (Instr.buildSlice 72 2 #[(0,(.agg #[v0_0,v0_1,v0_2,v0_3,v0_4,v0_5,v0_6,v0_7,v0_8,v0_9,v0_10,v0_11,v0_12,v0_13,v0_14])),(1,(.agg #[v1_0,v1_1,v1_2,v1_3,v1_4,v1_5,v1_6,v1_7,v1_8,v1_9,v1_10,v1_11,v1_12,v1_13,v1_14]))]) QP w k=k (.slice (some ⟨w.heap.size,0,none⟩) 2 2) (w.alloc (.cells #[v0_0,v0_1,v0_2,v0_3,v0_4,v0_5,v0_6,v0_7,v0_8,v0_9,v0_10,v0_11,v0_12,v0_13,v0_14,v1_0,v1_1,v1_2,v1_3,v1_4,v1_5,v1_6,v1_7,v1_8,v1_9,v1_10,v1_11,v1_12,v1_13,v1_14] 123))):=(by intro v0_0 v0_1 v0_2 v0_3 v0_4 v0_5 v0_6 v0_7 v0_8 v0_9 v0_10 v0_11 v0_12 v0_13 v0_14 v1_0 v1_1 v1_2 v1_3 v1_4 v1_5 v1_6 v1_7 v1_8 v1_9 v1_10 v1_11 v1_12 v1_13 v1_14;exact op_buildSlice Tryz.underlying72 ty123 Qj (base := #[.string Qy,.int .i64 0,.int .i64 0,.bool false,.bool false,.int .i64 0,.int .i64 0,.int .i64 0,.slice none 0 0,.string Qy,.string Qy,.string Qy,.slice none 0 0,.int .i64 0,.int .i64 0,.string Qy,.int .i64 0,.int .i64 0,.bool false,.bool false,.int .i64 0,.int .i64 0,.int .i64 0,.slice none 0 0,.string Qy,.string Qy,.string Qy,.slice none 0 0,.int .i64 0,.int .i64 0]) Qq (by simp [Instr.fill,cells_agg]))
theorem o228:(∀ v0:Value,v0.oneCell'=true→opV Pg (Instr.buildSlice 94 1 #[(0,v0)]) QP w k=k (.slice (some ⟨w.heap.size,0,none⟩) 1 1) (w.alloc (.cells #[v0] 9))):=(by intro v0 hv0;exact op_buildSlice Tryz.underlying94 ty9 Qj (base := #[.string Qy]) Qq (by simp [Instr.fill,cells_agg,cells_one hv0]))
theorem o229:(∀ v0 v1:Value,v0.oneCell'=true→v1.oneCell'=true→opV Pg (Instr.buildSlice 94 2 #[(0,v0),(1,v1)]) QP w k=k (.slice (some ⟨w.heap.size,0,none⟩) 2 2) (w.alloc (.cells #[v0,v1] 9))):=(by intro v0 v1 hv0 hv1;exact op_buildSlice Tryz.underlying94 ty9 Qj (base := #[.string Qy,.string Qy]) Qq (by simp [Instr.fill,cells_agg,cells_one hv0,cells_one hv1]))
theorem o230:(∀ v0 v1 v2:Value,v0.oneCell'=true→v1.oneCell'=true→v2.oneCell'=true→opV Pg (Instr.buildSlice 94 3 #[(0,v0),(1,v1),(2,v2)]) QP w k=k (.slice (some ⟨w.heap.size,0,none⟩) 3 3) (w.alloc (.cells #[v0,v1,v2] 9))):=(by intro v0 v1 v2 hv0 hv1 hv2;exact op_buildSlice Tryz.underlying94 ty9 Qj (base := #[.string Qy,.string Qy,.string Qy]) Qq (by simp [Instr.fill,cells_agg,cells_one hv0,cells_one hv1,cells_one hv2]))
theorem o231:(∀ v0 v1 v2 v3:Value,v0.oneCell'=true→v1.oneCell'=true→v2.oneCell'=true→v3.oneCell'=true→opV Pg (Instr.buildSlice 94 4 #[(0,v0),(1,v1),(2,v2),(3,v3)]) QP w k=k (.slice (some ⟨w.heap.size,0,none⟩) 4 4) (w.alloc (.cells #[v0,v1,v2,v3] 9))):=(by intro v0 v1 v2 v3 hv0 hv1 hv2 hv3;exact op_buildSlice Tryz.underlying94 ty9 Qj (base := #[.string Qy,.string Qy,.string Qy,.string Qy]) Qq (by simp [Instr.fill,cells_agg,cells_one hv0,cells_one hv1,cells_one hv2,cells_one hv3]))
theorem o232:(∀ v0 v1 v2 v3 v4 v5 v6 v7:Value,v0.oneCell'=true→v1.oneCell'=true→v2.oneCell'=true→v3.oneCell'=true→v4.oneCell'=true→v5.oneCell'=true→v6.oneCell'=true→v7.oneCell'=true→opV Pg (Instr.buildSlice 94 8 #[(0,v0),(1,v1),(2,v2),(3,v3),(4,v4),(5,v5),(6,v6),(7,v7)]) QP w k=k (.slice (some ⟨w.heap.size,0,none⟩) 8 8) (w.alloc (.cells #[v0,v1,v2,v3,v4,v5,v6,v7] 9))):=(by intro v0 v1 v2 v3 v4 v5 v6 v7 hv0 hv1 hv2 hv3 hv4 hv5 hv6 hv7;exact op_buildSlice Tryz.underlying94 ty9 Qj (base := #[.string Qy,.string Qy,.string Qy,.string Qy,.string Qy,.string Qy,.string Qy,.string Qy]) Qq (by simp [Instr.fill,cells_agg,cells_one hv0,cells_one hv1,cells_one hv2,cells_one hv3,cells_one hv4,cells_one hv5,cells_one hv6,cells_one hv7]))
theorem o233:(∀ v0 v1 v2 v3 v4 v5 v6 v7 v8 v9 v10 v11 v12:Value,v0.oneCell'=true→v1.oneCell'=true→v2.oneCell'=true→v3.oneCell'=true→v4.oneCell'=true→v5.oneCell'=true→v6.oneCell'=true→v7.oneCell'=true→v8.oneCell'=true→v9.oneCell'=true→v10.oneCell'=true→v11.oneCell'=true→v12.oneCell'=true→opV Pg (Instr.buildSlice 94 13 #[(0,v0),(1,v1),(2,v2),(3,v3),(4,v4),(5,v5),(6,v6),(7,v7),(8,v8),(9,v9),(10,v10),(11,v11),(12,v12)]) QP w k=k (.slice (some ⟨w.heap.size,0,none⟩) 13 13) (w.alloc (.cells #[v0,v1,v2,v3,v4,v5,v6,v7,v8,v9,v10,v11,v12] 9))):=(by intro v0 v1 v2 v3 v4 v5 v6 v7 v8 v9 v10 v11 v12 hv0 hv1 hv2 hv3 hv4 hv5 hv6 hv7 hv8 hv9 hv10 hv11 hv12;exact op_buildSlice Tryz.underlying94 ty9 Qj (base := #[.string Qy,.string Qy,.string Qy,.string Qy,.string Qy,.string Qy,.string Qy,.string Qy,.string Qy,.string Qy,.string Qy,.string Qy,.string Qy]) Qq (by simp [Instr.fill,cells_agg,cells_one hv0,cells_one hv1,cells_one hv2,cells_one hv3,cells_one hv4,cells_one hv5,cells_one hv6,cells_one hv7,cells_one hv8,cells_one hv9,cells_one hv10,cells_one hv11,cells_one hv12]))
theorem o234:(opV Pg (Instr.buildSlice 118 0 #[]) QP w k=k (.slice (some ⟨w.heap.size,0,none⟩) 0 0) (w.alloc (.cells #[] 128))):=(by exact op_buildSlice Tryz.underlying118 ty128 Qj (base := #[]) Qq (by simp [Instr.fill,cells_agg]))
theorem o235:(∀ v0_0 v0_1:Value,opV Pg (Instr.buildSlice 118 1 #[(0,(.agg #[v0_0,v0_1]))]) QP w k=k (.slice (some ⟨w.heap.size,0,none⟩) 1 1) (w.alloc (.cells #[v0_0,v0_1] 128))):=(by intro v0_0 v0_1;exact op_buildSlice Tryz.underlying118 ty128 Qj (base := #[.string Qy,.int .i64 0]) Qq (by simp [Instr.fill,cells_agg]))
theorem o237:(∀ v0 v1:Value,v0.oneCell'=true→v1.oneCell'=true→opV Pg (Instr.buildSlice 170 2 #[(0,v0),(1,v1)]) QP w k=k (.slice (some ⟨w.heap.size,0,none⟩) 2 2) (w.alloc (.cells #[v0,v1] 4))):=(by intro v0 v1 hv0 hv1;exact op_buildSlice Tryz.underlying170 ty4 Qj (base := #[.bool false,.bool false]) Qq (by simp [Instr.fill,cells_agg,cells_one hv0,cells_one hv1]))
theorem o238:(∀ v0 v1 v2:Value,v0.oneCell'=true→v1.oneCell'=true→v2.oneCell'=true→opV Pg (Instr.buildSlice 170 3 #[(0,v0),(1,v1),(2,v2)]) QP w k=k (.slice (some ⟨w.heap.size,0,none⟩) 3 3) (w.alloc (.cells #[v0,v1,v2] 4))):=(by intro v0 v1 v2 hv0 hv1 hv2;exact op_buildSlice Tryz.underlying170 ty4 Qj (base := #[.bool false,.bool false,.bool false]) Qq (by simp [Instr.fill,cells_agg,cells_one hv0,cells_one hv1,cells_one hv2]))
theorem o241:(∀ q n,opV Pg (Go.convert 3 5 (.int q n)) QP w k=k (.int .u8 (IntKind.u8.wrap n)) w):=(op_convInt (by rw [Tryz.underlying3];rfl) Tryz.underlying5)
theorem o242:(∀ q n,opV Pg (Go.convert 3 191 (.int q n)) QP w k=k (.int .u64 (IntKind.u64.wrap n)) w):=(op_convInt (by rw [Tryz.underlying3];rfl) Tryz.underlying191)
theorem o243:(∀ q n,opV Pg (Go.convert 3 197 (.int q n)) QP w k=k (.int .u64 (IntKind.u64.wrap n)) w):=(op_convInt (by rw [Tryz.underlying3];rfl) Tryz.underlying197)
theorem o244:(∀ q n,opV Pg (Go.convert 5 3 (.int q n)) QP w k=k (.int .i64 (IntKind.i64.wrap n)) w):=(op_convInt (by rw [Tryz.underlying5];rfl) Tryz.underlying3)
theorem o246:(∀ q n,opV Pg (Go.convert 5 191 (.int q n)) QP w k=k (.int .u64 (IntKind.u64.wrap n)) w):=(op_convInt (by rw [Tryz.underlying5];rfl) Tryz.underlying191)
theorem o250:(∀ q n,opV Pg (Go.convert 191 5 (.int q n)) QP w k=k (.int .u8 (IntKind.u8.wrap n)) w):=(op_convInt (by rw [Tryz.underlying191];rfl) Tryz.underlying5)
theorem o255:(∀ v,opV Pg (Instr.makeInterface 82 v) QP w k=k (.iface 82 v) w):=(op_iface Tryz.underlying82 rfl)
theorem o256:(∀ v,opV Pg (Instr.makeInterface 131 v) QP w k=k (.iface 131 v) w):=(op_iface Tryz.underlying131 rfl)
theorem o257:(∀ v,opV Pg (Instr.makeInterface 239 v) QP w k=k (.iface 239 v) w):=(op_iface Tryz.underlying239 rfl)
theorem o264:(∀ c (a0 b0:Int) (a1 b1:Int) (a2 b2:Int),opV Pg (binS .neq 34 c (.agg #[.int .i64 a0,.int .i64 a1,.int .i64 a2]) (.agg #[.int .i64 b0,.int .i64 b1,.int .i64 b2])) QP w k=k (.bool (!(decide (a0=b0)&&(decide (a1=b1)&&(decide (a2=b2)&&true))))) w):=(by intro c a0 b0 a1 b1 a2 b2;exact op_aggNe Qq (fun w=>eq34 a0 b0 a1 b1 a2 b2) c)
theorem o266:(∀ c f x y,opV Pg (binS .eql 56 c (.func f x y) .nilFunc) QP w k=k (.bool false) w):=(op_eqNilF Tryz.underlying56)
theorem o267:(∀ c A n m,opV Pg (binS .eql 58 c (.slice A n m) (.slice none 0 0)) QP w k=k (.bool A.isNone) w):=(op_eqNilS Tryz.underlying58)
theorem o269:(∀ c (a0 b0:Int) (a1 b1:Int) (a2 b2:Int),opV Pg (binS .neq 78 c (.agg #[.int .i64 a0,.int .i64 a1,.int .i64 a2]) (.agg #[.int .i64 b0,.int .i64 b1,.int .i64 b2])) QP w k=k (.bool (!(decide (a0=b0)&&(decide (a1=b1)&&(decide (a2=b2)&&true))))) w):=(by intro c a0 b0 a1 b1 a2 b2;exact op_aggNe Qq (fun w=>eq78 a0 b0 a1 b1 a2 b2) c)
theorem o270:(∀ c A n m,opV Pg (binS .eql 118 c (.slice A n m) (.slice none 0 0)) QP w k=k (.bool A.isNone) w):=(op_eqNilS Tryz.underlying118)
theorem o272:(∀ c (a0 b0:ByteArray) (a1 b1:Int),opV Pg (binS .neq 128 c (.agg #[.string a0,.int .i64 a1]) (.agg #[.string b0,.int .i64 b1])) QP w k=k (.bool (!(decide (a0=b0)&&(decide (a1=b1)&&true)))) w):=(by intro c a0 b0 a1 b1;exact op_aggNe Qq (fun w=>eq128 a0 b0 a1 b1) c)
theorem o273:(∀ d v,opV Pg (binS .neq 162 true (.iface d v) .nilIface) QP w k=k (.bool true) w):=(op_neqNil_some Tryz.underlying162)
theorem o274:(opV Pg (binS .neq 162 true .nilIface .nilIface) QP w k=k (.bool false) w):=(op_neqNil_none Tryz.underlying162)
theorem o276:(∀ c (a0 b0:Int) (a1 b1:Int) (a2 b2:ByteArray),opV Pg (binS .neq 213 c (.agg #[.int .i64 a0,.int .i64 a1,.string a2]) (.agg #[.int .i64 b0,.int .i64 b1,.string b2])) QP w k=k (.bool (!(decide (a0=b0)&&(decide (a1=b1)&&(decide (a2=b2)&&true))))) w):=(by intro c a0 b0 a1 b1 a2 b2;exact op_aggNe Qq (fun w=>eq213 a0 b0 a1 b1 a2 b2) c)
theorem o277:(∀ c (a0 b0:ByteArray) (a1 b1:ByteArray) (a2 b2:ByteArray) (a3 b3:ByteArray) (a4 b4:Int) (a5 b5:Int) (a6 b6:Int) (a7 b7:Int) (a8 b8:Int) (a9 b9:Int) (a10 b10:Int) (a11 b11:Bool) (a12 b12:Bool),opV Pg (binS .eql 287 c (.agg #[.string a0,.string a1,.string a2,.string a3,.int .i64 a4,.int .i64 a5,.int .i64 a6,.int .i64 a7,.int .i64 a8,.int .i64 a9,.int .i64 a10,.bool a11,.bool a12]) (.agg #[.string b0,.string b1,.string b2,.string b3,.int .i64 b4,.int .i64 b5,.int .i64 b6,.int .i64 b7,.int .i64 b8,.int .i64 b9,.int .i64 b10,.bool b11,.bool b12])) QP w k=k (.bool (decide (a0=b0)&&(decide (a1=b1)&&(decide (a2=b2)&&(decide (a3=b3)&&(decide (a4=b4)&&(decide (a5=b5)&&(decide (a6=b6)&&(decide (a7=b7)&&(decide (a8=b8)&&(decide (a9=b9)&&(decide (a10=b10)&&(decide (a11=b11)&&(decide (a12=b12)&&true)))))))))))))) w):=(by intro c a0 b0 a1 b1 a2 b2 a3 b3 a4 b4 a5 b5 a6 b6 a7 b7 a8 b8 a9 b9 a10 b10 a11 b11 a12 b12;exact op_aggEq Qq (fun w=>eq287 a0 b0 a1 b1 a2 b2 a3 b3 a4 b4 a5 b5 a6 b6 a7 b7 a8 b8 a9 b9 a10 b10 a11 b11 a12 b12) c)
end
theorem qV_two {P:Program} {C:World→Prop} [ClassNe C] {k:Value→Prop} {s:Nat→Nat→Sem Value} {v:Nat→Nat→Value} (h:∀ QP w k b o,opV P (s b o) QP w k=k (v b o) w) (b o:Nat):qV P C (s b o) k=k (v b o):=qV_of fun QP w k=>h QP w k b o
def OPU0 {QP:List PanicEntry→World→Prop} {w:World} {ku:World→Prop}:=Qw (op_storeC (QP:=QP) (w:=w) (ku:=ku) ty3)<|Qw (op_storeC (QP:=QP) (w:=w) (ku:=ku) ty4)<|Qw (op_storeC (QP:=QP) (w:=w) (ku:=ku) ty5)<|Qw (op_storeC (QP:=QP) (w:=w) (ku:=ku) ty9)<|Qw (op_storeC (QP:=QP) (w:=w) (ku:=ku) ty22)<|Qw (op_storeC (QP:=QP) (w:=w) (ku:=ku) ty39)<|Qw (op_storeC (QP:=QP) (w:=w) (ku:=ku) ty40)<|Qw (op_storeC (QP:=QP) (w:=w) (ku:=ku) ty41)<|Qw ((by intro b T' u0 u1 u2 u3 u4 u5 u6 v0 v1 v2 v3 v4 v5 v6 hb h0 h1 h2 h3 h4 h5 h6;exact op_storeN ty43 b hb _ T' _ rfl rfl (by intro v hv;simp only [List.mem_cons,List.not_mem_nil,or_false] at hv;rcases hv with rfl | rfl | rfl | rfl | rfl | rfl | rfl<;>assumption)):(∀ (b:Nat) (T':TypeId) u0 u1 u2 u3 u4 u5 u6 v0 v1 v2 v3 v4 v5 v6,b=w.heap.size→v0.oneCell'=true→v1.oneCell'=true→v2.oneCell'=true→v3.oneCell'=true→v4.oneCell'=true→v5.oneCell'=true→v6.oneCell'=true→opU Pg (Instr.storeAt 43 (.pointer (some ⟨b,0,none⟩)) (.agg #[v0,v1,v2,v3,v4,v5,v6])) QP (w.alloc (.cells #[u0,u1,u2,u3,u4,u5,u6] T')) ku=ku (w.alloc (.cells #[v0,v1,v2,v3,v4,v5,v6] T'))))<|Qw (op_storeC (QP:=QP) (w:=w) (ku:=ku) ty49)<|Qw (op_storeC (QP:=QP) (w:=w) (ku:=ku) ty58)<|Qw (op_storeC (QP:=QP) (w:=w) (ku:=ku) ty61)<|Qw (op_storeC (QP:=QP) (w:=w) (ku:=ku) ty88)<|Qw (op_storeC (QP:=QP) (w:=w) (ku:=ku) ty94)<|Qw (op_storeC (QP:=QP) (w:=w) (ku:=ku) ty118)<|Qw (op_storeC (QP:=QP) (w:=w) (ku:=ku) ty121)<|Qw ((by intro b T' u0 u1 u2 u3 u4 u5 u6 u7 u8 u9 u10 u11 u12 u13 u14 v0 v1 v2 v3 v4 v5 v6 v7 v8 v9 v10 v11 v12 v13 v14 hb h0 h1 h2 h3 h4 h5 h6 h7 h8 h9 h10 h11 h12 h13 h14;exact op_storeN ty123 b hb _ T' _ rfl rfl (by intro v hv;simp only [List.mem_cons,List.not_mem_nil,or_false] at hv;rcases hv with rfl | rfl | rfl | rfl | rfl | rfl | rfl | rfl | rfl | rfl | rfl | rfl | rfl | rfl | rfl<;>assumption)):(∀ (b:Nat) (T':TypeId) u0 u1 u2 u3 u4 u5 u6 u7 u8 u9 u10 u11 u12 u13 u14 v0 v1 v2 v3 v4 v5 v6 v7 v8 v9 v10 v11 v12 v13 v14,b=w.heap.size→v0.oneCell'=true→v1.oneCell'=true→v2.oneCell'=true→v3.oneCell'=true→v4.oneCell'=true→v5.oneCell'=true→v6.oneCell'=true→v7.oneCell'=true→v8.oneCell'=true→v9.oneCell'=true→v10.oneCell'=true→v11.oneCell'=true→v12.oneCell'=true→v13.oneCell'=true→v14.oneCell'=true→opU Pg (Instr.storeAt 123 (.pointer (some ⟨b,0,none⟩)) (.agg #[v0,v1,v2,v3,v4,v5,v6,v7,v8,v9,v10,v11,v12,v13,v14])) QP (w.alloc (.cells #[u0,u1,u2,u3,u4,u5,u6,u7,u8,u9,u10,u11,u12,u13,u14] T')) ku=ku (w.alloc (.cells #[v0,v1,v2,v3,v4,v5,v6,v7,v8,v9,v10,v11,v12,v13,v14] T'))))<|Qw (op_storeC (QP:=QP) (w:=w) (ku:=ku) ty199)<|Qw ((by intro b T' u0 u1 u2 u3 u4 u5 u6 u7 u8 u9 u10 u11 u12 v0 v1 v2 v3 v4 v5 v6 v7 v8 v9 v10 v11 v12 hb h0 h1 h2 h3 h4 h5 h6 h7 h8 h9 h10 h11 h12;exact op_storeN ty287 b hb _ T' _ rfl rfl (by intro v hv;simp only [List.mem_cons,List.not_mem_nil,or_false] at hv;rcases hv with rfl | rfl | rfl | rfl | rfl | rfl | rfl | rfl | rfl | rfl | rfl | rfl | rfl<;>assumption)):(∀ (b:Nat) (T':TypeId) u0 u1 u2 u3 u4 u5 u6 u7 u8 u9 u10 u11 u12 v0 v1 v2 v3 v4 v5 v6 v7 v8 v9 v10 v11 v12,b=w.heap.size→v0.oneCell'=true→v1.oneCell'=true→v2.oneCell'=true→v3.oneCell'=true→v4.oneCell'=true→v5.oneCell'=true→v6.oneCell'=true→v7.oneCell'=true→v8.oneCell'=true→v9.oneCell'=true→v10.oneCell'=true→v11.oneCell'=true→v12.oneCell'=true→opU Pg (Instr.storeAt 287 (.pointer (some ⟨b,0,none⟩)) (.agg #[v0,v1,v2,v3,v4,v5,v6,v7,v8,v9,v10,v11,v12])) QP (w.alloc (.cells #[u0,u1,u2,u3,u4,u5,u6,u7,u8,u9,u10,u11,u12] T')) ku=ku (w.alloc (.cells #[v0,v1,v2,v3,v4,v5,v6,v7,v8,v9,v10,v11,v12] T'))))<|(op_storeC (QP:=QP) (w:=w) (ku:=ku) ty296)
def OPA0 {QP:List PanicEntry→World→Prop} {w:World} {ku:World→Prop}:=Qw ((by intro b o v0 v1 h0 h1;exact op_storeA ty24 b o _ rfl (by intro v hv;simp only [List.mem_cons,List.not_mem_nil,or_false] at hv;rcases hv with rfl | rfl<;>assumption) _ rfl _ rfl):(∀ b o v0 v1,v0.oneCell'=true→v1.oneCell'=true→opU Pg (Instr.storeAt 24 (.pointer (some ⟨b,o,none⟩)) (.agg #[v0,v1])) QP w ku=onCells [w.cell? ⟨b,o,none⟩,w.cell? ⟨b,o+1,none⟩] (fun _=>onFree [w.frozen? ⟨b,o,none⟩,w.frozen? ⟨b,o+1,none⟩] (ku ((w.setCell ⟨b,o,none⟩ v0).setCell ⟨b,o+1,none⟩ v1)) (opUx Pg (Instr.storeAt 24 (.pointer (some ⟨b,o,none⟩)) (.agg #[v0,v1])) QP w ku)) (opUx Pg (Instr.storeAt 24 (.pointer (some ⟨b,o,none⟩)) (.agg #[v0,v1])) QP w ku)))<|Qw ((by intro b o v0 v1 v2 h0 h1 h2;exact op_storeA ty27 b o _ rfl (by intro v hv;simp only [List.mem_cons,List.not_mem_nil,or_false] at hv;rcases hv with rfl | rfl | rfl<;>assumption) _ rfl _ rfl):(∀ b o v0 v1 v2,v0.oneCell'=true→v1.oneCell'=true→v2.oneCell'=true→opU Pg (Instr.storeAt 27 (.pointer (some ⟨b,o,none⟩)) (.agg #[v0,v1,v2])) QP w ku=onCells [w.cell? ⟨b,o,none⟩,w.cell? ⟨b,o+1,none⟩,w.cell? ⟨b,o+2,none⟩] (fun _=>onFree [w.frozen? ⟨b,o,none⟩,w.frozen? ⟨b,o+1,none⟩,w.frozen? ⟨b,o+2,none⟩] (ku (((w.setCell ⟨b,o,none⟩ v0).setCell ⟨b,o+1,none⟩ v1).setCell ⟨b,o+2,none⟩ v2)) (opUx Pg (Instr.storeAt 27 (.pointer (some ⟨b,o,none⟩)) (.agg #[v0,v1,v2])) QP w ku)) (opUx Pg (Instr.storeAt 27 (.pointer (some ⟨b,o,none⟩)) (.agg #[v0,v1,v2])) QP w ku)))<|Qw ((by intro b o v0 v1 v2 h0 h1 h2;exact op_storeA ty34 b o _ rfl (by intro v hv;simp only [List.mem_cons,List.not_mem_nil,or_false] at hv;rcases hv with rfl | rfl | rfl<;>assumption) _ rfl _ rfl):(∀ b o v0 v1 v2,v0.oneCell'=true→v1.oneCell'=true→v2.oneCell'=true→opU Pg (Instr.storeAt 34 (.pointer (some ⟨b,o,none⟩)) (.agg #[v0,v1,v2])) QP w ku=onCells [w.cell? ⟨b,o,none⟩,w.cell? ⟨b,o+1,none⟩,w.cell? ⟨b,o+2,none⟩] (fun _=>onFree [w.frozen? ⟨b,o,none⟩,w.frozen? ⟨b,o+1,none⟩,w.frozen? ⟨b,o+2,none⟩] (ku (((w.setCell ⟨b,o,none⟩ v0).setCell ⟨b,o+1,none⟩ v1).setCell ⟨b,o+2,none⟩ v2)) (opUx Pg (Instr.storeAt 34 (.pointer (some ⟨b,o,none⟩)) (.agg #[v0,v1,v2])) QP w ku)) (opUx Pg (Instr.storeAt 34 (.pointer (some ⟨b,o,none⟩)) (.agg #[v0,v1,v2])) QP w ku)))<|Qw ((by intro b o v0 v1 v2 h0 h1 h2;exact op_storeA ty60 b o _ rfl (by intro v hv;simp only [List.mem_cons,List.not_mem_nil,or_false] at hv;rcases hv with rfl | rfl | rfl<;>assumption) _ rfl _ rfl):(∀ b o v0 v1 v2,v0.oneCell'=true→v1.oneCell'=true→v2.oneCell'=true→opU Pg (Instr.storeAt 60 (.pointer (some ⟨b,o,none⟩)) (.agg #[v0,v1,v2])) QP w ku=onCells [w.cell? ⟨b,o,none⟩,w.cell? ⟨b,o+1,none⟩,w.cell? ⟨b,o+2,none⟩] (fun _=>onFree [w.frozen? ⟨b,o,none⟩,w.frozen? ⟨b,o+1,none⟩,w.frozen? ⟨b,o+2,none⟩] (ku (((w.setCell ⟨b,o,none⟩ v0).setCell ⟨b,o+1,none⟩ v1).setCell ⟨b,o+2,none⟩ v2)) (opUx Pg (Instr.storeAt 60 (.pointer (some ⟨b,o,none⟩)) (.agg #[v0,v1,v2])) QP w ku)) (opUx Pg (Instr.storeAt 60 (.pointer (some ⟨b,o,none⟩)) (.agg #[v0,v1,v2])) QP w ku)))<|Qw ((by intro b o v0 v1 h0 h1;exact op_storeA ty74 b o _ rfl (by intro v hv;simp only [List.mem_cons,List.not_mem_nil,or_false] at hv;rcases hv with rfl | rfl<;>assumption) _ rfl _ rfl):(∀ b o v0 v1,v0.oneCell'=true→v1.oneCell'=true→opU Pg (Instr.storeAt 74 (.pointer (some ⟨b,o,none⟩)) (.agg #[v0,v1])) QP w ku=onCells [w.cell? ⟨b,o,none⟩,w.cell? ⟨b,o+1,none⟩] (fun _=>onFree [w.frozen? ⟨b,o,none⟩,w.frozen? ⟨b,o+1,none⟩] (ku ((w.setCell ⟨b,o,none⟩ v0).setCell ⟨b,o+1,none⟩ v1)) (opUx Pg (Instr.storeAt 74 (.pointer (some ⟨b,o,none⟩)) (.agg #[v0,v1])) QP w ku)) (opUx Pg (Instr.storeAt 74 (.pointer (some ⟨b,o,none⟩)) (.agg #[v0,v1])) QP w ku)))<|Qw ((by intro b o v0 v1 v2 h0 h1 h2;exact op_storeA ty78 b o _ rfl (by intro v hv;simp only [List.mem_cons,List.not_mem_nil,or_false] at hv;rcases hv with rfl | rfl | rfl<;>assumption) _ rfl _ rfl):(∀ b o v0 v1 v2,v0.oneCell'=true→v1.oneCell'=true→v2.oneCell'=true→opU Pg (Instr.storeAt 78 (.pointer (some ⟨b,o,none⟩)) (.agg #[v0,v1,v2])) QP w ku=onCells [w.cell? ⟨b,o,none⟩,w.cell? ⟨b,o+1,none⟩,w.cell? ⟨b,o+2,none⟩] (fun _=>onFree [w.frozen? ⟨b,o,none⟩,w.frozen? ⟨b,o+1,none⟩,w.frozen? ⟨b,o+2,none⟩] (ku (((w.setCell ⟨b,o,none⟩ v0).setCell ⟨b,o+1,none⟩ v1).setCell ⟨b,o+2,none⟩ v2)) (opUx Pg (Instr.storeAt 78 (.pointer (some ⟨b,o,none⟩)) (.agg #[v0,v1,v2])) QP w ku)) (opUx Pg (Instr.storeAt 78 (.pointer (some ⟨b,o,none⟩)) (.agg #[v0,v1,v2])) QP w ku)))<|Qw ((by intro b o v0 v1 v2 v3 v4 h0 h1 h2 h3 h4;exact op_storeA ty105 b o _ rfl (by intro v hv;simp only [List.mem_cons,List.not_mem_nil,or_false] at hv;rcases hv with rfl | rfl | rfl | rfl | rfl<;>assumption) _ rfl _ rfl):(∀ b o v0 v1 v2 v3 v4,v0.oneCell'=true→v1.oneCell'=true→v2.oneCell'=true→v3.oneCell'=true→v4.oneCell'=true→opU Pg (Instr.storeAt 105 (.pointer (some ⟨b,o,none⟩)) (.agg #[v0,v1,v2,v3,v4])) QP w ku=onCells [w.cell? ⟨b,o,none⟩,w.cell? ⟨b,o+1,none⟩,w.cell? ⟨b,o+2,none⟩,w.cell? ⟨b,o+3,none⟩,w.cell? ⟨b,o+4,none⟩] (fun _=>onFree [w.frozen? ⟨b,o,none⟩,w.frozen? ⟨b,o+1,none⟩,w.frozen? ⟨b,o+2,none⟩,w.frozen? ⟨b,o+3,none⟩,w.frozen? ⟨b,o+4,none⟩] (ku (((((w.setCell ⟨b,o,none⟩ v0).setCell ⟨b,o+1,none⟩ v1).setCell ⟨b,o+2,none⟩ v2).setCell ⟨b,o+3,none⟩ v3).setCell ⟨b,o+4,none⟩ v4)) (opUx Pg (Instr.storeAt 105 (.pointer (some ⟨b,o,none⟩)) (.agg #[v0,v1,v2,v3,v4])) QP w ku)) (opUx Pg (Instr.storeAt 105 (.pointer (some ⟨b,o,none⟩)) (.agg #[v0,v1,v2,v3,v4])) QP w ku)))<|Qw ((by intro b o v0 v1 h0 h1;exact op_storeA ty120 b o _ rfl (by intro v hv;simp only [List.mem_cons,List.not_mem_nil,or_false] at hv;rcases hv with rfl | rfl<;>assumption) _ rfl _ rfl):(∀ b o v0 v1,v0.oneCell'=true→v1.oneCell'=true→opU Pg (Instr.storeAt 120 (.pointer (some ⟨b,o,none⟩)) (.agg #[v0,v1])) QP w ku=onCells [w.cell? ⟨b,o,none⟩,w.cell? ⟨b,o+1,none⟩] (fun _=>onFree [w.frozen? ⟨b,o,none⟩,w.frozen? ⟨b,o+1,none⟩] (ku ((w.setCell ⟨b,o,none⟩ v0).setCell ⟨b,o+1,none⟩ v1)) (opUx Pg (Instr.storeAt 120 (.pointer (some ⟨b,o,none⟩)) (.agg #[v0,v1])) QP w ku)) (opUx Pg (Instr.storeAt 120 (.pointer (some ⟨b,o,none⟩)) (.agg #[v0,v1])) QP w ku)))<|Qw ((by intro b o v0 v1 h0 h1;exact op_storeA ty128 b o _ rfl (by intro v hv;simp only [List.mem_cons,List.not_mem_nil,or_false] at hv;rcases hv with rfl | rfl<;>assumption) _ rfl _ rfl):(∀ b o v0 v1,v0.oneCell'=true→v1.oneCell'=true→opU Pg (Instr.storeAt 128 (.pointer (some ⟨b,o,none⟩)) (.agg #[v0,v1])) QP w ku=onCells [w.cell? ⟨b,o,none⟩,w.cell? ⟨b,o+1,none⟩] (fun _=>onFree [w.frozen? ⟨b,o,none⟩,w.frozen? ⟨b,o+1,none⟩] (ku ((w.setCell ⟨b,o,none⟩ v0).setCell ⟨b,o+1,none⟩ v1)) (opUx Pg (Instr.storeAt 128 (.pointer (some ⟨b,o,none⟩)) (.agg #[v0,v1])) QP w ku)) (opUx Pg (Instr.storeAt 128 (.pointer (some ⟨b,o,none⟩)) (.agg #[v0,v1])) QP w ku)))<|Qw ((by intro b o v0 v1 v2 h0 h1 h2;exact op_storeA ty131 b o _ rfl (by intro v hv;simp only [List.mem_cons,List.not_mem_nil,or_false] at hv;rcases hv with rfl | rfl | rfl<;>assumption) _ rfl _ rfl):(∀ b o v0 v1 v2,v0.oneCell'=true→v1.oneCell'=true→v2.oneCell'=true→opU Pg (Instr.storeAt 131 (.pointer (some ⟨b,o,none⟩)) (.agg #[v0,v1,v2])) QP w ku=onCells [w.cell? ⟨b,o,none⟩,w.cell? ⟨b,o+1,none⟩,w.cell? ⟨b,o+2,none⟩] (fun _=>onFree [w.frozen? ⟨b,o,none⟩,w.frozen? ⟨b,o+1,none⟩,w.frozen? ⟨b,o+2,none⟩] (ku (((w.setCell ⟨b,o,none⟩ v0).setCell ⟨b,o+1,none⟩ v1).setCell ⟨b,o+2,none⟩ v2)) (opUx Pg (Instr.storeAt 131 (.pointer (some ⟨b,o,none⟩)) (.agg #[v0,v1,v2])) QP w ku)) (opUx Pg (Instr.storeAt 131 (.pointer (some ⟨b,o,none⟩)) (.agg #[v0,v1,v2])) QP w ku)))<|Qw ((by intro b o v0 v1 v2 h0 h1 h2;exact op_storeA ty213 b o _ rfl (by intro v hv;simp only [List.mem_cons,List.not_mem_nil,or_false] at hv;rcases hv with rfl | rfl | rfl<;>assumption) _ rfl _ rfl):(∀ b o v0 v1 v2,v0.oneCell'=true→v1.oneCell'=true→v2.oneCell'=true→opU Pg (Instr.storeAt 213 (.pointer (some ⟨b,o,none⟩)) (.agg #[v0,v1,v2])) QP w ku=onCells [w.cell? ⟨b,o,none⟩,w.cell? ⟨b,o+1,none⟩,w.cell? ⟨b,o+2,none⟩] (fun _=>onFree [w.frozen? ⟨b,o,none⟩,w.frozen? ⟨b,o+1,none⟩,w.frozen? ⟨b,o+2,none⟩] (ku (((w.setCell ⟨b,o,none⟩ v0).setCell ⟨b,o+1,none⟩ v1).setCell ⟨b,o+2,none⟩ v2)) (opUx Pg (Instr.storeAt 213 (.pointer (some ⟨b,o,none⟩)) (.agg #[v0,v1,v2])) QP w ku)) (opUx Pg (Instr.storeAt 213 (.pointer (some ⟨b,o,none⟩)) (.agg #[v0,v1,v2])) QP w ku)))<|Qw ((by intro b o v0 v1 h0 h1;exact op_storeA ty255 b o _ rfl (by intro v hv;simp only [List.mem_cons,List.not_mem_nil,or_false] at hv;rcases hv with rfl | rfl<;>assumption) _ rfl _ rfl):(∀ b o v0 v1,v0.oneCell'=true→v1.oneCell'=true→opU Pg (Instr.storeAt 255 (.pointer (some ⟨b,o,none⟩)) (.agg #[v0,v1])) QP w ku=onCells [w.cell? ⟨b,o,none⟩,w.cell? ⟨b,o+1,none⟩] (fun _=>onFree [w.frozen? ⟨b,o,none⟩,w.frozen? ⟨b,o+1,none⟩] (ku ((w.setCell ⟨b,o,none⟩ v0).setCell ⟨b,o+1,none⟩ v1)) (opUx Pg (Instr.storeAt 255 (.pointer (some ⟨b,o,none⟩)) (.agg #[v0,v1])) QP w ku)) (opUx Pg (Instr.storeAt 255 (.pointer (some ⟨b,o,none⟩)) (.agg #[v0,v1])) QP w ku)))<|Qw ((by intro b o v0 v1 v2 h0 h1 h2;exact op_storeA ty266 b o _ rfl (by intro v hv;simp only [List.mem_cons,List.not_mem_nil,or_false] at hv;rcases hv with rfl | rfl | rfl<;>assumption) _ rfl _ rfl):(∀ b o v0 v1 v2,v0.oneCell'=true→v1.oneCell'=true→v2.oneCell'=true→opU Pg (Instr.storeAt 266 (.pointer (some ⟨b,o,none⟩)) (.agg #[v0,v1,v2])) QP w ku=onCells [w.cell? ⟨b,o,none⟩,w.cell? ⟨b,o+1,none⟩,w.cell? ⟨b,o+2,none⟩] (fun _=>onFree [w.frozen? ⟨b,o,none⟩,w.frozen? ⟨b,o+1,none⟩,w.frozen? ⟨b,o+2,none⟩] (ku (((w.setCell ⟨b,o,none⟩ v0).setCell ⟨b,o+1,none⟩ v1).setCell ⟨b,o+2,none⟩ v2)) (opUx Pg (Instr.storeAt 266 (.pointer (some ⟨b,o,none⟩)) (.agg #[v0,v1,v2])) QP w ku)) (opUx Pg (Instr.storeAt 266 (.pointer (some ⟨b,o,none⟩)) (.agg #[v0,v1,v2])) QP w ku)))<|((by intro b o v0 v1 h0 h1;exact op_storeA ty300 b o _ rfl (by intro v hv;simp only [List.mem_cons,List.not_mem_nil,or_false] at hv;rcases hv with rfl | rfl<;>assumption) _ rfl _ rfl):(∀ b o v0 v1,v0.oneCell'=true→v1.oneCell'=true→opU Pg (Instr.storeAt 300 (.pointer (some ⟨b,o,none⟩)) (.agg #[v0,v1])) QP w ku=onCells [w.cell? ⟨b,o,none⟩,w.cell? ⟨b,o+1,none⟩] (fun _=>onFree [w.frozen? ⟨b,o,none⟩,w.frozen? ⟨b,o+1,none⟩] (ku ((w.setCell ⟨b,o,none⟩ v0).setCell ⟨b,o+1,none⟩ v1)) (opUx Pg (Instr.storeAt 300 (.pointer (some ⟨b,o,none⟩)) (.agg #[v0,v1])) QP w ku)) (opUx Pg (Instr.storeAt 300 (.pointer (some ⟨b,o,none⟩)) (.agg #[v0,v1])) QP w ku)))
section
def OPW0 {w:World} {k:Value→Prop}:=Qw (qV_loadC (w:=w) (k:=k) ty3)<|Qw (qV_loadKB (w:=w) (k:=k) ty3)<|Qw (qV_loadKB (w:=w) (k:=k) ty4)<|Qw (qV_loadC (w:=w) (k:=k) ty5)<|Qw (qV_loadC (w:=w) (k:=k) ty9)<|Qw (qV_loadKB (w:=w) (k:=k) ty9)<|Qw (qV_loadC (w:=w) (k:=k) ty22)<|Qw (qV_loadKB (w:=w) (k:=k) ty22)<|Qw ((by intro b o;exact qV_loadA ty24 b o _ rfl):(∀ b o,qV Pg (EC w) (Instr.loadAt 24 (.pointer (some ⟨b,o,none⟩))) k=onCells [w.cell? ⟨b,o,none⟩,w.cell? ⟨b,o+1,none⟩] (fun vs=>k (.agg vs.toArray)) (qVx Pg (EC w) (Instr.loadAt 24 (.pointer (some ⟨b,o,none⟩))) k)))<|Qw ((by intro b o;exact qV_loadA ty27 b o _ rfl):(∀ b o,qV Pg (EC w) (Instr.loadAt 27 (.pointer (some ⟨b,o,none⟩))) k=onCells [w.cell? ⟨b,o,none⟩,w.cell? ⟨b,o+1,none⟩,w.cell? ⟨b,o+2,none⟩] (fun vs=>k (.agg vs.toArray)) (qVx Pg (EC w) (Instr.loadAt 27 (.pointer (some ⟨b,o,none⟩))) k)))<|Qw (qV_loadC (w:=w) (k:=k) ty39)<|Qw (qV_loadC (w:=w) (k:=k) ty40)<|Qw (qV_loadC (w:=w) (k:=k) ty41)<|Qw ((by intro b o;exact qV_loadA ty43 b o _ rfl):(∀ b o,qV Pg (EC w) (Instr.loadAt 43 (.pointer (some ⟨b,o,none⟩))) k=onCells [w.cell? ⟨b,o,none⟩,w.cell? ⟨b,o+1,none⟩,w.cell? ⟨b,o+2,none⟩,w.cell? ⟨b,o+3,none⟩,w.cell? ⟨b,o+4,none⟩,w.cell? ⟨b,o+5,none⟩,w.cell? ⟨b,o+6,none⟩] (fun vs=>k (.agg vs.toArray)) (qVx Pg (EC w) (Instr.loadAt 43 (.pointer (some ⟨b,o,none⟩))) k)))<|Qw (qV_loadC (w:=w) (k:=k) ty58)<|Qw (qV_loadKB (w:=w) (k:=k) ty58)<|Qw ((by intro b o;exact qV_loadA ty60 b o _ rfl):(∀ b o,qV Pg (EC w) (Instr.loadAt 60 (.pointer (some ⟨b,o,none⟩))) k=onCells [w.cell? ⟨b,o,none⟩,w.cell? ⟨b,o+1,none⟩,w.cell? ⟨b,o+2,none⟩] (fun vs=>k (.agg vs.toArray)) (qVx Pg (EC w) (Instr.loadAt 60 (.pointer (some ⟨b,o,none⟩))) k)))<|Qw (qV_loadC (w:=w) (k:=k) ty72)<|Qw ((by intro b o;exact qV_loadA ty74 b o _ rfl):(∀ b o,qV Pg (EC w) (Instr.loadAt 74 (.pointer (some ⟨b,o,none⟩))) k=onCells [w.cell? ⟨b,o,none⟩,w.cell? ⟨b,o+1,none⟩] (fun vs=>k (.agg vs.toArray)) (qVx Pg (EC w) (Instr.loadAt 74 (.pointer (some ⟨b,o,none⟩))) k)))<|Qw ((by intro b o;exact qV_loadA ty78 b o _ rfl):(∀ b o,qV Pg (EC w) (Instr.loadAt 78 (.pointer (some ⟨b,o,none⟩))) k=onCells [w.cell? ⟨b,o,none⟩,w.cell? ⟨b,o+1,none⟩,w.cell? ⟨b,o+2,none⟩] (fun vs=>k (.agg vs.toArray)) (qVx Pg (EC w) (Instr.loadAt 78 (.pointer (some ⟨b,o,none⟩))) k)))<|(qV_loadC (w:=w) (k:=k) ty117)
def OPW1 {w:World} {k:Value→Prop}:=Qw (qV_loadC (w:=w) (k:=k) ty118)<|Qw ((by intro b o;exact qV_loadA ty120 b o _ rfl):(∀ b o,qV Pg (EC w) (Instr.loadAt 120 (.pointer (some ⟨b,o,none⟩))) k=onCells [w.cell? ⟨b,o,none⟩,w.cell? ⟨b,o+1,none⟩] (fun vs=>k (.agg vs.toArray)) (qVx Pg (EC w) (Instr.loadAt 120 (.pointer (some ⟨b,o,none⟩))) k)))<|Qw (qV_loadC (w:=w) (k:=k) ty121)<|Qw ((by intro b o;exact qV_loadA ty123 b o _ rfl):(∀ b o,qV Pg (EC w) (Instr.loadAt 123 (.pointer (some ⟨b,o,none⟩))) k=onCells [w.cell? ⟨b,o,none⟩,w.cell? ⟨b,o+1,none⟩,w.cell? ⟨b,o+2,none⟩,w.cell? ⟨b,o+3,none⟩,w.cell? ⟨b,o+4,none⟩,w.cell? ⟨b,o+5,none⟩,w.cell? ⟨b,o+6,none⟩,w.cell? ⟨b,o+7,none⟩,w.cell? ⟨b,o+8,none⟩,w.cell? ⟨b,o+9,none⟩,w.cell? ⟨b,o+10,none⟩,w.cell? ⟨b,o+11,none⟩,w.cell? ⟨b,o+12,none⟩,w.cell? ⟨b,o+13,none⟩,w.cell? ⟨b,o+14,none⟩] (fun vs=>k (.agg vs.toArray)) (qVx Pg (EC w) (Instr.loadAt 123 (.pointer (some ⟨b,o,none⟩))) k)))<|Qw ((by intro b o;exact qV_loadA ty128 b o _ rfl):(∀ b o,qV Pg (EC w) (Instr.loadAt 128 (.pointer (some ⟨b,o,none⟩))) k=onCells [w.cell? ⟨b,o,none⟩,w.cell? ⟨b,o+1,none⟩] (fun vs=>k (.agg vs.toArray)) (qVx Pg (EC w) (Instr.loadAt 128 (.pointer (some ⟨b,o,none⟩))) k)))<|Qw (qV_loadC (w:=w) (k:=k) ty167)<|Qw (qV_loadKB (w:=w) (k:=k) ty167)<|Qw (qV_loadC (w:=w) (k:=k) ty198)<|Qw (qV_loadKB (w:=w) (k:=k) ty198)<|Qw (qV_loadC (w:=w) (k:=k) ty199)<|Qw (qV_loadKB (w:=w) (k:=k) ty199)<|Qw ((by intro b o;exact qV_loadA ty213 b o _ rfl):(∀ b o,qV Pg (EC w) (Instr.loadAt 213 (.pointer (some ⟨b,o,none⟩))) k=onCells [w.cell? ⟨b,o,none⟩,w.cell? ⟨b,o+1,none⟩,w.cell? ⟨b,o+2,none⟩] (fun vs=>k (.agg vs.toArray)) (qVx Pg (EC w) (Instr.loadAt 213 (.pointer (some ⟨b,o,none⟩))) k)))<|Qw (qW_loadC (w:=w) (k:=k) ty4)<|Qw ((by intro b o;exact qW_loadA ty24 b o _ rfl):(∀ b o,qW Pg 24 (.pointer (some ⟨b,o,none⟩)) w k=onCells [w.cell? ⟨b,o,none⟩,w.cell? ⟨b,o+1,none⟩] (fun vs=>k (.agg vs.toArray)) (qWx Pg 24 (.pointer (some ⟨b,o,none⟩)) w k)))<|Qw ((by intro b o;exact qW_loadA ty27 b o _ rfl):(∀ b o,qW Pg 27 (.pointer (some ⟨b,o,none⟩)) w k=onCells [w.cell? ⟨b,o,none⟩,w.cell? ⟨b,o+1,none⟩,w.cell? ⟨b,o+2,none⟩] (fun vs=>k (.agg vs.toArray)) (qWx Pg 27 (.pointer (some ⟨b,o,none⟩)) w k)))<|Qw ((by intro b o;exact qW_loadA ty34 b o _ rfl):(∀ b o,qW Pg 34 (.pointer (some ⟨b,o,none⟩)) w k=onCells [w.cell? ⟨b,o,none⟩,w.cell? ⟨b,o+1,none⟩,w.cell? ⟨b,o+2,none⟩] (fun vs=>k (.agg vs.toArray)) (qWx Pg 34 (.pointer (some ⟨b,o,none⟩)) w k)))<|Qw (qW_loadC (w:=w) (k:=k) ty40)<|((by intro b o;exact qW_loadA ty43 b o _ rfl):(∀ b o,qW Pg 43 (.pointer (some ⟨b,o,none⟩)) w k=onCells [w.cell? ⟨b,o,none⟩,w.cell? ⟨b,o+1,none⟩,w.cell? ⟨b,o+2,none⟩,w.cell? ⟨b,o+3,none⟩,w.cell? ⟨b,o+4,none⟩,w.cell? ⟨b,o+5,none⟩,w.cell? ⟨b,o+6,none⟩] (fun vs=>k (.agg vs.toArray)) (qWx Pg 43 (.pointer (some ⟨b,o,none⟩)) w k)))
def OPW2 {w:World} {k:Value→Prop}:=Qw (qW_loadC (w:=w) (k:=k) ty49)<|Qw ((by intro b o;exact qW_loadA ty74 b o _ rfl):(∀ b o,qW Pg 74 (.pointer (some ⟨b,o,none⟩)) w k=onCells [w.cell? ⟨b,o,none⟩,w.cell? ⟨b,o+1,none⟩] (fun vs=>k (.agg vs.toArray)) (qWx Pg 74 (.pointer (some ⟨b,o,none⟩)) w k)))<|Qw ((by intro b o;exact qW_loadA ty78 b o _ rfl):(∀ b o,qW Pg 78 (.pointer (some ⟨b,o,none⟩)) w k=onCells [w.cell? ⟨b,o,none⟩,w.cell? ⟨b,o+1,none⟩,w.cell? ⟨b,o+2,none⟩] (fun vs=>k (.agg vs.toArray)) (qWx Pg 78 (.pointer (some ⟨b,o,none⟩)) w k)))<|Qw ((by intro b o;exact qW_loadA ty123 b o _ rfl):(∀ b o,qW Pg 123 (.pointer (some ⟨b,o,none⟩)) w k=onCells [w.cell? ⟨b,o,none⟩,w.cell? ⟨b,o+1,none⟩,w.cell? ⟨b,o+2,none⟩,w.cell? ⟨b,o+3,none⟩,w.cell? ⟨b,o+4,none⟩,w.cell? ⟨b,o+5,none⟩,w.cell? ⟨b,o+6,none⟩,w.cell? ⟨b,o+7,none⟩,w.cell? ⟨b,o+8,none⟩,w.cell? ⟨b,o+9,none⟩,w.cell? ⟨b,o+10,none⟩,w.cell? ⟨b,o+11,none⟩,w.cell? ⟨b,o+12,none⟩,w.cell? ⟨b,o+13,none⟩,w.cell? ⟨b,o+14,none⟩] (fun vs=>k (.agg vs.toArray)) (qWx Pg 123 (.pointer (some ⟨b,o,none⟩)) w k)))<|Qw ((by intro b o;exact qW_loadA ty131 b o _ rfl):(∀ b o,qW Pg 131 (.pointer (some ⟨b,o,none⟩)) w k=onCells [w.cell? ⟨b,o,none⟩,w.cell? ⟨b,o+1,none⟩,w.cell? ⟨b,o+2,none⟩] (fun vs=>k (.agg vs.toArray)) (qWx Pg 131 (.pointer (some ⟨b,o,none⟩)) w k)))<|Qw ((by intro b o;exact qW_loadA ty287 b o _ rfl):(∀ b o,qW Pg 287 (.pointer (some ⟨b,o,none⟩)) w k=onCells [w.cell? ⟨b,o,none⟩,w.cell? ⟨b,o+1,none⟩,w.cell? ⟨b,o+2,none⟩,w.cell? ⟨b,o+3,none⟩,w.cell? ⟨b,o+4,none⟩,w.cell? ⟨b,o+5,none⟩,w.cell? ⟨b,o+6,none⟩,w.cell? ⟨b,o+7,none⟩,w.cell? ⟨b,o+8,none⟩,w.cell? ⟨b,o+9,none⟩,w.cell? ⟨b,o+10,none⟩,w.cell? ⟨b,o+11,none⟩,w.cell? ⟨b,o+12,none⟩] (fun vs=>k (.agg vs.toArray)) (qWx Pg 287 (.pointer (some ⟨b,o,none⟩)) w k)))<|((by intro b o;exact qW_loadA ty300 b o _ rfl):(∀ b o,qW Pg 300 (.pointer (some ⟨b,o,none⟩)) w k=onCells [w.cell? ⟨b,o,none⟩,w.cell? ⟨b,o+1,none⟩] (fun vs=>k (.agg vs.toArray)) (qWx Pg 300 (.pointer (some ⟨b,o,none⟩)) w k)))
def OPQ0 {C:World→Prop} [ClassNe C] {k:Value→Prop}:=Qw ((by intros;apply qV_of;intros;apply o8<;>assumption):(∀ r s,qV Pg C (Builtin.len_ #[9] r #[.string s]) k=k (.int .i64 (s.size:Int))))<|Qw ((by intros;apply qV_of;intros;apply o11<;>assumption):(∀ b o len cap ik (i:Nat),i < len→qV Pg C (Instr.indexAt 22 (.slice (some ⟨b,o,none⟩) len cap) (.int ik (i:Int))) k=k (.pointer (some ⟨b,o+i*3,none⟩))))<|Qw (qV_two (C:=C) (k:=k) fun QP w k => @o12 QP w k)<|Qw (qV_two (C:=C) (k:=k) fun QP w k => @o13 QP w k)<|Qw (qV_two (C:=C) (k:=k) fun QP w k => @o21 QP w k)<|Qw ((by intros;apply qV_of;intros;apply o30<;>assumption):(∀ r a n c,qV Pg C (Builtin.len_ #[40] r #[.slice a n c]) k=k (.int .i64 (n:Int))))<|Qw ((by intros;apply qV_of;intros;apply o31<;>assumption):(∀ b o len cap ik (i:Nat),i < len→qV Pg C (Instr.indexAt 40 (.slice (some ⟨b,o,none⟩) len cap) (.int ik (i:Int))) k=k (.pointer (some ⟨b,o+i*1,none⟩))))<|Qw ((by intros;apply qV_of;intros;apply o35<;>assumption):(∀ b o len cap ik (i:Nat),i < len→qV Pg C (Instr.indexAt 41 (.slice (some ⟨b,o,none⟩) len cap) (.int ik (i:Int))) k=k (.pointer (some ⟨b,o+i*3,none⟩))))<|Qw (qV_two (C:=C) (k:=k) fun QP w k => @o36 QP w k)<|Qw (qV_two (C:=C) (k:=k) fun QP w k => @o37 QP w k)<|Qw (qV_two (C:=C) (k:=k) fun QP w k => @o38 QP w k)<|Qw (qV_two (C:=C) (k:=k) fun QP w k => @o39 QP w k)<|Qw (qV_two (C:=C) (k:=k) fun QP w k => @o40 QP w k)<|Qw (qV_two (C:=C) (k:=k) fun QP w k => @o41 QP w k)<|Qw (qV_two (C:=C) (k:=k) fun QP w k => @o42 QP w k)<|Qw ((by intros;apply qV_of;intros;apply o48<;>assumption):(∀ b o len cap ik (i:Nat),i < len→qV Pg C (Instr.indexAt 58 (.slice (some ⟨b,o,none⟩) len cap) (.int ik (i:Int))) k=k (.pointer (some ⟨b,o+i*7,none⟩))))<|Qw (qV_two (C:=C) (k:=k) fun QP w k => @o50 QP w k)<|Qw (qV_two (C:=C) (k:=k) fun QP w k => @o51 QP w k)<|Qw (qV_two (C:=C) (k:=k) fun QP w k => @o52 QP w k)<|Qw ((by intros;apply qV_of;intros;apply o61<;>assumption):(∀ b o len cap ik (i:Nat),i < len→qV Pg C (Instr.indexAt 72 (.slice (some ⟨b,o,none⟩) len cap) (.int ik (i:Int))) k=k (.pointer (some ⟨b,o+i*15,none⟩))))<|Qw (qV_two (C:=C) (k:=k) fun QP w k => @o62 QP w k)<|Qw (qV_two (C:=C) (k:=k) fun QP w k => @o63 QP w k)<|Qw (qV_two (C:=C) (k:=k) fun QP w k => @o66 QP w k)<|Qw (qV_two (C:=C) (k:=k) fun QP w k => @o67 QP w k)<|Qw (qV_two (C:=C) (k:=k) fun QP w k => @o68 QP w k)<|Qw (qV_two (C:=C) (k:=k) fun QP w k => @o71 QP w k)<|(qV_two (C:=C) (k:=k) fun QP w k => @o72 QP w k)
def OPQ1 {C:World→Prop} [ClassNe C] {k:Value→Prop}:=Qw (qV_two (C:=C) (k:=k) fun QP w k => @o73 QP w k)<|Qw (qV_two (C:=C) (k:=k) fun QP w k => @o74 QP w k)<|Qw (qV_two (C:=C) (k:=k) fun QP w k => @o75 QP w k)<|Qw ((by intros;apply qV_of;intros;apply o79<;>assumption):(∀ r a n c,qV Pg C (Builtin.len_ #[94] r #[.slice a n c]) k=k (.int .i64 (n:Int))))<|Qw ((by intros;apply qV_of;intros;apply o80<;>assumption):(∀ b o len cap ik (i:Nat),i < len→qV Pg C (Instr.indexAt 94 (.slice (some ⟨b,o,none⟩) len cap) (.int ik (i:Int))) k=k (.pointer (some ⟨b,o+i*1,none⟩))))<|Qw ((by intros;apply qV_of;intros;apply o87<;>assumption):(∀ v0 v1 v2 v3 v4,qV Pg C (Instr.field 105 (.agg #[v0,v1,v2,v3,v4]) 0) k=k v0))<|Qw ((by intros;apply qV_of;intros;apply o92<;>assumption):(∀ r a n c,qV Pg C (Builtin.len_ #[118] r #[.slice a n c]) k=k (.int .i64 (n:Int))))<|Qw ((by intros;apply qV_of;intros;apply o93<;>assumption):(∀ b o len cap ik (i:Nat),i < len→qV Pg C (Instr.indexAt 118 (.slice (some ⟨b,o,none⟩) len cap) (.int ik (i:Int))) k=k (.pointer (some ⟨b,o+i*2,none⟩))))<|Qw (qV_two (C:=C) (k:=k) fun QP w k => @o95 QP w k)<|Qw (qV_two (C:=C) (k:=k) fun QP w k => @o96 QP w k)<|Qw ((by intros;apply qV_of;intros;apply o101<;>assumption):(∀ b o len cap ik (i:Nat),i < len→qV Pg C (Instr.indexAt 121 (.slice (some ⟨b,o,none⟩) len cap) (.int ik (i:Int))) k=k (.pointer (some ⟨b,o+i*3,none⟩))))<|Qw (qV_two (C:=C) (k:=k) fun QP w k => @o102 QP w k)<|Qw (qV_two (C:=C) (k:=k) fun QP w k => @o103 QP w k)<|Qw (qV_two (C:=C) (k:=k) fun QP w k => @o104 QP w k)<|Qw (qV_two (C:=C) (k:=k) fun QP w k => @o107 QP w k)<|Qw (qV_two (C:=C) (k:=k) fun QP w k => @o108 QP w k)<|Qw (qV_two (C:=C) (k:=k) fun QP w k => @o109 QP w k)<|Qw (qV_two (C:=C) (k:=k) fun QP w k => @o110 QP w k)<|Qw (qV_two (C:=C) (k:=k) fun QP w k => @o111 QP w k)<|Qw (qV_two (C:=C) (k:=k) fun QP w k => @o112 QP w k)<|Qw (qV_two (C:=C) (k:=k) fun QP w k => @o113 QP w k)<|Qw (qV_two (C:=C) (k:=k) fun QP w k => @o118 QP w k)<|Qw (qV_two (C:=C) (k:=k) fun QP w k => @o119 QP w k)<|Qw (qV_two (C:=C) (k:=k) fun QP w k => @o136 QP w k)<|Qw (qV_two (C:=C) (k:=k) fun QP w k => @o137 QP w k)<|(qV_two (C:=C) (k:=k) fun QP w k => @o138 QP w k)
def OPQ2 {C:World→Prop} [ClassNe C] {k:Value→Prop}:=Qw (qV_two (C:=C) (k:=k) fun QP w k => @o139 QP w k)<|Qw (qV_two (C:=C) (k:=k) fun QP w k => @o140 QP w k)<|Qw ((by intros;apply qV_of;intros;apply o153<;>assumption):(∀ b o len cap ik (i:Nat),i < len→qV Pg C (Instr.indexAt 264 (.slice (some ⟨b,o,none⟩) len cap) (.int ik (i:Int))) k=k (.pointer (some ⟨b,o+i*3,none⟩))))<|Qw (qV_two (C:=C) (k:=k) fun QP w k => @o155 QP w k)<|Qw (qV_two (C:=C) (k:=k) fun QP w k => @o156 QP w k)<|Qw ((by intros;apply qV_of;intros;apply o185<;>assumption):(∀ v0 v1:Value,v0.oneCell'=true→v1.oneCell'=true→qV Pg C (Instr.build 60 #[(0,v0),(1,v1)]) k=k (.agg #[v0,v1,.slice none 0 0])))<|Qw ((by intros;apply qV_of;intros;apply o189<;>assumption):(∀ v1:Value,v1.oneCell'=true→qV Pg C (Instr.build 74 #[(1,v1)]) k=k (.agg #[.string Qy,v1])))<|((by intros;apply qV_of;intros;apply o192<;>assumption):(∀ v0 v1 v2:Value,v0.oneCell'=true→v1.oneCell'=true→v2.oneCell'=true→qV Pg C (Instr.build 82 #[(0,v0),(1,v1),(2,v2)]) k=k (.agg #[v0,v1,v2])))
def OPQ3 {C:World→Prop} [ClassNe C] {k:Value→Prop}:=Qw ((by intros;apply qV_of;intros;apply o207<;>assumption):(∀ v0 v1 v2:Value,v0.oneCell'=true→v1.oneCell'=true→v2.oneCell'=true→qV Pg C (Instr.build 131 #[(0,v0),(1,v1),(2,v2)]) k=k (.agg #[v0,v1,v2])))<|Qw ((by intros;apply qV_of;intros;apply o241<;>assumption):(∀ q n,qV Pg C (Go.convert 3 5 (.int q n)) k=k (.int .u8 (IntKind.u8.wrap n))))<|Qw ((by intros;apply qV_of;intros;apply o255<;>assumption):(∀ v,qV Pg C (Instr.makeInterface 82 v) k=k (.iface 82 v)))<|((by intros;apply qV_of;intros;apply o256<;>assumption):(∀ v,qV Pg C (Instr.makeInterface 131 v) k=k (.iface 131 v)))
def OPQ4 {C:World→Prop} [ClassNe C] {k:Value→Prop}:=Qw ((by intros;apply qV_of;intros;apply o269<;>assumption):(∀ c (a0 b0:Int) (a1 b1:Int) (a2 b2:Int),qV Pg C (binS .neq 78 c (.agg #[.int .i64 a0,.int .i64 a1,.int .i64 a2]) (.agg #[.int .i64 b0,.int .i64 b1,.int .i64 b2])) k=k (.bool (!(decide (a0=b0)&&(decide (a1=b1)&&(decide (a2=b2)&&true)))))))<|Qw ((by intros;apply qV_of;intros;apply o272<;>assumption):(∀ c (a0 b0:ByteArray) (a1 b1:Int),qV Pg C (binS .neq 128 c (.agg #[.string a0,.int .i64 a1]) (.agg #[.string b0,.int .i64 b1])) k=k (.bool (!(decide (a0=b0)&&(decide (a1=b1)&&true))))))<|Qw ((by intros;apply qV_of;intros;apply o276<;>assumption):(∀ c (a0 b0:Int) (a1 b1:Int) (a2 b2:ByteArray),qV Pg C (binS .neq 213 c (.agg #[.int .i64 a0,.int .i64 a1,.string a2]) (.agg #[.int .i64 b0,.int .i64 b1,.string b2])) k=k (.bool (!(decide (a0=b0)&&(decide (a1=b1)&&(decide (a2=b2)&&true)))))))<|((by intros;apply qV_of;intros;apply o277<;>assumption):(∀ c (a0 b0:ByteArray) (a1 b1:ByteArray) (a2 b2:ByteArray) (a3 b3:ByteArray) (a4 b4:Int) (a5 b5:Int) (a6 b6:Int) (a7 b7:Int) (a8 b8:Int) (a9 b9:Int) (a10 b10:Int) (a11 b11:Bool) (a12 b12:Bool),qV Pg C (binS .eql 287 c (.agg #[.string a0,.string a1,.string a2,.string a3,.int .i64 a4,.int .i64 a5,.int .i64 a6,.int .i64 a7,.int .i64 a8,.int .i64 a9,.int .i64 a10,.bool a11,.bool a12]) (.agg #[.string b0,.string b1,.string b2,.string b3,.int .i64 b4,.int .i64 b5,.int .i64 b6,.int .i64 b7,.int .i64 b8,.int .i64 b9,.int .i64 b10,.bool b11,.bool b12])) k=k (.bool (decide (a0=b0)&&(decide (a1=b1)&&(decide (a2=b2)&&(decide (a3=b3)&&(decide (a4=b4)&&(decide (a5=b5)&&(decide (a6=b6)&&(decide (a7=b7)&&(decide (a8=b8)&&(decide (a9=b9)&&(decide (a10=b10)&&(decide (a11=b11)&&(decide (a12=b12)&&true))))))))))))))))
end
def PR:=Qw @L0_eq<|Qw @F0_eq<|Qw @X0_eq<|Qw @B0_eq<|Qw @C0_eq<|Qw @GEN<|Qw @op_makeMap<|Qw @CTL<|Qw @GENQ<|Qw @o0<|Qw @o1<|Qw @o2<|Qw @o3<|Qw @o5<|Qw @o6<|Qw @o7<|Qw @o8<|Qw @o9<|Qw @o10<|Qw @o11<|Qw @o12<|Qw @o13<|Qw @o14<|Qw @o15<|Qw @o16<|Qw @o17<|Qw @o18<|Qw @o19<|Qw @o20<|Qw @o21<|Qw @o22<|Qw @o23<|Qw @o26<|Qw @o27<|Qw @o28<|Qw @o29<|Qw @o30<|Qw @o31<|Qw @o32<|Qw @o33<|Qw @o34<|Qw @o35<|Qw @o36<|Qw @o37<|Qw @o38<|Qw @o39<|Qw @o40<|Qw @o41<|Qw @o42<|Qw @o43<|Qw @o44<|Qw @o45<|Qw @o46<|Qw @o47<|Qw @o48<|Qw @o49<|Qw @o50<|Qw @o51<|Qw @o52<|Qw @o53<|Qw @o54<|Qw @o55<|Qw @o56<|Qw @o57<|Qw @o58<|Qw @o59<|Qw @o60<|Qw @o61<|Qw @o62<|Qw @o63<|Qw @o64<|Qw @o65<|Qw @o66<|Qw @o67<|Qw @o68<|Qw @o69<|Qw @o70<|Qw @o71<|Qw @o74<|Qw @o75<|Qw @o76<|Qw @o77<|Qw @o78<|Qw @o79<|Qw @o80<|Qw @o81<|Qw @o82<|Qw @o83<|Qw @o84<|Qw @o85<|Qw @o86<|Qw @o88<|Qw @o89<|Qw @o90<|Qw @o91<|Qw @o92<|Qw @o93<|Qw @o94<|Qw @o95<|Qw @o96<|Qw @o97<|Qw @o99<|Qw @o100<|Qw @o101<|Qw @o102<|Qw @o103<|Qw @o104<|Qw @o105<|Qw @o106<|Qw @o107<|Qw @o108<|Qw @o109<|Qw @o110<|Qw @o111<|Qw @o112<|Qw @o113<|Qw @o114<|Qw @o115<|Qw @o116<|Qw @o117<|Qw @o118<|Qw @o119<|Qw @o120<|Qw @o121<|Qw @o122<|Qw @o123<|Qw @o127<|Qw @o129<|Qw @o130<|Qw @o131<|Qw @o133<|Qw @o134<|Qw @o135<|Qw @o136<|Qw @o137<|Qw @o138<|Qw @o139<|Qw @o141<|Qw @o142<|Qw @o143<|Qw @o144<|Qw @o145<|Qw @o147<|Qw @o148<|Qw @o149<|Qw @o150<|Qw @o151<|Qw @o152<|Qw @o153<|Qw @o154<|Qw @o155<|Qw @o156<|Qw @o157<|Qw @o158<|Qw @o163<|Qw @o164<|Qw @o165<|Qw @o166<|Qw @o167<|Qw @o168<|Qw @o169<|Qw @o170<|Qw @o171<|Qw @o172<|Qw @o173<|Qw @o174<|Qw @o175<|Qw @o176<|Qw @o177<|Qw @o178<|Qw @o179<|Qw @o181<|Qw @o182<|Qw @o183<|Qw @o184<|Qw @o185<|Qw @o186<|Qw @o187<|Qw @o188<|Qw @o189<|Qw @o190<|Qw @o191<|Qw @o193<|Qw @o194<|Qw @o195<|Qw @o196<|Qw @o197<|Qw @o198<|Qw @o199<|Qw @o200<|Qw @o201<|Qw @o202<|Qw @o203<|Qw @o204<|Qw @o205<|Qw @o206<|Qw @o208<|Qw @o209<|Qw @o213<|Qw @o215<|Qw @o216<|Qw @o217<|Qw @o218<|Qw @o219<|Qw @o220<|Qw @o221<|Qw @o222<|Qw @o223<|Qw @o224<|Qw @o225<|Qw @o226<|Qw @o227<|Qw @o228<|Qw @o229<|Qw @o230<|Qw @o231<|Qw @o232<|Qw @o233<|Qw @o234<|Qw @o235<|Qw @o237<|Qw @o238<|Qw @o241<|Qw @o242<|Qw @o243<|Qw @o244<|Qw @o246<|Qw @o250<|Qw @o257<|Qw @o264<|Qw @o266<|Qw @o267<|Qw @o270<|Qw @o273<|Qw @o274<|Qw @OPU0<|Qw @OPW0<|Qw @OPW1<|Qw @OPW2<|Qw @OPQ0<|Qw @OPQ1<|Qw @OPQ2<|Qw @OPQ3<|Qw @OPQ4<|Qw @joinK_eq<|Qw @op_rem<|Qw @qV_shl<|Qw @qV_rem<|Qw @guard_undef <| @op_shl
def QR:=Qw @OPA0<|Qw @dirty_eq<|Qw @onCells_nil<|Qw @onCells_some<|Qw @onFree_nil<|Qw @onFree_false<|Qw @guard_or<|Qw @guard_and<|Qw @STD<|Qw @heap_newE<|Qw @heap_oldE<|Qw @heap_setE<|Qw @cell_newE<|Qw @frozen_newE<|Qw @set_newE<|Qw @cell_old<|Qw @frozen_old<|Qw @set_old<|Qw @wrap_succ<|Qw @List.setIfInBounds_toArray.{0}<|Qw @List.set_cons_zero.{0}<|Qw @List.set_cons_succ.{0}<|Qw @decide_true<|Qw @decide_false<|Qw @Bool.false_eq_true<|Qw @Option.isSome_some.{0}<|Qw @Option.isSome_none.{0}<|Qw @Option.getD_some.{0}<|Qw @Option.getD_none.{0}<|Qw @cell_set_map<|Qw @cell_set_other<|Qw @Option.map_some.{0,0}<|Qw @List.getElem?_toArray.{0}<|Qw @List.getElem?_cons_succ.{0}<|Qw @List.getElem?_cons_zero.{0}<|Qw @Nat.zero_add<|Qw @World.size_alloc<|Qw @World.size_setCell<|Qw @World.size_drew<|Qw @Bool.not_true<|Qw @Bool.not_false<|Qw @Bool.and_true<|Qw @Bool.true_and<|Qw @Bool.and_false<|Qw @Bool.false_and<|Qw @Bool.or_true<|Qw @Bool.true_or<|Qw @Bool.or_false<|Qw @Bool.false_or <| @Bool.not_not
theorem Qp {A p q:Prop} (a:A) (x:q) (h:A→(p=q):=by intro E1;simp (disch:=try exact DI) only [↓PR,QR,simprocAttr,E1];exact rfl):p:=h a ▸ x
theorem Q1 {A p:Prop} (a:A) (h:A→p:=by intro E1;simp (disch:=try exact DI) only [↓PR,QR,simprocAttr,E1]):p:=h a
theorem QJ {A B p q:Prop} (a:A) (b:B) (x:q) (h:A→B→(p=q):=by intro E1 E2;simp (disch:=try exact DI) only [↓PR,QR,simprocAttr,E1,E2];exact rfl):p:=h a b ▸ x
theorem Q2 {A B p:Prop} (a:A) (b:B) (h:A→B→p:=by intro E1 E2;simp (disch:=try exact DI) only [↓PR,QR,simprocAttr,E1,E2]):p:=h a b
theorem QQ {A B C p q:Prop} (a:A) (b:B) (c:C) (x:q) (h:A→B→C→(p=q):=by intro E1 E2 E3;simp (disch:=try exact DI) only [↓PR,QR,simprocAttr,E1,E2,E3];exact rfl):p:=h a b c ▸ x
theorem Q3 {A B C p:Prop} (a:A) (b:B) (c:C) (h:A→B→C→p:=by intro E1 E2 E3;simp (disch:=try exact DI) only [↓PR,QR,simprocAttr,E1,E2,E3]):p:=h a b c
theorem QX {A B C D p q:Prop} (a:A) (b:B) (c:C) (d:D) (x:q) (h:A→B→C→D→(p=q):=by intro E1 E2 E3 E4;simp (disch:=try exact DI) only [↓PR,QR,simprocAttr,E1,E2,E3,E4];exact rfl):p:=h a b c d ▸ x
theorem Q4 {A B C D p:Prop} (a:A) (b:B) (c:C) (d:D) (h:A→B→C→D→p:=by intro E1 E2 E3 E4;simp (disch:=try exact DI) only [↓PR,QR,simprocAttr,E1,E2,E3,E4]):p:=h a b c d
theorem QY {A B C D E p q:Prop} (a:A) (b:B) (c:C) (d:D) (e:E) (x:q) (h:A→B→C→D→E→(p=q):=by intro E1 E2 E3 E4 E5;simp (disch:=try exact DI) only [↓PR,QR,simprocAttr,E1,E2,E3,E4,E5];exact rfl):p:=h a b c d e ▸ x
theorem Q5 {A B C D E p:Prop} (a:A) (b:B) (c:C) (d:D) (e:E) (h:A→B→C→D→E→p:=by intro E1 E2 E3 E4 E5;simp (disch:=try exact DI) only [↓PR,QR,simprocAttr,E1,E2,E3,E4,E5]):p:=h a b c d e
theorem Q0 {A B C D E F p q:Prop} (a:A) (b:B) (c:C) (d:D) (e:E) (f:F) (x:q) (h:A→B→C→D→E→F→(p=q):=by intro E1 E2 E3 E4 E5 E6;simp (disch:=try exact DI) only [↓PR,QR,simprocAttr,E1,E2,E3,E4,E5,E6];exact rfl):p:=h a b c d e f ▸ x
theorem Q6 {A B C D E F p:Prop} (a:A) (b:B) (c:C) (d:D) (e:E) (f:F) (h:A→B→C→D→E→F→p:=by intro E1 E2 E3 E4 E5 E6;simp (disch:=try exact DI) only [↓PR,QR,simprocAttr,E1,E2,E3,E4,E5,E6]):p:=h a b c d e f
theorem Qf {p q:Prop} (a:q) (h:p=q:=by simp (disch:=try exact DI) only [↓PR,QR,simprocAttr];exact rfl):p:=h ▸ a
theorem Qg {p q:Prop} (a:q) (h:p=q:=by simp (disch:=try exact DI) only [↓PR,QR,simprocAttr,Sw.joinK_eq];exact rfl):p:=h ▸ a
theorem Qb {p:Prop} (h:p:=by simp (disch:=try exact DI) only [↓PR,QR,simprocAttr]):p:=h
theorem Qm {p:Prop} (h:p:=by simp (disch:=try exact DI) only [↓PR,QR,simprocAttr,Sw.joinK_eq]):p:=h
theorem SZ:type_of% (And.intro @World.size_alloc<|And.intro @World.size_setCell<|And.intro @World.size_drew<|And.intro @World.putObj_size <| @putW_size):=(And.intro @World.size_alloc<|And.intro @World.size_setCell<|And.intro @World.size_drew<|And.intro @World.putObj_size <| @putW_size)
theorem DI {p:Prop} (h:p:=by first | assumption | (simp only [ONE];done) | rfl | (simp only [SZ];done) | omega | (simp only [SZ] at *;omega)):p:=h
theorem ee {a b:World} (h:Ext a b:=by repeat' first | exact Ext.refl _ | assumption | apply Ext.alloc | apply Ext.wdrew | apply Ext.drew | (refine Ext.setCell ?_ (by first | omega | (simp only [SZ] at *;omega)) _) | (refine Ext.putObj ?_ (by first | omega | (simp only [SZ] at *;omega)) _) | (refine Ext.trans ?_ (by assumption))):Ext a b:=h
structure TermD where
 field:ByteArray
 factor:Int
 deriving DecidableEq
structure CaseD where
 low:Int
 high:Int
 of:ByteArray
 deriving DecidableEq
structure FieldD where
 name:ByteArray
 kind:Int
 bits:Int
 little:Bool
 loose:Bool
 low:Int
 high:Int
 base:Int
 terms:List TermD
 of:ByteArray
 tag:ByteArray
 fr:ByteArray
 cases:List CaseD
 check:Int
 key:Int
 deriving DecidableEq
structure MsgD where
 name:ByteArray
 fields:List FieldD
 deriving DecidableEq
structure DefD where
 name:ByteArray
 msgs:List MsgD
 start:ByteArray
 deriving DecidableEq
abbrev termCells (t:TermD):List Value:=[.string t.field,.int .i64 t.factor]
abbrev caseCells (c:CaseD):List Value:=[.int .i64 c.low,.int .i64 c.high,.string c.of]
abbrev fieldCells (f:FieldD) (tv cv:Value):List Value:=[.string f.name,.int .i64 f.kind,.int .i64 f.bits,.bool f.little,.bool f.loose,.int .i64 f.low,.int .i64 f.high,.int .i64 f.base,tv,.string f.of,.string f.tag,.string f.fr,cv,.int .i64 f.check,.int .i64 f.key]
abbrev msgCells (m:MsgD) (fv:Value):List Value:=[.string m.name,fv]
abbrev defCells (d:DefD) (mv:Value):List Value:=[.string d.name,mv,.string d.start]
def ETerm (_:World) (cs:List Value) (t:TermD):Prop:=cs=termCells t
def ECase (_:World) (cs:List Value) (c:CaseD):Prop:=cs=caseCells c
def TermsOf (w:World) (v:Value) (l:List TermD):Prop:=SliceOf w 2 ETerm v l
def CasesOf (w:World) (v:Value) (l:List CaseD):Prop:=SliceOf w 3 ECase v l
def EField (w:World) (cs:List Value) (f:FieldD):Prop:=∃ tv cv,cs=fieldCells f tv cv∧TermsOf w tv f.terms∧CasesOf w cv f.cases
def FieldsOf (w:World) (v:Value) (l:List FieldD):Prop:=SliceOf w 15 EField v l
def EMsg (w:World) (cs:List Value) (m:MsgD):Prop:=∃ fv,cs=msgCells m fv∧FieldsOf w fv m.fields
def MsgsOf (w:World) (v:Value) (l:List MsgD):Prop:=SliceOf w 2 EMsg v l
def EByte (_:World) (cs:List Value) (b:UInt8):Prop:=cs=[.int .u8 b.toNat]
def EBool (_:World) (cs:List Value) (b:Bool):Prop:=cs=[.bool b]
def EStr (_:World) (cs:List Value) (s:ByteArray):Prop:=cs=[.string s]
def EInt (_:World) (cs:List Value) (n:Int):Prop:=cs=[.int .i64 n]
theorem keptTerm:Kept ETerm:=fun _ _ _ _ _ h=>h
theorem keptCase:Kept ECase:=fun _ _ _ _ _ h=>h
theorem keptByte:Kept EByte:=fun _ _ _ _ _ h=>h
theorem keptStr:Kept EStr:=fun _ _ _ _ _ h=>h
theorem keptField:Kept EField:=fun _ _ _ _ e ⟨tv,cv,h,h1,h2⟩=>⟨tv,cv,h,h1.ext keptTerm e,h2.ext keptCase e⟩
theorem keptMsg:Kept EMsg:=fun _ _ _ _ e ⟨fv,h,h1⟩=>⟨fv,h,h1.ext keptField e⟩
theorem TermsOf.ext {w w':World} {v:Value} {l:List TermD} (h:TermsOf w v l) (e:Ext w w'):TermsOf w' v l:=SliceOf.ext keptTerm h e
theorem CasesOf.ext {w w':World} {v:Value} {l:List CaseD} (h:CasesOf w v l) (e:Ext w w'):CasesOf w' v l:=SliceOf.ext keptCase h e
theorem FieldsOf.ext {w w':World} {v:Value} {l:List FieldD} (h:FieldsOf w v l) (e:Ext w w'):FieldsOf w' v l:=SliceOf.ext keptField h e
theorem MsgsOf.ext {w w':World} {v:Value} {l:List MsgD} (h:MsgsOf w v l) (e:Ext w w'):MsgsOf w' v l:=SliceOf.ext keptMsg h e
theorem EField.op {w:World} {cs:List Value} {f:FieldD} (h:EField w cs f):∃ tv cv,cs=fieldCells f tv cv∧TermsOf w tv f.terms∧CasesOf w cv f.cases∧tv.oneCell'=true∧cv.oneCell'=true:=by
 obtain ⟨tv,cv,h1,h2,h3⟩:=h;exact ⟨tv,cv,h1,h2,h3,SliceOf.oneCell h2,SliceOf.oneCell h3⟩
def FieldVal (w:World) (v:Value) (f:FieldD):Prop:=∃ tv cv,v = .agg (fieldCells f tv cv).toArray∧TermsOf w tv f.terms∧CasesOf w cv f.cases
def MsgVal (w:World) (v:Value) (m:MsgD):Prop:=∃ fv,v = .agg (msgCells m fv).toArray∧FieldsOf w fv m.fields
def DefVal (w:World) (v:Value) (d:DefD):Prop:=∃ mv,v = .agg (defCells d mv).toArray∧MsgsOf w mv d.msgs
def SizeVal (w:World) (v:Value) (base:Int) (ts:List TermD):Prop:=∃ tv,v = .agg #[.int .i64 base,tv]∧TermsOf w tv ts
def termVal (t:TermD):Value := .agg (termCells t).toArray
theorem FieldVal.ext {w w':World} {v:Value} {f:FieldD} (h:FieldVal w v f) (e:Ext w w'):FieldVal w' v f:=by obtain ⟨tv,cv,h,h1,h2⟩:=h;exact ⟨tv,cv,h,h1.ext e,h2.ext e⟩
theorem FieldVal.op {w:World} {v:Value} {f:FieldD} (h:FieldVal w v f):∃ tv cv,v = .agg (fieldCells f tv cv).toArray∧TermsOf w tv f.terms∧CasesOf w cv f.cases∧tv.oneCell'=true∧cv.oneCell'=true:=by
 obtain ⟨tv,cv,h1,h2,h3⟩:=h;exact ⟨tv,cv,h1,h2,h3,SliceOf.oneCell h2,SliceOf.oneCell h3⟩
theorem MsgVal.ext {w w':World} {v:Value} {m:MsgD} (h:MsgVal w v m) (e:Ext w w'):MsgVal w' v m:=by obtain ⟨fv,h,h1⟩:=h;exact ⟨fv,h,h1.ext e⟩
theorem DefVal.ext {w w':World} {v:Value} {d:DefD} (h:DefVal w v d) (e:Ext w w'):DefVal w' v d:=by obtain ⟨fv,h,h1⟩:=h;exact ⟨fv,h,h1.ext e⟩
def Tests {α:Type} (w0:World) (V:World→Value→α→Prop) (g:FuncId) (caps:Array Value) (p:α→Bool) (l:List α):Prop :=
 ∀ w v x,x∈l→Ext w0 w→V w v x→Ret Pg g (#[v]++caps) w fun r w'=>r = .bool (p x)∧Ext w w'
structure RowD where
 low:Int
 high:Int
 to:Int
 deriving DecidableEq
structure FrD where
 to:ByteArray
 kind:Int
 fr:ByteArray
 add:Int
 value:Int
 bytes:List UInt8
 table:List RowD
 deriving DecidableEq
structure MrD where
 fr:ByteArray
 to:ByteArray
 fields:List FrD
 deriving DecidableEq
structure MapD where
 name:ByteArray
 rules:List MrD
 deriving DecidableEq
abbrev rowCells (x:RowD):List Value:=[.int .i64 x.low,.int .i64 x.high,.int .i64 x.to]
abbrev frCells (x:FrD) (bv tv:Value):List Value:=[.string x.to,.int .i64 x.kind,.string x.fr,.int .i64 x.add,.int .i64 x.value,bv,tv]
abbrev mrCells (x:MrD) (fv:Value):List Value:=[.string x.fr,.string x.to,fv]
abbrev mapCells (m:MapD) (rv:Value):List Value:=[.string m.name,rv]
def ERow (_:World) (cs:List Value) (x:RowD):Prop:=cs=rowCells x
theorem keptRow:Kept ERow:=fun _ _ _ _ _ h=>h
def ByOf (w:World) (v:Value) (l:List UInt8):Prop:=SliceOf w 1 EByte v l
def RowsOf (w:World) (v:Value) (l:List RowD):Prop:=SliceOf w 3 ERow v l
section
variable {w w':World} {v:Value}
theorem ByOf.ext {l:List UInt8} (h:ByOf w v l) (e:Ext w w'):ByOf w' v l:=SliceOf.ext keptByte h e
theorem RowsOf.ext {l:List RowD} (h:RowsOf w v l) (e:Ext w w'):RowsOf w' v l:=SliceOf.ext keptRow h e
end
def EFr (w:World) (cs:List Value) (x:FrD):Prop:=∃ bv tv,cs=frCells x bv tv∧ByOf w bv x.bytes∧RowsOf w tv x.table
theorem keptFr:Kept EFr:=fun _ _ _ _ e ⟨bv,tv,h,h1,h2⟩=>⟨bv,tv,h,h1.ext e,h2.ext e⟩
def FrsOf (w:World) (v:Value) (l:List FrD):Prop:=SliceOf w 7 EFr v l
theorem FrsOf.ext {w w':World} {v:Value} {l:List FrD} (h:FrsOf w v l) (e:Ext w w'):FrsOf w' v l:=SliceOf.ext keptFr h e
def EMr (w:World) (cs:List Value) (x:MrD):Prop:=∃ fv,cs=mrCells x fv∧FrsOf w fv x.fields
theorem keptMr:Kept EMr:=fun _ _ _ _ e ⟨fv,h,h1⟩=>⟨fv,h,h1.ext e⟩
def MrsOf (w:World) (v:Value) (l:List MrD):Prop:=SliceOf w 3 EMr v l
theorem MrsOf.ext {w w':World} {v:Value} {l:List MrD} (h:MrsOf w v l) (e:Ext w w'):MrsOf w' v l:=SliceOf.ext keptMr h e
def FrVal (w:World) (v:Value) (x:FrD):Prop:=∃ bv tv,v = .agg (frCells x bv tv).toArray∧ByOf w bv x.bytes∧RowsOf w tv x.table
def MrVal (w:World) (v:Value) (x:MrD):Prop:=∃ fv,v = .agg (mrCells x fv).toArray∧FrsOf w fv x.fields
def MapVal (w:World) (v:Value) (m:MapD):Prop:=∃ rv,v = .agg (mapCells m rv).toArray∧MrsOf w rv m.rules
section
variable {w w':World} {v:Value}
theorem FrVal.ext {x:FrD} (h:FrVal w v x) (e:Ext w w'):FrVal w' v x:=by obtain ⟨bv,tv,h,h1,h2⟩:=h;exact ⟨bv,tv,h,h1.ext e,h2.ext e⟩
theorem MrVal.ext {x:MrD} (h:MrVal w v x) (e:Ext w w'):MrVal w' v x:=by obtain ⟨fv,h,h1⟩:=h;exact ⟨fv,h,h1.ext e⟩
theorem MapVal.ext {x:MapD} (h:MapVal w v x) (e:Ext w w'):MapVal w' v x:=by obtain ⟨fv,h,h1⟩:=h;exact ⟨fv,h,h1.ext e⟩
theorem FrVal.op {x:FrD} (h:FrVal w v x):∃ bv tv,v = .agg (frCells x bv tv).toArray∧ByOf w bv x.bytes∧RowsOf w tv x.table∧bv.oneCell'=true∧tv.oneCell'=true:=by
 obtain ⟨bv,tv,h,h1,h2⟩:=h;exact ⟨bv,tv,h,h1,h2,SliceOf.oneCell h1,SliceOf.oneCell h2⟩
theorem MrVal.op {x:MrD} (h:MrVal w v x):∃ fv,v = .agg (mrCells x fv).toArray∧FrsOf w fv x.fields∧fv.oneCell'=true:=by
 obtain ⟨fv,h,h1⟩:=h;exact ⟨fv,h,h1,SliceOf.oneCell h1⟩
theorem MapVal.op {x:MapD} (h:MapVal w v x):∃ rv,v = .agg (mapCells x rv).toArray∧MrsOf w rv x.rules∧rv.oneCell'=true:=by
 obtain ⟨fv,h,h1⟩:=h;exact ⟨fv,h,h1,SliceOf.oneCell h1⟩
theorem EFr.op {cs:List Value} {x:FrD} (h:EFr w cs x):∃ bv tv,cs=frCells x bv tv∧ByOf w bv x.bytes∧RowsOf w tv x.table∧bv.oneCell'=true∧tv.oneCell'=true:=by
 obtain ⟨bv,tv,h,h1,h2⟩:=h;exact ⟨bv,tv,h,h1,h2,SliceOf.oneCell h1,SliceOf.oneCell h2⟩
theorem EMr.op {cs:List Value} {x:MrD} (h:EMr w cs x):∃ fv,cs=mrCells x fv∧FrsOf w fv x.fields∧fv.oneCell'=true:=by
 obtain ⟨fv,h,h1⟩:=h;exact ⟨fv,h,h1,SliceOf.oneCell h1⟩
end
def classB (f:FieldD):Int:=if f.kind=1∨f.kind=3 then 1 else if f.kind=4∨f.kind=5 then 2 else if f.kind=6 then 3 else if f.kind=7 then 4 else if f.kind=8∨f.kind=12 then 5 else if f.kind=9 then 6 else 0
def numOk (n:Int):Bool:=decide (0≤n)&&decide (n < 34359738368)
def addOk (n:Int):Bool:=decide (-34359738368 < n)&&decide (n < 34359738368)
structure UseD where
 fr:Bool
 add:Bool
 value:Bool
 bytes:Bool
 table:Bool
def usesK (k:Int):Option UseD:=if k=1 then some ⟨true,false,false,false,false⟩ else if k=2 then some ⟨true,true,false,false,false⟩ else if k=3 then some ⟨false,false,true,false,false⟩ else if k=4 then some ⟨false,false,false,true,false⟩ else if k=5 then some ⟨true,false,false,false,true⟩ else if k=6 then some ⟨true,false,false,false,false⟩ else if k=7 then some ⟨false,false,false,false,false⟩ else none
def cleanB (r:FrD) (u:UseD):Bool:=(u.fr||decide (r.fr=⟨#[]⟩))&&((u.add||decide (r.add=0))&&((u.value||decide (r.value=0))&&((u.bytes||decide (r.bytes.length=0))&&(u.table||decide (r.table.length=0)))))
def fieldP (m:MsgD) (s:ByteArray):Option FieldD:=m.fields.find? fun f=>decide (f.name=s)
def clsO (o:Option FieldD):Int:=match o with
 | none=>0
 | some f=>classB f
def rowsB (last:Int):List RowD→Bool
 | []=>true
 | x::l=>decide (last < x.low)&&(decide (x.low≤x.high)&&(numOk x.high&&(numOk x.to&&rowsB x.high l)))
def tableC (l:List RowD):Int:=if l.length < 1∨40 < l.length then 2 else if rowsB (-1) l=true then 0 else 8
def refsO (o:Option FieldD):List ByteArray:=match o with
 | none=>[]
 | some f=>if f.kind=9 then f.cases.map (·.of) else [f.of]
def ruleP (m:MapD) (s:ByteArray):Option Nat:=m.rules.findIdx? fun r=>decide (r.fr=s)
def okN (m:MapD) (T:List ByteArray) (s:ByteArray):Bool:=match m.rules.find? fun r=>decide (r.fr=s) with
 | none=>false
 | some r=>T.any fun y=>decide (r.to=y)
def nestC (m:MapD) (f t:Option FieldD):Int:=if (refsO f).all (okN m (refsO t))=true then 0 else 9
def kindC (m:MapD) (r:FrD) (f t:Option FieldD):Int :=
 let x:=clsO f
 let y:=clsO t
 if r.kind=1 then (if x≠y∨3 < y then 5 else 0)
 else if r.kind=2 then (if x≠1∨y≠1 then 5 else if addOk r.add=true then 0 else 8)
 else if r.kind=3 then (if y≠1 then 5 else if numOk r.value=true then 0 else 8)
 else if r.kind=4 then (if y≠2 then 5 else if 1000 < r.bytes.length then 2 else 0)
 else if r.kind=5 then (if x≠1∨y≠1 then 5 else tableC r.table)
 else if r.kind=6 then (if x≠y∨y < 4 then 5 else nestC m f t)
 else (if y≠1 then 5 else 0)
def oneC (m:MapD) (r:FrD) (a b:MsgD) (before:List FrD):Int :=
 if clsO (fieldP b r.to)=0 then 5
 else if (before.any fun x=>decide (x.to=r.to))=true then 4
 else match usesK r.kind with
  | none=>6
  | some u=>if cleanB r u=false then 7 else kindC m r (fieldP a r.fr) (fieldP b r.to)
def fieldsC (m:MapD) (a b:MsgD) (all:List FrD):Nat→List FrD→Int×Int
 | _,[]=>(-1,0)
 | k,r::l=>if oneC m r a b (all.take k)≠0 then ((k:Int),oneC m r a b (all.take k)) else fieldsC m a b all (k+1) l
def msgP (d:DefD) (s:ByteArray):Option MsgD:=d.msgs.find? fun x=>decide (x.name=s)
def missB (fs:List FrD) (f:FieldD):Bool:=!(fs.any fun x=>decide (x.to=f.name))&&decide (classB f≠0)
def ruleC (m:MapD) (d e:DefD) (i:Nat) (r:MrD):Int×Int:=match msgP d r.fr,msgP e r.to with
 | some a,some b=>if ruleP m r.fr≠some i then (-1,4) else
  let q:=fieldsC m a b r.fields 0 r.fields
  if q.2≠0 then q else if (b.fields.any (missB r.fields))=true then (-1,10) else (-1,0)
 | _,_=>(-1,3)
def rulesC (m:MapD) (d e:DefD):Nat→List MrD→Int×Int×Int
 | _,[]=>(-1,-1,0)
 | i,r::l=>if (ruleC m d e i r).2≠0 then ((i:Int),ruleC m d e i r) else rulesC m d e (i+1) l
end Go.Proofs.YtgalpdihjbinjaaGreatDoor
namespace Go.Sw
section
variable {P:Program} {N:Nat} {ro:Option Nat} {QP:KP} {T:Env→List Deferred→World→Prop} {o:Oper} {rest:List Oper} {ρ:Env} {ds:List Deferred} {w:World}
theorem zm {v:Value} (h:denSeq P N ro QP T rest (put N ρ o.dst v) ds w) (hs:execOp (ev ρ) o=Sem.pure (.value v):=by exact rfl) (hd:isDefer o.op=false:=by exact rfl):denSeq P N ro QP T (o::rest) ρ ds w:=sim_move hd hs h
theorem zt {S:List Nat} {J G:Env→World→Prop} (hT:∀ ρ' w,Fr S ρ ρ'→J ρ' w→G ρ' w) {ρ':Env} {w:World} (h:J ρ' w) (hf:Fr S ρ ρ':=by repeat (first | exact Fr.refl _ _ | refine Fr.put rfl ?_ | refine Fr.put_none ?_ | refine Fr.mix rfl ?_ | refine Fr.skipAll rfl ?_)):G ρ' w:=hT ρ' w hf h
end
theorem zr {P:Program} {N:Nat} {ro:Option Nat} {id:Nat} {l:List Oper} {Q:K} {QP:KP} {ρ:Env} {ds:List Deferred} {w:World} (h:denSeq P N ro QP (fun ρ ds w=>Q .normal ρ ds w) l ρ ds w) (hu:unguarded l=true:=by exact rfl):den P N ro (.region id l.toArray false) Q QP ρ ds w:=sim_region hu h
theorem zn:type_of% @sim_nil := @sim_nil
theorem zk:type_of% @sim_then := @sim_then
theorem zs:type_of% @sim_seq := @sim_seq
end Go.Sw
namespace Go.Sw
open Go.RowKit (Below)
structure LW (B:Nat) (w w':World):Prop where
 os:w'.os=w.os
 tape:w'.tape=w.tape
 output:w'.output=w.output
 size:w.heap.size≤w'.heap.size
 block:∀ b,b < w.heap.size→w'.heap[b]?=w.heap[b]?∨(B≤b∧((∃ r,w.heap[b]?=some (.loop r))∨∃ d,w.heap[b]?=some (.deferred d)))
theorem LW.mono {B B':Nat} {w w':World} (h:LW B w w') (hb:B'≤B):LW B' w w':=⟨h.os,h.tape,h.output,h.size,fun b hl=>(h.block b hl).imp_right fun h=>⟨by omega,h.2⟩⟩
theorem LW.of {B:Nat} {w w':World} (e:Ext w w'):LW B w w':=⟨e.os,e.tape,e.output,e.size,fun b hb => .inl (e.block b hb)⟩
theorem LW.loop {B l:Nat} {w:World} {r:Loop} (hb:B≤l) (hl:w.heap[l]?=some (.loop r)) (o:Obj):LW B w (w.putObj l o):=⟨rfl,rfl,rfl,by simp,fun b _=>by
 by_cases e:b=l
 · exact .inr ⟨by omega,.inl ⟨r,by rw [e];exact hl⟩⟩
 · exact .inl (World.putObj_heap_other e)⟩
def Lasts2 (B:Nat) (I:World→Prop):Prop:=∀ w w',LW B w w'→I w→I w'
theorem Lasts2.ext {B:Nat} {I:World→Prop} (h:Lasts2 B I) {w w':World} (hI:I w) (e:Ext w w'):I w':=h _ _ (.of e) hI
theorem Lasts2.loop {B l:Nat} {I:World→Prop} (h:Lasts2 B I) {w:World} {r:Loop} (hb:B≤l) (hI:I w) (hl:w.heap[l]?=some (.loop r)) (o:Obj):I (w.putObj l o):=h _ _ (.loop hb hl o) hI
theorem Lasts2.busied {B l:Nat} {I:World→Prop} {w w':World} (h:Lasts2 B I) (hb:Busied l w w') (hl:B≤l) (hI:I w):I w':=by
 obtain ⟨r,hr,rfl⟩:=hb
 exact h.loop hl hI hr _
theorem Lasts2.mono {B B':Nat} {I:World→Prop} (h:Lasts2 B I) (hb:B≤B'):Lasts2 B' I:=fun _ _ hl=>h _ _ (hl.mono hb)
theorem Lasts2.and {B:Nat} {I J:World→Prop} (h:Lasts2 B I) (k:Lasts2 B J):Lasts2 B (fun w=>I w∧J w):=fun w w' hl hh=>⟨h _ _ hl hh.1,k _ _ hl hh.2⟩
theorem Lasts2.ex {B:Nat} {α:Sort _} {I:α→World→Prop} (h:∀ x,Lasts2 B (I x)):Lasts2 B (fun w=>∃ x,I x w):=fun w w' hl ⟨x,hx⟩=>⟨x,h x _ _ hl hx⟩
theorem Lasts2.const (B:Nat) (p:Prop):Lasts2 B (fun _=>p):=fun _ _ _ h=>h
theorem Lasts2.from {B:Nat} {w0:World} (hb:w0.heap.size≤B):Lasts2 B (Ext w0):=fun w w' hl e=>⟨hl.os.trans e.os,hl.tape.trans e.tape,hl.output.trans e.output,Nat.le_trans e.size hl.size,fun k hk=>by
 have:=e.size
 rcases hl.block k Qx with h | ⟨h,_⟩
 · rw [h];exact e.block k hk
 · omega⟩
theorem Lasts2.has (B:Nat) {b:Nat} {o:Obj} (h1:∀ r,o ≠ .loop r) (h2:∀ d,o ≠ .deferred d):Lasts2 B (fun w=>w.heap[b]?=some o):=fun w w' hl h=>by
 rcases hl.block b (Qk h).1 with e | ⟨_,⟨r,e⟩ | ⟨d,e⟩⟩
 · rw [e];exact h
 · rw [h] at e;injection e with e;exact absurd e (h1 r)
 · rw [h] at e;injection e with e;exact absurd e (h2 d)
theorem Lasts2.low {B b:Nat} (hb:b < B) (o:Obj):Lasts2 B (fun w=>w.heap[b]?=some o):=fun w w' hl h=>by
 rcases hl.block b (Qk h).1 with e | ⟨e,_⟩
 · rw [e];exact h
 · omega
def KR (B:Nat) (w w':World):Prop:=w.heap.size≤w'.heap.size∧(∀ (b:Nat) (r:Loop),w.heap[b]?=some (.loop r)→∃ st p,w'.heap[b]?=some (.loop { r with state:=st,pending:=p })) ∧
 (∀ (b:Nat),w.heap[b]?=some (.deferred (some []))→w'.heap[b]?=some (.deferred (some [])))∧∀ (b:Nat),B≤b→b < w.heap.size→(∀ r,w.heap[b]?≠some (.loop r))→w'.heap[b]?=w.heap[b]?
section
variable {B:Nat} {w w1 w2:World}
theorem KR.refl (B:Nat) (w:World):KR B w w:=⟨Nat.le_refl _,fun b r h=>⟨r.state,r.pending,h⟩,fun _ h=>h,fun _ _ _ _=>rfl⟩
theorem KR.of (e:Ext w w1):KR B w w1:=⟨e.size,fun b r h=>⟨r.state,r.pending,e.obj h⟩,fun _ h=>e.obj h,fun b _ hl _=>e.block b hl⟩
theorem KR.setCell (h:KR B w w1) (b o:Nat) (v:Value) (hb:b < B∨w.heap.size≤b):KR B w (w1.setCell ⟨b,o,none⟩ v):=⟨by simpa using h.1,fun b r hb=>by
 obtain ⟨st,p,h1⟩:=h.2.1 b r hb
 exact ⟨st,p,(KeepsOthers.setCell w1 _ v).same _ _ h1 rfl⟩,fun b hb=>(KeepsOthers.setCell w1 _ v).same _ _ (h.2.2.1 b hb) rfl,fun b' hb' hl hr=>by
 rw [heap_setE Qx];exact h.2.2.2 b' hb' hl hr⟩
theorem KR.turn {l:Nat} {r:Loop} (hl:w.heap[l]?=some (.loop r)) (st:LoopState) (p:Option Code):KR B w (w.putObj l (.loop { r with state:=st,pending:=p })):=⟨by simp,fun b r' hb=>by
 by_cases e:b=l
 · subst e
   rw [hl] at hb;injection hb with hb;injection hb with hb;subst hb
   exact ⟨st,p,World.putObj_heap_same (Qk hl).1⟩
 · rw [World.putObj_heap_other e];exact ⟨r'.state,r'.pending,hb⟩,fun b hb=>by
 by_cases e:b=l
 · subst e;rw [hl] at hb;cases hb
 · rw [World.putObj_heap_other e];exact hb,fun b _ _ hr=>by
 by_cases e:b=l
 · subst e;exact absurd hl (hr _)
 · rw [World.putObj_heap_other e]⟩
theorem KR.busied {l:Nat} (h:Busied l w w1):KR B w w1:=by
 obtain ⟨r,hr,rfl⟩:=h
 exact KR.turn hr .busy r.pending
end
def Firm (B:Nat) (R:World→Prop):Prop:=∀ w w',KR B w w'→R w→R w'
theorem RecAt.firm (rec:Loop) (B b:Nat):Firm B (RecAt rec b):=fun w w' h ⟨h1,st,p,h2⟩=>by
 obtain ⟨st',p',h3⟩:=h.2.1 _ _ h2
 exact ⟨h.2.2.1 _ h1,st',p',h3⟩
theorem Firm.and {B:Nat} {R S:World→Prop} (h:Firm B R) (k:Firm B S):Firm B (fun w=>R w∧S w):=fun w w' e hh=>⟨h _ _ e hh.1,k _ _ e hh.2⟩
theorem Firm.has {B b:Nat} {o:Obj} (hb:B≤b) (ho:∀ r,o ≠ .loop r):Firm B (fun w=>w.heap[b]?=some o):=fun w w' h k=>by
 show w'.heap[b]?=some o
 rw [h.2.2.2 b hb (Qk k).1 (fun r e=>by rw [k] at e;injection e with e;exact ho r e)];exact k
def SeqIt2 (P:Program) (f:FuncId) (caps:Array Value) (n:Nat) (xs ys:Nat→Value) (FP:World→Prop):Prop :=
 ∀ (yv:Value) (J:Nat→World→Prop) (Jx:World→Prop) (Jp:List PanicEntry→World→Prop) (w:World),yv.oneCell'=true→(∀ k w,J k w→FP w)→(∀ k,Lasts2 w.heap.size (J k))→Lasts2 w.heap.size Jx→(∀ ch,Lasts2 w.heap.size (Jp ch)) →
  (∀ k,k < n→∀ Rk,Firm w.heap.size Rk→∀ w,J k w→Rk w→callV P yv #[xs k,ys k] (fun ch w'=>Rk w'∧Jp ch w') w (fun v w'=>Rk w'∧((v = .bool true∧J (k+1) w')∨(v = .bool false∧Jx w'))))→J 0 w →
  Calls P f (#[yv]++caps) w (fun e w'=>match e with
   | .returned _=>J n w'∨Jx w'
   | .panicked ch=>Jp ch w'
   | .outgrown=>False)
def rangeN2 (P:Program) (fv:Value) (ds:List Deferred) (body:Nat→Value→Value→World→(World→Prop)→(Nat→World→Prop)→(List PanicEntry→World→Prop)→Prop) (QP:List PanicEntry→List Deferred→World→Prop) (w:World)
 (k:List Deferred→World→Prop) (kx:List (List Deferred→World→Prop)):Prop :=
 ∃ (f:FuncId) (caps:Array Value) (n:Nat) (xs ys:Nat→Value) (FP:World→Prop) (I:Nat→World→Prop) (Ix:Nat→World→Prop) (Ip:List PanicEntry→World→Prop),
  fv = .func (.func f) #[] caps∧Callable P f∧SeqIt2 P f caps n xs ys FP∧I 0 w∧(∀ k w,I k w→FP w)∧(∀ k,Lasts2 w.heap.size (I k))∧(∀ c,Lasts2 w.heap.size (Ix c))∧(∀ ch,Lasts2 w.heap.size (Ip ch)) ∧
  (∀ (Rk:World→Prop),Firm (w.heap.size+1+1) Rk→∀ (j:Nat) (w':World),j < n→I j w'→Rk w'→w.heap.size+1 < w'.heap.size→ReadyAt (w.heap.size+1) w' →
   body (w.heap.size+1) (xs j) (ys j) w' (fun w''=>Rk w''∧I (j+1) w'') (fun c w''=>Rk w''∧Ix c w'') (fun ch w''=>Rk w''∧Ip ch w'')) ∧
  (∀ w',I n w'→MarkAt w.heap.size w'→k (mark w.heap.size::ds) w') ∧
  (∀ c w',Ix c w'→MarkAt w.heap.size w'→nthK kx c (mark w.heap.size::ds) w') ∧
  (∀ ch w',Ip ch w'→MarkAt w.heap.size w'→QP ch (mark w.heap.size::ds) w')
section
variable {P:Program} {N:Nat}
theorem sim_range2 {g:Operand} {p p2:Nat} {asg body:Code} {Q:K} {QP:KP} {ρ:Env} {ds:List Deferred} {w:World} {fv:Value} {nbody:Nat→Value→Value→World→(World→Prop)→(Nat→World→Prop)→(List PanicEntry→World→Prop)→Prop} {QPn:List PanicEntry→List Deferred→World→Prop}
 {k:List Deferred→World→Prop} {kx:List (List Deferred→World→Prop)} (js:List Code) (h:rangeN2 P fv ds nbody QPn w k kx) (hg:ev ρ g=fv)
 (hbody:∀ l x y w K X QPr,nbody l x y w K X QPr→den P N (some l) asg (thenK (fun ρ' ds' w'=>ds'=[]∧busyK l w' (fun w''=>den P N (some l) body (roundK js K X) (roundQP QPr) ρ' [] w'')) (fun _ _ _ _=>False)) (fun _ _ _ _=>False) (put N (put N ρ (some p) x) (some p2) y) [] w)
 (hk:∀ ds w,k ds w→Q .normal ρ ds w) (hx:∀ c ds w,nthK kx c ds w→∃ code,js[c]?=some code∧((code = .ret∧Q .ret ρ ds w)∨(∃ id,code = .exit id∧Q (.exit id) ρ ds w))) (hp:∀ ch ds w,QPn ch ds w→QP ch ρ ds w) :
 den P N none (.rangeFunc g #[p,p2] asg body) Q QP ρ ds w:=by
 intro a ha hds
 subst hds
 obtain ⟨f,caps,n,xs,ys,FP,I,Ix,Ip,hfv,hcal,hseq,h0,hFP,hL,hLx,hLp,hround,hend,hjump,hpan⟩:=h
 refine wpV_rangeFunc fun fn hfn=>?_
 obtain ⟨rec,hrec⟩:∃ rec:Loop,rec={ state := .ready,pending:=none,fn,tmps:=a.tmps,params := #[p,p2],assign:=asg,body,defers:=w.heap.size }:=⟨_,rfl⟩
 obtain ⟨W1,hW1⟩:∃ W1,(w.alloc (.deferred (some []))).alloc (.loop rec)=W1:=⟨_,rfl⟩
 have hE1:Ext w W1:=by rw [← hW1];exact ((Ext.refl w).alloc _).alloc _
 have hW1s:W1.heap.size=w.heap.size+1+1:=by rw [← hW1];simp
 have hL1:W1.heap[w.heap.size+1]?=some (.loop rec):=by
  rw [← hW1];have:=World.alloc_heap_new (w.alloc (.deferred (some []))) (.loop rec);rwa [World.size_alloc] at this
 have hK1:MarkAt w.heap.size W1:=by
  rw [← hW1];exact MarkAt.alloc (World.alloc_heap_new w _) _
 have hev:a.eval g=fv:=by rw [ha.eval];exact hg
 refine ⟨w.heap.size+1,[mark w.heap.size],W1,{ target := .fn (.func f) caps,args := #[.func (.yield (w.heap.size+1)) #[] #[]] },W1,f,#[.func (.yield (w.heap.size+1)) #[] #[]]++caps,W1,?_,?_,?_,?_⟩
 · rw [← hW1,hrec];exact run_enterLoop_outer _ _ _ _ _
 · simp only [resolve,hev,hfv]
   simp [go_sem]
 · simp only [invoke]
   exact callFunc_run hcal _ _
 · refine Calls.mono (hseq (.func (.yield (w.heap.size+1)) #[] #[]) (fun j w'=>I j w'∧MarkAt w.heap.size w'∧∃ p,w'.heap[w.heap.size+1]?=some (.loop { rec with state := .ready,pending:=p })∧p=none)
    (fun w'=>MarkAt w.heap.size w'∧∃ c code,Ix c w'∧js[c]?=some code∧w'.heap[w.heap.size+1]?=some (.loop { rec with state := .done,pending:=some code }))
    (fun ch w'=>MarkAt w.heap.size w'∧Ip ch w') W1 rfl (fun j w' hj=>hFP j w' hj.1) (fun j=>((hL j).mono Qx).and ((Lasts2.low Qx _).and (.ex fun q=>(Lasts2.low Qx _).and (.const _ _))))
    ((Lasts2.low Qx _).and (.ex fun c => .ex fun code=>((hLx c).mono Qx).and ((Lasts2.const _ _).and (Lasts2.low Qx _)))) (fun ch=>(Lasts2.low Qx _).and ((hLp ch).mono Qx)) ?_ ⟨(hL 0).ext h0 hE1,hK1,none,by rw [hL1,hrec],rfl⟩) ?_
   · rintro j hj Rk hF w' ⟨hi,hm,q,hl,rfl⟩ hR
     have hlt:w.heap.size+1 < w'.heap.size:=(Qk hl).1
     have hy:=run_yield (P:=P) (args := #[xs j,ys j]) hl (by rw [hrec];rfl)
     show onNext P _ _ _ _
     have hcs:callS (.func (.yield (w.heap.size+1)) #[] #[]) #[xs j,ys j]=Instr.yield (w.heap.size+1) #[xs j,ys j]:=by
      simp [callS,Deferred.ofValue,invoke,go_sem,bind,pure,Sem.bind]
     rw [hcs,hy]
     have key:∀ R,wpV (some (w.heap.size+1)) P asg (Exit.then (fun a₁ w₁=>∃ w₂,(Instr.beginRound (w.heap.size+1)).run P w₁ = .ok () w₂∧wpV (some (w.heap.size+1)) P body (endV P (w.heap.size+1) R) a₁ w₂) (fun _ _ _=>False)) { tmps:=((#[p,p2].zip #[xs j,ys j]).foldl (fun tmps (t,a)=>tmps.setIfInBounds t a) a.tmps),defers:=[] } w' →
      RoundV P (w.heap.size+1) rec.fn ((rec.params.zip #[xs j,ys j]).foldl (fun tmps (t,a)=>tmps.setIfInBounds t a) rec.tmps) rec.assign rec.body w' R:=by
      intro R h;rw [hrec];exact roundV_of_wpV hfn h
     refine key _ ?_
     have hb:=hbody _ _ _ _ _ _ _ (hround _ ((RecAt.firm rec _ w.heap.size).and (hW1s ▸ hF)) j w' hj hi ⟨⟨hm,_,_,hl⟩,hR⟩ hlt ⟨_,hl,rfl⟩)
     have hagr:Agrees N ({ tmps:=((#[p,p2].zip #[xs j,ys j]).foldl (fun tmps (t,a)=>tmps.setIfInBounds t a) a.tmps),defers:=[] }:Act) (put N (put N ρ (some p) (xs j)) (some p2) (ys j)):=by
      have:=((Agrees.defers ha []).put (some p) (xs j)).put (some p2) (ys j)
      simpa [Act.put] using this
     refine wpV_mono (den_sound asg _ _ _ _ _ hagr hb) ?_
     intro e a1 w1 hl1
     cases e with
     | panic ch=>obtain ⟨_,_,hf⟩:=hl1;exact hf.elim
     | outgrown=>exact hl1
     | exit id=>obtain ⟨_,_,_,hf⟩:=hl1;exact hf.elim
     | goto l=>obtain ⟨_,_,_,hf⟩:=hl1;exact hf.elim
     | ret=>obtain ⟨_,_,_,hf⟩:=hl1;exact hf.elim
     | normal =>
      obtain ⟨ρ1,ha1,_,hd1,hbz⟩:=hl1
      obtain ⟨⟨r,hr1,hr2⟩,hbz⟩:=hbz
      refine ⟨_,run_beginRound hr1 hr2,?_⟩
      rw [show a1={ a1 with defers:=[] } by rw [← hd1]]
      refine wpV_mono (den_sound body _ _ _ _ _ (Agrees.defers ha1 []) (hbz _ ⟨_,hr1,rfl⟩)) ?_
      have fin:∀ (jump:Option Code) (w2:World),RecAt rec w.heap.size w2→(Instr.endRound (w.heap.size+1) jump).run P w2 = .ok (.bool jump.isNone) (w2.putObj (w.heap.size+1) (.loop { rec with state:=if jump.isNone then .ready else .done,pending:=jump })) ∧
       (w2.putObj (w.heap.size+1) (.loop { rec with state:=if jump.isNone then .ready else .done,pending:=jump })).heap[w.heap.size+1]?=some (.loop { rec with state:=if jump.isNone then .ready else .done,pending:=jump }) ∧
       MarkAt w.heap.size (w2.putObj (w.heap.size+1) (.loop { rec with state:=if jump.isNone then .ready else .done,pending:=jump })):=by
       rintro jump w2 ⟨hm2,st,q,hq⟩
       refine ⟨by have:=run_endRound (P:=P) jump hq;exact this,World.putObj_heap_same (Qk hq).1,?_⟩
       unfold MarkAt
       rw [World.putObj_heap_other Qx];exact hm2
      intro e a2 w2 hl2
      cases e with
      | normal =>
       obtain ⟨_,_,_,_,⟨hrec2,hR2⟩,hi2⟩:=hl2
       obtain ⟨f1,f2,f3⟩:=fin none w2 hrec2
       obtain ⟨_,st,q,hq⟩:=hrec2
       exact ⟨_,_,f1,hF _ _ (KR.turn hq _ _) hR2,.inl ⟨rfl,(hL _).loop (Nat.le_succ _) hi2 hq _,f3,none,f2,rfl⟩⟩
      | ret =>
       obtain ⟨_,_,_,_,c,hc,⟨hrec2,hR2⟩,hi2⟩:=hl2
       obtain ⟨f1,f2,f3⟩:=fin (some .ret) w2 hrec2
       obtain ⟨_,st,q,hq⟩:=hrec2
       exact ⟨_,_,f1,hF _ _ (KR.turn hq _ _) hR2,.inr ⟨rfl,f3,c,_,(hLx _).loop (Nat.le_succ _) hi2 hq _,hc,f2⟩⟩
      | exit id =>
       obtain ⟨_,_,_,_,c,hc,⟨hrec2,hR2⟩,hi2⟩:=hl2
       obtain ⟨f1,f2,f3⟩:=fin (some (.exit id)) w2 hrec2
       obtain ⟨_,st,q,hq⟩:=hrec2
       exact ⟨_,_,f1,hF _ _ (KR.turn hq _ _) hR2,.inr ⟨rfl,f3,c,_,(hLx _).loop (Nat.le_succ _) hi2 hq _,hc,f2⟩⟩
      | panic ch =>
       obtain ⟨_,_,hd2,⟨hrec2,hR2⟩,hi2⟩:=hl2
       exact ⟨hd2,hR2,hrec2.1,hi2⟩
      | goto l=>obtain ⟨_,_,_,hf⟩:=hl2;exact hf.elim
      | outgrown=>exact hl2
   · have hagr:Agrees N ({ a with defers:=[mark w.heap.size]++a.defers }:Act) ρ:=ha
     have exh:∀ (st:LoopState) (q:Option Code) (w':World),w'.heap[w.heap.size+1]?=some (.loop { rec with state:=st,pending:=q })→st ≠ .busy→MarkAt w.heap.size w' →
      (Instr.endLoop (w.heap.size+1)).run P w' = .ok q (w'.putObj (w.heap.size+1) (.loop { rec with state := .exhausted,pending:=q }))∧MarkAt w.heap.size (w'.putObj (w.heap.size+1) (.loop { rec with state := .exhausted,pending:=q })):=by
      intro st q w' hq hne hm
      refine ⟨by have:=run_endLoop (P:=P) hq hne;exact this,?_⟩
      unfold MarkAt
      rw [World.putObj_heap_other Qx];exact hm
     rintro e w' he
     cases e with
     | returned v =>
      rcases he with ⟨hi,hm,q,hl,rfl⟩ | ⟨hm,c,code,hi,hc,hl⟩
      · obtain ⟨e1,e2⟩:=exh _ _ w' hl (by simp) hm
        exact ⟨none,_,e1,hagr,hk _ _ (hend _ ((hL _).loop (Nat.le_succ _) hi hl _) e2)⟩
      · obtain ⟨e1,e2⟩:=exh _ _ w' hl (by simp) hm
        refine ⟨some code,_,e1,?_⟩
        obtain ⟨code',hc',hden⟩:=hx c _ _ (hjump c _ ((hLx _).loop (Nat.le_succ _) hi hl _) e2)
        rw [hc] at hc';cases hc'
        rcases hden with ⟨rfl,hq⟩ | ⟨id,rfl,hq⟩
        · exact wpV_ret ⟨hagr,hq⟩
        · exact wpV_exit ⟨hagr,hq⟩
     | panicked ch=>exact ⟨hagr,hp _ _ _ (hpan ch _ he.2 he.1)⟩
     | outgrown=>exact he.elim
end
theorem guard_cases {b want:Bool} {p q:Prop} (h1:b=true→guardP (.bool true) want p q) (h2:b=false→guardP (.bool false) want p q):guardP (.bool b) want p q:=by
 cases b
 · exact h2 rfl
 · exact h1 rfl
theorem cond_cases {b:Bool} {p q:Prop} (h1:b=true→p) (h2:b=false→q):condP (.bool b) p q:=by
 cases b
 · exact h2 rfl
 · exact h1 rfl
section
variable {P:Program} {fn:Func} {R:RT} {ρ:Env} {w:World}
theorem results_runCTT {t u x:Tmp} {c:TypeId} {v:Value} (hf:fn.results = #[.cell t c,.tmp u,.tmp x]) (tmps:Array Value) (h:(do loadVar c (← asAddr (tmps.getD t undef)):Sem Value).run P w = .ok v w):(results fn tmps).run P w = .ok (.tuple #[v,tmps.getD u undef,tmps.getD x undef]) w:=by
 rw [Sem.run_bind] at h
 simp [results,hf,Sem.run_bind]
 cases hr:(asAddr (tmps.getD t undef)).run P w with
 | ok a w'=>rw [← Array.getD_eq_getD_getElem?,hr];rw [hr] at h;simp [Result.andThen] at h ⊢;rw [h]
 | halt x w'=>rw [hr] at h;simp [Result.andThen] at h
theorem body_retCTT {t u x:Tmp} {c:TypeId} {a b d:Value} (hf:fn.results = #[.cell t c,.tmp u,.tmp x]) (h1:ρ t=a) (h2:ρ u=b) (h3:ρ x=d) (h:qW P c a w fun v=>R (.returned (.tuple #[v,b,d])) w):bodyK P fn R .ret ρ [] w:=by
 obtain ⟨v,hv,h⟩:=h
 exact ⟨rfl,fun tmps ht=>⟨_,results_runCTT hf tmps (by rw [ht,h1];exact hv),by rw [ht,ht,h2,h3];exact h⟩⟩
end
end Go.Sw
namespace Go.Sw
section
variable {P:Program} {N:Nat} {ro:Option Nat} {QP:KP} {T:Env→List Deferred→World→Prop} {o:Oper} {rest:List Oper} {ρ:Env} {ds:List Deferred} {w:World} {ty:TypeId} {dst:Option Nat} {d:Nat} {pos:String} {after:Array Edge} {g:Option (Nat×Bool)} {QP':List PanicEntry→World→Prop} {k:Value→World→Prop}
theorem yv {s:Sem Value} (h:opV P s QP' w k) (hk:∀ v w,k v w→denSeq P N ro QP T rest (put N ρ o.dst v) ds w) (hs:execOp (ev ρ) o=(do pure (.value (← s))):=by exact rfl) (hd:isDefer o.op=false:=by exact rfl) (hp:∀ ch w,QP' ch w→QP ch ρ ds w:=by first | exact fun _ _ h=>⟨rfl,h⟩ | exact fun _ _ h=>outQ_of rfl h | exact fun _ _ h _ _=>⟨rfl,h⟩ | exact fun _ _ h=>outQ_ofD rfl rfl h | exact fun _ _ h=>h):denSeq P N ro QP T (o::rest) ρ ds w:=sim_val h hd hs hp hk
theorem yu {s:Sem Unit} {k:World→Prop} (h:opU P s QP' w k) (hk:∀ w,k w→denSeq P N ro QP T rest (put N ρ o.dst undef) ds w) (hs:execOp (ev ρ) o=(do s;pure .skip):=by exact rfl) (hd:isDefer o.op=false:=by exact rfl) (hp:∀ ch w,QP' ch w→QP ch ρ ds w:=by first | exact fun _ _ h=>⟨rfl,h⟩ | exact fun _ _ h=>outQ_of rfl h | exact fun _ _ h _ _=>⟨rfl,h⟩ | exact fun _ _ h=>outQ_ofD rfl rfl h | exact fun _ _ h=>h):denSeq P N ro QP T (o::rest) ρ ds w:=sim_unit h hd hs hp hk
theorem yN {s:Sem Next} (h:opN P s QP' w k) (hk:∀ v w,k v w→denSeq P N ro QP T rest (put N ρ o.dst v) ds w) (hs:execOp (ev ρ) o=s:=by exact rfl) (hd:isDefer o.op=false:=by exact rfl) (hp:∀ ch w,QP' ch w→QP ch ρ ds w:=by first | exact fun _ _ h=>⟨rfl,h⟩ | exact fun _ _ h=>outQ_of rfl h | exact fun _ _ h _ _=>⟨rfl,h⟩ | exact fun _ _ h=>outQ_ofD rfl rfl h | exact fun _ _ h=>h):denSeq P N ro QP T (o::rest) ρ ds w:=sim_next h hd hs hp hk
theorem yb {op:BinOp} {t:TypeId} {x y:Operand} {t2:TypeId} {c:Bool} {a b:Value} (h:opV P (binS op t c a b) QP' w k) (hk:∀ v w',k v w'→denSeq P N ro QP T rest (put N ρ (some d) v) ds w') (hc:(isConst x||isConst y)=c:=by exact rfl) (h1:ev ρ x=a:=by exact rfl) (h2:ev ρ y=b:=by exact rfl) (hp:∀ ch w,QP' ch w→QP ch ρ ds w:=by first | exact fun _ _ h=>⟨rfl,h⟩ | exact fun _ _ h=>outQ_of rfl h | exact fun _ _ h _ _=>⟨rfl,h⟩ | exact fun _ _ h=>outQ_ofD rfl rfl h | exact fun _ _ h=>h) :
 denSeq P N ro QP T (⟨some d,.binOp op t x y t2,ty,pos,after,g⟩::rest) ρ ds w:=sim_bin h hc h1 h2 hp hk
theorem yc {f:FuncId} {l:List Operand} {ats:Array TypeId} {args:List Value} (h:callK P f args.toArray QP' w k) (hf:Callable P f) (hk:∀ v w',k v w'→denSeq P N ro QP T rest (put N ρ dst v) ds w') (h2:l.map (ev ρ)=args:=by exact rfl) (hp:∀ ch w,QP' ch w→QP ch ρ ds w:=by first | exact fun _ _ h=>⟨rfl,h⟩ | exact fun _ _ h=>outQ_of rfl h | exact fun _ _ h _ _=>⟨rfl,h⟩ | exact fun _ _ h=>outQ_ofD rfl rfl h | exact fun _ _ h=>h) :
 denSeq P N ro QP T (⟨dst,.call ⟨.value (.func f),l.toArray,ats⟩,ty,pos,after,g⟩::rest) ρ ds w:=sim_call h hf h2 hp hk
theorem yV {fo:Operand} {l:List Operand} {ats:Array TypeId} {fv:Value} {args:List Value} (h:callV P fv args.toArray QP' w k) (hk:∀ v w',k v w'→denSeq P N ro QP T rest (put N ρ dst v) ds w') (h1:ev ρ fo=fv:=by exact rfl) (h2:l.map (ev ρ)=args:=by exact rfl) (hp:∀ ch w,QP' ch w→QP ch ρ ds w:=by first | exact fun _ _ h=>⟨rfl,h⟩ | exact fun _ _ h=>outQ_of rfl h | exact fun _ _ h _ _=>⟨rfl,h⟩ | exact fun _ _ h=>outQ_ofD rfl rfl h | exact fun _ _ h=>h) :
 denSeq P N ro QP T (⟨dst,.call ⟨.value fo,l.toArray,ats⟩,ty,pos,after,g⟩::rest) ρ ds w:=sim_callV h h1 h2 hp hk
theorem yx {b:Builtin} {l:List Operand} {ats:Array TypeId} {s:Sem Value} (h:opV P s QP' w k) (hk:∀ v w',k v w'→denSeq P N ro QP T rest (put N ρ (some d) v) ds w') (hs:builtin b ats ty ((l.map fun | .const _=>true | _=>false).toArray) (l.map (ev ρ)).toArray=(do pure (.value (← s))):=by exact rfl) (hp:∀ ch w,QP' ch w→QP ch ρ ds w:=by first | exact fun _ _ h=>⟨rfl,h⟩ | exact fun _ _ h=>outQ_of rfl h | exact fun _ _ h _ _=>⟨rfl,h⟩ | exact fun _ _ h=>outQ_ofD rfl rfl h | exact fun _ _ h=>h) :
 denSeq P N ro QP T (⟨some d,.call ⟨.builtin b,l.toArray,ats⟩,ty,pos,after,g⟩::rest) ρ ds w:=sim_builtin h hs hp hk
theorem yB {t:TypeId} {ps:List (Nat×Operand)} {vs:List (Nat×Value)} (h:opV P (Instr.build t vs.toArray) QP' w k) (hk:∀ v w',k v w'→denSeq P N ro QP T rest (put N ρ (some d) v) ds w') (h2:(ps.map fun (i,x)=>(i,ev ρ x))=vs:=by exact rfl) (hp:∀ ch w,QP' ch w→QP ch ρ ds w:=by first | exact fun _ _ h=>⟨rfl,h⟩ | exact fun _ _ h=>outQ_of rfl h | exact fun _ _ h _ _=>⟨rfl,h⟩ | exact fun _ _ h=>outQ_ofD rfl rfl h | exact fun _ _ h=>h) :
 denSeq P N ro QP T (⟨some d,.build t ps.toArray,ty,pos,after,g⟩::rest) ρ ds w:=sim_build h h2 hp hk
theorem yS {t:TypeId} {n:Nat} {ps:List (Nat×Operand)} {vs:List (Nat×Value)} (h:opV P (Instr.buildSlice t n vs.toArray) QP' w k) (hk:∀ v w',k v w'→denSeq P N ro QP T rest (put N ρ (some d) v) ds w') (h2:(ps.map fun (i,x)=>(i,ev ρ x))=vs:=by exact rfl) (hp:∀ ch w,QP' ch w→QP ch ρ ds w:=by first | exact fun _ _ h=>⟨rfl,h⟩ | exact fun _ _ h=>outQ_of rfl h | exact fun _ _ h _ _=>⟨rfl,h⟩ | exact fun _ _ h=>outQ_ofD rfl rfl h | exact fun _ _ h=>h) :
 denSeq P N ro QP T (⟨some d,.buildSlice t n ps.toArray,ty,pos,after,g⟩::rest) ρ ds w:=sim_buildSlice h h2 hp hk
theorem yF {fn:Fn} {fs cs:List Operand} {vf vs:List Value} (h:opV P (Instr.makeFunc fn vf.toArray vs.toArray) QP' w k) (hk:∀ v w',k v w'→denSeq P N ro QP T rest (put N ρ (some d) v) ds w') (h1:fs.map (ev ρ)=vf:=by exact rfl) (h2:cs.map (ev ρ)=vs:=by exact rfl) (hp:∀ ch w,QP' ch w→QP ch ρ ds w:=by first | exact fun _ _ h=>⟨rfl,h⟩ | exact fun _ _ h=>outQ_of rfl h | exact fun _ _ h _ _=>⟨rfl,h⟩ | exact fun _ _ h=>outQ_ofD rfl rfl h | exact fun _ _ h=>h) :
 denSeq P N ro QP T (⟨some d,.makeFunc fn fs.toArray cs.toArray,ty,pos,after,g⟩::rest) ρ ds w:=sim_makeFunc h h1 h2 hp hk
theorem yp {c a b:Operand} {vc va vb:Value} {k:Value→Prop} (h:pickK vc va vb k) (hk:∀ v,k v→denSeq P N ro QP T rest (put N ρ (some d) v) ds w) (h1:ev ρ c=vc:=by exact rfl) (h2:ev ρ a=va:=by exact rfl) (h3:ev ρ b=vb:=by exact rfl):denSeq P N ro QP T (⟨some d,.pick c a b,ty,pos,after,g⟩::rest) ρ ds w:=sim_pick h h1 h2 h3 hk
theorem yt {S:List Nat} {J G:Env→World→Prop} {C:World→Prop} (hT:∀ ρ' w,Fr S ρ ρ'→C w→J ρ' w→G ρ' w) {ρ':Env} {w:World} (hC:C w) (h:J ρ' w) (hf:Fr S ρ ρ':=by repeat (first | exact Fr.refl _ _ | refine Fr.put rfl ?_ | refine Fr.put_none ?_ | refine Fr.mix rfl ?_ | refine Fr.skipAll rfl ?_)):G ρ' w:=hT ρ' w hf hC h
end
section
variable {P:Program} {N:Nat} {ro:Option Nat} {ops:Array Oper} {Q:Env→List Deferred→World→Prop} {QP0:List PanicEntry→List Deferred→World→Prop} {QP:KP} {C:World→Prop} {fuel:Nat} {done:List Nat} {o:Oper} {ρ:Env} {ds:List Deferred} {w:World}
theorem ye (i:Nat) {k:Value→Prop} (hC:C w) {s:Sem Value} (h:qV P C s k) (hk:∀ v,k v→denD P N ro ops Q (fun ch _ ds w=>QP0 ch ds w) C fuel (i::done) (put N ρ o.dst v) ds w) (hi:ops[i]?=some o:=by exact rfl) (hr:(readyL ops done).contains i=true:=by kernel_rfl) (hf:freeB ops done i=true:=by kernel_rfl) (hg:∀ p q,guardO ops o ρ p q=p:=by first | exact fun _ _=>rfl | exact fun _ _=>guardP_true (by assumption)) (hd:isDefer o.op=false:=by exact rfl) (hs:∀ v,(∀ w,C w→s.run P w = .ok v w)→∀ w,C w→(execOp (ev ρ) o).run P w = .ok (.value v) w:=by first | exact fun _ h=>qV_run rfl h | exact fun _ h=>qV_bin rfl rfl rfl h | exact fun _ h=>qV_builtin rfl h | exact fun _ h=>qV_build rfl h | exact fun _ h=>qV_makeFunc rfl rfl h) :
 denD P N ro ops Q (fun ch _ ds w=>QP0 ch ds w) C (fuel+1) done ρ ds w:=let ⟨v,hv,hkv⟩:=h;sim_dsilent i hC hi hr hf hg hd (hs v hv) (hk v hkv)
theorem yn (i:Nat) {k:Value→Prop} (hC:C w) {s:Sem Next} (h:qN P C s k) (hk:∀ v,k v→denD P N ro ops Q (fun ch _ ds w=>QP0 ch ds w) C fuel (i::done) (put N ρ o.dst v) ds w) (hi:ops[i]?=some o:=by exact rfl) (hr:(readyL ops done).contains i=true:=by kernel_rfl) (hf:freeB ops done i=true:=by kernel_rfl) (hg:∀ p q,guardO ops o ρ p q=p:=by first | exact fun _ _=>rfl | exact fun _ _=>guardP_true (by assumption)) (hd:isDefer o.op=false:=by exact rfl) (hs:execOp (ev ρ) o=s:=by exact rfl) :
 denD P N ro ops Q (fun ch _ ds w=>QP0 ch ds w) C (fuel+1) done ρ ds w:=let ⟨v,hv,hkv⟩:=h;sim_dsilent i hC hi hr hf hg hd (qN_run hs hv) (hk v hkv)
theorem yw (i:Nat) {v:Value} (hC:C w) (h:denD P N ro ops Q (fun ch _ ds w=>QP0 ch ds w) C fuel (i::done) (put N ρ o.dst v) ds w) (hi:ops[i]?=some o:=by exact rfl) (hr:(readyL ops done).contains i=true:=by kernel_rfl) (hf:freeB ops done i=true:=by kernel_rfl) (hg:∀ p q,guardO ops o ρ p q=p:=by first | exact fun _ _=>rfl | exact fun _ _=>guardP_true (by assumption)) (hd:isDefer o.op=false:=by exact rfl) (hs:execOp (ev ρ) o=Sem.pure (.value v):=by exact rfl) :
 denD P N ro ops Q (fun ch _ ds w=>QP0 ch ds w) C (fuel+1) done ρ ds w:=sim_dsilent i hC hi hr hf hg hd (move_run hs) h
theorem yi (i:Nat) (hC:C w) (h:denD P N ro ops Q (fun ch _ ds w=>QP0 ch ds w) C fuel (i::done) (put N ρ o.dst undef) ds w) (hi:ops[i]?=some o:=by exact rfl) (hr:(readyL ops done).contains i=true:=by kernel_rfl) (hf:freeB ops done i=true:=by kernel_rfl) (hg:∀ p q,guardO ops o ρ p q=q:=by exact fun _ _=>guardP_false (by assumption)) :
 denD P N ro ops Q (fun ch _ ds w=>QP0 ch ds w) C (fuel+1) done ρ ds w:=sim_dskip i hC hi hr hf hg h
theorem yP (i:Nat) {c a b:Operand} {d:Nat} {ty:TypeId} {pos:String} {after:Array Edge} {g:Option (Nat×Bool)} {vc va vb:Value} {k:Value→Prop} (hC:C w) (h:pickK vc va vb k) (hk:∀ v,k v→denD P N ro ops Q (fun ch _ ds w=>QP0 ch ds w) C fuel (i::done) (put N ρ (some d) v) ds w) (hi:ops[i]?=some ⟨some d,.pick c a b,ty,pos,after,g⟩:=by exact rfl) (hr:(readyL ops done).contains i=true:=by kernel_rfl) (hf:freeB ops done i=true:=by kernel_rfl) (hg:∀ p q,guardO ops ⟨some d,.pick c a b,ty,pos,after,g⟩ ρ p q=p:=by first | exact fun _ _=>rfl | exact fun _ _=>guardP_true (by assumption)) (h1:ev ρ c=vc:=by exact rfl) (h2:ev ρ a=va:=by exact rfl) (h3:ev ρ b=vb:=by exact rfl) :
 denD P N ro ops Q (fun ch _ ds w=>QP0 ch ds w) C (fuel+1) done ρ ds w:=by
 obtain ⟨t,ht,h⟩:=pickK_elim h
 exact sim_dsilent i hC hi hr hf hg rfl (pick_run (h1.trans ht) h2 h3) (hk _ h)
theorem yo (i:Nat) (h:denSeq P N ro QP (fun ρ ds w=>C w∧denD P N ro ops Q QP C fuel (i::done) ρ ds w) [o] ρ ds w) (hi:ops[i]?=some o:=by exact rfl) (hr:readyL ops done=[i]:=by kernel_rfl) (hg:∀ p q,guardO ops o ρ p q=p:=by first | exact fun _ _=>rfl | exact fun _ _=>guardP_true (by assumption)):denD P N ro ops Q QP C (fuel+1) done ρ ds w:=sim_dloud i hi hr hg h
theorem yr (i:Nat) (h:denSeq P N ro QP (fun ρ ds w=>∃ C':World→Prop,(∀ x,C' x→C x)∧C' w∧denD P N ro ops Q QP C' fuel (i::done) ρ ds w) [o] ρ ds w) (hi:ops[i]?=some o:=by exact rfl) (hr:readyL ops done=[i]:=by kernel_rfl) (hg:∀ p q,guardO ops o ρ p q=p:=by first | exact fun _ _=>rfl | exact fun _ _=>guardP_true (by assumption)):denD P N ro ops Q QP C (fuel+1) done ρ ds w:=sim_dnarrow i hi hr hg h
theorem yq (i n:Nat) (h:denSeq P N ro QP (fun ρ ds w=>∃ C':World→Prop,C' w∧denD P N ro ops Q QP C' fuel (i::done) ρ ds w) [o] ρ ds w) (hi:ops[i]?=some o:=by exact rfl) (hr:readyL ops done=[i]:=by kernel_rfl) (hm:mayTurn ops n done i=true:=by kernel_rfl) (hg:∀ p q,guardO ops o ρ p q=p:=by first | exact fun _ _=>rfl | exact fun _ _=>guardP_true (by assumption)):denD P N ro ops Q QP C (fuel+1) done ρ ds w:=sim_dturn i n hi hr hm hg h
theorem yz (h:Q ρ ds w) (hr:readyL ops done=[]:=by kernel_rfl):denD P N ro ops Q QP C fuel done ρ ds w:=sim_dend hr h
theorem yh (S:List Nat) {id:Nat} {l:List Oper} {Q:K} {f:(World→Prop)→World→Prop} (h:drawK w f) (hk:∀ C:World→Prop,C (drew w)→f C (drew w)→denD P N ro l.toArray (Q .normal) (fun ch _ ds w=>∀ ρ',Fr S ρ ρ'→QP ch ρ' ds w) C l.length [] ρ ds (drew w)) (hm:P.follows .mixedOrders=true:=by kernel_rfl) (hS:l.all (fun o=>match o.dst with | some d=>S.contains d | none=>true)=true:=by kernel_rfl):den P N ro (.region id l.toArray true) Q QP ρ ds w:=let ⟨C,hC,hf⟩:=h;sim_draw S hm hS C (hk C hC hf)
theorem yj1 (fuel':Nat) (done' S:List Nat) (x0:Nat) {K0:Value→World→Prop} {A B:(Value→World→Prop)→Prop} {v:Value} {want:Bool} (h:joinK K0 fun K=>guardP v want (A K) (B K))
 (h1:∀ K:Value→World→Prop,(∀ ρ' w,Fr S ρ ρ'→C w→K (ρ' x0) w→denD P N ro ops Q QP C fuel' done' ρ' ds w)→boolOf v=some want→A K→denD P N ro ops Q QP C fuel done ρ ds w) (h2:∀ K:Value→World→Prop,(∀ ρ' w,Fr S ρ ρ'→C w→K (ρ' x0) w→denD P N ro ops Q QP C fuel' done' ρ' ds w)→boolOf v≠some want→B K→denD P N ro ops Q QP C fuel done ρ ds w)
 (hJ:∀ σ w,C w→K0 (σ x0) w→denD P N ro ops Q QP C fuel' done' (mix S ρ σ) ds w):denD P N ro ops Q QP C fuel done ρ ds w :=
 sim_djoin fuel' done' S (fun ρ w=>K0 (ρ x0) w) (fun _ hT=>(guardP_cases h).elim (fun h=>h1 K0 hT h.1 h.2) (fun h=>h2 K0 hT h.1 h.2)) hJ
end
section
variable {P:Program} {N:Nat} {ro:Option Nat} {c:Code} {Q:K} {QP:KP} {ρ:Env} {ds:List Deferred} {w:World}
theorem yl1 (W:List Nat) (x0:Nat) {body:Value→World→(Value→World→Prop)→Prop} {a0:Value} (h:loop1 body a0 w) (hr:∀ σ w (k:Value→World→Prop),body (σ x0) w k→den P N ro c (thenK (fun ρ' ds' w'=>ds'=ds∧k (ρ' x0) w') Q) QP (mix W ρ σ) ds w) (hW:((writes c).all (W.contains ·)&&W.all ((writes c).contains ·))=true:=by kernel_rfl) (h0:ρ x0=a0:=by exact rfl):den P N ro (.loop c) Q QP ρ ds w:=by
 obtain ⟨I,μ,hi,hb⟩:=h
 subst h0
 exact sim_loop W hW (fun ρ w=>I (ρ x0) w) (fun ρ w=>μ (ρ x0) w) hi fun σ w hI=>hr σ w _ (hb _ _ hI)
theorem yL1 (W:List Nat) (x0:Nat) {body:List Deferred→Value→World→(List Deferred→Value→World→Prop)→Prop} {a0:Value} (h:loopM1 body ds a0 w) (hr:∀ σ ds w (k:List Deferred→Value→World→Prop),body ds (σ x0) w k→den P N ro c (thenK (fun ρ' ds' w'=>k ds' (ρ' x0) w') Q) QP (mix W ρ σ) ds w) (hW:((writes c).all (W.contains ·)&&W.all ((writes c).contains ·))=true:=by kernel_rfl) (h0:ρ x0=a0:=by exact rfl):den P N ro (.loop c) Q QP ρ ds w:=by
 obtain ⟨I,μ,hi,hb⟩:=h
 subst h0
 exact sim_loopM W hW (fun ρ ds w=>I ds (ρ x0) w) (fun ρ w=>μ (ρ x0) w) hi fun σ ds w hI=>hr σ ds w _ (hb _ _ _ hI)
theorem yl2 (W:List Nat) (x0 x1:Nat) {body:Value→Value→World→(Value→Value→World→Prop)→Prop} {a0 a1:Value} (h:loop2 body a0 a1 w) (hr:∀ σ w (k:Value→Value→World→Prop),body (σ x0) (σ x1) w k→den P N ro c (thenK (fun ρ' ds' w'=>ds'=ds∧k (ρ' x0) (ρ' x1) w') Q) QP (mix W ρ σ) ds w) (hW:((writes c).all (W.contains ·)&&W.all ((writes c).contains ·))=true:=by kernel_rfl) (h0:ρ x0=a0:=by exact rfl) (h1:ρ x1=a1:=by exact rfl):den P N ro (.loop c) Q QP ρ ds w:=by
 obtain ⟨I,μ,hi,hb⟩:=h
 subst h0 h1
 exact sim_loop W hW (fun ρ w=>I (ρ x0) (ρ x1) w) (fun ρ w=>μ (ρ x0) (ρ x1) w) hi fun σ w hI=>hr σ w _ (hb _ _ _ hI)
theorem yl3 (W:List Nat) (x0 x1 x2:Nat) {body:Value→Value→Value→World→(Value→Value→Value→World→Prop)→Prop} {a0 a1 a2:Value} (h:loop3 body a0 a1 a2 w) (hr:∀ σ w (k:Value→Value→Value→World→Prop),body (σ x0) (σ x1) (σ x2) w k→den P N ro c (thenK (fun ρ' ds' w'=>ds'=ds∧k (ρ' x0) (ρ' x1) (ρ' x2) w') Q) QP (mix W ρ σ) ds w) (hW:((writes c).all (W.contains ·)&&W.all ((writes c).contains ·))=true:=by kernel_rfl) (h0:ρ x0=a0:=by exact rfl) (h1:ρ x1=a1:=by exact rfl) (h2:ρ x2=a2:=by exact rfl):den P N ro (.loop c) Q QP ρ ds w:=by
 obtain ⟨I,μ,hi,hb⟩:=h
 subst h0 h1 h2
 exact sim_loop W hW (fun ρ w=>I (ρ x0) (ρ x1) (ρ x2) w) (fun ρ w=>μ (ρ x0) (ρ x1) (ρ x2) w) hi fun σ w hI=>hr σ w _ (hb _ _ _ _ hI)
theorem yJ0 (S:List Nat) {K0:World→Prop} {f:(World→Prop)→Prop} (h:joinK K0 f) (hc:∀ (K:World→Prop) (k':Env→List Deferred→World→Prop),(∀ ρ' w,Fr S ρ ρ'→K w→k' ρ' ds w)→f K→den P N ro c (thenK k' Q) QP ρ ds w) (hJ:∀ σ w,K0 w→Q .normal (mix S ρ σ) ds w):den P N ro c Q QP ρ ds w :=
 sim_joinQ S (fun ρ w=>K0 w) (fun k' hk=>hc K0 k' hk h) hJ
theorem yJ1 (S:List Nat) (x0:Nat) {K0:Value→World→Prop} {f:(Value→World→Prop)→Prop} (h:joinK K0 f) (hc:∀ (K:Value→World→Prop) (k':Env→List Deferred→World→Prop),(∀ ρ' w,Fr S ρ ρ'→K (ρ' x0) w→k' ρ' ds w)→f K→den P N ro c (thenK k' Q) QP ρ ds w) (hJ:∀ σ w,K0 (σ x0) w→Q .normal (mix S ρ σ) ds w):den P N ro c Q QP ρ ds w :=
 sim_joinQ S (fun ρ w=>K0 (ρ x0) w) (fun k' hk=>hc K0 k' hk h) hJ
theorem yJ2 (S:List Nat) (x0 x1:Nat) {K0:Value→Value→World→Prop} {f:(Value→Value→World→Prop)→Prop} (h:joinK K0 f) (hc:∀ (K:Value→Value→World→Prop) (k':Env→List Deferred→World→Prop),(∀ ρ' w,Fr S ρ ρ'→K (ρ' x0) (ρ' x1) w→k' ρ' ds w)→f K→den P N ro c (thenK k' Q) QP ρ ds w) (hJ:∀ σ w,K0 (σ x0) (σ x1) w→Q .normal (mix S ρ σ) ds w):den P N ro c Q QP ρ ds w :=
 sim_joinQ S (fun ρ w=>K0 (ρ x0) (ρ x1) w) (fun k' hk=>hc K0 k' hk h) hJ
theorem yC {x:Operand} {A B:Code} {v:Value} {p q:Prop} (h:condP v p q) (hp:p→den P N ro A Q QP ρ ds w) (hq:q→den P N ro B Q QP ρ ds w) (hv:ev ρ x=v:=by exact rfl):den P N ro (.cond x A B) Q QP ρ ds w:=sim_cond h hv hp hq
theorem yG (n:Nat) {ops:Array Oper} {l:List Oper} (h:denSeq P N ro QP (fun ρ ds w=>denOps P N ro ops Q QP (l.drop n) none ρ ds w) (l.take n) ρ ds w) (hu:unguarded (l.take n)=true:=by exact rfl):denOps P N ro ops Q QP l none ρ ds w:=sim_seg n hu h
theorem yg1 (n j:Nat) (want:Bool) (S:List Nat) (x0:Nat) {ops:Array Oper} {l:List Oper} {K0:Value→World→Prop} {A:(Value→World→Prop)→Prop} {v:Value} {u0:Value} (h:joinK K0 fun K=>guardP v want (A K) (K u0 w))
 (hc:∀ (K:Value→World→Prop) (T:Env→List Deferred→World→Prop),(∀ ρ' w,Fr S ρ ρ'→K (ρ' x0) w→T ρ' ds w)→A K→denSeq P N ro QP T (l.take n) ρ ds w) (hJ:∀ σ w,K0 (σ x0) w→denOps P N ro ops Q QP (l.drop n) none (mix S ρ σ) ds w) (hok:grpOK ops j want (l.take n) (l.drop n)=true:=by exact rfl) (hv:gslot ops ρ j=v:=by exact rfl) (hf:Fr S ρ (skipAll N (l.take n) ρ):=by exact Fr.skipAll rfl (Fr.refl _ _)) (hu0:skipAll N (l.take n) ρ x0=u0:=by exact rfl):denOps P N ro ops Q QP l none ρ ds w:=by
 subst hu0;exact sim_groupJ n j want S (fun ρ w=>K0 (ρ x0) w) hok hv (fun T hT=>guardP_mono h (hc K0 T hT) fun h=>hT _ _ hf h) hJ
end
section
variable {P:Program} {f:FuncId} {fn:Func} {c:Code} {args:List Value} {w:World} {R:RT}
theorem yD (hf:P.funcs[f]?=some fn) (h:den P fn.ntmps none c (bodyK P fn R) (bodyQP R) (env0 args) [] w) (hb:fn.body=some c:=by exact rfl) (hn:args.length≤fn.ntmps:=by exact Nat.le_of_ble_eq_true rfl):Calls P f args.toArray w R:=calls_of_den hf hb hn h
theorem yE (hf:P.funcs[f]?=some fn) (h:den P fn.ntmps none c (bodyKM P fn R) (bodyQPM P fn R) (env0 args) [] w) (hb:fn.body=some c:=by exact rfl) (hn:args.length≤fn.ntmps:=by exact Nat.le_of_ble_eq_true rfl):Calls P f args.toArray w R:=calls_of_denM hf hb hn h
end
end Go.Sw
namespace Go.Proofs.YtgalpdihjbinjaaGreatDoor
open Sw
theorem c3:Sw.Callable Pg 3:=⟨_,Tryz.func3,Qq,rfl⟩
theorem c4:Sw.Callable Pg 4:=⟨_,Tryz.func4,Qq,rfl⟩
theorem c5:Sw.Callable Pg 5:=⟨_,Tryz.func5,Qq,rfl⟩
theorem c6:Sw.Callable Pg 6:=⟨_,Tryz.func6,Qq,rfl⟩
theorem c7:Sw.Callable Pg 7:=⟨_,Tryz.func7,Qq,rfl⟩
theorem c8:Sw.Callable Pg 8:=⟨_,Tryz.func8,Qq,rfl⟩
theorem c9:Sw.Callable Pg 9:=⟨_,Tryz.func9,Qq,rfl⟩
theorem c10:Sw.Callable Pg 10:=⟨_,Tryz.func10,Qq,rfl⟩
theorem c11:Sw.Callable Pg 11:=⟨_,Tryz.func11,Qq,rfl⟩
theorem c12:Sw.Callable Pg 12:=⟨_,Tryz.func12,Qq,rfl⟩
theorem c13:Sw.Callable Pg 13:=⟨_,Tryz.func13,Qq,rfl⟩
theorem c14:Sw.Callable Pg 14:=⟨_,Tryz.func14,Qq,rfl⟩
theorem c16:Sw.Callable Pg 16:=⟨_,Tryz.func16,Qq,rfl⟩
theorem c18:Sw.Callable Pg 18:=⟨_,Tryz.func18,Qq,rfl⟩
theorem c20:Sw.Callable Pg 20:=⟨_,Tryz.func20,Qq,rfl⟩
theorem c22:Sw.Callable Pg 22:=⟨_,Tryz.func22,Qq,rfl⟩
theorem c24:Sw.Callable Pg 24:=⟨_,Tryz.func24,Qq,rfl⟩
theorem c25:Sw.Callable Pg 25:=⟨_,Tryz.func25,Qq,rfl⟩
theorem c30:Sw.Callable Pg 30:=⟨_,Tryz.func30,Qq,rfl⟩
theorem c31:Sw.Callable Pg 31:=⟨_,Tryz.func31,Qq,rfl⟩
theorem c32:Sw.Callable Pg 32:=⟨_,Tryz.func32,Qq,rfl⟩
theorem c33:Sw.Callable Pg 33:=⟨_,Tryz.func33,Qq,rfl⟩
theorem c34:Sw.Callable Pg 34:=⟨_,Tryz.func34,Qq,rfl⟩
theorem c35:Sw.Callable Pg 35:=⟨_,Tryz.func35,Qq,rfl⟩
theorem c36:Sw.Callable Pg 36:=⟨_,Tryz.func36,Qq,rfl⟩
theorem c42:Sw.Callable Pg 42:=⟨_,Tryz.func42,Qq,rfl⟩
theorem c43:Sw.Callable Pg 43:=⟨_,Tryz.func43,Qq,rfl⟩
theorem c44:Sw.Callable Pg 44:=⟨_,Tryz.func44,Qq,rfl⟩
theorem c46:Sw.Callable Pg 46:=⟨_,Tryz.func46,Qq,rfl⟩
theorem c47:Sw.Callable Pg 47:=⟨_,Tryz.func47,Qq,rfl⟩
theorem c48:Sw.Callable Pg 48:=⟨_,Tryz.func48,Qq,rfl⟩
theorem c49:Sw.Callable Pg 49:=⟨_,Tryz.func49,Qq,rfl⟩
theorem c50:Sw.Callable Pg 50:=⟨_,Tryz.func50,Qq,rfl⟩
theorem c51:Sw.Callable Pg 51:=⟨_,Tryz.func51,Qq,rfl⟩
theorem c52:Sw.Callable Pg 52:=⟨_,Tryz.func52,Qq,rfl⟩
theorem c55:Sw.Callable Pg 55:=⟨_,Tryz.func55,Qq,rfl⟩
theorem c56:Sw.Callable Pg 56:=⟨_,Tryz.func56,Qq,rfl⟩
theorem c57:Sw.Callable Pg 57:=⟨_,Tryz.func57,Qq,rfl⟩
theorem c58:Sw.Callable Pg 58:=⟨_,Tryz.func58,Qq,rfl⟩
theorem c59:Sw.Callable Pg 59:=⟨_,Tryz.func59,Qq,rfl⟩
theorem c60:Sw.Callable Pg 60:=⟨_,Tryz.func60,Qq,rfl⟩
theorem c68:Sw.Callable Pg 68:=⟨_,Tryz.func68,Qq,rfl⟩
theorem c70:Sw.Callable Pg 70:=⟨_,Tryz.func70,Qq,rfl⟩
theorem c71:Sw.Callable Pg 71:=⟨_,Tryz.func71,Qq,rfl⟩
theorem c72:Sw.Callable Pg 72:=⟨_,Tryz.func72,Qq,rfl⟩
theorem c73:Sw.Callable Pg 73:=⟨_,Tryz.func73,Qq,rfl⟩
theorem c74:Sw.Callable Pg 74:=⟨_,Tryz.func74,Qq,rfl⟩
theorem c75:Sw.Callable Pg 75:=⟨_,Tryz.func75,Qq,rfl⟩
theorem c76:Sw.Callable Pg 76:=⟨_,Tryz.func76,Qq,rfl⟩
theorem c77:Sw.Callable Pg 77:=⟨_,Tryz.func77,Qq,rfl⟩
theorem c78:Sw.Callable Pg 78:=⟨_,Tryz.func78,Qq,rfl⟩
theorem c79:Sw.Callable Pg 79:=⟨_,Tryz.func79,Qq,rfl⟩
theorem c85:Sw.Callable Pg 85:=⟨_,Tryz.func85,Qq,rfl⟩
theorem c87:Sw.Callable Pg 87:=⟨_,Tryz.func87,Qq,rfl⟩
theorem c88:Sw.Callable Pg 88:=⟨_,Tryz.func88,Qq,rfl⟩
theorem c89:Sw.Callable Pg 89:=⟨_,Tryz.func89,Qq,rfl⟩
theorem c90:Sw.Callable Pg 90:=⟨_,Tryz.func90,Qq,rfl⟩
theorem c91:Sw.Callable Pg 91:=⟨_,Tryz.func91,Qq,rfl⟩
theorem c97:Sw.Callable Pg 97:=⟨_,Tryz.func97,Qq,rfl⟩
theorem c101:Sw.Callable Pg 101:=⟨_,Tryz.func101,Qq,rfl⟩
theorem c102:Sw.Callable Pg 102:=⟨_,Tryz.func102,Qq,rfl⟩
theorem c106:Sw.Callable Pg 106:=⟨_,Tryz.func106,Qq,rfl⟩
theorem c107:Sw.Callable Pg 107:=⟨_,Tryz.func107,Qq,rfl⟩
theorem c108:Sw.Callable Pg 108:=⟨_,Tryz.func108,Qq,rfl⟩
theorem c109:Sw.Callable Pg 109:=⟨_,Tryz.func109,Qq,rfl⟩
theorem c110:Sw.Callable Pg 110:=⟨_,Tryz.func110,Qq,rfl⟩
theorem c111:Sw.Callable Pg 111:=⟨_,Tryz.func111,Qq,rfl⟩
theorem c112:Sw.Callable Pg 112:=⟨_,Tryz.func112,Qq,rfl⟩
theorem c113:Sw.Callable Pg 113:=⟨_,Tryz.func113,Qq,rfl⟩
theorem c114:Sw.Callable Pg 114:=⟨_,Tryz.func114,Qq,rfl⟩
theorem c129:Sw.Callable Pg 129:=⟨_,Tryz.func129,Qq,rfl⟩
theorem c134:Sw.Callable Pg 134:=⟨_,Tryz.func134,Qq,rfl⟩
theorem c135:Sw.Callable Pg 135:=⟨_,Tryz.func135,Qq,rfl⟩
theorem c136:Sw.Callable Pg 136:=⟨_,Tryz.func136,Qq,rfl⟩
theorem c137:Sw.Callable Pg 137:=⟨_,Tryz.func137,Qq,rfl⟩
theorem c138:Sw.Callable Pg 138:=⟨_,Tryz.func138,Qq,rfl⟩
theorem c139:Sw.Callable Pg 139:=⟨_,Tryz.func139,Qq,rfl⟩
theorem c140:Sw.Callable Pg 140:=⟨_,Tryz.func140,Qq,rfl⟩
theorem c141:Sw.Callable Pg 141:=⟨_,Tryz.func141,Qq,rfl⟩
theorem c142:Sw.Callable Pg 142:=⟨_,Tryz.func142,Qq,rfl⟩
theorem c161:Sw.Callable Pg 161:=⟨_,Tryz.func161,Qq,rfl⟩
theorem c162:Sw.Callable Pg 162:=⟨_,Tryz.func162,Qq,rfl⟩
theorem c163:Sw.Callable Pg 163:=⟨_,Tryz.func163,Qq,rfl⟩
theorem c164:Sw.Callable Pg 164:=⟨_,Tryz.func164,Qq,rfl⟩
theorem c165:Sw.Callable Pg 165:=⟨_,Tryz.func165,Qq,rfl⟩
theorem c166:Sw.Callable Pg 166:=⟨_,Tryz.func166,Qq,rfl⟩
theorem c167:Sw.Callable Pg 167:=⟨_,Tryz.func167,Qq,rfl⟩
theorem c195:Sw.Callable Pg 195:=⟨_,Tryz.func195,Qq,rfl⟩
theorem c196:Sw.Callable Pg 196:=⟨_,Tryz.func196,Qq,rfl⟩
theorem c197:Sw.Callable Pg 197:=⟨_,Tryz.func197,Qq,rfl⟩
theorem c198:Sw.Callable Pg 198:=⟨_,Tryz.func198,Qq,rfl⟩
theorem c199:Sw.Callable Pg 199:=⟨_,Tryz.func199,Qq,rfl⟩
theorem c200:Sw.Callable Pg 200:=⟨_,Tryz.func200,Qq,rfl⟩
theorem c212:Sw.Callable Pg 212:=⟨_,Tryz.func212,Qq,rfl⟩
theorem c213:Sw.Callable Pg 213:=⟨_,Tryz.func213,Qq,rfl⟩
theorem c214:Sw.Callable Pg 214:=⟨_,Tryz.func214,Qq,rfl⟩
theorem c215:Sw.Callable Pg 215:=⟨_,Tryz.func215,Qq,rfl⟩
theorem c216:Sw.Callable Pg 216:=⟨_,Tryz.func216,Qq,rfl⟩
theorem c217:Sw.Callable Pg 217:=⟨_,Tryz.func217,Qq,rfl⟩
theorem c218:Sw.Callable Pg 218:=⟨_,Tryz.func218,Qq,rfl⟩
theorem c219:Sw.Callable Pg 219:=⟨_,Tryz.func219,Qq,rfl⟩
theorem c220:Sw.Callable Pg 220:=⟨_,Tryz.func220,Qq,rfl⟩
theorem c221:Sw.Callable Pg 221:=⟨_,Tryz.func221,Qq,rfl⟩
theorem c222:Sw.Callable Pg 222:=⟨_,Tryz.func222,Qq,rfl⟩
theorem c223:Sw.Callable Pg 223:=⟨_,Tryz.func223,Qq,rfl⟩
theorem c224:Sw.Callable Pg 224:=⟨_,Tryz.func224,Qq,rfl⟩
theorem c225:Sw.Callable Pg 225:=⟨_,Tryz.func225,Qq,rfl⟩
theorem c226:Sw.Callable Pg 226:=⟨_,Tryz.func226,Qq,rfl⟩
theorem c227:Sw.Callable Pg 227:=⟨_,Tryz.func227,Qq,rfl⟩
theorem c228:Sw.Callable Pg 228:=⟨_,Tryz.func228,Qq,rfl⟩
theorem c229:Sw.Callable Pg 229:=⟨_,Tryz.func229,Qq,rfl⟩
theorem c230:Sw.Callable Pg 230:=⟨_,Tryz.func230,Qq,rfl⟩
theorem c231:Sw.Callable Pg 231:=⟨_,Tryz.func231,Qq,rfl⟩
theorem c232:Sw.Callable Pg 232:=⟨_,Tryz.func232,Qq,rfl⟩
theorem c233:Sw.Callable Pg 233:=⟨_,Tryz.func233,Qq,rfl⟩
theorem c234:Sw.Callable Pg 234:=⟨_,Tryz.func234,Qq,rfl⟩
theorem c235:Sw.Callable Pg 235:=⟨_,Tryz.func235,Qq,rfl⟩
theorem c236:Sw.Callable Pg 236:=⟨_,Tryz.func236,Qq,rfl⟩
theorem c237:Sw.Callable Pg 237:=⟨_,Tryz.func237,Qq,rfl⟩
theorem c238:Sw.Callable Pg 238:=⟨_,Tryz.func238,Qq,rfl⟩
theorem c239:Sw.Callable Pg 239:=⟨_,Tryz.func239,Qq,rfl⟩
theorem c240:Sw.Callable Pg 240:=⟨_,Tryz.func240,Qq,rfl⟩
theorem c241:Sw.Callable Pg 241:=⟨_,Tryz.func241,Qq,rfl⟩
theorem c246:Sw.Callable Pg 246:=⟨_,Tryz.func246,Qq,rfl⟩
theorem c247:Sw.Callable Pg 247:=⟨_,Tryz.func247,Qq,rfl⟩
theorem c248:Sw.Callable Pg 248:=⟨_,Tryz.func248,Qq,rfl⟩
theorem c249:Sw.Callable Pg 249:=⟨_,Tryz.func249,Qq,rfl⟩
theorem c250:Sw.Callable Pg 250:=⟨_,Tryz.func250,Qq,rfl⟩
theorem c251:Sw.Callable Pg 251:=⟨_,Tryz.func251,Qq,rfl⟩
theorem c252:Sw.Callable Pg 252:=⟨_,Tryz.func252,Qq,rfl⟩
theorem c253:Sw.Callable Pg 253:=⟨_,Tryz.func253,Qq,rfl⟩
theorem c254:Sw.Callable Pg 254:=⟨_,Tryz.func254,Qq,rfl⟩
theorem c255:Sw.Callable Pg 255:=⟨_,Tryz.func255,Qq,rfl⟩
theorem c256:Sw.Callable Pg 256:=⟨_,Tryz.func256,Qq,rfl⟩
theorem c257:Sw.Callable Pg 257:=⟨_,Tryz.func257,Qq,rfl⟩
theorem c258:Sw.Callable Pg 258:=⟨_,Tryz.func258,Qq,rfl⟩
theorem c259:Sw.Callable Pg 259:=⟨_,Tryz.func259,Qq,rfl⟩
theorem c260:Sw.Callable Pg 260:=⟨_,Tryz.func260,Qq,rfl⟩
theorem c261:Sw.Callable Pg 261:=⟨_,Tryz.func261,Qq,rfl⟩
theorem c262:Sw.Callable Pg 262:=⟨_,Tryz.func262,Qq,rfl⟩
theorem c263:Sw.Callable Pg 263:=⟨_,Tryz.func263,Qq,rfl⟩
theorem c264:Sw.Callable Pg 264:=⟨_,Tryz.func264,Qq,rfl⟩
def n66c1 (t3 t4 t13:Value) (ds:List Deferred) (R:RT) (w:World):Prop :=
 opV Pg (Instr.build 131 #[]) (outQ Pg ds [(none,t13),(some 131,t3),(some 4,t4)] R) w fun t65 w =>
 opU Pg (Instr.storeAt 131 t3 t65) (outQ Pg ds [(none,t13),(some 131,t3),(some 4,t4)] R) w fun w =>
 opU Pg (Instr.storeAt 4 t4 (.bool false)) (outQ Pg ds [(none,t13),(some 131,t3),(some 4,t4)] R) w fun w =>
 outX Pg ds [(none,t13),(some 131,t3),(some 4,t4)] R w
def n66c2 (t1 t3 t4 t13:Value) (C3:World→Prop) (ds:List Deferred) (R:RT) (w:World):Prop :=
 qN Pg C3 (nilN t13) fun t53 =>
 qV Pg C3 (Instr.fieldAt 201 t53 1) fun t54 =>
 qV Pg C3 (Instr.loadAt 198 t54) fun t55 =>
 qV Pg C3 (Instr.fieldAt 27 t1 2) fun t56 =>
 qV Pg C3 (Instr.loadAt 9 t56) fun t57 =>
 qV Pg C3 (Instr.lookup 198 t55 t57 true) fun t58 =>
 qV Pg C3 (Instr.extract t58 0) fun t59 =>
 qV Pg C3 (Instr.extract t58 1) fun t60 =>
 callK Pg 135 #[t13,t60,(.int .i64 11)] (outQ Pg ds [(none,t13),(some 131,t3),(some 4,t4)] R) w fun t63 w =>
 n66c1 t3 t4 t13 ds R w
def n66c3 (t1 t3 t4 t13:Value) (ds:List Deferred) (R:RT) (w:World):Prop :=
 opN Pg (nilN t13) (outQ Pg ds [(none,t13),(some 131,t3),(some 4,t4)] R) w fun t49 w =>
 opV Pg (Instr.fieldAt 201 t49 3) (outQ Pg ds [(none,t13),(some 131,t3),(some 4,t4)] R) w fun t50 w =>
 opU Pg (Instr.storeAt 3 t50 (.int .i64 (-1))) (outQ Pg ds [(none,t13),(some 131,t3),(some 4,t4)] R) w fun w =>
 drawK w fun C3 w =>
 n66c2 t1 t3 t4 t13 C3 ds R w
def n66c4 (t3 t4 t13 t33 t35:Value) (next2:KV) (ds:List Deferred) (R:RT) (w:World):Prop :=
 opV Pg (Instr.indexAt 25 t33 t35) (outQ Pg ds [(none,t13),(some 131,t3),(some 4,t4)] R) w fun t38 w =>
 opV Pg (Instr.loadAt 74 t38) (outQ Pg ds [(none,t13),(some 131,t3),(some 4,t4)] R) w fun t39 w =>
 opV Pg (Instr.alloc 74 true (.tuple #[])) (outQ Pg ds [(none,t13),(some 131,t3),(some 4,t4)] R) w fun t6 w =>
 opU Pg (Instr.storeAt 74 t6 t39) (outQ Pg ds [(none,t13),(some 131,t3),(some 4,t4)] R) w fun w =>
 opN Pg (nilN t13) (outQ Pg ds [(none,t13),(some 131,t3),(some 4,t4)] R) w fun t42 w =>
 opV Pg (Instr.fieldAt 201 t42 3) (outQ Pg ds [(none,t13),(some 131,t3),(some 4,t4)] R) w fun t43 w =>
 opU Pg (Instr.storeAt 3 t43 t35) (outQ Pg ds [(none,t13),(some 131,t3),(some 4,t4)] R) w fun w =>
 opV Pg (Instr.loadAt 74 t6) (outQ Pg ds [(none,t13),(some 131,t3),(some 4,t4)] R) w fun t45 w =>
 callK Pg 136 #[t13,t45] (outQ Pg ds [(none,t13),(some 131,t3),(some 4,t4)] R) w fun t46 w =>
 opV Pg (binS .add 3 true t35 (.int .i64 1)) (outQ Pg ds [(none,t13),(some 131,t3),(some 4,t4)] R) w fun t47 w =>
 next2 t47 w
def n66c5 (t1 t3 t4 t13 t33 t34 t35:Value) (next2:KV) (ds:List Deferred) (R:RT) (w:World):Prop :=
 opV Pg (binS .lss 3 false t35 t34) (outQ Pg ds [(none,t13),(some 131,t3),(some 4,t4)] R) w fun t36 w =>
 condP t36 (
 n66c4 t3 t4 t13 t33 t35 next2 ds R w) (
 n66c3 t1 t3 t4 t13 ds R w)
def n66c6 (t1 t3 t4 t13:Value) (ds:List Deferred) (R:RT) (w:World):Prop :=
 opV Pg (Instr.fieldAt 27 t1 1) (outQ Pg ds [(none,t13),(some 131,t3),(some 4,t4)] R) w fun t32 w =>
 opV Pg (Instr.loadAt 25 t32) (outQ Pg ds [(none,t13),(some 131,t3),(some 4,t4)] R) w fun t33 w =>
 opV Pg (Builtin.len_ #[25] 3 #[t33]) (outQ Pg ds [(none,t13),(some 131,t3),(some 4,t4)] R) w fun t34 w =>
 loop1 (fun t35 w next2 =>
 n66c5 t1 t3 t4 t13 t33 t34 t35 next2 ds R w) (.int .i64 0) w
def n66c7 (t1 t3 t4 t13 t24 t29:Value) (ds:List Deferred) (R:RT) (w:World):Prop :=
 pickK t24 t29 (.bool false) fun t30 =>
 callK Pg 135 #[t13,t30,(.int .i64 3)] (outQ Pg ds [(none,t13),(some 131,t3),(some 4,t4)] R) w fun t31 w =>
 n66c6 t1 t3 t4 t13 ds R w
def n66c8 (t1 t3 t4 t13:Value) (K1:KV) (ds:List Deferred) (R:RT) (w:World):Prop :=
 opV Pg (Instr.fieldAt 27 t1 1) (outQ Pg ds [(none,t13),(some 131,t3),(some 4,t4)] R) w fun t26 w =>
 opV Pg (Instr.loadAt 25 t26) (outQ Pg ds [(none,t13),(some 131,t3),(some 4,t4)] R) w fun t27 w =>
 opV Pg (Builtin.len_ #[25] 3 #[t27]) (outQ Pg ds [(none,t13),(some 131,t3),(some 4,t4)] R) w fun t28 w =>
 opV Pg (binS .leq 3 true t28 (.int .i64 60)) (outQ Pg ds [(none,t13),(some 131,t3),(some 4,t4)] R) w fun t29 w =>
 K1 t29 w
def n66c9 (t1 t3 t4 t13:Value) (ds:List Deferred) (R:RT) (w:World):Prop :=
 opV Pg (Instr.fieldAt 27 t1 1) (outQ Pg ds [(none,t13),(some 131,t3),(some 4,t4)] R) w fun t21 w =>
 opV Pg (Instr.loadAt 25 t21) (outQ Pg ds [(none,t13),(some 131,t3),(some 4,t4)] R) w fun t22 w =>
 opV Pg (Builtin.len_ #[25] 3 #[t22]) (outQ Pg ds [(none,t13),(some 131,t3),(some 4,t4)] R) w fun t23 w =>
 opV Pg (binS .geq 3 true t23 (.int .i64 1)) (outQ Pg ds [(none,t13),(some 131,t3),(some 4,t4)] R) w fun t24 w =>
 joinK (fun (t29:Value) (w:World) =>
 n66c7 t1 t3 t4 t13 t24 t29 ds R w) fun K1 =>
 guardP t24 true (
 n66c8 t1 t3 t4 t13 K1 ds R w) (
 K1 undef w)
def n66 (t0:Value) (R:RT) (w:World):Prop :=
 (fun (ds:List Deferred) =>
 opV Pg (Instr.box 27 t0) (outQ Pg ds [(none,undef),(some 131,undef),(some 4,undef)] R) w fun t1 w =>
 opV Pg (Instr.alloc 131 true (.tuple #[])) (outQ Pg ds [(none,(Value.pointer none)),(some 131,undef),(some 4,undef)] R) w fun t3 w =>
 opV Pg (Instr.alloc 4 true (.tuple #[])) (outQ Pg ds [(none,(Value.pointer none)),(some 131,t3),(some 4,undef)] R) w fun t4 w =>
 opV Pg (Instr.loadAt 27 t1) (outQ Pg ds [(none,(Value.pointer none)),(some 131,t3),(some 4,t4)] R) w fun t9 w =>
 opV Pg (Instr.makeMap 198 none) (outQ Pg ds [(none,(Value.pointer none)),(some 131,t3),(some 4,t4)] R) w fun t10 w =>
 opV Pg (Instr.makeMap 199 none) (outQ Pg ds [(none,(Value.pointer none)),(some 131,t3),(some 4,t4)] R) w fun t11 w =>
 opV Pg (Instr.build 201 #[(0,t9),(1,t10),(2,t11),(3,(.int .i64 (-1))),(4,(.int .i64 (-1)))]) (outQ Pg ds [(none,(Value.pointer none)),(some 131,t3),(some 4,t4)] R) w fun t12 w =>
 opV Pg (Instr.box 201 t12) (outQ Pg ds [(none,(Value.pointer none)),(some 131,t3),(some 4,t4)] R) w fun t13 w =>
 opV Pg (Instr.makeFunc (.func 134) #[] #[t3,t4]) (outQ Pg ds [(none,t13),(some 131,t3),(some 4,t4)] R) w fun t14 w =>
 defK Pg t14 #[] ds w fun ds w =>
 opV Pg (Instr.fieldAt 27 t1 0) (outQ Pg ds [(none,t13),(some 131,t3),(some 4,t4)] R) w fun t16 w =>
 opV Pg (Instr.loadAt 9 t16) (outQ Pg ds [(none,t13),(some 131,t3),(some 4,t4)] R) w fun t17 w =>
 callK Pg 35 #[t17] (outQ Pg ds [(none,t13),(some 131,t3),(some 4,t4)] R) w fun t18 w =>
 callK Pg 135 #[t13,t18,(.int .i64 1)] (outQ Pg ds [(none,t13),(some 131,t3),(some 4,t4)] R) w fun t19 w =>
 n66c9 t1 t3 t4 t13 ds R w) []
theorem n66s {t0:Value} {R:RT} {w:World} (h:n66 t0 R w):Calls Pg 106 #[t0] w R:=by
 refine yE Tryz.func106 ?_
 unfold n66 at h
 dsimp only at h
 refine zs<|zr<|yv h fun _ w h=>zm<|yv h fun _ w h=>yv h fun _ w h=>zn<|zk<|zs<|zr<|yv h fun _ w h=>yv h fun _ w h=>yv h fun _ w h=>yB h fun _ w h=>yv h fun _ w h=>?_
 refine zm<|zn<|zk<|zs<|zr<|yF h fun _ w h=>?_
 refine sim_defer h rfl rfl ?_;intro ds w h
 refine zn<|zk<|zs<|zr<|zm<|yv h fun _ w h=>yv h fun _ w h=>yc h c35 fun _ w h=>yc h c135 fun _ w h=>zn<|zk<|zs<|sim_regionG<|yG 6<|zm ?_
 refine yv h fun _ w h=>yv h fun _ w h=>yx h fun _ w h=>yb h fun _ w h=>zm<|zn<|yg1 4 5 true [26,27,28,29] 29 h (fun _ T hT h=>?_) fun σ w h=>?_
 · refine yv h fun _ w h=>yv h fun _ w h=>yx h fun _ w h=>yb h fun _ w h=>zn ?_
   exact zt hT h
 refine yG 2<|yp h fun _ h=>yc h c135 fun _ w h=>zn<|sim_end<|zk<|zs<|zs<|zr<|yv h fun _ w h=>yv h fun _ w h=>yx h fun _ w h=>zm<|zn<|zk ?_
 refine sim_block<|yl1 [5,6,35,36,37,38,39,40,41,42,43,44,45,46,47] 35 h fun σ w next h=>zs<|zr<|yb h fun _ w h=>zn<|zk<|zs<|yC h (fun h=>?_) fun h=>?_
 · refine sim_skip<|zk<|zs<|sim_block<|zs<|zr<|zm<|yv h fun _ w h=>yv h fun _ w h=>yv h fun _ w h=>zm<|yu h fun w h=>zn<|zk<|zs ?_
   refine zr<|zm<|zm<|yN h fun _ w h=>yv h fun _ w h=>yu h fun w h=>zn<|zk<|zr<|zm<|yv h fun _ w h=>yc h c136 fun _ w h=>zn<|sim_block_normal<|zk ?_
   exact zr<|yb h fun _ w h=>zm<|zn<|zk<|⟨rfl,h⟩
 refine sim_exit<|sim_then_exit<|sim_then_exit<|sim_block_hit<|zk<|zs<|zr<|zm<|yN h fun _ w h=>yv h fun _ w h=>yu h fun w h=>zn<|zk<|zs<|yh [7,8,51,52,53,54,55,56,57,58,59,60] h fun C hC h=>?_
 refine yw 0 hC ?_
 refine yn 1 hC h fun _ h=>?_
 refine ye 2 hC h fun _ h=>?_
 refine ye 3 hC h fun _ h=>?_
 refine ye 4 hC h fun _ h=>?_
 refine ye 5 hC h fun _ h=>?_
 refine ye 6 hC h fun _ h=>?_
 refine yw 7 hC ?_
 refine ye 8 hC h fun _ h=>?_
 refine ye 9 hC h fun _ h=>?_
 refine yw 10 hC ?_
 refine yw 11 hC ?_
 refine yz<|zk<|zs<|zr<|zm<|zm<|yc h c135 fun _ w h=>zn<|zk<|zs<|zr<|zm<|yB h fun _ w h=>zm<|yu h fun w h=>?_
 exact yu h fun w h=>zn<|zk<|sim_ret<|bodyM_ret rfl h
def n122 (t0 t1:Value) (R:RT) (w:World):Prop :=
 C0 137 #[t0,t1] R w fun t7 w =>
 B0 .geq 3 true t7 (.int .i64 0) R w fun t8 w =>
 R (.returned t8) w
theorem n122s {t0 t1:Value} {R:RT} {w:World} (h:n122 t0 t1 R w):Calls Pg 107 #[t0,t1] w R:=by
 refine yD Tryz.func107 ?_
 refine zs<|zr<|zm<|zn<|zk<|zs<|zr<|zm<|zm<|yc h c137 fun _ w h=>yb h fun _ w h=>zm<|zn<|zk<|sim_ret ?_
 exact body_ret1 rfl rfl h
def n132c1 (t0 t1 t8:Value) (next1:KV) (R:RT) (w:World):Prop :=
 X0 40 t0 t8 R w fun t14 w =>
 L0 5 t14 R w fun t15 w =>
 callV Pg t1 #[t15] (panK R) w fun t16 w =>
 condP t16 (
 R (.returned t8) w) (
 B0 .add 3 true t8 (.int .i64 1) R w fun t18 w =>
 next1 t18 w)
def n132 (t0 t1:Value) (R:RT) (w:World):Prop :=
 opV Pg (Builtin.len_ #[40] 3 #[t0]) (panK R) w fun t7 w =>
 loop1 (fun t8 w next1 =>
 B0 .lss 3 false t8 t7 R w fun t9 w =>
 condP t9 (
 n132c1 t0 t1 t8 next1 R w) (
 R (.returned (.int .i64 (-1))) w)) (.int .i64 0) w
theorem n132s {t0 t1:Value} {R:RT} {w:World} (h:n132 t0 t1 R w):Calls Pg 108 #[t0,t1] w R:=by
 refine yD Tryz.func108 ?_
 refine zs<|zr<|zm<|zn<|zk<|zs<|zs<|zr<|zm<|yx h fun _ w h=>zm<|zn<|zk<|sim_block<|yl1 [4,5,8,9,10,11,12,13,14,15,16,17,18] 8 h fun σ w next h=>?_
 refine zs<|zr<|yb h fun _ w h=>zn<|zk<|zs<|yC h (fun h=>?_) fun h=>?_
 · refine sim_skip<|zk<|zs<|sim_block<|zs<|zr<|zm<|zm<|zn<|zk<|zs<|zr<|zm<|zm<|zm ?_
   refine yv h fun _ w h=>yv h fun _ w h=>yV h fun _ w h=>zn<|zk<|yC h (fun h=>zs<|zr<|zm<|zm<|zn<|zk<|sim_ret<|sim_block_ret<|sim_then_ret<|sim_then_ret<|sim_block_ret<|sim_then_ret<|body_ret1 rfl rfl h) fun h=>sim_skip<|sim_block_normal<|zk<|zr<|yb h fun _ w h=>zm<|zn<|zk ?_
   exact ⟨rfl,h⟩
 exact sim_exit<|sim_then_exit<|sim_then_exit<|sim_block_hit<|zk<|zs<|zr<|zm<|zn<|zk<|sim_ret<|body_ret1 rfl rfl h
def n49 (t0 t1:Value) (R:RT) (w:World):Prop :=
 opV Pg (Instr.box 27 t0) (panK R) w fun t2 w =>
 opV Pg (Instr.box 9 t1) (panK R) w fun t3 w =>
 F0 27 t2 1 R w fun t6 w =>
 L0 25 t6 R w fun t7 w =>
 opV Pg (Instr.makeFunc (.func 139) #[] #[t3]) (panK R) w fun t8 w =>
 C0 138 #[t7,t8] R w fun t9 w =>
 opV Pg (Instr.extract t9 0) (panK R) w fun t10 w =>
 opV Pg (Instr.extract t9 1) (panK R) w fun t11 w =>
 R (.returned (.tuple #[t10,t11])) w
theorem n49s {t0 t1:Value} {R:RT} {w:World} (h:n49 t0 t1 R w):Calls Pg 109 #[t0,t1] w R:=by
 refine yD Tryz.func109 ?_
 refine zs<|zr<|yv h fun _ w h=>yv h fun _ w h=>zm<|zm<|zn<|zk<|zs<|zr<|yv h fun _ w h=>yv h fun _ w h=>yF h fun _ w h=>yc h c138 fun _ w h=>yv h fun _ w h=>?_
 exact yv h fun _ w h=>zm<|zm<|zn<|zk<|sim_ret<|body_ret2 rfl rfl rfl h
def n31c1 (t2 t4 t12:Value) (C1:World→Prop) (R:RT) (w:World):Prop :=
 qV Pg C1 (Instr.fieldAt 74 t2 1) fun t17 =>
 qV Pg C1 (Instr.loadAt 72 t17) fun t18 =>
 qV Pg C1 (Instr.indexAt 72 t18 t12) fun t20 =>
 qV Pg C1 (Instr.loadAt 123 t20) fun t21 =>
 qV Pg C1 (Instr.fieldAt 74 t2 1) fun t22 =>
 qV Pg C1 (Instr.loadAt 72 t22) fun t23 =>
 qV Pg C1 (Instr.indexAt 72 t23 t12) fun t25 =>
 qV Pg C1 (Instr.loadAt 123 t25) fun t26 =>
 C0 68 #[t26] R w fun t27 w =>
 C1 w∧(
 opU Pg (Instr.storeAt 123 t4 t21) (panK R) w fun w =>
 turnK w fun C2 w =>
 qW Pg 123 t4 w fun r0 =>
 R (.returned (.tuple #[r0,t27])) w)
def n31c2 (t4:Value) (R:RT) (w:World):Prop :=
 opV Pg (Instr.build 123 #[]) (panK R) w fun t16 w =>
 opU Pg (Instr.storeAt 123 t4 t16) (panK R) w fun w =>
 qW Pg 123 t4 w fun r0 =>
 R (.returned (.tuple #[r0,(.int .i64 0)])) w
def n31c3 (t2 t4 t11:Value) (R:RT) (w:World):Prop :=
 opV Pg (Instr.extract t11 0) (panK R) w fun t12 w =>
 opV Pg (Instr.extract t11 1) (panK R) w fun t13 w =>
 opV Pg (Op.unary .not t13) (panK R) w fun t15 w =>
 condP t15 (
 n31c2 t4 R w) (
 drawK w fun C1 w =>
 n31c1 t2 t4 t12 C1 R w)
def n31 (t0 t1:Value) (R:RT) (w:World):Prop :=
 opV Pg (Instr.box 74 t0) (panK R) w fun t2 w =>
 opV Pg (Instr.alloc 123 true (.tuple #[])) (panK R) w fun t4 w =>
 L0 74 t2 R w fun t9 w =>
 C0 140 #[t9,t1] R w fun t11 w =>
 n31c3 t2 t4 t11 R w
theorem n31s {t0 t1:Value} {R:RT} {w:World} (h:n31 t0 t1 R w):Calls Pg 110 #[t0,t1] w R:=by
 refine yD Tryz.func110 ?_
 refine zs<|zr<|yv h fun _ w h=>yv h fun _ w h=>zm<|zn<|zk<|zs<|zr<|yv h fun _ w h=>zm<|yc h c140 fun _ w h=>zm<|yv h fun _ w h=>yv h fun _ w h=>?_
 refine zm<|zm<|zn<|zk<|zs<|zs<|zr<|zm<|yv h fun _ w h=>zn<|zk<|yC h (fun h=>zs<|zr<|yB h fun _ w h=>yu h fun w h=>zm<|zn<|zk<|sim_ret<|sim_then_ret<|body_retCT rfl rfl rfl h) fun h=>sim_skip<|zk ?_
 refine zs<|yh [5,17,18,19,20,21,22,23,24,25,26,27] h fun C hC h=>ye 0 hC h fun _ h=>?_
 refine ye 1 hC h fun _ h=>?_
 refine yw 2 hC ?_
 refine ye 3 hC h fun _ h=>?_
 refine ye 4 hC h fun _ h=>?_
 refine ye 5 hC h fun _ h=>?_
 refine ye 6 hC h fun _ h=>?_
 refine yw 7 hC ?_
 refine ye 8 hC h fun _ h=>?_
 refine ye 9 hC h fun _ h=>?_
 refine yo 10 ?_
 refine yc h c68 fun _ w h=>zn ?_
 obtain ⟨hC,h⟩:=h
 refine ⟨hC,?_⟩
 refine yq 11 5 ?_
 refine yu h fun w h=>zn ?_
 obtain ⟨C2,hC,h⟩:=h
 refine ⟨C2,hC,?_⟩
 refine yw 12 hC ?_
 exact yz<|zk<|sim_ret<|body_retCT rfl rfl rfl h
def n27 (t0 t1:Value) (R:RT) (w:World):Prop :=
 opV Pg (Instr.box 43 t0) (panK R) w fun t2 w =>
 F0 43 t2 0 R w fun t4 w =>
 L0 9 t4 R w fun t5 w =>
 F0 43 t1 0 R w fun t6 w =>
 L0 9 t6 R w fun t7 w =>
 B0 .eql 9 false t5 t7 R w fun t8 w =>
 R (.returned t8) w
theorem n27s {t0 t1:Value} {R:RT} {w:World} (h:n27 t0 t1 R w):Calls Pg 111 #[t0,t1] w R:=by
 refine yD Tryz.func111 ?_
 refine zs<|zr<|yv h fun _ w h=>zm<|zn<|zk<|zs<|zr<|yv h fun _ w h=>yv h fun _ w h=>yv h fun _ w h=>yv h fun _ w h=>yb h fun _ w h=>zm<|zn ?_
 exact zk<|sim_ret<|body_ret1 rfl rfl h
def n28c1 (t6 t19:Value) (next2:KW) (R:RT) (w:World):Prop :=
 F0 78 t6 1 R w fun t46 w =>
 L0 3 t46 R w fun t47 w =>
 B0 .add 3 true t19 (.int .i64 1) R w fun t48 w =>
 next2 t47 t48 w
def n28c2 (t0 t6 t19 t34 t38:Value) (next2:KW) (R:RT) (w:World):Prop :=
 pickK t34 t38 (.bool false) fun t39 =>
 joinK (fun (t43:Value) (w:World) =>
 pickK t39 t43 (.bool false) fun t44 =>
 C0 33 #[t0,t44,(.int .i64 8)] R w fun t45 w =>
 n28c1 t6 t19 next2 R w) fun K5 =>
 guardP t39 true (
 F0 78 t6 2 R w fun t41 w =>
 L0 3 t41 R w fun t42 w =>
 C0 42 #[t42] R w fun t43 w =>
 K5 t43 w) (
 K5 undef w)
def n28c3 (t0 t6 t19 t27 t33:Value) (next2:KW) (R:RT) (w:World):Prop :=
 pickK t27 t33 (.bool false) fun t34 =>
 joinK (fun (t38:Value) (w:World) =>
 n28c2 t0 t6 t19 t34 t38 next2 R w) fun K4 =>
 guardP t34 true (
 F0 78 t6 1 R w fun t36 w =>
 L0 3 t36 R w fun t37 w =>
 C0 42 #[t37] R w fun t38 w =>
 K4 t38 w) (
 K4 undef w)
def n28c4 (t0 t1 t4 t19:Value) (next2:KW) (R:RT) (w:World):Prop :=
 X0 41 t1 t19 R w fun t21 w =>
 L0 78 t21 R w fun t22 w =>
 opV Pg (Instr.alloc 78 true (.tuple #[])) (panK R) w fun t6 w =>
 opU Pg (Instr.storeAt 78 t6 t22) (panK R) w fun w =>
 F0 78 t6 0 R w fun t24 w =>
 L0 3 t24 R w fun t25 w =>
 B0 .gtr 3 false t25 t4 R w fun t27 w =>
 joinK (fun (t33:Value) (w:World) =>
 n28c3 t0 t6 t19 t27 t33 next2 R w) fun K3 =>
 guardP t27 true (
 F0 78 t6 0 R w fun t29 w =>
 L0 3 t29 R w fun t30 w =>
 F0 78 t6 1 R w fun t31 w =>
 L0 3 t31 R w fun t32 w =>
 B0 .leq 3 false t30 t32 R w fun t33 w =>
 K3 t33 w) (
 K3 undef w)
def n28c5 (t0 t1:Value) (R:RT) (w:World):Prop :=
 opV Pg (Builtin.len_ #[41] 3 #[t1]) (panK R) w fun t18 w =>
 loop2 (fun t4 t19 w next2 =>
 B0 .lss 3 false t19 t18 R w fun t20 w =>
 condP t20 (
 n28c4 t0 t1 t4 t19 next2 R w) (
 R (.returned (.tuple #[])) w)) (.int .i64 (-1)) (.int .i64 0) w
def n28 (t0 t1:Value) (R:RT) (w:World):Prop :=
 opV Pg (Builtin.len_ #[41] 3 #[t1]) (panK R) w fun t9 w =>
 B0 .geq 3 true t9 (.int .i64 1) R w fun t10 w =>
 joinK (fun (t14:Value) (w:World) =>
 pickK t10 t14 (.bool false) fun t15 =>
 C0 33 #[t0,t15,(.int .i64 2)] R w fun t16 w =>
 n28c5 t0 t1 R w) fun K1 =>
 guardP t10 true (
 opV Pg (Builtin.len_ #[41] 3 #[t1]) (panK R) w fun t13 w =>
 B0 .leq 3 true t13 (.int .i64 40) R w fun t14 w =>
 K1 t14 w) (
 K1 undef w)
theorem n28s {t0 t1:Value} {R:RT} {w:World} (h:n28 t0 t1 R w):Calls Pg 112 #[t0,t1] w R:=by
 refine yD Tryz.func112 ?_
 refine zs<|sim_regionG<|yG 5<|zm<|zm<|yx h fun _ w h=>yb h fun _ w h=>zm<|zn<|yg1 3 4 true [12,13,14] 14 h (fun _ T hT h=>?_) fun σ w h=>?_
 · refine zm<|yx h fun _ w h=>yb h fun _ w h=>zn ?_
   exact zt hT h
 refine yG 2<|yp h fun _ h=>yc h c33 fun _ w h=>zn<|sim_end<|zk<|zs<|zr<|zm<|zn<|zk<|zs<|zr<|zm<|yx h fun _ w h=>?_
 refine zm<|zn<|zk<|sim_block<|yl2 [4,6,19,20,21,22,23,24,25,26,27,28,29,30,31,32,33,34,35,36,37,38,39,40,41,42,43,44,45,46,47,48] 4 19 h fun σ w next h=>zs<|zr<|yb h fun _ w h=>zn<|zk<|zs<|yC h (fun h=>?_) fun h=>?_
 · refine sim_skip<|zk<|zs<|sim_block<|zs<|zr<|yv h fun _ w h=>yv h fun _ w h=>yv h fun _ w h=>yu h fun w h=>zn<|zk<|zs<|sim_regionG<|yG 6 ?_
   refine zm<|yv h fun _ w h=>yv h fun _ w h=>zm<|yb h fun _ w h=>zm<|zn<|yg1 5 5 true [29,30,31,32,33] 33 h (fun _ T hT h=>?_) fun σ w h=>?_
   · refine yv h fun _ w h=>yv h fun _ w h=>yv h fun _ w h=>yv h fun _ w h=>yb h fun _ w h=>zn ?_
     exact zt hT h
   refine yG 2<|yp h fun _ h=>zm<|zn<|yg1 3 12 true [36,37,38] 38 h (fun _ T hT h=>?_) fun σ w h=>?_
   · refine yv h fun _ w h=>yv h fun _ w h=>yc h c42 fun _ w h=>zn ?_
     exact zt hT h
   refine yG 2<|yp h fun _ h=>zm<|zn<|yg1 3 17 true [41,42,43] 43 h (fun _ T hT h=>?_) fun σ w h=>?_
   · refine yv h fun _ w h=>yv h fun _ w h=>yc h c42 fun _ w h=>zn ?_
     exact zt hT h
   refine yG 2<|yp h fun _ h=>yc h c33 fun _ w h=>zn<|sim_end<|zk<|zr<|yv h fun _ w h=>yv h fun _ w h=>zm<|zn<|sim_block_normal<|zk<|zr<|yb h fun _ w h=>?_
   exact zm<|zn<|zk<|⟨rfl,h⟩
 exact sim_exit<|sim_then_exit<|sim_then_exit<|sim_block_hit<|body_normal<|body_ret0 rfl h
def n25c1 (t0 t13 t25 t40:Value) (C2:World→Prop) (next1:KV) (R:RT) (w:World):Prop :=
 pickK t25 t40 (.bool false) fun t41 =>
 C0 33 #[t0,t41,(.int .i64 9)] R w fun t42 w =>
 C2 w∧(
 B0 .add 3 true t13 (.int .i64 1) R w fun t43 w =>
 next1 t43 w)
def n25c2 (t0 t5 t24:Value) (C2:World→Prop) (K3:KV) (R:RT) (w:World):Prop :=
 qV Pg C2 (Instr.loadAt 123 t5) fun t29 =>
 qN Pg C2 (nilN t0) fun t32 =>
 qV Pg C2 (Instr.fieldAt 81 t32 0) fun t33 =>
 qV Pg C2 (Instr.fieldAt 24 t33 1) fun t34 =>
 qV Pg C2 (Instr.loadAt 22 t34) fun t35 =>
 qV Pg C2 (Instr.indexAt 22 t35 t24) fun t37 =>
 qV Pg C2 (Instr.fieldAt 60 t37 1) fun t38 =>
 qV Pg C2 (Instr.loadAt 9 t38) fun t39 =>
 C0 141 #[t29] R w fun t30 w =>
 C2 w∧(
 C0 142 #[t30,t39] R w fun t40 w =>
 C2 w∧(
 K3 t40 w))
def n25c3 (t0 t5 t13 t23:Value) (next1:KV) (R:RT) (w:World):Prop :=
 opV Pg (Instr.extract t23 0) (panK R) w fun t24 w =>
 opV Pg (Instr.extract t23 1) (panK R) w fun t25 w =>
 drawK w fun C2 w =>
 joinK (fun (t40:Value) (w:World) =>
 n25c1 t0 t13 t25 t40 C2 next1 R w) fun K3 =>
 guardP t25 true (
 n25c2 t0 t5 t24 C2 K3 R w) (
 K3 undef w)
def n25c4 (t0 t5 t11 t13:Value) (next1:KV) (R:RT) (w:World):Prop :=
 X0 94 t11 t13 R w fun t15 w =>
 L0 9 t15 R w fun t16 w =>
 opN Pg (nilN t0) (panK R) w fun t19 w =>
 F0 81 t19 0 R w fun t20 w =>
 L0 24 t20 R w fun t21 w =>
 C0 20 #[t21,t16] R w fun t23 w =>
 n25c3 t0 t5 t13 t23 next1 R w
def n25c5 (t0 t5 t11:Value) (R:RT) (w:World):Prop :=
 opV Pg (Builtin.len_ #[94] 3 #[t11]) (panK R) w fun t12 w =>
 loop1 (fun t13 w next1 =>
 B0 .lss 3 false t13 t12 R w fun t14 w =>
 condP t14 (
 n25c4 t0 t5 t11 t13 next1 R w) (
 R (.returned (.tuple #[])) w)) (.int .i64 0) w
def n25 (t0 t1 t2:Value) (R:RT) (w:World):Prop :=
 opV Pg (Instr.box 123 t1) (panK R) w fun t4 w =>
 opV Pg (Instr.box 123 t2) (panK R) w fun t5 w =>
 L0 123 t4 R w fun t10 w =>
 C0 141 #[t10] R w fun t11 w =>
 n25c5 t0 t5 t11 R w
theorem n25s {t0 t1 t2:Value} {R:RT} {w:World} (h:n25 t0 t1 t2 R w):Calls Pg 113 #[t0,t1,t2] w R:=by
 refine yD Tryz.func113 ?_
 refine zs<|zr<|yv h fun _ w h=>yv h fun _ w h=>zn<|zk<|zs<|zr<|yv h fun _ w h=>yc h c141 fun _ w h=>yx h fun _ w h=>zm<|zn<|zk<|sim_block ?_
 refine yl1 [7,8,9,13,14,15,16,17,18,19,20,21,22,23,24,25,26,27,28,29,30,31,32,33,34,35,36,37,38,39,40,41,42,43] 13 h fun σ w next h=>zs<|zr<|yb h fun _ w h=>zn<|zk<|zs<|yC h (fun h=>?_) fun h=>?_
 · refine sim_skip<|zk<|zs<|sim_block<|zs<|zr<|yv h fun _ w h=>yv h fun _ w h=>zm<|zn<|zk<|zs<|zr<|zm<|yN h fun _ w h=>?_
   refine yv h fun _ w h=>yv h fun _ w h=>zm<|yc h c20 fun _ w h=>zm<|yv h fun _ w h=>yv h fun _ w h=>zm<|zm<|zn<|zk<|yh [26,27,28,29,30,31,32,33,34,35,36,37,38,39,40,41,42] h fun C hC h=>yw 0 hC ?_
   refine yw 1 hC ?_
   refine yw 2 hC ?_
   refine yj1 2 [14,4,13,12,11,10,9,8,7,6,5,3,2,1,0] [29,30,31,32,33,34,35,36,37,38,39,40] 40 h (fun _ hT hb h=>?_) (fun _ hT hb h=>?_) fun σ w hC h=>?_
   · refine ye 3 hC h fun _ h=>?_
     refine yw 5 hC ?_
     refine yn 6 hC h fun _ h=>?_
     refine ye 7 hC h fun _ h=>?_
     refine ye 8 hC h fun _ h=>?_
     refine ye 9 hC h fun _ h=>?_
     refine yw 10 hC ?_
     refine ye 11 hC h fun _ h=>?_
     refine ye 12 hC h fun _ h=>?_
     refine ye 13 hC h fun _ h=>?_
     refine yo 4 ?_
     refine yc h c141 fun _ w h=>zn ?_
     obtain ⟨hC,h⟩:=h
     refine ⟨hC,?_⟩
     refine yo 14 ?_
     refine yc h c142 fun _ w h=>zn ?_
     obtain ⟨hC,h⟩:=h
     refine ⟨hC,?_⟩
     exact yt hT hC h
   · refine yi 3 hC ?_
     refine yi 5 hC ?_
     refine yi 6 hC ?_
     refine yi 7 hC ?_
     refine yi 8 hC ?_
     refine yi 9 hC ?_
     refine yi 10 hC ?_
     refine yi 11 hC ?_
     refine yi 12 hC ?_
     refine yi 13 hC ?_
     refine yi 4 hC ?_
     refine yi 14 hC ?_
     exact yt hT hC h
   refine yP 15 hC h fun _ h=>?_
   refine yo 16 ?_
   refine yc h c33 fun _ w h=>zn ?_
   obtain ⟨hC,h⟩:=h
   refine ⟨hC,?_⟩
   exact yz<|sim_block_normal<|zk<|zr<|yb h fun _ w h=>zm<|zn<|zk<|⟨rfl,h⟩
 exact sim_exit<|sim_then_exit<|sim_then_exit<|sim_block_hit<|body_normal<|body_ret0 rfl h
def n127c1 (t0 t1 t8:Value) (next1:KV) (R:RT) (w:World):Prop :=
 X0 58 t0 t8 R w fun t14 w =>
 L0 43 t14 R w fun t15 w =>
 callV Pg t1 #[t15] (panK R) w fun t16 w =>
 condP t16 (
 R (.returned t8) w) (
 B0 .add 3 true t8 (.int .i64 1) R w fun t18 w =>
 next1 t18 w)
def n127 (t0 t1:Value) (R:RT) (w:World):Prop :=
 opV Pg (Builtin.len_ #[58] 3 #[t0]) (panK R) w fun t7 w =>
 loop1 (fun t8 w next1 =>
 B0 .lss 3 false t8 t7 R w fun t9 w =>
 condP t9 (
 n127c1 t0 t1 t8 next1 R w) (
 R (.returned (.int .i64 (-1))) w)) (.int .i64 0) w
theorem n127s {t0 t1:Value} {R:RT} {w:World} (h:n127 t0 t1 R w):Calls Pg 114 #[t0,t1] w R:=by
 refine yD Tryz.func114 ?_
 refine zs<|zr<|zm<|zn<|zk<|zs<|zs<|zr<|zm<|yx h fun _ w h=>zm<|zn<|zk<|sim_block<|yl1 [4,5,8,9,10,11,12,13,14,15,16,17,18] 8 h fun σ w next h=>?_
 refine zs<|zr<|yb h fun _ w h=>zn<|zk<|zs<|yC h (fun h=>?_) fun h=>?_
 · refine sim_skip<|zk<|zs<|sim_block<|zs<|zr<|zm<|zm<|zn<|zk<|zs<|zr<|zm<|zm<|zm ?_
   refine yv h fun _ w h=>yv h fun _ w h=>yV h fun _ w h=>zn<|zk<|yC h (fun h=>zs<|zr<|zm<|zm<|zn<|zk<|sim_ret<|sim_block_ret<|sim_then_ret<|sim_then_ret<|sim_block_ret<|sim_then_ret<|body_ret1 rfl rfl h) fun h=>sim_skip<|sim_block_normal<|zk<|zr<|yb h fun _ w h=>zm<|zn<|zk ?_
   exact ⟨rfl,h⟩
 exact sim_exit<|sim_then_exit<|sim_then_exit<|sim_block_hit<|zk<|zs<|zr<|zm<|zn<|zk<|sim_ret<|body_ret1 rfl rfl h
def n60c1 (t0 t3 t6:Value) (R:RT) (w:World):Prop :=
 F0 255 t6 1 R w fun t49 w =>
 L0 253 t49 R w fun t50 w =>
 L0 123 t3 R w fun t52 w =>
 callV Pg t50 #[t0,t52] (panK R) w fun t53 w =>
 R (.returned (.tuple #[])) w
def n60c2 (t0 t3 t6 t7:Value) (R:RT) (w:World):Prop :=
 L0 123 t7 R w fun t41 w =>
 F0 123 t3 0 R w fun t42 w =>
 L0 9 t42 R w fun t43 w =>
 F0 123 t3 1 R w fun t44 w =>
 L0 117 t44 R w fun t45 w =>
 opV Pg (Instr.build 123 #[(0,t43),(1,t45)]) (panK R) w fun t46 w =>
 C0 197 #[t41,t46] R w fun t47 w =>
 C0 135 #[t0,t47,(.int .i64 5)] R w fun t48 w =>
 n60c1 t0 t3 t6 R w
def n60c3 (t0 t3 t6:Value) (R:RT) (w:World):Prop :=
 L0 123 t3 R w fun t36 w =>
 opV Pg (Instr.alloc 123 true (.tuple #[])) (panK R) w fun t7 w =>
 opU Pg (Instr.storeAt 123 t7 t36) (panK R) w fun w =>
 F0 255 t6 0 R w fun t37 w =>
 L0 252 t37 R w fun t38 w =>
 callV Pg t38 #[t7] (panK R) w fun t39 w =>
 n60c2 t0 t3 t6 t7 R w
def n60c4 (t27 t29:Value) (C4:World→Prop) (K3:KW) (R:RT) (w:World):Prop :=
 qV Pg C4 (Instr.lookup 257 t27 t29 true) fun t30 =>
 qV Pg C4 (Instr.extract t30 0) fun t31 =>
 qV Pg C4 (Instr.extract t30 1) fun t32 =>
 opV Pg (Instr.alloc 255 true (.tuple #[])) (panK R) w fun t6 w =>
 C4 w∧(
 opU Pg (Instr.storeAt 255 t6 t31) (panK R) w fun w =>
 C4 w∧(
 K3 t32 t6 w))
def n60c5 (t6 t27 t29:Value) (C5:World→Prop) (K3:KW) (R:RT) (w:World):Prop :=
 qV Pg C5 (Instr.lookup 257 t27 t29 true) fun t30 =>
 qV Pg C5 (Instr.extract t30 0) fun t31 =>
 qV Pg C5 (Instr.extract t30 1) fun t32 =>
 opU Pg (Instr.storeAt 255 t6 t31) (panK R) w fun w =>
 C5 w∧(
 K3 t32 t6 w)
def n60c6 (t0 t3:Value) (C2:World→Prop) (R:RT) (w:World):Prop :=
 qV Pg C2 (Instr.fieldAt 123 t3 1) fun t28 =>
 qV Pg C2 (Instr.loadAt 117 t28) fun t29 =>
 joinK (fun (t5:Value) (t6:Value) (w:World) =>
 C0 135 #[t0,t5,(.int .i64 4)] R w fun t35 w =>
 n60c3 t0 t3 t6 R w) fun K3 =>
 (
 C0 196 #[] R w fun t27 w =>
 narrowK C2 w fun C4 w =>
 n60c4 t27 t29 C4 K3 R w)∧(
 opV Pg (Instr.alloc 255 true (.tuple #[])) (panK R) w fun t6 w =>
 C2 w∧(
 C0 196 #[] R w fun t27 w =>
 narrowK C2 w fun C5 w =>
 n60c5 t6 t27 t29 C5 K3 R w))
def n60c7 (t0 t3 t19:Value) (C1:World→Prop) (R:RT) (w:World):Prop :=
 qV Pg C1 (Instr.extract t19 0) fun t20 =>
 qV Pg C1 (Instr.extract t19 1) fun t21 =>
 opV Pg (Op.unary .not t21) (panK R) w fun t24 w =>
 C0 135 #[t0,t24,(.int .i64 2)] R w fun t25 w =>
 drawK w fun C2 w =>
 n60c6 t0 t3 C2 R w
def n60c8 (t0 t3:Value) (C1:World→Prop) (R:RT) (w:World):Prop :=
 qV Pg C1 (Instr.fieldAt 123 t3 0) fun t17 =>
 qV Pg C1 (Instr.loadAt 9 t17) fun t18 =>
 C0 195 #[t0] R w fun t15 w =>
 C1 w∧(
 qV Pg C1 (Instr.build 74 #[(1,t15)]) fun t16 =>
 C0 140 #[t16,t18] R w fun t19 w =>
 C1 w∧(
 n60c7 t0 t3 t19 C1 R w))
def n60 (t0 t1:Value) (R:RT) (w:World):Prop :=
 opV Pg (Instr.box 123 t1) (panK R) w fun t3 w =>
 F0 123 t3 0 R w fun t9 w =>
 L0 9 t9 R w fun t10 w =>
 C0 35 #[t10] R w fun t11 w =>
 C0 135 #[t0,t11,(.int .i64 1)] R w fun t12 w =>
 drawK w fun C1 w =>
 n60c8 t0 t3 C1 R w
theorem n60s {t0 t1:Value} {R:RT} {w:World} (h:n60 t0 t1 R w):Calls Pg 161 #[t0,t1] w R:=by
 refine yD Tryz.func161 ?_
 refine zs<|zr<|yv h fun _ w h=>zn<|zk<|zs<|zr<|zm<|yv h fun _ w h=>yv h fun _ w h=>yc h c35 fun _ w h=>yc h c135 fun _ w h=>zn<|zk<|zs ?_
 refine yh [4,5,13,14,15,16,17,18,19,20,21] h fun C hC h=>yw 0 hC ?_
 refine ye 3 hC h fun _ h=>?_
 refine ye 4 hC h fun _ h=>?_
 refine yo 1 ?_
 refine yc h c195 fun _ w h=>zn ?_
 obtain ⟨hC,h⟩:=h
 refine ⟨hC,?_⟩
 refine ye 2 hC h fun _ h=>?_
 refine yo 5 ?_
 refine yc h c140 fun _ w h=>zn ?_
 obtain ⟨hC,h⟩:=h
 refine ⟨hC,?_⟩
 refine yw 6 hC ?_
 refine ye 7 hC h fun _ h=>?_
 refine ye 8 hC h fun _ h=>?_
 refine yw 9 hC ?_
 refine yw 10 hC ?_
 refine yz<|zk<|zs<|zr<|zm<|zm<|yv h fun _ w h=>yc h c135 fun _ w h=>zn<|zk<|zs<|yh [5,6,26,27,28,29,30,31,32] h fun C hC h=>ye 1 hC h fun _ h=>?_
 refine ye 2 hC h fun _ h=>?_
 refine joinK_elim h (fun K3 hK h=>?_)
 refine sim_dmeet [5,6,26,27,30,31,32] (fun ρ w=>K3 (ρ 5) (ρ 6) w) (fun T hT=>?_) (fun σ w h=>?_)
 · obtain ⟨h0,h1⟩:=h
   refine sim_dloud2 0 7 rfl rfl Qq (fun _ _=>rfl) (fun _ _=>rfl) ?_ ?_
   · have h:=h0
     refine yc h c196 fun _ w h=>zn ?_
     obtain ⟨C4,hs,hC,h⟩:=h
     refine ⟨C4,hs,hC,?_⟩
     refine ye 3 hC h fun _ h=>?_
     refine yw 4 hC ?_
     refine ye 5 hC h fun _ h=>?_
     refine ye 6 hC h fun _ h=>?_
     refine yo 7 ?_
     refine yv h fun _ w h=>zn ?_
     obtain ⟨hC,h⟩:=h
     refine ⟨hC,?_⟩
     refine yo 8 ?_
     refine yu h fun w h=>zn ?_
     obtain ⟨hC,h⟩:=h
     refine ⟨hC,?_⟩
     refine yw 9 hC ?_
     refine yz ?_
     exact zt hT h
   have h:=h1
   refine yv h fun _ w h=>zn ?_
   obtain ⟨hC,h⟩:=h
   refine ⟨_,fun _ h=>h,hC,?_⟩
   refine yr 0 ?_
   refine yc h c196 fun _ w h=>zn ?_
   obtain ⟨C5,hs,hC,h⟩:=h
   refine ⟨C5,hs,hC,?_⟩
   refine ye 3 hC h fun _ h=>?_
   refine yw 4 hC ?_
   refine ye 5 hC h fun _ h=>?_
   refine ye 6 hC h fun _ h=>?_
   refine yo 8 ?_
   refine yu h fun w h=>zn ?_
   obtain ⟨hC,h⟩:=h
   refine ⟨hC,?_⟩
   refine yw 9 hC ?_
   refine yz ?_
   exact zt hT h
 subst hK
 refine zk<|zs<|zr<|zm<|zm<|yc h c135 fun _ w h=>zn<|zk<|zs<|zr<|yv h fun _ w h=>yv h fun _ w h=>yu h fun w h=>zn<|zk ?_
 refine zs<|zr<|yv h fun _ w h=>yv h fun _ w h=>yV h fun _ w h=>zn<|zk<|zs<|zr<|zm<|yv h fun _ w h=>yv h fun _ w h=>yv h fun _ w h=>yv h fun _ w h=>yv h fun _ w h=>?_
 exact yB h fun _ w h=>yc h c197 fun _ w h=>yc h c135 fun _ w h=>zn<|zk<|zr<|yv h fun _ w h=>yv h fun _ w h=>zm<|yv h fun _ w h=>yV h fun _ w h=>zn<|body_normal<|body_ret0 rfl h
def n53c1 (t3 t29 t31:Value) (next4:KV) (R:RT) (w:World):Prop :=
 X0 121 t29 t31 R w fun t33 w =>
 L0 213 t33 R w fun t34 w =>
 opV Pg (Instr.alloc 213 true (.tuple #[])) (panK R) w fun t7 w =>
 opU Pg (Instr.storeAt 213 t7 t34) (panK R) w fun w =>
 L0 94 t3 R w fun t35 w =>
 F0 213 t7 2 R w fun t36 w =>
 L0 9 t36 R w fun t37 w =>
 opV Pg (Instr.buildSlice 94 1 #[(0,t37)]) (panK R) w fun t38 w =>
 opV Pg (Builtin.append_ #[94,94] 94 #[t35,t38]) (panK R) w fun t39 w =>
 opU Pg (Instr.storeAt 94 t3 t39) (panK R) w fun w =>
 B0 .add 3 true t31 (.int .i64 1) R w fun t40 w =>
 next4 t40 w
def n53c2 (t3 t5:Value) (K3:World→Prop) (R:RT) (w:World):Prop :=
 F0 123 t5 11 R w fun t28 w =>
 L0 121 t28 R w fun t29 w =>
 opV Pg (Builtin.len_ #[121] 3 #[t29]) (panK R) w fun t30 w =>
 loop1 (fun t31 w next4 =>
 B0 .lss 3 false t31 t30 R w fun t32 w =>
 condP t32 (
 n53c1 t3 t29 t31 next4 R w) (
 K3 w)) (.int .i64 0) w
def n53c3 (t3 t5:Value) (K3:World→Prop) (R:RT) (w:World):Prop :=
 L0 94 t3 R w fun t21 w =>
 F0 123 t5 8 R w fun t22 w =>
 L0 9 t22 R w fun t23 w =>
 opV Pg (Instr.buildSlice 94 1 #[(0,t23)]) (panK R) w fun t24 w =>
 opV Pg (Builtin.append_ #[94,94] 94 #[t21,t24]) (panK R) w fun t25 w =>
 opU Pg (Instr.storeAt 94 t3 t25) (panK R) w fun w =>
 K3 w
def n53c4 (t3 t5 t11 t16 t17:Value) (next1:KV) (R:RT) (w:World):Prop :=
 joinK (fun (w:World) =>
 B0 .add 3 true t11 (.int .i64 1) R w fun t41 w =>
 next1 t41 w) fun K3 =>
 condP t17 (
 n53c3 t3 t5 K3 R w) (
 B0 .eql 117 true t16 (.int .i64 9) R w fun t27 w =>
 condP t27 (
 n53c2 t3 t5 K3 R w) (
 K3 w))
def n53c5 (t16:Value) (K2:KV) (R:RT) (w:World):Prop :=
 B0 .eql 117 true t16 (.int .i64 8) R w fun t19 w =>
 condP t19 (
 K2 t19 w) (
 B0 .eql 117 true t16 (.int .i64 12) R w fun t20 w =>
 K2 t20 w)
def n53c6 (t3 t9 t11:Value) (next1:KV) (R:RT) (w:World):Prop :=
 X0 72 t9 t11 R w fun t13 w =>
 L0 123 t13 R w fun t14 w =>
 opV Pg (Instr.alloc 123 true (.tuple #[])) (panK R) w fun t5 w =>
 opU Pg (Instr.storeAt 123 t5 t14) (panK R) w fun w =>
 F0 123 t5 1 R w fun t15 w =>
 L0 117 t15 R w fun t16 w =>
 B0 .eql 117 true t16 (.int .i64 7) R w fun t18 w =>
 joinK (fun (t17:Value) (w:World) =>
 n53c4 t3 t5 t11 t16 t17 next1 R w) fun K2 =>
 condP t18 (
 K2 t18 w) (
 n53c5 t16 K2 R w)
def n53c7 (t3 t9 t10 t11:Value) (next1:KV) (R:RT) (w:World):Prop :=
 B0 .lss 3 false t11 t10 R w fun t12 w =>
 condP t12 (
 n53c6 t3 t9 t11 next1 R w) (
 opV Pg (Instr.makeFunc (.func 198) #[] #[t3]) (panK R) w fun t42 w =>
 R (.returned t42) w)
def n53 (t0:Value) (R:RT) (w:World):Prop :=
 opV Pg (Instr.box 74 t0) (panK R) w fun t1 w =>
 opV Pg (Instr.alloc 94 true (.tuple #[])) (panK R) w fun t3 w =>
 F0 74 t1 1 R w fun t8 w =>
 L0 72 t8 R w fun t9 w =>
 opV Pg (Builtin.len_ #[72] 3 #[t9]) (panK R) w fun t10 w =>
 loop1 (fun t11 w next1 =>
 n53c7 t3 t9 t10 t11 next1 R w) (.int .i64 0) w
theorem n53s {t0:Value} {R:RT} {w:World} (h:n53 t0 R w):Calls Pg 162 #[t0] w R:=by
 refine yD Tryz.func162 ?_
 refine zs<|zr<|yv h fun _ w h=>zm<|zn<|zk<|zs<|zr<|yv h fun _ w h=>zn<|zk<|zs<|zs<|zr<|yv h fun _ w h=>?_
 refine yv h fun _ w h=>yx h fun _ w h=>zm<|zn<|zk<|sim_block<|yl1 [5,7,11,12,13,14,15,16,17,18,19,20,21,22,23,24,25,26,27,28,29,30,31,32,33,34,35,36,37,38,39,40,41] 11 h fun σ w next h=>zs<|zr<|yb h fun _ w h=>zn<|zk<|zs<|yC h (fun h=>?_) fun h=>?_
 · refine sim_skip<|zk<|zs<|sim_block<|zs<|zr<|yv h fun _ w h=>yv h fun _ w h=>yv h fun _ w h=>yu h fun w h=>zn<|zk<|zs<|zr<|yv h fun _ w h=>?_
   refine yv h fun _ w h=>zn<|zk<|sim_block<|zs<|zs<|zr<|yb h fun _ w h=>zm<|zn<|zk<|yJ1 [17,19,20] 17 h (fun _ _ hkK2 h=>?_) fun σ w h=>?_
   · refine yC h (fun h=>?_) fun h=>?_
     · refine sim_skip<|zk ?_
       exact zt hkK2 h
     refine zs<|zr<|yb h fun _ w h=>zm<|zn<|zk<|yC h (fun h=>?_) fun h=>?_
     · refine sim_skip<|zk ?_
       exact zt hkK2 h
     refine zr<|yb h fun _ w h=>zm<|zn<|zk ?_
     exact zt hkK2 h
   refine zk<|yJ0 [7,21,22,23,24,25,26,27,28,29,30,31,32,33,34,35,36,37,38,39,40] h (fun _ _ hkK3 h=>?_) fun σ w h=>?_
   · refine yC h (fun h=>?_) fun h=>?_
     · refine zr<|yv h fun _ w h=>yv h fun _ w h=>yv h fun _ w h=>yS h fun _ w h=>yx h fun _ w h=>yu h fun w h=>zn<|zk ?_
       exact zt hkK3 h
     refine zs<|zr<|yb h fun _ w h=>zm<|zn<|zk<|yC h (fun h=>?_) fun h=>?_
     · refine zs<|zr<|yv h fun _ w h=>yv h fun _ w h=>yx h fun _ w h=>zm<|zn<|zk<|sim_block<|yl1 [7,31,32,33,34,35,36,37,38,39,40] 31 h fun σ w next h=>zs<|zr<|yb h fun _ w h=>zn<|zk ?_
       refine zs<|yC h (fun h=>?_) fun h=>?_
       · refine sim_skip<|zk<|zs<|sim_block<|zs<|zr<|yv h fun _ w h=>yv h fun _ w h=>yv h fun _ w h=>yu h fun w h=>zn<|zk<|zr<|yv h fun _ w h=>yv h fun _ w h=>?_
         exact yv h fun _ w h=>yS h fun _ w h=>yx h fun _ w h=>yu h fun w h=>zn<|sim_block_normal<|zk<|zr<|yb h fun _ w h=>zm<|zn<|zk<|⟨rfl,h⟩
       refine sim_exit<|sim_then_exit<|sim_then_exit<|sim_block_hit<|zk ?_
       exact zt hkK3 h
     refine sim_skip<|zk ?_
     exact zt hkK3 h
   exact sim_block_normal<|sim_block_normal<|zk<|zr<|yb h fun _ w h=>zm<|zn<|zk<|⟨rfl,h⟩
 exact sim_exit<|sim_then_exit<|sim_then_exit<|sim_block_hit<|zk<|zs<|zr<|yF h fun _ w h=>zm<|zn<|zk<|sim_ret<|body_ret1 rfl rfl h
def n128c1 (t0 t1 t8:Value) (next1:KV) (R:RT) (w:World):Prop :=
 X0 25 t0 t8 R w fun t14 w =>
 L0 74 t14 R w fun t15 w =>
 callV Pg t1 #[t15] (panK R) w fun t16 w =>
 condP t16 (
 R (.returned t8) w) (
 B0 .add 3 true t8 (.int .i64 1) R w fun t18 w =>
 next1 t18 w)
def n128 (t0 t1:Value) (R:RT) (w:World):Prop :=
 opV Pg (Builtin.len_ #[25] 3 #[t0]) (panK R) w fun t7 w =>
 loop1 (fun t8 w next1 =>
 B0 .lss 3 false t8 t7 R w fun t9 w =>
 condP t9 (
 n128c1 t0 t1 t8 next1 R w) (
 R (.returned (.int .i64 (-1))) w)) (.int .i64 0) w
theorem n128s {t0 t1:Value} {R:RT} {w:World} (h:n128 t0 t1 R w):Calls Pg 163 #[t0,t1] w R:=by
 refine yD Tryz.func163 ?_
 refine zs<|zr<|zm<|zn<|zk<|zs<|zs<|zr<|zm<|yx h fun _ w h=>zm<|zn<|zk<|sim_block<|yl1 [4,5,8,9,10,11,12,13,14,15,16,17,18] 8 h fun σ w next h=>?_
 refine zs<|zr<|yb h fun _ w h=>zn<|zk<|zs<|yC h (fun h=>?_) fun h=>?_
 · refine sim_skip<|zk<|zs<|sim_block<|zs<|zr<|zm<|zm<|zn<|zk<|zs<|zr<|zm<|zm<|zm ?_
   refine yv h fun _ w h=>yv h fun _ w h=>yV h fun _ w h=>zn<|zk<|yC h (fun h=>zs<|zr<|zm<|zm<|zn<|zk<|sim_ret<|sim_block_ret<|sim_then_ret<|sim_then_ret<|sim_block_ret<|sim_then_ret<|body_ret1 rfl rfl h) fun h=>sim_skip<|sim_block_normal<|zk<|zr<|yb h fun _ w h=>zm<|zn<|zk ?_
   exact ⟨rfl,h⟩
 exact sim_exit<|sim_then_exit<|sim_then_exit<|sim_block_hit<|zk<|zs<|zr<|zm<|zn<|zk<|sim_ret<|body_ret1 rfl rfl h
def n68c1 (t9:Value) (R:RT) (w:World):Prop :=
 opV Pg (Builtin.max_ #[3,3] 3 #[t9,(.int .i64 0)]) (panK R) w fun t11 w =>
 B0 .geq 3 true t9 (.int .i64 0) R w fun t13 w =>
 R (.returned (.tuple #[t11,t13])) w
def n68 (t0 t1:Value) (R:RT) (w:World):Prop :=
 C0 199 #[t0,t1] R w fun t9 w =>
 n68c1 t9 R w
theorem n68s {t0 t1:Value} {R:RT} {w:World} (h:n68 t0 t1 R w):Calls Pg 164 #[t0,t1] w R:=by
 refine yD Tryz.func164 ?_
 refine zs<|zr<|zm<|zm<|zn<|zk<|zs<|zr<|zm<|zm<|yc h c199 fun _ w h=>zm<|zn<|zk<|zs ?_
 exact zr<|zm<|yx h fun _ w h=>zm<|yb h fun _ w h=>zm<|zm<|zn<|zk<|sim_ret<|body_ret2 rfl rfl rfl h
def n48 (t0 t1:Value) (R:RT) (w:World):Prop :=
 opV Pg (Instr.box 123 t0) (panK R) w fun t2 w =>
 F0 123 t2 0 R w fun t4 w =>
 L0 9 t4 R w fun t5 w =>
 L0 9 t1 R w fun t6 w =>
 B0 .eql 9 false t5 t6 R w fun t7 w =>
 R (.returned t7) w
theorem n48s {t0 t1:Value} {R:RT} {w:World} (h:n48 t0 t1 R w):Calls Pg 165 #[t0,t1] w R:=by
 refine yD Tryz.func165 ?_
 refine zs<|zr<|yv h fun _ w h=>zm<|zn<|zk<|zs<|zr<|yv h fun _ w h=>yv h fun _ w h=>yv h fun _ w h=>yb h fun _ w h=>zm<|zn<|zk ?_
 exact sim_ret<|body_ret1 rfl rfl h
def n116 (t0:Value) (R:RT) (w:World):Prop :=
 C0 200 #[(Value.slice none 0 0),t0] R w fun t4 w =>
 R (.returned t4) w
theorem n116s {t0:Value} {R:RT} {w:World} (h:n116 t0 R w):Calls Pg 166 #[t0] w R:=by
 refine yD Tryz.func166 ?_
 exact zs<|zr<|zm<|zn<|zk<|zs<|zr<|zm<|yc h c200 fun _ w h=>zm<|zn<|zk<|sim_ret<|body_ret1 rfl rfl h
def n135c1 (t0 t1 t8:Value) (next1:KV) (R:RT) (w:World):Prop :=
 X0 94 t0 t8 R w fun t14 w =>
 L0 9 t14 R w fun t15 w =>
 B0 .eql 9 false t1 t15 R w fun t16 w =>
 condP t16 (
 R (.returned t8) w) (
 B0 .add 3 true t8 (.int .i64 1) R w fun t18 w =>
 next1 t18 w)
def n135 (t0 t1:Value) (R:RT) (w:World):Prop :=
 opV Pg (Builtin.len_ #[94] 3 #[t0]) (panK R) w fun t7 w =>
 loop1 (fun t8 w next1 =>
 B0 .lss 3 false t8 t7 R w fun t9 w =>
 condP t9 (
 n135c1 t0 t1 t8 next1 R w) (
 R (.returned (.int .i64 (-1))) w)) (.int .i64 0) w
theorem n135s {t0 t1:Value} {R:RT} {w:World} (h:n135 t0 t1 R w):Calls Pg 167 #[t0,t1] w R:=by
 refine yD Tryz.func167 ?_
 refine zs<|zr<|zm<|zn<|zk<|zs<|zs<|zr<|zm<|yx h fun _ w h=>zm<|zn<|zk<|sim_block<|yl1 [4,5,8,9,10,11,12,13,14,15,16,17,18] 8 h fun σ w next h=>?_
 refine zs<|zr<|yb h fun _ w h=>zn<|zk<|zs<|yC h (fun h=>?_) fun h=>?_
 · refine sim_skip<|zk<|zs<|sim_block<|zs<|zr<|zm<|zm<|zn<|zk<|zs<|zr<|zm<|zm<|zm ?_
   refine yv h fun _ w h=>yv h fun _ w h=>yb h fun _ w h=>zn<|zk<|yC h (fun h=>zs<|zr<|zm<|zm<|zn<|zk<|sim_ret<|sim_block_ret<|sim_then_ret<|sim_then_ret<|sim_block_ret<|sim_then_ret<|body_ret1 rfl rfl h) fun h=>sim_skip<|sim_block_normal<|zk<|zr<|yb h fun _ w h=>zm<|zn<|zk ?_
   exact ⟨rfl,h⟩
 exact sim_exit<|sim_then_exit<|sim_then_exit<|sim_block_hit<|zk<|zs<|zr<|zm<|zn<|zk<|sim_ret<|body_ret1 rfl rfl h
end Go.Proofs.YtgalpdihjbinjaaGreatDoor
namespace Go.Sw
open Go.RowKit (Below)
structure LW3 (B:Nat) (w w':World):Prop where
 os:w'.os=w.os
 tape:w'.tape=w.tape
 output:w'.output=w.output
 size:w.heap.size≤w'.heap.size
 block:∀ b,b < B→b < w.heap.size→w'.heap[b]?=w.heap[b]?
end Go.Sw
